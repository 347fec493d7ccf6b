import PyProof.Rows.All
import Wide.All
import OpenK.AllK
import Wide.FinOn
import HandS.ForMost
import HandS.Exc
import HandS.CallSlots
import HandS.Gcd
import HandS.TupMul
import HandS.TupAny
import HandS.IsInst
import HandS.Wide
import HandS.Zip
import HandS.Walk
import HandS.Flow
import HandS.Codes
import HandS.Style
import HandS.ExcOwn
import KE.DataAny
import HandS.WideBits
import KE.GoesEnum
import KE.GoesZip
import KE.GoesMore
import HandS.TryOnly
import HandS.Ends
import HandS.More
import HandS.Words
import HandS.WordsExc
import HandS.Defaults
import HandS.Dict
import HandS.WideMore
import Lean
import KE.KStateDown
import HandS.Head0
import HandS.Head1
import HandS.Head2
import HandS.Head3
import HandS.HeadEnd
import HandS.HeadHook1
import HandS.HeadHook2
import PySem.Challenge.RW_nestedroots_k28_whole_towers_of_twos
set_option Elab.async false
set_option linter.all false
set_option maxRecDepth 1000000
set_option maxHeartbeats 0
namespace K28
open PySem L2
def top (i : Nat) : Stmt := PySem.Challenge.pw_nestedroots_k28_whole_towers_of_twos.main.body.getD i (.Pass ⟨0, 0, 0, 0⟩)
abbrev s_is_whole : Stmt := top 7
abbrev s_is_count : Stmt := top 8
abbrev s_is_element_in : Stmt := top 11
abbrev s_common : Stmt := top 12
abbrev s_is_tower_form : Stmt := top 13
abbrev s_need_tower : Stmt := top 14
abbrev s_need_element : Stmt := top 15
abbrev s_lowest_in : Stmt := top 16
abbrev s_whole_in : Stmt := top 17
abbrev s_is_nought_in : Stmt := top 18
abbrev s_plus_in : Stmt := top 19
abbrev s_other_in : Stmt := top 20
abbrev s_minus_in : Stmt := top 21
abbrev s_halves_in : Stmt := top 22
abbrev s_joined_in : Stmt := top 23
abbrev s_times_in : Stmt := top 24
abbrev s_turned_in : Stmt := top 25
abbrev s_norm_in : Stmt := top 26
abbrev s_inverse_in : Stmt := top 27
abbrev s_over_in : Stmt := top 28
abbrev s_lifted_in : Stmt := top 29
abbrev s_need_two : Stmt := top 30
abbrev s_sign_in : Stmt := top 32
abbrev s_sign : Stmt := top 33
abbrev s_order : Stmt := top 34
abbrev s_root_below : Stmt := top 35
abbrev s_lowest : Stmt := top 36
abbrev s_products : Stmt := top 37
abbrev s_span_in : Stmt := top 38
abbrev s_is_bound : Stmt := top 39
abbrev s_are_bounds_in : Stmt := top 40
abbrev s_are_bounds : Stmt := top 41
abbrev s_bounds_in : Stmt := top 42
abbrev s_bounds : Stmt := top 43
abbrev s_whole_root : Stmt := top 45
abbrev s_some_root : Stmt := top 46
abbrev s_root_in : Stmt := top 47
abbrev s_square_root : Stmt := top 48
abbrev s_bar_in : Stmt := top 49
abbrev s_tower_bar : Stmt := top 50
abbrev s_is_tower : Stmt := top 51
abbrev s_is_odd_prime : Stmt := top 54
abbrev s_need_prime : Stmt := top 55
abbrev s_inverse : Stmt := top 56
abbrev s_in_ring : Stmt := top 57
abbrev s_ring_of : Stmt := top 58
abbrev s_ring_times : Stmt := top 59
abbrev s_ring_power : Stmt := top 60
abbrev s_ring_norm : Stmt := top 61
abbrev s_fits_in : Stmt := top 62
abbrev s_fits : Stmt := top 63
abbrev s_led : Stmt := top 64
abbrev s_rests_in : Stmt := top 65
abbrev s_all_rests : Stmt := top 66
abbrev s_moves_in : Stmt := top 67
abbrev s_nested_in : Stmt := top 68
abbrev s_is_nested_in : Stmt := top 69
abbrev s_nested_paper : Stmt := top 70
abbrev s_is_nested_paper : Stmt := top 71
abbrev s_power_in_ring : Stmt := top 72
abbrev s__law_pen : Stmt := top 74
abbrev s__law_draw : Stmt := top 75
abbrev s__law_pick : Stmt := top 76
abbrev s__law_gcd : Stmt := top 77
abbrev s__law_lowest : Stmt := top 78
abbrev s__law_size : Stmt := top 79
abbrev s__law_sum : Stmt := top 80
abbrev s__law_product : Stmt := top 81
abbrev s__law_root_below : Stmt := top 82
abbrev s__law_near : Stmt := top 83
abbrev s__law_worth : Stmt := top 84
abbrev s__law_twos : Stmt := top 85
abbrev s_law : Stmt := top 86
def N_is_whole : List Str := ["value"]
def ps_is_whole : List Str := ["value"]
def N_is_count : List Str := ["value"]
def ps_is_count : List Str := ["value"]
def N_is_element_in : List Str := ["n", "value", "item"]
def ps_is_element_in : List Str := ["n", "value"]
def N_common : List Str := ["numbers", "found", "number"]
def ps_common : List Str := ["numbers"]
def N_is_tower_form : List Str := ["value", "k", "element"]
def ps_is_tower_form : List Str := ["value"]
def N_need_tower : List Str := ["tower"]
def ps_need_tower : List Str := ["tower"]
def N_need_element : List Str := ["tower", "element"]
def ps_need_element : List Str := ["tower", "element"]
def N_lowest_in : List Str := ["numbers", "divisor", "number"]
def ps_lowest_in : List Str := ["numbers"]
def N_whole_in : List Str := ["n", "top", "bottom"]
def ps_whole_in : List Str := ["n", "top", "bottom"]
def N_is_nought_in : List Str := ["element"]
def ps_is_nought_in : List Str := ["element"]
def N_plus_in : List Str := ["one", "two", "found", "a", "b"]
def ps_plus_in : List Str := ["one", "two"]
def N_other_in : List Str := ["element", "item"]
def ps_other_in : List Str := ["element"]
def N_minus_in : List Str := ["one", "two"]
def ps_minus_in : List Str := ["one", "two"]
def N_halves_in : List Str := ["element", "half"]
def ps_halves_in : List Str := ["element"]
def N_joined_in : List Str := ["a", "b", "top", "low", "item"]
def ps_joined_in : List Str := ["a", "b"]
def N_times_in : List Str := ["tower", "one", "two", "n", "a", "b", "c", "d", "plain"]
def ps_times_in : List Str := ["tower", "one", "two"]
def N_turned_in : List Str := ["element", "half", "item"]
def ps_turned_in : List Str := ["element"]
def N_norm_in : List Str := ["tower", "element"]
def ps_norm_in : List Str := ["tower", "element"]
def N_inverse_in : List Str := ["tower", "element", "a", "b", "norm"]
def ps_inverse_in : List Str := ["tower", "element"]
def N_over_in : List Str := ["tower", "one", "two"]
def ps_over_in : List Str := ["tower", "one", "two"]
def N_lifted_in : List Str := ["n", "element"]
def ps_lifted_in : List Str := ["n", "element"]
def N_need_two : List Str := ["tower", "one", "two"]
def ps_need_two : List Str := ["tower", "one", "two"]
def N_sign_in : List Str := ["tower", "element", "n", "a", "b", "one", "two", "told"]
def ps_sign_in : List Str := ["tower", "element"]
def N_sign : List Str := ["tower", "element"]
def ps_sign : List Str := ["tower", "element"]
def N_order : List Str := ["tower", "one", "two"]
def ps_order : List Str := ["tower", "one", "two"]
def N_root_below : List Str := ["number", "found", "less"]
def ps_root_below : List Str := ["number"]
def N_lowest : List Str := ["top", "bottom", "divisor"]
def ps_lowest : List Str := ["top", "bottom"]
def N_products : List Str := ["bounds", "found", "a", "b", "c", "d", "low", "high"]
def ps_products : List Str := ["bounds"]
def N_span_in : List Str := ["bounds", "element", "low", "high", "number", "pair", "one", "two"]
def ps_span_in : List Str := ["bounds", "element"]
def N_is_bound : List Str := ["value", "item", "a", "b", "c", "d"]
def ps_is_bound : List Str := ["value"]
def N_are_bounds_in : List Str := ["tower", "value", "item", "k", "a", "b", "c", "d", "low", "high"]
def ps_are_bounds_in : List Str := ["tower", "value"]
def N_are_bounds : List Str := ["tower", "value"]
def ps_are_bounds : List Str := ["tower", "value"]
def N_bounds_in : List Str := ["tower", "steps", "found", "size", "element", "low", "high", "a", "c"]
def ps_bounds_in : List Str := ["tower", "steps"]
def N_bounds : List Str := ["tower", "steps"]
def ps_bounds : List Str := ["tower", "steps"]
def N_whole_root : List Str := ["number", "found"]
def ps_whole_root : List Str := ["number"]
def N_some_root : List Str := ["tower", "element", "bottom", "top", "n", "a", "b", "last", "found", "norm", "root", "two", "told"]
def ps_some_root : List Str := ["tower", "element"]
def N_root_in : List Str := ["tower", "element", "found"]
def ps_root_in : List Str := ["tower", "element"]
def N_square_root : List Str := ["tower", "element"]
def ps_square_root : List Str := ["tower", "element"]
def N_bar_in : List Str := ["tower", "k", "element"]
def ps_bar_in : List Str := ["tower"]
def N_tower_bar : List Str := ["tower"]
def ps_tower_bar : List Str := ["tower"]
def N_is_tower : List Str := ["tower"]
def ps_is_tower : List Str := ["tower"]
def N_is_odd_prime : List Str := ["value", "k"]
def ps_is_odd_prime : List Str := ["value"]
def N_need_prime : List Str := ["prime"]
def ps_need_prime : List Str := ["prime"]
def N_inverse : List Str := ["number", "p", "one", "two", "first", "second", "times"]
def ps_inverse : List Str := ["number", "p"]
def N_in_ring : List Str := ["p", "element", "low", "item"]
def ps_in_ring : List Str := ["p", "element"]
def N_ring_of : List Str := ["tower", "p", "element"]
def ps_ring_of : List Str := ["tower", "p"]
def N_ring_times : List Str := ["ring", "p", "one", "two", "half", "a", "b", "c", "d", "last", "plain", "more", "left", "right", "found", "x", "y"]
def ps_ring_times : List Str := ["ring", "p", "one", "two"]
def N_ring_power : List Str := ["ring", "p", "number", "times", "found"]
def ps_ring_power : List Str := ["ring", "p", "number", "times"]
def N_ring_norm : List Str := ["ring", "p", "number", "half", "turned", "item"]
def ps_ring_norm : List Str := ["ring", "p", "number"]
def N_fits_in : List Str := ["tower", "p", "ring", "number"]
def ps_fits_in : List Str := ["tower", "p"]
def N_fits : List Str := ["tower", "prime"]
def ps_fits : List Str := ["tower", "prime"]
def N_led : List Str := ["p", "rests", "number", "values", "rest", "value", "one", "two"]
def ps_led : List Str := ["p", "rests", "number"]
def N_rests_in : List Str := ["tower", "p", "ring", "found", "number", "fresh", "rests", "told", "rest"]
def ps_rests_in : List Str := ["tower", "p"]
def N_all_rests : List Str := ["tower", "prime"]
def ps_all_rests : List Str := ["tower", "prime"]
def N_moves_in : List Str := ["tower", "p", "element", "times", "ring", "number", "power", "lap"]
def ps_moves_in : List Str := ["tower", "p", "element", "times"]
def N_nested_in : List Str := ["tower", "element", "p"]
def ps_nested_in : List Str := ["tower", "element"]
def N_is_nested_in : List Str := ["tower", "element", "value"]
def ps_is_nested_in : List Str := ["tower", "element", "value"]
def N_nested_paper : List Str := ["tower", "element"]
def ps_nested_paper : List Str := ["tower", "element"]
def N_is_nested_paper : List Str := ["tower", "element", "value"]
def ps_is_nested_paper : List Str := ["tower", "element", "value"]
def N_power_in_ring : List Str := ["tower", "prime", "element", "times", "ring"]
def ps_power_in_ring : List Str := ["tower", "prime", "element", "times"]
def N__law_pick : List Str := ["pen", "some"]
def ps__law_pick : List Str := ["pen", "some"]
def N__law_gcd : List Str := ["numbers", "found", "number", "a", "b", "lap"]
def ps__law_gcd : List Str := ["numbers"]
def N__law_lowest : List Str := ["numbers", "g", "number"]
def ps__law_lowest : List Str := ["numbers"]
def N__law_size : List Str := ["n", "found", "lap"]
def ps__law_size : List Str := ["n"]
def N__law_sum : List Str := ["one", "two", "way", "a", "b"]
def ps__law_sum : List Str := ["one", "two", "way"]
def N__law_product : List Str := ["tower", "one", "two", "half", "k", "lap", "a", "b", "c", "d", "told", "part", "last", "plain", "more", "x"]
def ps__law_product : List Str := ["tower", "one", "two"]
def N__law_root_below : List Str := ["number", "found", "lap", "less"]
def ps__law_root_below : List Str := ["number"]
def N__law_near : List Str := ["tower", "unit", "found", "element"]
def ps__law_near : List Str := ["tower", "unit"]
def N__law_worth : List Str := ["roots", "element", "unit", "worths", "root", "worth", "number"]
def ps__law_worth : List Str := ["roots", "element", "unit"]
def N__law_twos : List Str := ["n", "a", "way", "tower", "k", "half"]
def ps__law_twos : List Str := ["n", "a", "way"]
def N_law : List Str := ["script", "pen", "lap", "n", "a", "way", "tower", "unit", "near", "told", "k", "low", "high", "root", "one", "m", "two", "paper", "first", "p", "rests"]
def ps_law : List Str := ["script"]
end K28
namespace K28
open PySem PySem.Spec PyProof.Rows L2
def d_is_whole : He.DefD := ⟨("is_whole", none), "is_whole", "is_whole", defArgs s_is_whole, defBody s_is_whole, defScope s_is_whole, [], []⟩
theorem sc_is_whole : FnScope N_is_whole ps_is_whole (defScope s_is_whole) := ⟨rfl, rfl, rfl, by decide +kernel, rfl, by decide +kernel, by decide +kernel⟩
theorem bd_is_whole {K : PySem.W.Frag} {f : Addr} {fd : FuncData} (F : FunD K "is_whole" "is_whole" (defArgs s_is_whole) (defBody s_is_whole) (defScope s_is_whole) [] [] f fd) : Binds K fd ps_is_whole [] := F.bindsN fun _ _ _ _ _ _ us hl => match us, hl with | [_], _ => rfl
def d_is_count : He.DefD := ⟨("is_count", none), "is_count", "is_count", defArgs s_is_count, defBody s_is_count, defScope s_is_count, [], []⟩
theorem sc_is_count : FnScope N_is_count ps_is_count (defScope s_is_count) := ⟨rfl, rfl, rfl, by decide +kernel, rfl, by decide +kernel, by decide +kernel⟩
theorem bd_is_count {K : PySem.W.Frag} {f : Addr} {fd : FuncData} (F : FunD K "is_count" "is_count" (defArgs s_is_count) (defBody s_is_count) (defScope s_is_count) [] [] f fd) : Binds K fd ps_is_count [] := F.bindsN fun _ _ _ _ _ _ us hl => match us, hl with | [_], _ => rfl
def d_is_element_in : He.DefD := ⟨("is_element_in", none), "is_element_in", "is_element_in", defArgs s_is_element_in, defBody s_is_element_in, defScope s_is_element_in, [], []⟩
theorem sc_is_element_in : FnScope N_is_element_in ps_is_element_in (defScope s_is_element_in) := ⟨rfl, rfl, rfl, by decide +kernel, rfl, by decide +kernel, by decide +kernel⟩
theorem bd_is_element_in {K : PySem.W.Frag} {f : Addr} {fd : FuncData} (F : FunD K "is_element_in" "is_element_in" (defArgs s_is_element_in) (defBody s_is_element_in) (defScope s_is_element_in) [] [] f fd) : Binds K fd ps_is_element_in [] := F.bindsN fun _ _ _ _ _ _ us hl => match us, hl with | [_, _], _ => rfl
def d_common : He.DefD := ⟨("common", none), "common", "common", defArgs s_common, defBody s_common, defScope s_common, [], []⟩
theorem sc_common : FnScope N_common ps_common (defScope s_common) := ⟨rfl, rfl, rfl, by decide +kernel, rfl, by decide +kernel, by decide +kernel⟩
theorem bd_common {K : PySem.W.Frag} {f : Addr} {fd : FuncData} (F : FunD K "common" "common" (defArgs s_common) (defBody s_common) (defScope s_common) [] [] f fd) : Binds K fd ps_common [] := F.bindsN fun _ _ _ _ _ _ us hl => match us, hl with | [_], _ => rfl
def d_is_tower_form : He.DefD := ⟨("is_tower_form", none), "is_tower_form", "is_tower_form", defArgs s_is_tower_form, defBody s_is_tower_form, defScope s_is_tower_form, [], []⟩
theorem sc_is_tower_form : FnScope N_is_tower_form ps_is_tower_form (defScope s_is_tower_form) := ⟨rfl, rfl, rfl, by decide +kernel, rfl, by decide +kernel, by decide +kernel⟩
theorem bd_is_tower_form {K : PySem.W.Frag} {f : Addr} {fd : FuncData} (F : FunD K "is_tower_form" "is_tower_form" (defArgs s_is_tower_form) (defBody s_is_tower_form) (defScope s_is_tower_form) [] [] f fd) : Binds K fd ps_is_tower_form [] := F.bindsN fun _ _ _ _ _ _ us hl => match us, hl with | [_], _ => rfl
def d_need_tower : He.DefD := ⟨("need_tower", none), "need_tower", "need_tower", defArgs s_need_tower, defBody s_need_tower, defScope s_need_tower, [], []⟩
theorem sc_need_tower : FnScope N_need_tower ps_need_tower (defScope s_need_tower) := ⟨rfl, rfl, rfl, by decide +kernel, rfl, by decide +kernel, by decide +kernel⟩
theorem bd_need_tower {K : PySem.W.Frag} {f : Addr} {fd : FuncData} (F : FunD K "need_tower" "need_tower" (defArgs s_need_tower) (defBody s_need_tower) (defScope s_need_tower) [] [] f fd) : Binds K fd ps_need_tower [] := F.bindsN fun _ _ _ _ _ _ us hl => match us, hl with | [_], _ => rfl
def d_need_element : He.DefD := ⟨("need_element", none), "need_element", "need_element", defArgs s_need_element, defBody s_need_element, defScope s_need_element, [], []⟩
theorem sc_need_element : FnScope N_need_element ps_need_element (defScope s_need_element) := ⟨rfl, rfl, rfl, by decide +kernel, rfl, by decide +kernel, by decide +kernel⟩
theorem bd_need_element {K : PySem.W.Frag} {f : Addr} {fd : FuncData} (F : FunD K "need_element" "need_element" (defArgs s_need_element) (defBody s_need_element) (defScope s_need_element) [] [] f fd) : Binds K fd ps_need_element [] := F.bindsN fun _ _ _ _ _ _ us hl => match us, hl with | [_, _], _ => rfl
def d_lowest_in : He.DefD := ⟨("lowest_in", none), "lowest_in", "lowest_in", defArgs s_lowest_in, defBody s_lowest_in, defScope s_lowest_in, [], []⟩
theorem sc_lowest_in : FnScope N_lowest_in ps_lowest_in (defScope s_lowest_in) := ⟨rfl, rfl, rfl, by decide +kernel, rfl, by decide +kernel, by decide +kernel⟩
theorem bd_lowest_in {K : PySem.W.Frag} {f : Addr} {fd : FuncData} (F : FunD K "lowest_in" "lowest_in" (defArgs s_lowest_in) (defBody s_lowest_in) (defScope s_lowest_in) [] [] f fd) : Binds K fd ps_lowest_in [] := F.bindsN fun _ _ _ _ _ _ us hl => match us, hl with | [_], _ => rfl
def d_whole_in : He.DefD := ⟨("whole_in", none), "whole_in", "whole_in", defArgs s_whole_in, defBody s_whole_in, defScope s_whole_in, [], []⟩
theorem sc_whole_in : FnScope N_whole_in ps_whole_in (defScope s_whole_in) := ⟨rfl, rfl, rfl, by decide +kernel, rfl, by decide +kernel, by decide +kernel⟩
theorem bd_whole_in {K : PySem.W.Frag} {f : Addr} {fd : FuncData} (F : FunD K "whole_in" "whole_in" (defArgs s_whole_in) (defBody s_whole_in) (defScope s_whole_in) [] [] f fd) : Binds K fd ps_whole_in [] := F.bindsN fun _ _ _ _ _ _ us hl => match us, hl with | [_, _, _], _ => rfl
def d_is_nought_in : He.DefD := ⟨("is_nought_in", none), "is_nought_in", "is_nought_in", defArgs s_is_nought_in, defBody s_is_nought_in, defScope s_is_nought_in, [], []⟩
theorem sc_is_nought_in : FnScope N_is_nought_in ps_is_nought_in (defScope s_is_nought_in) := ⟨rfl, rfl, rfl, by decide +kernel, rfl, by decide +kernel, by decide +kernel⟩
theorem bd_is_nought_in {K : PySem.W.Frag} {f : Addr} {fd : FuncData} (F : FunD K "is_nought_in" "is_nought_in" (defArgs s_is_nought_in) (defBody s_is_nought_in) (defScope s_is_nought_in) [] [] f fd) : Binds K fd ps_is_nought_in [] := F.bindsN fun _ _ _ _ _ _ us hl => match us, hl with | [_], _ => rfl
def d_plus_in : He.DefD := ⟨("plus_in", none), "plus_in", "plus_in", defArgs s_plus_in, defBody s_plus_in, defScope s_plus_in, [], []⟩
theorem sc_plus_in : FnScope N_plus_in ps_plus_in (defScope s_plus_in) := ⟨rfl, rfl, rfl, by decide +kernel, rfl, by decide +kernel, by decide +kernel⟩
theorem bd_plus_in {K : PySem.W.Frag} {f : Addr} {fd : FuncData} (F : FunD K "plus_in" "plus_in" (defArgs s_plus_in) (defBody s_plus_in) (defScope s_plus_in) [] [] f fd) : Binds K fd ps_plus_in [] := F.bindsN fun _ _ _ _ _ _ us hl => match us, hl with | [_, _], _ => rfl
def d_other_in : He.DefD := ⟨("other_in", none), "other_in", "other_in", defArgs s_other_in, defBody s_other_in, defScope s_other_in, [], []⟩
theorem sc_other_in : FnScope N_other_in ps_other_in (defScope s_other_in) := ⟨rfl, rfl, rfl, by decide +kernel, rfl, by decide +kernel, by decide +kernel⟩
theorem bd_other_in {K : PySem.W.Frag} {f : Addr} {fd : FuncData} (F : FunD K "other_in" "other_in" (defArgs s_other_in) (defBody s_other_in) (defScope s_other_in) [] [] f fd) : Binds K fd ps_other_in [] := F.bindsN fun _ _ _ _ _ _ us hl => match us, hl with | [_], _ => rfl
def d_minus_in : He.DefD := ⟨("minus_in", none), "minus_in", "minus_in", defArgs s_minus_in, defBody s_minus_in, defScope s_minus_in, [], []⟩
theorem sc_minus_in : FnScope N_minus_in ps_minus_in (defScope s_minus_in) := ⟨rfl, rfl, rfl, by decide +kernel, rfl, by decide +kernel, by decide +kernel⟩
theorem bd_minus_in {K : PySem.W.Frag} {f : Addr} {fd : FuncData} (F : FunD K "minus_in" "minus_in" (defArgs s_minus_in) (defBody s_minus_in) (defScope s_minus_in) [] [] f fd) : Binds K fd ps_minus_in [] := F.bindsN fun _ _ _ _ _ _ us hl => match us, hl with | [_, _], _ => rfl
def d_halves_in : He.DefD := ⟨("halves_in", none), "halves_in", "halves_in", defArgs s_halves_in, defBody s_halves_in, defScope s_halves_in, [], []⟩
theorem sc_halves_in : FnScope N_halves_in ps_halves_in (defScope s_halves_in) := ⟨rfl, rfl, rfl, by decide +kernel, rfl, by decide +kernel, by decide +kernel⟩
theorem bd_halves_in {K : PySem.W.Frag} {f : Addr} {fd : FuncData} (F : FunD K "halves_in" "halves_in" (defArgs s_halves_in) (defBody s_halves_in) (defScope s_halves_in) [] [] f fd) : Binds K fd ps_halves_in [] := F.bindsN fun _ _ _ _ _ _ us hl => match us, hl with | [_], _ => rfl
def d_joined_in : He.DefD := ⟨("joined_in", none), "joined_in", "joined_in", defArgs s_joined_in, defBody s_joined_in, defScope s_joined_in, [], []⟩
theorem sc_joined_in : FnScope N_joined_in ps_joined_in (defScope s_joined_in) := ⟨rfl, rfl, rfl, by decide +kernel, rfl, by decide +kernel, by decide +kernel⟩
theorem bd_joined_in {K : PySem.W.Frag} {f : Addr} {fd : FuncData} (F : FunD K "joined_in" "joined_in" (defArgs s_joined_in) (defBody s_joined_in) (defScope s_joined_in) [] [] f fd) : Binds K fd ps_joined_in [] := F.bindsN fun _ _ _ _ _ _ us hl => match us, hl with | [_, _], _ => rfl
def d_times_in : He.DefD := ⟨("times_in", none), "times_in", "times_in", defArgs s_times_in, defBody s_times_in, defScope s_times_in, [], []⟩
theorem sc_times_in : FnScope N_times_in ps_times_in (defScope s_times_in) := ⟨rfl, rfl, rfl, by decide +kernel, rfl, by decide +kernel, by decide +kernel⟩
theorem bd_times_in {K : PySem.W.Frag} {f : Addr} {fd : FuncData} (F : FunD K "times_in" "times_in" (defArgs s_times_in) (defBody s_times_in) (defScope s_times_in) [] [] f fd) : Binds K fd ps_times_in [] := F.bindsN fun _ _ _ _ _ _ us hl => match us, hl with | [_, _, _], _ => rfl
def d_turned_in : He.DefD := ⟨("turned_in", none), "turned_in", "turned_in", defArgs s_turned_in, defBody s_turned_in, defScope s_turned_in, [], []⟩
theorem sc_turned_in : FnScope N_turned_in ps_turned_in (defScope s_turned_in) := ⟨rfl, rfl, rfl, by decide +kernel, rfl, by decide +kernel, by decide +kernel⟩
theorem bd_turned_in {K : PySem.W.Frag} {f : Addr} {fd : FuncData} (F : FunD K "turned_in" "turned_in" (defArgs s_turned_in) (defBody s_turned_in) (defScope s_turned_in) [] [] f fd) : Binds K fd ps_turned_in [] := F.bindsN fun _ _ _ _ _ _ us hl => match us, hl with | [_], _ => rfl
def d_norm_in : He.DefD := ⟨("norm_in", none), "norm_in", "norm_in", defArgs s_norm_in, defBody s_norm_in, defScope s_norm_in, [], []⟩
theorem sc_norm_in : FnScope N_norm_in ps_norm_in (defScope s_norm_in) := ⟨rfl, rfl, rfl, by decide +kernel, rfl, by decide +kernel, by decide +kernel⟩
theorem bd_norm_in {K : PySem.W.Frag} {f : Addr} {fd : FuncData} (F : FunD K "norm_in" "norm_in" (defArgs s_norm_in) (defBody s_norm_in) (defScope s_norm_in) [] [] f fd) : Binds K fd ps_norm_in [] := F.bindsN fun _ _ _ _ _ _ us hl => match us, hl with | [_, _], _ => rfl
def d_inverse_in : He.DefD := ⟨("inverse_in", none), "inverse_in", "inverse_in", defArgs s_inverse_in, defBody s_inverse_in, defScope s_inverse_in, [], []⟩
theorem sc_inverse_in : FnScope N_inverse_in ps_inverse_in (defScope s_inverse_in) := ⟨rfl, rfl, rfl, by decide +kernel, rfl, by decide +kernel, by decide +kernel⟩
theorem bd_inverse_in {K : PySem.W.Frag} {f : Addr} {fd : FuncData} (F : FunD K "inverse_in" "inverse_in" (defArgs s_inverse_in) (defBody s_inverse_in) (defScope s_inverse_in) [] [] f fd) : Binds K fd ps_inverse_in [] := F.bindsN fun _ _ _ _ _ _ us hl => match us, hl with | [_, _], _ => rfl
def d_over_in : He.DefD := ⟨("over_in", none), "over_in", "over_in", defArgs s_over_in, defBody s_over_in, defScope s_over_in, [], []⟩
theorem sc_over_in : FnScope N_over_in ps_over_in (defScope s_over_in) := ⟨rfl, rfl, rfl, by decide +kernel, rfl, by decide +kernel, by decide +kernel⟩
theorem bd_over_in {K : PySem.W.Frag} {f : Addr} {fd : FuncData} (F : FunD K "over_in" "over_in" (defArgs s_over_in) (defBody s_over_in) (defScope s_over_in) [] [] f fd) : Binds K fd ps_over_in [] := F.bindsN fun _ _ _ _ _ _ us hl => match us, hl with | [_, _, _], _ => rfl
def d_lifted_in : He.DefD := ⟨("lifted_in", none), "lifted_in", "lifted_in", defArgs s_lifted_in, defBody s_lifted_in, defScope s_lifted_in, [], []⟩
theorem sc_lifted_in : FnScope N_lifted_in ps_lifted_in (defScope s_lifted_in) := ⟨rfl, rfl, rfl, by decide +kernel, rfl, by decide +kernel, by decide +kernel⟩
theorem bd_lifted_in {K : PySem.W.Frag} {f : Addr} {fd : FuncData} (F : FunD K "lifted_in" "lifted_in" (defArgs s_lifted_in) (defBody s_lifted_in) (defScope s_lifted_in) [] [] f fd) : Binds K fd ps_lifted_in [] := F.bindsN fun _ _ _ _ _ _ us hl => match us, hl with | [_, _], _ => rfl
def d_need_two : He.DefD := ⟨("need_two", none), "need_two", "need_two", defArgs s_need_two, defBody s_need_two, defScope s_need_two, [], []⟩
theorem sc_need_two : FnScope N_need_two ps_need_two (defScope s_need_two) := ⟨rfl, rfl, rfl, by decide +kernel, rfl, by decide +kernel, by decide +kernel⟩
theorem bd_need_two {K : PySem.W.Frag} {f : Addr} {fd : FuncData} (F : FunD K "need_two" "need_two" (defArgs s_need_two) (defBody s_need_two) (defScope s_need_two) [] [] f fd) : Binds K fd ps_need_two [] := F.bindsN fun _ _ _ _ _ _ us hl => match us, hl with | [_, _, _], _ => rfl
def d_sign_in : He.DefD := ⟨("sign_in", none), "sign_in", "sign_in", defArgs s_sign_in, defBody s_sign_in, defScope s_sign_in, [], []⟩
theorem sc_sign_in : FnScope N_sign_in ps_sign_in (defScope s_sign_in) := ⟨rfl, rfl, rfl, by decide +kernel, rfl, by decide +kernel, by decide +kernel⟩
theorem bd_sign_in {K : PySem.W.Frag} {f : Addr} {fd : FuncData} (F : FunD K "sign_in" "sign_in" (defArgs s_sign_in) (defBody s_sign_in) (defScope s_sign_in) [] [] f fd) : Binds K fd ps_sign_in [] := F.bindsN fun _ _ _ _ _ _ us hl => match us, hl with | [_, _], _ => rfl
def d_sign : He.DefD := ⟨("sign", none), "sign", "sign", defArgs s_sign, defBody s_sign, defScope s_sign, [], []⟩
theorem sc_sign : FnScope N_sign ps_sign (defScope s_sign) := ⟨rfl, rfl, rfl, by decide +kernel, rfl, by decide +kernel, by decide +kernel⟩
theorem bd_sign {K : PySem.W.Frag} {f : Addr} {fd : FuncData} (F : FunD K "sign" "sign" (defArgs s_sign) (defBody s_sign) (defScope s_sign) [] [] f fd) : Binds K fd ps_sign [] := F.bindsN fun _ _ _ _ _ _ us hl => match us, hl with | [_, _], _ => rfl
def d_order : He.DefD := ⟨("order", none), "order", "order", defArgs s_order, defBody s_order, defScope s_order, [], []⟩
theorem sc_order : FnScope N_order ps_order (defScope s_order) := ⟨rfl, rfl, rfl, by decide +kernel, rfl, by decide +kernel, by decide +kernel⟩
theorem bd_order {K : PySem.W.Frag} {f : Addr} {fd : FuncData} (F : FunD K "order" "order" (defArgs s_order) (defBody s_order) (defScope s_order) [] [] f fd) : Binds K fd ps_order [] := F.bindsN fun _ _ _ _ _ _ us hl => match us, hl with | [_, _, _], _ => rfl
def d_root_below : He.DefD := ⟨("root_below", none), "root_below", "root_below", defArgs s_root_below, defBody s_root_below, defScope s_root_below, [], []⟩
theorem sc_root_below : FnScope N_root_below ps_root_below (defScope s_root_below) := ⟨rfl, rfl, rfl, by decide +kernel, rfl, by decide +kernel, by decide +kernel⟩
theorem bd_root_below {K : PySem.W.Frag} {f : Addr} {fd : FuncData} (F : FunD K "root_below" "root_below" (defArgs s_root_below) (defBody s_root_below) (defScope s_root_below) [] [] f fd) : Binds K fd ps_root_below [] := F.bindsN fun _ _ _ _ _ _ us hl => match us, hl with | [_], _ => rfl
def d_lowest : He.DefD := ⟨("lowest", none), "lowest", "lowest", defArgs s_lowest, defBody s_lowest, defScope s_lowest, [], []⟩
theorem sc_lowest : FnScope N_lowest ps_lowest (defScope s_lowest) := ⟨rfl, rfl, rfl, by decide +kernel, rfl, by decide +kernel, by decide +kernel⟩
theorem bd_lowest {K : PySem.W.Frag} {f : Addr} {fd : FuncData} (F : FunD K "lowest" "lowest" (defArgs s_lowest) (defBody s_lowest) (defScope s_lowest) [] [] f fd) : Binds K fd ps_lowest [] := F.bindsN fun _ _ _ _ _ _ us hl => match us, hl with | [_, _], _ => rfl
def d_products : He.DefD := ⟨("products", none), "products", "products", defArgs s_products, defBody s_products, defScope s_products, [], []⟩
theorem sc_products : FnScope N_products ps_products (defScope s_products) := ⟨rfl, rfl, rfl, by decide +kernel, rfl, by decide +kernel, by decide +kernel⟩
theorem bd_products {K : PySem.W.Frag} {f : Addr} {fd : FuncData} (F : FunD K "products" "products" (defArgs s_products) (defBody s_products) (defScope s_products) [] [] f fd) : Binds K fd ps_products [] := F.bindsN fun _ _ _ _ _ _ us hl => match us, hl with | [_], _ => rfl
def d_span_in : He.DefD := ⟨("span_in", none), "span_in", "span_in", defArgs s_span_in, defBody s_span_in, defScope s_span_in, [], []⟩
theorem sc_span_in : FnScope N_span_in ps_span_in (defScope s_span_in) := ⟨rfl, rfl, rfl, by decide +kernel, rfl, by decide +kernel, by decide +kernel⟩
theorem bd_span_in {K : PySem.W.Frag} {f : Addr} {fd : FuncData} (F : FunD K "span_in" "span_in" (defArgs s_span_in) (defBody s_span_in) (defScope s_span_in) [] [] f fd) : Binds K fd ps_span_in [] := F.bindsN fun _ _ _ _ _ _ us hl => match us, hl with | [_, _], _ => rfl
def d_is_bound : He.DefD := ⟨("is_bound", none), "is_bound", "is_bound", defArgs s_is_bound, defBody s_is_bound, defScope s_is_bound, [], []⟩
theorem sc_is_bound : FnScope N_is_bound ps_is_bound (defScope s_is_bound) := ⟨rfl, rfl, rfl, by decide +kernel, rfl, by decide +kernel, by decide +kernel⟩
theorem bd_is_bound {K : PySem.W.Frag} {f : Addr} {fd : FuncData} (F : FunD K "is_bound" "is_bound" (defArgs s_is_bound) (defBody s_is_bound) (defScope s_is_bound) [] [] f fd) : Binds K fd ps_is_bound [] := F.bindsN fun _ _ _ _ _ _ us hl => match us, hl with | [_], _ => rfl
def d_are_bounds_in : He.DefD := ⟨("are_bounds_in", none), "are_bounds_in", "are_bounds_in", defArgs s_are_bounds_in, defBody s_are_bounds_in, defScope s_are_bounds_in, [], []⟩
theorem sc_are_bounds_in : FnScope N_are_bounds_in ps_are_bounds_in (defScope s_are_bounds_in) := ⟨rfl, rfl, rfl, by decide +kernel, rfl, by decide +kernel, by decide +kernel⟩
theorem bd_are_bounds_in {K : PySem.W.Frag} {f : Addr} {fd : FuncData} (F : FunD K "are_bounds_in" "are_bounds_in" (defArgs s_are_bounds_in) (defBody s_are_bounds_in) (defScope s_are_bounds_in) [] [] f fd) : Binds K fd ps_are_bounds_in [] := F.bindsN fun _ _ _ _ _ _ us hl => match us, hl with | [_, _], _ => rfl
def d_are_bounds : He.DefD := ⟨("are_bounds", none), "are_bounds", "are_bounds", defArgs s_are_bounds, defBody s_are_bounds, defScope s_are_bounds, [], []⟩
theorem sc_are_bounds : FnScope N_are_bounds ps_are_bounds (defScope s_are_bounds) := ⟨rfl, rfl, rfl, by decide +kernel, rfl, by decide +kernel, by decide +kernel⟩
theorem bd_are_bounds {K : PySem.W.Frag} {f : Addr} {fd : FuncData} (F : FunD K "are_bounds" "are_bounds" (defArgs s_are_bounds) (defBody s_are_bounds) (defScope s_are_bounds) [] [] f fd) : Binds K fd ps_are_bounds [] := F.bindsN fun _ _ _ _ _ _ us hl => match us, hl with | [_, _], _ => rfl
def d_bounds_in : He.DefD := ⟨("bounds_in", none), "bounds_in", "bounds_in", defArgs s_bounds_in, defBody s_bounds_in, defScope s_bounds_in, [], []⟩
theorem sc_bounds_in : FnScope N_bounds_in ps_bounds_in (defScope s_bounds_in) := ⟨rfl, rfl, rfl, by decide +kernel, rfl, by decide +kernel, by decide +kernel⟩
theorem bd_bounds_in {K : PySem.W.Frag} {f : Addr} {fd : FuncData} (F : FunD K "bounds_in" "bounds_in" (defArgs s_bounds_in) (defBody s_bounds_in) (defScope s_bounds_in) [] [] f fd) : Binds K fd ps_bounds_in [] := F.bindsN fun _ _ _ _ _ _ us hl => match us, hl with | [_, _], _ => rfl
def d_bounds : He.DefD := ⟨("bounds", none), "bounds", "bounds", defArgs s_bounds, defBody s_bounds, defScope s_bounds, [], []⟩
theorem sc_bounds : FnScope N_bounds ps_bounds (defScope s_bounds) := ⟨rfl, rfl, rfl, by decide +kernel, rfl, by decide +kernel, by decide +kernel⟩
theorem bd_bounds {K : PySem.W.Frag} {f : Addr} {fd : FuncData} (F : FunD K "bounds" "bounds" (defArgs s_bounds) (defBody s_bounds) (defScope s_bounds) [] [] f fd) : Binds K fd ps_bounds [] := F.bindsN fun _ _ _ _ _ _ us hl => match us, hl with | [_, _], _ => rfl
def d_whole_root : He.DefD := ⟨("whole_root", none), "whole_root", "whole_root", defArgs s_whole_root, defBody s_whole_root, defScope s_whole_root, [], []⟩
theorem sc_whole_root : FnScope N_whole_root ps_whole_root (defScope s_whole_root) := ⟨rfl, rfl, rfl, by decide +kernel, rfl, by decide +kernel, by decide +kernel⟩
theorem bd_whole_root {K : PySem.W.Frag} {f : Addr} {fd : FuncData} (F : FunD K "whole_root" "whole_root" (defArgs s_whole_root) (defBody s_whole_root) (defScope s_whole_root) [] [] f fd) : Binds K fd ps_whole_root [] := F.bindsN fun _ _ _ _ _ _ us hl => match us, hl with | [_], _ => rfl
def d_some_root : He.DefD := ⟨("some_root", none), "some_root", "some_root", defArgs s_some_root, defBody s_some_root, defScope s_some_root, [], []⟩
theorem sc_some_root : FnScope N_some_root ps_some_root (defScope s_some_root) := ⟨rfl, rfl, rfl, by decide +kernel, rfl, by decide +kernel, by decide +kernel⟩
theorem bd_some_root {K : PySem.W.Frag} {f : Addr} {fd : FuncData} (F : FunD K "some_root" "some_root" (defArgs s_some_root) (defBody s_some_root) (defScope s_some_root) [] [] f fd) : Binds K fd ps_some_root [] := F.bindsN fun _ _ _ _ _ _ us hl => match us, hl with | [_, _], _ => rfl
def d_root_in : He.DefD := ⟨("root_in", none), "root_in", "root_in", defArgs s_root_in, defBody s_root_in, defScope s_root_in, [], []⟩
theorem sc_root_in : FnScope N_root_in ps_root_in (defScope s_root_in) := ⟨rfl, rfl, rfl, by decide +kernel, rfl, by decide +kernel, by decide +kernel⟩
theorem bd_root_in {K : PySem.W.Frag} {f : Addr} {fd : FuncData} (F : FunD K "root_in" "root_in" (defArgs s_root_in) (defBody s_root_in) (defScope s_root_in) [] [] f fd) : Binds K fd ps_root_in [] := F.bindsN fun _ _ _ _ _ _ us hl => match us, hl with | [_, _], _ => rfl
def d_square_root : He.DefD := ⟨("square_root", none), "square_root", "square_root", defArgs s_square_root, defBody s_square_root, defScope s_square_root, [], []⟩
theorem sc_square_root : FnScope N_square_root ps_square_root (defScope s_square_root) := ⟨rfl, rfl, rfl, by decide +kernel, rfl, by decide +kernel, by decide +kernel⟩
theorem bd_square_root {K : PySem.W.Frag} {f : Addr} {fd : FuncData} (F : FunD K "square_root" "square_root" (defArgs s_square_root) (defBody s_square_root) (defScope s_square_root) [] [] f fd) : Binds K fd ps_square_root [] := F.bindsN fun _ _ _ _ _ _ us hl => match us, hl with | [_, _], _ => rfl
def d_bar_in : He.DefD := ⟨("bar_in", none), "bar_in", "bar_in", defArgs s_bar_in, defBody s_bar_in, defScope s_bar_in, [], []⟩
theorem sc_bar_in : FnScope N_bar_in ps_bar_in (defScope s_bar_in) := ⟨rfl, rfl, rfl, by decide +kernel, rfl, by decide +kernel, by decide +kernel⟩
theorem bd_bar_in {K : PySem.W.Frag} {f : Addr} {fd : FuncData} (F : FunD K "bar_in" "bar_in" (defArgs s_bar_in) (defBody s_bar_in) (defScope s_bar_in) [] [] f fd) : Binds K fd ps_bar_in [] := F.bindsN fun _ _ _ _ _ _ us hl => match us, hl with | [_], _ => rfl
def d_tower_bar : He.DefD := ⟨("tower_bar", none), "tower_bar", "tower_bar", defArgs s_tower_bar, defBody s_tower_bar, defScope s_tower_bar, [], []⟩
theorem sc_tower_bar : FnScope N_tower_bar ps_tower_bar (defScope s_tower_bar) := ⟨rfl, rfl, rfl, by decide +kernel, rfl, by decide +kernel, by decide +kernel⟩
theorem bd_tower_bar {K : PySem.W.Frag} {f : Addr} {fd : FuncData} (F : FunD K "tower_bar" "tower_bar" (defArgs s_tower_bar) (defBody s_tower_bar) (defScope s_tower_bar) [] [] f fd) : Binds K fd ps_tower_bar [] := F.bindsN fun _ _ _ _ _ _ us hl => match us, hl with | [_], _ => rfl
def d_is_tower : He.DefD := ⟨("is_tower", none), "is_tower", "is_tower", defArgs s_is_tower, defBody s_is_tower, defScope s_is_tower, [], []⟩
theorem sc_is_tower : FnScope N_is_tower ps_is_tower (defScope s_is_tower) := ⟨rfl, rfl, rfl, by decide +kernel, rfl, by decide +kernel, by decide +kernel⟩
theorem bd_is_tower {K : PySem.W.Frag} {f : Addr} {fd : FuncData} (F : FunD K "is_tower" "is_tower" (defArgs s_is_tower) (defBody s_is_tower) (defScope s_is_tower) [] [] f fd) : Binds K fd ps_is_tower [] := F.bindsN fun _ _ _ _ _ _ us hl => match us, hl with | [_], _ => rfl
def d_is_odd_prime : He.DefD := ⟨("is_odd_prime", none), "is_odd_prime", "is_odd_prime", defArgs s_is_odd_prime, defBody s_is_odd_prime, defScope s_is_odd_prime, [], []⟩
theorem sc_is_odd_prime : FnScope N_is_odd_prime ps_is_odd_prime (defScope s_is_odd_prime) := ⟨rfl, rfl, rfl, by decide +kernel, rfl, by decide +kernel, by decide +kernel⟩
theorem bd_is_odd_prime {K : PySem.W.Frag} {f : Addr} {fd : FuncData} (F : FunD K "is_odd_prime" "is_odd_prime" (defArgs s_is_odd_prime) (defBody s_is_odd_prime) (defScope s_is_odd_prime) [] [] f fd) : Binds K fd ps_is_odd_prime [] := F.bindsN fun _ _ _ _ _ _ us hl => match us, hl with | [_], _ => rfl
def d_need_prime : He.DefD := ⟨("need_prime", none), "need_prime", "need_prime", defArgs s_need_prime, defBody s_need_prime, defScope s_need_prime, [], []⟩
theorem sc_need_prime : FnScope N_need_prime ps_need_prime (defScope s_need_prime) := ⟨rfl, rfl, rfl, by decide +kernel, rfl, by decide +kernel, by decide +kernel⟩
theorem bd_need_prime {K : PySem.W.Frag} {f : Addr} {fd : FuncData} (F : FunD K "need_prime" "need_prime" (defArgs s_need_prime) (defBody s_need_prime) (defScope s_need_prime) [] [] f fd) : Binds K fd ps_need_prime [] := F.bindsN fun _ _ _ _ _ _ us hl => match us, hl with | [_], _ => rfl
def d_inverse : He.DefD := ⟨("inverse", none), "inverse", "inverse", defArgs s_inverse, defBody s_inverse, defScope s_inverse, [], []⟩
theorem sc_inverse : FnScope N_inverse ps_inverse (defScope s_inverse) := ⟨rfl, rfl, rfl, by decide +kernel, rfl, by decide +kernel, by decide +kernel⟩
theorem bd_inverse {K : PySem.W.Frag} {f : Addr} {fd : FuncData} (F : FunD K "inverse" "inverse" (defArgs s_inverse) (defBody s_inverse) (defScope s_inverse) [] [] f fd) : Binds K fd ps_inverse [] := F.bindsN fun _ _ _ _ _ _ us hl => match us, hl with | [_, _], _ => rfl
def d_in_ring : He.DefD := ⟨("in_ring", none), "in_ring", "in_ring", defArgs s_in_ring, defBody s_in_ring, defScope s_in_ring, [], []⟩
theorem sc_in_ring : FnScope N_in_ring ps_in_ring (defScope s_in_ring) := ⟨rfl, rfl, rfl, by decide +kernel, rfl, by decide +kernel, by decide +kernel⟩
theorem bd_in_ring {K : PySem.W.Frag} {f : Addr} {fd : FuncData} (F : FunD K "in_ring" "in_ring" (defArgs s_in_ring) (defBody s_in_ring) (defScope s_in_ring) [] [] f fd) : Binds K fd ps_in_ring [] := F.bindsN fun _ _ _ _ _ _ us hl => match us, hl with | [_, _], _ => rfl
def d_ring_of : He.DefD := ⟨("ring_of", none), "ring_of", "ring_of", defArgs s_ring_of, defBody s_ring_of, defScope s_ring_of, [], []⟩
theorem sc_ring_of : FnScope N_ring_of ps_ring_of (defScope s_ring_of) := ⟨rfl, rfl, rfl, by decide +kernel, rfl, by decide +kernel, by decide +kernel⟩
theorem bd_ring_of {K : PySem.W.Frag} {f : Addr} {fd : FuncData} (F : FunD K "ring_of" "ring_of" (defArgs s_ring_of) (defBody s_ring_of) (defScope s_ring_of) [] [] f fd) : Binds K fd ps_ring_of [] := F.bindsN fun _ _ _ _ _ _ us hl => match us, hl with | [_, _], _ => rfl
def d_ring_times : He.DefD := ⟨("ring_times", none), "ring_times", "ring_times", defArgs s_ring_times, defBody s_ring_times, defScope s_ring_times, [], []⟩
theorem sc_ring_times : FnScope N_ring_times ps_ring_times (defScope s_ring_times) := ⟨rfl, rfl, rfl, by decide +kernel, rfl, by decide +kernel, by decide +kernel⟩
theorem bd_ring_times {K : PySem.W.Frag} {f : Addr} {fd : FuncData} (F : FunD K "ring_times" "ring_times" (defArgs s_ring_times) (defBody s_ring_times) (defScope s_ring_times) [] [] f fd) : Binds K fd ps_ring_times [] := F.bindsN fun _ _ _ _ _ _ us hl => match us, hl with | [_, _, _, _], _ => rfl
def d_ring_power : He.DefD := ⟨("ring_power", none), "ring_power", "ring_power", defArgs s_ring_power, defBody s_ring_power, defScope s_ring_power, [], []⟩
theorem sc_ring_power : FnScope N_ring_power ps_ring_power (defScope s_ring_power) := ⟨rfl, rfl, rfl, by decide +kernel, rfl, by decide +kernel, by decide +kernel⟩
theorem bd_ring_power {K : PySem.W.Frag} {f : Addr} {fd : FuncData} (F : FunD K "ring_power" "ring_power" (defArgs s_ring_power) (defBody s_ring_power) (defScope s_ring_power) [] [] f fd) : Binds K fd ps_ring_power [] := F.bindsN fun _ _ _ _ _ _ us hl => match us, hl with | [_, _, _, _], _ => rfl
def d_ring_norm : He.DefD := ⟨("ring_norm", none), "ring_norm", "ring_norm", defArgs s_ring_norm, defBody s_ring_norm, defScope s_ring_norm, [], []⟩
theorem sc_ring_norm : FnScope N_ring_norm ps_ring_norm (defScope s_ring_norm) := ⟨rfl, rfl, rfl, by decide +kernel, rfl, by decide +kernel, by decide +kernel⟩
theorem bd_ring_norm {K : PySem.W.Frag} {f : Addr} {fd : FuncData} (F : FunD K "ring_norm" "ring_norm" (defArgs s_ring_norm) (defBody s_ring_norm) (defScope s_ring_norm) [] [] f fd) : Binds K fd ps_ring_norm [] := F.bindsN fun _ _ _ _ _ _ us hl => match us, hl with | [_, _, _], _ => rfl
def d_fits_in : He.DefD := ⟨("fits_in", none), "fits_in", "fits_in", defArgs s_fits_in, defBody s_fits_in, defScope s_fits_in, [], []⟩
theorem sc_fits_in : FnScope N_fits_in ps_fits_in (defScope s_fits_in) := ⟨rfl, rfl, rfl, by decide +kernel, rfl, by decide +kernel, by decide +kernel⟩
theorem bd_fits_in {K : PySem.W.Frag} {f : Addr} {fd : FuncData} (F : FunD K "fits_in" "fits_in" (defArgs s_fits_in) (defBody s_fits_in) (defScope s_fits_in) [] [] f fd) : Binds K fd ps_fits_in [] := F.bindsN fun _ _ _ _ _ _ us hl => match us, hl with | [_, _], _ => rfl
def d_fits : He.DefD := ⟨("fits", none), "fits", "fits", defArgs s_fits, defBody s_fits, defScope s_fits, [], []⟩
theorem sc_fits : FnScope N_fits ps_fits (defScope s_fits) := ⟨rfl, rfl, rfl, by decide +kernel, rfl, by decide +kernel, by decide +kernel⟩
theorem bd_fits {K : PySem.W.Frag} {f : Addr} {fd : FuncData} (F : FunD K "fits" "fits" (defArgs s_fits) (defBody s_fits) (defScope s_fits) [] [] f fd) : Binds K fd ps_fits [] := F.bindsN fun _ _ _ _ _ _ us hl => match us, hl with | [_, _], _ => rfl
def d_led : He.DefD := ⟨("led", none), "led", "led", defArgs s_led, defBody s_led, defScope s_led, [], []⟩
theorem sc_led : FnScope N_led ps_led (defScope s_led) := ⟨rfl, rfl, rfl, by decide +kernel, rfl, by decide +kernel, by decide +kernel⟩
theorem bd_led {K : PySem.W.Frag} {f : Addr} {fd : FuncData} (F : FunD K "led" "led" (defArgs s_led) (defBody s_led) (defScope s_led) [] [] f fd) : Binds K fd ps_led [] := F.bindsN fun _ _ _ _ _ _ us hl => match us, hl with | [_, _, _], _ => rfl
def d_rests_in : He.DefD := ⟨("rests_in", none), "rests_in", "rests_in", defArgs s_rests_in, defBody s_rests_in, defScope s_rests_in, [], []⟩
theorem sc_rests_in : FnScope N_rests_in ps_rests_in (defScope s_rests_in) := ⟨rfl, rfl, rfl, by decide +kernel, rfl, by decide +kernel, by decide +kernel⟩
theorem bd_rests_in {K : PySem.W.Frag} {f : Addr} {fd : FuncData} (F : FunD K "rests_in" "rests_in" (defArgs s_rests_in) (defBody s_rests_in) (defScope s_rests_in) [] [] f fd) : Binds K fd ps_rests_in [] := F.bindsN fun _ _ _ _ _ _ us hl => match us, hl with | [_, _], _ => rfl
def d_all_rests : He.DefD := ⟨("all_rests", none), "all_rests", "all_rests", defArgs s_all_rests, defBody s_all_rests, defScope s_all_rests, [], []⟩
theorem sc_all_rests : FnScope N_all_rests ps_all_rests (defScope s_all_rests) := ⟨rfl, rfl, rfl, by decide +kernel, rfl, by decide +kernel, by decide +kernel⟩
theorem bd_all_rests {K : PySem.W.Frag} {f : Addr} {fd : FuncData} (F : FunD K "all_rests" "all_rests" (defArgs s_all_rests) (defBody s_all_rests) (defScope s_all_rests) [] [] f fd) : Binds K fd ps_all_rests [] := F.bindsN fun _ _ _ _ _ _ us hl => match us, hl with | [_, _], _ => rfl
def d_moves_in : He.DefD := ⟨("moves_in", none), "moves_in", "moves_in", defArgs s_moves_in, defBody s_moves_in, defScope s_moves_in, [], []⟩
theorem sc_moves_in : FnScope N_moves_in ps_moves_in (defScope s_moves_in) := ⟨rfl, rfl, rfl, by decide +kernel, rfl, by decide +kernel, by decide +kernel⟩
theorem bd_moves_in {K : PySem.W.Frag} {f : Addr} {fd : FuncData} (F : FunD K "moves_in" "moves_in" (defArgs s_moves_in) (defBody s_moves_in) (defScope s_moves_in) [] [] f fd) : Binds K fd ps_moves_in [] := F.bindsN fun _ _ _ _ _ _ us hl => match us, hl with | [_, _, _, _], _ => rfl
def d_nested_in : He.DefD := ⟨("nested_in", none), "nested_in", "nested_in", defArgs s_nested_in, defBody s_nested_in, defScope s_nested_in, [], []⟩
theorem sc_nested_in : FnScope N_nested_in ps_nested_in (defScope s_nested_in) := ⟨rfl, rfl, rfl, by decide +kernel, rfl, by decide +kernel, by decide +kernel⟩
theorem bd_nested_in {K : PySem.W.Frag} {f : Addr} {fd : FuncData} (F : FunD K "nested_in" "nested_in" (defArgs s_nested_in) (defBody s_nested_in) (defScope s_nested_in) [] [] f fd) : Binds K fd ps_nested_in [] := F.bindsN fun _ _ _ _ _ _ us hl => match us, hl with | [_, _], _ => rfl
def d_is_nested_in : He.DefD := ⟨("is_nested_in", none), "is_nested_in", "is_nested_in", defArgs s_is_nested_in, defBody s_is_nested_in, defScope s_is_nested_in, [], []⟩
theorem sc_is_nested_in : FnScope N_is_nested_in ps_is_nested_in (defScope s_is_nested_in) := ⟨rfl, rfl, rfl, by decide +kernel, rfl, by decide +kernel, by decide +kernel⟩
theorem bd_is_nested_in {K : PySem.W.Frag} {f : Addr} {fd : FuncData} (F : FunD K "is_nested_in" "is_nested_in" (defArgs s_is_nested_in) (defBody s_is_nested_in) (defScope s_is_nested_in) [] [] f fd) : Binds K fd ps_is_nested_in [] := F.bindsN fun _ _ _ _ _ _ us hl => match us, hl with | [_, _, _], _ => rfl
def d_nested_paper : He.DefD := ⟨("nested_paper", none), "nested_paper", "nested_paper", defArgs s_nested_paper, defBody s_nested_paper, defScope s_nested_paper, [], []⟩
theorem sc_nested_paper : FnScope N_nested_paper ps_nested_paper (defScope s_nested_paper) := ⟨rfl, rfl, rfl, by decide +kernel, rfl, by decide +kernel, by decide +kernel⟩
theorem bd_nested_paper {K : PySem.W.Frag} {f : Addr} {fd : FuncData} (F : FunD K "nested_paper" "nested_paper" (defArgs s_nested_paper) (defBody s_nested_paper) (defScope s_nested_paper) [] [] f fd) : Binds K fd ps_nested_paper [] := F.bindsN fun _ _ _ _ _ _ us hl => match us, hl with | [_, _], _ => rfl
def d_is_nested_paper : He.DefD := ⟨("is_nested_paper", none), "is_nested_paper", "is_nested_paper", defArgs s_is_nested_paper, defBody s_is_nested_paper, defScope s_is_nested_paper, [], []⟩
theorem sc_is_nested_paper : FnScope N_is_nested_paper ps_is_nested_paper (defScope s_is_nested_paper) := ⟨rfl, rfl, rfl, by decide +kernel, rfl, by decide +kernel, by decide +kernel⟩
theorem bd_is_nested_paper {K : PySem.W.Frag} {f : Addr} {fd : FuncData} (F : FunD K "is_nested_paper" "is_nested_paper" (defArgs s_is_nested_paper) (defBody s_is_nested_paper) (defScope s_is_nested_paper) [] [] f fd) : Binds K fd ps_is_nested_paper [] := F.bindsN fun _ _ _ _ _ _ us hl => match us, hl with | [_, _, _], _ => rfl
def d_power_in_ring : He.DefD := ⟨("power_in_ring", none), "power_in_ring", "power_in_ring", defArgs s_power_in_ring, defBody s_power_in_ring, defScope s_power_in_ring, [], []⟩
theorem sc_power_in_ring : FnScope N_power_in_ring ps_power_in_ring (defScope s_power_in_ring) := ⟨rfl, rfl, rfl, by decide +kernel, rfl, by decide +kernel, by decide +kernel⟩
theorem bd_power_in_ring {K : PySem.W.Frag} {f : Addr} {fd : FuncData} (F : FunD K "power_in_ring" "power_in_ring" (defArgs s_power_in_ring) (defBody s_power_in_ring) (defScope s_power_in_ring) [] [] f fd) : Binds K fd ps_power_in_ring [] := F.bindsN fun _ _ _ _ _ _ us hl => match us, hl with | [_, _, _, _], _ => rfl
def ps__law_pen : List Str := ["script"]
def d__law_pen : He.DefD := ⟨("_law_pen", none), "_law_pen", "_law_pen", defArgs s__law_pen, defBody s__law_pen, defScope s__law_pen, [], []⟩
theorem bd__law_pen {K : PySem.W.Frag} {f : Addr} {fd : FuncData} (F : FunD K "_law_pen" "_law_pen" (defArgs s__law_pen) (defBody s__law_pen) (defScope s__law_pen) [] [] f fd) : Binds K fd ps__law_pen [] := F.bindsN fun _ _ _ _ _ _ us hl => match us, hl with | [_], _ => rfl
def ps__law_draw : List Str := ["pen", "many"]
def d__law_draw : He.DefD := ⟨("_law_draw", none), "_law_draw", "_law_draw", defArgs s__law_draw, defBody s__law_draw, defScope s__law_draw, [], []⟩
theorem bd__law_draw {K : PySem.W.Frag} {f : Addr} {fd : FuncData} (F : FunD K "_law_draw" "_law_draw" (defArgs s__law_draw) (defBody s__law_draw) (defScope s__law_draw) [] [] f fd) : Binds K fd ps__law_draw [] := F.bindsN fun _ _ _ _ _ _ us hl => match us, hl with | [_, _], _ => rfl
def d__law_pick : He.DefD := ⟨("_law_pick", none), "_law_pick", "_law_pick", defArgs s__law_pick, defBody s__law_pick, defScope s__law_pick, [], []⟩
theorem sc__law_pick : FnScope N__law_pick ps__law_pick (defScope s__law_pick) := ⟨rfl, rfl, rfl, by decide +kernel, rfl, by decide +kernel, by decide +kernel⟩
theorem bd__law_pick {K : PySem.W.Frag} {f : Addr} {fd : FuncData} (F : FunD K "_law_pick" "_law_pick" (defArgs s__law_pick) (defBody s__law_pick) (defScope s__law_pick) [] [] f fd) : Binds K fd ps__law_pick [] := F.bindsN fun _ _ _ _ _ _ us hl => match us, hl with | [_, _], _ => rfl
def d__law_gcd : He.DefD := ⟨("_law_gcd", none), "_law_gcd", "_law_gcd", defArgs s__law_gcd, defBody s__law_gcd, defScope s__law_gcd, [], []⟩
theorem sc__law_gcd : FnScope N__law_gcd ps__law_gcd (defScope s__law_gcd) := ⟨rfl, rfl, rfl, by decide +kernel, rfl, by decide +kernel, by decide +kernel⟩
theorem bd__law_gcd {K : PySem.W.Frag} {f : Addr} {fd : FuncData} (F : FunD K "_law_gcd" "_law_gcd" (defArgs s__law_gcd) (defBody s__law_gcd) (defScope s__law_gcd) [] [] f fd) : Binds K fd ps__law_gcd [] := F.bindsN fun _ _ _ _ _ _ us hl => match us, hl with | [_], _ => rfl
def d__law_lowest : He.DefD := ⟨("_law_lowest", none), "_law_lowest", "_law_lowest", defArgs s__law_lowest, defBody s__law_lowest, defScope s__law_lowest, [], []⟩
theorem sc__law_lowest : FnScope N__law_lowest ps__law_lowest (defScope s__law_lowest) := ⟨rfl, rfl, rfl, by decide +kernel, rfl, by decide +kernel, by decide +kernel⟩
theorem bd__law_lowest {K : PySem.W.Frag} {f : Addr} {fd : FuncData} (F : FunD K "_law_lowest" "_law_lowest" (defArgs s__law_lowest) (defBody s__law_lowest) (defScope s__law_lowest) [] [] f fd) : Binds K fd ps__law_lowest [] := F.bindsN fun _ _ _ _ _ _ us hl => match us, hl with | [_], _ => rfl
def d__law_size : He.DefD := ⟨("_law_size", none), "_law_size", "_law_size", defArgs s__law_size, defBody s__law_size, defScope s__law_size, [], []⟩
theorem sc__law_size : FnScope N__law_size ps__law_size (defScope s__law_size) := ⟨rfl, rfl, rfl, by decide +kernel, rfl, by decide +kernel, by decide +kernel⟩
theorem bd__law_size {K : PySem.W.Frag} {f : Addr} {fd : FuncData} (F : FunD K "_law_size" "_law_size" (defArgs s__law_size) (defBody s__law_size) (defScope s__law_size) [] [] f fd) : Binds K fd ps__law_size [] := F.bindsN fun _ _ _ _ _ _ us hl => match us, hl with | [_], _ => rfl
def d__law_sum : He.DefD := ⟨("_law_sum", none), "_law_sum", "_law_sum", defArgs s__law_sum, defBody s__law_sum, defScope s__law_sum, [], []⟩
theorem sc__law_sum : FnScope N__law_sum ps__law_sum (defScope s__law_sum) := ⟨rfl, rfl, rfl, by decide +kernel, rfl, by decide +kernel, by decide +kernel⟩
theorem bd__law_sum {K : PySem.W.Frag} {f : Addr} {fd : FuncData} (F : FunD K "_law_sum" "_law_sum" (defArgs s__law_sum) (defBody s__law_sum) (defScope s__law_sum) [] [] f fd) : Binds K fd ps__law_sum [] := F.bindsN fun _ _ _ _ _ _ us hl => match us, hl with | [_, _, _], _ => rfl
def d__law_product : He.DefD := ⟨("_law_product", none), "_law_product", "_law_product", defArgs s__law_product, defBody s__law_product, defScope s__law_product, [], []⟩
theorem sc__law_product : FnScope N__law_product ps__law_product (defScope s__law_product) := ⟨rfl, rfl, rfl, by decide +kernel, rfl, by decide +kernel, by decide +kernel⟩
theorem bd__law_product {K : PySem.W.Frag} {f : Addr} {fd : FuncData} (F : FunD K "_law_product" "_law_product" (defArgs s__law_product) (defBody s__law_product) (defScope s__law_product) [] [] f fd) : Binds K fd ps__law_product [] := F.bindsN fun _ _ _ _ _ _ us hl => match us, hl with | [_, _, _], _ => rfl
def d__law_root_below : He.DefD := ⟨("_law_root_below", none), "_law_root_below", "_law_root_below", defArgs s__law_root_below, defBody s__law_root_below, defScope s__law_root_below, [], []⟩
theorem sc__law_root_below : FnScope N__law_root_below ps__law_root_below (defScope s__law_root_below) := ⟨rfl, rfl, rfl, by decide +kernel, rfl, by decide +kernel, by decide +kernel⟩
theorem bd__law_root_below {K : PySem.W.Frag} {f : Addr} {fd : FuncData} (F : FunD K "_law_root_below" "_law_root_below" (defArgs s__law_root_below) (defBody s__law_root_below) (defScope s__law_root_below) [] [] f fd) : Binds K fd ps__law_root_below [] := F.bindsN fun _ _ _ _ _ _ us hl => match us, hl with | [_], _ => rfl
def d__law_near : He.DefD := ⟨("_law_near", none), "_law_near", "_law_near", defArgs s__law_near, defBody s__law_near, defScope s__law_near, [], []⟩
theorem sc__law_near : FnScope N__law_near ps__law_near (defScope s__law_near) := ⟨rfl, rfl, rfl, by decide +kernel, rfl, by decide +kernel, by decide +kernel⟩
theorem bd__law_near {K : PySem.W.Frag} {f : Addr} {fd : FuncData} (F : FunD K "_law_near" "_law_near" (defArgs s__law_near) (defBody s__law_near) (defScope s__law_near) [] [] f fd) : Binds K fd ps__law_near [] := F.bindsN fun _ _ _ _ _ _ us hl => match us, hl with | [_, _], _ => rfl
def d__law_worth : He.DefD := ⟨("_law_worth", none), "_law_worth", "_law_worth", defArgs s__law_worth, defBody s__law_worth, defScope s__law_worth, [], []⟩
theorem sc__law_worth : FnScope N__law_worth ps__law_worth (defScope s__law_worth) := ⟨rfl, rfl, rfl, by decide +kernel, rfl, by decide +kernel, by decide +kernel⟩
theorem bd__law_worth {K : PySem.W.Frag} {f : Addr} {fd : FuncData} (F : FunD K "_law_worth" "_law_worth" (defArgs s__law_worth) (defBody s__law_worth) (defScope s__law_worth) [] [] f fd) : Binds K fd ps__law_worth [] := F.bindsN fun _ _ _ _ _ _ us hl => match us, hl with | [_, _, _], _ => rfl
def d__law_twos : He.DefD := ⟨("_law_twos", none), "_law_twos", "_law_twos", defArgs s__law_twos, defBody s__law_twos, defScope s__law_twos, [], []⟩
theorem sc__law_twos : FnScope N__law_twos ps__law_twos (defScope s__law_twos) := ⟨rfl, rfl, rfl, by decide +kernel, rfl, by decide +kernel, by decide +kernel⟩
theorem bd__law_twos {K : PySem.W.Frag} {f : Addr} {fd : FuncData} (F : FunD K "_law_twos" "_law_twos" (defArgs s__law_twos) (defBody s__law_twos) (defScope s__law_twos) [] [] f fd) : Binds K fd ps__law_twos [] := F.bindsN fun _ _ _ _ _ _ us hl => match us, hl with | [_, _, _], _ => rfl
def d_law : He.DefD := ⟨("law", none), "law", "law", defArgs s_law, defBody s_law, defScope s_law, [], []⟩
theorem sc_law : FnScope N_law ps_law (defScope s_law) := ⟨rfl, rfl, rfl, by decide +kernel, rfl, by decide +kernel, by decide +kernel⟩
theorem bd_law {K : PySem.W.Frag} {f : Addr} {fd : FuncData} (F : FunD K "law" "law" (defArgs s_law) (defBody s_law) (defScope s_law) [] [] f fd) : Binds K fd ps_law [] := F.bindsN fun _ _ _ _ _ _ us hl => match us, hl with | [_], _ => rfl
def fns : List He.DefD := [(d_is_whole : He.DefD), (d_is_count : He.DefD), (d_is_element_in : He.DefD), (d_common : He.DefD), (d_is_tower_form : He.DefD), (d_need_tower : He.DefD), (d_need_element : He.DefD), (d_lowest_in : He.DefD), (d_whole_in : He.DefD), (d_is_nought_in : He.DefD), (d_plus_in : He.DefD), (d_other_in : He.DefD), (d_minus_in : He.DefD), (d_halves_in : He.DefD), (d_joined_in : He.DefD), (d_times_in : He.DefD), (d_turned_in : He.DefD), (d_norm_in : He.DefD), (d_inverse_in : He.DefD), (d_over_in : He.DefD), (d_lifted_in : He.DefD), (d_need_two : He.DefD), (d_sign_in : He.DefD), (d_sign : He.DefD), (d_order : He.DefD), (d_root_below : He.DefD), (d_lowest : He.DefD), (d_products : He.DefD), (d_span_in : He.DefD), (d_is_bound : He.DefD), (d_are_bounds_in : He.DefD), (d_are_bounds : He.DefD), (d_bounds_in : He.DefD), (d_bounds : He.DefD), (d_whole_root : He.DefD), (d_some_root : He.DefD), (d_root_in : He.DefD), (d_square_root : He.DefD), (d_bar_in : He.DefD), (d_tower_bar : He.DefD), (d_is_tower : He.DefD), (d_is_odd_prime : He.DefD), (d_need_prime : He.DefD), (d_inverse : He.DefD), (d_in_ring : He.DefD), (d_ring_of : He.DefD), (d_ring_times : He.DefD), (d_ring_power : He.DefD), (d_ring_norm : He.DefD), (d_fits_in : He.DefD), (d_fits : He.DefD), (d_led : He.DefD), (d_rests_in : He.DefD), (d_all_rests : He.DefD), (d_moves_in : He.DefD), (d_nested_in : He.DefD), (d_is_nested_in : He.DefD), (d_nested_paper : He.DefD), (d_is_nested_paper : He.DefD), (d_power_in_ring : He.DefD), (d__law_pen : He.DefD), (d__law_draw : He.DefD), (d__law_pick : He.DefD), (d__law_gcd : He.DefD), (d__law_lowest : He.DefD), (d__law_size : He.DefD), (d__law_sum : He.DefD), (d__law_product : He.DefD), (d__law_root_below : He.DefD), (d__law_near : He.DefD), (d__law_worth : He.DefD), (d__law_twos : He.DefD), (d_law : He.DefD)]
def fas : List He.Fa := [(He.Fa.glo "is_whole"), (He.Fa.glo "is_count"), (He.Fa.glo "is_element_in"), (He.Fa.glo "common"), (He.Fa.glo "is_tower_form"), (He.Fa.glo "need_tower"), (He.Fa.glo "need_element"), (He.Fa.glo "lowest_in"), (He.Fa.glo "whole_in"), (He.Fa.glo "is_nought_in"), (He.Fa.glo "plus_in"), (He.Fa.glo "other_in"), (He.Fa.glo "minus_in"), (He.Fa.glo "halves_in"), (He.Fa.glo "joined_in"), (He.Fa.glo "times_in"), (He.Fa.glo "turned_in"), (He.Fa.glo "norm_in"), (He.Fa.glo "inverse_in"), (He.Fa.glo "over_in"), (He.Fa.glo "lifted_in"), (He.Fa.glo "need_two"), (He.Fa.glo "sign_in"), (He.Fa.glo "sign"), (He.Fa.glo "order"), (He.Fa.glo "root_below"), (He.Fa.glo "lowest"), (He.Fa.glo "products"), (He.Fa.glo "span_in"), (He.Fa.glo "is_bound"), (He.Fa.glo "are_bounds_in"), (He.Fa.glo "are_bounds"), (He.Fa.glo "bounds_in"), (He.Fa.glo "bounds"), (He.Fa.glo "whole_root"), (He.Fa.glo "some_root"), (He.Fa.glo "root_in"), (He.Fa.glo "square_root"), (He.Fa.glo "bar_in"), (He.Fa.glo "tower_bar"), (He.Fa.glo "is_tower"), (He.Fa.glo "is_odd_prime"), (He.Fa.glo "need_prime"), (He.Fa.glo "inverse"), (He.Fa.glo "in_ring"), (He.Fa.glo "ring_of"), (He.Fa.glo "ring_times"), (He.Fa.glo "ring_power"), (He.Fa.glo "ring_norm"), (He.Fa.glo "fits_in"), (He.Fa.glo "fits"), (He.Fa.glo "led"), (He.Fa.glo "rests_in"), (He.Fa.glo "all_rests"), (He.Fa.glo "moves_in"), (He.Fa.glo "nested_in"), (He.Fa.glo "is_nested_in"), (He.Fa.glo "nested_paper"), (He.Fa.glo "is_nested_paper"), (He.Fa.glo "power_in_ring"), (He.Fa.glo "_law_pen"), (He.Fa.glo "_law_draw"), (He.Fa.glo "_law_pick"), (He.Fa.glo "_law_gcd"), (He.Fa.glo "_law_lowest"), (He.Fa.glo "_law_size"), (He.Fa.glo "_law_sum"), (He.Fa.glo "_law_product"), (He.Fa.glo "_law_root_below"), (He.Fa.glo "_law_near"), (He.Fa.glo "_law_worth"), (He.Fa.glo "_law_twos"), (He.Fa.glo "law"), (He.Fa.int "MOST_ROOTS" 4), (He.Fa.int "MOST_PRIME" 10000), (He.Fa.free "len"), (He.Fa.free "abs"), (He.Fa.free "int"), (He.Fa.free "tuple"), (He.Fa.free "list"), (He.Fa.free "all"), (He.Fa.free "any"), (He.Fa.free "sum"), (He.Fa.free "sorted"), (He.Fa.free "min"), (He.Fa.free "max"), (He.Fa.free "isinstance"), (He.Fa.free "range"), (He.Fa.free "enumerate"), (He.Fa.free "zip"), (He.Fa.free "bool"), (He.Fa.free "str")]
def gcdB (K : PySem.W.Frag) : Bool := He.eqO (PySem.W.nsIn K mainGlobals "gcd") (some (some (.builtin "math.gcd")))
def obsZ (g : Addr → Option Obj) : He.AlD × Bool := (He.obsDG 2 fas fns g, gcdB (He.frG g (He.asD g 2)))
def hk : PySem.W.Hook where
  α := He.AlD × Bool
  obs := fun s => obsZ s.heap.get?
  val := fun _ => (He.valD fns, true)
  says := fun _ h => ∃ K : PySem.W.Frag, K.In h ∧ He.SaysD fas fns K ∧ gcdB K = true
  of := fun _ _ e => ⟨_, He.frG_in, congrArg (fun z : He.AlD × Bool => z.1) e, congrArg (fun z : He.AlD × Bool => z.2) e⟩
  keeps := fun _ _ _ ⟨K, hK, c⟩ k => ⟨K, PySem.W.Frag.In.keeps hK k, c⟩
def ob (s : PySem.W.SharedT) : He.AlD × Bool := obsZ (HandSHeadRun.getT s)
theorem ob_eq (s : PySem.W.SharedT) : ob s = hk.obs s.abs := by
  have e : HandSHeadRun.getT s = s.abs.heap.get? := funext fun a => HandSHeadRun.getT_eq s a
  unfold ob
  rw [e] <;> rfl
abbrev R : PySem.W.OpenRow := PySem.W.OpenLaw.row PySem.Challenge.rw_nestedroots_k28_whole_towers_of_twos
def loose : List Str := [Str.ofString "RootError", Str.ofString "BadNumber", Str.ofString "BadElement", Str.ofString "BadTower", Str.ofString "BadPrime", Str.ofString "is_whole", Str.ofString "is_count", Str.ofString "MOST_ROOTS", Str.ofString "is_element_in", Str.ofString "common", Str.ofString "is_tower_form", Str.ofString "need_tower", Str.ofString "need_element", Str.ofString "lowest_in", Str.ofString "whole_in", Str.ofString "is_nought_in", Str.ofString "plus_in", Str.ofString "other_in", Str.ofString "minus_in", Str.ofString "halves_in", Str.ofString "joined_in", Str.ofString "times_in", Str.ofString "turned_in", Str.ofString "norm_in", Str.ofString "inverse_in", Str.ofString "over_in", Str.ofString "lifted_in", Str.ofString "need_two", Str.ofString "sign_in", Str.ofString "sign", Str.ofString "order", Str.ofString "root_below", Str.ofString "lowest", Str.ofString "products", Str.ofString "span_in", Str.ofString "is_bound", Str.ofString "are_bounds_in", Str.ofString "are_bounds", Str.ofString "bounds_in", Str.ofString "bounds", Str.ofString "whole_root", Str.ofString "some_root", Str.ofString "root_in", Str.ofString "square_root", Str.ofString "bar_in", Str.ofString "tower_bar", Str.ofString "is_tower", Str.ofString "MOST_PRIME", Str.ofString "is_odd_prime", Str.ofString "need_prime", Str.ofString "inverse", Str.ofString "in_ring", Str.ofString "ring_of", Str.ofString "ring_times", Str.ofString "ring_power", Str.ofString "ring_norm", Str.ofString "fits_in", Str.ofString "fits", Str.ofString "led", Str.ofString "rests_in", Str.ofString "all_rests", Str.ofString "moves_in", Str.ofString "nested_in", Str.ofString "is_nested_in", Str.ofString "nested_paper", Str.ofString "is_nested_paper", Str.ofString "power_in_ring", Str.ofString "_law_pen", Str.ofString "_law_draw", Str.ofString "_law_pick", Str.ofString "_law_gcd", Str.ofString "_law_lowest", Str.ofString "_law_size", Str.ofString "_law_sum", Str.ofString "_law_product", Str.ofString "_law_root_below", Str.ofString "_law_near", Str.ofString "_law_worth", Str.ofString "_law_twos"]
theorem run (w : World) : HandSHeadRun.RunEqI R (PySem.W.view R.prog [0, 86]) hk ob 12000 loose w := by
  unfold HandSHeadRun.RunEqI
  kernel_rfl
end K28

/-! Z: a small interpreter of Python, by continuations, Bool-valued: true says that the run ends, and ends so that its continuation says true. -/
namespace Z

/-- values: tuples and lists that nobody changes are plain data; objects stand in the heap; gl: a thing of the module -/
inductive D where
  | non | bl (b : Bool) | int (i : Int) | str (x : List Nat) | tup (ds : List D) | lst (ds : List D) | ref (n : Nat) | gl (n : Nat)
/-- objects: a list, an instance (class, fields), the draws' pen (at most so many draws so far) -/
inductive O where
  | lst (ds : List D) | ins (c : Nat) (fs : List (Nat × D)) | pen (c : Nat)
/-- the heap: the next label; what stands, the newest first -/
structure Hd where
  nx : Nat
  es : List (Nat × O)

inductive Op | add | sub | mul | fdiv | mod | pow | shl | shr | band
inductive Cm | eq | ne | lt | le | gt | ge | is | isn | isin | notin
inductive Bi | len | abs | gcd | int | tuple | list | all | any | sum | sorted | min | max
inductive Bm | append | extend | pop | bitlen
inductive Ty | int | bool | str | tuple | list | seq

/-- targets that are names -/
inductive G where
  | nm (i : Nat) | tp (gs : G) | nil | cons (g gs : G)

inductive E where
  | var (i : Nat) | int (i : Int) | bl (b : Bool) | non | str (x : List Nat) | glb (n : Nat)
  | nil | cons (e es : E)
  | tup (es : E) | lst (es : E) | allo (e : E)
  | bop (o : Op) (a b : E) | neg (a : E) | not (a : E)
  | cmp (o : Cm) (a b : E) | chain (o p : Cm) (a b c : E)
  | and (a b : E) | or (a b : E) | ife (c a b : E)
  | call (f : Nat) (es : E) | cval (e es : E) | bcall (b : Bi) (es : E) | isi (e : E) (t : Ty)
  | meth (c m f : Nat) (o es : E) | bm (m : Bm) (o es : E) | make (c : Nat) (es : E)
  | attr (c : Nat) (o : E) (n : Nat)
  | ix (a b : E) | slc (a lo hi : E) | nop | rev (a : E)
  | enum (a : E) | zip (a b : E) | rng1 (a : E) | rng2 (a b : E) | rng3 (a b c : E)
  | comp (own : List Nat) (elt : E) (g : G) (it cnd : E)
  | comp2 (own own1 : List Nat) (elt : E) (g : G) (it cnd : E) (g1 : G) (it1 cnd1 : E)

inductive S where
  | skip | seq (a b : S) | expr (e : E) | set (i : Nat) (e : E) | par (is : List Nat) (e : E) | unp (g : G) (e : E)
  | sattr (c : Nat) (o : E) (n : Nat) (e : E) | sitem (o i e : E)
  | aug (i : Nat) (o : Op) (e : E) | augitem (o i : E) (op : Op) (e : E)
  | ifs (c : E) (a b : S) | for_ (g : G) (it : E) (b : S) | whl (c : E) (b : S)
  | ret (e : E) | retn | pass | brk | cont | never | doc
  /-- what stands in some slots is let go; then the rest -/
  | drop (ks : List Bool) (b : S)

abbrev Sg := List (Option D)
abbrev K1 := D → Hd → Bool
abbrev KX := Nat → List D → Hd → Bool

/-! ### slots, heap -/
def getS : Sg → Nat → Option D
  | [], _ => none
  | d :: _, 0 => d
  | _ :: r, n + 1 => getS r n
def setS : Sg → Nat → D → Sg
  | [], _, _ => []
  | _ :: r, 0, x => some x :: r
  | d :: r, n + 1, x => d :: setS r n x
def clr : Sg → Nat → Sg
  | [], _ => []
  | _ :: r, 0 => none :: r
  | d :: r, n + 1 => d :: clr r n
def wipe (σ : Sg) : List Nat → Sg
  | [] => σ
  | v :: vs => clr (wipe σ vs) v
def look : List (Nat × O) → Nat → Option O
  | [], _ => none
  | (l, o) :: r, n => match Nat.beq l n with | true => some o | false => look r n
def put : List (Nat × O) → Nat → O → List (Nat × O)
  | [], _, _ => []
  | (l, o) :: r, n, u => match Nat.beq l n with | true => (l, u) :: r | false => (l, o) :: put r n u
def cut : List (Nat × O) → Nat → List (Nat × O)
  | [], _ => []
  | (l, o) :: r, n => match Nat.ble n l with | true => cut r n | false => (l, o) :: cut r n
def fld : List (Nat × D) → Nat → Option D
  | [], _ => none
  | (l, o) :: r, n => match Nat.beq l n with | true => some o | false => fld r n
def putf : List (Nat × D) → Nat → D → List (Nat × D)
  | [], n, d => [(n, d)]
  | (l, o) :: r, n, d => match Nat.beq l n with | true => (l, d) :: r | false => (l, o) :: putf r n d

/-! ### plain operations -/
def few (n : Nat) : Bool := Nat.ble n 100000
def bitsOf (i : Int) : Nat := Nat.log2 i.natAbs
def truth (h : Hd) : D → Option Bool
  | .non => some false
  | .bl b => some b
  | .int i => some (!(decide (i = 0)))
  | .str x => some (!x.isEmpty)
  | .tup ds => some (!ds.isEmpty)
  | .lst ds => some (!ds.isEmpty)
  | .ref n => match look h.es n with | some (.lst ds) => some (!ds.isEmpty) | _ => none
  | .gl _ => none
/-- the items of a list -/
def itemsL (h : Hd) : D → Option (List D)
  | .lst ds => some ds
  | .ref n => match look h.es n with | some (.lst ds) => some ds | _ => none
  | _ => none
/-- the items of a list or tuple -/
def items (h : Hd) : D → Option (List D)
  | .tup ds => some ds
  | d => itemsL h d
def repD (ds : List D) : Nat → List D
  | 0 => []
  | n + 1 => ds ++ repD ds n
/-- lists put together -/
def catL (h : Hd) (x y : D) : Option D := match itemsL h x, itemsL h y with
  | some xs, some ys => if few (xs.length + ys.length) then some (.lst (xs ++ ys)) else none
  | _, _ => none
def b2z (b : Bool) : Int := match b with | true => 1 | false => 0
def addD (h : Hd) (x y : D) : Option D := match x with
  | .int i => (match y with | .int j => some (.int (i + j)) | .bl b => some (.int (i + b2z b)) | _ => none)
  | .tup xs => (match y with | .tup ys => if few (xs.length + ys.length) then some (.tup (xs ++ ys)) else none | _ => none)
  | .str xs => (match y with | .str ys => if few (xs.length + ys.length) then some (.str (xs ++ ys)) else none | _ => none)
  | .bl a => (match y with | .bl b => some (.int (b2z a + b2z b)) | _ => none)
  | x => catL h x y
def subD (x y : D) : Option D := match x with
  | .int i => (match y with | .int j => some (.int (i - j)) | _ => none)
  | .bl a => (match y with | .bl b => some (.int (b2z a - b2z b)) | _ => none)
  | _ => none
def mulD (x y : D) : Option D := match y with
  | .int j => (match x with
    | .int i => if bitsOf i + bitsOf j < 1000000 then some (.int (i * j)) else none
    | .tup xs => if decide (-1000 ≤ j) && decide (j ≤ 1000) && Nat.ble xs.length 1000 then some (.tup (repD xs j.toNat)) else none
    | .lst xs => if decide (-1000 ≤ j) && decide (j ≤ 1000) && few (xs.length * j.toNat) then some (.lst (repD xs j.toNat)) else none
    | _ => none)
  | _ => none
def divD (x y : D) : Option D := match x with
  | .int i => (match y with
    | .int j => if 0 < j ∧ bitsOf j < 9000 then some (.int (i / j)) else if j ≠ 0 ∧ j.natAbs < 1073741824 then some (.int (i.fdiv j)) else none
    | _ => none)
  | _ => none
def modD (x y : D) : Option D := match x with
  | .int i => (match y with | .int j => if 0 < j then some (.int (i % j)) else if j = 0 then none else some (.int (i.fmod j)) | _ => none)
  | _ => none
def powD (x y : D) : Option D := match x with
  | .int i => (match y with | .int j => if 0 ≤ j ∧ j ≤ 1000000 ∧ i.natAbs < 2 ^ 64 then some (.int (i ^ j.toNat)) else none | _ => none)
  | _ => none
def shlD (x y : D) : Option D := match x with
  | .int i => (match y with | .int j => if 0 ≤ j ∧ j ≤ 1000000 ∧ i.natAbs < 2 ^ 64 then some (.int (i * 2 ^ j.toNat)) else none | _ => none)
  | _ => none
def opD (h : Hd) (o : Op) (x y : D) : Option D := match o with
  | .add => addD h x y
  | .sub => subD x y
  | .mul => mulD x y
  | .fdiv => divD x y
  | .mod => modD x y
  | .pow => powD x y
  | .shl => shlD x y
  | .shr => none
  | .band => none

mutual
/-- == of plain data -/
def eqD : D → D → Bool
  | .non, .non => true
  | .bl a, .bl b => a == b
  | .bl a, .int j => (if a then 1 else 0) == j
  | .int i, .bl b => i == (if b then 1 else 0)
  | .int i, .int j => i == j
  | .str x, .str y => x == y
  | .tup xs, .tup ys => eqL xs ys
  | .lst xs, .lst ys => eqL xs ys
  | _, _ => false
def eqL : List D → List D → Bool
  | [], [] => true
  | x :: xs, y :: ys => match eqD x y with | true => eqL xs ys | false => false
  | _, _ => false
end
mutual
/-- plain data, not too deep -/
def shp : Nat → D → Bool
  | 0, _ => false
  | n + 1, .tup ds => shpL n ds
  | n + 1, .lst ds => shpL n ds
  | _ + 1, .ref _ => false
  | _ + 1, .gl _ => false
  | _ + 1, _ => true
def shpL : Nat → List D → Bool
  | 0, _ => false
  | _ + 1, [] => true
  | n + 1, d :: ds => match shp n d with | true => shpL n ds | false => false
end
/-- a list's object as data -/
def flat (h : Hd) (d : D) : D := match d with
  | .ref n => match look h.es n with | some (.lst ds) => .lst ds | _ => .ref n
  | d => d
def eqv (h : Hd) (x y : D) : Option Bool := match x, y with
  | .int i, .int j => some (i == j)
  | .str i, .str j => some (i == j)
  | x, y => if shp 40 (flat h x) && shp 40 (flat h y) then some (eqD (flat h x) (flat h y)) else none
def isNon : D → Bool
  | .non => true
  | _ => false
def cmpD (h : Hd) (o : Cm) (x y : D) : Option Bool := match o with
  | .eq => eqv h x y
  | .ne => match eqv h x y with | some b => some (!b) | none => none
  | .lt => match x, y with | .int i, .int j => some (decide (i < j)) | _, _ => none
  | .le => match x, y with | .int i, .int j => some (decide (i ≤ j)) | _, _ => none
  | .gt => match x, y with | .int i, .int j => some (decide (j < i)) | _, _ => none
  | .ge => match x, y with | .int i, .int j => some (decide (j ≤ i)) | _, _ => none
  | .is => match y with | .non => some (isNon x) | .bl b => (match x with | .bl a => some (decide (a = b)) | _ => none) | _ => none
  | .isn => match y with | .non => some (!isNon x) | .bl b => (match x with | .bl a => some (!decide (a = b)) | _ => none) | _ => none
  | _ => none

/-! ### places -/
def ixOf (n : Nat) (i : Int) : Option Nat := if 0 ≤ i then (if i < n then some i.toNat else none) else if -(n : Int) ≤ i then some (i + n).toNat else none
def atD (ds : List D) (i : Int) : Option D := (ixOf ds.length i).bind fun j => ds[j]?
def bd (n d : Nat) : Option Int → Nat
  | none => d
  | some v => if v < 0 then (v + (n : Int)).toNat else min v.toNat n
def cutD (ds : List D) (lo hi : Option Int) : List D := (ds.drop (bd ds.length 0 lo)).take (bd ds.length ds.length hi - bd ds.length 0 lo)
def intsOf : List D → Option (List Int)
  | [] => some []
  | .int i :: r => match intsOf r with | some l => some (i :: l) | none => none
  | _ :: _ => none
/-- the truth of plain data -/
def truthP : D → Bool
  | .non => false
  | .bl b => b
  | .int i => !(decide (i = 0))
  | .str x => !x.isEmpty
  | .tup ds => !ds.isEmpty
  | .lst ds => !ds.isEmpty
  | _ => true
def anyT : List D → Bool
  | [] => false
  | d :: r => match truthP d with | true => true | false => anyT r
def allT : List D → Bool
  | [] => true
  | d :: r => match truthP d with | false => false | true => allT r
def maxL (m : Int) : List Int → Int
  | [] => m
  | i :: r => maxL (if m < i then i else m) r
def minL (m : Int) : List Int → Int
  | [] => m
  | i :: r => minL (if i < m then i else m) r
def isTy (h : Hd) (d : D) : Ty → Option Bool
  | .int => match d with | .int _ => some true | .bl _ => some true | .gl _ => none | .ref n => (match look h.es n with | some (.lst _) => some false | _ => none) | _ => some false
  | .bool => match d with | .bl _ => some true | .gl _ => none | .ref n => (match look h.es n with | some (.lst _) => some false | _ => none) | _ => some false
  | .str => match d with | .str _ => some true | .gl _ => none | .ref n => (match look h.es n with | some (.lst _) => some false | _ => none) | _ => some false
  | .tuple => match d with | .tup _ => some true | .gl _ => none | .ref n => (match look h.es n with | some (.lst _) => some false | _ => none) | _ => some false
  | .list => match d with | .lst _ => some true | .gl _ => none | .ref n => (match look h.es n with | some (.lst _) => some true | _ => none) | _ => some false
  | .seq => match d with | .lst _ => some true | .tup _ => some true | .gl _ => none | .ref n => (match look h.es n with | some (.lst _) => some true | _ => none) | _ => some false
def biD (h : Hd) (b : Bi) (ds : List D) : Option D := match b with
  | .len => (match ds with
    | [.str x] => some (.int x.length)
    | [d] => (items h d).map fun xs => .int xs.length
    | _ => none)
  | .abs => (match ds with | [.int i] => some (.int (if i < 0 then -i else i)) | _ => none)
  | .gcd => (match ds with | [.int a, .int b] => some (.int (Nat.gcd a.natAbs b.natAbs)) | _ => none)
  | .int => (match ds with | [.int i] => some (.int i) | [.bl b] => some (.int (if b then 1 else 0)) | _ => none)
  | .tuple => (match ds with | [d] => (items h d).map .tup | _ => none)
  | .list => (match ds with | [d] => (items h d).map .lst | _ => none)
  | .all => (match ds with | [d] => (match items h d with | some xs => if shpL 60 xs then some (.bl (allT xs)) else none | none => none) | _ => none)
  | .any => (match ds with | [d] => (match items h d with | some xs => if shpL 60 xs then some (.bl (anyT xs)) else none | none => none) | _ => none)
  | .sum => (match ds with | [d] => ((itemsL h d).bind intsOf).map fun l => .int l.sum | _ => none)
  | .max => (match ds with
    | [.int i, .int j] => some (.int (if j > i then j else i))
    | [d] => ((itemsL h d).bind intsOf).bind fun l => (match l with | i :: l => some (.int (maxL i l)) | [] => none)
    | _ => none)
  | .min => (match ds with
    | [.int i, .int j] => some (.int (if j < i then j else i))
    | [d] => ((itemsL h d).bind intsOf).bind fun l => (match l with | i :: l => some (.int (minL i l)) | [] => none)
    | _ => none)
  | .sorted => none

/-! ### what loops walk -/
def rng (lo st : Int) : Nat → List D
  | 0 => []
  | n + 1 => .int lo :: rng (lo + st) st n
def rngSize (lo hi st : Int) : Nat := if lo < hi then ((hi - lo - 1) / st + 1).toNat else 0
/-- what is left to be walked: values, or the list at n from place i on -/
inductive Cu where
  | fix (xs : List D) | obj (n i : Nat)
inductive Cur where
  | b (c : Cu) | en (i : Int) (c : Cu) | zp (c d : Cu)
def cuOf (h : Hd) : D → Option Cu
  | .tup ds => some (.fix ds)
  | .lst ds => some (.fix ds)
  | .ref n => match look h.es n with | some (.lst _) => some (.obj n 0) | _ => none
  | _ => none
/-- none: no walk; some none: it ends -/
def step0 (h : Hd) : Cu → Option (Option (D × Cu))
  | .fix [] => some none
  | .fix (x :: r) => some (some (x, .fix r))
  | .obj n i => match look h.es n with
    | some (.lst ds) => match ds[i]? with | some d => some (some (d, .obj n (i + 1))) | none => some none
    | _ => none
def step (h : Hd) : Cur → Option (Option (D × Cur))
  | .b c => match step0 h c with | some (some (x, c')) => some (some (x, .b c')) | some none => some none | none => none
  | .en i c => match step0 h c with | some (some (x, c')) => some (some (.tup [.int i, x], .en (i + 1) c')) | some none => some none | none => none
  | .zp c d => match step0 h c, step0 h d with
    | some (some (x, c')), some (some (y, d')) => some (some (.tup [x, y], .zp c' d'))
    | some _, some _ => some none
    | _, _ => none
def curI (e : E) (h : Hd) (d : D) : Option Cur := match e with
  | .enum _ => match d with | .tup [x] => (match cuOf h x with | some c => some (.en 0 c) | none => none) | _ => none
  | .zip _ _ => match d with | .tup [x, y] => (match cuOf h x, cuOf h y with | some c, some d => some (.zp c d) | _, _ => none) | _ => none
  | _ => match cuOf h d with | some c => some (.b c) | none => none

/-! ### stores into names -/
def setG : G → D → Sg → Option Sg
  | .nm i, d, σ => some (setS σ i d)
  | .tp g, .tup ds, σ => setG g (.tup ds) σ
  | .tp g, .lst ds, σ => setG g (.tup ds) σ
  | .nil, .tup [], σ => some σ
  | .cons g gs, .tup (d :: ds), σ => match setG g d σ with | some σ' => setG gs (.tup ds) σ' | none => none
  | _, _, _ => none

/-- what the text gives: calls; constants and things of the module -/
structure Tx where
  F : Nat → List D → Hd → KX → K1 → Bool
  C : Nat → Option D

/-- the walk of a comprehension: what is kept, in order -/
def comp (b : D → Hd → (Option D → Hd → Bool) → Bool) : Nat → Cur → Hd → (List D → Hd → Bool) → Bool
  | 0, _, _, _ => false
  | n + 1, c, h, k => match step h c with
    | none => false
    | some none => k [] h
    | some (some (x, c')) => b x h fun y h1 => comp b n c' h1 fun ys h2 => match y with | some y => k (y :: ys) h2 | none => k ys h2

abbrev Ev := Sg → Hd → KX → K1 → Bool
def never : KX := fun _ _ _ => false
def big : Nat := 1000000
def bmD (h : Hd) (m : Bm) (o : D) (ds : List D) : Option (D × Hd) := match m, o, ds with
  | .append, .ref n, [d] => match look h.es n with | some (.lst xs) => if few xs.length then some (.non, ⟨h.nx, put h.es n (.lst (xs ++ [d]))⟩) else none | _ => none
  | .extend, .ref n, [d] => match look h.es n, d with
    | some (.lst xs), .lst ys => if few (xs.length + ys.length) then some (.non, ⟨h.nx, put h.es n (.lst (xs ++ ys))⟩) else none
    | _, _ => none
  | .pop, .ref n, [] => match look h.es n with
    | some (.lst xs) => match xs[xs.length - 1]? with | some y => some (y, ⟨h.nx, put h.es n (.lst xs.dropLast)⟩) | none => none
    | _ => none
  | .bitlen, .int i, [] => some (.int (if i = 0 then 0 else (bitsOf i + 1 : Nat)), h)
  | _, _, _ => none
def recv (h : Hd) (m : Bm) (d : D) : Bool := match d with
  | .int _ => (match m with | .bitlen => true | _ => false)
  | .ref n => (match m with | .bitlen => false | _ => match look h.es n with | some (.lst _) => true | _ => false)
  | _ => false
def isNop : E → Bool
  | .nop => true
  | _ => false
def part (e : E) (d : D) : Option (Option Int) := match isNop e with
  | true => some none
  | false => match d with
    | .int i => some (some i)
    | _ => none
def sliceD (h : Hd) (x : D) (l u : Option Int) : Option D := match x with
  | .tup ds => some (.tup (cutD ds l u))
  | x => (itemsL h x).map fun ds => .lst (cutD ds l u)

def ev (T : Tx) : E → Ev
  | .var i => fun σ h _ k => match getS σ i with | some d => k d h | none => false
  | .int i => fun _ h _ k => k (.int i) h
  | .bl b => fun _ h _ k => k (.bl b) h
  | .non => fun _ h _ k => k .non h
  | .nop => fun _ h _ k => k .non h
  | .str x => fun _ h _ k => k (.str x) h
  | .glb n => fun _ h _ k => match T.C n with | some d => k d h | none => false
  | .nil => fun _ h _ k => k (.tup []) h
  | .cons e es => fun σ h x k => ev T e σ h x fun d h1 => ev T es σ h1 x fun r h2 => match r with | .tup ds => k (.tup (d :: ds)) h2 | _ => false
  | .tup es => fun σ h x k => ev T es σ h x k
  | .lst es => fun σ h x k => ev T es σ h x fun r h1 => match r with | .tup ds => k (.lst ds) h1 | _ => false
  | .allo e => fun σ h x k => ev T e σ h x fun r h1 => match r with | .lst ds => k (.ref h1.nx) ⟨h1.nx + 1, (h1.nx, .lst ds) :: h1.es⟩ | _ => false
  | .bop o a b => fun σ h x k => ev T a σ h x fun d h1 => ev T b σ h1 x fun e h2 => match opD h2 o d e with | some z => k z h2 | none => false
  | .neg a => fun σ h x k => ev T a σ h x fun d h1 => match d with | .int i => k (.int (-i)) h1 | _ => false
  | .not a => fun σ h x k => ev T a σ h x fun d h1 => match truth h1 d with | some b => k (.bl (!b)) h1 | none => false
  | .cmp o a b => fun σ h x k => ev T a σ h x fun d h1 => ev T b σ h1 x fun e h2 => match cmpD h2 o d e with | some z => k (.bl z) h2 | none => false
  | .chain o p a b c => fun σ h x k => ev T a σ h x fun d h1 => ev T b σ h1 x fun e h2 => match cmpD h2 o d e with
    | some true => ev T c σ h2 x fun f h3 => match cmpD h3 p e f with | some z => k (.bl z) h3 | none => false
    | some false => k (.bl false) h2
    | none => false
  | .and a b => fun σ h x k => ev T a σ h x fun d h1 => match truth h1 d with | some true => ev T b σ h1 x k | some false => k d h1 | none => false
  | .or a b => fun σ h x k => ev T a σ h x fun d h1 => match truth h1 d with | some false => ev T b σ h1 x k | some true => k d h1 | none => false
  | .ife c a b => fun σ h x k => ev T c σ h x fun d h1 => match truth h1 d with | some true => ev T a σ h1 x k | some false => ev T b σ h1 x k | none => false
  | .call f es => fun σ h x k => ev T es σ h x fun r h1 => match r with | .tup ds => T.F f ds h1 x k | _ => false
  | .cval e es => fun σ h x k => ev T e σ h x fun g h1 => ev T es σ h1 x fun r h2 => match g, r with | .gl f, .tup ds => T.F f ds h2 x k | _, _ => false
  | .bcall b es => fun σ h x k => ev T es σ h x fun r h1 => match r with | .tup ds => (match biD h1 b ds with | some d => k d h1 | none => false) | _ => false
  | .isi e t => fun σ h x k => ev T e σ h x fun d h1 => match isTy h1 d t with | some b => k (.bl b) h1 | none => false
  | .meth c m f o es => fun σ h x k => ev T o σ h x fun d h1 => match d with
    | .ref n => (match look h1.es n with
      | some (.ins c' fs) => (match Nat.beq c c', fld fs m with
        | true, none => ev T es σ h1 x fun r h2 => match r with | .tup ds => T.F f (.ref n :: ds) h2 x k | _ => false
        | _, _ => false)
      | _ => false)
    | _ => false
  | .bm m o es => fun σ h x k => ev T o σ h x fun d h1 => match recv h1 m d with | false => false | true => ev T es σ h1 x fun r h2 => match r with | .tup ds => (match bmD h2 m d ds with | some (z, h3) => k z h3 | none => false) | _ => false
  | .make c es => fun σ h x k => ev T es σ h x fun r h1 => match r with
    | .tup ds => T.F c (.ref h1.nx :: ds) ⟨h1.nx + 1, (h1.nx, .ins c []) :: h1.es⟩ x fun z h2 => match z with | .non => k (.ref h1.nx) h2 | _ => false
    | _ => false
  | .attr c o n => fun σ h x k => ev T o σ h x fun d h1 => match d with
    | .ref l => (match look h1.es l with
      | some (.ins c' fs) => (match Nat.beq c c', fld fs n with | true, some z => k z h1 | _, _ => false)
      | _ => false)
    | _ => false
  | .ix a b => fun σ h x k => ev T a σ h x fun d h1 => ev T b σ h1 x fun e h2 => match e with
    | .int i => (match items h2 d with | some ds => (match atD ds i with | some z => k z h2 | none => false) | none => false)
    | _ => false
  | .slc a lo hi => fun σ h x k => ev T a σ h x fun d h1 => ev T lo σ h1 x fun l h2 => match part lo l with
    | some l => ev T hi σ h2 x fun u h3 => (match part hi u with
      | some u => (match sliceD h3 d l u with | some z => k z h3 | none => false)
      | none => false)
    | none => false
  | .rev a => fun σ h x k => ev T a σ h x fun d h1 => match d with | .tup ds => k (.tup ds.reverse) h1 | _ => false
  | .enum a => fun σ h x k => ev T a σ h x fun d h1 => k (.tup [d]) h1
  | .zip a b => fun σ h x k => ev T a σ h x fun d h1 => ev T b σ h1 x fun e h2 => k (.tup [d, e]) h2
  | .rng1 a => fun σ h x k => ev T a σ h x fun d h1 => match d with | .int j => if -(2 ^ 62) ≤ j ∧ j < 2 ^ 62 then k (.lst (rng 0 1 j.toNat)) h1 else false | _ => false
  | .rng2 a b => fun σ h x k => ev T a σ h x fun d h1 => ev T b σ h1 x fun e h2 => match d, e with
    | .int i, .int j => if -(2 ^ 62) ≤ i ∧ i < 2 ^ 62 ∧ -(2 ^ 62) ≤ j ∧ j < 2 ^ 62 then k (.lst (rng i 1 (j - i).toNat)) h2 else false
    | _, _ => false
  | .rng3 a b c => fun σ h x k => ev T a σ h x fun d h1 => ev T b σ h1 x fun e h2 => ev T c σ h2 x fun f h3 => match d, e, f with
    | .int i, .int j, .int s => if -(2 ^ 30) ≤ i ∧ i < 2 ^ 30 ∧ -(2 ^ 30) ≤ j ∧ j < 2 ^ 30 ∧ 0 < s ∧ s < 2 ^ 20 then k (.lst (rng i s (rngSize i j s))) h3 else false
    | _, _, _ => false
  | .comp own elt g it cnd => fun σ h x k => ev T it σ h x fun d h1 => match curI it h1 d with
    | some c => comp (fun y h2 kk => match setG g y (wipe σ own) with
      | some σ1 => ev T cnd σ1 h2 never fun b h3 => match truth h3 b with
        | some true => ev T elt σ1 h3 never fun z h4 => kk (some z) h4
        | some false => kk none h3
        | none => false
      | none => false) big c h1 fun ds h2 => k (.lst ds) h2
    | none => false
  | .comp2 .. => fun _ _ _ _ => false

/-! ### statements -/
abbrev Kx := Nat → List D → Sg → Hd → Bool
abbrev Kn := Sg → Hd → Bool
abbrev Es := Sg → Hd → Kx → Kn → K1 → Kn → Kn → Bool
def forL (g : G) (b : Sg → Hd → Kn → Kn → Bool) : Nat → Cur → Sg → Hd → Kn → Bool
  | 0, _, _, _, _ => false
  | n + 1, c, σ, h, nx => match step h c with
    | none => false
    | some none => nx σ h
    | some (some (x, c')) => match setG g x σ with
      | some σ1 => b σ1 h (fun σ2 h2 => forL g b n c' σ2 h2 nx) nx
      | none => false
def whlL (c : Sg → Hd → (Bool → Hd → Bool) → Bool) (b : Sg → Hd → Kn → Kn → Bool) : Nat → Sg → Hd → Kn → Bool
  | 0, _, _, _ => false
  | n + 1, σ, h, nx => c σ h fun t h1 => match t with
    | true => b σ h1 (fun σ2 h2 => whlL c b n σ2 h2 nx) nx
    | false => nx σ h1
def parS : List Nat → List D → Sg → Option Sg
  | [], [], σ => some σ
  | i :: r, d :: ds, σ => match parS r ds σ with | some σ' => some (setS σ' i d) | none => none
  | _, _, _ => none
def at_ (x : Kx) (σ : Sg) : KX := fun c fs h => x c fs σ h
def setItem (h : Hd) (o i v : D) : Option Hd := match o, i with
  | .ref n, .int j => match look h.es n with
    | some (.lst xs) => match ixOf xs.length j with | some p => some ⟨h.nx, put h.es n (.lst (xs.set p v))⟩ | none => none
    | _ => none
  | _, _ => none
def getItem (h : Hd) (o i : D) : Option D := match i with
  | .int j => match items h o with | some xs => atD xs j | none => none
  | _ => none

/-- op= -/
def augD (h : Hd) (o : Op) (d v : D) : Option (D × Hd) := match d, v with
  | .int i, .int j => (match o with
    | .add => some (.int (i + j), h)
    | .sub => some (.int (i - j), h)
    | .fdiv => if 0 < j ∧ j < 1073741824 then some (.int (i / j), h) else none
    | _ => none)
  | .ref n, .lst ys => (match o with
    | .add => (match look h.es n with
      | some (.lst xs) => if few (xs.length + ys.length) then some (.ref n, ⟨h.nx, put h.es n (.lst (xs ++ ys))⟩) else none
      | _ => none)
    | _ => none)
  | _, _ => none
def keep : List Bool → Sg → Sg
  | [], _ => []
  | _ :: _, [] => []
  | b :: bs, o :: r => (match b with | true => o | false => none) :: keep bs r
/-- more draws than there were: the same bound on many ways -/
def upO : O → O
  | .pen c => .pen ((c / 64 + 1) * 64)
  | o => o
def upE : List (Nat × O) → List (Nat × O)
  | [] => []
  | (l, o) :: r => (l, upO o) :: upE r
def upH (h : Hd) : Hd := ⟨h.nx, upE h.es⟩
def evS (T : Tx) : S → Es
  | .skip => fun σ h _ nx _ _ _ => nx σ h
  | .pass => fun σ h _ nx _ _ _ => nx σ h
  | .doc => fun σ h _ nx _ _ _ => nx σ h
  | .never => fun _ _ _ _ _ _ _ => false
  | .brk => fun σ h _ _ _ bk _ => bk σ h
  | .cont => fun σ h _ _ _ _ ct => ct σ h
  | .seq a b => fun σ h x nx rt bk ct => evS T a σ h x (fun σ1 h1 => evS T b σ1 h1 x nx rt bk ct) rt bk ct
  | .expr e => fun σ h x nx _ _ _ => ev T e σ h (at_ x σ) fun _ h1 => nx σ h1
  | .set i e => fun σ h x nx _ _ _ => ev T e σ h (at_ x σ) fun d h1 => nx (setS σ i d) h1
  | .par is e => fun σ h x nx _ _ _ => ev T e σ h (at_ x σ) fun r h1 => match r with | .tup ds => (match parS is ds σ with | some σ1 => nx σ1 h1 | none => false) | _ => false
  | .unp g e => fun σ h x nx _ _ _ => ev T e σ h (at_ x σ) fun d h1 => match setG g d σ with | some σ1 => nx σ1 h1 | none => false
  | .sattr c o n e => fun σ h x nx _ _ _ => ev T e σ h (at_ x σ) fun v h1 => ev T o σ h1 (at_ x σ) fun d h2 => match d with
    | .ref l => (match look h2.es l with
      | some (.ins c' fs) => (match Nat.beq c c', Nat.ble fs.length 900 with | true, true => nx σ ⟨h2.nx, put h2.es l (.ins c' (putf fs n v))⟩ | _, _ => false)
      | _ => false)
    | _ => false
  | .sitem o i e => fun σ h x nx _ _ _ => ev T e σ h (at_ x σ) fun v h1 => ev T o σ h1 (at_ x σ) fun d h2 => ev T i σ h2 (at_ x σ) fun j h3 => match setItem h3 d j v with | some h4 => nx σ h4 | none => false
  | .aug i o e => fun σ h x nx _ _ _ => match getS σ i with
    | some d => ev T e σ h (at_ x σ) fun v h1 => match augD h1 o d v with | some (z, h2) => nx (setS σ i z) h2 | none => false
    | none => false
  | .augitem o i op e => fun σ h x nx _ _ _ => ev T o σ h (at_ x σ) fun d h1 => ev T i σ h1 (at_ x σ) fun j h2 => match getItem h2 d j with
    | some w => ev T e σ h2 (at_ x σ) fun v h3 => match opD h3 op w v with | some z => (match setItem h3 d j z with | some h4 => nx σ h4 | none => false) | none => false
    | none => false
  | .ifs c a b => fun σ h x nx rt bk ct => ev T c σ h (at_ x σ) fun d h1 => match truth h1 d with
    | some true => evS T a σ h1 x nx rt bk ct
    | some false => evS T b σ h1 x nx rt bk ct
    | none => false
  | .for_ g it b => fun σ h x nx rt _ _ => ev T it σ h (at_ x σ) fun d h1 => match curI it h1 d with
    | some c => forL g (fun σ1 h2 n1 b1 => evS T b σ1 h2 x n1 rt b1 n1) big c σ h1 nx
    | none => false
  | .whl c b => fun σ h x nx rt _ _ => whlL (fun σ1 h1 k => ev T c σ1 h1 (at_ x σ1) fun d h2 => match truth h2 d with | some t => k t h2 | none => false) (fun σ1 h2 n1 b1 => evS T b σ1 h2 x n1 rt b1 n1) big σ h nx
  | .ret e => fun σ h x _ rt _ _ => ev T e σ h (at_ x σ) rt
  | .retn => fun _ h _ _ rt _ _ => rt .non h
  | .drop ks b => fun σ h x nx rt bk ct => evS T b (keep ks σ) (upH h) x nx rt bk ct

/-! ### defs -/
structure Fd where
  np : Nat
  ns : Nat
  body : S
  /-- what the def's run has laid in the heap is let go behind it -/
  tidy : Bool
def blanks : Nat → Sg
  | 0 => []
  | n + 1 => none :: blanks n
def begin : List D → Nat → Sg
  | [], n => blanks n
  | d :: ds, 0 => some d :: begin ds 0
  | d :: ds, n + 1 => some d :: begin ds n
/-- a search tree -/
inductive Bt (α : Type) where
  | lf | nd (k : Nat) (v : α) (a b : Bt α)
def bt {α : Type} : Bt α → Nat → Option α
  | .lf, _ => none
  | .nd k v a b, n => match Nat.beq n k with | true => some v | false => match Nat.ble n k with | true => bt a n | false => bt b n
/-- calls to a depth; C: the module's things; N: what is known of a def by its own proof; M: runs that are known -/
def call (P : Nat → Option Fd) (C : Nat → Option D) (N : Nat → Option (List D → Hd → K1 → Bool)) (M : Nat → List D → Option D) : Nat → Nat → List D → Hd → KX → K1 → Bool
  | 0, _, _, _, _, _ => false
  | n + 1, f, ds, h, x, k => match M f ds with
    | some r => k r h
    | none => match N f with
      | some t => t ds h k
      | none => match P f with
        | some d => match Nat.beq ds.length d.np with
          | true => match d.tidy with
            | true => evS ⟨call P C N M n, C⟩ d.body (begin ds d.ns) h (fun c fs _ h1 => x c fs ⟨h1.nx, cut h1.es h.nx⟩) (fun _ h1 => k .non ⟨h1.nx, cut h1.es h.nx⟩) (fun v h1 => k v ⟨h1.nx, cut h1.es h.nx⟩) (fun _ _ => false) (fun _ _ => false)
            | false => evS ⟨call P C N M n, C⟩ d.body (begin ds d.ns) h (fun c fs _ h1 => x c fs h1) (fun _ h1 => k .non h1) k (fun _ _ => false) (fun _ _ => false)
          | false => false
        | none => false
end Z

namespace Z
open PySem PySem.Spec PyProof.Rows L2

abbrev HP := L2.Hp
/-- a world: where the labels' objects stand; the part of the heap that is known -/
structure Wd where
  ρ : Nat → Option Addr
  H : HP

/-- the law's script: a list of ints that nobody changes -/
def Scr (K : PySem.W.Frag) (H : HP) (a : Addr) : Prop := ∃ ns : List Int, ns.length ≤ 63 ∧ ((∃ o, H a = some (.frz o (.lst (ns.map V.int)))) ∨ SqL K (fun _ => none) a (ns.map V.int))
mutual
inductive VR (K : PySem.W.Frag) (γ : Nat → Option Addr) (w : Wd) : V → D → Prop
  | non : VR K γ w .non .non
  | bl (b : Bool) : VR K γ w (.bl b) (.bl b)
  | int (i : Int) : VR K γ w (.int i) (.int i)
  | str {x : Str} {l : List Nat} : x.cps.toList = l → l.length ≤ sizeLine → (∀ c ∈ l, c < 128) → VR K γ w (.str x) (.str l)
  | tup {a : Addr} {xs : List V} {ds : List D} : SqT K w.H a xs → ds.length ≤ sizeLine → VRs K γ w xs ds → VR K γ w (.ref a) (.tup ds)
  | lst {a : Addr} {xs : List V} {ds : List D} : w.H a = some (.lst xs) → (∀ n, w.ρ n ≠ some a) → ds.length ≤ sizeLine → VRs K γ w xs ds → VR K γ w (.ref a) (.lst ds)
  | ref {n : Nat} {a : Addr} : w.ρ n = some a → VR K γ w (.ref a) (.ref n)
  | gl {g : Nat} {a : Addr} : γ g = some a → (g = 999 → Scr K w.H a) → VR K γ w (.ref a) (.gl g)
inductive VRs (K : PySem.W.Frag) (γ : Nat → Option Addr) (w : Wd) : List V → List D → Prop
  | nil : VRs K γ w [] []
  | cons {v : V} {vs : List V} {d : D} {ds : List D} : VR K γ w v d → VRs K γ w vs ds → VRs K γ w (v :: vs) (d :: ds)
end

/-- what may change -/
def Chg : HO → Prop
  | .lst _ => True
  | .ins _ _ _ => True
  | .dK _ => True
  | .dT _ => True
  | _ => False
def Wf (w : Wd) : Prop := ∀ n a, w.ρ n = some a → ∃ o, w.H a = some o ∧ Chg o
def Sub (H H' : HP) : Prop := ∀ b o, H b = some o → H' b = some o
structure Le (w w' : Wd) : Prop where
  rho : ∀ n a, w.ρ n = some a → w'.ρ n = some a
  new : ∀ n a, w'.ρ n = some a → w.ρ n = some a ∨ w.H a = none
  keep : ∀ b o, w.H b = some o → (∀ n, w.ρ n ≠ some b) → w'.H b = some o
  ex : ∀ b o, w.H b = some o → ∃ o', w'.H b = some o'
theorem Le.refl (w : Wd) : Le w w := ⟨fun _ _ h => h, fun _ _ h => .inl h, fun _ _ h _ => h, fun _ o h => ⟨o, h⟩⟩
theorem Le.trans {w w1 w2 : Wd} (a : Le w w1) (b : Le w1 w2) : Le w w2 where
  rho := fun n x h => b.rho n x (a.rho n x h)
  new := fun n x h => by
    rcases b.new n x h with h1 | h1
    · exact a.new n x h1
    · right
      cases q : w.H x with
      | none => rfl
      | some o =>
        obtain ⟨o', e⟩ := a.ex x o q
        rw [h1] at e; cases e
  keep := fun c o h hn => b.keep c o (a.keep c o h hn) fun n z => by
    rcases a.new n c z with h1 | h1
    · exact hn n h1
    · rw [h] at h1; cases h1
  ex := fun c o h => by
    obtain ⟨o', e⟩ := a.ex c o h
    exact b.ex c o' e

structure Nx (w : Wd) (H : HP) (w' : Wd) (H' : HP) : Prop where
  le : Le w w'
  sub : Sub w'.H H'
  frame : ∀ b o, H b = some o → w.H b = none → H' b = some o
  fresh : ∀ b, w.H b = none → w'.H b ≠ none → H b = none
theorem Nx.refl {w : Wd} {H : HP} (s : Sub w.H H) : Nx w H w H := ⟨.refl w, s, fun _ _ h _ => h, fun _ h h' => absurd h h'⟩
theorem Nx.trans {w w1 w2 : Wd} {H H1 H2 : HP} (a : Nx w H w1 H1) (b : Nx w1 H1 w2 H2) : Nx w H w2 H2 where
  le := a.le.trans b.le
  sub := b.sub
  frame := fun c o h hn => b.frame c o (a.frame c o h hn) (by
    cases q : w1.H c with
    | none => rfl
    | some u =>
      have z := a.fresh c hn (by rw [q]; simp)
      rw [h] at z; cases z)
  fresh := fun c hn h2 => by
    cases q : w1.H c with
    | none =>
      have z := b.fresh c q h2
      cases e : H c with
      | none => rfl
      | some o =>
        have e1 := a.frame c o e hn
        rw [z] at e1; cases e1
    | some u => exact a.fresh c hn (by rw [q]; simp)
/-- the frame's part grows -/
theorem Nx.any {w : Wd} {H : HP} (s : Sub w.H H) {H' : HP} (h : ∀ b o, H b = some o → H' b = some o) : Nx w H w H' := ⟨.refl w, fun b o e => h b o (s b o e), fun b o e _ => h b o e, fun _ h h' => absurd h h'⟩

section
variable {K : PySem.W.Frag} {γ : Nat → Option Addr} {w w' : Wd} {v : V} {d : D} {vs : List V} {ds : List D}
theorem Wf.not {a : Addr} {o : HO} (wf : Wf w) (h : w.H a = some o) (n : ¬ Chg o) : ∀ k, w.ρ k ≠ some a := fun k e => by
  obtain ⟨u, e1, c⟩ := wf k a e
  rw [h] at e1; cases e1
  exact n c
theorem Le.rd {a : Addr} {u : HO} (l : Le w w') (wf : Wf w) (h : Rd w.H a u) (n : ¬ Chg u) : Rd w'.H a u := by
  rcases h with h | ⟨o, h⟩
  · exact .inl (l.keep a _ h (wf.not h n))
  · exact .inr ⟨o, l.keep a _ h (wf.not h fun c => c)⟩
theorem Le.sqT {a : Addr} {xs : List V} (l : Le w w') (wf : Wf w) (h : SqT K w.H a xs) : SqT K w'.H a xs := by
  rcases h with h | h
  · exact .inl (l.rd wf h fun c => c)
  · exact .inr h
theorem Le.scr {a : Addr} (l : Le w w') (wf : Wf w) (h : Scr K w.H a) : Scr K w'.H a := by
  obtain ⟨ns, z, ⟨o, h⟩ | h⟩ := h
  · exact ⟨ns, z, .inl ⟨o, l.keep _ _ h (wf.not h fun c => c)⟩⟩
  · exact ⟨ns, z, .inr h⟩
theorem Le.free {a : Addr} {o : HO} (l : Le w w') (h : w.H a = some o) (hn : ∀ n, w.ρ n ≠ some a) : ∀ n, w'.ρ n ≠ some a := fun n e => by
  rcases l.new n a e with q | q
  · exact hn n q
  · rw [h] at q; cases q
mutual
theorem VR.mono (l : Le w w') (wf : Wf w) : ∀ {d : D} {v : V}, VR K γ w v d → VR K γ w' v d
  | .non, _, .non => .non
  | .bl _, _, .bl b => .bl b
  | .int _, _, .int i => .int i
  | .str _, _, .str e z a => .str e z a
  | .tup ds, _, .tup s z r => .tup (l.sqT wf s) z (VRs.mono l wf r)
  | .lst ds, _, .lst h n z r => .lst (l.keep _ _ h n) (l.free h n) z (VRs.mono l wf r)
  | .ref _, _, .ref e => .ref (l.rho _ _ e)
  | .gl _, _, .gl e s => .gl e fun q => l.scr wf (s q)
theorem VRs.mono (l : Le w w') (wf : Wf w) : ∀ {ds : List D} {vs : List V}, VRs K γ w vs ds → VRs K γ w' vs ds
  | [], _, .nil => .nil
  | d :: ds, _, .cons r t => .cons (VR.mono l wf r) (VRs.mono l wf t)
end
theorem VRs.length : ∀ {vs : List V} {ds : List D}, VRs K γ w vs ds → vs.length = ds.length
  | _, _, .nil => rfl
  | _, _, .cons _ t => by simp [VRs.length t]
theorem VRs.get : ∀ {ds : List D} {vs : List V} {i : Nat} {d : D}, VRs K γ w vs ds → ds[i]? = some d → ∃ v, vs[i]? = some v ∧ VR K γ w v d
  | _, _, _, _, .nil, e => by simp at e
  | _, _, 0, _, .cons r _, e => by simp at e; subst e; exact ⟨_, rfl, r⟩
  | _, _, i + 1, d, .cons _ t, e => by
    obtain ⟨v, h1, h2⟩ := VRs.get (i := i) (d := d) t (by simpa using e)
    exact ⟨v, by simpa using h1, h2⟩
theorem VRs.append : ∀ {vs us : List V} {ds es : List D}, VRs K γ w vs ds → VRs K γ w us es → VRs K γ w (vs ++ us) (ds ++ es)
  | _, _, _, _, .nil, s => s
  | _, _, _, _, .cons r t, s => .cons r (VRs.append t s)
theorem VRs.take : ∀ {vs : List V} {ds : List D} (n : Nat), VRs K γ w vs ds → VRs K γ w (vs.take n) (ds.take n)
  | _, _, 0, _ => by simpa using VRs.nil
  | _, _, _ + 1, .nil => .nil
  | _, _, n + 1, .cons r t => .cons r (VRs.take n t)
theorem VRs.drop : ∀ {vs : List V} {ds : List D} (n : Nat), VRs K γ w vs ds → VRs K γ w (vs.drop n) (ds.drop n)
  | _, _, 0, r => r
  | _, _, _ + 1, .nil => .nil
  | _, _, n + 1, .cons _ t => VRs.drop n t
theorem VRs.reverse {vs : List V} {ds : List D} (h : VRs K γ w vs ds) : VRs K γ w vs.reverse ds.reverse := by
  induction ds generalizing vs with
  | nil => cases h; exact .nil
  | cons d ds ih =>
    cases h with
    | cons r t =>
      rw [List.reverse_cons, List.reverse_cons]
      exact (ih t).append (.cons r .nil)
theorem VRs.dropLast {vs : List V} {ds : List D} (h : VRs K γ w vs ds) : VRs K γ w vs.dropLast ds.dropLast := by
  rw [List.dropLast_eq_take, List.dropLast_eq_take, h.length]
  exact h.take _
theorem VRs.set : ∀ {vs : List V} {ds : List D} (n : Nat) {v : V} {d : D}, VRs K γ w vs ds → VR K γ w v d → VRs K γ w (vs.set n v) (ds.set n d)
  | _, _, _, _, _, .nil, _ => by simpa using VRs.nil
  | _, _, 0, _, _, .cons _ t, q => .cons q t
  | _, _, n + 1, _, _, .cons r t, q => .cons r (VRs.set n t q)
end

/-- what the whole proof leans on: the module's objects, where its things stand, the fields' names, what a pen is -/
structure Cz where
  K : PySem.W.Frag
  γ : Nat → Option Addr
  fn : Nat → Str
  inj : ∀ i j, fn i = fn j → i = j
  pen : Nat → HP → Addr → Prop
  penMono : ∀ c H H' a, (∀ b o, H b = some o → H' b = some o) → pen c H a → pen c H' a

/-- the draws' dict -/
def penK (b : Addr) (i g n f : Int) : List (Key × V) := [(.inr "cells", .ref b), (.inr "at", .int i), (.inr "digits", .int g), (.inr "count", .int n), (.inr "fold", .int f)]
section
variable (Z : Cz)
def OR (w : Wd) (a : Addr) : O → Prop
  | .lst ds => ∃ xs, w.H a = some (.lst xs) ∧ VRs Z.K Z.γ w xs ds ∧ ds.length ≤ sizeLine
  | .ins c fs => ∃ C dx gs, Z.γ c = some C ∧ w.H a = some (.ins C dx gs) ∧ gs.length ≤ fs.length ∧
      (∀ n d, fld fs n = some d → ∃ v, gs.lookup (Z.fn n) = some v ∧ VR Z.K Z.γ w v d) ∧ ∀ n, fld fs n = none → gs.lookup (Z.fn n) = none
  | .pen c => ∃ (b : Addr) (ns : List Int) (i g n f : Int), w.H a = some (.dK (penK b i g n f)) ∧ w.H b = some (.lst (ns.map V.int)) ∧ (∀ m, w.ρ m ≠ some b) ∧ ns.length ≤ 63 ∧ 0 ≤ i ∧ 0 ≤ g ∧ 0 ≤ n ∧ n ≤ c ∧ 0 ≤ f ∧ f < 2147483648
structure HR (w : Wd) (h : Hd) : Prop where
  at_ : ∀ n o, look h.es n = some o → ∃ a, w.ρ n = some a ∧ OR Z w a o
  nx : ∀ n, h.nx ≤ n → w.ρ n = none
  inj : ∀ n m a, w.ρ n = some a → w.ρ m = some a → n = m
/-- the slots hold what the interpreter's hold -/
structure Slots (w : Wd) (σ : L2.St) (σD : Sg) : Prop where
  len : σD.length ≤ σ.length
  at_ : ∀ i d, getS σD i = some d → ∃ v, σ[i]? = some (some v) ∧ VR Z.K Z.γ w v d
structure Good (w : Wd) (H : HP) (σ : L2.St) (σD : Sg) (h : Hd) : Prop where
  sub : Sub w.H H
  wf : Wf w
  hr : HR Z w h
  sl : Slots Z w σ σD
/-- an exception: of the class c, with its fields' values -/
def XR (w : Wd) (cls : Value) (dct : Option Addr) (c : Nat) (fs : List D) : Prop := False
def PostV (w : Wd) (H : HP) (k : K1) (Q : VK) : Prop := ∀ w' H' d h' v, Nx w H w' H' → Wf w' → HR Z w' h' → VR Z.K Z.γ w' v d → k d h' = true → Q v H'
def PostX (w : Wd) (H : HP) (σ : L2.St) (kx : KX) (W : WX) : Prop := ∀ w' H' c fs h' cls dct, Nx w H w' H' → Wf w' → HR Z w' h' → XR w' cls dct c fs → kx c fs h' = true → W cls dct σ H'
/-- what a run of the interpreter says of an expression -/
def TZ (W : WX) (f : Ev) : TE := fun σ H Q => ∃ w σD h kx k, Good Z w H σ σD h ∧ f σD h kx k = true ∧ PostV Z w H k Q ∧ PostX Z w H σ kx W
end
variable {Z : Cz} {w w' : Wd} {H H' : HP}
theorem Slots.mono {σ : L2.St} {σD : Sg} (s : Slots Z w σ σD) (l : Le w w') (wf : Wf w) : Slots Z w' σ σD := ⟨s.len, fun i d e => let ⟨v, e1, r⟩ := s.at_ i d e; ⟨v, e1, r.mono l wf⟩⟩
theorem Good.next {σ : L2.St} {σD : Sg} {h h' : Hd} (g : Good Z w H σ σD h) (n : Nx w H w' H') (wf : Wf w') (hr : HR Z w' h') : Good Z w' H' σ σD h' :=
  ⟨n.sub, wf, hr, g.sl.mono n.le g.wf⟩
theorem PostV.next {k : K1} {Q : VK} (p : PostV Z w H k Q) (n : Nx w H w' H') : PostV Z w' H' k Q := fun w2 H2 d h2 v n2 wf hr r e => p w2 H2 d h2 v (n.trans n2) wf hr r e
theorem PostX.next {σ : L2.St} {kx : KX} {W : WX} (p : PostX Z w H σ kx W) (n : Nx w H w' H') : PostX Z w' H' σ kx W := fun w2 H2 c fs h2 cls dct n2 wf hr r e => p w2 H2 c fs h2 cls dct (n.trans n2) wf hr r e
theorem PostX.none {σ : L2.St} {W : WX} : PostX Z w H σ never W := fun _ _ _ _ _ _ _ _ _ _ _ e => by cases e
theorem _root_.L2.PE.imp {X : Cx} {e : Expr} {t t' : TE} (h : PE X e t) (i : ∀ σ H Q, t' σ H Q → t σ H Q) : PE X e t' := ⟨fun pins s σ H Q I q => h.run pins s σ H Q I (i σ H Q q)⟩
theorem _root_.L2.PT.imp {X : Cx} {e : Expr} {t t' : TT} (h : PT X e t) (i : ∀ σ H Q, t' σ H Q → t σ H Q) : PT X e t' := ⟨fun pins s σ H Q I q => h.run pins s σ H Q I (i σ H Q q)⟩
theorem _root_.L2.PA.imp {X : Cx} {e : List Expr} {t t' : TA} (h : PA X e t) (i : ∀ σ H Q, t' σ H Q → t σ H Q) : PA X e t' := ⟨fun pos pins s σ H Q I q => h.run pos pins s σ H Q I (i σ H Q q)⟩
theorem _root_.L2.PS.imp {X : Cx} {e : Stmt} {t t' : TS} (h : PS X e t) (i : ∀ D σ H, t' D σ H → t D σ H) : PS X e t' := ⟨fun pins s σ H D I q => h.run pins s σ H D I (i D σ H q)⟩
theorem _root_.L2.PSs.imp {X : Cx} {e : List Stmt} {t t' : TS} (h : PSs X e t) (i : ∀ D σ H, t' D σ H → t D σ H) : PSs X e t' := ⟨fun pins s σ H D I q => h.run pins s σ H D I (i D σ H q)⟩
/-- a new tuple, a new list that nobody changes -/
theorem new_any (s : Sub w.H H) (wf : Wf w) {p : Addr} (hp : H p = none) (o : HO) : Nx w H ⟨w.ρ, upd w.H p o⟩ (upd H p o) := by
  have np : w.H p = none := by
    cases q : w.H p with
    | none => rfl
    | some u => rw [s p u q] at hp; cases hp
  refine ⟨⟨fun _ _ h => h, fun _ _ h => .inl h, fun b u e _ => ?_, fun b u e => ⟨u, ?_⟩⟩, fun b u e => ?_, fun b u e n => ?_, fun b n e => ?_⟩
  · show upd w.H p o b = _
    rw [upd_ne (ne_of_none e np)]; exact e
  · show upd w.H p o b = _
    rw [upd_ne (ne_of_none e np)]; exact e
  · by_cases hb : b = p
    · subst hb
      have e' : upd w.H b o b = some u := e
      rw [upd_same] at e' ⊢; exact e'
    · have e' : upd w.H p o b = some u := e
      rw [upd_ne hb] at e' ⊢; exact s b u e'
  · rw [upd_ne (ne_of_none e hp)]; exact e
  · by_cases hb : b = p
    · subst hb; exact hp
    · have e' : upd w.H p o b ≠ none := e
      rw [upd_ne hb] at e'; exact absurd n e'
theorem new_wf (s : Sub w.H H) (wf : Wf w) {p : Addr} (hp : H p = none) (o : HO) : Wf ⟨w.ρ, upd w.H p o⟩ := fun n a e => by
  obtain ⟨u, e1, c⟩ := wf n a e
  refine ⟨u, ?_, c⟩
  show upd w.H p o a = _
  rw [upd_ne fun z => by rw [z] at e1; rw [s p u e1] at hp; cases hp]
  exact e1
theorem OR.mono {a : Addr} {o : O} (l : Le w w') (wf : Wf w) (k : ∀ u, w.H a = some u → w'.H a = some u) (h : OR Z w a o) : OR Z w' a o := by
  cases o with
  | lst ds => obtain ⟨xs, e, r, z⟩ := h; exact ⟨xs, k _ e, r.mono l wf, z⟩
  | ins c fs => obtain ⟨C, dx, gs, e1, e2, z, f1, f2⟩ := h; exact ⟨C, dx, gs, e1, k _ e2, z, fun n d e => let ⟨v, a, b⟩ := f1 n d e; ⟨v, a, b.mono l wf⟩, f2⟩
  | pen c => obtain ⟨b, ns, i, g, n, f, e1, e2, e3, r⟩ := h; exact ⟨b, ns, i, g, n, f, k _ e1, l.keep _ _ e2 e3, l.free e2 e3, r⟩
theorem HR.new {h : Hd} (s : Sub w.H H) (wf : Wf w) {p : Addr} (hp : H p = none) (o : HO) (hr : HR Z w h) : HR Z ⟨w.ρ, upd w.H p o⟩ h := by
  refine ⟨fun n u e => ?_, hr.nx, hr.inj⟩
  obtain ⟨a, e1, r⟩ := hr.at_ n u e
  refine ⟨a, e1, r.mono (new_any s wf hp o).le wf fun u' e' => ?_⟩
  show upd w.H p o a = _
  rw [upd_ne fun z => by rw [z] at e'; rw [s p u' e'] at hp; cases hp]
  exact e'
end Z

namespace Z
open PySem PySem.Spec PyProof.Rows L2
section
variable {Z : Cz} {w : Wd} {H : HP} {h : Hd} {K : PySem.W.Frag} {γ : Nat → Option Addr}
theorem Sub.rd (s : Sub w.H H) {a : Addr} {u : HO} (h : Rd w.H a u) : Rd H a u := by
  rcases h with h | ⟨o, h⟩
  · exact .inl (s _ _ h)
  · exact .inr ⟨o, s _ _ h⟩
theorem Sub.sqT (s : Sub w.H H) {a : Addr} {xs : List V} (h : SqT K w.H a xs) : SqT K H a xs := by
  rcases h with h | h
  · exact .inl (s.rd h)
  · exact .inr h
theorem itemsL_inv {d : D} {ds : List D} (e : itemsL h d = some ds) : d = .lst ds ∨ ∃ n, d = .ref n ∧ look h.es n = some (.lst ds) := by
  cases d with
  | lst es => simp only [itemsL, Option.some.injEq] at e; exact .inl (by rw [e])
  | ref n =>
    cases q : look h.es n with
    | none => simp only [itemsL, q] at e; cases e
    | some o =>
      cases o with
      | lst es => simp only [itemsL, q, Option.some.injEq] at e; exact .inr ⟨n, rfl, by rw [← e]; exact q⟩
      | _ => simp only [itemsL, q] at e; cases e
  | _ => cases e
theorem itemsL_ok (hr : HR Z w h) {v : V} {d : D} {ds : List D} (r : VR Z.K Z.γ w v d) (e : itemsL h d = some ds) : ∃ a xs, v = .ref a ∧ w.H a = some (.lst xs) ∧ VRs Z.K Z.γ w xs ds ∧ ds.length ≤ sizeLine := by
  rcases itemsL_inv e with rfl | ⟨n, rfl, q⟩
  · cases r with
    | lst h1 _ z r => exact ⟨_, _, rfl, h1, r, z⟩
  · cases r with
    | ref hn =>
      obtain ⟨a, e1, xs, e2, r, z⟩ := hr.at_ n _ q
      rw [hn] at e1; cases e1
      exact ⟨_, _, rfl, e2, r, z⟩
theorem items_ok (hr : HR Z w h) {v : V} {d : D} {ds : List D} (r : VR Z.K Z.γ w v d) (e : items h d = some ds) : ∃ a xs, v = .ref a ∧ (w.H a = some (.lst xs) ∨ SqT Z.K w.H a xs) ∧ VRs Z.K Z.γ w xs ds ∧ ds.length ≤ sizeLine := by
  cases d with
  | tup es =>
    have e' : some es = some ds := e
    cases e'
    cases r with
    | tup h1 z r => exact ⟨_, _, rfl, .inr h1, r, z⟩
  | _ =>
    obtain ⟨a, xs, e1, e2, e3, e4⟩ := itemsL_ok hr r e
    exact ⟨a, xs, e1, .inl e2, e3, e4⟩
theorem empty_eq {vs : List V} {ds : List D} (r : VRs K γ w vs ds) : vs.isEmpty = ds.isEmpty := by cases r <;> rfl
theorem truth_ok (s : Sub w.H H) (hr : HR Z w h) {v : V} {d : D} {b : Bool} (r : VR Z.K Z.γ w v d) (e : truth h d = some b) : TruV Z.K v H b := by
  cases d with
  | non => cases r; cases e; rfl
  | bl c => cases r; cases e; rfl
  | int i =>
    cases r
    unfold truth at e
    cases e
    show (!decide (i = 0)) = (i != 0)
    rw [bne, Bool.beq_eq_decide_eq]
  | str l =>
    cases r with
    | @str x _ q z _ =>
      unfold truth at e
      cases e
      have hl : x.length = l.length := by rw [← q]; rfl
      refine ⟨by rw [hl]; exact z, ?_⟩
      rw [hl]
      cases l with
      | nil => rfl
      | cons a b => simp; omega
  | tup ds =>
    cases r with
    | tup h1 z r =>
      unfold truth at e
      cases e
      exact .inr (.inl ⟨_, s.sqT h1, by rw [empty_eq r]⟩)
  | lst ds =>
    cases r with
    | lst h1 _ z r =>
      unfold truth at e
      cases e
      exact .inl ⟨_, SqL.of (s _ _ h1), by rw [empty_eq r]⟩
  | ref n =>
    have q : ∃ ds, itemsL h (.ref n) = some ds ∧ b = !ds.isEmpty := by
      cases q : look h.es n with
      | none => simp only [truth, q] at e; cases e
      | some o =>
        cases o with
        | lst es => simp only [truth, q, Option.some.injEq] at e; exact ⟨es, by simp only [itemsL, q], e.symm⟩
        | _ => simp only [truth, q] at e; cases e
    obtain ⟨ds, q1, q2⟩ := q
    obtain ⟨a, xs, e1, e2, e3, _⟩ := itemsL_ok hr r q1
    subst e1
    exact .inl ⟨_, SqL.of (s _ _ e2), by rw [q2, empty_eq e3]⟩
  | gl n => cases e
end

/-- a rule of two values, as the interpreter reckons it -/
def OpZ (Z : Cz) (X : Cx) (f : Value → Value → Sem Value) (g : Hd → D → D → Option D) : Prop :=
  OpR X f fun x y H Q => ∃ w h d e z, Sub w.H H ∧ Wf w ∧ HR Z w h ∧ VR Z.K Z.γ w x d ∧ VR Z.K Z.γ w y e ∧ g h d e = some z ∧
    ∀ w' H' v, Nx w H w' H' → Wf w' → HR Z w' h → VR Z.K Z.γ w' v z → Q v H'

section
variable {Z : Cz} {X : Cx} {w : Wd} {H : HP} {h : Hd}
theorem few_ok {n : Nat} (e : few n = true) : n ≤ sizeLine := by
  have := Nat.le_of_ble_eq_true e
  rw [sizeLine_eq]; omega
/-- a new tuple is handed back -/
theorem back_tup {xs : List V} {ds : List D} {Q : VK} (s : Sub w.H H) (wf : Wf w) (hr : HR Z w h) (r : VRs Z.K Z.γ w xs ds) (z : ds.length ≤ sizeLine)
    (q : ∀ w' H' v, Nx w H w' H' → Wf w' → HR Z w' h → VR Z.K Z.γ w' v (.tup ds) → Q v H') : ∀ p, H p = none → Q (.ref p) (upd H p (.tup xs)) := fun p hp =>
  q _ _ _ (new_any s wf hp _) (new_wf s wf hp _) (hr.new s wf hp _) (.tup (SqT.of upd_same) z (r.mono (new_any s wf hp _).le wf))
theorem sub_none (s : Sub w.H H) {p : Addr} (hp : H p = none) : w.H p = none := by
  cases q : w.H p with
  | none => rfl
  | some u => rw [s p u q] at hp; cases hp
theorem back_lst {xs : List V} {ds : List D} {Q : VK} (s : Sub w.H H) (wf : Wf w) (hr : HR Z w h) (r : VRs Z.K Z.γ w xs ds) (z : ds.length ≤ sizeLine)
    (q : ∀ w' H' v, Nx w H w' H' → Wf w' → HR Z w' h → VR Z.K Z.γ w' v (.lst ds) → Q v H') : ∀ p, H p = none → Q (.ref p) (upd H p (.lst xs)) := fun p hp =>
  q _ _ _ (new_any s wf hp _) (new_wf s wf hp _) (hr.new s wf hp _) (.lst upd_same (fun n e => by
    obtain ⟨u, e1, _⟩ := wf n p e
    rw [sub_none s hp] at e1; cases e1) z (r.mono (new_any s wf hp _).le wf))
theorem b2i_eq (a : Bool) : (b2i a : Int) = b2z a := by cases a <;> rfl
theorem rep_eq (ds : List D) : ∀ n, repD ds n = (List.replicate n ds).flatten
  | 0 => rfl
  | n + 1 => by rw [List.replicate_succ, List.flatten_cons, ← rep_eq ds n]; rfl
theorem VRs.rep {K : PySem.W.Frag} {γ : Nat → Option Addr} {vs : List V} {ds : List D} (r : VRs K γ w vs ds) : ∀ n, VRs K γ w (List.replicate n vs).flatten (repD ds n)
  | 0 => .nil
  | n + 1 => by rw [List.replicate_succ, List.flatten_cons]; exact r.append (VRs.rep r n)
theorem VRs.nil_iff {K : PySem.W.Frag} {γ : Nat → Option Addr} {vs : List V} {ds : List D} (r : VRs K γ w vs ds) : vs = [] ↔ ds = [] := by
  cases r with
  | nil => simp
  | cons => simp
theorem str_len {x : Str} {l : List Nat} (e : x.cps.toList = l) : x.length = l.length := by rw [← e]; rfl
theorem cat_lists {x y : V} {d e z : D} (s : Sub w.H H) (wf : Wf w) (hr : HR Z w h) (r : VR Z.K Z.γ w x d) (r' : VR Z.K Z.γ w y e) (ez : catL h d e = some z) {Q : VK}
    (q : ∀ w' H' v, Nx w H w' H' → Wf w' → HR Z w' h → VR Z.K Z.γ w' v z → Q v H') : rCat x y H Q := by
  unfold catL at ez
  cases e1 : itemsL h d with
  | none => simp only [e1] at ez; cases ez
  | some xs =>
    cases e2 : itemsL h e with
    | none => simp only [e1, e2] at ez; cases ez
    | some ys =>
      simp only [e1, e2] at ez
      split at ez
      · rename_i f
        cases ez
        obtain ⟨a, us, rfl, h1, r1, _⟩ := itemsL_ok hr r e1
        obtain ⟨b, vs, rfl, h2, r2, _⟩ := itemsL_ok hr r' e2
        have z := few_ok f
        refine ⟨a, b, us, vs, rfl, rfl, s _ _ h1, s _ _ h2, by rw [r1.length, r2.length]; exact z, ?_⟩
        exact back_lst s wf hr (r1.append r2) (by simpa using z) q
      · cases ez
theorem opz_add (hK : X.K = Z.K) : OpZ Z X (binaryOp .Add) (fun h => opD h .add) := by
  intro pins s σ H x y v u Q I rx ry ⟨w, h, d, e, z, sb, wf, hr, r, r', ez, q⟩
  replace ez : addD h d e = some z := ez
  cases d with
  | int i =>
    cases e with
    | int j =>
      cases r; cases r'; cases ez
      exact op_add pins s σ H _ _ v u Q I rx ry ⟨i, j, rfl, rfl, q _ _ _ (.refl sb) wf hr (.int _)⟩
    | bl b =>
      cases r; cases r'; cases ez
      exact op_add_ib pins s σ H _ _ v u Q I rx ry ⟨i, b, rfl, rfl, by rw [b2i_eq]; exact q _ _ _ (.refl sb) wf hr (.int _)⟩
    | _ => cases ez
  | tup xs =>
    cases e with
    | tup ys =>
      cases r with
      | tup h1 z1 r1 =>
        cases r' with
        | tup h2 z2 r2 =>
          simp only [addD] at ez
          split at ez
          · rename_i f
            cases ez
            have zz := few_ok f
            refine op_catA pins s σ H _ _ v u Q I rx ry ⟨_, _, _, _, rfl, rfl, by rw [hK]; exact sb.sqT h1, by rw [hK]; exact sb.sqT h2, by rw [r1.length, r2.length]; exact zz, fun hne => ?_, fun _ hne => ?_, fun _ _ => ?_⟩
            · have e0 := r1.nil_iff.mp hne
              subst e0
              exact q _ _ _ (.refl sb) wf hr (.tup h2 z2 r2)
            · rw [r2.nil_iff.mp hne, List.append_nil] at q
              exact q _ _ _ (.refl sb) wf hr (.tup h1 z1 r1)
            · exact back_tup sb wf hr (r1.append r2) (by simpa using zz) q
          · cases ez
    | _ => cases ez
  | str xs =>
    cases e with
    | str ys =>
      cases r with
      | @str x1 _ e1 z1 a1 =>
        cases r' with
        | @str x2 _ e2 z2 a2 =>
          simp only [addD] at ez
          split at ez
          · rename_i f
            cases ez
            have zz := few_ok f
            refine op_add_str pins s σ H _ _ v u Q I rx ry ⟨_, _, rfl, rfl, by rw [str_len e1, str_len e2]; exact zz, q _ _ _ (.refl sb) wf hr (.str ?_ (by simpa using zz) fun c hc => (List.mem_append.mp hc).elim (a1 c) (a2 c))⟩
            show (x1.cps ++ x2.cps).toList = _
            rw [Array.toList_append, e1, e2]
          · cases ez
    | _ => cases ez
  | bl a =>
    cases e with
    | bl b =>
      cases r; cases r'; cases ez
      cases rx; cases ry
      exact PyProof.Rows.add_bool ⟨.int _, H, I.tok _, ⟨_, rfl⟩, by rw [b2i_eq, b2i_eq]; exact q _ _ _ (.refl sb) wf hr (.int _)⟩
    | _ => cases ez
  | _ => exact op_cat pins s σ H x y v u Q I rx ry (cat_lists sb wf hr r r' ez q)
theorem opz_sub : OpZ Z X (binaryOp .Sub) (fun h => opD h .sub) := by
  intro pins s σ H x y v u Q I rx ry ⟨w, h, d, e, z, sb, wf, hr, r, r', ez, q⟩
  replace ez : subD d e = some z := ez
  cases d with
  | int i =>
    cases e with
    | int j =>
      cases r; cases r'; cases ez
      exact op_sub pins s σ H _ _ v u Q I rx ry ⟨i, j, rfl, rfl, q _ _ _ (.refl sb) wf hr (.int _)⟩
    | _ => cases ez
  | bl a =>
    cases e with
    | bl b =>
      cases r; cases r'; cases ez
      cases rx; cases ry
      exact PyProof.Rows.sub_bool ⟨.int _, H, I.tok _, ⟨_, rfl⟩, by rw [b2i_eq, b2i_eq]; exact q _ _ _ (.refl sb) wf hr (.int _)⟩
    | _ => cases ez
  | _ => cases ez
theorem opz_div : OpZ Z X (binaryOp .FloorDiv) (fun h => opD h .fdiv) := by
  intro pins s σ H x y v u Q I rx ry ⟨w, h, d, e, z, sb, wf, hr, r, r', ez, q⟩
  replace ez : divD d e = some z := ez
  cases d with
  | int i =>
    cases e with
    | int j =>
      cases r; cases r'
      simp only [divD] at ez
      split at ez
      · rename_i c
        cases ez
        exact op_fdivW pins s σ H _ _ v u Q I rx ry ⟨i, j, rfl, rfl, c, q _ _ _ (.refl sb) wf hr (.int _)⟩
      · split at ez
        · rename_i c
          cases ez
          exact op_fdivN pins s σ H _ _ v u Q I rx ry ⟨i, j, rfl, rfl, c, q _ _ _ (.refl sb) wf hr (.int _)⟩
        · cases ez
    | _ => cases ez
  | _ => cases ez
theorem opz_mod : OpZ Z X (binaryOp .Mod) (fun h => opD h .mod) := by
  intro pins s σ H x y v u Q I rx ry ⟨w, h, d, e, z, sb, wf, hr, r, r', ez, q⟩
  replace ez : modD d e = some z := ez
  cases d with
  | int i =>
    cases e with
    | int j =>
      cases r; cases r'
      simp only [modD] at ez
      split at ez
      · rename_i c
        cases ez
        exact op_mod pins s σ H _ _ v u Q I rx ry ⟨i, j, rfl, rfl, c, q _ _ _ (.refl sb) wf hr (.int _)⟩
      · split at ez
        · cases ez
        · rename_i c
          cases ez
          exact op_modN pins s σ H _ _ v u Q I rx ry ⟨i, j, rfl, rfl, c, q _ _ _ (.refl sb) wf hr (.int _)⟩
    | _ => cases ez
  | _ => cases ez
theorem opz_pow : OpZ Z X (binaryOp .Pow) (fun h => opD h .pow) := by
  intro pins s σ H x y v u Q I rx ry ⟨w, h, d, e, z, sb, wf, hr, r, r', ez, q⟩
  replace ez : powD d e = some z := ez
  cases d with
  | int i =>
    cases e with
    | int j =>
      cases r; cases r'
      simp only [powD] at ez
      split at ez
      · rename_i c
        cases ez
        exact op_pow pins s σ H _ _ v u Q I rx ry ⟨i, j, rfl, rfl, c, q _ _ _ (.refl sb) wf hr (.int _)⟩
      · cases ez
    | _ => cases ez
  | _ => cases ez
theorem opz_shl : OpZ Z X (binaryOp .LShift) (fun h => opD h .shl) := by
  intro pins s σ H x y v u Q I rx ry ⟨w, h, d, e, z, sb, wf, hr, r, r', ez, q⟩
  replace ez : shlD d e = some z := ez
  cases d with
  | int i =>
    cases e with
    | int j =>
      cases r; cases r'
      simp only [shlD] at ez
      split at ez
      · rename_i c
        cases ez
        exact op_shl pins s σ H _ _ v u Q I rx ry ⟨i, j, rfl, rfl, c, q _ _ _ (.refl sb) wf hr (.int _)⟩
      · cases ez
    | _ => cases ez
  | _ => cases ez
end
end Z

namespace Z
open PySem PySem.Spec PyProof.Rows L2
theorem tuple_mulS (l : Addr) (items : Array Value) (n : Nat) (sl : Array (Option Value)) (dd : Option Addr) (x : Int) (u : Tok) (c0 : (decide (x < -(2 ^ 63)) || decide (x ≥ 2 ^ 63)) = false) (c1 : (items.isEmpty || x == 1) = true) :
    Meets (Builtin.«tuple.__mul__» ⟨[.ref l, .int x u], []⟩) (fun _ R s => s.heap.get? l = some { cls := .type "tuple", dict := dd, data := .seq items n, slots := sl } ∧ R (.ok (.ret (Value.ref l))) s) :=
  .of_wp fun prog w A R s h => by
    obtain ⟨hp, g, d, tk, os⟩ := s
    obtain ⟨hl, h⟩ := h
    have f1 := AutoSeq1.idx_int
    wp_walk using wpAny_loadPart' hl
    repeat (first
      | (refine wpAny_ite_false (decide_eq_false (by rw [c0]; exact Bool.false_ne_true)) ?_; wp_walk using wpAny_loadPart' hl)
      | (refine wpAny_ite_true (decide_eq_true (by rw [c1])) ?_; wp_walk using wpAny_loadPart' hl))
    exact ⟨_, rfl, h⟩
theorem tuple_mulZ (l : Addr) (items : Array Value) (n : Nat) (sl : Array (Option Value)) (dd : Option Addr) (x : Int) (u : Tok) (c0 : (decide (x < -(2 ^ 63)) || decide (x ≥ 2 ^ 63)) = false) (c1 : (items.isEmpty || x == 1) = false) (c2 : (decide (x ≤ 0) || items.isEmpty) = true) :
    Meets (Builtin.«tuple.__mul__» ⟨[.ref l, .int x u], []⟩) (fun _ R s => s.heap.get? l = some { cls := .type "tuple", dict := dd, data := .seq items n, slots := sl } ∧
      R (.ok (.ret (Value.ref s.heap.objs.size))) { s with heap := s.heap.push { cls := Value.type "tuple", data := Data.seq #[] }, toks := s.toks }) :=
  .of_wp fun prog w A R s h => by
    obtain ⟨hp, g, d, tk, os⟩ := s
    obtain ⟨hl, h⟩ := h
    have f1 := AutoSeq1.idx_int
    wp_walk using wpAny_loadPart' hl
    repeat (first
      | (refine wpAny_ite_false (decide_eq_false (by rw [c0]; exact Bool.false_ne_true)) ?_; wp_walk using wpAny_loadPart' hl)
      | (refine wpAny_ite_false (decide_eq_false (by rw [c1]; exact Bool.false_ne_true)) ?_; wp_walk using wpAny_loadPart' hl)
      | (refine wpAny_ite_true (decide_eq_true (by rw [c2])) ?_; wp_walk using wpAny_loadPart' hl))
    exact ⟨_, rfl, h⟩
theorem rep_run {X : Cx} {pins : List (Addr × Obj)} {σ : L2.St} {H : HP} {s : Shared} {l : Addr} {k : Int} {t : Tok} {xs : List V} {Q : VK} (I : Inv X pins σ H s) (hT : SqT X.K H l xs) (h1 : -1000 ≤ k) (h2 : k ≤ 1000) (hz : xs.length ≤ 1000)
    (q1 : xs = [] ∨ k = 1 → Q (.ref l) H) (q2 : xs ≠ [] → k ≠ 1 → ∀ p, H p = none → Q (.ref p) (upd H p (.tup (List.replicate k.toNat xs).flatten))) :
    wpAny (model X.prog X.w) X.A (binaryOp .Mult (.ref l) (.int k t)) (EP X pins σ Q) X.xe s := by
  obtain ⟨its, r, ⟨⟨cls, dd, data, sl⟩, ho, hc, n, hd⟩, hs⟩ := I.tuple hT
  simp only at hc hd
  subst hc hd
  have c0 : (decide (k < -(2 ^ 63)) || decide (k ≥ 2 ^ 63)) = false := by
    rw [decide_eq_false (show ¬ k < -(2 ^ 63) by omega), decide_eq_false (show ¬ k ≥ 2 ^ 63 by omega)] <;> rfl
  by_cases hn : xs = [] ∨ k = 1
  · have c1 : (its.toArray.isEmpty || k == 1) = true := by
      rcases hn with hn | hn
      · subst hn; cases r; rfl
      · subst hn; simp
    refine wpAny_binaryOp_repeat_ref (T := "tuple") (U := "int") (by decide) ⟨_, ho, rfl⟩ (fun s' => typeIs_int s' k t) noFill_tuple_mul F.fills_int_mul F.slot_int_rmul repeat_tuple F.slot_int_index.lookup
      (call_meets F.slot_int_rmul (typeIs_int s k t) F.entry_int_rmul (F.args_int_rmul_2 _ _) (int_rmul_tuple k t l its.toArray n dd sl)
        ⟨ho, rfl, ⟨_, ho, rfl⟩, call_meets F.slot_tuple_mul ⟨_, ho, rfl⟩ F.entry_tuple_mul (F.args_tuple_mul_2 _ _) (tuple_mulS l its.toArray n sl dd k t c0 c1) ⟨ho, ?_⟩⟩)
    exact ⟨.ref l, H, I, rfl, q1 hn⟩
  · have hx : xs ≠ [] := fun z => hn (.inl z)
    have hk : k ≠ 1 := fun z => hn (.inr z)
    by_cases hk0 : 2 ≤ k
    · exact op_repT pins s σ H (.ref l) (.int k) _ _ Q I rfl ⟨t, rfl⟩ ⟨l, k, xs, rfl, rfl, hT, hx, hk0, h2, hz, q2 hx hk⟩
    · have c1 : (its.toArray.isEmpty || k == 1) = false := by
        cases r with
        | nil => exact absurd rfl hx
        | cons => simp [hk]
      have c2 : (decide (k ≤ 0) || its.toArray.isEmpty) = true := by
        rw [decide_eq_true (show k ≤ 0 by omega)]; rfl
      refine wpAny_binaryOp_repeat_ref (T := "tuple") (U := "int") (by decide) ⟨_, ho, rfl⟩ (fun s' => typeIs_int s' k t) noFill_tuple_mul F.fills_int_mul F.slot_int_rmul repeat_tuple F.slot_int_index.lookup
        (call_meets F.slot_int_rmul (typeIs_int s k t) F.entry_int_rmul (F.args_int_rmul_2 _ _) (int_rmul_tuple k t l its.toArray n dd sl)
          ⟨ho, rfl, ⟨_, ho, rfl⟩, call_meets F.slot_tuple_mul ⟨_, ho, rfl⟩ F.entry_tuple_mul (F.args_tuple_mul_2 _ _) (tuple_mulZ l its.toArray n sl dd k t c0 c1 c2) ⟨ho, ?_⟩⟩)
      have e0 : (List.replicate k.toNat xs).flatten = [] := by
        have : k.toNat = 0 := by omega
        rw [this]; rfl
      rw [e0] at q2
      refine ⟨.ref s.heap.objs.size, _, I.laid (t' := s.toks) (o := .tup []) (fun b ob q => Heap.get?_push_of_some _ q) (Nat.le_refl _) ?_, rfl, q2 hx hk _ (I.hok.fresh (Nat.le_refl _))⟩
      exact ⟨Nat.zero_le _, [], .nil, ⟨_, Heap.get?_push_size _ rfl, rfl, _, rfl⟩⟩
section
variable {Z : Cz} {X : Cx} {w : Wd} {H : HP} {h : Hd}
theorem opz_mul (hK : X.K = Z.K) : OpZ Z X (binaryOp .Mult) (fun h => opD h .mul) := by
  intro pins s σ H x y v u Q I rx ry ⟨w, h, d, e, z, sb, wf, hr, r, r', ez, q⟩
  replace ez : mulD d e = some z := ez
  cases e with
  | int j =>
    cases r'
    cases d with
    | int i =>
      cases r
      simp only [mulD] at ez
      split at ez
      · rename_i c
        cases ez
        exact op_mulW pins s σ H _ _ v u Q I rx ry ⟨i, j, rfl, rfl, c, q _ _ _ (.refl sb) wf hr (.int _)⟩
      · cases ez
    | tup xs =>
      cases r with
      | @tup a vs _ h1 z1 r1 =>
        simp only [mulD] at ez
        split at ez
        · rename_i c
          simp only [Bool.and_eq_true, decide_eq_true_eq] at c
          obtain ⟨⟨c1, c2⟩, c3⟩ := c
          have c3 := Nat.le_of_ble_eq_true c3
          cases ez
          cases rx
          obtain ⟨t, rfl⟩ := ry
          have hzz : (List.replicate j.toNat vs).flatten.length ≤ sizeLine := by
            rw [PyProof.Rows.lm_len_rep_flat, r1.length, sizeLine_eq]
            have a1 : j.toNat * xs.length ≤ 1000 * 1000 := Nat.mul_le_mul (by omega) c3
            omega
          have rr := r1.rep j.toNat
          refine rep_run I (by rw [hK]; exact sb.sqT h1) c1 c2 (by rw [r1.length]; exact c3) (fun hh => ?_) fun _ _ => back_tup sb wf hr rr (by rw [← rr.length]; exact hzz) q
          have e0 : repD xs j.toNat = xs := by
            rw [rep_eq]
            rcases hh with hh | hh
            · rw [r1.nil_iff.mp hh]
              exact List.flatten_replicate_nil
            · subst hh
              simp
          rw [e0] at q
          exact q _ _ _ (.refl sb) wf hr (.tup h1 z1 r1)
        · cases ez
    | lst xs =>
      cases r with
      | @lst a vs _ h1 n1 z1 r1 =>
        simp only [mulD] at ez
        split at ez
        · rename_i c
          simp only [Bool.and_eq_true, decide_eq_true_eq] at c
          obtain ⟨⟨c1, c2⟩, c3⟩ := c
          have zz := few_ok c3
          cases ez
          refine op_rep pins s σ H _ _ v u Q I rx ry ⟨a, j, vs, rfl, rfl, sb _ _ h1, by omega, by omega, by rw [r1.length]; exact zz, ?_⟩
          have rr := r1.rep j.toNat
          exact back_lst sb wf hr rr (by rw [← rr.length, PyProof.Rows.lm_len_rep_flat, r1.length, Nat.mul_comm]; exact zz) q
        · cases ez
    | _ => cases ez
  | _ => cases ez
end
end Z

namespace Z
open PySem PySem.Spec PyProof.Rows L2
mutual
def toP : D → PyData
  | .non => .none
  | .bl b => .bool b
  | .int i => .int i
  | .str l => .str ⟨l.toArray⟩
  | .tup ds => .tuple (toPs ds)
  | .lst ds => .list (toPs ds)
  | .ref _ => .none
  | .gl _ => .none
def toPs : List D → List PyData
  | [] => []
  | d :: ds => toP d :: toPs ds
end
theorem strOk_of {l : List Nat} (h : ∀ c ∈ l, c < 128) : PyData.strOk ⟨l.toArray⟩ = true := by
  unfold PyData.strOk
  rw [Array.all_eq_true]
  intro i hi
  have := h l[i] (List.getElem_mem _)
  simp
  omega
section
variable {Z : Cz} {w : Wd} {H : HP} {h : Hd}
mutual
theorem dp_of (s : Sub w.H H) : ∀ (n : Nat) (d : D) (v : V), shp n d = true → VR Z.K Z.γ w v d → Dp Z.K H v (toP d)
  | 0, _, _, e, _ => by cases e
  | n + 1, .non, _, _, .non => .non
  | n + 1, .bl _, _, _, .bl b => .bl b
  | n + 1, .int _, _, _, .int b => .int b
  | n + 1, .str l, _, _, @VR.str _ _ _ x _ e _ _ => by
    have : x = ⟨l.toArray⟩ := by cases x; subst e; rfl
    subst this
    exact .str _
  | n + 1, .tup ds, _, e, .tup h1 _ r => .tup (s.sqT h1) (dps_of s n ds _ e r)
  | n + 1, .lst ds, _, e, .lst h1 _ _ r => .lst (SqL.of (s _ _ h1)) (dps_of s n ds _ e r)
  | n + 1, .ref _, _, e, _ => by cases e
  | n + 1, .gl _, _, e, _ => by cases e
theorem dps_of (s : Sub w.H H) : ∀ (n : Nat) (ds : List D) (vs : List V), shpL n ds = true → VRs Z.K Z.γ w vs ds → DpAll Z.K H vs (toPs ds)
  | 0, _, _, e, _ => by cases e
  | n + 1, [], _, _, .nil => .nil
  | n + 1, d :: ds, _, e, .cons r t => by
    unfold shpL at e
    cases q : shp n d with
    | false => rw [q] at e; cases e
    | true =>
      rw [q] at e
      exact .cons (dp_of s n d _ q r) (dps_of s n ds _ e t)
end
mutual
theorem lay_of : ∀ (n : Nat) (d : D) (v : V), shp n d = true → VR Z.K Z.γ w v d → (toP d).canLay0 = true ∧ (toP d).depth + 1 ≤ n
  | 0, _, _, e, _ => by cases e
  | n + 1, .non, _, _, _ => by simp [toP, PyData.canLay0, PyData.depth]
  | n + 1, .bl _, _, _, _ => by simp [toP, PyData.canLay0, PyData.depth]
  | n + 1, .int _, _, _, _ => by simp [toP, PyData.canLay0, PyData.depth]
  | n + 1, .str l, _, _, .str _ _ a => by simp [toP, PyData.canLay0, PyData.depth, strOk_of a]
  | n + 1, .tup ds, _, e, .tup h1 _ r => by
    have q := lays_of n ds _ e r
    simp only [toP, PyData.canLay0, PyData.depth]
    exact ⟨q.1, by omega⟩
  | n + 1, .lst ds, _, e, .lst h1 _ _ r => by
    have q := lays_of n ds _ e r
    simp only [toP, PyData.canLay0, PyData.depth]
    exact ⟨q.1, by omega⟩
  | n + 1, .ref _, _, e, _ => by cases e
  | n + 1, .gl _, _, e, _ => by cases e
theorem lays_of : ∀ (n : Nat) (ds : List D) (vs : List V), shpL n ds = true → VRs Z.K Z.γ w vs ds → PyData.canLayAll0 (toPs ds) = true ∧ PyData.depthAll (toPs ds) + 1 ≤ n
  | 0, _, _, e, _ => by cases e
  | n + 1, [], _, _, _ => by simp [toPs, PyData.canLayAll0, PyData.depthAll]
  | n + 1, d :: ds, _, e, .cons r t => by
    unfold shpL at e
    cases q : shp n d with
    | false => rw [q] at e; cases e
    | true =>
      rw [q] at e
      have q1 := lay_of n d _ q r
      have q2 := lays_of n ds _ e t
      simp only [toPs, PyData.canLayAll0, PyData.depthAll]
      exact ⟨by rw [q1.1, q2.1]; rfl, by omega⟩
end
mutual
theorem eqv_of : ∀ (n : Nat) (d e : D), shp n d = true → shp n e = true → eqD d e = PyData.eqv (toP d) (toP e)
  | 0, _, _, e, _ => by cases e
  | n + 1, .tup ds, e, h1, h2 => by
    cases e with
    | tup es => simp only [eqD, toP, PyData.eqv]; exact eqvs_of n ds es h1 h2
    | ref _ => cases h2
    | gl _ => cases h2
    | _ => simp [eqD, toP, PyData.eqv]
  | n + 1, .lst ds, e, h1, h2 => by
    cases e with
    | lst es => simp only [eqD, toP, PyData.eqv]; exact eqvs_of n ds es h1 h2
    | ref _ => cases h2
    | gl _ => cases h2
    | _ => simp [eqD, toP, PyData.eqv]
  | n + 1, .ref _, _, e, _ => by cases e
  | n + 1, .gl _, _, e, _ => by cases e
  | n + 1, .non, e, h1, h2 => by cases e <;> first | (cases h2; done) | simp [eqD, toP, PyData.eqv]
  | n + 1, .bl _, e, h1, h2 => by cases e <;> first | (cases h2; done) | simp [eqD, toP, PyData.eqv]
  | n + 1, .int _, e, h1, h2 => by cases e <;> first | (cases h2; done) | simp [eqD, toP, PyData.eqv]
  | n + 1, .str l, e, h1, h2 => by
    cases e with
    | str m =>
      simp only [eqD, toP, PyData.eqv]
      rw [Bool.beq_eq_decide_eq, Bool.beq_eq_decide_eq]
      congr 1
      simp
    | ref _ => cases h2
    | gl _ => cases h2
    | _ => simp [eqD, toP, PyData.eqv]
theorem eqvs_of : ∀ (n : Nat) (ds es : List D), shpL n ds = true → shpL n es = true → eqL ds es = PyData.eqvAll (toPs ds) (toPs es)
  | 0, _, _, e, _ => by cases e
  | n + 1, [], es, h1, h2 => by cases es <;> simp [eqL, toPs, PyData.eqvAll]
  | n + 1, d :: ds, [], h1, h2 => by simp [eqL, toPs, PyData.eqvAll]
  | n + 1, d :: ds, e :: es, h1, h2 => by
    unfold shpL at h1 h2
    cases q1 : shp n d with
    | false => rw [q1] at h1; cases h1
    | true =>
      cases q2 : shp n e with
      | false => rw [q2] at h2; cases h2
      | true =>
        rw [q1] at h1
        rw [q2] at h2
        simp only [eqL, toPs, PyData.eqvAll]
        rw [eqv_of n d e q1 q2, eqvs_of n ds es h1 h2]
        cases PyData.eqv (toP d) (toP e) <;> rfl
end
/-- a comparison, as the interpreter reckons it -/
def CmZ (Z : Cz) (X : Cx) (op : CmpOp) (o : Cm) : Prop :=
  OpR X (compareOp op) fun x y H Q => ∃ w h d e b, Sub w.H H ∧ Wf w ∧ HR Z w h ∧ VR Z.K Z.γ w x d ∧ VR Z.K Z.γ w y e ∧ cmpD h o d e = some b ∧ Q (.bl b) H
variable {X : Cx}
theorem flat_ok (s : Sub w.H H) (hr : HR Z w h) {v : V} {d : D} (r : VR Z.K Z.γ w v d) (q : shp 40 (flat h d) = true) : Dp Z.K H v (toP (flat h d)) ∧ SeqAt.shaped (toP (flat h d)) = true := by
  have fin : VR Z.K Z.γ w v d → shp 40 d = true → Dp Z.K H v (toP d) ∧ SeqAt.shaped (toP d) = true := fun r q => by
    have l := lay_of 40 d v q r
    refine ⟨dp_of s 40 d v q r, ?_⟩
    unfold SeqAt.shaped
    rw [l.1, decide_eq_true (show (toP d).depth ≤ 64 by omega)]; rfl
  cases d with
  | ref n =>
    cases p : look h.es n with
    | none => simp only [flat, p] at q; cases q
    | some o =>
      cases o with
      | lst ds =>
        simp only [flat, p] at q ⊢
        obtain ⟨a, xs, rfl, e2, e3, e4⟩ := itemsL_ok hr r (show itemsL h (.ref n) = some ds by simp only [itemsL, p])
        have e3' := dps_of s 39 ds xs q e3
        have l := lays_of 39 ds xs q e3
        simp only [toP]
        refine ⟨.lst (SqL.of (s _ _ e2)) e3', ?_⟩
        have l1 : (PyData.list (toPs ds)).canLay0 = true := by simp only [PyData.canLay0]; exact l.1
        have l2 : (PyData.list (toPs ds)).depth ≤ 64 := by simp only [PyData.depth]; omega
        unfold SeqAt.shaped
        rw [l1, decide_eq_true l2]; rfl
      | _ => simp only [flat, p] at q; cases q
  | _ => exact fin r q
theorem eqv_inv {d e : D} {b : Bool} (q : eqv h d e = some b) : (∃ i j, d = .int i ∧ e = .int j ∧ b = (i == j)) ∨ (∃ i j, d = .str i ∧ e = .str j ∧ b = (i == j)) ∨ (shp 40 (flat h d) = true ∧ shp 40 (flat h e) = true ∧ b = eqD (flat h d) (flat h e)) := by
  unfold eqv at q
  split at q
  · cases q; exact .inl ⟨_, _, rfl, rfl, rfl⟩
  · cases q; exact .inr (.inl ⟨_, _, rfl, rfl, rfl⟩)
  · split at q
    · rename_i c
      cases q
      simp only [Bool.and_eq_true] at c
      exact .inr (.inr ⟨c.1, c.2, rfl⟩)
    · cases q
theorem eqv_ok (s : Sub w.H H) (hr : HR Z w h) {x y : V} {d e : D} {b : Bool} (r : VR Z.K Z.γ w x d) (r' : VR Z.K Z.γ w y e) (q : eqv h d e = some b) :
    ∃ p p', Dp Z.K H x p ∧ Dp Z.K H y p' ∧ SeqAt.shaped p = true ∧ SeqAt.shaped p' = true ∧ PyData.eqv p p' = b := by
  have gen : shp 40 (flat h d) = true → shp 40 (flat h e) = true → b = eqD (flat h d) (flat h e) → ∃ p p', Dp Z.K H x p ∧ Dp Z.K H y p' ∧ SeqAt.shaped p = true ∧ SeqAt.shaped p' = true ∧ PyData.eqv p p' = b := fun q1 q2 q3 => by
    obtain ⟨a1, a2⟩ := flat_ok s hr r q1
    obtain ⟨b1, b2⟩ := flat_ok s hr r' q2
    exact ⟨_, _, a1, b1, a2, b2, by rw [q3, eqv_of 40 _ _ q1 q2]⟩
  rcases eqv_inv q with ⟨i, j, rfl, rfl, e⟩ | ⟨i, j, rfl, rfl, e⟩ | ⟨a, b', e⟩
  · exact gen rfl rfl (by rw [e]; simp [flat, eqD])
  · exact gen rfl rfl (by rw [e]; simp [flat, eqD])
  · exact gen a b' e
theorem cmz_eq (hK : X.K = Z.K) (hu : X.A.units + 64 < cLine) : CmZ Z X .Eq .eq := by
  intro pins s σ H x y v u Q I rx ry ⟨w, h, d, e, b, sb, wf, hr, r, r', ez, q⟩
  obtain ⟨p, p', e1, e2, e3, e4, e5⟩ := eqv_ok sb hr r r' (show eqv h d e = some b from ez)
  exact op_eqD hu pins s σ H x y v u Q I rx ry ⟨p, p', by rw [hK]; exact e1, by rw [hK]; exact e2, e3, e4, by rw [e5]; exact q⟩
theorem cmz_ne (hK : X.K = Z.K) (hu : X.A.units + 64 < cLine) : CmZ Z X .NotEq .ne := by
  intro pins s σ H x y v u Q I rx ry ⟨w, h, d, e, b, sb, wf, hr, r, r', ez, q⟩
  simp only [cmpD] at ez
  cases qe : eqv h d e with
  | none => rw [qe] at ez; cases ez
  | some c =>
    rw [qe] at ez
    cases ez
    obtain ⟨p, p', e1, e2, e3, e4, e5⟩ := eqv_ok sb hr r r' qe
    exact op_neD hu pins s σ H x y v u Q I rx ry ⟨p, p', by rw [hK]; exact e1, by rw [hK]; exact e2, e3, e4, by rw [e5]; exact q⟩
theorem cmz_lt : CmZ Z X .Lt .lt := by
  intro pins s σ H x y v u Q I rx ry ⟨w, h, d, e, b, sb, wf, hr, r, r', ez, q⟩
  simp only [cmpD] at ez
  split at ez
  · cases ez; cases r; cases r'
    exact op_lt pins s σ H _ _ v u Q I rx ry ⟨_, _, rfl, rfl, q⟩
  · cases ez
theorem cmz_le : CmZ Z X .LtE .le := by
  intro pins s σ H x y v u Q I rx ry ⟨w, h, d, e, b, sb, wf, hr, r, r', ez, q⟩
  simp only [cmpD] at ez
  split at ez
  · cases ez; cases r; cases r'
    exact op_le pins s σ H _ _ v u Q I rx ry ⟨_, _, rfl, rfl, q⟩
  · cases ez
theorem cmz_gt : CmZ Z X .Gt .gt := by
  intro pins s σ H x y v u Q I rx ry ⟨w, h, d, e, b, sb, wf, hr, r, r', ez, q⟩
  simp only [cmpD] at ez
  split at ez
  · cases ez; cases r; cases r'
    exact op_gt pins s σ H _ _ v u Q I rx ry ⟨_, _, rfl, rfl, q⟩
  · cases ez
theorem cmz_ge : CmZ Z X .GtE .ge := by
  intro pins s σ H x y v u Q I rx ry ⟨w, h, d, e, b, sb, wf, hr, r, r', ez, q⟩
  simp only [cmpD] at ez
  split at ez
  · cases ez; cases r; cases r'
    exact op_ge pins s σ H _ _ v u Q I rx ry ⟨_, _, rfl, rfl, q⟩
  · cases ez
theorem isNon_ok {x : V} {d : D} (r : VR Z.K Z.γ w x d) : isNon d = decide (x = .non) := by cases r <;> simp [isNon]
theorem cmz_is : CmZ Z X .Is .is := by
  intro pins s σ H x y v u Q I rx ry ⟨w, h, d, e, b, sb, wf, hr, r, r', ez, q⟩
  simp only [cmpD] at ez
  split at ez
  · cases ez; cases r'
    exact op_isN pins s σ H _ _ v u Q I rx ry ⟨rfl, by rw [← isNon_ok r]; exact q⟩
  · split at ez
    · cases ez; cases r; cases r'
      exact op_isBl pins s σ H _ _ v u Q I rx ry ⟨_, _, rfl, rfl, q⟩
    · cases ez
  · cases ez
theorem cmz_isn : CmZ Z X .IsNot .isn := by
  intro pins s σ H x y v u Q I rx ry ⟨w, h, d, e, b, sb, wf, hr, r, r', ez, q⟩
  simp only [cmpD] at ez
  split at ez
  · cases ez; cases r'
    exact op_notN pins s σ H _ _ v u Q I rx ry ⟨rfl, by rw [← isNon_ok r]; exact q⟩
  · split at ez
    · cases ez; cases r; cases r'
      exact op_notBl pins s σ H _ _ v u Q I rx ry ⟨_, _, rfl, rfl, q⟩
    · cases ez
  · cases ez
end
end Z

namespace Z
open PySem PySem.Spec PyProof.Rows L2

/-! ### the check: the compact form is the text -/
structure Ck where
  N : List Str
  /-- names of the module's things -/
  gn : Nat → Option Str
  /-- names of fields and methods -/
  fn : Nat → Str
  /-- the things that are defs -/
  df : Nat → Bool
def vis (sc : Scope) (x : Str) : Bool := match sc.names.lookup x with | some .local => true | some .cell => true | some .free => true | _ => false
def loc (sc : Scope) (x : Str) : Bool := match sc.names.lookup x with | some .local => true | some .cell => true | _ => false
def glo (sc : Scope) (x : Str) : Bool := (match sc.names.lookup x with | some .globalImplicit => true | _ => false) && !(x == ("__debug__" : Str))
structure MM where
  e : Expr → Bool
  a : List Expr → Bool
  o : List Expr → Bool
  l : List Expr → Bool
  /-- what is walked, for a target -/
  i : Expr → Expr → Bool
/-- an expression that is no list of arguments, no tail of and, or -/
def one (f : Expr → Bool) : MM := ⟨f, fun xs => match xs with | [x] => f x | _ => false, fun xs => match xs with | [x] => f x | _ => false, fun _ => false, fun _ x => f x⟩
def opName : Op → Operator
  | .add => .Add | .sub => .Sub | .mul => .Mult | .fdiv => .FloorDiv | .mod => .Mod | .pow => .Pow | .shl => .LShift | .shr => .RShift | .band => .BitAnd
def opOk (o : Op) (p : Operator) : Bool := match o, p with
  | .add, .Add => true | .sub, .Sub => true | .mul, .Mult => true | .fdiv, .FloorDiv => true | .mod, .Mod => true | .pow, .Pow => true | .shl, .LShift => true
  | _, _ => false
def cmOk (o : Cm) (p : CmpOp) : Bool := match o, p with
  | .eq, .Eq => true | .ne, .NotEq => true | .lt, .Lt => true | .le, .LtE => true | .gt, .Gt => true | .ge, .GtE => true | .is, .Is => true | .isn, .IsNot => true
  | _, _ => false
def biName : Bi → Str
  | .len => "len" | .abs => "abs" | .gcd => "gcd" | .int => "int" | .tuple => "tuple" | .list => "list" | .all => "all" | .any => "any" | .sum => "sum" | .sorted => "sorted" | .min => "min" | .max => "max"
def star0 (x : Expr) : Bool := match x with | .Starred _ _ => false | _ => true
/-! ### targets -/
structure GM where
  e : Expr → Bool
  l : List Expr → Bool
def mg (c : Ck) (sc : Scope) : G → GM
  | .nm i => ⟨fun x => match x with | .Name id _ => decide (c.N[i]? = some id) && loc sc id | _ => false, fun _ => false⟩
  | .tp g => ⟨fun x => match x with | .Tuple xs _ _ => (mg c sc g).l xs | _ => false, fun _ => false⟩
  | .nil => ⟨fun _ => false, fun xs => match xs with | [] => true | _ => false⟩
  | .cons g gs => ⟨fun _ => false, fun xs => match xs with | x :: r => star0 x && (mg c sc g).e x && (mg c sc gs).l r | _ => false⟩
/-- the slots that a target stores into -/
def gIx : G → List Nat
  | .nm i => [i]
  | .tp g => gIx g
  | .nil => []
  | .cons g gs => gIx g ++ gIx gs
def ownS (c : Ck) (own : List Nat) : List (Str × Nat) := own.filterMap fun i => (c.N[i]?).map fun x => (x, i)
def isTT : E → Bool
  | .bl true => true
  | _ => false
def notSet (x : Expr) : Bool := match x with | .Set _ _ _ => false | _ => true
def isAl : E → Bool
  | .lst _ => true
  | .comp _ _ _ _ _ => true
  | .bcall .list _ => true
  | _ => false
def tyName : Ty → Str
  | .int => "int" | .bool => "bool" | .str => "str" | .tuple => "tuple" | .list => "list" | .seq => "seq"
def tyOne : Ty → Bool
  | .seq => false
  | _ => true
def bmName : Bm → Str
  | .append => "append" | .extend => "extend" | .pop => "pop" | .bitlen => "bit_length"
def okBase (x : Expr) : Bool := match x with | .Call _ _ _ _ => false | _ => true
def bmMany (m : Bm) (xs : List Expr) : Bool := match m, xs with
  | .append, [_] => true
  | .extend, [_] => true
  | .pop, [] => true
  | .bitlen, [] => true
  | _, _ => false
def only (f : Expr → Expr → Bool) : MM := ⟨fun _ => false, fun _ => false, fun _ => false, fun _ => false, f⟩
def mm (c : Ck) : E → Scope → MM
  | .var i => fun sc => one fun x => match x with | .Name id _ => decide (c.N[i]? = some id) && vis sc id && !(id == ("__debug__" : Str)) && !(id == ("__classdict__" : Str)) | _ => false
  | .int i => fun _ => one fun x => match x with | .Constant (.int j) _ _ => decide (i = j) | _ => false
  | .bl b => fun _ => one fun x => match x with | .Constant (.bool j) _ _ => b == j | _ => false
  | .non => fun _ => one fun x => match x with | .Constant .none _ _ => true | _ => false
  | .str l => fun _ => one fun x => match x with | .Constant (.str s) _ _ => decide (s.cps.toList = l) && l.all (fun c => Nat.blt c 128) && Nat.ble l.length 1000 | _ => false
  | .glb n => fun sc => one fun x => match x with | .Name id _ => decide (c.gn n = some id) && glo sc id | _ => false
  | .nil => fun _ => ⟨fun _ => false, fun _ => false, fun _ => false, fun xs => match xs with | [] => true | _ => false, fun _ _ => false⟩
  | .cons e es => fun sc => ⟨fun _ => false, fun _ => false, fun _ => false, fun xs => match xs with | x :: r => star0 x && (mm c e sc).e x && (mm c es sc).l r | _ => false, fun _ _ => false⟩
  | .tup es => fun sc => one fun x => match x with | .Tuple xs _ _ => (mm c es sc).l xs && Nat.ble xs.length 1000 | _ => false
  | .lst es => fun sc => one fun x => match x with | .List xs _ => (mm c es sc).l xs && Nat.ble xs.length 1000 | _ => false
  | .bop o a b => fun sc => one fun x => match x with | .BinOp l p r _ => opOk o p && (mm c a sc).e l && (mm c b sc).e r | _ => false
  | .neg a => fun sc => one fun x => match x with | .UnaryOp .USub l _ => (mm c a sc).e l | _ => false
  | .not a => fun sc => one fun x => match x with | .UnaryOp .Not l _ => (mm c a sc).e l | _ => false
  | .cmp o a b => fun sc => one fun x => match x with | .Compare l [p] [r] _ => cmOk o p && (mm c a sc).e l && (mm c b sc).e r | _ => false
  | .chain o o' a b d => fun sc => one fun x => match x with | .Compare l [p, p'] [r, t] _ => cmOk o p && cmOk o' p' && (mm c a sc).e l && (mm c b sc).e r && (mm c d sc).e t && !lastMarks [p, p'] [r, t] | _ => false
  | .and a b => fun sc =>
    let f : Expr → Bool := fun x => match x with | .BoolOp .And (v :: u :: r) _ => (mm c a sc).e v && (mm c b sc).a (u :: r) | _ => false
    ⟨f, fun xs => match xs with | [x] => f x | v :: u :: r => (mm c a sc).e v && (mm c b sc).a (u :: r) | _ => false, fun xs => match xs with | [x] => f x | _ => false, fun _ => false, fun _ x => f x⟩
  | .or a b => fun sc =>
    let f : Expr → Bool := fun x => match x with | .BoolOp .Or (v :: u :: r) _ => (mm c a sc).e v && (mm c b sc).o (u :: r) | _ => false
    ⟨f, fun xs => match xs with | [x] => f x | _ => false, fun xs => match xs with | [x] => f x | v :: u :: r => (mm c a sc).e v && (mm c b sc).o (u :: r) | _ => false, fun _ => false, fun _ x => f x⟩
  | .ife t a b => fun sc => one fun x => match x with | .IfExp u l r _ => (mm c t sc).e u && (mm c a sc).e l && (mm c b sc).e r | _ => false
  | .call f es => fun sc => one fun x => match x with | .Call (.Name id _) (v :: r) [] _ => decide (c.gn f = some id) && glo sc id && (mm c es sc).l (v :: r) && c.df f | _ => false
  | .bcall b es => fun sc => one fun x => match x with | .Call (.Name id _) (v :: r) [] _ => decide (biName b = id) && glo sc id && (mm c es sc).l (v :: r) | _ => false
  | .ix a b => fun sc => one fun x => match x with | .Subscript l r _ => (match r with | .Slice _ _ _ _ => false | _ => true) && (mm c a sc).e l && (mm c b sc).e r | _ => false
  | .slc a lo hi => fun sc => one fun x => match x with
    | .Subscript l (.Slice lo' hi' none _) _ => (mm c a sc).e l && (match lo' with | none => isNop lo | some y => !isNop lo && (mm c lo sc).e y) && (match hi' with | none => isNop hi | some y => !isNop hi && (mm c hi sc).e y)
    | _ => false
  | .comp own elt g it cnd => fun sc => one fun x => match x with
    | .ListComp y [⟨tg, iter, ifs, 0⟩] scope _ => decide ((ownS c own).map (·.2) = own) && blkC c.N sc scope (ownS c own) && (mg c scope g).e tg && (gIx g).all (fun i => decide (i ∈ own)) && notSet iter &&
      (mm c it sc).i tg iter && (mm c elt (relS scope sc)).e y && (match ifs with | [] => isTT cnd | [t] => !isTT cnd && (mm c cnd (relS scope sc)).e t | _ => false)
    | _ => false
  | .allo e => fun sc => one fun x => isAl e && (mm c e sc).e x
  | .rev a => fun sc => one fun x => match x with | .Subscript l (.Slice none none (some (.UnaryOp .USub (.Constant (.int 1) _ _) _)) _) _ => (mm c a sc).e l | _ => false
  | .isi a t => fun sc => one fun x => match x with | .Call (.Name id _) [v, .Name ty _] [] _ => decide (id = "isinstance") && glo sc id && star0 v && (mm c a sc).e v && decide (ty = tyName t) && glo sc ty && tyOne t | _ => false
  | .bm m o es => fun sc => one fun x => match x with
    | .Call (.Attribute y name apos) xs [] pos => decide (name = bmName m) && okBase y && (apos.endLine == pos.line) && (mm c o sc).e y && (mm c es sc).l xs && bmMany m xs
    | _ => false
  | .rng1 a => fun sc => only fun _ x => match x with | .Call (.Name id _) [v] [] _ => decide (id = "range") && glo sc id && star0 v && (mm c a sc).e v | _ => false
  | .rng2 a b => fun sc => only fun _ x => match x with | .Call (.Name id _) [v, u] [] _ => decide (id = "range") && glo sc id && star0 v && star0 u && (mm c a sc).e v && (mm c b sc).e u | _ => false
  | .rng3 a b d => fun sc => only fun _ x => match x with | .Call (.Name id _) [v, u, y] [] _ => decide (id = "range") && glo sc id && star0 v && star0 u && star0 y && (mm c a sc).e v && (mm c b sc).e u && (mm c d sc).e y | _ => false
  | .enum a => fun sc => only fun tg x => match tg, x with | .Tuple _ _ _, .Call (.Name id _) [v] [] _ => decide (id = "enumerate") && glo sc id && star0 v && (mm c a sc).e v | _, _ => false
  | .zip a b => fun sc => only fun tg x => match tg, x with | .Tuple _ _ _, .Call (.Name id _) [v, u] [] _ => decide (id = "zip") && glo sc id && star0 v && star0 u && (mm c a sc).e v && (mm c b sc).e u | _, _ => false
  | _ => fun _ => ⟨fun _ => false, fun _ => false, fun _ => false, fun _ => false, fun _ _ => false⟩

/-! ### soundness -/
section
variable (Z : Cz)
def TTZ (W : WX) (f : Ev) : TT := fun σ H Q => ∃ w σD h kx k, Good Z w H σ σD h ∧ f σD h kx k = true ∧
  (∀ w' H' d h' v, Nx w H w' H' → Wf w' → HR Z w' h' → VR Z.K Z.γ w' v d → k d h' = true → ∃ b, truth h' d = some b ∧ Q b H') ∧ PostX Z w H σ kx W
def TAZ (W : WX) (f : Ev) (n : Nat) : TA := fun σ H Q => ∃ w σD h kx k, Good Z w H σ σD h ∧ f σD h kx k = true ∧
  (∀ w' H' ds h' vs, Nx w H w' H' → Wf w' → HR Z w' h' → VRs Z.K Z.γ w' vs ds → ds.length = n → k (.tup ds) h' = true → Q vs H') ∧ PostX Z w H σ kx W
def PostE (w : Wd) (H : HP) (kx : KX) (E : XK) : Prop := ∀ w' H' c fs h' cls dct, Nx w H w' H' → Wf w' → HR Z w' h' → XR w' cls dct c fs → kx c fs h' = true → E cls dct H'
def spZ (T : Tx) (f : Nat) : Sp := fun vs H Q E => ∃ w ds h kx k, Sub w.H H ∧ Wf w ∧ HR Z w h ∧ VRs Z.K Z.γ w vs ds ∧ T.F f ds h kx k = true ∧ PostV Z w H k Q ∧ PostE Z w H kx E
structure FnAt (X : Cx) (T : Tx) (lev f : Nat) : Prop where
  ex : ∃ a fd ps, Z.γ f = some a ∧ PySem.W.keepIn X.K (.ref a) = true ∧ Binds X.K fd ps [] ∧ FnOk X.prog X.w X.K X.mg X.base (L2.CX X.prog X.w) lev a fd ps (spZ Z T f)
/-- what holds of a context -/
structure Cv (c : Ck) (T : Tx) (lev : Nat) (X : Cx) : Prop where
  hK : X.K = Z.K
  hN : X.N = c.N
  nd : X.N.Nodup
  calm : X.calm = true
  room : Room lev X.A
  fnm : c.fn = Z.fn
  glb : ∀ n d, T.C n = some d → ∀ id, c.gn n = some id → ∃ u v, X.mg id = some u ∧ RelV v u ∧ ∀ w, VR Z.K Z.γ w v d
  fn : ∀ f id, c.gn f = some id → c.df f = true → FnAt Z X T lev f ∧ ∃ a, Z.γ f = some a ∧ X.mg id = some (.ref a)
  blt : ∀ b, b ≠ Bi.gcd → X.mg (biName b) = none
  gcd : X.mg "gcd" = some (.builtin "math.gcd")
  more : ∀ x ∈ (["isinstance", "range", "enumerate", "zip", "int", "bool", "str", "tuple", "list"] : List Str), X.mg x = none
structure SE (X : Cx) (W : WX) (f : Ev) (x : Expr) : Prop where
  e : PE X x (TZ Z W f)
  t : PT X x (TTZ Z W f)
structure SN (X : Cx) (W : WX) (f : Ev) (m : MM) : Prop where
  e : ∀ x, m.e x = true → SE Z X W f x
  a : ∀ xs pos, m.a xs = true → PE X (.BoolOp .And xs pos) (TZ Z W f) ∧ PW X (.BoolOp .And xs pos) (TTZ Z W f)
  o : ∀ xs pos, m.o xs = true → PE X (.BoolOp .Or xs pos) (TZ Z W f) ∧ PW X (.BoolOp .Or xs pos) (TTZ Z W f)
  l : ∀ xs, m.l xs = true → PA X xs (TAZ Z W f xs.length)
end
section
variable {Z : Cz} {X : Cx} {W : WX} {T : Tx} {lev : Nat} {c : Ck} {f : Ev} {x : Expr}
theorem _root_.L2.PW.imp {X : Cx} {e : Expr} {t t' : TT} (h : PW X e t) (i : ∀ σ H Q, t' σ H Q → t σ H Q) : PW X e t' := ⟨fun wh pins s σ H Q I q => h.run wh pins s σ H Q I (i σ H Q q)⟩
/-- the test of an expression whose truth is asked behind its value -/
theorem SE.of (hK : X.K = Z.K) (h : PE X x (TZ Z W f)) (he : ∀ whole, isTrue x X.env whole = (do let v ← whole; standAt x.pos; holding [v] (truthy v))) : SE Z X W f x :=
  ⟨h, (pt_truth h he).imp fun σ H Q ⟨w, σD, hd, kx, k, g, e, p, px⟩ => ⟨w, σD, hd, kx, k, g, e, fun w' H' d h' v n wf hr r e' => by
    obtain ⟨b, e1, q⟩ := p w' H' d h' v n wf hr r e'
    exact ⟨b, by rw [hK]; exact truth_ok n.sub hr r e1, q⟩, px⟩⟩
theorem SN.one {m : Expr → Bool} (h : ∀ x, m x = true → SE Z X W f x) : SN Z X W f (one m) := by
  refine ⟨h, fun xs pos e => ?_, fun xs pos e => ?_, fun xs e => by cases e⟩
  · match xs, e with
    | [y], e => exact ⟨pe_one (h y e).e, pw_and1 (h y e).t⟩
  · match xs, e with
    | [y], e => exact ⟨pe_one (h y e).e, pw_or1 (h y e).t⟩
theorem star_of {x : Expr} {xs : List Expr} {env : Env} (h : star0 x = true) : starEach (x :: xs) env = (false, eval x env) :: starEach xs env := by
  cases x <;> first | rfl | cases h
theorem nx_good {w : Wd} {H : HP} {σ : L2.St} {σD : Sg} {h : Hd} (g : Good Z w H σ σD h) : Nx w H w H := .refl g.sub
theorem PostV.run {w : Wd} {H : HP} {k : K1} {Q : VK} (p : PostV Z w H k Q) {σ : L2.St} {σD : Sg} {h : Hd} (g : Good Z w H σ σD h) {d : D} {v : V} (r : VR Z.K Z.γ w v d) (e : k d h = true) : Q v H := p w H d h v (.refl g.sub) g.wf g.hr r e
theorem s_var {i : Nat} {sc : Scope} (C : Cv Z c T lev X) (hs : X.env.scope = sc) : SN Z X W (ev T (.var i)) (mm c (.var i) sc) := .one fun x hx => by
  split at hx
  · rename_i id pos
    simp only [Bool.and_eq_true, decide_eq_true_eq, Bool.not_eq_true'] at hx
    obtain ⟨⟨⟨h1, h2⟩, h3⟩, h4⟩ := hx
    have hv : Vis X.env.scope id := by
      rw [hs]
      unfold vis at h2
      split at h2
      · exact .inl (by assumption)
      · exact .inr (.inl (by assumption))
      · exact .inr (.inr (by assumption))
      · cases h2
    refine .of C.hK ((pe_var (by rw [C.hN]; exact h1) hv h3 h4).imp fun σ H Q ⟨w, σD, h, kx, k, g, e, p, px⟩ => ?_) (fun _ => rfl)
    simp only [ev] at e
    cases q : getS σD i with
    | none => rw [q] at e; cases e
    | some d =>
      rw [q] at e
      obtain ⟨v, e1, r⟩ := g.sl.at_ i d q
      exact ⟨v, e1, p.run g r e⟩
  · cases hx
theorem s_int {i : Int} {sc : Scope} (C : Cv Z c T lev X) : SN Z X W (ev T (.int i)) (mm c (.int i) sc) := .one fun x hx => by
  split at hx
  · have hx := of_decide_eq_true hx
    subst hx
    exact .of C.hK (pe_int.imp fun σ H Q ⟨w, σD, h, kx, k, g, e, p, px⟩ => p.run g (.int _) e) (fun _ => rfl)
  · cases hx
theorem s_bl {i : Bool} {sc : Scope} (C : Cv Z c T lev X) : SN Z X W (ev T (.bl i)) (mm c (.bl i) sc) := .one fun x hx => by
  split at hx
  · have hx := eq_of_beq hx
    subst hx
    exact .of C.hK (pe_bl.imp fun σ H Q ⟨w, σD, h, kx, k, g, e, p, px⟩ => p.run g (.bl _) e) (fun _ => rfl)
  · cases hx
theorem s_non {sc : Scope} (C : Cv Z c T lev X) : SN Z X W (ev T .non) (mm c .non sc) := .one fun x hx => by
  split at hx
  · exact .of C.hK (pe_non.imp fun σ H Q ⟨w, σD, h, kx, k, g, e, p, px⟩ => p.run g .non e) (fun _ => rfl)
  · cases hx
theorem s_str {l : List Nat} {sc : Scope} (C : Cv Z c T lev X) : SN Z X W (ev T (.str l)) (mm c (.str l) sc) := .one fun x hx => by
  split at hx
  · rename_i s j pos
    simp only [Bool.and_eq_true, decide_eq_true_eq, List.all_eq_true] at hx
    obtain ⟨⟨h1, h2⟩, h3⟩ := hx
    have h3 := Nat.le_of_ble_eq_true h3
    refine .of C.hK (pe_str.imp fun σ H Q ⟨w, σD, h, kx, k, g, e, p, px⟩ => p.run g (.str h1 (by rw [sizeLine_eq]; omega) fun n hn => ?_) e) (fun _ => rfl)
    have := h2 n hn
    unfold Nat.blt at this
    exact Nat.le_of_ble_eq_true this
  · cases hx
theorem glo_ok {sc : Scope} {id : Str} (hs : X.env.scope = sc) (h : glo sc id = true) : Gl X id ∧ (id == ("__debug__" : Str)) = false := by
  unfold glo at h
  simp only [Bool.and_eq_true, Bool.not_eq_true'] at h
  refine ⟨?_, h.2⟩
  unfold Gl Env.kindOf
  rw [hs]
  have h := h.1
  split at h
  · assumption
  · cases h
theorem s_glb {n : Nat} {sc : Scope} (C : Cv Z c T lev X) (hs : X.env.scope = sc) : SN Z X W (ev T (.glb n)) (mm c (.glb n) sc) := .one fun x hx => by
  split at hx
  · rename_i id pos
    simp only [Bool.and_eq_true, decide_eq_true_eq] at hx
    obtain ⟨hg, hd⟩ := glo_ok hs hx.2
    refine .of C.hK ⟨fun pins s σ H Q I ⟨w, σD, h, kx, k, g, e, p, px⟩ => ?_⟩ (fun _ => rfl)
    simp only [ev] at e
    cases q : T.C n with
    | none => rw [q] at e; cases e
    | some d =>
      rw [q] at e
      obtain ⟨u, v, hm, rv, r⟩ := C.glb n d q id hx.1
      exact (pe_glob hg hm rv hd).run pins s σ H Q I (p.run g (r w) e)
  · cases hx
theorem s_nil {sc : Scope} : SN Z X W (ev T .nil) (mm c .nil sc) := by
  refine ⟨(fun _ e => by cases e), (fun _ _ e => by cases e), (fun _ _ e => by cases e), fun xs e => ?_⟩
  cases xs with
  | nil => exact pa_nil.imp fun σ H Q ⟨w, σD, h, kx, k, g, e, p, px⟩ => p w H [] h [] (.refl g.sub) g.wf g.hr .nil rfl e
  | cons => cases e
theorem s_cons {a b : E} {sc : Scope} (ia : SN Z X W (ev T a) (mm c a sc)) (ib : SN Z X W (ev T b) (mm c b sc)) : SN Z X W (ev T (.cons a b)) (mm c (.cons a b) sc) := by
  refine ⟨(fun _ e => by cases e), (fun _ _ e => by cases e), (fun _ _ e => by cases e), fun xs e => ?_⟩
  cases xs with
  | nil => cases e
  | cons x r =>
    have hx : (star0 x && (mm c a sc).e x && (mm c b sc).l r) = true := e
    simp only [Bool.and_eq_true] at hx
    refine (pa_cons (ia.e x hx.1.2).e (ib.l r hx.2) (star_of hx.1.1)).imp fun σ H Q ⟨w, σD, h, kx, k, g, e, p, px⟩ => ?_
    simp only [ev] at e
    refine ⟨w, σD, h, kx, _, g, e, fun w1 H1 d h1 v n1 wf1 hr1 r1 e1 => ?_, px⟩
    refine ⟨w1, σD, h1, kx, _, g.next n1 wf1 hr1, e1, fun w2 H2 ds h2 vs n2 wf2 hr2 r2 l2 e2 => ?_, px.next n1⟩
    exact p w2 H2 (d :: ds) h2 (v :: vs) (n1.trans n2) wf2 hr2 (.cons (r1.mono n2.le wf1) r2) (by simp [l2]) e2
theorem VRs.few {K : PySem.W.Frag} {γ : Nat → Option Addr} {w : Wd} {vs : List V} {ds : List D} (r : VRs K γ w vs ds) (h : ds.length ≤ sizeLine) : vs.length ≤ sizeLine := by rw [r.length]; exact h
theorem op_rule {o : Op} {p : Operator} (C : Cv Z c T lev X) (h : opOk o p = true) : OpZ Z X (binaryOp p) (fun h => opD h o) :=
  match o, p, h with
  | .add, .Add, _ => opz_add C.hK
  | .sub, .Sub, _ => opz_sub
  | .mul, .Mult, _ => opz_mul C.hK
  | .fdiv, .FloorDiv, _ => opz_div
  | .mod, .Mod, _ => opz_mod
  | .pow, .Pow, _ => opz_pow
  | .shl, .LShift, _ => opz_shl
theorem s_bop {o : Op} {a b : E} {sc : Scope} (C : Cv Z c T lev X) (ia : SN Z X W (ev T a) (mm c a sc)) (ib : SN Z X W (ev T b) (mm c b sc)) : SN Z X W (ev T (.bop o a b)) (mm c (.bop o a b) sc) := .one fun x hx => by
  split at hx
  · rename_i l p r pos
    simp only [Bool.and_eq_true] at hx
    obtain ⟨⟨h1, h2⟩, h3⟩ := hx
    have ho : OpZ Z X (binaryOp p) (fun h => opD h o) := op_rule C h1
    refine .of C.hK ((pe_op ho (ia.e l h2).e (ib.e r h3).e).imp fun σ H Q ⟨w, σD, h, kx, k, g, e, p, px⟩ => ?_) (fun _ => rfl)
    simp only [ev] at e
    refine ⟨w, σD, h, kx, _, g, e, fun w1 H1 d h1 v n1 wf1 hr1 r1 e1 => ?_, px⟩
    refine ⟨w1, σD, h1, kx, _, g.next n1 wf1 hr1, e1, fun w2 H2 d2 h2 v2 n2 wf2 hr2 r2 e2 => ?_, px.next n1⟩
    cases q : opD h2 o d d2 with
    | none => simp only [q] at e2; cases e2
    | some z =>
      simp only [q] at e2
      exact ⟨w2, h2, d, d2, z, n2.sub, wf2, hr2, r1.mono n2.le wf1, r2, q, fun w3 H3 v3 n3 wf3 hr3 r3 => p w3 H3 z h2 v3 ((n1.trans n2).trans n3) wf3 hr3 r3 e2⟩
  · cases hx
theorem s_neg {a : E} {sc : Scope} (C : Cv Z c T lev X) (ia : SN Z X W (ev T a) (mm c a sc)) : SN Z X W (ev T (.neg a)) (mm c (.neg a) sc) := .one fun x hx => by
  split at hx
  · refine .of C.hK ((pe_un un_neg (ia.e _ hx).e).imp fun σ H Q ⟨w, σD, h, kx, k, g, e, p, px⟩ => ?_) (fun _ => rfl)
    simp only [ev] at e
    refine ⟨w, σD, h, kx, _, g, e, fun w1 H1 d h1 v n1 wf1 hr1 r1 e1 => ?_, px⟩
    dsimp only at e1
    split at e1
    · cases r1
      exact ⟨_, rfl, p w1 H1 _ h1 _ n1 wf1 hr1 (.int _) e1⟩
    · cases e1
  · cases hx
theorem s_not {a : E} {sc : Scope} (C : Cv Z c T lev X) (ia : SN Z X W (ev T a) (mm c a sc)) : SN Z X W (ev T (.not a)) (mm c (.not a) sc) := .one fun x hx => by
  split at hx
  · refine ⟨(pe_notT (ia.e _ hx).e).imp fun σ H Q ⟨w, σD, h, kx, k, g, e, p, px⟩ => ?_, (pt_not (ia.e _ hx).t).imp fun σ H Q ⟨w, σD, h, kx, k, g, e, p, px⟩ => ?_⟩
    · simp only [ev] at e
      refine ⟨w, σD, h, kx, _, g, e, fun w1 H1 d h1 v n1 wf1 hr1 r1 e1 => ?_, px⟩
      cases q : truth h1 d with
      | none => simp only [q] at e1; cases e1
      | some b =>
        simp only [q] at e1
        exact ⟨b, by rw [C.hK]; exact truth_ok n1.sub hr1 r1 q, p w1 H1 _ h1 _ n1 wf1 hr1 (.bl _) e1⟩
    · simp only [ev] at e
      refine ⟨w, σD, h, kx, _, g, e, fun w1 H1 d h1 v n1 wf1 hr1 r1 e1 => ?_, px⟩
      cases q : truth h1 d with
      | none => simp only [q] at e1; cases e1
      | some b =>
        simp only [q] at e1
        obtain ⟨b', q1, q2⟩ := p w1 H1 _ h1 _ n1 wf1 hr1 (.bl _) e1
        have q1 : some (!b) = some b' := q1
        cases q1
        exact ⟨b, rfl, q2⟩
  · cases hx
theorem cm_rule {o : Cm} {p : CmpOp} (C : Cv Z c T lev X) (h : cmOk o p = true) : CmZ Z X p o ∧ p ≠ .In ∧ p ≠ .NotIn :=
  have hu : X.A.units + 64 < cLine := C.room.units
  match o, p, h with
  | .eq, .Eq, _ => ⟨cmz_eq C.hK hu, by decide, by decide⟩
  | .ne, .NotEq, _ => ⟨cmz_ne C.hK hu, by decide, by decide⟩
  | .lt, .Lt, _ => ⟨cmz_lt, by decide, by decide⟩
  | .le, .LtE, _ => ⟨cmz_le, by decide, by decide⟩
  | .gt, .Gt, _ => ⟨cmz_gt, by decide, by decide⟩
  | .ge, .GtE, _ => ⟨cmz_ge, by decide, by decide⟩
  | .is, .Is, _ => ⟨cmz_is, by decide, by decide⟩
  | .isn, .IsNot, _ => ⟨cmz_isn, by decide, by decide⟩
theorem s_cmp {o : Cm} {a b : E} {sc : Scope} (C : Cv Z c T lev X) (ia : SN Z X W (ev T a) (mm c a sc)) (ib : SN Z X W (ev T b) (mm c b sc)) : SN Z X W (ev T (.cmp o a b)) (mm c (.cmp o a b) sc) := .one fun x hx => by
  split at hx
  · rename_i l p r pos
    simp only [Bool.and_eq_true] at hx
    obtain ⟨⟨h1, h2⟩, h3⟩ := hx
    obtain ⟨ho, ni, nn⟩ := cm_rule C h1
    refine ⟨(pe_cmpR ho (ia.e l h2).e (ib.e r h3).e (nomark _ ni nn)).imp fun σ H Q ⟨w, σD, h, kx, k, g, e, p, px⟩ => ?_, (pt_cmpR ho (ia.e l h2).e (ib.e r h3).e (nomark _ ni nn)).imp fun σ H Q ⟨w, σD, h, kx, k, g, e, p, px⟩ => ?_⟩
    · simp only [ev] at e
      refine ⟨w, σD, h, kx, _, g, e, fun w1 H1 d h1 v n1 wf1 hr1 r1 e1 => ?_, px⟩
      refine ⟨w1, σD, h1, kx, _, g.next n1 wf1 hr1, e1, fun w2 H2 d2 h2 v2 n2 wf2 hr2 r2 e2 => ?_, px.next n1⟩
      cases q : cmpD h2 o d d2 with
      | none => simp only [q] at e2; cases e2
      | some z =>
        simp only [q] at e2
        exact ⟨w2, h2, d, d2, z, n2.sub, wf2, hr2, r1.mono n2.le wf1, r2, q, p w2 H2 _ h2 _ (n1.trans n2) wf2 hr2 (.bl z) e2⟩
    · simp only [ev] at e
      refine ⟨w, σD, h, kx, _, g, e, fun w1 H1 d h1 v n1 wf1 hr1 r1 e1 => ?_, px⟩
      refine ⟨w1, σD, h1, kx, _, g.next n1 wf1 hr1, e1, fun w2 H2 d2 h2 v2 n2 wf2 hr2 r2 e2 => ?_, px.next n1⟩
      cases q : cmpD h2 o d d2 with
      | none => simp only [q] at e2; cases e2
      | some z =>
        simp only [q] at e2
        obtain ⟨b', q1, q2⟩ := p w2 H2 _ h2 _ (n1.trans n2) wf2 hr2 (.bl z) e2
        have q1 : some z = some b' := q1
        cases q1
        exact ⟨w2, h2, d, d2, z, n2.sub, wf2, hr2, r1.mono n2.le wf1, r2, q, z, rfl, q2⟩
  · cases hx
theorem s_chain {o o' : Cm} {a b d : E} {sc : Scope} (C : Cv Z c T lev X) (ia : SN Z X W (ev T a) (mm c a sc)) (ib : SN Z X W (ev T b) (mm c b sc)) (ic : SN Z X W (ev T d) (mm c d sc)) : SN Z X W (ev T (.chain o o' a b d)) (mm c (.chain o o' a b d) sc) := .one fun x hx => by
  split at hx
  · rename_i l p p' r t pos
    simp only [Bool.and_eq_true, Bool.not_eq_true'] at hx
    obtain ⟨⟨⟨⟨⟨h1, h1'⟩, h2⟩, h3⟩, h4⟩, h5⟩ := hx
    obtain ⟨ho, ni, nn⟩ := cm_rule C h1
    obtain ⟨ho', ni', nn'⟩ := cm_rule C h1'
    have main : ∀ (P : D → V → HP → Prop), (∀ b H, P (.bl b) (.bl b) H → P (.bl b) (.bl b) H) → ∀ σ H (Q : VK), (∃ w σD h kx k, Good Z w H σ σD h ∧ ev T (.chain o o' a b d) σD h kx k = true ∧ (∀ w' H' b h', Nx w H w' H' → Wf w' → HR Z w' h' → k (.bl b) h' = true → Q (.bl b) H') ∧ PostX Z w H σ kx W) →
        tChain (fun x y H Q => ∃ w h d e b, Sub w.H H ∧ Wf w ∧ HR Z w h ∧ VR Z.K Z.γ w x d ∧ VR Z.K Z.γ w y e ∧ cmpD h o d e = some b ∧ Q (.bl b) H) (fun x y H Q => ∃ w h d e b, Sub w.H H ∧ Wf w ∧ HR Z w h ∧ VR Z.K Z.γ w x d ∧ VR Z.K Z.γ w y e ∧ cmpD h o' d e = some b ∧ Q (.bl b) H)
          (TZ Z W (ev T a)) (TZ Z W (ev T b)) (TZ Z W (ev T d)) σ H Q := fun P _ σ H Q ⟨w, σD, h, kx, k, g, e, p, px⟩ => by
      simp only [ev] at e
      refine ⟨w, σD, h, kx, _, g, e, fun w1 H1 d1 h1 v n1 wf1 hr1 r1 e1 => ?_, px⟩
      refine ⟨w1, σD, h1, kx, _, g.next n1 wf1 hr1, e1, fun w2 H2 d2 h2 v2 n2 wf2 hr2 r2 e2 => ?_, px.next n1⟩
      cases q : cmpD h2 o d1 d2 with
      | none => simp only [q] at e2; cases e2
      | some z =>
        refine ⟨w2, h2, d1, d2, z, n2.sub, wf2, hr2, r1.mono n2.le wf1, r2, q, z, rfl, ?_⟩
        cases z with
        | false =>
          simp only [q] at e2
          simp only [Bool.false_eq_true, if_false]
          exact p w2 H2 _ h2 (n1.trans n2) wf2 hr2 e2
        | true =>
          simp only [q] at e2
          simp only [if_true]
          refine ⟨w2, σD, h2, kx, _, (g.next n1 wf1 hr1).next n2 wf2 hr2, e2, fun w3 H3 d3 h3 v3 n3 wf3 hr3 r3 e3 => ?_, (px.next n1).next n2⟩
          cases q' : cmpD h3 o' d2 d3 with
          | none => simp only [q'] at e3; cases e3
          | some z' =>
            simp only [q'] at e3
            exact ⟨w3, h3, d2, d3, z', n3.sub, wf3, hr3, r2.mono n3.le wf2, r3, q', p w3 H3 _ h3 ((n1.trans n2).trans n3) wf3 hr3 e3⟩
    refine ⟨(pe_chain ho ho' (ia.e l h2).e (ib.e r h3).e (ic.e t h4).e h5).imp fun σ H Q ⟨w, σD, h, kx, k, g, e, p, px⟩ => ?_, (pt_chain ho ho' (ia.e l h2).e (ib.e r h3).e (ic.e t h4).e h5).imp fun σ H Q ⟨w, σD, h, kx, k, g, e, p, px⟩ => ?_⟩
    · exact main (fun _ _ _ => True) (fun _ _ q => q) σ H Q ⟨w, σD, h, kx, k, g, e, fun w' H' b h' n wf hr e' => p w' H' _ h' _ n wf hr (.bl b) e', px⟩
    · refine main (fun _ _ _ => True) (fun _ _ q => q) σ H _ ⟨w, σD, h, kx, k, g, e, fun w' H' b h' n wf hr e' => ?_, px⟩
      obtain ⟨b', q1, q2⟩ := p w' H' _ h' _ n wf hr (.bl b) e'
      cases q1
      exact ⟨b, rfl, q2⟩
  · cases hx
theorem s_ife {t a b : E} {sc : Scope} (it : SN Z X W (ev T t) (mm c t sc)) (ia : SN Z X W (ev T a) (mm c a sc)) (ib : SN Z X W (ev T b) (mm c b sc)) (C : Cv Z c T lev X) : SN Z X W (ev T (.ife t a b)) (mm c (.ife t a b) sc) := .one fun x hx => by
  split at hx
  · rename_i u l r pos
    simp only [Bool.and_eq_true] at hx
    obtain ⟨⟨h1, h2⟩, h3⟩ := hx
    refine ⟨(pe_ifExp (it.e u h1).t (ia.e l h2).e (ib.e r h3).e).imp fun σ H Q ⟨w, σD, h, kx, k, g, e, p, px⟩ => ?_, ⟨fun pins s σ H Q I ⟨w, σD, h, kx, k, g, e, p, px⟩ => ?_⟩⟩
    · simp only [ev] at e
      refine ⟨w, σD, h, kx, _, g, e, fun w1 H1 d h1 v n1 wf1 hr1 r1 e1 => ?_, px⟩
      cases q : truth h1 d with
      | none => simp only [q] at e1; cases e1
      | some b =>
        simp only [q] at e1
        refine ⟨b, rfl, ?_⟩
        cases b with
        | true => exact ⟨w1, σD, h1, kx, k, g.next n1 wf1 hr1, e1, p.next n1, px.next n1⟩
        | false => exact ⟨w1, σD, h1, kx, k, g.next n1 wf1 hr1, e1, p.next n1, px.next n1⟩
    · simp only [ev] at e
      refine isTrue_IfExp (thn ((it.e u h1).t.run pins s σ H (fun bb H1 => ∃ w1 h1, Nx w H w1 H1 ∧ Wf w1 ∧ HR Z w1 h1 ∧ (match bb with | true => ev T a σD h1 kx k | false => ev T b σD h1 kx k) = true) I ⟨w, σD, h, kx, _, g, e, fun w1 H1 d h1 v n1 wf1 hr1 r1 e1 => ?_, px⟩) fun b s1 ⟨H1, I1, w1, h1, n1, wf1, hr1, e1⟩ => ?_)
      · cases q : truth h1 d with
        | none => simp only [q] at e1; cases e1
        | some b =>
          simp only [q] at e1
          refine ⟨b, rfl, w1, h1, n1, wf1, hr1, ?_⟩
          cases b <;> exact e1
      · cases b with
        | true => exact (ia.e l h2).t.run pins s1 σ H1 Q I1 ⟨w1, σD, h1, kx, k, g.next n1 wf1 hr1, e1, fun w2 H2 d h2 v n2 wf2 hr2 r2 e2 => p w2 H2 d h2 v (n1.trans n2) wf2 hr2 r2 e2, px.next n1⟩
        | false => exact (ib.e r h3).t.run pins s1 σ H1 Q I1 ⟨w1, σD, h1, kx, k, g.next n1 wf1 hr1, e1, fun w2 H2 d h2 v n2 wf2 hr2 r2 e2 => p w2 H2 d h2 v (n1.trans n2) wf2 hr2 r2 e2, px.next n1⟩
  · cases hx
theorem s_tup {a : E} {sc : Scope} (ia : SN Z X W (ev T a) (mm c a sc)) (C : Cv Z c T lev X) : SN Z X W (ev T (.tup a)) (mm c (.tup a) sc) := .one fun x hx => by
  split at hx
  · simp only [Bool.and_eq_true] at hx
    have hl := Nat.le_of_ble_eq_true hx.2
    refine .of C.hK ((pe_tup (ia.l _ hx.1)).imp fun σ H Q ⟨w, σD, h, kx, k, g, e, p, px⟩ => ?_) (fun _ => rfl)
    simp only [ev] at e
    refine ⟨w, σD, h, kx, _, g, e, fun w1 H1 ds h1 vs n1 wf1 hr1 r1 l1 e1 => ?_, px⟩
    have z : ds.length ≤ sizeLine := by rw [sizeLine_eq]; omega
    have wfx := wf1
    -- the tuple is known only if all its parts are plain or objects
    exact ⟨r1.few z, back_tup n1.sub wf1 hr1 r1 z fun w2 H2 v n2 wf2 hr2 r2 => p w2 H2 _ h1 v (n1.trans n2) wf2 hr2 r2 e1⟩
  · cases hx
theorem s_lst {a : E} {sc : Scope} (ia : SN Z X W (ev T a) (mm c a sc)) (C : Cv Z c T lev X) : SN Z X W (ev T (.lst a)) (mm c (.lst a) sc) := .one fun x hx => by
  split at hx
  · simp only [Bool.and_eq_true] at hx
    have hl := Nat.le_of_ble_eq_true hx.2
    refine .of C.hK ((pe_lst (ia.l _ hx.1)).imp fun σ H Q ⟨w, σD, h, kx, k, g, e, p, px⟩ => ?_) (fun _ => rfl)
    simp only [ev] at e
    refine ⟨w, σD, h, kx, _, g, e, fun w1 H1 ds h1 vs n1 wf1 hr1 r1 l1 e1 => ?_, px⟩
    have z : ds.length ≤ sizeLine := by rw [sizeLine_eq]; omega
    exact ⟨r1.few z, back_lst n1.sub wf1 hr1 r1 z fun w2 H2 v n2 wf2 hr2 r2 => p w2 H2 _ h1 v (n1.trans n2) wf2 hr2 r2 e1⟩
  · cases hx
theorem s_and {a b : E} {sc : Scope} (C : Cv Z c T lev X) (ia : SN Z X W (ev T a) (mm c a sc)) (ib : SN Z X W (ev T b) (mm c b sc)) : SN Z X W (ev T (.and a b)) (mm c (.and a b) sc) := by
  have main : ∀ v u r pos, (mm c a sc).e v = true → (mm c b sc).a (u :: r) = true → PE X (.BoolOp .And (v :: u :: r) pos) (TZ Z W (ev T (.and a b))) ∧ PW X (.BoolOp .And (v :: u :: r) pos) (TTZ Z W (ev T (.and a b))) := fun v u r pos h1 h2 => by
    refine ⟨(pe_andT (ia.e v h1).e (ib.a (u :: r) pos h2).1).imp fun σ H Q ⟨w, σD, h, kx, k, g, e, p, px⟩ => ?_, (pw_and (ia.e v h1).t (ib.a (u :: r) pos h2).2).imp fun σ H Q ⟨w, σD, h, kx, k, g, e, p, px⟩ => ?_⟩
    · simp only [ev] at e
      refine ⟨w, σD, h, kx, _, g, e, fun w1 H1 d h1 v n1 wf1 hr1 r1 e1 => ?_, px⟩
      cases q : truth h1 d with
      | none => simp only [q] at e1; cases e1
      | some t =>
        simp only [q] at e1
        refine ⟨t, by rw [C.hK]; exact truth_ok n1.sub hr1 r1 q, ?_⟩
        cases t with
        | true => exact ⟨w1, σD, h1, kx, k, g.next n1 wf1 hr1, e1, p.next n1, px.next n1⟩
        | false => exact p w1 H1 d h1 _ n1 wf1 hr1 r1 e1
    · simp only [ev] at e
      refine ⟨w, σD, h, kx, _, g, e, fun w1 H1 d h1 v n1 wf1 hr1 r1 e1 => ?_, px⟩
      cases q : truth h1 d with
      | none => simp only [q] at e1; cases e1
      | some t =>
        simp only [q] at e1
        refine ⟨t, rfl, ?_⟩
        cases t with
        | true => exact ⟨w1, σD, h1, kx, k, g.next n1 wf1 hr1, e1, fun w2 H2 d h2 v n2 wf2 hr2 r2 e2 => p w2 H2 d h2 v (n1.trans n2) wf2 hr2 r2 e2, px.next n1⟩
        | false =>
          obtain ⟨b', q1, q2⟩ := p w1 H1 d h1 _ n1 wf1 hr1 r1 e1
          rw [q] at q1
          cases q1
          exact q2
  have f : ∀ x, (mm c (.and a b) sc).e x = true → SE Z X W (ev T (.and a b)) x := fun x hx => by
    simp only [mm] at hx
    split at hx
    · simp only [Bool.and_eq_true] at hx
      obtain ⟨m1, m2⟩ := main _ _ _ _ hx.1 hx.2
      exact ⟨m1, m2.pt⟩
    · cases hx
  refine ⟨f, fun xs pos e => ?_, fun xs pos e => ?_, fun xs e => by cases e⟩
  · match xs, e with
    | [y], e => exact ⟨pe_one (f y e).e, pw_and1 (f y e).t⟩
    | v :: u :: r, e =>
      have e : ((mm c a sc).e v && (mm c b sc).a (u :: r)) = true := e
      simp only [Bool.and_eq_true] at e
      exact main v u r pos e.1 e.2
  · match xs, e with
    | [y], e => exact ⟨pe_one (f y e).e, pw_or1 (f y e).t⟩
theorem s_or {a b : E} {sc : Scope} (C : Cv Z c T lev X) (ia : SN Z X W (ev T a) (mm c a sc)) (ib : SN Z X W (ev T b) (mm c b sc)) : SN Z X W (ev T (.or a b)) (mm c (.or a b) sc) := by
  have main : ∀ v u r pos, (mm c a sc).e v = true → (mm c b sc).o (u :: r) = true → PE X (.BoolOp .Or (v :: u :: r) pos) (TZ Z W (ev T (.or a b))) ∧ PW X (.BoolOp .Or (v :: u :: r) pos) (TTZ Z W (ev T (.or a b))) := fun v u r pos h1 h2 => by
    refine ⟨(pe_orT (ia.e v h1).e (ib.o (u :: r) pos h2).1).imp fun σ H Q ⟨w, σD, h, kx, k, g, e, p, px⟩ => ?_, (pw_or (ia.e v h1).t (ib.o (u :: r) pos h2).2).imp fun σ H Q ⟨w, σD, h, kx, k, g, e, p, px⟩ => ?_⟩
    · simp only [ev] at e
      refine ⟨w, σD, h, kx, _, g, e, fun w1 H1 d h1 v n1 wf1 hr1 r1 e1 => ?_, px⟩
      cases q : truth h1 d with
      | none => simp only [q] at e1; cases e1
      | some t =>
        simp only [q] at e1
        refine ⟨t, by rw [C.hK]; exact truth_ok n1.sub hr1 r1 q, ?_⟩
        cases t with
        | false => exact ⟨w1, σD, h1, kx, k, g.next n1 wf1 hr1, e1, p.next n1, px.next n1⟩
        | true => exact p w1 H1 d h1 _ n1 wf1 hr1 r1 e1
    · simp only [ev] at e
      refine ⟨w, σD, h, kx, _, g, e, fun w1 H1 d h1 v n1 wf1 hr1 r1 e1 => ?_, px⟩
      cases q : truth h1 d with
      | none => simp only [q] at e1; cases e1
      | some t =>
        simp only [q] at e1
        refine ⟨t, rfl, ?_⟩
        cases t with
        | false => exact ⟨w1, σD, h1, kx, k, g.next n1 wf1 hr1, e1, fun w2 H2 d h2 v n2 wf2 hr2 r2 e2 => p w2 H2 d h2 v (n1.trans n2) wf2 hr2 r2 e2, px.next n1⟩
        | true =>
          obtain ⟨b', q1, q2⟩ := p w1 H1 d h1 _ n1 wf1 hr1 r1 e1
          rw [q] at q1
          cases q1
          exact q2
  have f : ∀ x, (mm c (.or a b) sc).e x = true → SE Z X W (ev T (.or a b)) x := fun x hx => by
    simp only [mm] at hx
    split at hx
    · simp only [Bool.and_eq_true] at hx
      obtain ⟨m1, m2⟩ := main _ _ _ _ hx.1 hx.2
      exact ⟨m1, m2.pt⟩
    · cases hx
  refine ⟨f, fun xs pos e => ?_, fun xs pos e => ?_, fun xs e => by cases e⟩
  · match xs, e with
    | [y], e => exact ⟨pe_one (f y e).e, pw_and1 (f y e).t⟩
  · match xs, e with
    | [y], e => exact ⟨pe_one (f y e).e, pw_or1 (f y e).t⟩
    | v :: u :: r, e =>
      have e : ((mm c a sc).e v && (mm c b sc).o (u :: r)) = true := e
      simp only [Bool.and_eq_true] at e
      exact main v u r pos e.1 e.2
/-- the arguments of a call are none but plain ones -/
theorem plain_args {e : E} {sc : Scope} {env : Env} {pos : Pos} (h : ∀ xs, (mm c e sc).l xs = true → ∀ x ∈ xs, star0 x = true) {xs : List Expr} (hx : (mm c e sc).l xs = true) : (backTo pos (starEach xs env)).any (·.1) = false := by
  have q := h xs hx
  clear h hx
  induction xs with
  | nil => rfl
  | cons x r ih =>
    rw [star_of (q x List.mem_cons_self)]
    exact ih fun y hy => q y (List.mem_cons_of_mem _ hy)
theorem no_star : ∀ (e : E) (sc : Scope) (xs : List Expr), (mm c e sc).l xs = true → ∀ x ∈ xs, star0 x = true
  | .nil, sc, xs, h, x, hx => by
    cases xs with
    | nil => cases hx
    | cons => cases h
  | .cons a b, sc, xs, h, x, hx => by
    cases xs with
    | nil => cases hx
    | cons y r =>
      have h : (star0 y && (mm c a sc).e y && (mm c b sc).l r) = true := h
      simp only [Bool.and_eq_true] at h
      rcases List.mem_cons.mp hx with e | hx
      · rw [e]; exact h.1.1
      · exact no_star b sc r h.2 x hx
  | .var _, _, _, h, _, _ => by cases h
  | .int _, _, _, h, _, _ => by cases h
  | .bl _, _, _, h, _, _ => by cases h
  | .non, _, _, h, _, _ => by cases h
  | .str _, _, _, h, _, _ => by cases h
  | .glb _, _, _, h, _, _ => by cases h
  | .tup _, _, _, h, _, _ => by cases h
  | .lst _, _, _, h, _, _ => by cases h
  | .allo _, _, _, h, _, _ => by cases h
  | .bop _ _ _, _, _, h, _, _ => by cases h
  | .neg _, _, _, h, _, _ => by cases h
  | .not _, _, _, h, _, _ => by cases h
  | .cmp _ _ _, _, _, h, _, _ => by cases h
  | .chain _ _ _ _ _, _, _, h, _, _ => by cases h
  | .and _ _, _, _, h, _, _ => by cases h
  | .or _ _, _, _, h, _, _ => by cases h
  | .ife _ _ _, _, _, h, _, _ => by cases h
  | .call _ _, _, _, h, _, _ => by cases h
  | .cval _ _, _, _, h, _, _ => by cases h
  | .bcall _ _, _, _, h, _, _ => by cases h
  | .isi _ _, _, _, h, _, _ => by cases h
  | .meth _ _ _ _ _, _, _, h, _, _ => by cases h
  | .bm _ _ _, _, _, h, _, _ => by cases h
  | .make _ _, _, _, h, _, _ => by cases h
  | .attr _ _ _, _, _, h, _, _ => by cases h
  | .ix _ _, _, _, h, _, _ => by cases h
  | .slc _ _ _, _, _, h, _, _ => by cases h
  | .nop, _, _, h, _, _ => by cases h
  | .rev _, _, _, h, _, _ => by cases h
  | .enum _, _, _, h, _, _ => by cases h
  | .zip _ _, _, _, h, _, _ => by cases h
  | .rng1 _, _, _, h, _, _ => by cases h
  | .rng2 _ _, _, _, h, _, _ => by cases h
  | .rng3 _ _ _, _, _, h, _, _ => by cases h
  | .comp _ _ _ _ _, _, _, h, _, _ => by cases h
  | .comp2 _ _ _ _ _ _ _ _ _, _, _, h, _, _ => by cases h
theorem s_call {f : Nat} {a : E} {sc : Scope} (tk : Takes X W) (C : Cv Z c T lev X) (hs : X.env.scope = sc) (ia : SN Z X W (ev T a) (mm c a sc)) : SN Z X W (ev T (.call f a)) (mm c (.call f a) sc) := .one fun x hx => by
  split at hx
  · rename_i id p1 v r pos
    simp only [Bool.and_eq_true, decide_eq_true_eq] at hx
    obtain ⟨⟨⟨h1, h2⟩, h3⟩, hF⟩ := hx
    obtain ⟨hg, hd⟩ := glo_ok hs h2
    obtain ⟨⟨fa, fd, ps, e1, e2, e3, e4⟩, fa', e5, e6⟩ := C.fn f id h1 hF
    rw [e1] at e5; cases e5
    have st := no_star a sc _ h3
    have hpl : (backTo pos (starEach r X.env)).any (·.1) = false := by
      have q := plain_args (pos := pos) (env := X.env) (no_star a sc) h3
      rw [star_of (st v List.mem_cons_self)] at q
      exact q
    refine .of C.hK ((pe_callS (E := WE W) e4 C.room hg e6 e2 e3 (passAt tk) (ia.l _ h3) hd (star_of (st v List.mem_cons_self)) hpl).imp fun σ H Q ⟨w, σD, h, kx, k, g, e, p, px⟩ => ?_) (fun _ => rfl)
    simp only [ev] at e
    refine ⟨w, σD, h, kx, _, g, e, fun w1 H1 ds h1 vs n1 wf1 hr1 r1 l1 e1 => ?_, px⟩
    exact ⟨w1, ds, h1, kx, k, n1.sub, wf1, hr1, r1, e1, p.next n1, px.next n1⟩
  · cases hx
end
end Z

namespace Z
open PySem PySem.Spec PyProof.Rows L2
section
variable {Z : Cz} {X : Cx} {W : WX} {T : Tx} {lev : Nat} {c : Ck} {w : Wd} {H : HP} {h : Hd}
/-! ### built-in functions -/
def BiZ (Z : Cz) (X : Cx) (f : Value) (g : Hd → List D → Option D) : Prop :=
  CallR X f fun xs H Q => ∃ w h ds z, Sub w.H H ∧ Wf w ∧ HR Z w h ∧ VRs Z.K Z.γ w xs ds ∧ g h ds = some z ∧ ∀ w' H' v, Nx w H w' H' → Wf w' → HR Z w' h → VR Z.K Z.γ w' v z → Q v H'
theorem vrs1 {K : PySem.W.Frag} {γ : Nat → Option Addr} {xs : List V} {d : D} (r : VRs K γ w xs [d]) : ∃ x, xs = [x] ∧ VR K γ w x d := by
  cases r with
  | cons a b => cases b; exact ⟨_, rfl, a⟩
theorem vrs2 {K : PySem.W.Frag} {γ : Nat → Option Addr} {xs : List V} {d e : D} (r : VRs K γ w xs [d, e]) : ∃ x y, xs = [x, y] ∧ VR K γ w x d ∧ VR K γ w y e := by
  cases r with
  | cons a b =>
    obtain ⟨y, rfl, q⟩ := vrs1 b
    exact ⟨_, _, rfl, a, q⟩
theorem SqX {xs : List V} {a : Addr} (hK : X.K = Z.K) (s : Sub w.H H) (h : w.H a = some (.lst xs) ∨ SqT Z.K w.H a xs) : SqL X.K H a xs ∨ SqT X.K H a xs := by
  rcases h with h | h
  · exact .inl (SqL.of (s _ _ h))
  · exact .inr (by rw [hK]; exact s.sqT h)
theorem bi_len (hK : X.K = Z.K) : BiZ Z X (.builtin "len") (fun h => biD h .len) := by
  intro pins s σ H xs us Q I r ⟨w, h, ds, z, sb, wf, hr, rs, e, q⟩
  simp only [biD] at e
  split at e
  · obtain ⟨x, rfl, rx⟩ := vrs1 rs
    cases rx with
    | @str y l e1 e2 _ =>
      cases e
      exact call_len pins s σ H _ us Q I r ⟨_, y.length, rfl, ⟨by rw [str_len e1]; exact e2, rfl⟩, by rw [str_len e1]; exact q _ _ _ (.refl sb) wf hr (.int _)⟩
  · obtain ⟨x, rfl, rx⟩ := vrs1 rs
    obtain ⟨ys, e1, e2⟩ := Option.map_eq_some_iff.mp e
    obtain ⟨a, vs, rfl, e3, e4, _⟩ := items_ok hr rx e1
    cases e2
    refine call_len_seq pins s σ H _ us Q I r ⟨a, vs, rfl, SqX hK sb e3, ?_⟩
    rw [e4.length]
    exact q _ _ _ (.refl sb) wf hr (.int _)
  · cases e
theorem bi_abs : BiZ Z X (.builtin "abs") (fun h => biD h .abs) := by
  intro pins s σ H xs us Q I r ⟨w, h, ds, z, sb, wf, hr, rs, e, q⟩
  simp only [biD] at e
  split at e
  · obtain ⟨x, rfl, rx⟩ := vrs1 rs
    cases rx; cases e
    exact call_abs pins s σ H _ us Q I r ⟨_, rfl, q _ _ _ (.refl sb) wf hr (.int _)⟩
  · cases e
theorem bi_gcd : BiZ Z X (.builtin "math.gcd") (fun h => biD h .gcd) := by
  intro pins s σ H xs us Q I r ⟨w, h, ds, z, sb, wf, hr, rs, e, q⟩
  simp only [biD] at e
  split at e
  · obtain ⟨x, y, rfl, rx, ry⟩ := vrs2 rs
    cases rx; cases ry; cases e
    exact cr_gcd pins s σ H _ us Q I r ⟨_, _, rfl, q _ _ _ (.refl sb) wf hr (.int _)⟩
  · cases e
theorem bi_int : BiZ Z X (.type "int") (fun h => biD h .int) := by
  intro pins s σ H xs us Q I r ⟨w, h, ds, z, sb, wf, hr, rs, e, q⟩
  simp only [biD] at e
  split at e
  · obtain ⟨x, rfl, rx⟩ := vrs1 rs
    cases rx; cases e
    exact call_int1 pins s σ H _ us Q I r (.inl ⟨_, rfl, q _ _ _ (.refl sb) wf hr (.int _)⟩)
  · obtain ⟨x, rfl, rx⟩ := vrs1 rs
    cases rx; cases e
    exact call_int1 pins s σ H _ us Q I r (.inr ⟨_, rfl, q _ _ _ (.refl sb) wf hr (.int _)⟩)
  · cases e
theorem bi_tuple (hK : X.K = Z.K) : BiZ Z X (.type "tuple") (fun h => biD h .tuple) := by
  intro pins s σ H xs us Q I r ⟨w, h, ds, z, sb, wf, hr, rs, e, q⟩
  simp only [biD] at e
  split at e
  · obtain ⟨x, rfl, rx⟩ := vrs1 rs
    obtain ⟨ys, e1, e2⟩ := Option.map_eq_some_iff.mp e
    obtain ⟨a, vs, rfl, e3, e4, e5⟩ := items_ok hr rx e1
    cases e2
    refine call_tuple_of pins s σ H _ us Q I r ⟨a, vs, rfl, ?_⟩
    rcases e3 with e3 | e3
    · exact .inl ⟨SqL.of (sb _ _ e3), back_tup sb wf hr e4 e5 q⟩
    · exact .inr ⟨by rw [hK]; exact sb.sqT e3, q _ _ _ (.refl sb) wf hr (.tup e3 e5 e4)⟩
  · cases e
theorem bi_list (hK : X.K = Z.K) : BiZ Z X (.type "list") (fun h => biD h .list) := by
  intro pins s σ H xs us Q I r ⟨w, h, ds, z, sb, wf, hr, rs, e, q⟩
  simp only [biD] at e
  split at e
  · obtain ⟨x, rfl, rx⟩ := vrs1 rs
    obtain ⟨ys, e1, e2⟩ := Option.map_eq_some_iff.mp e
    obtain ⟨a, vs, rfl, e3, e4, e5⟩ := items_ok hr rx e1
    cases e2
    exact call_list_of pins s σ H _ us Q I r ⟨a, vs, rfl, SqX hK sb e3, back_lst sb wf hr e4 e5 q⟩
  · cases e
theorem ints_ok {K : PySem.W.Frag} {γ : Nat → Option Addr} : ∀ {ds : List D} {ns : List Int} {vs : List V}, VRs K γ w vs ds → intsOf ds = some ns → vs = ns.map V.int
  | [], _, _, .nil, e => by cases e; rfl
  | .int i :: ds, ns, _, .cons r t, e => by
    simp only [intsOf] at e
    cases q : intsOf ds with
    | none => simp only [q] at e; cases e
    | some l =>
      simp only [q] at e
      cases e
      cases r
      rw [ints_ok t q]; rfl
  | .non :: _, _, _, _, e => by cases e
  | .bl _ :: _, _, _, _, e => by cases e
  | .str _ :: _, _, _, _, e => by cases e
  | .tup _ :: _, _, _, _, e => by cases e
  | .lst _ :: _, _, _, _, e => by cases e
  | .ref _ :: _, _, _, _, e => by cases e
  | .gl _ :: _, _, _, _, e => by cases e
theorem bi_sum (hc : X.calm = true) : BiZ Z X (.builtin "sum") (fun h => biD h .sum) := by
  intro pins s σ H xs us Q I r ⟨w, h, ds, z, sb, wf, hr, rs, e, q⟩
  simp only [biD] at e
  split at e
  · obtain ⟨x, rfl, rx⟩ := vrs1 rs
    obtain ⟨ns, e1, e2⟩ := Option.map_eq_some_iff.mp e
    obtain ⟨ys, e0, e1⟩ := Option.bind_eq_some_iff.mp e1
    obtain ⟨a, vs, rfl, e3, e4, e5⟩ := itemsL_ok hr rx e0
    cases e2
    have e6 := ints_ok e4 e1
    subst e6
    exact cr_sum hc pins s σ H _ us Q I r ⟨a, ns, rfl, SqL.of (sb _ _ e3), q _ _ _ (.refl sb) wf hr (.int _)⟩
  · cases e
theorem maxL_ok : ∀ (l : List Int) (m : Int), maxL m l ∈ m :: l ∧ ∀ y ∈ m :: l, y ≤ maxL m l
  | [], m => ⟨by simp [maxL], by simp [maxL]⟩
  | i :: r, m => by
    obtain ⟨a, b⟩ := maxL_ok r (if m < i then i else m)
    show maxL (if m < i then i else m) r ∈ _ ∧ ∀ y ∈ _, y ≤ maxL (if m < i then i else m) r
    by_cases q : m < i
    · rw [if_pos q] at a b ⊢
      refine ⟨List.mem_cons_of_mem _ a, fun y hy => ?_⟩
      rcases List.mem_cons.mp hy with e | hy
      · have := b i List.mem_cons_self
        omega
      · exact b y hy
    · rw [if_neg q] at a b ⊢
      refine ⟨?_, fun y hy => ?_⟩
      · rcases List.mem_cons.mp a with e | a
        · rw [e]; exact List.mem_cons_self
        · exact List.mem_cons_of_mem _ (List.mem_cons_of_mem _ a)
      · rcases List.mem_cons.mp hy with e | hy
        · rw [e]; exact b m List.mem_cons_self
        · rcases List.mem_cons.mp hy with e | hy
          · have := b m List.mem_cons_self
            omega
          · exact b y (List.mem_cons_of_mem _ hy)
theorem minL_ok : ∀ (l : List Int) (m : Int), minL m l ∈ m :: l ∧ ∀ y ∈ m :: l, minL m l ≤ y
  | [], m => ⟨by simp [minL], by simp [minL]⟩
  | i :: r, m => by
    obtain ⟨a, b⟩ := minL_ok r (if i < m then i else m)
    show minL (if i < m then i else m) r ∈ _ ∧ ∀ y ∈ _, minL (if i < m then i else m) r ≤ y
    by_cases q : i < m
    · rw [if_pos q] at a b ⊢
      refine ⟨List.mem_cons_of_mem _ a, fun y hy => ?_⟩
      rcases List.mem_cons.mp hy with e | hy
      · have := b i List.mem_cons_self
        omega
      · exact b y hy
    · rw [if_neg q] at a b ⊢
      refine ⟨?_, fun y hy => ?_⟩
      · rcases List.mem_cons.mp a with e | a
        · rw [e]; exact List.mem_cons_self
        · exact List.mem_cons_of_mem _ (List.mem_cons_of_mem _ a)
      · rcases List.mem_cons.mp hy with e | hy
        · rw [e]; exact b m List.mem_cons_self
        · rcases List.mem_cons.mp hy with e | hy
          · have := b m List.mem_cons_self
            omega
          · exact b y (List.mem_cons_of_mem _ hy)
theorem bi_max (hc : X.calm = true) : BiZ Z X (.builtin "max") (fun h => biD h .max) := by
  intro pins s σ H xs us Q I r ⟨w, h, ds, z, sb, wf, hr, rs, e, q⟩
  simp only [biD] at e
  split at e
  · obtain ⟨x, y, rfl, rx, ry⟩ := vrs2 rs
    cases rx; cases ry; cases e
    exact call_max2 hc pins s σ H _ us Q I r ⟨_, _, rfl, q _ _ _ (.refl sb) wf hr (.int _)⟩
  · obtain ⟨x, rfl, rx⟩ := vrs1 rs
    obtain ⟨ns, e1, e2⟩ := Option.bind_eq_some_iff.mp e
    obtain ⟨ys, e0, e1⟩ := Option.bind_eq_some_iff.mp e1
    obtain ⟨a, vs, rfl, e3, e4, e5⟩ := itemsL_ok hr rx e0
    split at e2
    · rename_i i l _
      cases e2
      have e6 := ints_ok e4 e1
      subst e6
      obtain ⟨m1, m2⟩ := maxL_ok l i
      refine cr_max hc pins s σ H _ us Q I r ⟨a, i :: l, rfl, SqL.of (sb _ _ e3), by simp, fun m hm hy => ?_⟩
      have e7 : m = maxL i l := by
        have := m2 m hm
        have := hy _ m1
        omega
      rw [e7]
      exact q _ _ _ (.refl sb) wf hr (.int _)
    · cases e2
  · cases e
theorem bi_min (hc : X.calm = true) : BiZ Z X (.builtin "min") (fun h => biD h .min) := by
  intro pins s σ H xs us Q I r ⟨w, h, ds, z, sb, wf, hr, rs, e, q⟩
  simp only [biD] at e
  split at e
  · obtain ⟨x, y, rfl, rx, ry⟩ := vrs2 rs
    cases rx; cases ry; cases e
    exact call_min2 hc pins s σ H _ us Q I r ⟨_, _, rfl, q _ _ _ (.refl sb) wf hr (.int _)⟩
  · obtain ⟨x, rfl, rx⟩ := vrs1 rs
    obtain ⟨ns, e1, e2⟩ := Option.bind_eq_some_iff.mp e
    obtain ⟨ys, e0, e1⟩ := Option.bind_eq_some_iff.mp e1
    obtain ⟨a, vs, rfl, e3, e4, e5⟩ := itemsL_ok hr rx e0
    split at e2
    · rename_i i l _
      cases e2
      have e6 := ints_ok e4 e1
      subst e6
      obtain ⟨m1, m2⟩ := minL_ok l i
      refine cr_min hc pins s σ H _ us Q I r ⟨a, i :: l, rfl, SqL.of (sb _ _ e3), by simp, fun m hm hy => ?_⟩
      have e7 : m = minL i l := by
        have := m2 m hm
        have := hy _ m1
        omega
      rw [e7]
      exact q _ _ _ (.refl sb) wf hr (.int _)
    · cases e2
  · cases e
/-! all, any -/
theorem truthP_ok {n : Nat} {d : D} (h : shp n d = true) : (toP d).truthy = truthP d := by
  cases n with
  | zero => cases h
  | succ n =>
    cases d with
    | ref _ => cases h
    | gl _ => cases h
    | int i => simp only [toP, PyData.truthy, truthP, bne, Bool.beq_eq_decide_eq]
    | str l => simp only [toP, PyData.truthy, truthP, Str.length]; cases l <;> simp <;> omega
    | tup l => simp only [toP, PyData.truthy, truthP]; cases l <;> simp [toPs]
    | lst l => simp only [toP, PyData.truthy, truthP]; cases l <;> simp [toPs]
    | _ => rfl
theorem shpL_each : ∀ {n : Nat} {ds : List D}, shpL n ds = true → ∀ d ∈ ds, ∃ m, shp m d = true
  | 0, _, e, _, _ => by cases e
  | n + 1, [], _, _, hd => by cases hd
  | n + 1, d :: ds, e, x, hd => by
    unfold shpL at e
    cases q : shp n d with
    | false => rw [q] at e; cases e
    | true =>
      rw [q] at e
      rcases List.mem_cons.mp hd with rfl | hd
      · exact ⟨n, q⟩
      · exact shpL_each e x hd
theorem any_ok : ∀ {ds : List D}, (∀ d ∈ ds, ∃ m, shp m d = true) → (toPs ds).any PyData.truthy = anyT ds
  | [], _ => rfl
  | d :: ds, h => by
    obtain ⟨m, q⟩ := h d List.mem_cons_self
    have ih := any_ok fun x hx => h x (List.mem_cons_of_mem _ hx)
    simp only [toPs, List.any_cons, ih, truthP_ok q, anyT]
    cases truthP d <;> rfl
theorem all_ok : ∀ {ds : List D}, (∀ d ∈ ds, ∃ m, shp m d = true) → (toPs ds).all PyData.truthy = allT ds
  | [], _ => rfl
  | d :: ds, h => by
    obtain ⟨m, q⟩ := h d List.mem_cons_self
    have ih := all_ok fun x hx => h x (List.mem_cons_of_mem _ hx)
    simp only [toPs, List.all_cons, ih, truthP_ok q, allT]
    cases truthP d <;> rfl
theorem toPs_len : ∀ ds : List D, (toPs ds).length = ds.length
  | [] => rfl
  | d :: ds => by simp [toPs, toPs_len ds]
mutual
theorem plain_ok {K : PySem.W.Frag} {γ : Nat → Option Addr} : ∀ (n : Nat) (d : D) (v : V), shp n d = true → VR K γ w v d → (toP d).plain = true ∧ (toP d).fits63
  | 0, _, _, e, _ => by cases e
  | n + 1, .non, _, _, _ => ⟨by simp [toP, PyData.plain], by simp [toP, PyData.fits63]⟩
  | n + 1, .bl _, _, _, _ => ⟨by simp [toP, PyData.plain], by simp [toP, PyData.fits63]⟩
  | n + 1, .int _, _, _, _ => ⟨by simp [toP, PyData.plain], by simp [toP, PyData.fits63]⟩
  | n + 1, .str l, _, _, .str e z _ => ⟨by simp [toP, PyData.plain], by
      simp only [toP, PyData.fits63, Str.length]
      rw [sizeLine_eq] at z
      simp
      omega⟩
  | n + 1, .tup ds, _, e, .tup _ z r => ⟨by simp only [toP, PyData.plain]; exact plains_ok n ds _ e r, by
      simp only [toP, PyData.fits63, toPs_len]
      rw [sizeLine_eq] at z
      omega⟩
  | n + 1, .lst ds, _, e, .lst _ _ z r => ⟨by simp only [toP, PyData.plain]; exact plains_ok n ds _ e r, by
      simp only [toP, PyData.fits63, toPs_len]
      rw [sizeLine_eq] at z
      omega⟩
  | n + 1, .ref _, _, e, _ => by cases e
  | n + 1, .gl _, _, e, _ => by cases e
theorem plains_ok {K : PySem.W.Frag} {γ : Nat → Option Addr} : ∀ (n : Nat) (ds : List D) (vs : List V), shpL n ds = true → VRs K γ w vs ds → PyData.plainAll (toPs ds) = true
  | 0, _, _, e, _ => by cases e
  | n + 1, [], _, _, _ => by simp [toPs, PyData.plainAll]
  | n + 1, d :: ds, _, e, .cons r t => by
    unfold shpL at e
    cases q : shp n d with
    | false => rw [q] at e; cases e
    | true =>
      rw [q] at e
      simp only [toPs, PyData.plainAll, (plain_ok n d _ q r).1, plains_ok n ds _ e t, Bool.and_self]
end
theorem fits_ok {K : PySem.W.Frag} {γ : Nat → Option Addr} : ∀ (n : Nat) (ds : List D) (vs : List V), shpL n ds = true → VRs K γ w vs ds → ∀ x ∈ toPs ds, x.fits63
  | 0, _, _, e, _, _, _ => by cases e
  | n + 1, [], _, _, _, x, hx => by simp [toPs] at hx
  | n + 1, d :: ds, _, e, .cons r t, x, hx => by
    unfold shpL at e
    cases q : shp n d with
    | false => rw [q] at e; cases e
    | true =>
      rw [q] at e
      simp only [toPs] at hx
      rcases List.mem_cons.mp hx with rfl | hx
      · exact (plain_ok n d _ q r).2
      · exact fits_ok n ds _ e t x hx
theorem any_all (hK : X.K = Z.K) (hc : X.calm = true) {pins : List (Addr × Obj)} {s : Shared} {σ : L2.St} {H : HP} {us : List Value} {Q : VK} (I : Inv X pins σ H s) {xs : List V} {d : D} {ys : List D} (r : Vals xs us) (sb : Sub w.H H) (hr : HR Z w h) (rs : VRs Z.K Z.γ w xs [d])
    (e : items h d = some ys) (hs : shpL 60 ys = true) : (Q (.bl (anyT ys)) H → wpAny (model X.prog X.w) X.A (PySem.call (.builtin "any") us) (EP X pins σ Q) X.xe s) ∧ (Q (.bl (allT ys)) H → wpAny (model X.prog X.w) X.A (PySem.call (.builtin "all") us) (EP X pins σ Q) X.xe s) := by
  obtain ⟨x, rfl, rx⟩ := vrs1 rs
  obtain ⟨a, vs, rfl, e3, e4, e5⟩ := items_ok hr rx e
  obtain ⟨u, rfl, ru⟩ := vals1 r
  cases ru
  have dp := dps_of sb 60 ys vs hs e4
  rw [← hK] at dp
  have pl := plains_ok 60 ys vs hs e4
  have ft := fits_ok 60 ys vs hs e4
  have each := shpL_each hs
  rcases SqX hK sb e3 with e3 | e3
  · obtain ⟨its, rv, hl, _⟩ := I.list e3
    obtain ⟨as, rd⟩ := Dp.readsAll I _ _ _ dp rv
    refine ⟨fun q => ?_, fun q => ?_⟩
    · exact PySem.W.any_list_data (I.ok.hd hc) hl.isList (by simpa using rd) pl ft fun h' tk k => ⟨.bl _, H, I.kept (t' := tk) k, rfl, by rw [any_ok each]; exact q⟩
    · exact PySem.W.all_list_data (I.ok.hd hc) hl.isList (by simpa using rd) pl ft fun h' tk k => ⟨.bl _, H, I.kept (t' := tk) k, rfl, by rw [all_ok each]; exact q⟩
  · obtain ⟨its, rv, hl, _⟩ := I.tuple e3
    obtain ⟨as, rd⟩ := Dp.readsAll I _ _ _ dp rv
    refine ⟨fun q => ?_, fun q => ?_⟩
    · exact PySem.W.any_tuple_data (I.ok.hd hc) (show s.heap.IsTuple a its.toArray from hl) (by simpa using rd) pl ft fun h' tk k => ⟨.bl _, H, I.kept (t' := tk) k, rfl, by rw [any_ok each]; exact q⟩
    · exact PySem.W.all_tuple_data (I.ok.hd hc) (show s.heap.IsTuple a its.toArray from hl) (by simpa using rd) pl ft fun h' tk k => ⟨.bl _, H, I.kept (t' := tk) k, rfl, by rw [all_ok each]; exact q⟩
theorem bi_any (hK : X.K = Z.K) (hc : X.calm = true) : BiZ Z X (.builtin "any") (fun h => biD h .any) := by
  intro pins s σ H xs us Q I r ⟨w, h, ds, z, sb, wf, hr, rs, e, q⟩
  simp only [biD] at e
  split at e
  · split at e
    · rename_i ys e1
      split at e
      · rename_i hs
        cases e
        exact (any_all hK hc I r sb hr rs e1 hs).1 (q _ _ _ (.refl sb) wf hr (.bl _))
      · cases e
    · cases e
  · cases e
theorem bi_all (hK : X.K = Z.K) (hc : X.calm = true) : BiZ Z X (.builtin "all") (fun h => biD h .all) := by
  intro pins s σ H xs us Q I r ⟨w, h, ds, z, sb, wf, hr, rs, e, q⟩
  simp only [biD] at e
  split at e
  · split at e
    · rename_i ys e1
      split at e
      · rename_i hs
        cases e
        exact (any_all hK hc I r sb hr rs e1 hs).2 (q _ _ _ (.refl sb) wf hr (.bl _))
      · cases e
    · cases e
  · cases e
end
end Z

namespace Z
open PySem PySem.Spec PyProof.Rows L2
section
variable {Z : Cz} {X : Cx} {W : WX} {T : Tx} {lev : Nat} {c : Ck} {w : Wd} {H : HP} {h : Hd}
theorem bt_list : bootBuiltins "list" = some (.type "list") := by decide +kernel
theorem bt_abs : bootBuiltins "abs" = some (.builtin "abs") := by decide +kernel
theorem bt_all : bootBuiltins "all" = some (.builtin "all") := by decide +kernel
theorem bt_any : bootBuiltins "any" = some (.builtin "any") := by decide +kernel
theorem bt_sum : bootBuiltins "sum" = some (.builtin "sum") := by decide +kernel
theorem bt_min : bootBuiltins "min" = some (.builtin "min") := by decide +kernel
theorem bt_max : bootBuiltins "max" = some (.builtin "max") := by decide +kernel
theorem bt_int : bootBuiltins "int" = some (.type "int") := by decide +kernel
theorem bt_tuple : bootBuiltins "tuple" = some (.type "tuple") := by decide +kernel
theorem bt_len : bootBuiltins "len" = some (.builtin "len") := by decide +kernel
theorem bt_iso : bootBuiltins "isinstance" = some (.builtin "isinstance") := by decide +kernel
theorem bi_end {a : E} {xs : List Expr} {b : Bi} {f : Value} (ia : PA X xs (TAZ Z W (ev T a) xs.length)) (hb : BiZ Z X f (fun h => biD h b))
    {x : Expr} (hr : ∀ r, CallR X f r → PE X x (tCB r (TAZ Z W (ev T a) xs.length))) : PE X x (TZ Z W (ev T (.bcall b a))) :=
  (hr _ hb).imp fun σ H Q ⟨w, σD, h, kx, k, g, e, p, px⟩ => by
    simp only [ev] at e
    refine ⟨w, σD, h, kx, _, g, e, fun w1 H1 ds h1 vs n1 wf1 hr1 r1 l1 e1 => ?_, px⟩
    cases q : biD h1 b ds with
    | none => simp only [q] at e1; cases e1
    | some z =>
      simp only [q] at e1
      exact ⟨w1, h1, ds, z, n1.sub, wf1, hr1, r1, q, fun w2 H2 v n2 wf2 hr2 r2 => p w2 H2 z h1 v (n1.trans n2) wf2 hr2 r2 e1⟩
theorem s_bcall {b : Bi} {a : E} {sc : Scope} (C : Cv Z c T lev X) (hs : X.env.scope = sc) (ia : SN Z X W (ev T a) (mm c a sc)) : SN Z X W (ev T (.bcall b a)) (mm c (.bcall b a) sc) := .one fun x hx => by
  split at hx
  · rename_i id p1 v r pos
    simp only [Bool.and_eq_true, decide_eq_true_eq] at hx
    obtain ⟨⟨h1, h2⟩, h3⟩ := hx
    obtain ⟨hg, hd⟩ := glo_ok hs h2
    have st := no_star a sc _ h3
    have he : starEach (v :: r) X.env = (false, eval v X.env) :: starEach r X.env := star_of (st v List.mem_cons_self)
    have hpl : (backTo pos (starEach r X.env)).any (·.1) = false := by
      have q := plain_args (pos := pos) (env := X.env) (no_star a sc) h3
      rw [he] at q
      exact q
    subst h1
    have hA := ia.l _ h3
    refine .of C.hK ?_ (fun _ => rfl)
    have bb : ∀ {f : String}, b ≠ Bi.gcd → bootBuiltins (biName b) = some (.builtin f) → biName b ≠ "__name__" → BiZ Z X (.builtin f) (fun h => biD h b) → PE X (.Call (.Name (biName b) p1) (v :: r) [] pos) (TZ Z W (ev T (.bcall b a))) := fun hb h1 h2 h3 =>
      bi_end hA h3 fun r hr => pe_callB hr hg (C.blt b hb) h1 hA h2 hd he hpl
    have tt : ∀ {f : String}, b ≠ Bi.gcd → bootBuiltins (biName b) = some (.type f) → biName b ≠ "__name__" → BiZ Z X (.type f) (fun h => biD h b) → PE X (.Call (.Name (biName b) p1) (v :: r) [] pos) (TZ Z W (ev T (.bcall b a))) := fun hb h1 h2 h3 =>
      bi_end hA h3 fun r hr => pe_callTy hr hg (C.blt b hb) h1 hA h2 hd he hpl
    cases b with
    | len => exact bb (fun z => nomatch z) bt_len (by decide) (bi_len C.hK)
    | abs => exact bb (fun z => nomatch z) bt_abs (by decide) bi_abs
    | int => exact tt (fun z => nomatch z) bt_int (by decide) bi_int
    | tuple => exact tt (fun z => nomatch z) bt_tuple (by decide) (bi_tuple C.hK)
    | list => exact tt (fun z => nomatch z) bt_list (by decide) (bi_list C.hK)
    | all => exact bb (fun z => nomatch z) bt_all (by decide) (bi_all C.hK C.calm)
    | any => exact bb (fun z => nomatch z) bt_any (by decide) (bi_any C.hK C.calm)
    | sum => exact bb (fun z => nomatch z) bt_sum (by decide) (bi_sum C.calm)
    | min => exact bb (fun z => nomatch z) bt_min (by decide) (bi_min C.calm)
    | max => exact bb (fun z => nomatch z) bt_max (by decide) (bi_max C.calm)
    | gcd => exact bi_end hA bi_gcd fun r hr => pe_callBfun hr hg C.gcd hA hd he hpl
    | sorted =>
      refine bi_end (f := .builtin "sorted") hA ?_ fun r hr => pe_callB hr hg (C.blt .sorted (fun z => nomatch z)) (by decide +kernel) hA (by decide) hd he hpl
      intro pins s σ H xs us Q I r ⟨w, h, ds, z, sb, wf, hr, rs, e, q⟩
      cases e
  · cases hx
/-! ### places -/
theorem ix_eq (n : Nat) (i : Int) : ixOf n i = ixN n i := rfl
theorem atD_ok {K : PySem.W.Frag} {γ : Nat → Option Addr} {vs : List V} {ds : List D} {i : Int} {z : D} (r : VRs K γ w vs ds) (e : atD ds i = some z) : ∃ v, atI vs i = some v ∧ VR K γ w v z := by
  unfold atD at e
  obtain ⟨j, e1, e2⟩ := Option.bind_eq_some_iff.mp e
  obtain ⟨v, e3, rv⟩ := r.get e2
  refine ⟨v, ?_, rv⟩
  unfold atI
  rw [r.length, ← ix_eq, e1]
  exact e3
theorem plainIx {b : Expr} (h : (match b with | .Slice _ _ _ _ => false | _ => true) = true) : PlainIx b := fun o i => by
  cases b <;> first | rfl | cases h
theorem s_ix {a b : E} {sc : Scope} (C : Cv Z c T lev X) (ia : SN Z X W (ev T a) (mm c a sc)) (ib : SN Z X W (ev T b) (mm c b sc)) : SN Z X W (ev T (.ix a b)) (mm c (.ix a b) sc) := .one fun x hx => by
  split at hx
  · rename_i l r pos
    simp only [Bool.and_eq_true] at hx
    obtain ⟨⟨h1, h2⟩, h3⟩ := hx
    refine .of C.hK ((pe_ix ix_seq (ia.e l h2).e (ib.e r h3).e (plainIx h1)).imp fun σ H Q ⟨w, σD, h, kx, k, g, e, p, px⟩ => ?_) (fun _ => rfl)
    simp only [ev] at e
    refine ⟨w, σD, h, kx, _, g, e, fun w1 H1 d h1 v n1 wf1 hr1 r1 e1 => ?_, px⟩
    refine ⟨w1, σD, h1, kx, _, g.next n1 wf1 hr1, e1, fun w2 H2 d2 h2 v2 n2 wf2 hr2 r2 e2 => ?_, px.next n1⟩
    dsimp only at e2
    split at e2
    · rename_i i
      cases r2
      cases q : items h2 d with
      | none => simp only [q] at e2; cases e2
      | some ds =>
        simp only [q] at e2
        cases q2 : atD ds i with
        | none => simp only [q2] at e2; cases e2
        | some z =>
          simp only [q2] at e2
          have r1' := r1.mono n2.le wf1
          obtain ⟨a, vs, rfl, e3, e4, e5⟩ := items_ok hr2 r1' q
          obtain ⟨v, e6, rv⟩ := atD_ok e4 q2
          have qq := p w2 H2 z h2 v (n1.trans n2) wf2 hr2 rv e2
          rcases SqX C.hK n2.sub e3 with e3 | e3
          · exact .inl ⟨a, vs, i, v, rfl, rfl, e3, e6, qq⟩
          · exact .inr (.inl ⟨a, vs, i, v, rfl, rfl, e3, e6, qq⟩)
    · cases e2
  · cases hx
theorem bd_eq (n d : Nat) (o : Option Int) : bd n d o = HT.sIx n d o := by cases o <;> rfl
theorem cut_ok {K : PySem.W.Frag} {γ : Nat → Option Addr} {vs : List V} {ds : List D} (r : VRs K γ w vs ds) (lo hi : Option Int) : VRs K γ w (cutV vs lo hi) (cutD ds lo hi) := by
  unfold cutV cutD
  rw [r.length, bd_eq, bd_eq]
  exact (r.drop _).take _
theorem cutD_len (ds : List D) (lo hi : Option Int) : (cutD ds lo hi).length ≤ ds.length := by
  unfold cutD
  rw [List.length_take, List.length_drop]
  omega
theorem cutV_whole {vs : List V} {lo hi : Option Int} (h : HT.sIx vs.length 0 lo = 0 ∧ HT.sIx vs.length vs.length hi = vs.length) : cutV vs lo hi = vs := by
  unfold cutV
  rw [h.1, h.2]
  simp
theorem cutD_whole {ds : List D} {lo hi : Option Int} (h : HT.sIx ds.length 0 lo = 0 ∧ HT.sIx ds.length ds.length hi = ds.length) : cutD ds lo hi = ds := by
  unfold cutD
  rw [bd_eq, bd_eq, h.1, h.2]
  simp
def TOZ (Z : Cz) (W : WX) (lo : E) (f : Ev) : TO := fun σ H Q => ∃ (w : Wd) (σD : Sg) (h : Hd) (kx : KX) (k : Option Int → Hd → Bool), Good Z w H σ σD h ∧ (f σD h kx fun d h' => match part lo d with | some o => k o h' | none => false) = true ∧
  (∀ w' H' h' o, Nx w H w' H' → Wf w' → HR Z w' h' → k o h' = true → Q o H') ∧ PostX Z w H σ kx W
theorem _root_.L2.PO.imp {X : Cx} {e : Option Expr} {t t' : TO} (h : PO X e t) (i : ∀ σ H Q, t' σ H Q → t σ H Q) : PO X e t' := ⟨fun pins s σ H Q I q => h.run pins s σ H Q I (i σ H Q q)⟩
theorem po_ok {lo : E} {sc : Scope} {lo' : Option Expr} (il : SN Z X W (ev T lo) (mm c lo sc)) (h : (match lo' with | none => isNop lo | some y => !isNop lo && (mm c lo sc).e y) = true) : PO X lo' (TOZ Z W lo (ev T lo)) := by
  cases lo' with
  | none =>
    have h : isNop lo = true := h
    cases lo <;> first | (cases h; done) | skip
    refine po_none.imp fun σ H Q ⟨w, σD, h, kx, k, g, e, p, px⟩ => ?_
    exact p w H h none (.refl g.sub) g.wf g.hr e
  | some y =>
    have h : (!isNop lo && (mm c lo sc).e y) = true := h
    simp only [Bool.and_eq_true, Bool.not_eq_true'] at h
    refine (po_some (il.e y h.2).e).imp fun σ H Q ⟨w, σD, hh, kx, k, g, e, p, px⟩ => ?_
    refine ⟨w, σD, hh, kx, _, g, e, fun w1 H1 d h1 v n1 wf1 hr1 r1 e1 => ?_, px⟩
    unfold part at e1
    rw [h.1] at e1
    dsimp only at e1
    split at e1
    · rename_i o q
      split at q
      · cases q
        cases r1
        exact ⟨_, rfl, p w1 H1 h1 _ n1 wf1 hr1 e1⟩
      · cases q
    · cases e1
theorem s_slc {a lo hi : E} {sc : Scope} (C : Cv Z c T lev X) (ia : SN Z X W (ev T a) (mm c a sc)) (il : SN Z X W (ev T lo) (mm c lo sc)) (ih : SN Z X W (ev T hi) (mm c hi sc)) : SN Z X W (ev T (.slc a lo hi)) (mm c (.slc a lo hi) sc) := .one fun x hx => by
  split at hx
  · rename_i l lo' hi' p2 pos
    simp only [Bool.and_eq_true] at hx
    obtain ⟨⟨h1, h2⟩, h3⟩ := hx
    refine .of C.hK ((pe_slice (sl_tupA.or sl_list) (ia.e l h1).e (po_ok il h2) (po_ok ih h3)).imp fun σ H Q ⟨w, σD, h, kx, k, g, e, p, px⟩ => ?_) (fun _ => rfl)
    simp only [ev] at e
    refine ⟨w, σD, h, kx, _, g, e, fun w1 H1 d h1 v n1 wf1 hr1 r1 e1 => ?_, px⟩
    refine ⟨w1, σD, h1, kx, (fun l h2 => ev T hi σD h2 kx fun u h3 => (match part hi u with
      | some u => (match sliceD h3 d l u with | some z => k z h3 | none => false)
      | none => false)), g.next n1 wf1 hr1, e1, fun w2 H2 h2 lo n2 wf2 hr2 e2 => ?_, px.next n1⟩
    have n12 := n1.trans n2
    refine ⟨w2, σD, h2, kx, (fun u h3 => (match sliceD h3 d lo u with | some z => k z h3 | none => false)), g.next n12 wf2 hr2, e2, fun w3 H3 h3 up n3 wf3 hr3 e3 => ?_, px.next n12⟩
    have n13 := n12.trans n3
    have r3 := (r1.mono n2.le wf1).mono n3.le wf2
    dsimp only at e3
    cases q : sliceD h3 d lo up with
    | none => simp only [q] at e3; cases e3
    | some z =>
      simp only [q] at e3
      have fin : ∀ {ds : List D}, itemsL h3 d = some ds → z = .lst (cutD ds lo up) → (rSlL X.K v lo up H3 Q) := fun {ds} q1 q2 => by
        subst q2
        obtain ⟨a, vs, rfl, e4, e5, e6⟩ := itemsL_ok hr3 r3 q1
        refine ⟨a, vs, rfl, SqL.of (n3.sub _ _ e4), ?_⟩
        exact back_lst n3.sub wf3 hr3 (cut_ok e5 lo up) (Nat.le_trans (cutD_len _ _ _) e6) fun w4 H4 v n4 wf4 hr4 r4 => p w4 H4 _ h3 v (n13.trans n4) wf4 hr4 r4 e3
      cases d with
      | tup ds =>
        have q : some (D.tup (cutD ds lo up)) = some z := q
        cases q
        cases r3 with
        | @tup a vs _ e4 e6 e5 =>
          left
          refine ⟨a, vs, rfl, by rw [C.hK]; exact n3.sub.sqT e4, fun hw => ?_, fun _ => ?_⟩
          · have hw' : HT.sIx ds.length 0 lo = 0 ∧ HT.sIx ds.length ds.length up = ds.length := by rw [← e5.length]; exact hw
            have e7 := cutD_whole hw'
            rw [e7] at e3
            exact p w3 H3 _ h3 _ n13 wf3 hr3 (.tup e4 e6 e5) e3
          · exact back_tup n3.sub wf3 hr3 (cut_ok e5 lo up) (Nat.le_trans (cutD_len _ _ _) e6) fun w4 H4 v n4 wf4 hr4 r4 => p w4 H4 _ h3 v (n13.trans n4) wf4 hr4 r4 e3
      | lst ds => exact .inr (fin (ds := ds) rfl (Option.some.inj q).symm)
      | ref n =>
        obtain ⟨ds, q1, q2⟩ := Option.map_eq_some_iff.mp (show (itemsL h3 (.ref n)).map (fun ds => D.lst (cutD ds lo up)) = some z from q)
        exact .inr (fin q1 q2.symm)
      | _ => cases q
  · cases hx
end
end Z

namespace Z
open PySem PySem.Spec PyProof.Rows L2
def del (H : HP) (D : Addr) : HP := fun b => if b = D then none else H b
theorem del_ne {H : HP} {D b : Addr} (h : b ≠ D) : del H D b = H b := by unfold del; rw [if_neg h]
theorem del_same {H : HP} {D : Addr} : del H D D = none := by unfold del; rw [if_pos rfl]
theorem del_upd {H : HP} {D : Addr} {o : HO} : del (upd H D o) D = del H D := by
  funext b
  by_cases hb : b = D
  · rw [hb, del_same, del_same]
  · rw [del_ne hb, del_ne hb, upd_ne hb]

theorem upd_del {H : HP} {p : Addr} {o : HO} (e : H p = some o) : upd (del H p) p o = H := by
  funext b
  by_cases hb : b = p
  · rw [hb, upd_same, e]
  · rw [upd_ne hb, del_ne hb]
theorem del_of {H : HP} {p : Addr} {o : HO} (e : H p = none) : del (upd H p o) p = H := by
  funext b
  by_cases hb : b = p
  · rw [hb, del_same, e]
  · rw [del_ne hb, upd_ne hb]
section
variable {Z : Cz} {X : Cx} {W : WX} {T : Tx} {lev : Nat} {c : Ck} {w w' : Wd} {H H' : HP} {h : Hd}
theorem Nx.del {D : Addr} {o : HO} (n : Nx w H w' H') (hD : H D = some o) (hw : w.H D = none) : Nx w (del H D) w' (del H' D) := by
  have hw' : w'.H D = none := by
    cases q : w'.H D with
    | none => rfl
    | some u =>
      have z := n.fresh D hw (by rw [q]; simp)
      rw [hD] at z; cases z
  refine ⟨n.le, fun b u e => ?_, fun b u e hn => ?_, fun b hn e => ?_⟩
  · have hb : b ≠ D := fun z => by rw [z, hw'] at e; cases e
    rw [del_ne hb]; exact n.sub b u e
  · have hb : b ≠ D := fun z => by rw [z, del_same] at e; cases e
    rw [del_ne hb] at e ⊢
    exact n.frame b u e hn
  · have z := n.fresh b hn e
    by_cases hb : b = D
    · rw [hb, del_same]
    · rw [del_ne hb]; exact z

/-- a new object, registered -/
def regW (w : Wd) (n : Nat) (p : Addr) (o : HO) : Wd := ⟨fun m => if m = n then some p else w.ρ m, upd w.H p o⟩
theorem look_put : ∀ (es : List (Nat × O)) (n m : Nat) (o : O), look (put es n o) m = if m = n then (look es n).map (fun _ => o) else look es m
  | [], n, m, o => by simp [put, look]
  | (l, u) :: r, n, m, o => by
    have ih := look_put r n m o
    simp only [put, look]
    cases q : Nat.beq l n with
    | true =>
      have e := Nat.eq_of_beq_eq_true q
      subst e
      simp only [look]
      by_cases hm : m = l
      · subst hm; simp [q]
      · have : Nat.beq l m = false := by
          cases z : Nat.beq l m with
          | true => exact absurd (Nat.eq_of_beq_eq_true z).symm hm
          | false => rfl
        simp [this, hm]
    | false =>
      simp only [look]
      cases z : Nat.beq l m with
      | true =>
        have e := Nat.eq_of_beq_eq_true z
        subst e
        by_cases hm : l = n
        · subst hm; rw [z] at q; cases q
        · simp [hm]
      | false => simp only [ih]
theorem reg_le {p : Addr} {o : HO} (s : Sub w.H H) (wf : Wf w) (hr : HR Z w h) (hp : H p = none) : Le w (regW w h.nx p o) := by
  have np : w.H p = none := sub_none s hp
  have n0 := new_any s wf hp o
  have old : ∀ m a, w.ρ m = some a → m ≠ h.nx := fun m a e z => by rw [z, hr.nx h.nx (Nat.le_refl _)] at e; cases e
  exact ⟨fun m a e => by show (if m = h.nx then some p else w.ρ m) = some a; rw [if_neg (old m a e)]; exact e, fun m a e => by
    have e : (if m = h.nx then some p else w.ρ m) = some a := e
    split at e
    · cases e; exact .inr np
    · exact .inl e, n0.le.keep, n0.le.ex⟩
theorem reg_new {p : Addr} {o : HO} {ob : O} (s : Sub w.H H) (wf : Wf w) (hr : HR Z w h) (hp : H p = none) (ch : Chg o) (hob : OR Z (regW w h.nx p o) p ob) :
    Nx w H (regW w h.nx p o) (upd H p o) ∧ Wf (regW w h.nx p o) ∧ HR Z (regW w h.nx p o) ⟨h.nx + 1, (h.nx, ob) :: h.es⟩ ∧ VR Z.K Z.γ (regW w h.nx p o) (.ref p) (.ref h.nx) := by
  have np : w.H p = none := sub_none s hp
  have n0 := new_any s wf hp o
  have le : Le w (regW w h.nx p o) := reg_le s wf hr hp
  have n1 : Nx w H (regW w h.nx p o) (upd H p o) := ⟨le, n0.sub, n0.frame, n0.fresh⟩
  refine ⟨n1, fun m a e => ?_, ⟨fun m u e => ?_, fun m hm => ?_, fun m l a e1 e2 => ?_⟩, .ref (by show (if h.nx = h.nx then some p else _) = _; rw [if_pos rfl])⟩
  · have e : (if m = h.nx then some p else w.ρ m) = some a := e
    split at e
    · cases e; exact ⟨o, upd_same, ch⟩
    · obtain ⟨u, e1, c1⟩ := wf m a e
      refine ⟨u, ?_, c1⟩
      show upd w.H p o a = _
      rw [upd_ne (ne_of_none e1 np)]; exact e1
  · simp only [look] at e
    split at e
    · rename_i q
      cases e
      have e := Nat.eq_of_beq_eq_true q
      subst e
      exact ⟨p, by show (if h.nx = h.nx then some p else _) = _; rw [if_pos rfl], hob⟩
    · obtain ⟨a, e1, r⟩ := hr.at_ m u e
      refine ⟨a, le.rho m a e1, r.mono le wf fun u' e' => ?_⟩
      show upd w.H p o a = _
      rw [upd_ne (ne_of_none e' np)]; exact e'
  · show (if m = h.nx then some p else w.ρ m) = none
    have hm : h.nx + 1 ≤ m := hm
    rw [if_neg (by omega)]
    exact hr.nx m (by omega)
  · have e1 : (if m = h.nx then some p else w.ρ m) = some a := e1
    have e2 : (if l = h.nx then some p else w.ρ l) = some a := e2
    have no : ∀ m, w.ρ m ≠ some p := fun m e => by
      obtain ⟨u, z, _⟩ := wf m p e
      rw [np] at z; cases z
    split at e1
    · split at e2
      · rename_i z1 z2; rw [z1, z2]
      · cases e1; exact absurd e2 (no l)
    · split at e2
      · cases e2; exact absurd e1 (no m)
      · exact hr.inj m l a e1 e2
/-- a registered object changed -/
def putW (w : Wd) (a : Addr) (o : HO) : Wd := ⟨w.ρ, upd w.H a o⟩
theorem put_le {n : Nat} {a : Addr} {o : HO} (ha : w.ρ n = some a) : Le w (putW w a o) := ⟨fun _ _ e => e, fun _ _ e => .inl e, fun b u' e hn => by
    show upd w.H a o b = _
    rw [upd_ne fun z => hn n (by rw [z]; exact ha)]; exact e, fun b u' e => by
    by_cases hb : b = a
    · exact ⟨o, by rw [hb]; exact upd_same⟩
    · exact ⟨u', by show upd w.H a o b = _; rw [upd_ne hb]; exact e⟩⟩
theorem put_ok {n : Nat} {a : Addr} {o u : HO} {ob ob0 : O} (s : Sub w.H H) (wf : Wf w) (hr : HR Z w h) (ha : w.ρ n = some a) (hl : look h.es n = some ob0) (hu : w.H a = some u) (ch : Chg o) (hob : OR Z (putW w a o) a ob) :
    Nx w H (putW w a o) (upd H a o) ∧ Wf (putW w a o) ∧ HR Z (putW w a o) ⟨h.nx, put h.es n ob⟩ := by
  have le : Le w (putW w a o) := put_le ha
  refine ⟨⟨le, fun b u' e => ?_, fun b u' e hn => ?_, fun b hn e => ?_⟩, fun m b e => ?_, ⟨fun m u' e => ?_, hr.nx, hr.inj⟩⟩
  · have e : upd w.H a o b = some u' := e
    by_cases hb : b = a
    · subst hb; rw [upd_same] at e ⊢; exact e
    · rw [upd_ne hb] at e ⊢; exact s b u' e
  · have hb : b ≠ a := fun z => by rw [z, hu] at hn; cases hn
    rw [upd_ne hb]; exact e
  · have e : upd w.H a o b ≠ none := e
    have hb : b ≠ a := fun z => by rw [z, hu] at hn; cases hn
    rw [upd_ne hb] at e; exact absurd hn e
  · by_cases hb : b = a
    · exact ⟨o, by rw [hb]; exact upd_same, ch⟩
    · obtain ⟨u', e1, c1⟩ := wf m b e
      exact ⟨u', by show upd w.H a o b = _; rw [upd_ne hb]; exact e1, c1⟩
  · have e : look (put h.es n ob) m = some u' := e
    rw [look_put] at e
    split at e
    · rename_i hm
      rw [hl] at e
      cases e
      subst hm
      exact ⟨a, ha, hob⟩
    · rename_i hm
      obtain ⟨b, e1, r⟩ := hr.at_ m u' e
      refine ⟨b, e1, r.mono le wf fun v e' => ?_⟩
      show upd w.H a o b = _
      rw [upd_ne fun z => hm (hr.inj m n a (by rw [← z]; exact e1) ha)]; exact e'
/-! ### new lists -/
def PostL (Z : Cz) (w : Wd) (H : HP) (k : K1) (Q : VK) : Prop := ∀ w' H' h' ds vs p, Nx w H w' (del H' p) → Wf w' → HR Z w' h' → VRs Z.K Z.γ w' vs ds → ds.length ≤ sizeLine → H' p = some (.lst vs) → w'.H p = none → k (.lst ds) h' = true → Q (.ref p) H'
def TLZ (Z : Cz) (W : WX) (f : Ev) : TE := fun σ H Q => ∃ w σD h kx k, Good Z w H σ σD h ∧ f σD h kx k = true ∧ PostL Z w H k Q ∧ PostX Z w H σ kx W
theorem PostV.froz {k : K1} {Q : VK} (p : PostV Z w H k Q) : PostL Z w H k Q := fun w' H' h' ds vs a n wf hr r z e1 e2 e => by
  have n2 := new_any n.sub wf (p := a) del_same (.lst vs)
  rw [upd_del e1] at n2
  exact p _ H' _ h' _ (n.trans n2) (new_wf n.sub wf (p := a) del_same _) (hr.new n.sub wf (p := a) del_same _) (.lst upd_same (fun m q => by
    obtain ⟨u, e3, _⟩ := wf m a q
    rw [e2] at e3; cases e3) z (r.mono n2.le wf)) e
def allo (k : K1) : K1 := fun r h1 => match r with | .lst ds => k (.ref h1.nx) ⟨h1.nx + 1, (h1.nx, .lst ds) :: h1.es⟩ | _ => false
theorem PostV.allo {k : K1} {Q : VK} (p : PostV Z w H k Q) : PostL Z w H (_root_.Z.allo k) Q := fun w' H' h' ds vs a n wf hr r z e1 e2 e => by
  obtain ⟨n2, wf2, hr2, r2⟩ := reg_new (ob := .lst ds) (o := .lst vs) n.sub wf hr (p := a) del_same trivial ⟨vs, upd_same, r.mono (reg_le n.sub wf hr del_same) wf, z⟩
  rw [upd_del e1] at n2
  exact p _ H' _ _ _ (n.trans n2) wf2 hr2 r2 e
end
end Z

namespace Z
open PySem PySem.Spec PyProof.Rows L2
/-- what is left to be walked stands for the iterator: R by the turn, the rest and the world -/
structure CurOk (Z : Cz) (J : It) (R : Nat → Cur → Wd → Prop) : Prop where
  mono : ∀ i c w w', R i c w → Le w w' → Wf w → R i c w'
  stop : ∀ i c w H h, R i c w → Sub w.H H → Wf w → HR Z w h → step h c = some none → J.stop i H
  go : ∀ i c w H h x c', R i c w → Sub w.H H → Wf w → HR Z w h → step h c = some (some (x, c')) → J.go i H ∧
    ∀ v H', J.yld i H v H' → ∃ w', Nx w H w' H' ∧ Wf w' ∧ HR Z w' h ∧ VR Z.K Z.γ w' v x ∧ R (i + 1) c' w'
def TIZ (Z : Cz) (W : WX) (cu : Hd → D → Option Cur) (f : Ev) : TI := fun σ H R => ∃ w σD h kx k, Good Z w H σ σD h ∧ f σD h kx k = true ∧
  (∀ w' H' d h' c J Rl, Nx w H w' H' → Wf w' → HR Z w' h' → cu h' d = some c → CurOk Z J Rl → Rl 0 c w' → k d h' = true → R J H') ∧
  (∀ w' H' d h', Nx w H w' H' → Wf w' → HR Z w' h' → k d h' = true → (cu h' d).isSome = true) ∧ PostX Z w H σ kx W
theorem _root_.L2.PI.imp {X : Cx} {tg it : Expr} {t t' : TI} (h : PI X tg it t) (i : ∀ σ H R, t' σ H R → t σ H R) : PI X tg it t' := ⟨fun pins s σ H Q I q => h.run pins s σ H Q I (i σ H Q q)⟩
section
variable {Z : Cz} {X : Cx} {W : WX} {T : Tx} {lev : Nat} {c : Ck} {w : Wd} {H : HP} {h : Hd}
/-- over a list or a tuple -/
def iSeq (K : PySem.W.Frag) (tl : TE) : TI := fun σ H R => tl σ H fun x H1 => ∃ a, x = .ref a ∧ (((∃ xs, SqL K H1 a xs) ∧ R (Itl K a) H1) ∨ ((∃ xs, SqT K H1 a xs) ∧ R (Itt K a) H1))
theorem pi_seq {tg l : Expr} {tl : TE} (hl : PE X l tl) : PI X tg l (iSeq X.K tl) := by
  refine ⟨fun pins s σ H R I h => ?_⟩
  refine thn (hl.run pins s σ H _ I h) fun v s1 ⟨x, H1, I1, r1, q1⟩ => ?_
  obtain ⟨a, e, q | q⟩ := q1
  · obtain ⟨⟨xs, hq⟩, q⟩ := q
    subst e
    cases r1
    obtain ⟨its, rv, p, hz⟩ := I1.list hq
    refine wpAny_pyIter_list p.isList ?_
    refine ⟨s1.heap.objs.size, [s1.heap.objs.size], _, _, H1, rfl, I1.kept (t' := s1.toks) fun b o e => Heap.get?_push_of_some _ e, turn_list a _, ⟨_, Heap.get?_push_size _ rfl, rfl, rfl⟩, fun b hb => ?_, q⟩
    have e : b = s1.heap.objs.size := by simpa using hb
    subst e
    exact I1.fpOk (Nat.le_refl _) (I1.hok.fresh (Nat.le_refl _))
  · obtain ⟨⟨xs, hq⟩, q⟩ := q
    subst e
    cases r1
    obtain ⟨its, rv, p, hz⟩ := I1.tuple hq
    refine wpAny_pyIter_tuple (show s1.heap.IsTuple a its.toArray from p) ?_
    refine ⟨s1.heap.objs.size, [s1.heap.objs.size], _, _, H1, rfl, I1.kept (t' := s1.toks) fun b o e => Heap.get?_push_of_some _ e, turn_tuple a _, ⟨_, Heap.get?_push_size _ rfl, rfl, rfl⟩, fun b hb => ?_, q⟩
    have e : b = s1.heap.objs.size := by simpa using hb
    subst e
    exact I1.fpOk (Nat.le_refl _) (I1.hok.fresh (Nat.le_refl _))
theorem sqL_inj {K : PySem.W.Frag} {a : Addr} {xs ys : List V} (h : H a = some (.lst xs)) (q : SqL K H a ys) (k : K.lookup a = none) : xs = ys := by
  rcases q with (q | ⟨o, q⟩) | ⟨o, _, _, q, _⟩
  · rw [h] at q; cases q; rfl
  · rw [h] at q; cases q
  · rw [k] at q; cases q
theorem drop_cons {ds : List D} {i : Nat} {x : D} {r : List D} (e : ds.drop i = x :: r) : ds[i]? = some x ∧ r = ds.drop (i + 1) := by
  have h1 : (ds.drop i)[0]? = some x := by rw [e]; rfl
  rw [List.getElem?_drop] at h1
  refine ⟨by simpa using h1, ?_⟩
  have h2 : (ds.drop i).drop 1 = r := by rw [e]; rfl
  rw [List.drop_drop] at h2
  exact h2.symm
/-- a list (false) or a tuple (true) -/
def SqB (K : PySem.W.Frag) (k : Bool) (H : HP) (a : Addr) (xs : List V) : Prop := match k with | true => SqT K H a xs | false => SqL K H a xs
structure SeqOk (Z : Cz) (K : PySem.W.Frag) (k : Bool) (a : Addr) (R : Nat → Cu → Wd → Prop) : Prop where
  mono : ∀ i c w w', R i c w → Le w w' → Wf w → R i c w'
  stop : ∀ i c w H h, R i c w → Sub w.H H → Wf w → HR Z w h → step0 h c = some none → ∃ xs, SqB K k H a xs ∧ xs.length ≤ i
  go : ∀ i c w H h x c', R i c w → Sub w.H H → Wf w → HR Z w h → step0 h c = some (some (x, c')) → ∃ xs v, SqB K k H a xs ∧ xs[i]? = some v ∧ VR Z.K Z.γ w v x ∧ R (i + 1) c' w
/-- a list that nobody changes -/
theorem sq_lst {K : PySem.W.Frag} {a : Addr} {ds : List D} {xs : List V} :
    SeqOk Z K false a (fun i c w => w.H a = some (.lst xs) ∧ (∀ n, w.ρ n ≠ some a) ∧ VRs Z.K Z.γ w xs ds ∧ c = .fix (ds.drop i)) where
  mono := fun i c w w' ⟨h1, h2, h3, h4⟩ l wf => ⟨l.keep _ _ h1 h2, l.free h1 h2, h3.mono l wf, h4⟩
  stop := fun i c w H h ⟨h1, h2, h3, h4⟩ s wf hr e => by
    subst h4
    cases q : ds.drop i with
    | cons x r => rw [q] at e; cases e
    | nil =>
      refine ⟨xs, SqL.of (s _ _ h1), ?_⟩
      rw [h3.length]
      exact List.drop_eq_nil_iff.mp q
  go := fun i c w H h x c' ⟨h1, h2, h3, h4⟩ s wf hr e => by
    subst h4
    cases q : ds.drop i with
    | nil => rw [q] at e; cases e
    | cons y r =>
      rw [q] at e
      cases e
      obtain ⟨e1, e2⟩ := drop_cons q
      obtain ⟨v, e3, rv⟩ := h3.get e1
      exact ⟨xs, v, SqL.of (s _ _ h1), e3, rv, h1, h2, h3, by rw [e2]⟩
theorem sq_tup {K : PySem.W.Frag} {a : Addr} {ds : List D} {xs : List V} (hK : K = Z.K) :
    SeqOk Z K true a (fun i c w => SqT Z.K w.H a xs ∧ VRs Z.K Z.γ w xs ds ∧ c = .fix (ds.drop i)) where
  mono := fun i c w w' ⟨h1, h3, h4⟩ l wf => ⟨l.sqT wf h1, h3.mono l wf, h4⟩
  stop := fun i c w H h ⟨h1, h3, h4⟩ s wf hr e => by
    subst h4
    cases q : ds.drop i with
    | cons x r => rw [q] at e; cases e
    | nil =>
      refine ⟨xs, by rw [hK]; exact s.sqT h1, ?_⟩
      rw [h3.length]
      exact List.drop_eq_nil_iff.mp q
  go := fun i c w H h x c' ⟨h1, h3, h4⟩ s wf hr e => by
    subst h4
    cases q : ds.drop i with
    | nil => rw [q] at e; cases e
    | cons y r =>
      rw [q] at e
      cases e
      obtain ⟨e1, e2⟩ := drop_cons q
      obtain ⟨v, e3, rv⟩ := h3.get e1
      exact ⟨xs, v, by rw [hK]; exact s.sqT h1, e3, rv, h1, h3, by rw [e2]⟩
/-- a list in the heap, as it stands at each turn -/
theorem sq_obj {K : PySem.W.Frag} {a : Addr} {n : Nat} :
    SeqOk Z K false a (fun i c w => w.ρ n = some a ∧ c = .obj n i) where
  mono := fun i c w w' ⟨h1, h4⟩ l wf => ⟨l.rho _ _ h1, h4⟩
  stop := fun i c w H h ⟨h1, h4⟩ s wf hr e => by
    subst h4
    simp only [step0] at e
    cases q : look h.es n with
    | none => simp only [q] at e; cases e
    | some o =>
      cases o with
      | lst ds =>
        simp only [q] at e
        obtain ⟨a', e1, xs, e2, e3, _⟩ := hr.at_ n _ q
        rw [h1] at e1; cases e1
        cases q2 : ds[i]? with
        | some d => simp only [q2] at e; cases e
        | none => exact ⟨xs, SqL.of (s _ _ e2), by rw [e3.length]; exact List.getElem?_eq_none_iff.mp q2⟩
      | _ => simp only [q] at e; cases e
  go := fun i c w H h x c' ⟨h1, h4⟩ s wf hr e => by
    subst h4
    simp only [step0] at e
    cases q : look h.es n with
    | none => simp only [q] at e; cases e
    | some o =>
      cases o with
      | lst ds =>
        simp only [q] at e
        obtain ⟨a', e1, xs, e2, e3, _⟩ := hr.at_ n _ q
        rw [h1] at e1; cases e1
        cases q2 : ds[i]? with
        | none => simp only [q2] at e; cases e
        | some d =>
          simp only [q2] at e
          cases e
          obtain ⟨v, e4, rv⟩ := e3.get q2
          exact ⟨xs, v, SqL.of (s _ _ e2), e4, rv, h1, rfl⟩
      | _ => simp only [q] at e; cases e
/-- a value that is a list or a tuple, walked -/
theorem seq_of {K : PySem.W.Frag} (hK : K = Z.K) {w : Wd} {H : HP} {h : Hd} {v : V} {d : D} {c : Cu} (s : Sub w.H H) (hr : HR Z w h) (r : VR Z.K Z.γ w v d) (e : cuOf h d = some c) :
    ∃ a k R xs, v = .ref a ∧ SqB K k H a xs ∧ SeqOk Z K k a R ∧ R 0 c w := by
  cases d with
  | tup ds =>
    cases e
    cases r with
    | @tup a xs _ e2 z r2 => exact ⟨a, true, _, xs, rfl, by rw [hK]; exact s.sqT e2, sq_tup hK, e2, r2, rfl⟩
  | lst ds =>
    cases e
    cases r with
    | @lst a xs _ e2 nn z r2 => exact ⟨a, false, _, xs, rfl, SqL.of (s _ _ e2), sq_lst, e2, nn, r2, rfl⟩
  | ref n =>
    simp only [cuOf] at e
    split at e
    · rename_i ds q1
      cases e
      obtain ⟨a, xs, e0, e2, e3, _⟩ := itemsL_ok hr r (show itemsL h (.ref n) = some ds by simp only [itemsL, q1])
      subst e0
      cases r with
      | ref e4 => exact ⟨a, false, _, xs, rfl, SqL.of (s _ _ e2), sq_obj, e4, rfl⟩
    · cases e
  | _ => cases e
/-- the walk itself -/
theorem cur_seq {K : PySem.W.Frag} {k : Bool} {a : Addr} {R : Nat → Cu → Wd → Prop} (S : SeqOk Z K k a R) :
    CurOk Z (match k with | true => Itt K a | false => Itl K a) (fun i c w => ∃ c0, c = .b c0 ∧ R i c0 w) where
  mono := fun i c w w' ⟨c0, h1, h2⟩ l wf => ⟨c0, h1, S.mono _ _ _ _ h2 l wf⟩
  stop := fun i c w H h ⟨c0, h1, h2⟩ s wf hr e => by
    subst h1
    simp only [step] at e
    split at e
    · cases e
    · rename_i q
      have z := S.stop i c0 w H h h2 s wf hr q
      cases k <;> exact z
    · cases e
  go := fun i c w H h x c' ⟨c0, h1, h2⟩ s wf hr e => by
    subst h1
    simp only [step] at e
    split at e
    · rename_i y c1 q
      cases e
      obtain ⟨xs, v, z1, z2, z3, z4⟩ := S.go i c0 w H h _ c1 h2 s wf hr q
      cases k with
      | true =>
        refine ⟨⟨xs, v, z1, z2⟩, fun v' H' ⟨y1, y⟩ => ?_⟩
        subst y1
        have e5 := y xs z1
        rw [z2] at e5; cases e5
        exact ⟨w, .refl s, wf, hr, z3, c1, rfl, z4⟩
      | false =>
        refine ⟨⟨xs, v, z1, z2⟩, fun v' H' ⟨y1, y⟩ => ?_⟩
        subst y1
        have e5 := y xs z1
        rw [z2] at e5; cases e5
        exact ⟨w, .refl s, wf, hr, z3, c1, rfl, z4⟩
    · cases e
    · cases e
/-- each item with its number -/
def IteB (K : PySem.W.Frag) (k : Bool) (a : Addr) : It :=
  ⟨fun i H => ∃ xs x, SqB K k H a xs ∧ xs[i]? = some x, fun i H v H' => ∃ T x, v = .ref T ∧ H T = none ∧ H' = upd H T (.tup [.int (i : Nat), x]) ∧ ∀ xs, SqB K k H a xs → xs[i]? = some x,
    fun i H => ∃ xs : List V, SqB K k H a xs ∧ xs.length ≤ i⟩
def ItzB (K : PySem.W.Frag) (k l : Bool) (a b : Addr) : It :=
  ⟨fun i H => ∃ (xs ys : List V) (x y : V), SqB K k H a xs ∧ SqB K l H b ys ∧ xs[i]? = some x ∧ ys[i]? = some y,
    fun i H v H' => ∃ T x y, v = .ref T ∧ H T = none ∧ H' = upd H T (.tup [x, y]) ∧ (∀ xs, SqB K k H a xs → xs[i]? = some x) ∧ ∀ ys, SqB K l H b ys → ys[i]? = some y,
    fun i H => ∃ xs ys : List V, SqB K k H a xs ∧ SqB K l H b ys ∧ (xs.length ≤ i ∨ ys.length ≤ i)⟩
theorem two_small : (2 : Nat) ≤ sizeLine := by rw [sizeLine_eq]; decide
/-- a new tuple of the world's values -/
theorem new_tup {w : Wd} {H : HP} {h : Hd} {T : Addr} {vs : List V} {ds : List D} (s : Sub w.H H) (wf : Wf w) (hr : HR Z w h) (hT : H T = none) (r : VRs Z.K Z.γ w vs ds) (z : ds.length ≤ sizeLine) :
    Nx w H ⟨w.ρ, upd w.H T (.tup vs)⟩ (upd H T (.tup vs)) ∧ Wf ⟨w.ρ, upd w.H T (.tup vs)⟩ ∧ HR Z ⟨w.ρ, upd w.H T (.tup vs)⟩ h ∧ VR Z.K Z.γ ⟨w.ρ, upd w.H T (.tup vs)⟩ (.ref T) (.tup ds) :=
  have n := new_any s wf hT (.tup vs)
  ⟨n, new_wf s wf hT _, hr.new s wf hT _, .tup (.inl (.inl upd_same)) z (r.mono n.le wf)⟩
theorem cur_en {K : PySem.W.Frag} {k : Bool} {a : Addr} {R : Nat → Cu → Wd → Prop} (S : SeqOk Z K k a R) :
    CurOk Z (IteB K k a) (fun i c w => ∃ c0, c = .en (i : Nat) c0 ∧ R i c0 w) where
  mono := fun i c w w' ⟨c0, h1, h2⟩ l wf => ⟨c0, h1, S.mono _ _ _ _ h2 l wf⟩
  stop := fun i c w H h ⟨c0, h1, h2⟩ s wf hr e => by
    subst h1
    simp only [step] at e
    split at e
    · cases e
    · rename_i q
      exact S.stop i c0 w H h h2 s wf hr q
    · cases e
  go := fun i c w H h x c' ⟨c0, h1, h2⟩ s wf hr e => by
    subst h1
    simp only [step] at e
    split at e
    · rename_i y c1 q
      cases e
      obtain ⟨xs, v, z1, z2, z3, z4⟩ := S.go i c0 w H h _ c1 h2 s wf hr q
      refine ⟨⟨xs, v, z1, z2⟩, fun v' H' ⟨T, x', y1, y2, y3, y⟩ => ?_⟩
      subst y1 y3
      have e5 := y xs z1
      rw [z2] at e5; cases e5
      obtain ⟨n1, n2, n3, n4⟩ := new_tup s wf hr y2 (.cons (.int _) (.cons z3 .nil)) two_small
      exact ⟨_, n1, n2, n3, n4, c1, by simp, S.mono _ _ _ _ z4 n1.le wf⟩
    · cases e
    · cases e
theorem SeqOk.has {K : PySem.W.Frag} {k : Bool} {a : Addr} {R : Nat → Cu → Wd → Prop} (S : SeqOk Z K k a R) {i : Nat} {c : Cu} {w : Wd} {H : HP} {h : Hd} (r : R i c w) (s : Sub w.H H) (wf : Wf w) (hr : HR Z w h) {st : Option (D × Cu)} (q : step0 h c = some st) :
    ∃ xs, SqB K k H a xs := by
  cases st with
  | none => obtain ⟨xs, z, _⟩ := S.stop i c w H h r s wf hr q; exact ⟨xs, z⟩
  | some xc => obtain ⟨xs, v, z, _⟩ := S.go i c w H h xc.1 xc.2 r s wf hr q; exact ⟨xs, z⟩
theorem cur_zp {K : PySem.W.Frag} {k l : Bool} {a b : Addr} {R R' : Nat → Cu → Wd → Prop} (S : SeqOk Z K k a R) (S' : SeqOk Z K l b R') : CurOk Z (ItzB K k l a b) (fun i c w => ∃ c0 c1, c = .zp c0 c1 ∧ R i c0 w ∧ R' i c1 w) where
  mono := fun i c w w' ⟨c0, c1, h1, h2, h3⟩ l wf => ⟨c0, c1, h1, S.mono _ _ _ _ h2 l wf, S'.mono _ _ _ _ h3 l wf⟩
  stop := fun i c w H h ⟨c0, c1, h1, h2, h3⟩ s wf hr e => by
    subst h1
    simp only [step] at e
    cases q : step0 h c0 with
    | none => simp only [q] at e; cases e
    | some st =>
      cases q' : step0 h c1 with
      | none => simp only [q, q'] at e; cases e
      | some st' =>
        obtain ⟨xs, z0⟩ := S.has h2 s wf hr q
        obtain ⟨ys, z1⟩ := S'.has h3 s wf hr q'
        cases st with
        | none =>
          obtain ⟨xs, z1', z2⟩ := S.stop i c0 w H h h2 s wf hr q
          exact ⟨xs, ys, z1', z1, .inl z2⟩
        | some xc =>
          cases st' with
          | none =>
            obtain ⟨ys, z1', z2⟩ := S'.stop i c1 w H h h3 s wf hr q'
            exact ⟨xs, ys, z0, z1', .inr z2⟩
          | some yc =>
            obtain ⟨x1, x2⟩ := xc
            obtain ⟨y1, y2⟩ := yc
            simp only [q, q'] at e; cases e
  go := fun i c w H h x c' ⟨c0, c1, h1, h2, h3⟩ s wf hr e => by
    subst h1
    simp only [step] at e
    split at e
    · rename_i y d0 y' d1 q q'
      cases e
      obtain ⟨xs, v, z1, z2, z3, z4⟩ := S.go i c0 w H h _ d0 h2 s wf hr q
      obtain ⟨ys, v', u1, u2, u3, u4⟩ := S'.go i c1 w H h _ d1 h3 s wf hr q'
      refine ⟨⟨xs, ys, v, v', z1, u1, z2, u2⟩, fun v'' H' ⟨T, x', x'', y1, y2, y3, y4, y5⟩ => ?_⟩
      subst y1 y3
      have e5 := y4 xs z1
      rw [z2] at e5; cases e5
      have e6 := y5 ys u1
      rw [u2] at e6; cases e6
      obtain ⟨n1, n2, n3, n4⟩ := new_tup s wf hr y2 (.cons z3 (.cons u3 .nil)) two_small
      exact ⟨_, n1, n2, n3, n4, d0, d1, rfl, S.mono _ _ _ _ z4 n1.le wf, S'.mono _ _ _ _ u4 n1.le wf⟩
    · cases e
    · cases e
/-- lo, lo + st, .. -/
theorem rng_drop (lo st : Int) : ∀ (n i : Nat), (rng lo st n).drop i = rng (lo + (i : Nat) * st) st (n - i)
  | n, 0 => by simp
  | 0, i + 1 => by simp [rng]
  | n + 1, i + 1 => by
    have : (rng lo st (n + 1)).drop (i + 1) = (rng (lo + st) st n).drop i := rfl
    rw [this, rng_drop (lo + st) st n i]
    have e : lo + st + (i : Int) * st = lo + ((i + 1 : Nat) : Int) * st := by
      rw [Int.natCast_add, Int.add_mul]; simp; omega
    rw [e]
    congr 1
    omega
theorem cur_rngC {lo st : Int} {n : Nat} : CurOk Z (Itc lo st n) (fun i c w => c = .b (.fix ((rng lo st n).drop i)) ∧ i ≤ n) where
  mono := fun i c w w' h l wf => h
  stop := fun i c w H h ⟨h4, hi⟩ s wf hr e => by
    subst h4
    rw [rng_drop] at e
    by_cases q : i < n
    · obtain ⟨m, hm⟩ : ∃ m, n - i = m + 1 := ⟨n - i - 1, by omega⟩
      rw [hm] at e
      cases e
    · exact Nat.le_of_not_lt q
  go := fun i c w H h x c' ⟨h4, hi⟩ s wf hr e => by
    subst h4
    rw [rng_drop] at e
    by_cases q : i < n
    · obtain ⟨m, hm⟩ : ∃ m, n - i = m + 1 := ⟨n - i - 1, by omega⟩
      rw [hm] at e
      cases e
      refine ⟨q, fun v H' y => ?_⟩
      obtain ⟨rfl, rfl⟩ := y
      refine ⟨w, .refl s, wf, hr, .int _, ?_, q⟩
      rw [rng_drop]
      have e1 : lo + ((i : Nat) : Int) * st + st = lo + ((i + 1 : Nat) : Int) * st := by
        rw [Int.natCast_add, Int.add_mul]; simp; omega
      rw [e1, show n - (i + 1) = m by omega]
    · have e0 : n - i = 0 := by omega
      rw [e0] at e
      cases e
theorem cur_rng {lo : Int} {n : Nat} : CurOk Z (Itr lo n) (fun i c w => c = .b (.fix ((rng lo 1 n).drop i)) ∧ i ≤ n) where
  mono := fun i c w w' h l wf => h
  stop := fun i c w H h r s wf hr e => (cur_rngC (Z := Z) (lo := lo) (st := 1) (n := n)).stop i c w H h r s wf hr e
  go := fun i c w H h x c' r s wf hr e => by
    obtain ⟨a, b⟩ := (cur_rngC (Z := Z) (lo := lo) (st := 1) (n := n)).go i c w H h x c' r s wf hr e
    refine ⟨a, fun v H' y => b v H' ⟨y.1, ?_⟩⟩
    rw [y.2]; simp
theorem pi_plain {tg x : Expr} {f : Ev} {cu : Hd → D → Option Cur} (hcu : ∀ h d c, cu h d = some c → ∃ c0, c = .b c0 ∧ cuOf h d = some c0) (hK : X.K = Z.K) (h : PE X x (TZ Z W f)) : PI X tg x (TIZ Z W cu f) :=
  (pi_seq h).imp fun σ H R ⟨w, σD, h, kx, k, g, e, p, p2, px⟩ => by
    refine ⟨w, σD, h, kx, k, g, e, fun w1 H1 d h1 v n1 wf1 hr1 r1 e1 => ?_, px⟩
    have hs := p2 w1 H1 d h1 n1 wf1 hr1 e1
    cases q : cu h1 d with
    | none => rw [q] at hs; cases hs
    | some c =>
      obtain ⟨c0, q1, q2⟩ := hcu _ _ _ q
      obtain ⟨a, k', R', xs, e2, e3, S, R0⟩ := seq_of hK n1.sub hr1 r1 q2
      refine ⟨a, e2, ?_⟩
      have z := p w1 H1 d h1 c _ _ n1 wf1 hr1 q (cur_seq S) ⟨c0, q1, R0⟩ e1
      cases k' with
      | true => exact .inr ⟨⟨xs, e3⟩, z⟩
      | false => exact .inl ⟨⟨xs, e3⟩, z⟩
end
end Z

namespace PySem
open Sem (wp)
theorem zMeetsEnum {v : Value} {o : Obj} {H : Heap → Prop} (B : Begins v o H) :
    Meets (Builtin.«enumerate.__new__» ⟨[.type "enumerate", v], []⟩) (fun _ R s => H s.heap ∧
      R (.ok (.ret (.ref (s.heap.push o).objs.size))) { s with heap := (s.heap.push o).push { cls := .type "enumerate", data := .fields #[.none, .bool false, .ref s.heap.objs.size, rawInt 0, .none, .none] } }) :=
  .of_wp fun prog w A R s h => by
    obtain ⟨hp, g, d, tk, os⟩ := s; obtain ⟨h1, h⟩ := h
    have hsub := sub_enumerate
    have q1 : ∀ {A' : Around} {E : Value → Shared → Prop} {Q : Value → Shared → Prop}, Q (.ref hp.objs.size) ⟨hp.push o, g, d, tk, os⟩ → wpAny (model prog w) A' (pyIter v) Q E ⟨hp, g, d, tk, os⟩ :=
      fun q => B.iter prog w _ _ ⟨hp, g, d, tk, os⟩ _ h1 q
    wp_walk using q1
    refine wpAny_stack_any fun st => wpAny_pure ?_
    split
    · rename_i c _ _ _ _ _
      cases (c == Value.type "enumerate")
      · wp_walk using q1
        exact ⟨_, rfl, h⟩
      · wp_walk using q1
        exact ⟨_, rfl, h⟩
    · wp_walk using q1
      exact ⟨_, rfl, h⟩
theorem zCallEnum {prog : Program} {w : World} {A : Around} {E : Value → Shared → Prop} {s : Shared} {v : Value} {o : Obj} {H : Heap → Prop} {Q : Value → Shared → Prop} (B : Begins v o H) (h1 : H s.heap)
    (h : ∀ h', IsEnum h' (s.heap.objs.size + 1) s.heap.objs.size 0 .none → h'.get? s.heap.objs.size = some o → h'.objs.size = s.heap.objs.size + 2 →
      (∀ b o, s.heap.get? b = some o → h'.get? b = some o) → Q (.ref (s.heap.objs.size + 1)) { s with heap := h' }) :
    wpAny (model prog w) A (call (.type "enumerate") [v]) Q E s := by
  refine callType_new F.called_enumerate (by decide) (F.typeCall_enumerate_1 _) (F.newCall_enumerate_1 _) (fun obj => F.args_object_init_2 obj _) F.entry_enumerate_new
    (zMeetsEnum B) ⟨h1, ?_⟩
  have hz : (s.heap.push o).objs.size = s.heap.objs.size + 1 := Heap.size_push ..
  show _ ∧ _
  rw [hz]
  have he : IsEnum ((s.heap.push o).push { cls := .type "enumerate", data := .fields #[.none, .bool false, .ref s.heap.objs.size, rawInt 0, .none, .none] }) (s.heap.objs.size + 1) s.heap.objs.size 0 .none := by
    have := Heap.get?_push_size (s.heap.push o) (o := { cls := .type "enumerate", data := .fields #[.none, .bool false, .ref s.heap.objs.size, rawInt 0, .none, .none] }) rfl
    rw [hz] at this; exact this
  refine ⟨⟨_, he, rfl⟩, h _ he (Heap.get?_push_of_some _ (Heap.get?_push_size _ B.free)) (by rw [Heap.size_push, hz]) fun b o x => Heap.get?_push_of_some _ (Heap.get?_push_of_some _ x)⟩
end PySem
namespace Z
open PySem PySem.Spec PyProof.Rows L2
section
variable {X : Cx}
def ItB (k : Bool) (h : Heap) (it a : Addr) (i : Nat) : Prop := match k with | true => h.IsTupleIter it a i | false => h.IsListIter it a i
def SB (k : Bool) (h : Heap) (a : Addr) (its : Array Value) : Prop := match k with | true => h.IsTuple a its | false => h.IsList a its
theorem ItB.at_ {k : Bool} {h h' : Heap} {it a : Addr} {i : Nat} (s : ItB k h it a i) (f : ∀ o, h.get? it = some o → h'.get? it = some o) : ItB k h' it a i := by
  cases k with
  | true => exact Heap.IsTupleIter.at s f
  | false => exact Heap.IsListIter.at s f
theorem ItB.obj {k : Bool} {h : Heap} {it a : Addr} {i : Nat} (s : ItB k h it a i) : ∃ o, h.get? it = some o ∧ ∀ v, o.data ≠ .cell v := by
  cases k with
  | true => obtain ⟨o, e, c, d⟩ := s; exact ⟨o, e, fun v z => by rw [d] at z; cases z⟩
  | false => obtain ⟨o, e, c, d⟩ := s; exact ⟨o, e, fun v z => by rw [d] at z; cases z⟩
theorem drawsB {prog : Program} {w : World} {A : Around} (hh : A.handled = none) (k : Bool) (it a : Addr) (hne : a ≠ it) (its : Array Value) :
    Draws prog w A it [it, a] its.size (fun i v => its[i]? = some v) (fun i h => ItB k h it a i ∧ SB k h a its) := by
  cases k with
  | true => exact .tuple hh it a hne its
  | false => exact .list hh it a hne its
/-- an iterator at its i-th item, there or not -/
theorem drawAt {prog : Program} {w : World} {A : Around} (hh : A.handled = none) (k : Bool) (it a : Addr) (hne : a ≠ it) (its : Array Value) (i : Nat) (h : Heap) (s : ItB k h it a i) (q : SB k h a its) :
    ∃ n P St, Draws prog w A it [it, a] n P St ∧ i ≤ n ∧ (its[i]? = none → i = n) ∧ (i < n ↔ i < its.size) ∧ St i h ∧ (∀ v, P i v → its[i]? = some v) ∧ ∀ j h', St j h' → ItB k h' it a j := by
  by_cases hi : i ≤ its.size
  · refine ⟨_, _, _, drawsB hh k it a hne its, hi, fun e => ?_, Iff.rfl, ⟨s, q⟩, fun _ e => e, fun _ _ e => e.1⟩
    have : its.size ≤ i := by simpa using e
    omega
  · refine ⟨i, fun _ _ => False, fun j h => j = i ∧ ItB k h it a i ∧ SB k h a its, ?_, Nat.le_refl _, fun _ => rfl, by omega, ⟨rfl, s, q⟩, fun _ e => e.elim, fun j h' e => by rw [e.1]; exact e.2.1⟩
    refine ⟨fun _ _ st => let ⟨o, e, _⟩ := st.2.1.obj; ⟨o, e⟩, fun j h h' st kp => ⟨st.1, st.2.1.at_ fun o e => kp it (by simp) o e, ?_⟩, fun j s Q E hj st => absurd hj (by rw [st.1]; exact Nat.lt_irrefl _), fun s Q E st hE => ?_⟩
    · cases k with
      | true => exact Heap.IsTuple.at st.2.2 fun o e => kp a (by simp) o e
      | false => exact Heap.IsList.at st.2.2 fun o e => kp a (by simp) o e
    · have hn : its[i]? = none := by simp; omega
      cases k with
      | true => exact wpAny_nextOf_tuple_end hh st.2.1 st.2.2 hn hE
      | false => exact wpAny_nextOf_list_end hh st.2.1 st.2.2 hn hE
theorem seqB {k : Bool} {pins : List (Addr × Obj)} {σ : L2.St} {H : HP} {s : Shared} {a : Addr} {xs : List V} (I : Inv X pins σ H s) (q : SqB X.K k H a xs) :
    ∃ its : List Value, Vals xs its ∧ SB k s.heap a its.toArray ∧ xs.length ≤ sizeLine := by
  cases k with
  | true => obtain ⟨its, rv, p, z⟩ := I.tuple q; exact ⟨its, rv, p, z⟩
  | false => obtain ⟨its, rv, p, z⟩ := I.list q; exact ⟨its, rv, p.isList, z⟩
theorem seqB_inj {k : Bool} {pins : List (Addr × Obj)} {σ : L2.St} {H : HP} {s : Shared} {a : Addr} {xs ys : List V} (I : Inv X pins σ H s) (q : SqB X.K k H a xs) (q' : SqB X.K k H a ys) : xs = ys := by
  cases k with
  | true => exact I.tuple_inj q q'
  | false => exact I.list_inj q q'
theorem seqB_ne {k : Bool} {h : Heap} {a it : Addr} {i : Nat} {its : Array Value} (q : SB k h a its) {b : Addr} (s : ItB k h it b i) : a ≠ it := fun e => by
  subst e
  cases k with
  | true =>
    obtain ⟨o, e, c, d⟩ := s
    obtain ⟨o', e', c', _⟩ := q
    rw [e] at e'; cases e'
    rw [c] at c'; exact absurd c' (by simp)
  | false =>
    obtain ⟨o, e, c, d⟩ := s
    obtain ⟨o', e', c', _⟩ := q
    rw [e] at e'; cases e'
    rw [c] at c'; exact absurd c' (by simp)
theorem enumP {P : Program} {w : World} {K : PySem.W.Frag} {elts : List Expr} {kk : Nat} {tpos : Pos} (k : Bool) (a e it : Addr) :
    Turn P w K (.Tuple elts kk tpos) (IteB K k a) [e, it] e (fun i h => (∃ old, IsEnum h e it ((i : Nat) : Int) old) ∧ ItB k h it a i ∧ e ≠ it ∧ e ≠ a) where
  mem := by simp
  obj := fun i h st b hb => by
    obtain ⟨⟨old, he⟩, hi, _⟩ := st
    have e' : b = e ∨ b = it := by simpa using hb
    rcases e' with z | z
    · rw [z]; exact ⟨_, he, fun v q => nomatch q⟩
    · rw [z]; exact hi.obj
  keep := fun i h h' st kp => let ⟨⟨old, he⟩, hi, hne, hna⟩ := st; ⟨⟨old, kp e (by simp) _ he⟩, hi.at_ fun o q => kp it (by simp) o q, hne, hna⟩
  item := by
    intro X hP hw hK hc i pins s σ H E I hf st hg
    subst hP hw hK
    obtain ⟨⟨old, he⟩, hit, hne, hna⟩ := st
    obtain ⟨xs, x, hq, hx⟩ := hg
    obtain ⟨its, rv, p, hz⟩ := seqB I hq
    obtain ⟨u, hu, ru⟩ := rv.get hx
    have hel : e < s.heap.objs.size := Heap.lt_size he
    have hil : it < s.heap.objs.size := by obtain ⟨_, q, _⟩ := hit.obj; exact Heap.lt_size q
    have hai : a ≠ it := seqB_ne p hit
    have hlt : i < its.toArray.size := by
      have := (List.getElem?_eq_some_iff.mp hu).1
      simpa using this
    refine wpAny_pyNext_enum_itemC (drawsB (A := X.A.in1) (I.ok.hd hc) k it a hai its.toArray) he ⟨hit, p⟩ hlt hne (by simp [hne, hna]) fun x' h' tk hP' ho st' hT hsz hk => ?_
    have hx' : x' = u := by
      have q : its.toArray[i]? = some x' := hP'
      rw [List.getElem?_toArray, hu] at q
      exact (Option.some.inj q).symm
    subst hx'
    refine ⟨_, rfl, wpAny_letOwnedTupleGo_enum (s := { s with heap := h', toks := tk + 1 }) ho fun h'' he' sb => ?_⟩
    have hT2 : h''.get? s.heap.objs.size = some { cls := .type "tuple", data := .seq #[.int i tk, x'] } := (sb.2 _ (Nat.ne_of_gt hel)).trans hT
    have new : ObjOk X.prog X.w (upd H s.heap.objs.size (.tup [.int (i : Nat), x])) h'' s.heap.objs.size (.tup [.int (i : Nat), x]) :=
      ⟨two_small, [.int i tk, x'], .cons ⟨_, rfl⟩ (.cons ru .nil), ⟨_, hT2, rfl, _, rfl⟩⟩
    have I1 : Inv X pins σ (upd H s.heap.objs.size (.tup [.int (i : Nat), x])) { s with heap := h'', toks := tk + 1 } :=
      I.turnedNew (ch := [e, it]) (fun b ob hb q => (sb.2 b (fun z => hb (by simp [z]))).trans (hk b ob (fun z => hb (by simp [z])) (fun z => hb (by simp [z])) q)) hf (Nat.le_refl _) new
    refine ⟨.ref s.heap.objs.size, _, I1, rfl, ⟨_, x, rfl, I.hok.fresh (Nat.le_refl _), rfl, fun ys hy => by rw [seqB_inj I hy hq]; exact hx⟩, ⟨⟨x', ?_⟩, st'.1.at_ fun o q => (sb.2 it (Ne.symm hne)).trans q, hne, hna⟩, fun b hb => ?_⟩
    · have e1 : ((i + 1 : Nat) : Int) = (i : Int) + 1 := by omega
      rw [e1]; exact he'
    · have hb' : b < s.heap.objs.size := by
        have e' : b = e ∨ b = it := by simpa using hb
        rcases e' with z | z
        · rw [z]; exact hel
        · rw [z]; exact hil
      rw [upd_ne (Nat.ne_of_lt hb')]
      exact (hf b hb).1
  done := by
    intro X hP hw hK hc i pins s σ H E I hf st hg
    subst hP hw hK
    obtain ⟨⟨old, he⟩, hit, hne, hna⟩ := st
    obtain ⟨xs, hq, hx⟩ := hg
    obtain ⟨its, rv, p, hz⟩ := seqB I hq
    obtain ⟨f0, f1, f2, f3, f4, f5⟩ := hf it (by simp)
    have hl := rv.length
    have hai : a ≠ it := seqB_ne p hit
    obtain ⟨n, P, St, Dr, h1, h2, h3, h4, h5, h6⟩ := drawAt (prog := X.prog) (w := X.w) (A := X.A.in1) (I.ok.hd hc) k it a hai its.toArray i s.heap hit p
    have e0 : i = n := h2 (by simp; omega)
    exact wpAny_pyNext_enum_endD Dr he (by rw [← e0]; exact h4) fun h' eb => ⟨rfl, I.turned (t' := s.toks) (fun b o hb q => eb b o hb q) f0 f1 f3 f4 f5⟩
  self := fun A i s Q E st h => let ⟨⟨_, he⟩, _⟩ := st; wpAny_pyIter_enum he h
theorem zipP {P : Program} {w : World} {K : PySem.W.Frag} {elts : List Expr} {kk : Nat} {tpos : Pos} {k l : Bool} {a b z TI TO i1 i2 : Addr} (D : ZipSep2 z TI TO i1 i2 [i1, a] [i2, b]) :
    Turn P w K (.Tuple elts kk tpos) (ItzB K k l a b) [z, TI, TO, i1, i2] z (fun i h => IsZip h z TI TO .none ∧ IsTupOf2 h TI (.ref i1) (.ref i2) ∧ (∃ x y, IsTupOf2 h TO x y) ∧ ItB k h i1 a i ∧ ItB l h i2 b i) where
  mem := by simp
  obj := fun i h st c hc => by
    obtain ⟨hz, hTI, ⟨x, y, hTO⟩, h1, h2⟩ := st
    have e' : c = z ∨ c = TI ∨ c = TO ∨ c = i1 ∨ c = i2 := by simpa using hc
    rcases e' with q | q | q | q | q
    · rw [q]; exact ⟨_, hz, fun v q => nomatch q⟩
    · rw [q]; exact ⟨_, hTI, fun v q => nomatch q⟩
    · rw [q]; exact ⟨_, hTO, fun v q => nomatch q⟩
    · rw [q]; exact h1.obj
    · rw [q]; exact h2.obj
  keep := fun i h h' st kp => by
    obtain ⟨hz, hTI, ⟨x, y, hTO⟩, h1, h2⟩ := st
    exact ⟨kp z (by simp) _ hz, kp TI (by simp) _ hTI, ⟨x, y, kp TO (by simp) _ hTO⟩, h1.at_ fun o q => kp i1 (by simp) o q, h2.at_ fun o q => kp i2 (by simp) o q⟩
  item := by
    intro X hP hw hK hc i pins s σ H E I hf st hg
    subst hP hw hK
    obtain ⟨hz, hTI, ⟨x0, y0, hTO⟩, h1, h2⟩ := st
    obtain ⟨xs, ys, x, y, hqx, hqy, hx, hy⟩ := hg
    obtain ⟨its, rv, p, _⟩ := seqB I hqx
    obtain ⟨its2, rv2, p2, _⟩ := seqB I hqy
    obtain ⟨u, hu, ru⟩ := rv.get hx
    obtain ⟨u2, hu2, ru2⟩ := rv2.get hy
    have hzl : z < s.heap.objs.size := Heap.lt_size hz
    have lt1 : i < its.toArray.size := by have := (List.getElem?_eq_some_iff.mp hu).1; simpa using this
    have lt2 : i < its2.toArray.size := by have := (List.getElem?_eq_some_iff.mp hu2).1; simpa using this
    refine wpAny_pyNext_zipD2_item D (drawsB (A := X.A.in1) (I.ok.hd hc) k i1 a (seqB_ne p h1) its.toArray) (drawsB (A := X.A.in1) (I.ok.hd hc) l i2 b (seqB_ne p2 h2) its2.toArray) hz hTI hTO ⟨h1, p⟩ ⟨h2, p2⟩ lt1 lt2 fun x1 x2 h' tk e1 e2 z' TO' h1' h2' hT hsz hk => ?_
    have ex1 : x1 = u := by
      have q : its.toArray[i]? = some x1 := e1
      rw [List.getElem?_toArray, hu] at q
      exact (Option.some.inj q).symm
    have ex2 : x2 = u2 := by
      have q : its2.toArray[i]? = some x2 := e2
      rw [List.getElem?_toArray, hu2] at q
      exact (Option.some.inj q).symm
    subst ex1 ex2
    refine ⟨_, rfl, wpAny_letOwnedTupleGo_zip (s := { s with heap := h', toks := tk }) z' fun h'' z'' sb => ?_⟩
    have hT2 : h''.get? s.heap.objs.size = some { cls := .type "tuple", data := .seq #[x1, x2] } := (sb.2 _ (Nat.ne_of_gt hzl)).trans hT
    have new : ObjOk X.prog X.w (upd H s.heap.objs.size (.tup [x, y])) h'' s.heap.objs.size (.tup [x, y]) :=
      ⟨two_small, [x1, x2], .cons ru (.cons ru2 .nil), ⟨_, hT2, rfl, _, rfl⟩⟩
    have I1 : Inv X pins σ (upd H s.heap.objs.size (.tup [x, y])) { s with heap := h'', toks := tk } :=
      I.turnedNew (ch := [z, TI, TO, i1, i2]) (fun c o hb q => (sb.2 c (fun q' => hb (by simp [q']))).trans (hk c o (fun q' => hb (by simp [q'])) (fun q' => hb (by simp [q'])) (fun q' => hb (by simp [q'])) (fun q' => hb (by simp [q'])) q)) hf (Nat.le_refl _) new
    refine ⟨.ref s.heap.objs.size, _, I1, rfl, ⟨_, x, y, rfl, I.hok.fresh (Nat.le_refl _), rfl, fun q hq => by rw [seqB_inj I hq hqx]; exact hx, fun q hq => by rw [seqB_inj I hq hqy]; exact hy⟩, ⟨z'', ?_, ⟨x1, x2, ?_⟩, ?_, ?_⟩, fun c hcm => ?_⟩
    · exact (sb.2 _ D.TIz).trans (hk _ _ D.TIz D.TITO D.TIi1 D.TIi2 hTI)
    · exact (sb.2 _ D.TOz).trans TO'
    · exact h1'.1.at_ fun o q => (sb.2 _ (Ne.symm D.zi1)).trans q
    · exact h2'.1.at_ fun o q => (sb.2 _ (Ne.symm D.zi2)).trans q
    · have hlt : c < s.heap.objs.size := by
        have e' : c = z ∨ c = TI ∨ c = TO ∨ c = i1 ∨ c = i2 := by simpa using hcm
        rcases e' with q | q | q | q | q
        · rw [q]; exact hzl
        · rw [q]; exact Heap.lt_size hTI
        · rw [q]; exact Heap.lt_size hTO
        · rw [q]; obtain ⟨_, e1, _⟩ := h1.obj; exact Heap.lt_size e1
        · rw [q]; obtain ⟨_, e2, _⟩ := h2.obj; exact Heap.lt_size e2
      rw [upd_ne (Nat.ne_of_lt hlt)]
      exact (hf c hcm).1
  done := by
    intro X hP hw hK hc i pins s σ H E I hf st hg
    subst hP hw hK
    obtain ⟨hz, hTI, ⟨x0, y0, hTO⟩, h1, h2⟩ := st
    obtain ⟨xs, ys, hqx, hqy, hend⟩ := hg
    obtain ⟨its, rv, p, _⟩ := seqB I hqx
    obtain ⟨its2, rv2, p2, _⟩ := seqB I hqy
    have l1 := rv.length
    have l2 := rv2.length
    obtain ⟨n, P, St, Dr, a1, a2, a3, a4, a5, a6⟩ := drawAt (prog := X.prog) (w := X.w) (A := X.A.in1) (I.ok.hd hc) k i1 a (seqB_ne p h1) its.toArray i s.heap h1 p
    obtain ⟨n', P', St', Dr', b1, b2, b3, b4, b5, b6⟩ := drawAt (prog := X.prog) (w := X.w) (A := X.A.in1) (I.ok.hd hc) l i2 b (seqB_ne p2 h2) its2.toArray i s.heap h2 p2
    have he : i = n ∨ i = n' := by
      rcases hend with q | q
      · exact .inl (a2 (by simp; omega))
      · exact .inr (b2 (by simp; omega))
    exact wpAny_pyNext_zipD2_end D Dr Dr' hz hTI hTO a4 b4 a1 b1 he fun h' tk hk => ⟨rfl, I.turnedL (t' := tk) (ch := [z, TI, TO, i1, i2]) (fun c o hb q =>
      hk c o (fun q' => hb (by simp [q'])) (fun q' => hb (by simp [q'])) (fun q' => hb (by simp [q'])) (fun q' => hb (by simp [q'])) q) hf⟩
  self := fun A i s Q E st h => wpAny_pyIter_zip st.1 h
def obB (k : Bool) (a : Addr) : Obj := match k with | true => { cls := .type "tuple_iterator", data := .fields #[.ref a, .int 0 0] } | false => { cls := .type "list_iterator", data := .fields #[.ref a, .int 0 0] }
theorem beginsB (k : Bool) (a : Addr) (its : Array Value) : Begins (.ref a) (obB k a) fun h => SB k h a its := by
  cases k with
  | true => exact begins_tuple a its
  | false => exact begins_list a its
theorem itB_new {k : Bool} {h : Heap} {it a : Addr} (e : h.get? it = some (obB k a)) : ItB k h it a 0 := by
  cases k with
  | true => exact ⟨_, e, rfl, rfl⟩
  | false => exact ⟨_, e, rfl, rfl⟩
theorem SB.lt {k : Bool} {h : Heap} {a : Addr} {its : Array Value} (q : SB k h a its) : a < h.objs.size := by
  cases k with
  | true => obtain ⟨o, e, _⟩ := q; exact Heap.lt_size e
  | false => obtain ⟨o, e, _⟩ := q; exact Heap.lt_size e
def iEnB (K : PySem.W.Frag) (ta : TA) : TI := fun σ H R => ta σ H fun vs H1 => ∃ k a xs, vs = [.ref a] ∧ SqB K k H1 a xs ∧ R (IteB K k a) H1
theorem piEnB {e : Expr} {ta : TA} {p pos tpos : Pos} {elts : List Expr} {kk : Nat} (hg : Gl X "enumerate") (hm : X.mg "enumerate" = none) (ha : PA X [e] ta) (hs : starEach [e] X.env = [(false, eval e X.env)]) :
    PI X (.Tuple elts kk tpos) (.Call (.Name "enumerate" p) [e] [] pos) (iEnB X.K ta) := by
  refine ⟨fun pins s σ H R I h => ?_⟩
  refine Call_ (ld_blt I hg hm boot_enumerate (PyProof.Rows.callWith_type1 (thn (ha.run pos pins s σ H _ I h) fun us s1 ⟨vs, H1, I1, r1, q1⟩ => ?_) hs rfl))
  obtain ⟨k, a, xs, ex, hq, q⟩ := q1
  subst ex
  cases r1 with
  | cons r rr =>
    cases rr
    cases r
    obtain ⟨its, rv, p', hz⟩ := seqB I1 hq
    refine zCallEnum (beginsB k a its.toArray) p' fun h' he hit hsz hk => wpAny_pyIter_enum he ?_
    have I2 : Inv X pins σ H1 { s1 with heap := h' } := I1.kept (t' := s1.toks) hk
    refine ⟨s1.heap.objs.size + 1, [s1.heap.objs.size + 1, s1.heap.objs.size], _, _, H1, rfl, I2, enumP k a (s1.heap.objs.size + 1) s1.heap.objs.size, ⟨⟨.none, he⟩, itB_new hit, Nat.succ_ne_self _, fun z => ?_⟩, fun b hb => ?_, q⟩
    · have hl : a < s1.heap.objs.size := p'.lt
      rw [← z] at hl
      exact absurd hl (Nat.not_lt.mpr (Nat.le_succ _))
    · have e' : b = s1.heap.objs.size + 1 ∨ b = s1.heap.objs.size := by simpa using hb
      have hle : s1.heap.objs.size ≤ b := by
        rcases e' with z | z
        · rw [z]; exact Nat.le_add_right _ _
        · rw [z]; exact Nat.le_refl _
      exact I1.fpOk hle (I1.hok.fresh hle)
def iZpB (K : PySem.W.Frag) (ta : TA) : TI := fun σ H R => ta σ H fun vs H1 => ∃ k l a b xs ys, vs = [.ref a, .ref b] ∧ SqB K k H1 a xs ∧ SqB K l H1 b ys ∧ R (ItzB K k l a b) H1
theorem piZpB {e e2 : Expr} {ta : TA} {p pos tpos : Pos} {elts : List Expr} {kk : Nat} (hg : Gl X "zip") (hm : X.mg "zip" = none) (ha : PA X [e, e2] ta)
    (hs : starEach [e, e2] X.env = (false, eval e X.env) :: starEach [e2] X.env) (hpl : (backTo pos (starEach [e2] X.env)).any (·.1) = false) :
    PI X (.Tuple elts kk tpos) (.Call (.Name "zip" p) [e, e2] [] pos) (iZpB X.K ta) := by
  refine ⟨fun pins s σ H R I h => ?_⟩
  refine Call_ (ld_blt I hg hm PyProof.Rows.boot_zip (PyProof.Rows.callWith_type1 (thn (ha.run pos pins s σ H _ I h) fun us s1 ⟨vs, H1, I1, r1, q1⟩ => ?_) hs hpl))
  obtain ⟨k, l, a, b, xs, ys, ex, hqx, hqy, q⟩ := q1
  subst ex
  cases r1 with
  | cons r rr =>
    cases rr with
    | cons r' rr =>
      cases rr
      cases r
      cases r'
      obtain ⟨its, rv, p1, _⟩ := seqB I1 hqx
      obtain ⟨its2, rv2, p2, _⟩ := seqB I1 hqy
      have fresh5 : ∀ c, c ∈ [s1.heap.objs.size + 4, s1.heap.objs.size + 2, s1.heap.objs.size + 3, s1.heap.objs.size, s1.heap.objs.size + 1] → FpOk X pins H1 c := fun c hcm => by
        have e' : c = s1.heap.objs.size + 4 ∨ c = s1.heap.objs.size + 2 ∨ c = s1.heap.objs.size + 3 ∨ c = s1.heap.objs.size ∨ c = s1.heap.objs.size + 1 := by simpa using hcm
        have hle : s1.heap.objs.size ≤ c := by
          rcases e' with z | z | z | z | z
          · rw [z]; exact Nat.le_add_right _ _
          · rw [z]; exact Nat.le_add_right _ _
          · rw [z]; exact Nat.le_add_right _ _
          · rw [z]; exact Nat.le_refl _
          · rw [z]; exact Nat.le_add_right _ _
        exact I1.fpOk hle (I1.hok.fresh hle)
      refine zip_begins2 (beginsB k a its.toArray) (beginsB l b its2.toArray) p1 p2 fun h' hz hTI hTO h1 h2 hsz hk => wpAny_pyIter_zip hz ?_
      have I2 : Inv X pins σ H1 { s1 with heap := h' } := I1.kept (t' := s1.toks) hk
      exact ⟨s1.heap.objs.size + 4, [s1.heap.objs.size + 4, s1.heap.objs.size + 2, s1.heap.objs.size + 3, s1.heap.objs.size, s1.heap.objs.size + 1], _, _, H1, rfl, I2,
        zipP (zip_sep2 (N := s1.heap.objs.size) (fp1 := [a]) (fp2 := [b]) (fun c hc => by rw [List.mem_singleton.mp hc]; exact p1.lt) (fun c hc => by rw [List.mem_singleton.mp hc]; exact p2.lt)), ⟨hz, hTI, ⟨_, _, hTO⟩, itB_new h1, itB_new h2⟩, fresh5, q⟩
end
end Z

namespace Z
open PySem PySem.Spec PyProof.Rows L2
/-! ### slots -/
theorem getS_nil (i : Nat) : getS [] i = none := by cases i <;> rfl
theorem setS_len : ∀ (σ : Sg) (i : Nat) (d : D), (setS σ i d).length = σ.length
  | [], _, _ => rfl
  | _ :: _, 0, _ => rfl
  | _ :: r, i + 1, d => by simp [setS, setS_len r i d]
theorem getS_set : ∀ (σ : Sg) (i : Nat) (d : D) (j : Nat), getS (setS σ i d) j = if j = i ∧ i < σ.length then some d else getS σ j
  | [], i, d, j => by simp [setS, getS_nil]
  | x :: r, 0, d, 0 => by simp [setS, getS]
  | x :: r, 0, d, j + 1 => by simp [setS, getS]
  | x :: r, i + 1, d, 0 => by simp [setS, getS]
  | x :: r, i + 1, d, j + 1 => by simp [setS, getS, getS_set r i d j]
theorem clr_len : ∀ (σ : Sg) (i : Nat), (clr σ i).length = σ.length
  | [], _ => rfl
  | _ :: _, 0 => rfl
  | _ :: r, i + 1 => by simp [clr, clr_len r i]
theorem getS_clr : ∀ (σ : Sg) (i j : Nat), getS (clr σ i) j = if j = i then none else getS σ j
  | [], i, j => by simp [clr, getS_nil]
  | x :: r, 0, 0 => by simp [clr, getS]
  | x :: r, 0, j + 1 => by simp [clr, getS]
  | x :: r, i + 1, 0 => by simp [clr, getS]
  | x :: r, i + 1, j + 1 => by simp [clr, getS, getS_clr r i j]
theorem wipe_len (σ : Sg) : ∀ vs : List Nat, (Z.wipe σ vs).length = σ.length
  | [] => rfl
  | v :: vs => by simp [Z.wipe, clr_len, wipe_len σ vs]
theorem getS_out : ∀ (σ : Sg) (i : Nat), σ.length ≤ i → getS σ i = none
  | [], i, _ => getS_nil i
  | _ :: _, 0, h => by simp at h
  | _ :: r, i + 1, h => getS_out r i (by simpa using h)
theorem wipe_set {σ : L2.St} {i : Nat} {x : Option V} : ∀ {vs : List Nat}, i ∈ vs → L2.wipe (σ.set i x) vs = L2.wipe σ vs
  | [], h => by cases h
  | v :: vs, h => by
    unfold L2.wipe
    by_cases hv : v = i
    · subst hv
      by_cases hm : v ∈ vs
      · rw [wipe_set hm]
      · have out : ∀ {us : List Nat}, v ∉ us → L2.wipe (σ.set v x) us = (L2.wipe σ us).set v x := fun {us} hu => by
          induction us with
          | nil => rfl
          | cons u us ih =>
            unfold L2.wipe
            rw [ih fun z => hu (List.mem_cons_of_mem _ z), List.set_comm _ _ (fun e => hu (by rw [e]; exact List.mem_cons_self))]
        rw [out hm, List.set_set]
    · rcases List.mem_cons.mp h with e | h
      · exact absurd e.symm hv
      · rw [wipe_set h]
section
variable {Z : Cz} {X : Cx} {W : WX} {T : Tx} {lev : Nat} {c : Ck} {w : Wd} {H : HP} {h : Hd}
theorem Slots.set {σ : L2.St} {σD : Sg} (s : Slots Z w σ σD) {v : V} {d : D} (i : Nat) (r : VR Z.K Z.γ w v d) : Slots Z w (σ.set i (some v)) (setS σD i d) := by
  refine ⟨by rw [setS_len, List.length_set]; exact s.len, fun j e q => ?_⟩
  rw [getS_set] at q
  split at q
  · rename_i hj
    cases q
    obtain ⟨rfl, hj⟩ := hj
    exact ⟨v, List.getElem?_set_self (Nat.lt_of_lt_of_le hj s.len), r⟩
  · rename_i hj
    obtain ⟨u, e1, r1⟩ := s.at_ j e q
    by_cases hij : i = j
    · subst hij
      have hlt : ¬ i < σD.length := fun z => hj ⟨rfl, z⟩
      rw [getS_out σD i (Nat.le_of_not_lt hlt)] at q
      cases q
    · exact ⟨u, by rw [List.getElem?_set_ne hij]; exact e1, r1⟩
theorem Slots.clr {σ : L2.St} {σD : Sg} (s : Slots Z w σ σD) (i : Nat) : Slots Z w (σ.set i none) (_root_.Z.clr σD i) := by
  refine ⟨by rw [clr_len, List.length_set]; exact s.len, fun j e q => ?_⟩
  rw [getS_clr] at q
  split at q
  · cases q
  · rename_i hj
    obtain ⟨u, e1, r1⟩ := s.at_ j e q
    exact ⟨u, by rw [List.getElem?_set_ne (Ne.symm hj)]; exact e1, r1⟩
theorem Slots.wipe {σ : L2.St} {σD : Sg} (s : Slots Z w σ σD) : ∀ vs : List Nat, Slots Z w (L2.wipe σ vs) (_root_.Z.wipe σD vs)
  | [] => s
  | v :: vs => (Slots.wipe s vs).clr v
def PostG (Z : Cz) (w : Wd) (g : G) (σ : L2.St) (σD' : Sg) (P : L2.St → Prop) : Prop := ∀ σ', Slots Z w σ' σD' → (∀ vs : List Nat, (∀ i ∈ gIx g, i ∈ vs) → L2.wipe σ' vs = L2.wipe σ vs) → P σ'
def TGZ (Z : Cz) (g : G) : TG := fun v σ H Q => ∃ w σD h d σD', Sub w.H H ∧ Wf w ∧ HR Z w h ∧ Slots Z w σ σD ∧ VR Z.K Z.γ w v d ∧ setG g d σD = some σD' ∧ PostG Z w g σ σD' fun σ' => Q σ' H
def TGsZ (Z : Cz) (g : G) : TGs := fun vs σ H Q => ∃ w σD h ds σD', Sub w.H H ∧ Wf w ∧ HR Z w h ∧ Slots Z w σ σD ∧ VRs Z.K Z.γ w vs ds ∧ setG g (.tup ds) σD = some σD' ∧ PostG Z w g σ σD' fun σ' => Q σ' H
theorem _root_.L2.PG.imp {X : Cx} {e : Expr} {t t' : TG} (h : PG X e t) (i : ∀ v σ H Q, t' v σ H Q → t v σ H Q) : PG X e t' := ⟨fun pins s σ H v u Q I r q => h.run pins s σ H v u Q I r (i v σ H Q q)⟩
theorem _root_.L2.PGs.imp {X : Cx} {e : List Expr} {t t' : TGs} (h : PGs X e t) (i : ∀ v σ H Q, t' v σ H Q → t v σ H Q) : PGs X e t' := ⟨fun pins s σ H v u Q I r q => h.run pins s σ H v u Q I r (i v σ H Q q)⟩
/-- (a, b, ..) = a tuple or a list of that length -/
def gSeq (K : PySem.W.Frag) (n : Nat) (t : TGs) : TG := fun v σ H Q => ∃ a xs, v = .ref a ∧ (SqT K H a xs ∨ SqL K H a xs) ∧ xs.length = n ∧ t xs σ H Q
theorem pg_seq {es : List Expr} {k : Nat} {t : TGs} {n : Nat} {pos : Pos} (hc : X.calm = true) (h : PGs X es t) (hn : (assignEach es X.env).length = n) (hst : (assignEach es X.env).findIdx? (·.1) = none) : PG X (.Tuple es k pos) (gSeq X.K n t) := by
  refine ⟨fun pins s σ H v u Q I r hw => ?_⟩
  obtain ⟨a, xs, e1, hq | hq, hl, hw⟩ := hw
  · exact (pg_tup hc h hn hst).run pins s σ H v u Q I r ⟨a, xs, e1, hq, hl, hw⟩
  · exact (pg_lst hc h hn hst).run pins s σ H v u Q I r ⟨a, xs, e1, hq, hl, hw⟩
theorem asg_star {x : Expr} {xs : List Expr} {env : Env} (h : star0 x = true) : assignEach (x :: xs) env = (false, assign x env) :: assignEach xs env := by
  cases x <;> first | rfl | cases h
theorem asg_all {sc : Scope} {env : Env} : ∀ (g : G) (xs : List Expr), (mg c sc g).l xs = true → (assignEach xs env).length = xs.length ∧ (assignEach xs env).findIdx? (·.1) = none
  | .nil, xs, h => by
    cases xs with
    | nil => exact ⟨rfl, rfl⟩
    | cons => cases h
  | .cons g gs, xs, h => by
    cases xs with
    | nil => cases h
    | cons x r =>
      have h : (star0 x && (mg c sc g).e x && (mg c sc gs).l r) = true := h
      simp only [Bool.and_eq_true] at h
      obtain ⟨a, b⟩ := asg_all (env := env) gs r h.2
      rw [asg_star h.1.1]
      refine ⟨by simp [a], ?_⟩
      rw [List.findIdx?_cons, b]
      rfl
  | .nm _, _, h => by cases h
  | .tp _, _, h => by cases h
theorem setG_len {sc : Scope} : ∀ (g : G) (xs : List Expr) (ds : List D) (σ σ' : Sg), (mg c sc g).l xs = true → setG g (.tup ds) σ = some σ' → ds.length = xs.length
  | .nil, xs, ds, σ, σ', h, e => by
    cases xs with
    | nil =>
      cases ds with
      | nil => rfl
      | cons => cases e
    | cons => cases h
  | .cons g gs, xs, ds, σ, σ', h, e => by
    cases xs with
    | nil => cases h
    | cons x r =>
      have h : (star0 x && (mg c sc g).e x && (mg c sc gs).l r) = true := h
      simp only [Bool.and_eq_true] at h
      cases ds with
      | nil => cases e
      | cons d ds =>
        simp only [setG] at e
        cases q : setG g d σ with
        | none => simp only [q] at e; cases e
        | some σ1 =>
          simp only [q] at e
          simp [setG_len gs r ds σ1 σ' h.2 e]
  | .nm _, _, _, _, _, h, _ => by cases h
  | .tp _, _, _, _, _, h, _ => by cases h
/-- what the scope sc calls local may be stored -/
def Stor (X : Cx) (sc : Scope) : Prop := ∀ x, loc sc x = true → Loc X.env.scope x ∧ (X.fn x = true ∨ X.env.scope.names.lookup x = some .local)
theorem loc_ok {sc : Scope} {x : Str} (hs : X.env.scope = sc) (h : loc sc x = true) : Loc X.env.scope x := by
  rw [hs]
  unfold loc at h
  split at h
  · exact .inl (by assumption)
  · exact .inr (by assumption)
  · cases h
theorem pgz {sc : Scope} (C : Cv Z c T lev X) (S : Stor X sc) : ∀ g : G, (∀ x, (mg c sc g).e x = true → PG X x (TGZ Z g)) ∧ ∀ xs, (mg c sc g).l xs = true → PGs X xs (TGsZ Z g)
  | .nm i => by
    refine ⟨fun x hx => ?_, fun xs hx => by cases hx⟩
    simp only [mg] at hx
    split at hx
    · rename_i id pos
      simp only [Bool.and_eq_true, decide_eq_true_eq] at hx
      obtain ⟨hl, hf⟩ := S id hx.2
      refine (pg_name C.nd (by rw [C.hN]; exact hx.1) hl hf).imp fun v σ H Q ⟨w, σD, h, d, σD', sb, wf, hr, sl, r, e, p⟩ => ?_
      cases e
      exact p _ (sl.set i r) fun vs hv => wipe_set (hv i List.mem_cons_self)
    · cases hx
  | .tp g => by
    obtain ⟨_, ih⟩ := pgz C S g
    refine ⟨fun x hx => ?_, fun xs hx => by cases hx⟩
    simp only [mg] at hx
    split at hx
    · rename_i xs k pos
      obtain ⟨a, b⟩ := asg_all (env := X.env) g xs hx
      refine (pg_seq C.calm (ih xs hx) a b).imp fun v σ H Q ⟨w, σD, h, d, σD', sb, wf, hr, sl, r, e, p⟩ => ?_
      cases d with
      | tup ds =>
        have e : setG g (.tup ds) σD = some σD' := e
        cases r with
        | @tup a vs _ e1 z r1 =>
          exact ⟨a, vs, rfl, .inl (by rw [C.hK]; exact sb.sqT e1), by rw [r1.length]; exact setG_len g xs ds σD σD' hx e, w, σD, h, ds, σD', sb, wf, hr, sl, r1, e, p⟩
      | lst ds =>
        have e : setG g (.tup ds) σD = some σD' := e
        cases r with
        | @lst a vs _ e1 _ z r1 =>
          exact ⟨a, vs, rfl, .inr (SqL.of (sb _ _ e1)), by rw [r1.length]; exact setG_len g xs ds σD σD' hx e, w, σD, h, ds, σD', sb, wf, hr, sl, r1, e, p⟩
      | _ => cases e
    · cases hx
  | .nil => by
    refine ⟨(fun x hx => by cases hx), fun xs hx => ?_⟩
    cases xs with
    | nil =>
      refine pgs_nil.imp fun v σ H Q ⟨w, σD, h, ds, σD', sb, wf, hr, sl, r, e, p⟩ => ?_
      cases ds with
      | nil =>
        cases e
        cases r
        exact ⟨rfl, p σ sl fun _ _ => rfl⟩
      | cons => cases e
    | cons => cases hx
  | .cons g gs => by
    obtain ⟨i1, _⟩ := pgz C S g
    obtain ⟨_, i2⟩ := pgz C S gs
    refine ⟨(fun x hx => by cases hx), fun xs hx => ?_⟩
    cases xs with
    | nil => cases hx
    | cons x r =>
      have hx : (star0 x && (mg c sc g).e x && (mg c sc gs).l r) = true := hx
      simp only [Bool.and_eq_true] at hx
      refine (pgs_cons (i1 x hx.1.2) (i2 r hx.2) (by rw [asg_star hx.1.1]; rfl)).imp fun vs σ H Q ⟨w, σD, h, ds, σD', sb, wf, hr, sl, rr, e, p⟩ => ?_
      cases ds with
      | nil => cases e
      | cons d ds =>
        simp only [setG] at e
        cases q : setG g d σD with
        | none => simp only [q] at e; cases e
        | some σ1 =>
          simp only [q] at e
          cases rr with
          | cons r1 r2 =>
            refine ⟨_, _, rfl, w, σD, h, d, σ1, sb, wf, hr, sl, r1, q, fun σ' sl' k1 => ?_⟩
            refine ⟨w, σ1, h, ds, σD', sb, wf, hr, sl', r2, e, fun σ'' sl'' k2 => p σ'' sl'' fun vs hv => ?_⟩
            rw [k2 vs fun i hi => hv i (List.mem_append_right _ hi), k1 vs fun i hi => hv i (List.mem_append_left _ hi)]
end
end Z

namespace Z
open PySem PySem.Spec PyProof.Rows L2
theorem wipe_sub {σ : L2.St} {vs : List Nat} : ∀ us : List Nat, (∀ i ∈ us, i ∈ vs) → L2.wipe (L2.wipe σ us) vs = L2.wipe σ vs
  | [], _ => rfl
  | u :: us, h => by
    show L2.wipe ((L2.wipe σ us).set u none) vs = _
    rw [wipe_set (h u List.mem_cons_self), wipe_sub us fun i hi => h i (List.mem_cons_of_mem _ hi)]
abbrev W0 : WX := fun _ _ _ _ => False
section
variable {Z : Cz} {X : Cx} {W : WX} {T : Tx} {lev : Nat} {c : Ck} {w w' : Wd} {H H' : HP} {h : Hd}
theorem Cv.blk (C : Cv Z c T lev X) (s : Shared) (H : HP) (scope : Scope) (env : Env) (fp : List Addr) : Cv Z c T lev (X.blk s H scope env fp) :=
  ⟨C.hK, C.hN, C.nd, C.calm, C.room, C.fnm, C.glb, fun f id h1 h2 => ⟨⟨(C.fn f id h1 h2).1.ex⟩, (C.fn f id h1 h2).2⟩, C.blt, C.gcd, C.more⟩
theorem takes0 (s : Shared) (H : HP) (scope : Scope) (env : Env) (fp : List Addr) : Takes (X.blk s H scope env fp) W0 := fun u s' ⟨_, _, _, _, _, _, _, _, _, _, _, _, _, _, _, _, w⟩ => w.elim
theorem relS_env {sc scope : Scope} {cl : List (Str × Addr)} {C : Addr} (hs : X.env.scope = sc) : (compEnvC scope cl C X.env).scope = relS scope sc := by
  subst hs; rfl
theorem stor_blk {sc : Scope} (s : Shared) (H : HP) (scope : Scope) (cl : List (Str × Addr)) (C : Addr) (fp : List Addr) : Stor (X.blk s H scope (compEnvC scope cl C X.env) fp) scope := fun x hx => by
  have key : ∀ k, k ≠ NameKind.free → scope.names.lookup x = some k → (X.blk s H scope (compEnvC scope cl C X.env) fp).env.scope.names.lookup x = some k := fun k hk e => lookup_relS_keep hk e
  unfold loc at hx
  split at hx
  · rename_i e
    have e' := key NameKind.local (by intro z; cases z) e
    exact ⟨.inl e', .inr e'⟩
  · rename_i e
    refine ⟨.inr (key NameKind.cell (by intro z; cases z) e), .inl ?_⟩
    show (scope.names.lookup x == some .cell) = true
    rw [e]; rfl
  · cases hx
theorem set_pure {x : Expr} {env : Env} (h : notSet x = true) : ∀ v, foldedSetIterable x env v = pure v := fun v => by
  cases x <;> first | rfl | cases h
theorem big_le : big ≤ sizeLine := by rw [sizeLine_eq]; decide
theorem comp_run {own : List Nat} {elt cnd it : E} {g : G} {tt : TT} {σ : L2.St} {Q : VK}
    (hg : ∀ i ∈ gIx g, i ∈ own)
    (htt : ∀ σ H Q, (∃ w σD h k, Good Z w H σ σD h ∧ ev T cnd σD h never k = true ∧ ∀ w' H' d h' v, Nx w H w' H' → Wf w' → HR Z w' h' → VR Z.K Z.γ w' v d → k d h' = true → ∃ b, truth h' d = some b ∧ Q b H') → tt σ H Q)
    (p : TLZ Z W (ev T (.comp own elt g it cnd)) σ H Q) : tLc (TIZ Z W (curI it) (ev T it)) (TGZ Z g) tt (TZ Z W0 (ev T elt)) own σ H Q := by
  obtain ⟨w, σD, h, kx, k, gd, e, pv, px⟩ := p
  simp only [ev] at e
  refine ⟨w, σD, h, kx, _, gd, e, fun w1 H1 d h1 cu J Rl n1 wf1 hr1 ec CO R0 e1 => ?_, fun w1 H1 d h1 n1 wf1 hr1 e1 => ?_, px⟩
  · intro D hD
    rw [ec] at e1
    dsimp only at e1
    have hwD : w1.H D = none := sub_none n1.sub hD
    refine ⟨fun i m Hc => m + i = big ∧ ∃ w' h' cu' acc ds, Hc D = some (.lst acc) ∧ Nx w1 H1 w' (del Hc D) ∧ Wf w' ∧ HR Z w' h' ∧ Rl i cu' w' ∧ VRs Z.K Z.γ w' acc ds ∧ ds.length ≤ i ∧
      comp (fun y h2 kk => match setG g y (_root_.Z.wipe σD own) with
      | some σ1 => ev T cnd σ1 h2 never fun b h3 => match truth h3 b with
        | some true => ev T elt σ1 h3 never fun z h4 => kk (some z) h4
        | some false => kk none h3
        | none => false
      | none => false) m cu' h' (fun r h2 => k (.lst (ds ++ r)) h2) = true, ⟨big, by simp, w1, h1, cu, [], [], upd_same, ?_, wf1, hr1, R0, .nil, Nat.le_refl _, ?_⟩, ?_⟩
    · refine ⟨.refl _, fun b o eb => ?_, fun b o eb hn => ?_, fun b hn hb => absurd hn hb⟩
      · have hb : b ≠ D := fun z => by rw [z, hwD] at eb; cases eb
        rw [del_ne hb, upd_ne hb]; exact n1.sub b o eb
      · have hb : b ≠ D := fun z => by rw [z, hD] at eb; cases eb
        rw [del_ne hb, upd_ne hb]; exact eb
    · exact e1
    · rintro i m Hc ⟨hm, w', h', cu', acc, ds, hDc, n2, wf2, hr2, R2, rs, hl, e2⟩
      have hw'D : w'.H D = none := by
        cases q : w'.H D with
        | none => rfl
        | some u =>
          have z := n2.sub D u q
          rw [del_same] at z; cases z
      have sb : Sub w'.H Hc := fun b o eb => by
        have z := n2.sub b o eb
        have hb : b ≠ D := fun q => by rw [q, del_same] at z; cases z
        rw [del_ne hb] at z; exact z
      cases m with
      | zero => cases e2
      | succ m =>
        have hbig : big = 1000000 := rfl
        have hsz := big_le
        simp only [comp] at e2
        cases q : step h' cu' with
        | none => simp only [q] at e2; cases e2
        | some st =>
          cases st with
          | none =>
            simp only [q] at e2
            left
            refine ⟨CO.stop i cu' w' Hc h' R2 sb wf2 hr2 q, ?_⟩
            exact pv w' Hc h' (ds ++ []) acc D (n1.trans n2) wf2 hr2 (by simpa using rs) (by simp; omega) hDc hw'D e2
          | some xc =>
            obtain ⟨x, cu''⟩ := xc
            simp only [q] at e2
            right
            obtain ⟨go, yl⟩ := CO.go i cu' w' Hc h' x cu'' R2 sb wf2 hr2 q
            refine ⟨go, fun Hn => ∃ (w4 : Wd) (h4 : Hd) (acc4 : List V) (ds4 : List _), Hn D = some (.lst acc4) ∧ Nx w1 H1 w4 (del Hn D) ∧ Wf w4 ∧ HR Z w4 h4 ∧ Rl (i + 1) cu'' w4 ∧ VRs Z.K Z.γ w4 acc4 ds4 ∧ ds4.length ≤ i + 1 ∧
              comp (fun y h2 kk => match setG g y (_root_.Z.wipe σD own) with
              | some σ1 => ev T cnd σ1 h2 never fun b h3 => match truth h3 b with
                | some true => ev T elt σ1 h3 never fun z h4 => kk (some z) h4
                | some false => kk none h3
                | none => false
              | none => false) m cu'' h4 (fun r h2 => k (.lst (ds4 ++ r)) h2) = true, fun Hn ⟨w4, h4, acc4, ds4, a1, a2, a3, a4, a5, a6, a7, a8⟩ => ⟨m, Nat.lt_succ_self m, by omega, w4, h4, cu'', acc4, ds4, a1, a2, a3, a4, a5, a6, a7, a8⟩, fun v Hy y => ?_⟩
            obtain ⟨w2, n3, wf3, hr3, rx, R3⟩ := yl v Hy y
            cases q1 : setG g x (_root_.Z.wipe σD own) with
            | none => simp only [q1] at e2; cases e2
            | some σ1 =>
              simp only [q1] at e2
              have hDy : Hy D = some (.lst acc) := n3.frame D _ hDc hw'D
              have n2y : Nx w1 H1 w2 (del Hy D) := n2.trans (n3.del hDc hw'D)
              have sl : Slots Z w2 (L2.wipe σ own) (_root_.Z.wipe σD own) := ((gd.sl.mono n1.le gd.wf).mono n2y.le wf1).wipe own
              refine ⟨w2, _, h', x, σ1, n3.sub, wf3, hr3, sl, rx, q1, fun σ2 sl2 kw => ⟨by rw [kw own hg]; exact wipe_sub own fun _ hi => hi, ?_⟩⟩
              refine htt σ2 Hy _ ⟨w2, σ1, h', _, ⟨n3.sub, wf3, hr3, sl2⟩, e2, fun w5 H5 b h5 vb n5 wf5 hr5 rb e5 => ?_⟩
              have hw2D : w2.H D = none := by
                cases z : w2.H D with
                | none => rfl
                | some u =>
                  have z' := n3.fresh D hw'D (by rw [z]; simp)
                  rw [hDc] at z'; cases z'
              have n25 : Nx w1 H1 w5 (del H5 D) := n2y.trans (n5.del hDy hw2D)
              have hD5 : H5 D = some (.lst acc) := n5.frame D _ hDy hw2D
              cases q2 : truth h5 b with
              | none => simp only [q2] at e5; cases e5
              | some bb =>
                simp only [q2] at e5
                refine ⟨bb, rfl, ?_⟩
                cases bb with
                | false =>
                  simp only [Bool.false_eq_true, if_false]
                  exact ⟨w5, h5, acc, ds, hD5, n25, wf5, hr5, CO.mono _ _ _ _ R3 n5.le wf3, (rs.mono n3.le wf2).mono n5.le wf3, by omega, e5⟩
                | true =>
                  simp only [if_true]
                  refine ⟨w5, σ1, h5, never, _, ⟨n5.sub, wf5, hr5, sl2.mono n5.le wf3⟩, e5, fun w6 H6 z h6 vz n6 wf6 hr6 rz e6 => ?_, PostX.none⟩
                  have hw5D : w5.H D = none := by
                    cases z : w5.H D with
                    | none => rfl
                    | some u =>
                      have z' := n5.fresh D hw2D (by rw [z]; simp)
                      rw [hDy] at z'; cases z'
                  have hD6 : H6 D = some (.lst acc) := n6.frame D _ hD5 hw5D
                  refine ⟨acc, hD6, by rw [rs.length]; omega, w6, h6, acc ++ [vz], ds ++ [z], upd_same, by rw [del_upd]; exact n25.trans (n6.del hD5 hw5D), wf6, hr6, CO.mono _ _ _ _ (CO.mono _ _ _ _ R3 n5.le wf3) n6.le wf5,
                    (((rs.mono n3.le wf2).mono n5.le wf3).mono n6.le wf5).append (.cons rz .nil), by simp; omega, ?_⟩
                  simpa using e6
  · split at e1
    · rename_i cu q
      rw [q]; rfl
    · cases e1
end
end Z

namespace Z
open PySem PySem.Spec PyProof.Rows L2
section
variable {Z : Cz} {X : Cx} {W : WX} {T : Tx} {lev : Nat} {c : Ck} {w w' : Wd} {H H' : HP} {h : Hd}
def Late (X : Cx) (x : Expr) : Prop := ∀ whole, isTrue x X.env whole = (do let v ← whole; standAt x.pos; holding [v] (truthy v))
structure SM (Z : Cz) (X : Cx) (W : WX) (T : Tx) (c : Ck) (sc : Scope) (e : E) : Prop where
  s : SN Z X W (ev T e) (mm c e sc)
  i : ∀ tg x, (mm c e sc).i tg x = true → PI X tg x (TIZ Z W (curI e) (ev T e))
  l : isAl e = true → ∀ x, (mm c e sc).e x = true → PE X x (TLZ Z W (ev T e)) ∧ Late X x
def plainI : E → Bool
  | .enum _ => false
  | .zip _ _ => false
  | _ => true
theorem curI_plain {e : E} (p : plainI e = true) : ∀ h d cu, curI e h d = some cu → ∃ c0, cu = .b c0 ∧ cuOf h d = some c0 := fun h d cu q => by
  have main : (match cuOf h d with | some c => some (Cur.b c) | none => none) = some cu → ∃ c0, cu = .b c0 ∧ cuOf h d = some c0 := fun q => by
    split at q
    · rename_i c0 e0; cases q; exact ⟨c0, rfl, e0⟩
    · cases q
  cases e <;> first | exact main q | cases p
theorem SM.of {sc : Scope} {e : E} (C : Cv Z c T lev X) (s : SN Z X W (ev T e) (mm c e sc)) (p : plainI e = true) (hi : ∀ tg x, (mm c e sc).i tg x = true → (mm c e sc).e x = true) (al : isAl e = false) : SM Z X W T c sc e :=
  ⟨s, fun tg x q => pi_plain (curI_plain p) C.hK (s.e x (hi tg x q)).e, fun z => by rw [al] at z; cases z⟩
/-- from the fresh list -/
theorem SM.al {sc : Scope} {e : E} {m : Expr → Bool} (C : Cv Z c T lev X) (hm : mm c e sc = one m) (p : plainI e = true) (hl : ∀ x, m x = true → PE X x (TLZ Z W (ev T e)) ∧ Late X x) : SM Z X W T c sc e := by
  have s : SN Z X W (ev T e) (mm c e sc) := by
    rw [hm]
    exact .one fun x hx => .of C.hK ((hl x hx).1.imp fun σ H Q ⟨w, σD, h, kx, k, g, e, p, px⟩ => ⟨w, σD, h, kx, k, g, e, p.froz, px⟩) (hl x hx).2
  refine ⟨s, fun tg x q => pi_plain (curI_plain p) C.hK (s.e x ?_).e, fun _ x q => hl x ?_⟩
  · rw [hm] at q ⊢; exact q
  · rw [hm] at q; exact q
theorem s_lst' {a : E} {sc : Scope} (ia : SN Z X W (ev T a) (mm c a sc)) (C : Cv Z c T lev X) : SM Z X W T c sc (.lst a) := .al C rfl rfl fun x hx => by
  split at hx
  · simp only [Bool.and_eq_true] at hx
    have hl := Nat.le_of_ble_eq_true hx.2
    refine ⟨(pe_lst (ia.l _ hx.1)).imp fun σ H Q ⟨w, σD, h, kx, k, g, e, p, px⟩ => ?_, fun _ => rfl⟩
    simp only [ev] at e
    refine ⟨w, σD, h, kx, _, g, e, fun w1 H1 ds h1 vs n1 wf1 hr1 r1 l1 e1 => ?_, px⟩
    have z : ds.length ≤ sizeLine := by rw [sizeLine_eq]; omega
    refine ⟨r1.few z, fun a ha => p w1 _ h1 ds vs a (by rw [del_of ha]; exact n1) wf1 hr1 r1 z upd_same (sub_none n1.sub ha) e1⟩
  · cases hx
/-- a comprehension's parts -/
structure CP (X : Cx) (x : Expr) (t : TE) : Prop where
  ex : ∃ y tg iter ifs scope pos own wi gg tt te, x = .ListComp y [⟨tg, iter, ifs, 0⟩] scope pos ∧ PI X tg iter wi ∧ BlkOk X.N X.env.scope scope own ∧
    (∀ (s : Shared) (H : HP) (D : Addr) (cl : List (Str × Addr)) (fp : List Addr), PG (X.blk s H scope (compEnvC scope cl D X.env) fp) tg gg) ∧
    (∀ (s : Shared) (H : HP) (D : Addr) (cl : List (Str × Addr)) (fp : List Addr), PTs (X.blk s H scope (compEnvC scope cl D X.env) fp) ifs tt) ∧
    (∀ (s : Shared) (H : HP) (D : Addr) (cl : List (Str × Addr)) (fp : List Addr), PE (X.blk s H scope (compEnvC scope cl D X.env) fp) y te) ∧
    (∀ v, foldedSetIterable iter X.env v = pure v) ∧ ∀ σ H Q, t σ H Q → tLc wi gg tt te (own.map (·.2)) σ H Q
theorem CP.imp {x : Expr} {t t' : TE} (h : CP X x t) (i : ∀ σ H Q, t' σ H Q → t σ H Q) : CP X x t' := by
  obtain ⟨y, tg, iter, ifs, scope, pos, own, wi, gg, tt, te, e, a1, a2, a3, a4, a5, a6, a7⟩ := h.ex
  exact ⟨y, tg, iter, ifs, scope, pos, own, wi, gg, tt, te, e, a1, a2, a3, a4, a5, a6, fun σ H Q q => a7 σ H Q (i σ H Q q)⟩
theorem CP.pe {x : Expr} {t : TE} (h : CP X x t) (hc : X.calm = true) (hN : X.N.Nodup) : PE X x t := by
  obtain ⟨y, tg, iter, ifs, scope, pos, own, wi, gg, tt, te, e, a1, a2, a3, a4, a5, a6, a7⟩ := h.ex
  subst e
  exact (pe_lc hc hN a1 a2 a3 a4 a5 a6).imp a7
theorem cp_comp {own : List Nat} {elt cnd it : E} {g : G} {sc : Scope} (C : Cv Z c T lev X) (hs : X.env.scope = sc) (ii : SM Z X W T c sc it)
    (ie : ∀ X' W' sc', Cv Z c T lev X' → X'.env.scope = sc' → Takes X' W' → SM Z X' W' T c sc' elt) (ic : ∀ X' W' sc', Cv Z c T lev X' → X'.env.scope = sc' → Takes X' W' → SM Z X' W' T c sc' cnd)
    (x : Expr) (hx : (mm c (.comp own elt g it cnd) sc).e x = true) : CP X x (TLZ Z W (ev T (.comp own elt g it cnd))) ∧ Late X x := by
  simp only [mm, one] at hx
  split at hx
  · rename_i y tg iter ifs scope pos
    simp only [Bool.and_eq_true, decide_eq_true_eq, List.all_eq_true] at hx
    obtain ⟨⟨⟨⟨⟨⟨⟨h1, h2⟩, h3⟩, h4⟩, h5⟩, h6⟩, h7⟩, h8⟩ := hx
    have ok : BlkOk X.N X.env.scope scope (ownS c own) := by rw [C.hN, hs]; exact blkOk_by h2
    have hg : ∀ (s : Shared) (H : HP) (D : Addr) (cl : List (Str × Addr)) (fp : List Addr), PG (X.blk s H scope (compEnvC scope cl D X.env) fp) tg (TGZ Z g) := fun s H D cl fp =>
      (pgz (C.blk s H scope _ fp) (stor_blk (sc := sc) s H scope cl D fp) g).1 tg h3
    have he : ∀ (s : Shared) (H : HP) (D : Addr) (cl : List (Str × Addr)) (fp : List Addr), PE (X.blk s H scope (compEnvC scope cl D X.env) fp) y (TZ Z W0 (ev T elt)) := fun s H D cl fp =>
      ((ie _ W0 (relS scope sc) (C.blk s H scope _ fp) (relS_env hs) (takes0 _ _ _ _ _)).s.e y h7).e
    refine ⟨?_, fun _ => rfl⟩
    have fin : ∀ tt, (∀ (s : Shared) (H : HP) (D : Addr) (cl : List (Str × Addr)) (fp : List Addr), PTs (X.blk s H scope (compEnvC scope cl D X.env) fp) ifs tt) →
        (∀ σ H Q, (∃ w σD h k, Good Z w H σ σD h ∧ ev T cnd σD h never k = true ∧ ∀ w' H' d h' v, Nx w H w' H' → Wf w' → HR Z w' h' → VR Z.K Z.γ w' v d → k d h' = true → ∃ b, truth h' d = some b ∧ Q b H') → tt σ H Q) →
        CP X (.ListComp y [⟨tg, iter, ifs, 0⟩] scope pos) (TLZ Z W (ev T (.comp own elt g it cnd))) := fun tt ht htt =>
      ⟨y, tg, iter, ifs, scope, pos, ownS c own, _, _, tt, _, rfl, ii.i tg iter h6, ok, hg, ht, he, set_pure h5, fun σ H Q q => by
        rw [h1]
        exact comp_run (fun i hi => h4 i hi) htt q⟩
    cases ifs with
    | nil =>
      refine fin tYes (fun _ _ _ _ _ => pts_nil) fun σ H Q ⟨w, σD, h, k, gd, e, p⟩ => ?_
      cases cnd with
      | bl b =>
        cases b with
        | false => cases h8
        | true =>
          obtain ⟨b, e1, q⟩ := p w H _ h _ (.refl gd.sub) gd.wf gd.hr (.bl true) e
          cases e1
          exact q
      | _ => cases h8
    | cons t r =>
      cases r with
      | cons => cases h8
      | nil =>
        simp only [Bool.and_eq_true] at h8
        exact fin (TTZ Z W0 (ev T cnd)) (fun s H D cl fp => pts_one ((ic _ W0 (relS scope sc) (C.blk s H scope _ fp) (relS_env hs) (takes0 _ _ _ _ _)).s.e t h8.2).t) fun σ H Q ⟨w, σD, h, k, gd, e, p⟩ => ⟨w, σD, h, never, k, gd, e, p, PostX.none⟩
  · cases hx
theorem s_comp {own : List Nat} {elt cnd it : E} {g : G} {sc : Scope} (C : Cv Z c T lev X) (hs : X.env.scope = sc) (ii : SM Z X W T c sc it)
    (ie : ∀ X' W' sc', Cv Z c T lev X' → X'.env.scope = sc' → Takes X' W' → SM Z X' W' T c sc' elt) (ic : ∀ X' W' sc', Cv Z c T lev X' → X'.env.scope = sc' → Takes X' W' → SM Z X' W' T c sc' cnd) :
    SM Z X W T c sc (.comp own elt g it cnd) := .al C rfl rfl fun x hx =>
  have q := cp_comp C hs ii ie ic x hx
  ⟨q.1.pe C.calm C.nd, q.2⟩
theorem s_blist {a : E} {sc : Scope} (C : Cv Z c T lev X) (hs : X.env.scope = sc) (ia : SN Z X W (ev T a) (mm c a sc)) : SM Z X W T c sc (.bcall .list a) := .al C rfl rfl fun x hx => by
  split at hx
  · rename_i id p1 v r pos
    simp only [Bool.and_eq_true, decide_eq_true_eq] at hx
    obtain ⟨⟨h1, h2⟩, h3⟩ := hx
    obtain ⟨hg, hd⟩ := glo_ok hs h2
    have st := no_star a sc _ h3
    have he : starEach (v :: r) X.env = (false, eval v X.env) :: starEach r X.env := star_of (st v List.mem_cons_self)
    have hpl : (backTo pos (starEach r X.env)).any (·.1) = false := by
      have q := plain_args (pos := pos) (env := X.env) (no_star a sc) h3
      rw [he] at q
      exact q
    subst h1
    have hA := ia.l _ h3
    refine ⟨(pe_callTy call_list_of hg (C.blt .list (fun z => nomatch z)) bt_list hA (by decide) hd he hpl).imp fun σ H Q ⟨w, σD, h, kx, k, g, e, p, px⟩ => ?_, fun _ => rfl⟩
    simp only [ev] at e
    refine ⟨w, σD, h, kx, _, g, e, fun w1 H1 ds h1 vs n1 wf1 hr1 r1 l1 e1 => ?_, px⟩
    cases q : biD h1 .list ds with
    | none => simp only [q] at e1; cases e1
    | some z =>
      simp only [q] at e1
      simp only [biD] at q
      split at q
      · obtain ⟨x, rfl, rx⟩ := vrs1 r1
        obtain ⟨ys, e2, e3⟩ := Option.map_eq_some_iff.mp q
        obtain ⟨a, vs, rfl, e4, e5, e6⟩ := items_ok hr1 rx e2
        cases e3
        exact ⟨a, vs, rfl, SqX C.hK n1.sub e4, fun l hl => p w1 _ h1 ys vs l (by rw [del_of hl]; exact n1) wf1 hr1 e5 e6 upd_same (sub_none n1.sub hl) e1⟩
      · cases q
  · cases hx
theorem s_allo {a : E} {sc : Scope} (C : Cv Z c T lev X) (ia : SM Z X W T c sc a) : SN Z X W (ev T (.allo a)) (mm c (.allo a) sc) := .one fun x hx => by
  simp only [Bool.and_eq_true] at hx
  obtain ⟨h1, h2⟩ := ia.l hx.1 x hx.2
  refine .of C.hK (h1.imp fun σ H Q ⟨w, σD, h, kx, k, g, e, p, px⟩ => ?_) h2
  simp only [ev] at e
  exact ⟨w, σD, h, kx, allo k, g, e, p.allo, px⟩
end
end Z

namespace Z
open PySem PySem.Spec PyProof.Rows L2
section
variable {Z : Cz} {X : Cx} {W : WX} {T : Tx} {lev : Nat} {c : Ck} {w w' : Wd} {H H' : HP} {h : Hd}
theorem base_ok {o : Expr} {name : Str} {env : Env} {whole : Sem Value} (h : okBase o = true) : attributeBase o name env whole = whole := by
  cases o <;> first | rfl | cases h
theorem SM.no {sc : Scope} {e : E} {f : Expr → Expr → Bool} (hm : mm c e sc = only f) (hi : ∀ tg x, f tg x = true → PI X tg x (TIZ Z W (curI e) (ev T e))) (al : isAl e = false) : SM Z X W T c sc e := by
  refine ⟨?_, fun tg x q => hi tg x (by rw [hm] at q; exact q), fun z => by rw [al] at z; cases z⟩
  rw [hm]
  exact ⟨(fun x q => nomatch q), (fun x p q => nomatch q), (fun x p q => nomatch q), (fun x q => nomatch q)⟩
/-! ### ranges -/
theorem s_rng1 {a : E} {sc : Scope} (C : Cv Z c T lev X) (hs : X.env.scope = sc) (ia : SN Z X W (ev T a) (mm c a sc)) : SM Z X W T c sc (.rng1 a) := .no rfl (fun tg x hx => by
  split at hx
  · rename_i id p v pos
    simp only [Bool.and_eq_true, decide_eq_true_eq] at hx
    obtain ⟨⟨⟨h1, h2⟩, h3⟩, h4⟩ := hx
    subst h1
    obtain ⟨hg, hd⟩ := glo_ok hs h2
    have hA : PA X [v] (TAZ Z W (ev T (.cons a .nil)) 1) := (s_cons ia s_nil).l [v] (by show (star0 v && (mm c a sc).e v && true) = true; rw [h3, h4]; rfl)
    refine (pi_range1 hg (C.more "range" (by decide)) hA (star_of h3)).imp fun σ H R ⟨w, σD, h, kx, k, g, e, p, p2, px⟩ => ?_
    refine ⟨w, σD, h, kx, fun r h1 => match r with | .tup [.int j] => (if -(2 ^ 62) ≤ j ∧ j < 2 ^ 62 then k (.lst (rng 0 1 j.toNat)) h1 else false) | _ => false, g, ?_, fun w1 H1 ds h1 vs n1 wf1 hr1 r1 l1 e1 => ?_, px⟩
    · simp only [ev] at e ⊢
      refine Eq.trans (congrArg (ev T a σD h kx) ?_) e
      funext d h1
      cases d <;> rfl
    · dsimp only at e1
      split at e1
      · rename_i j hj
        split at e1
        · rename_i hb
          injection hj with hj
          subst hj
          obtain ⟨x, rfl, rx⟩ := vrs1 r1
          cases rx
          have hsome := p2 w1 H1 _ h1 n1 wf1 hr1 e1
          exact ⟨j, rfl, hb.1, hb.2, p w1 H1 _ h1 _ _ _ n1 wf1 hr1 rfl cur_rng ⟨rfl, Nat.zero_le _⟩ e1⟩
        · cases e1
      · cases e1
  · cases hx) rfl
theorem s_rng2 {a b : E} {sc : Scope} (C : Cv Z c T lev X) (hs : X.env.scope = sc) (ia : SN Z X W (ev T a) (mm c a sc)) (ib : SN Z X W (ev T b) (mm c b sc)) : SM Z X W T c sc (.rng2 a b) := .no rfl (fun tg x hx => by
  split at hx
  · rename_i id p v u pos
    simp only [Bool.and_eq_true, decide_eq_true_eq] at hx
    obtain ⟨⟨⟨⟨⟨h1, h2⟩, h3⟩, h3'⟩, h4⟩, h5⟩ := hx
    subst h1
    obtain ⟨hg, hd⟩ := glo_ok hs h2
    have hA : PA X [v, u] (TAZ Z W (ev T (.cons a (.cons b .nil))) 2) := (s_cons ia (s_cons ib s_nil)).l [v, u] (by show (star0 v && (mm c a sc).e v && (star0 u && (mm c b sc).e u && true)) = true; rw [h3, h4, h3', h5]; rfl)
    refine (pi_range2 hg (C.more "range" (by decide)) hA (by rw [star_of h3, star_of h3']; rfl) (star_of h3')).imp fun σ H R ⟨w, σD, h, kx, k, g, e, p, p2, px⟩ => ?_
    refine ⟨w, σD, h, kx, fun r h1 => match r with | .tup [.int i, .int j] => (if -(2 ^ 62) ≤ i ∧ i < 2 ^ 62 ∧ -(2 ^ 62) ≤ j ∧ j < 2 ^ 62 then k (.lst (rng i 1 (j - i).toNat)) h1 else false) | _ => false, g, ?_, fun w1 H1 ds h1 vs n1 wf1 hr1 r1 l1 e1 => ?_, px⟩
    · simp only [ev] at e ⊢
      refine Eq.trans (congrArg (ev T a σD h kx) ?_) e
      funext d h1
      refine congrArg (ev T b σD h1 kx) ?_
      funext d2 h2
      cases d <;> cases d2 <;> rfl
    · dsimp only at e1
      split at e1
      · rename_i i j hj
        split at e1
        · rename_i hb
          injection hj with hj
          subst hj
          obtain ⟨x, y, rfl, rx, ry⟩ := vrs2 r1
          cases rx; cases ry
          exact ⟨i, j, rfl, hb, p w1 H1 _ h1 _ _ _ n1 wf1 hr1 rfl cur_rng ⟨rfl, Nat.zero_le _⟩ e1⟩
        · cases e1
      · cases e1
  · cases hx) rfl
theorem s_enum {a : E} {sc : Scope} (C : Cv Z c T lev X) (hs : X.env.scope = sc) (ia : SN Z X W (ev T a) (mm c a sc)) : SM Z X W T c sc (.enum a) := .no rfl (fun tg x hx => by
  split at hx
  · rename_i es kk tpos id p v pos
    simp only [Bool.and_eq_true, decide_eq_true_eq] at hx
    obtain ⟨⟨⟨h1, h2⟩, h3⟩, h4⟩ := hx
    subst h1
    obtain ⟨hg, hd⟩ := glo_ok hs h2
    have hA : PA X [v] (TAZ Z W (ev T (.cons a .nil)) 1) := (s_cons ia s_nil).l [v] (by show (star0 v && (mm c a sc).e v && true) = true; rw [h3, h4]; rfl)
    refine (piEnB hg (C.more "enumerate" (by decide)) hA (star_of h3)).imp fun σ H R ⟨w, σD, h, kx, k, g, e, p, p2, px⟩ => ?_
    refine ⟨w, σD, h, kx, k, g, ?_, fun w1 H1 ds h1 vs n1 wf1 hr1 r1 l1 e1 => ?_, px⟩
    · simp only [ev] at e ⊢
      exact e
    · have hsome := p2 w1 H1 _ h1 n1 wf1 hr1 e1
      match ds, l1 with
      | [d], _ =>
        obtain ⟨x, rfl, rx⟩ := vrs1 r1
        cases q : cuOf h1 d with
        | none => simp only [curI, q] at hsome; cases hsome
        | some c0 =>
          obtain ⟨ad, k', R', xs, e2, e3, S, R0⟩ := seq_of C.hK n1.sub hr1 rx q
          exact ⟨k', ad, xs, by rw [e2], e3, p w1 H1 _ h1 (.en 0 c0) _ _ n1 wf1 hr1 (by simp only [curI, q]) (cur_en S) ⟨c0, rfl, R0⟩ e1⟩
  · cases hx) rfl
theorem s_zip {a b : E} {sc : Scope} (C : Cv Z c T lev X) (hs : X.env.scope = sc) (ia : SN Z X W (ev T a) (mm c a sc)) (ib : SN Z X W (ev T b) (mm c b sc)) : SM Z X W T c sc (.zip a b) := .no rfl (fun tg x hx => by
  split at hx
  · rename_i es kk tpos id p v u pos
    simp only [Bool.and_eq_true, decide_eq_true_eq] at hx
    obtain ⟨⟨⟨⟨⟨h1, h2⟩, h3⟩, h3'⟩, h4⟩, h5⟩ := hx
    subst h1
    obtain ⟨hg, hd⟩ := glo_ok hs h2
    have hA : PA X [v, u] (TAZ Z W (ev T (.cons a (.cons b .nil))) 2) := (s_cons ia (s_cons ib s_nil)).l [v, u] (by show (star0 v && (mm c a sc).e v && (star0 u && (mm c b sc).e u && true)) = true; rw [h3, h4, h3', h5]; rfl)
    refine (piZpB hg (C.more "zip" (by decide)) hA (star_of h3) (by rw [star_of h3']; rfl)).imp fun σ H R ⟨w, σD, h, kx, k, g, e, p, p2, px⟩ => ?_
    refine ⟨w, σD, h, kx, k, g, ?_, fun w1 H1 ds h1 vs n1 wf1 hr1 r1 l1 e1 => ?_, px⟩
    · simp only [ev] at e ⊢
      exact e
    · have hsome := p2 w1 H1 _ h1 n1 wf1 hr1 e1
      match ds, l1 with
      | [d, d'], _ =>
        obtain ⟨x, y, rfl, rx, ry⟩ := vrs2 r1
        cases q : cuOf h1 d with
        | none => simp only [curI, q] at hsome; cases hsome
        | some c0 =>
          cases q' : cuOf h1 d' with
          | none => simp only [curI, q, q'] at hsome; cases hsome
          | some c1 =>
            obtain ⟨ad, k', R', xs, e2, e3, S, R0⟩ := seq_of C.hK n1.sub hr1 rx q
            obtain ⟨ad', l', R'', ys, e2', e3', S', R0'⟩ := seq_of C.hK n1.sub hr1 ry q'
            exact ⟨k', l', ad, ad', xs, ys, by rw [e2, e2'], e3, e3', p w1 H1 _ h1 (.zp c0 c1) _ _ n1 wf1 hr1 (by simp only [curI, q, q']) (cur_zp S S') ⟨c0, c1, rfl, R0, R0'⟩ e1⟩
  · cases hx) rfl
end
end Z

namespace Z
open PySem PySem.Spec PyProof.Rows L2
section
variable {Z : Cz} {X : Cx} {W : WX} {T : Tx} {lev : Nat} {c : Ck} {w w' : Wd} {H H' : HP} {h : Hd}
theorem recv_lst {m : Bm} {d : D} {v : V} (hm : m ≠ .bitlen) (s : Sub w.H H) (hr : HR Z w h) (r : VR Z.K Z.γ w v d) (e : recv h m d = true) : ∃ n a, d = .ref n ∧ v = .ref a ∧ w.ρ n = some a ∧ tyV X.K "list" v H := by
  cases d with
  | ref n =>
    cases r with
    | @ref _ a e1 =>
      refine ⟨n, a, rfl, rfl, e1, ?_⟩
      have e : (match look h.es n with | some (.lst _) => true | _ => false) = true := by
        cases m <;> first | exact e | exact absurd rfl hm
      split at e
      · rename_i ds q
        obtain ⟨a', e2, xs, e3, _⟩ := hr.at_ n _ q
        rw [e1] at e2; cases e2
        exact .inl ⟨rfl, xs, SqL.of (s _ _ e3)⟩
      · cases e
  | int i => cases m <;> first | exact absurd rfl hm | cases e
  | _ => cases e
theorem look_lst {n : Nat} {a : Addr} {ds : List D} (hr : HR Z w h) (e1 : w.ρ n = some a) (q : look h.es n = some (.lst ds)) : ∃ xs, w.H a = some (.lst xs) ∧ VRs Z.K Z.γ w xs ds ∧ ds.length ≤ sizeLine := by
  obtain ⟨a', e2, r⟩ := hr.at_ n _ q
  rw [e1] at e2; cases e2
  exact r
/-- a list put in a list's place -/
theorem put_lst {n : Nat} {a : Addr} {ds es : List D} {xs ys : List V} (s : Sub w.H H) (wf : Wf w) (hr : HR Z w h) (e1 : w.ρ n = some a) (q : look h.es n = some (.lst ds)) (e2 : w.H a = some (.lst xs)) (r : VRs Z.K Z.γ w ys es) (z : es.length ≤ sizeLine) :
    Nx w H (putW w a (.lst ys)) (upd H a (.lst ys)) ∧ Wf (putW w a (.lst ys)) ∧ HR Z (putW w a (.lst ys)) ⟨h.nx, put h.es n (.lst es)⟩ :=
  put_ok s wf hr e1 q e2 trivial ⟨ys, upd_same, r.mono (put_le e1) wf, z⟩
theorem one_of {ds : List D} (h : ds.length = 1) : ∃ d, ds = [d] := by
  match ds, h with
  | [d], _ => exact ⟨d, rfl⟩
theorem nil_of {b : E} {sc : Scope} (h : (mm c b sc).l [] = true) : b = .nil := by
  cases b <;> first | rfl | cases h
theorem nil_run {b : E} {sc : Scope} {σ : Sg} {kx : KX} {k : K1} (h5 : (mm c b sc).l [] = true) (e : ev T b σ h kx k = true) : k (.tup []) h = true := by
  cases nil_of h5
  exact e
theorem bits_eq (i : Int) : (if i = 0 then (0 : Int) else ((bitsOf i + 1 : Nat) : Int)) = ((Builtin.Int.intBits i : Nat) : Int) := by
  unfold Builtin.Int.intBits bitsOf
  by_cases hi : i = 0
  · subst hi; rfl
  · have : (i == 0) = false := by simpa using hi
    rw [if_neg hi, this]; rfl
theorem s_bm {m : Bm} {a b : E} {sc : Scope} (C : Cv Z c T lev X) (ia : SN Z X W (ev T a) (mm c a sc)) (ib : SN Z X W (ev T b) (mm c b sc)) : SN Z X W (ev T (.bm m a b)) (mm c (.bm m a b) sc) := .one fun x hx => by
  split at hx
  · rename_i y name apos xs pos
    simp only [Bool.and_eq_true, decide_eq_true_eq] at hx
    obtain ⟨⟨⟨⟨⟨h1, h2⟩, h3⟩, h4⟩, h5⟩, h6⟩ := hx
    refine .of C.hK ?_ (fun _ => rfl)
    have oE := (ia.e y h4).e
    have aL := ib.l xs h5
    have st := no_star b sc xs h5
    subst h1
    cases m with
    | append =>
      match xs, h6 with
      | [v], _ =>
        have sv := st v List.mem_cons_self
        refine (pe_bm (T := "list") (id := "list.append") PySem.F.plainAttrs_list PySem.F.slot_list_append PySem.F.type_list_append mt_append oE aL (base_ok h2) (by rw [star_of sv]; rfl) h3 (star_of sv) rfl).imp fun σ H Q ⟨w, σD, h, kx, k, g, e, p, px⟩ => ?_
        simp only [ev] at e
        refine ⟨w, σD, h, kx, _, g, e, fun w1 H1 d h1 u n1 wf1 hr1 r1 e1 => ?_, px⟩
        dsimp only at e1
        cases q0 : recv h1 .append d with
        | false => rw [q0] at e1; cases e1
        | true =>
          simp only [q0] at e1
          obtain ⟨n, ad, rfl, rfl, ρn, ty⟩ := recv_lst (X := X) (by intro z; cases z) n1.sub hr1 r1 q0
          refine ⟨ty, w1, σD, h1, kx, _, g.next n1 wf1 hr1, e1, fun w2 H2 ds h2 vs n2 wf2 hr2 r2 l2 e2 => ?_, px.next n1⟩
          dsimp only at e2
          cases q : bmD h2 .append (.ref n) ds with
          | none => simp only [q] at e2; cases e2
          | some zh =>
            simp only [q] at e2
            obtain ⟨d2, rfl⟩ := one_of l2
            · obtain ⟨x2, rfl, rx⟩ := vrs1 r2
              simp only [bmD] at q
              split at q
              · rename_i xs q1
                split at q
                · rename_i hf
                  cases q
                  have ρ2 := n2.le.rho _ _ ρn
                  obtain ⟨vs, e3, e4, e5⟩ := look_lst hr2 ρ2 q1
                  have hf : xs.length ≤ 100000 := Nat.le_of_ble_eq_true hf
                  obtain ⟨n3, wf3, hr3⟩ := put_lst (es := xs ++ [d2]) (ys := vs ++ [x2]) n2.sub wf2 hr2 ρ2 q1 e3 (e4.append (.cons rx .nil)) (by rw [sizeLine_eq]; simp; omega)
                  exact ⟨ad, vs, x2, rfl, rfl, n2.sub _ _ e3, by rw [e4.length, sizeLine_eq]; omega, p _ _ _ _ _ (n1.trans (n2.trans n3)) wf3 hr3 .non e2⟩
                · cases q
              · cases q
    | extend =>
      match xs, h6 with
      | [v], _ =>
        have sv := st v List.mem_cons_self
        refine (pe_bm (T := "list") (id := "list.extend") PySem.F.plainAttrs_list PySem.F.slot_list_extend PySem.F.type_list_extend mt_extend oE aL (base_ok h2) (by rw [star_of sv]; rfl) h3 (star_of sv) rfl).imp fun σ H Q ⟨w, σD, h, kx, k, g, e, p, px⟩ => ?_
        simp only [ev] at e
        refine ⟨w, σD, h, kx, _, g, e, fun w1 H1 d h1 u n1 wf1 hr1 r1 e1 => ?_, px⟩
        dsimp only at e1
        cases q0 : recv h1 .extend d with
        | false => rw [q0] at e1; cases e1
        | true =>
          simp only [q0] at e1
          obtain ⟨n, ad, rfl, rfl, ρn, ty⟩ := recv_lst (X := X) (by intro z; cases z) n1.sub hr1 r1 q0
          refine ⟨ty, w1, σD, h1, kx, _, g.next n1 wf1 hr1, e1, fun w2 H2 ds h2 vs n2 wf2 hr2 r2 l2 e2 => ?_, px.next n1⟩
          dsimp only at e2
          cases q : bmD h2 .extend (.ref n) ds with
          | none => simp only [q] at e2; cases e2
          | some zh =>
            simp only [q] at e2
            obtain ⟨d2, rfl⟩ := one_of l2
            · obtain ⟨x2, rfl, rx⟩ := vrs1 r2
              simp only [bmD] at q
              split at q
              · rename_i xs ys q1
                split at q
                · rename_i hf
                  cases q
                  have ρ2 := n2.le.rho _ _ ρn
                  obtain ⟨vs, e3, e4, e5⟩ := look_lst hr2 ρ2 q1
                  cases rx with
                  | @lst ab us _ f1 f2 f3 f4 =>
                    have hf := few_ok hf
                    obtain ⟨n3, wf3, hr3⟩ := put_lst (es := xs ++ ys) (ys := vs ++ us) n2.sub wf2 hr2 ρ2 q1 e3 (e4.append f4) (by simp; omega)
                    exact ⟨ad, ab, vs, us, rfl, rfl, n2.sub _ _ e3, n2.sub _ _ f1, by rw [e4.length, f4.length]; omega, p _ _ _ _ _ (n1.trans (n2.trans n3)) wf3 hr3 .non e2⟩
                · cases q
              · cases q
    | pop =>
      match xs, h6 with
      | [], _ =>
        refine (pe_bm0 (T := "list") (id := "list.pop") PySem.F.plainAttrs_list PySem.F.slot_list_pop PySem.F.type_list_pop mt_pop oE (base_ok h2) h3).imp fun σ H Q ⟨w, σD, h, kx, k, g, e, p, px⟩ => ?_
        simp only [ev] at e
        refine ⟨w, σD, h, kx, _, g, e, fun w1 H1 d h1 u n1 wf1 hr1 r1 e1 => ?_, px⟩
        dsimp only at e1
        cases q0 : recv h1 .pop d with
        | false => rw [q0] at e1; cases e1
        | true =>
          simp only [q0] at e1
          obtain ⟨n, ad, rfl, rfl, ρn, ty⟩ := recv_lst (X := X) (by intro z; cases z) n1.sub hr1 r1 q0
          refine ⟨ty, ?_⟩
          have sN : ev T b σD h1 kx (fun r h2 => match r with | .tup ds => (match bmD h2 .pop (.ref n) ds with | some (z, h3) => k z h3 | none => false) | _ => false) = true := e1
          have e2 := nil_run h5 sN
          dsimp only at e2
          cases q : bmD h1 .pop (.ref n) [] with
          | none => simp only [q] at e2; cases e2
          | some zh =>
            simp only [q] at e2
            simp only [bmD] at q
            split at q
            · rename_i xs q1
              split at q
              · rename_i y q2
                cases q
                obtain ⟨vs, e3, e4, e5⟩ := look_lst hr1 ρn q1
                obtain ⟨yv, e6, ry⟩ := e4.get q2
                obtain ⟨n3, wf3, hr3⟩ := put_lst (es := xs.dropLast) (ys := vs.dropLast) n1.sub wf1 hr1 ρn q1 e3 e4.dropLast (by simp; omega)
                exact ⟨ad, vs, yv, rfl, rfl, n1.sub _ _ e3, by rw [e4.length]; exact e6, p _ _ _ _ _ (n1.trans n3) wf3 hr3 (ry.mono n3.le wf1) e2⟩
              · cases q
            · cases q
    | bitlen =>
      match xs, h6 with
      | [], _ =>
        refine (pe_bits oE (base_ok h2) h3).imp fun σ H Q ⟨w, σD, h, kx, k, g, e, p, px⟩ => ?_
        simp only [ev] at e
        refine ⟨w, σD, h, kx, _, g, e, fun w1 H1 d h1 u n1 wf1 hr1 r1 e1 => ?_, px⟩
        dsimp only at e1
        cases d with
        | int i =>
          cases r1
          have e2 := nil_run h5 e1
          refine ⟨i, rfl, ?_⟩
          have q := p w1 H1 _ h1 (.int _) n1 wf1 hr1 (.int _) e2
          rw [bits_eq] at q
          exact q
        | _ => cases e1
  · cases hx
end
end Z

namespace Z
open PySem PySem.Spec PyProof.Rows L2
section
variable {Z : Cz} {X : Cx} {W : WX} {T : Tx} {lev : Nat} {c : Ck} {w w' : Wd} {H H' : HP} {h : Hd}
def isB (a b : String) : Bool := a == b || (a == "bool" && b == "int")
theorem kit_all : (["NoneType", "bool", "int", "str", "list", "tuple"].all fun a => ["int", "bool", "str", "tuple", "list"].all fun b => kitB a b == some (isB a b)) = true := by decide +kernel
theorem kit_one {K : PySem.W.Frag} {a b : String} (ha : a ∈ ["NoneType", "bool", "int", "str", "list", "tuple"]) (hb : b ∈ ["int", "bool", "str", "tuple", "list"]) : PySem.W.kitOne K (.type a) (.type b) = some (isB a b) := by
  have q := List.all_eq_true.mp (List.all_eq_true.mp kit_all a ha) b hb
  exact kit_ty (eq_of_beq q)
def tyS : Ty → String
  | .int => "int" | .bool => "bool" | .str => "str" | .tuple => "tuple" | .list => "list" | .seq => "tuple"
def dS (h : Hd) : D → String
  | .non => "NoneType" | .bl _ => "bool" | .int _ => "int" | .str _ => "str" | .tup _ => "tuple" | .lst _ => "list" | .ref _ => "list" | .gl _ => ""
theorem isTy_eq {d : D} {t : Ty} {b : Bool} (ht : tyOne t = true) (e : isTy h d t = some b) : b = isB (dS h d) (tyS t) := by
  have main : ∀ b0 b1 : Bool, (match d with | .ref n => (match look h.es n with | some (.lst _) => some b0 | _ => none) | _ => some b1) = some b → (match d with | .ref _ => b = b0 | _ => b = b1) := fun b0 b1 e => by
    cases d with
    | ref n => dsimp only at e ⊢; split at e <;> first | (cases e; rfl) | cases e
    | _ => cases e; rfl
  cases d with
  | ref n =>
    cases t with
    | seq => cases ht
    | _ =>
      simp only [isTy] at e
      split at e
      · cases e; rfl
      · cases e
  | gl n => cases t <;> cases e
  | _ =>
    cases t with
    | seq => cases ht
    | _ => cases e; rfl
theorem dS_mem {d : D} {t : Ty} {b : Bool} (e : isTy h d t = some b) : dS h d ∈ ["NoneType", "bool", "int", "str", "list", "tuple"] := by
  cases d with
  | gl n => cases t <;> cases e
  | _ => simp [dS]
theorem tyS_mem (t : Ty) : tyS t ∈ ["int", "bool", "str", "tuple", "list"] := by cases t <;> decide
theorem tyX_ok {K : PySem.W.Frag} (hK : K = Z.K) {v : V} {d : D} {t : Ty} {b : Bool} (s : Sub w.H H) (hr : HR Z w h) (r : VR Z.K Z.γ w v d) (e : isTy h d t = some b) : TyX K H v (.type (dS h d)) := by
  cases r with
  | non => exact .base .non
  | bl => exact .base (.bl _)
  | int => exact .base (.int _)
  | str => exact .base (.str _)
  | tup q _ _ =>
    have q' := s.sqT q
    rw [← hK] at q'
    rcases q' with (q' | ⟨o, q'⟩) | ⟨o, its, n, hk, hc, _⟩
    · exact .base (.tup q')
    · exact .fTuple q'
    · exact .kTuple hk hc
  | lst q _ _ _ => exact .base (.lst (s _ _ q))
  | @ref n a e1 =>
    have main : (match look h.es n with | some (.lst _) => true | _ => false) = true := by
      cases q : look h.es n with
      | none => cases t <;> (simp only [isTy, q] at e; cases e)
      | some o =>
        cases o with
        | lst ds => rfl
        | _ => cases t <;> (simp only [isTy, q] at e; cases e)
    split at main
    · rename_i ds q
      obtain ⟨xs, e3, _⟩ := look_lst hr e1 q
      exact .base (.lst (s _ _ e3))
    · cases main
  | gl => cases t <;> cases e
theorem bt_bool : bootBuiltins "bool" = some (.type "bool") := by decide +kernel
theorem bt_str : bootBuiltins "str" = some (.type "str") := by decide +kernel
theorem bt_ty {t : Ty} (ht : tyOne t = true) : bootBuiltins (tyName t) = some (.type (tyS t)) ∧ tyName t ≠ "__name__" := by
  cases t <;> first
    | exact absurd ht (by decide)
    | exact ⟨bt_int, by decide⟩
    | exact ⟨bt_bool, by decide⟩
    | exact ⟨bt_str, by decide⟩
    | exact ⟨bt_tuple, by decide⟩
    | exact ⟨bt_list, by decide⟩
theorem s_isi {a : E} {t : Ty} {sc : Scope} (C : Cv Z c T lev X) (hs : X.env.scope = sc) (ia : SN Z X W (ev T a) (mm c a sc)) : SN Z X W (ev T (.isi a t)) (mm c (.isi a t) sc) := .one fun x hx => by
  split at hx
  · rename_i id p v ty p2 pos
    simp only [Bool.and_eq_true, decide_eq_true_eq] at hx
    obtain ⟨⟨⟨⟨⟨⟨h1, h2⟩, h3⟩, h4⟩, h5⟩, h6⟩, h7⟩ := hx
    subst h1
    obtain ⟨hg, hd⟩ := glo_ok hs h2
    obtain ⟨hg2, hd2⟩ := glo_ok hs h6
    subst h5
    obtain ⟨hb, hn⟩ := bt_ty h7
    have hm2 : X.mg (tyName t) = none := C.more _ (by cases t <;> first | exact absurd h7 (by decide) | decide)
    have pt : PE X (.Name (tyName t) p2) (tC (.ty (tyS t))) := pe_bltn hg2 hm2 hb rfl hn hd2
    have hA : PA X [v, .Name (tyName t) p2] _ := pa_cons (ia.e v h4).e (pa_cons pt pa_nil rfl) (star_of h3)
    refine .of C.hK ((pe_callB call_isi hg (C.more "isinstance" (by decide)) bt_iso hA (by decide) hd (star_of h3) rfl).imp fun σ H Q ⟨w, σD, h, kx, k, g, e, p, px⟩ => ?_) (fun _ => rfl)
    simp only [ev] at e
    refine ⟨w, σD, h, kx, _, g, e, fun w1 H1 d h1 u n1 wf1 hr1 r1 e1 => ?_, px⟩
    dsimp only at e1
    cases q : isTy h1 d t with
    | none => simp only [q] at e1; cases e1
    | some b =>
      simp only [q] at e1
      refine ⟨u, _, _, _, b, rfl, .ty _, tyX_ok C.hK n1.sub hr1 r1 q, ?_, p w1 H1 _ h1 _ n1 wf1 hr1 (.bl b) e1⟩
      rw [isTy_eq h7 q]
      exact kit_one (dS_mem q) (tyS_mem t)
  · cases hx
/-! ### steps -/
theorem small30 {i j s : Int} (h1 : -(2 ^ 30) ≤ i) (h2 : i < 2 ^ 30) (h3 : -(2 ^ 30) ≤ j) (h4 : j < 2 ^ 30) (h5 : 0 < s) (h6 : s < 2 ^ 20) : RgC i j s (rngSize i j s) := by
  have hs : Builtin.Range.rangeSize i j s = (rngSize i j s : Nat) := by
    unfold Builtin.Range.rangeSize rngSize
    rw [if_pos h5]
    split
    · have : 0 ≤ (j - i - 1) / s := Int.ediv_nonneg (by omega) (by omega)
      omega
    · rfl
  refine ⟨by omega, by omega, ?_, hs⟩
  have bd : 0 ≤ Builtin.Range.rangeSize i j s ∧ Builtin.Range.rangeSize i j s * s ≤ 2 ^ 31 + 2 ^ 20 ∧ Builtin.Range.rangeSize i j s ≤ 2 ^ 31 := by
    unfold Builtin.Range.rangeSize
    rw [if_pos h5]
    split
    · have a1 : 0 ≤ (j - i - 1) / s := Int.ediv_nonneg (by omega) (by omega)
      have a2 : (j - i - 1) / s * s ≤ j - i - 1 := Int.ediv_mul_le _ (by omega)
      have a3 : (j - i - 1) / s ≤ j - i - 1 := Int.ediv_le_self _ (by omega)
      refine ⟨by omega, ?_, by omega⟩
      rw [Int.add_mul]
      omega
    · refine ⟨by omega, by omega, by omega⟩
  unfold Builtin.Range.small
  generalize Builtin.Range.rangeSize i j s = n at bd ⊢
  have h5' : s > 0 := h5
  simp only [Builtin.Range.rangeFitsLong, Bool.and_eq_true, Bool.or_eq_true, decide_eq_true_eq, beq_iff_eq, h5', if_true]
  omega
theorem s_rng3 {a b d : E} {sc : Scope} (C : Cv Z c T lev X) (hs : X.env.scope = sc) (ia : SN Z X W (ev T a) (mm c a sc)) (ib : SN Z X W (ev T b) (mm c b sc)) (id : SN Z X W (ev T d) (mm c d sc)) : SM Z X W T c sc (.rng3 a b d) := .no rfl (fun tg x hx => by
  split at hx
  · rename_i id' p v u y pos
    simp only [Bool.and_eq_true, decide_eq_true_eq] at hx
    obtain ⟨⟨⟨⟨⟨⟨⟨h1, h2⟩, h3⟩, h3'⟩, h3''⟩, h4⟩, h5⟩, h6⟩ := hx
    subst h1
    obtain ⟨hg, hd⟩ := glo_ok hs h2
    have hA : PA X [v, u, y] (TAZ Z W (ev T (.cons a (.cons b (.cons d .nil)))) 3) := (s_cons ia (s_cons ib (s_cons id s_nil))).l [v, u, y] (by
      show (star0 v && (mm c a sc).e v && (star0 u && (mm c b sc).e u && (star0 y && (mm c d sc).e y && true))) = true
      rw [h3, h4, h3', h5, h3'', h6]; rfl)
    refine (pi_range3 hg (C.more "range" (by decide)) hA (star_of h3) (by rw [star_of h3', star_of h3'']; rfl)).imp fun σ H R ⟨w, σD, h, kx, k, g, e, p, p2, px⟩ => ?_
    refine ⟨w, σD, h, kx, fun r h1 => match r with | .tup [.int i, .int j, .int s] => (if -(2 ^ 30) ≤ i ∧ i < 2 ^ 30 ∧ -(2 ^ 30) ≤ j ∧ j < 2 ^ 30 ∧ 0 < s ∧ s < 2 ^ 20 then k (.lst (rng i s (rngSize i j s))) h1 else false) | _ => false, g, ?_, fun w1 H1 ds h1 vs n1 wf1 hr1 r1 l1 e1 => ?_, px⟩
    · simp only [ev] at e ⊢
      refine Eq.trans (congrArg (ev T a σD h kx) ?_) e
      funext d1 h1
      refine congrArg (ev T b σD h1 kx) ?_
      funext d2 h2
      refine congrArg (ev T d σD h2 kx) ?_
      funext d3 h3
      cases d1 <;> cases d2 <;> cases d3 <;> rfl
    · dsimp only at e1
      split at e1
      · rename_i i j s hj
        split at e1
        · rename_i hb
          injection hj with hj
          subst hj
          cases r1 with
          | cons rx r1 =>
            obtain ⟨x, y, rfl, ry, rz⟩ := vrs2 r1
            cases rx; cases ry; cases rz
            obtain ⟨b1, b2, b3, b4, b5, b6⟩ := hb
            exact ⟨i, j, s, _, rfl, small30 b1 b2 b3 b4 b5 b6, p w1 H1 _ h1 _ _ _ n1 wf1 hr1 rfl cur_rngC ⟨rfl, Nat.zero_le _⟩ e1⟩
        · cases e1
      · cases e1
  · cases hx) rfl
end
end Z

namespace Z
open PySem PySem.Spec PyProof.Rows L2 HT
section
variable {prog : Program} {w : World} {A : Around} {E : Value → Shared → Prop} {s : Shared}
theorem backApplied {sl : Addr} {vk : Value} {n : Nat} {Q : Int × Int × Nat → Shared → Prop} (hs : s.heap.IsSliceOf sl .none .none vk) (pk : IsPart vk (some (-1)))
    (h : Q ((n : Int) - 1, -1, n) s) : wpAny (model prog w) A (Builtin.Slice.sliceApplied (.ref sl) (pure (n : Int))) Q E s := by
  obtain ⟨os, hos, hcs, hds⟩ := id hs
  unfold Builtin.Slice.sliceApplied Builtin.Slice.sliceFields
  refine wpAny_bind (wpAny_bind (wpAny_field hos hds (x := .none) rfl (wpAny_bind (wpAny_field hos hds (x := .none) rfl (wpAny_bind (wpAny_field hos hds (x := vk) rfl (wpAny_pure ?_)))))))
  refine wpAny_bind (slicePart_ pk ?_)
  show wpAny _ _ (if ((-1 : Int) == 0) = true then _ else _) _ _ s
  rw [if_neg (by decide)]
  refine wpAny_bind (slicePart_none (wpAny_bind (slicePart_none (wpAny_bind (wpAny_pure ?_)))))
  show wpAny _ _ (pure ((n : Int) - 1, (-1 : Int), Builtin.Slice.slicePlaces ((n : Int) - 1) (-1) (-1))) _ _ s
  have e : Builtin.Slice.slicePlaces ((n : Int) - 1) (-1) (-1) = n := by
    unfold Builtin.Slice.slicePlaces
    simp only [show ¬ ((-1 : Int) > 0) by decide, if_false, show (-(-1) : Int) = 1 from rfl, Int.ediv_one]
    split <;> omega
  rw [e]
  exact wpAny_pure h
theorem backPick (xs : Array Value) : ((List.range xs.size).filterMap fun (m : Nat) => xs[(((xs.size : Int) - 1) + (m : Int) * (-1)).toNat]?).toArray = xs.toList.reverse.toArray := by
  have e : ((List.range xs.size).filterMap fun (m : Nat) => xs[(((xs.size : Int) - 1) + (m : Int) * (-1)).toNat]?) = ((List.range xs.size).map fun k => xs.size - 1 - k).filterMap (xs[·]?) := by
    rw [List.filterMap_map]
    congr 1
    funext m
    have : (((xs.size : Int) - 1) + (m : Int) * (-1)).toNat = xs.size - 1 - m := by omega
    show xs[_]? = xs[_]?
    rw [this]
  rw [e, PySem.W.krv_range, List.filterMap_reverse, PySem.W.krv_all]
theorem backItem {t sl : Addr} {items : Array Value} {vk : Value} {Q : Value → Shared → Prop} (ht : IsTup s.heap t items) (hs : s.heap.IsSliceOf sl .none .none vk) (pk : IsPart vk (some (-1)))
    (h : Q (.ref s.heap.objs.size) { s with heap := s.heap.push { cls := .type "tuple", data := .seq items.toList.reverse.toArray } })
    (hsz : items.size ≤ sizeLine) : wpAny (model prog w) A (PySem.getItem (.ref t) (.ref sl)) Q E s := by
  have htake : sizeOk (.seq items.toList.reverse.toArray) := by
    show items.toList.reverse.toArray.size ≤ sizeLine
    rw [List.size_toArray, List.length_reverse, Array.length_toList]
    exact hsz
  obtain ⟨os, hos, hcs, hds⟩ := id hs
  have hTs : s.TypeIs (.ref sl) "slice" := ⟨os, hos, hcs⟩
  unfold PySem.getItem
  try with_reducible refine wpAny_holding ?_
  first | refine wpAny_bind (wpAny_pure ?_) | skip
  refine wpAny_bind (wpAny_sequenceKey ht.typeIs (by decide) ?_)
  refine wpAny_bind (wpAny_callSpecial?_slot (name := Str.ofString "__getitem__") ht.typeIs PyProof.Rows.slot_tuple_getitem
    (wpAny_call_entry PyProof.Rows.slot_tuple_getitem ht.typeIs entry_tuple_getitem ?_ (args_tuple_getitem _ _)))
  show wpAny _ _ (Builtin.Tuple.tupleItemsOf (.ref t) >>= _) _ _ s
  refine wpAny_bind (tupleItemsOf_ ht ?_)
  refine wpAny_bind (wpAny_typeOf hTs ?_)
  rw [if_pos (by decide)]
  refine wpAny_bind (backApplied hs pk ?_)
  have hno : ¬ ((((items.size : Int) - 1) == 0 && (-1 : Int) == 1 && items.size == items.size) = true) := by
    intro q
    rw [Bool.and_eq_true, Bool.and_eq_true] at q
    exact absurd q.1.2 (by decide)
  show wpAny _ _ (if (((items.size : Int) - 1) == 0 && (-1 : Int) == 1 && items.size == items.size) = true then _ else _) _ _ s
  rw [if_neg hno, backPick]
  first
    | exact wpAny_bind (m := Builtin.Tuple.tupleExact _) (wpAny_newObj_type (wpAny_pure ⟨_, rfl, wpAny_pure h⟩) htake)
    | exact wpAny_bind (m := Builtin.Tuple.tupleExact _) (wpAny_newObj_type (wpAny_bind (wpAny_pure (wpAny_pure ⟨_, rfl, wpAny_pure h⟩))) htake)
    | exact wpAny_bind (wpAny_bind (m := Builtin.Tuple.tupleExact _) (wpAny_newObj_type (wpAny_pure (wpAny_pure ⟨_, rfl, wpAny_pure h⟩)) htake))
    | exact wpAny_bind (wpAny_bind (m := Builtin.Tuple.tupleExact _) (wpAny_newObj_type (wpAny_pure ⟨_, rfl, wpAny_pure h⟩) htake))
end
section
variable {Z : Cz} {X : Cx} {W : WX} {T : Tx} {lev : Nat} {c : Ck} {w w' : Wd} {H H' : HP} {h : Hd}
def tRevT (K : PySem.W.Frag) (te : TE) : TE := fun σ H Q => te σ H fun x H1 => ∃ a xs, x = .ref a ∧ SqT K H1 a xs ∧ ∀ p, H1 p = none → Q (.ref p) (upd H1 p (.tup xs.reverse))
theorem pe_revT {e : Expr} {te : TE} {k : Nat} {p1 p2 p3 pos : Pos} (he : PE X e te) : PE X (.Subscript e (.Slice none none (some (.UnaryOp .USub (.Constant (.int 1) k p1) p2)) p3) pos) (tRevT X.K te) := by
  refine ⟨fun pins s σ H Q I h => ?_⟩
  refine Subscript_ (thn (he.run pins s σ H _ I h) fun v s1 ⟨x, H1, I1, r1, q1⟩ => ?_)
  obtain ⟨a, xs, ex, hx, q⟩ := q1
  subst ex
  cases r1
  have hst : PO X (some (.UnaryOp .USub (.Constant (.int 1) k p1) p2)) (tPart (tUn (rU fun i => .int (-i)) (tC (.int 1)))) := po_some (pe_un un_neg pe_int)
  refine wpAny_Slice (thn (po_none.run pins s1 σ H1 (fun o H2 => o = none ∧ H2 = H1) I1 ⟨rfl, rfl⟩) fun vl s2 ⟨l, H2, I2, pl, el, e2⟩ => ?_)
  subst el e2
  refine thn (po_none.run pins s2 σ H2 (fun o H3 => o = none ∧ H3 = H2) I2 ⟨rfl, rfl⟩) fun vu s3 ⟨u, H3, I3, pu, eu, e3⟩ => ?_
  subst eu e3
  refine thn (hst.run pins s3 σ H3 (fun o H4 => o = some (-1) ∧ H4 = H3) I3 ⟨1, rfl, -1, rfl, rfl, rfl⟩) fun vs s4 ⟨o, H4, I4, ps, eo, e4⟩ => ?_
  subst eo e4
  cases pl
  cases pu
  have I5 : Inv X pins σ H4 { s4 with heap := s4.heap.push { cls := .type "slice", data := .fields #[.none, .none, vs] } } := I4.kept (t' := s4.toks) fun b ob q => Heap.get?_push_of_some _ q
  obtain ⟨its, r, ht, hz⟩ := I5.tuple hx
  have hlen := r.length
  show wpAny (model X.prog X.w) X.A (subscriptTail e (.Slice none none (some (.UnaryOp .USub (.Constant (.int 1) k p1) p2)) p3) (.ref a) (.ref s4.heap.objs.size)) (EP X pins σ Q) X.xe { s4 with heap := s4.heap.push { cls := .type "slice", data := .fields #[.none, .none, vs] } }
  refine tail_any (ops := [.ref a, .ref s4.heap.objs.size]) ht.typeIs (PyProof.Rows.slot_tuple_getitem.lookup) ?_ (by with_unfolding_all rfl)
  refine backItem ht (Heap.IsSliceOf.new _ .none .none vs) ps ?_ (by rw [List.size_toArray]; omega)
  refine ⟨.ref _, _, I5.laid (t' := s4.toks) (o := .tup xs.reverse) (fun b ob q => Heap.get?_push_of_some _ q) (Nat.le_refl _) ?_, rfl, q _ (I5.hok.fresh (Nat.le_refl _))⟩
  exact ⟨by rw [List.length_reverse]; exact hz, _, r.reverse, IsTup.new _ _⟩
theorem s_rev {a : E} {sc : Scope} (C : Cv Z c T lev X) (ia : SN Z X W (ev T a) (mm c a sc)) : SN Z X W (ev T (.rev a)) (mm c (.rev a) sc) := .one fun x hx => by
  split at hx
  · refine .of C.hK ((pe_revT (ia.e _ hx).e).imp fun σ H Q ⟨w, σD, h, kx, k, g, e, p, px⟩ => ?_) (fun _ => rfl)
    simp only [ev] at e
    refine ⟨w, σD, h, kx, _, g, e, fun w1 H1 d h1 v n1 wf1 hr1 r1 e1 => ?_, px⟩
    cases d with
    | tup ds =>
      cases r1 with
      | @tup a xs _ e2 z r2 =>
        exact ⟨a, xs, rfl, by rw [C.hK]; exact n1.sub.sqT e2, back_tup n1.sub wf1 hr1 r2.reverse (by rw [List.length_reverse]; exact z) fun w2 H2 v n2 wf2 hr2 r2 => p w2 H2 _ h1 v (n1.trans n2) wf2 hr2 r2 e1⟩
    | _ => cases e1
  · cases hx
end
end Z

namespace Z
open PySem PySem.Spec PyProof.Rows L2
section
variable {Z : Cz} {X : Cx} {W : WX} {T : Tx} {lev : Nat} {c : Ck} {w w' : Wd} {H H' : HP} {h : Hd}
theorem SM.non {sc : Scope} {e : E} (hm : mm c e sc = ⟨fun _ => false, fun _ => false, fun _ => false, fun _ => false, fun _ _ => false⟩) (al : isAl e = false) : SM Z X W T c sc e := by
  refine ⟨?_, (fun tg x q => by rw [hm] at q; exact nomatch q), (fun z => by rw [al] at z; cases z)⟩
  rw [hm]
  exact ⟨(fun x q => nomatch q), (fun x p q => nomatch q), (fun x p q => nomatch q), (fun x q => nomatch q)⟩
theorem SM.arg {sc : Scope} {e : E} (s : SN Z X W (ev T e) (mm c e sc)) (hi : ∀ tg x, (mm c e sc).i tg x = false) (al : isAl e = false) : SM Z X W T c sc e :=
  ⟨s, (fun tg x q => by rw [hi] at q; cases q), (fun z => by rw [al] at z; cases z)⟩
theorem snd : ∀ (e : E) {X : Cx} {W : WX} {sc : Scope}, Cv Z c T lev X → X.env.scope = sc → Takes X W → SM Z X W T c sc e
  | .var i, X, W, sc, C, hs, tk => .of C (s_var C hs) rfl (fun _ _ q => q) rfl
  | .int i, X, W, sc, C, hs, tk => .of C (s_int C) rfl (fun _ _ q => q) rfl
  | .bl i, X, W, sc, C, hs, tk => .of C (s_bl C) rfl (fun _ _ q => q) rfl
  | .non, X, W, sc, C, hs, tk => .of C (s_non C) rfl (fun _ _ q => q) rfl
  | .str l, X, W, sc, C, hs, tk => .of C (s_str C) rfl (fun _ _ q => q) rfl
  | .glb n, X, W, sc, C, hs, tk => .of C (s_glb C hs) rfl (fun _ _ q => q) rfl
  | .nil, X, W, sc, C, hs, tk => .arg s_nil (fun _ _ => rfl) rfl
  | .cons a b, X, W, sc, C, hs, tk => .arg (s_cons (snd a C hs tk).s (snd b C hs tk).s) (fun _ _ => rfl) rfl
  | .tup a, X, W, sc, C, hs, tk => .of C (s_tup (snd a C hs tk).s C) rfl (fun _ _ q => q) rfl
  | .lst a, X, W, sc, C, hs, tk => s_lst' (snd a C hs tk).s C
  | .allo a, X, W, sc, C, hs, tk => .of C (s_allo C (snd a C hs tk)) rfl (fun _ _ q => q) rfl
  | .bop o a b, X, W, sc, C, hs, tk => .of C (s_bop C (snd a C hs tk).s (snd b C hs tk).s) rfl (fun _ _ q => q) rfl
  | .neg a, X, W, sc, C, hs, tk => .of C (s_neg C (snd a C hs tk).s) rfl (fun _ _ q => q) rfl
  | .not a, X, W, sc, C, hs, tk => .of C (s_not C (snd a C hs tk).s) rfl (fun _ _ q => q) rfl
  | .cmp o a b, X, W, sc, C, hs, tk => .of C (s_cmp C (snd a C hs tk).s (snd b C hs tk).s) rfl (fun _ _ q => q) rfl
  | .chain o p a b d, X, W, sc, C, hs, tk => .of C (s_chain C (snd a C hs tk).s (snd b C hs tk).s (snd d C hs tk).s) rfl (fun _ _ q => q) rfl
  | .and a b, X, W, sc, C, hs, tk => .of C (s_and C (snd a C hs tk).s (snd b C hs tk).s) rfl (fun _ _ q => q) rfl
  | .or a b, X, W, sc, C, hs, tk => .of C (s_or C (snd a C hs tk).s (snd b C hs tk).s) rfl (fun _ _ q => q) rfl
  | .ife t a b, X, W, sc, C, hs, tk => .of C (s_ife (snd t C hs tk).s (snd a C hs tk).s (snd b C hs tk).s C) rfl (fun _ _ q => q) rfl
  | .call f a, X, W, sc, C, hs, tk => .of C (s_call tk C hs (snd a C hs tk).s) rfl (fun _ _ q => q) rfl
  | .bcall b a, X, W, sc, C, hs, tk => by
    cases b with
    | list => exact s_blist C hs (snd a C hs tk).s
    | _ => exact .of C (s_bcall C hs (snd a C hs tk).s) rfl (fun _ _ q => q) rfl
  | .isi a t, X, W, sc, C, hs, tk => .of C (s_isi C hs (snd a C hs tk).s) rfl (fun _ _ q => q) rfl
  | .bm m a b, X, W, sc, C, hs, tk => .of C (s_bm C (snd a C hs tk).s (snd b C hs tk).s) rfl (fun _ _ q => q) rfl
  | .ix a b, X, W, sc, C, hs, tk => .of C (s_ix C (snd a C hs tk).s (snd b C hs tk).s) rfl (fun _ _ q => q) rfl
  | .slc a b d, X, W, sc, C, hs, tk => .of C (s_slc C (snd a C hs tk).s (snd b C hs tk).s (snd d C hs tk).s) rfl (fun _ _ q => q) rfl
  | .rev a, X, W, sc, C, hs, tk => .of C (s_rev C (snd a C hs tk).s) rfl (fun _ _ q => q) rfl
  | .enum a, X, W, sc, C, hs, tk => s_enum C hs (snd a C hs tk).s
  | .zip a b, X, W, sc, C, hs, tk => s_zip C hs (snd a C hs tk).s (snd b C hs tk).s
  | .rng1 a, X, W, sc, C, hs, tk => s_rng1 C hs (snd a C hs tk).s
  | .rng2 a b, X, W, sc, C, hs, tk => s_rng2 C hs (snd a C hs tk).s (snd b C hs tk).s
  | .rng3 a b d, X, W, sc, C, hs, tk => s_rng3 C hs (snd a C hs tk).s (snd b C hs tk).s (snd d C hs tk).s
  | .comp own elt g it cnd, X, W, sc, C, hs, tk => s_comp C hs (snd it C hs tk) (fun _ _ _ C' hs' tk' => snd elt C' hs' tk') fun _ _ _ C' hs' tk' => snd cnd C' hs' tk'
  | .cval _ _, X, W, sc, C, hs, tk => .non rfl rfl
  | .meth _ _ _ _ _, X, W, sc, C, hs, tk => .non rfl rfl
  | .make _ _, X, W, sc, C, hs, tk => .non rfl rfl
  | .attr _ _ _, X, W, sc, C, hs, tk => .non rfl rfl
  | .nop, X, W, sc, C, hs, tk => .non rfl rfl
  | .comp2 .., X, W, sc, C, hs, tk => .non rfl rfl
end
end Z

namespace Z
open PySem PySem.Spec PyProof.Rows L2
/-! ### the check of statements -/
structure SK where
  s : Stmt → Bool
  ss : List Stmt → Bool
def noComp (x : Expr) : Bool := match x with | .ListComp _ _ _ _ => false | .SetComp _ _ _ _ => false | .DictComp _ _ _ _ _ => false | _ => true
def isCmp : E → Bool
  | .comp _ _ _ _ _ => true
  | .allo (.comp _ _ _ _ _) => true
  | _ => false
def isFn (sc : Scope) : Bool := match sc.kind with | .function => true | _ => false
def isLoc (sc : Scope) (x : Str) : Bool := match sc.names.lookup x with | some .local => true | _ => false
/-- the names that are stored from the right -/
def blockK (sc : Scope) : ScopeKind := if sc.kind.isAnnotationScope then .function else sc.kind
def parNames (ts : List Expr) (sc : Scope) : List Str := ts.filterMap fun
    | .Name id pos => if sc.names.lookup id == some NameKind.local && pos.line == (ts.head?.map (·.pos.line)).getD 0 then some id else none
    | _ => none
def swS (ts vs : List Expr) (sc : Scope) : Option (Option (List Str)) :=
  if (!(ts.length == 2 || ts.length == 3) || vs.length != ts.length || blockK sc != .function) = true then some none else
  if (vs.any (fun | .Starred .. => true | _ => false)) = true then some none else
  if ((parNames ts sc).length != ts.length || (parNames ts sc).eraseDups.length != (parNames ts sc).length) = true then some none else
  if vs.all (foldedForSure 8) = true then some none else
  if vs.all (constantsAlone 8) = true then none else some (some (parNames ts sc))
theorem sw_eq {ts vs : List Expr} {k k2 : Nat} {p p2 : Pos} {env : Env} {r : Option (List Str)} (h : swS ts vs env.scope = some r) : swappedStores [.Tuple ts k p] (.Tuple vs k2 p2) env = pure r := by
  unfold swappedStores
  simp only [bind, pure]
  unfold swS at h
  split at h
  · rename_i c1
    cases h
    exact if_pos c1
  · rename_i c1
    refine Eq.trans (if_neg c1) ?_
    split at h
    · rename_i c2
      cases h
      exact if_pos c2
    · rename_i c2
      refine Eq.trans (if_neg c2) ?_
      split at h
      · rename_i c3
        cases h
        exact if_pos c3
      · rename_i c3
        refine Eq.trans (if_neg c3) ?_
        split at h
        · rename_i c4
          cases h
          exact if_pos c4
        · rename_i c4
          refine Eq.trans (if_neg c4) ?_
          split at h
          · cases h
          · rename_i c5
            cases h
            exact if_neg c5
theorem sw_noTup {tg x : Expr} {env : Env} (h : (match x with | .Tuple _ _ _ => false | _ => true) = true) : swappedStores [tg] x env = pure none := by
  unfold swappedStores
  cases x <;> first | (cases tg <;> rfl) | exact nomatch h
def ms (c : Ck) : S → Scope → SK
  | .skip => fun _ => ⟨fun _ => false, fun xs => match xs with | [] => true | _ => false⟩
  | .seq a b => fun sc => ⟨fun _ => false, fun xs => match xs with | x :: r => (ms c a sc).s x && (ms c b sc).ss r | [] => false⟩
  | .pass => fun _ => ⟨fun x => match x with | .Pass _ => true | _ => false, fun _ => false⟩
  | .doc => fun _ => ⟨fun x => match x with | .Expr (.Constant (.str _) _ _) _ => true | _ => false, fun _ => false⟩
  | .never => fun _ => ⟨fun _ => true, fun _ => false⟩
  | .brk => fun _ => ⟨fun x => match x with | .Break _ => true | _ => false, fun _ => false⟩
  | .cont => fun _ => ⟨fun x => match x with | .Continue _ => true | _ => false, fun _ => false⟩
  | .expr e => fun sc => ⟨fun x => match x with | .Expr y _ => noComp y && (mm c e sc).e y | _ => false, fun _ => false⟩
  | .set i e => fun sc => ⟨fun x => match x with
    | .Assign [.Name y py] v _ => decide (c.N[i]? = some y) && loc sc y && (mm c e sc).e v && (match v with
      | .ListComp _ _ scope pos => isCmp e && isFn sc && isLoc sc y && (py.line == pos.line) && !(scope.names.any fun (n, k) => n == y && (k == .local || k == .cell))
      | _ => noComp v)
    | _ => false, fun _ => false⟩
  | .unp g e => fun sc => ⟨fun x => match x with
    | .Assign [.Tuple ts k p] v _ => (mg c sc g).e (.Tuple ts k p) && (mm c e sc).e v && (match v with | .Tuple vs _ _ => decide (swS ts vs sc = some none) | _ => true)
    | _ => false, fun _ => false⟩
  | .par is e => fun sc => ⟨fun x => match x with
    | .Assign [.Tuple [.Name a pa, .Name b pb] _ _] (.Tuple [x1, x2] _ _) _ => (match is with
      | [i, j] => decide (c.N[i]? = some a) && decide (c.N[j]? = some b) && decide (i ≠ j) && isLoc sc a && isLoc sc b && (mm c e sc).l [x1, x2] && decide (swS [.Name a pa, .Name b pb] [x1, x2] sc = some (some [a, b]))
      | _ => false)
    | .Assign [.Tuple [.Name a pa, .Name b pb, .Name d pd] _ _] (.Tuple [x1, x2, x3] _ _) _ => (match is with
      | [i, j, l] => decide (c.N[i]? = some a) && decide (c.N[j]? = some b) && decide (c.N[l]? = some d) && decide (i ≠ j) && decide (i ≠ l) && decide (j ≠ l) && isLoc sc a && isLoc sc b && isLoc sc d && (mm c e sc).l [x1, x2, x3] && decide (swS [.Name a pa, .Name b pb, .Name d pd] [x1, x2, x3] sc = some (some [a, b, d]))
      | _ => false)
    | _ => false, fun _ => false⟩
  | .aug i o e => fun sc => ⟨fun x => match x with | .AugAssign (.Name y _) p v _ => opOk o p && decide (c.N[i]? = some y) && loc sc y && (mm c e sc).e v | _ => false, fun _ => false⟩
  | .ifs t a b => fun sc => ⟨fun x => match x with | .If u p q _ => (mm c t sc).e u && (ms c a sc).ss p && (ms c b sc).ss q | _ => false, fun _ => false⟩
  | .for_ g it b => fun sc => ⟨fun x => match x with | .For tg iter body [] _ => (mg c sc g).e tg && (mm c it sc).i tg iter && notSet iter && (ms c b sc).ss body | _ => false, fun _ => false⟩
  | .whl t b => fun sc => ⟨fun x => match x with | .While u body [] _ => (mm c t sc).e u && (ms c b sc).ss body | _ => false, fun _ => false⟩
  | .ret e => fun sc => ⟨fun x => match x with | .Return (some y) _ => (mm c e sc).e y | _ => false, fun _ => false⟩
  | .retn => fun _ => ⟨fun x => match x with | .Return none _ => true | _ => false, fun _ => false⟩
  | .drop _ b => fun sc => ⟨fun _ => false, fun xs => (ms c b sc).ss xs⟩
  | _ => fun _ => ⟨fun _ => false, fun _ => false⟩
/-! ### soundness -/
def PostN (Z : Cz) (w : Wd) (H : HP) (n : Kn) (P : L2.St → HP → Prop) : Prop := ∀ w' H' σ' σD' h', Nx w H w' H' → Good Z w' H' σ' σD' h' → n σD' h' = true → P σ' H'
def TSZ (Z : Cz) (f : Es) : TS := fun D σ H => ∃ w σD h kx nx rt bk ct, Good Z w H σ σD h ∧ f σD h kx nx rt bk ct = true ∧ PostN Z w H nx D.nx ∧ PostV Z w H rt D.rt ∧ PostN Z w H bk D.bk ∧ PostN Z w H ct D.ct
section
variable {Z : Cz} {X : Cx} {W : WX} {T : Tx} {lev : Nat} {c : Ck} {w w' : Wd} {H H' : HP} {h : Hd}
theorem px0 {σ : L2.St} {kx : KX} : PostX Z w H σ kx W := fun _ _ _ _ _ _ _ _ _ _ x _ => x.elim
theorem PostN.next {n : Kn} {P : L2.St → HP → Prop} (p : PostN Z w H n P) (m : Nx w H w' H') : PostN Z w' H' n P := fun w2 H2 σ2 σD2 h2 n2 g e => p w2 H2 σ2 σD2 h2 (m.trans n2) g e
theorem PostN.run {n : Kn} {P : L2.St → HP → Prop} (p : PostN Z w H n P) {σ : L2.St} {σD : Sg} (g : Good Z w H σ σD h) (e : n σD h = true) : P σ H := p w H σ σD h (.refl g.sub) g e
theorem postN0 {P : L2.St → HP → Prop} : PostN Z w H (fun _ _ => false) P := fun _ _ _ _ _ _ _ e => by cases e
/-- an expression's value, then the rest -/
structure SS (Z : Cz) (X : Cx) (T : Tx) (c : Ck) (sc : Scope) (q : S) : Prop where
  s : ∀ st, (ms c q sc).s st = true → PS X st (TSZ Z (evS T q))
  ss : ∀ sts, (ms c q sc).ss sts = true → PSs X sts (TSZ Z (evS T q))
theorem swF {v : Expr} {t : Option Expr} {l : Nat} {env : Env} (h : noComp v = true) : swapsWith v t l env = pure false := by
  cases v <;> first | rfl | exact nomatch h
theorem swT {v : Expr} {ts : List Expr} {k : Nat} {p : Pos} {l : Nat} {env : Env} : swapsWithSole [.Tuple ts k p] v l env = pure false := by
  cases v <;> rfl
theorem loc_at {sc : Scope} {x : Str} (h : isLoc sc x = true) : sc.names.lookup x = some .local := by
  unfold isLoc at h
  split at h
  · assumption
  · cases h
theorem fn_at {sc : Scope} (h : isFn sc = true) : sc.kind = .function := by
  unfold isFn at h
  split at h
  · assumption
  · cases h
theorem s_simple {sc : Scope} {f : Es} {s : S} (e : evS T s = f) (m : Stmt → Bool) (hm : ms c s sc = ⟨m, fun _ => false⟩) (h : ∀ st, m st = true → PS X st (TSZ Z f)) : SS Z X T c sc s := by
  refine ⟨fun st q => ?_, fun sts q => ?_⟩
  · rw [hm] at q; rw [e]; exact h st q
  · rw [hm] at q; cases q
theorem s_set {i : Nat} {e : E} {sc : Scope} (C : Cv Z c T lev X) (hs : X.env.scope = sc) (S : Stor X sc) (ie : SM Z X W T c sc e)
    (ic : isCmp e = true → ∀ v, (mm c e sc).e v = true → CP X v (TZ Z W (ev T e))) : SS Z X T c sc (.set i e) := s_simple rfl _ rfl fun st hx => by
  split at hx
  · rename_i y py v pos
    simp only [Bool.and_eq_true, decide_eq_true_eq] at hx
    obtain ⟨⟨⟨h1, h2⟩, h3⟩, h4⟩ := hx
    obtain ⟨hl, hf⟩ := S y h2
    have run : ∀ D σ H, TSZ Z (evS T (.set i e)) D σ H → tAsg (TZ Z W (ev T e)) (gName i) D σ H := fun D σ H ⟨w, σD, h, kx, nx, rt, bk, ct, g, q, p1, p2, p3, p4⟩ => by
      simp only [evS] at q
      refine ⟨w, σD, h, _, _, g, q, fun w1 H1 d h1 v n1 wf1 hr1 r1 e1 => ?_, px0⟩
      have g1 := g.next n1 wf1 hr1
      exact p1 w1 H1 _ _ h1 n1 ⟨g1.sub, g1.wf, g1.hr, g1.sl.set i r1⟩ e1
    split at h4
    · rename_i elt gs scope pos'
      simp only [Bool.and_eq_true, Bool.not_eq_true'] at h4
      obtain ⟨⟨⟨⟨k1, k2⟩, k3⟩, k4⟩, k5⟩ := h4
      obtain ⟨y', tg, iter, ifs, scope', pos2, own, wi, gg, tt, te, e0, a1, a2, a3, a4, a5, a6, a7⟩ := (ic k1 _ h3).ex
      cases e0
      have l := loc_at k3
      rw [← hs] at l
      refine (ps_setLc C.calm C.nd (by rw [C.hN]; exact h1) l (sw_true (by rw [hs]; exact fn_at k2) l k4 k5) a1 a2 a3 a4 a5 a6).imp fun D σ H q => ?_
      exact a7 σ H _ (run D σ H q)
    · exact (ps_set C.nd (by rw [C.hN]; exact h1) hl (ie.s.e v h3).e (swF h4) hf).imp run
  · cases hx
theorem s_unp {g : G} {e : E} {sc : Scope} (C : Cv Z c T lev X) (hs : X.env.scope = sc) (S : Stor X sc) (ie : SN Z X W (ev T e) (mm c e sc)) : SS Z X T c sc (.unp g e) := s_simple rfl _ rfl fun st hx => by
  split at hx
  · rename_i ts k p v pos
    simp only [Bool.and_eq_true] at hx
    obtain ⟨⟨h1, h2⟩, h3⟩ := hx
    have hw : swappedStores [.Tuple ts k p] v X.env = pure none := by
      split at h3
      · exact sw_eq (by rw [hs]; exact of_decide_eq_true h3)
      · rename_i hn
        refine sw_noTup ?_
        cases v <;> first | rfl | exact absurd rfl (hn _ _ _)
    refine (ps_asg (ie.e v h2).e ((pgz C S g).1 _ h1) swT hw rfl).imp fun D σ H ⟨w, σD, h, kx, nx, rt, bk, ct, gd, q, p1, p2, p3, p4⟩ => ?_
    simp only [evS] at q
    refine ⟨w, σD, h, _, _, gd, q, fun w1 H1 d h1 v n1 wf1 hr1 r1 e1 => ?_, px0⟩
    have g1 := gd.next n1 wf1 hr1
    cases q2 : setG g d σD with
    | none => simp only [q2] at e1; cases e1
    | some σ1 =>
      simp only [q2] at e1
      exact ⟨w1, σD, h1, d, σ1, g1.sub, g1.wf, g1.hr, g1.sl, r1, q2, fun σ2 sl2 _ => p1 w1 H1 _ _ h1 n1 ⟨g1.sub, g1.wf, g1.hr, sl2⟩ e1⟩
  · cases hx
end
end Z

namespace Z
open PySem PySem.Spec PyProof.Rows L2
section
variable {Z : Cz} {X : Cx} {W : WX} {T : Tx} {lev : Nat} {c : Ck} {w w' : Wd} {H H' : HP} {h : Hd}
theorem s_pass {sc : Scope} : SS Z X T c sc .pass := s_simple rfl _ rfl fun st hx => by
  split at hx
  · exact ps_pass.imp fun D σ H ⟨w, σD, h, kx, nx, rt, bk, ct, g, q, p1, p2, p3, p4⟩ => p1.run g q
  · cases hx
theorem s_doc {sc : Scope} : SS Z X T c sc .doc := s_simple rfl _ rfl fun st hx => by
  split at hx
  · exact ps_doc.imp fun D σ H ⟨w, σD, h, kx, nx, rt, bk, ct, g, q, p1, p2, p3, p4⟩ => p1.run g q
  · cases hx
theorem s_never {sc : Scope} : SS Z X T c sc .never := s_simple rfl _ rfl fun st hx =>
  ps_never.imp fun D σ H ⟨w, σD, h, kx, nx, rt, bk, ct, g, q, p1, p2, p3, p4⟩ => by simp only [evS] at q; cases q
theorem s_brk {sc : Scope} : SS Z X T c sc .brk := s_simple rfl _ rfl fun st hx => by
  split at hx
  · exact ps_break.imp fun D σ H ⟨w, σD, h, kx, nx, rt, bk, ct, g, q, p1, p2, p3, p4⟩ => p3.run g q
  · cases hx
theorem s_cont {sc : Scope} : SS Z X T c sc .cont := s_simple rfl _ rfl fun st hx => by
  split at hx
  · exact ps_continue.imp fun D σ H ⟨w, σD, h, kx, nx, rt, bk, ct, g, q, p1, p2, p3, p4⟩ => p4.run g q
  · cases hx
theorem s_expr {e : E} {sc : Scope} (ie : SN Z X W (ev T e) (mm c e sc)) : SS Z X T c sc (.expr e) := s_simple rfl _ rfl fun st hx => by
  split at hx
  · rename_i y pos
    simp only [Bool.and_eq_true] at hx
    refine (ps_expr (ie.e y hx.2).e (swF hx.1)).imp fun D σ H ⟨w, σD, h, kx, nx, rt, bk, ct, g, q, p1, p2, p3, p4⟩ => ?_
    simp only [evS] at q
    exact ⟨w, σD, h, _, _, g, q, fun w1 H1 d h1 v n1 wf1 hr1 r1 e1 => p1 w1 H1 _ _ h1 n1 (g.next n1 wf1 hr1) e1, px0⟩
  · cases hx
theorem s_ret {e : E} {sc : Scope} (ie : SN Z X W (ev T e) (mm c e sc)) : SS Z X T c sc (.ret e) := s_simple rfl _ rfl fun st hx => by
  split at hx
  · rename_i y pos
    refine (ps_ret (ie.e y hx).e).imp fun D σ H ⟨w, σD, h, kx, nx, rt, bk, ct, g, q, p1, p2, p3, p4⟩ => ?_
    simp only [evS] at q
    exact ⟨w, σD, h, _, _, g, q, p2, px0⟩
  · cases hx
theorem s_retn {sc : Scope} : SS Z X T c sc .retn := s_simple rfl _ rfl fun st hx => by
  split at hx
  · exact ps_retN.imp fun D σ H ⟨w, σD, h, kx, nx, rt, bk, ct, g, q, p1, p2, p3, p4⟩ => p2.run g .non q
  · cases hx
theorem s_aug {i : Nat} {o : Op} {e : E} {sc : Scope} (C : Cv Z c T lev X) (hs : X.env.scope = sc) (S : Stor X sc) (ie : SN Z X W (ev T e) (mm c e sc)) : SS Z X T c sc (.aug i o e) := s_simple rfl _ rfl fun st hx => by
  split at hx
  · rename_i y py p v pos
    simp only [Bool.and_eq_true, decide_eq_true_eq] at hx
    obtain ⟨⟨⟨h1, h2⟩, h3⟩, h4⟩ := hx
    obtain ⟨hl, hf⟩ := S y h3
    have main : ∀ {ti : TIp}, PIp X p ti → (∀ w H h x y d v z h' (Q : VK), Sub w.H H → Wf w → HR Z w h → VR Z.K Z.γ w x d → VR Z.K Z.γ w y v → augD h o d v = some (z, h') → (∀ w' H' u, Nx w H w' H' → Wf w' → HR Z w' h' → VR Z.K Z.γ w' u z → Q u H') → ti x y H Q) →
        PS X (.AugAssign (.Name y py) p v pos) (TSZ Z (evS T (.aug i o e))) := fun {ti} hp hti => by
      refine (ps_aug C.nd (by rw [C.hN]; exact h2) hl (ie.e v h4).e hp hf).imp fun D σ H ⟨w, σD, h, kx, nx, rt, bk, ct, g, q, p1, p2, p3, p4⟩ => ?_
      simp only [evS] at q
      cases q0 : getS σD i with
      | none => simp only [q0] at q; cases q
      | some d =>
        simp only [q0] at q
        obtain ⟨x, e1, rx⟩ := g.sl.at_ i d q0
        refine ⟨x, e1, w, σD, h, _, _, g, q, fun w1 H1 d2 h1 v1 n1 wf1 hr1 r1 e2 => ?_, px0⟩
        dsimp only at e2
        cases q1 : augD h1 o d d2 with
        | none => simp only [q1] at e2; cases e2
        | some zh =>
          obtain ⟨z, h2⟩ := zh
          simp only [q1] at e2
          refine hti w1 H1 h1 x v1 d d2 z h2 _ n1.sub wf1 hr1 (rx.mono n1.le g.wf) r1 q1 fun w2 H2 u n2 wf2 hr2 r2 => ?_
          have g2 := g.next (n1.trans n2) wf2 hr2
          exact p1 w2 H2 _ _ h2 (n1.trans n2) ⟨g2.sub, g2.wf, g2.hr, g2.sl.set i r2⟩ e2
    cases o with
    | add =>
      have hp : p = .Add := by cases p <;> first | rfl | cases h1
      subst hp
      refine main (OpR.or iop_add iop_ext) fun w H h x y d v z h' Q sb wf hr rx ry q0 q => ?_
      unfold augD at q0
      split at q0
      · cases q0; cases rx; cases ry
        exact .inl ⟨_, _, rfl, rfl, q _ _ _ (.refl sb) wf hr (.int _)⟩
      · rename_i n ys
        dsimp only at q0
        split at q0
        · rename_i xs q1
          split at q0
          · rename_i hf2
            cases q0
            cases rx with
            | @ref _ a ρa =>
              cases ry with
              | @lst b us _ f1 f2 f3 f4 =>
                obtain ⟨vs, e3, e4, e5⟩ := look_lst hr ρa q1
                have hf2 := few_ok hf2
                obtain ⟨n3, wf3, hr3⟩ := put_lst (es := xs ++ ys) (ys := vs ++ us) sb wf hr ρa q1 e3 (e4.append f4) (by simp; omega)
                exact .inr ⟨a, b, vs, us, rfl, rfl, sb _ _ e3, sb _ _ f1, by rw [e4.length, f4.length]; omega, q _ _ _ n3 wf3 hr3 (.ref ρa)⟩
          · cases q0
        · cases q0
      · cases q0
    | sub =>
      have hp : p = .Sub := by cases p <;> first | rfl | cases h1
      subst hp
      refine main iop_sub fun w H h x y d v z h' Q sb wf hr rx ry q0 q => ?_
      unfold augD at q0
      split at q0
      · cases q0; cases rx; cases ry
        exact ⟨_, _, rfl, rfl, q _ _ _ (.refl sb) wf hr (.int _)⟩
      · cases q0
      · cases q0
    | fdiv =>
      have hp : p = .FloorDiv := by cases p <;> first | rfl | cases h1
      subst hp
      refine main iop_fdiv fun w H h x y d v z h' Q sb wf hr rx ry q0 q => ?_
      unfold augD at q0
      split at q0
      · dsimp only at q0
        split at q0
        · rename_i hj
          cases q0; cases rx; cases ry
          exact ⟨_, _, rfl, rfl, hj, q _ _ _ (.refl sb) wf hr (.int _)⟩
        · cases q0
      · cases q0
      · cases q0
    | _ =>
      refine main (ti := fun _ _ _ _ => False) (fun _ _ _ _ _ _ _ _ _ _ _ _ z => z.elim) fun w H h x y d v z h' Q sb wf hr rx ry q0 q => ?_
      unfold augD at q0
      split at q0 <;> cases q0
  · cases hx
theorem s_par {is : List Nat} {e : E} {sc : Scope} (C : Cv Z c T lev X) (hs : X.env.scope = sc) (ie : SN Z X W (ev T e) (mm c e sc)) : SS Z X T c sc (.par is e) := s_simple rfl _ rfl fun st hx => by
  split at hx
  · rename_i a pa b pb kt pt x1 x2 k2 pt2 pos
    split at hx
    · rename_i i j
      simp only [Bool.and_eq_true, decide_eq_true_eq] at hx
      obtain ⟨⟨⟨⟨⟨⟨h1, h2⟩, h3⟩, h4⟩, h5⟩, h6⟩, h7⟩ := hx
      have la := loc_at h4
      have lb := loc_at h5
      rw [← hs] at la lb
      refine (ps_par C.calm C.nd (by rw [C.hN]; exact h1) (by rw [C.hN]; exact h2) h3 la lb (ie.l _ h6) (sw_eq (by rw [hs]; exact h7)) swT).imp fun D σ H ⟨w, σD, h, kx, nx, rt, bk, ct, g, q, p1, p2, p3, p4⟩ => ?_
      simp only [evS] at q
      refine ⟨w, σD, h, _, _, g, q, fun w1 H1 ds h1 vs n1 wf1 hr1 r1 l1 e1 => ?_, px0⟩
      match ds, l1 with
      | [d1, d2], _ =>
        obtain ⟨v1, v2, rfl, rv1, rv2⟩ := vrs2 r1
        have g1 := g.next n1 wf1 hr1
        refine ⟨v1, v2, rfl, p1 w1 H1 _ (setS (setS σD j d2) i d1) h1 n1 ⟨g1.sub, g1.wf, g1.hr, ?_⟩ e1⟩
        rw [List.set_comm _ _ h3]
        exact (g1.sl.set j rv2).set i rv1
    · cases hx
  · rename_i a pa b pb d pd kt pt x1 x2 x3 k2 pt2 pos
    split at hx
    · rename_i i j l
      simp only [Bool.and_eq_true, decide_eq_true_eq] at hx
      obtain ⟨⟨⟨⟨⟨⟨⟨⟨⟨⟨h1, h2⟩, h2'⟩, h3⟩, h3'⟩, h3''⟩, h4⟩, h5⟩, h5'⟩, h6⟩, h7⟩ := hx
      have la := loc_at h4
      have lb := loc_at h5
      have ld := loc_at h5'
      rw [← hs] at la lb ld
      refine (ps_par3 C.calm C.nd (by rw [C.hN]; exact h1) (by rw [C.hN]; exact h2) (by rw [C.hN]; exact h2') h3 h3' h3'' la lb ld (ie.l _ h6) (sw_eq (by rw [hs]; exact h7)) swT).imp fun D σ H ⟨w, σD, h, kx, nx, rt, bk, ct, g, q, p1, p2, p3, p4⟩ => ?_
      simp only [evS] at q
      refine ⟨w, σD, h, _, _, g, q, fun w1 H1 ds h1 vs n1 wf1 hr1 r1 l1 e1 => ?_, px0⟩
      match ds, l1 with
      | [d1, d2, d3], _ =>
        cases r1 with
        | cons rv1 r1 =>
          obtain ⟨v2, v3, rfl, rv2, rv3⟩ := vrs2 r1
          have g1 := g.next n1 wf1 hr1
          refine ⟨_, v2, v3, rfl, p1 w1 H1 _ (setS (setS (setS σD l d3) j d2) i d1) h1 n1 ⟨g1.sub, g1.wf, g1.hr, ?_⟩ e1⟩
          rw [List.set_comm _ _ h3, List.set_comm _ _ h3', List.set_comm _ _ h3'']
          exact ((g1.sl.set l rv3).set j rv2).set i rv1
    · cases hx
  · cases hx
end
end Z

namespace Z
open PySem PySem.Spec PyProof.Rows L2
section
variable {Z : Cz} {X : Cx} {W : WX} {T : Tx} {lev : Nat} {c : Ck} {w w' : Wd} {H H' : HP} {h : Hd}
theorem s_skip {sc : Scope} : SS Z X T c sc .skip := by
  refine ⟨(fun st q => nomatch q), fun sts q => ?_⟩
  cases sts with
  | nil => exact pss_nil.imp fun D σ H ⟨w, σD, h, kx, nx, rt, bk, ct, g, q, p1, p2, p3, p4⟩ => p1.run g q
  | cons => cases q
theorem s_seq {a b : S} {sc : Scope} (ia : SS Z X T c sc a) (ib : SS Z X T c sc b) : SS Z X T c sc (.seq a b) := by
  refine ⟨(fun st q => nomatch q), fun sts q => ?_⟩
  cases sts with
  | nil => cases q
  | cons st r =>
    have q : ((ms c a sc).s st && (ms c b sc).ss r) = true := q
    simp only [Bool.and_eq_true] at q
    refine (pss_cons (ia.s st q.1) (ib.ss r q.2)).imp fun D σ H ⟨w, σD, h, kx, nx, rt, bk, ct, g, q, p1, p2, p3, p4⟩ => ?_
    simp only [evS] at q
    exact ⟨w, σD, h, kx, _, rt, bk, ct, g, q, fun w1 H1 σ1 σD1 h1 n1 g1 e1 => ⟨w1, σD1, h1, kx, nx, rt, bk, ct, g1, e1, p1.next n1, p2.next n1, p3.next n1, p4.next n1⟩, p2, p3, p4⟩
theorem keep_get : ∀ (ks : List Bool) (s : Sg) (j : Nat) (d : D), getS (keep ks s) j = some d → getS s j = some d
  | [], _, j, _, e => by simp only [keep, getS_nil] at e; cases e
  | _ :: _, [], j, _, e => by simp only [keep, getS_nil] at e; cases e
  | true :: _, o :: _, 0, _, e => e
  | false :: _, o :: _, 0, _, e => by cases e
  | _ :: ks, _ :: r, j + 1, d, e => keep_get ks r j d e
theorem keep_len : ∀ (ks : List Bool) (s : Sg), (keep ks s).length ≤ s.length
  | [], s => Nat.zero_le _
  | _ :: _, [] => Nat.zero_le _
  | _ :: ks, _ :: r => Nat.succ_le_succ (keep_len ks r)
theorem look_up : ∀ (es : List (Nat × O)) (n : Nat) (o : O), look (upE es) n = some o → ∃ u, look es n = some u ∧ o = upO u
  | [], _, _, e => by cases e
  | (l, u) :: r, n, o, e => by
    simp only [upE, look] at e ⊢
    cases q : Nat.beq l n with
    | true => simp only [q] at e; exact ⟨u, rfl, by cases e; rfl⟩
    | false => simp only [q] at e; exact look_up r n o e
theorem OR.up {a : Addr} : ∀ {o : O}, OR Z w a o → OR Z w a (upO o)
  | .lst _, r => r
  | .ins _ _, r => r
  | .pen c, r => by
    obtain ⟨b, ns, i, g, n, f, e1, e2, e3, e4, e5, e6, e7, e8, e9⟩ := r
    refine ⟨b, ns, i, g, n, f, e1, e2, e3, e4, e5, e6, e7, ?_, e9⟩
    have : c ≤ (c / 64 + 1) * 64 := by omega
    omega
theorem HR.up (hr : HR Z w h) : HR Z w (upH h) := ⟨fun n o e => by
  obtain ⟨u, e1, e2⟩ := look_up h.es n o e
  obtain ⟨a, z, r⟩ := hr.at_ n u e1
  subst e2
  exact ⟨a, z, r.up⟩, hr.nx, hr.inj⟩
theorem s_drop {ks : List Bool} {b : S} {sc : Scope} (ib : SS Z X T c sc b) : SS Z X T c sc (.drop ks b) :=
  ⟨(fun st q => nomatch q), fun sts q => (ib.ss sts q).imp fun D σ H ⟨w, σD, h, kx, nx, rt, bk, ct, g, e, p⟩ => by
    simp only [evS] at e
    exact ⟨w, _, _, kx, nx, rt, bk, ct, ⟨g.sub, g.wf, g.hr.up, ⟨Nat.le_trans (keep_len _ _) g.sl.len, fun i d z => g.sl.at_ i d (keep_get _ _ _ _ z)⟩⟩, e, p⟩⟩
theorem s_if {t : E} {a b : S} {sc : Scope} (it : SN Z X W (ev T t) (mm c t sc)) (ia : SS Z X T c sc a) (ib : SS Z X T c sc b) : SS Z X T c sc (.ifs t a b) := s_simple rfl _ rfl fun st hx => by
  split at hx
  · rename_i u p q pos
    simp only [Bool.and_eq_true] at hx
    refine (ps_if (it.e u hx.1.1).t (ia.ss p hx.1.2) (ib.ss q hx.2)).imp fun D σ H ⟨w, σD, h, kx, nx, rt, bk, ct, g, q, p1, p2, p3, p4⟩ => ?_
    simp only [evS] at q
    refine ⟨w, σD, h, _, _, g, q, fun w1 H1 d h1 v n1 wf1 hr1 r1 e1 => ?_, px0⟩
    have g1 := g.next n1 wf1 hr1
    cases q0 : truth h1 d with
    | none => simp only [q0] at e1; cases e1
    | some k =>
      simp only [q0] at e1
      refine ⟨k, rfl, ?_⟩
      cases k with
      | true =>
        simp only [if_true]
        exact ⟨w1, σD, h1, kx, nx, rt, bk, ct, g1, e1, p1.next n1, p2.next n1, p3.next n1, p4.next n1⟩
      | false =>
        simp only [Bool.false_eq_true, if_false]
        exact ⟨w1, σD, h1, kx, nx, rt, bk, ct, g1, e1, p1.next n1, p2.next n1, p3.next n1, p4.next n1⟩
  · cases hx
theorem s_for {g : G} {it : E} {b : S} {sc : Scope} (C : Cv Z c T lev X) (S : Stor X sc) (hp : PassesOwn (model X.prog X.w) X.A X.env X.xe) (ii : SM Z X W T c sc it) (ib : SS Z X T c sc b) : SS Z X T c sc (.for_ g it b) := s_simple rfl _ rfl fun st hx => by
  split at hx
  · rename_i tg iter body pos
    simp only [Bool.and_eq_true] at hx
    obtain ⟨⟨⟨h1, h2⟩, h3⟩, h4⟩ := hx
    refine (ps_for hp C.calm (ii.i tg iter h2) ((pgz C S g).1 tg h1) (ib.ss body h4) (set_pure h3)).imp fun D σ H ⟨w, σD, h, kx, nx, rt, bk, ct, gd, q, p1, p2, p3, p4⟩ => ?_
    simp only [evS] at q
    refine ⟨w, σD, h, _, _, gd, q, fun w1 H1 d h1 cu J Rl n1 wf1 hr1 ec CO R0 e1 => ?_, fun w1 H1 d h1 n1 wf1 hr1 e1 => ?_, px0⟩
    · rw [ec] at e1
      dsimp only at e1
      have g1 := gd.next n1 wf1 hr1
      refine ⟨fun i m σ' Hc => ∃ w' h' cu' σD', Nx w1 H1 w' Hc ∧ Good Z w' Hc σ' σD' h' ∧ Rl i cu' w' ∧ forL g (fun σ1 h2 n1 b1 => evS T b σ1 h2 kx n1 rt b1 n1) m cu' σD' h' nx = true, ⟨big, w1, h1, cu, σD, .refl g1.sub, g1, R0, e1⟩, ?_⟩
      rintro i m σ' Hc ⟨w', h', cu', σD', n2, g2, R2, e2⟩
      cases m with
      | zero => cases e2
      | succ m =>
        simp only [forL] at e2
        cases q : step h' cu' with
        | none => simp only [q] at e2; cases e2
        | some st =>
          cases st with
          | none =>
            simp only [q] at e2
            exact .inl ⟨CO.stop i cu' w' Hc h' R2 g2.sub g2.wf g2.hr q, p1 w' Hc σ' σD' h' (n1.trans n2) g2 e2⟩
          | some xc =>
            obtain ⟨x, c'⟩ := xc
            simp only [q] at e2
            obtain ⟨go, yl⟩ := CO.go i cu' w' Hc h' x c' R2 g2.sub g2.wf g2.hr q
            refine .inr ⟨go, fun σ4 H4 => ∃ w4 h4 σD4, Nx w1 H1 w4 H4 ∧ Good Z w4 H4 σ4 σD4 h4 ∧ Rl (i + 1) c' w4 ∧ forL g (fun σ1 h2 n1 b1 => evS T b σ1 h2 kx n1 rt b1 n1) m c' σD4 h4 nx = true,
              fun σ4 H4 ⟨w4, h4, σD4, a1, a2, a3, a4⟩ => ⟨m, Nat.lt_succ_self m, w4, h4, c', σD4, a1, a2, a3, a4⟩, fun v Hy y => ?_⟩
            obtain ⟨w2, n3, wf3, hr3, rx, R3⟩ := yl v Hy y
            have g3 := g2.next n3 wf3 hr3
            cases q1 : setG g x σD' with
            | none => simp only [q1] at e2; cases e2
            | some σ1 =>
              simp only [q1] at e2
              refine ⟨w2, σD', h', x, σ1, g3.sub, g3.wf, g3.hr, g3.sl, rx, q1, fun σ2 sl2 _ => ?_⟩
              refine ⟨w2, σ1, h', kx, _, rt, _, _, ⟨g3.sub, g3.wf, g3.hr, sl2⟩, e2, fun w5 H5 σ5 σD5 h5 n5 g5 e5 => ?_, ?_, ?_, fun w5 H5 σ5 σD5 h5 n5 g5 e5 => ?_⟩
              · exact ⟨w5, h5, σD5, (n2.trans n3).trans n5, g5, CO.mono _ _ _ _ R3 n5.le wf3, e5⟩
              · exact ((p2.next n1).next n2).next n3
              · exact ((p1.next n1).next n2).next n3
              · exact ⟨w5, h5, σD5, (n2.trans n3).trans n5, g5, CO.mono _ _ _ _ R3 n5.le wf3, e5⟩
    · split at e1
      · rename_i cu q
        rw [q]; rfl
      · cases e1
  · cases hx
theorem s_whl {t : E} {b : S} {sc : Scope} (C : Cv Z c T lev X) (hp : PassesOwn (model X.prog X.w) X.A X.env X.xe) (it : SN Z X W (ev T t) (mm c t sc)) (ib : SS Z X T c sc b) : SS Z X T c sc (.whl t b) := s_simple rfl _ rfl fun st hx => by
  split at hx
  · rename_i u body pos
    simp only [Bool.and_eq_true] at hx
    refine (ps_while hp (it.e u hx.1).t (ib.ss body hx.2)).imp fun D σ H ⟨w, σD, h, kx, nx, rt, bk, ct, gd, q, p1, p2, p3, p4⟩ => ?_
    simp only [evS] at q
    refine ⟨fun m σ' Hc => ∃ w' h' σD', Nx w H w' Hc ∧ Good Z w' Hc σ' σD' h' ∧ whlL (fun σ1 h1 k => ev T t σ1 h1 (at_ kx σ1) fun d h2 => match truth h2 d with | some t => k t h2 | none => false) (fun σ1 h2 n1 b1 => evS T b σ1 h2 kx n1 rt b1 n1) m σD' h' nx = true, ⟨big, w, h, σD, .refl gd.sub, gd, q⟩, ?_⟩
    rintro m σ' Hc ⟨w', h', σD', n2, g2, e2⟩
    cases m with
    | zero => cases e2
    | succ m =>
      simp only [whlL] at e2
      refine ⟨w', σD', h', _, _, g2, e2, fun w3 H3 d h3 v n3 wf3 hr3 r3 e3 => ?_, px0⟩
      have g3 := g2.next n3 wf3 hr3
      cases q0 : truth h3 d with
      | none => simp only [q0] at e3; cases e3
      | some k =>
        simp only [q0] at e3
        refine ⟨k, rfl, ?_⟩
        cases k with
        | false =>
          simp only [Bool.false_eq_true, if_false]
          exact p1 w3 H3 σ' σD' h3 (n2.trans n3) g3 e3
        | true =>
          simp only [if_true]
          refine ⟨fun σ4 H4 => ∃ w4 h4 σD4, Nx w H w4 H4 ∧ Good Z w4 H4 σ4 σD4 h4 ∧ whlL (fun σ1 h1 k => ev T t σ1 h1 (at_ kx σ1) fun d h2 => match truth h2 d with | some t => k t h2 | none => false) (fun σ1 h2 n1 b1 => evS T b σ1 h2 kx n1 rt b1 n1) m σD4 h4 nx = true,
            fun σ4 H4 ⟨w4, h4, σD4, a1, a2, a3⟩ => ⟨m, Nat.lt_succ_self m, w4, h4, σD4, a1, a2, a3⟩, ?_⟩
          refine ⟨w3, σD', h3, kx, _, rt, _, _, g3, e3, fun w5 H5 σ5 σD5 h5 n5 g5 e5 => ⟨w5, h5, σD5, (n2.trans n3).trans n5, g5, e5⟩, (p2.next n2).next n3, (p1.next n2).next n3, fun w5 H5 σ5 σD5 h5 n5 g5 e5 => ⟨w5, h5, σD5, (n2.trans n3).trans n5, g5, e5⟩⟩
  · cases hx
theorem SS.none {sc : Scope} {q : S} (hm : ms c q sc = ⟨fun _ => false, fun _ => false⟩) : SS Z X T c sc q :=
  ⟨(fun st e => by rw [hm] at e; cases e), (fun st e => by rw [hm] at e; cases e)⟩
/-- a name = [..] -/
theorem cp_of {e : E} {sc : Scope} (C : Cv Z c T lev X) (hs : X.env.scope = sc) (tk : Takes X W) (hc : isCmp e = true) (v : Expr) (hv : (mm c e sc).e v = true) : CP X v (TZ Z W (ev T e)) := by
  have main : ∀ own elt g it cnd, (mm c (.comp own elt g it cnd) sc).e v = true → CP X v (TLZ Z W (ev T (.comp own elt g it cnd))) := fun own elt g it cnd hv =>
    (cp_comp C hs (snd it C hs tk) (fun _ _ _ C' hs' tk' => snd elt C' hs' tk') (fun _ _ _ C' hs' tk' => snd cnd C' hs' tk') v hv).1
  cases e with
  | comp own elt g it cnd => exact (main own elt g it cnd hv).imp fun σ H Q ⟨w, σD, h, kx, k, g, e, p, px⟩ => ⟨w, σD, h, kx, k, g, e, p.froz, px⟩
  | allo e =>
    cases e with
    | comp own elt g it cnd =>
      have hv : (isAl (.comp own elt g it cnd) && (mm c (.comp own elt g it cnd) sc).e v) = true := hv
      simp only [Bool.and_eq_true] at hv
      exact (main own elt g it cnd hv.2).imp fun σ H Q ⟨w, σD, h, kx, k, g, e, p, px⟩ => by
        simp only [ev] at e
        exact ⟨w, σD, h, kx, allo k, g, e, p.allo, px⟩
    | _ => cases hc
  | _ => cases hc
theorem sndS {sc : Scope} (C : Cv Z c T lev X) (hs : X.env.scope = sc) (St : Stor X sc) (tk : Takes X W) (hp : PassesOwn (model X.prog X.w) X.A X.env X.xe) : ∀ s : S, SS Z X T c sc s
  | .skip => s_skip
  | .seq a b => s_seq (sndS C hs St tk hp a) (sndS C hs St tk hp b)
  | .pass => s_pass
  | .doc => s_doc
  | .never => s_never
  | .brk => s_brk
  | .cont => s_cont
  | .expr e => s_expr (snd e C hs tk).s
  | .set i e => s_set C hs St (snd e C hs tk) fun ic v hv => cp_of C hs tk ic v hv
  | .unp g e => s_unp C hs St (snd e C hs tk).s
  | .par is e => s_par C hs (snd e C hs tk).s
  | .aug i o e => s_aug C hs St (snd e C hs tk).s
  | .ifs t a b => s_if (snd t C hs tk).s (sndS C hs St tk hp a) (sndS C hs St tk hp b)
  | .for_ g it b => s_for C St hp (snd it C hs tk) (sndS C hs St tk hp b)
  | .whl t b => s_whl C hp (snd t C hs tk).s (sndS C hs St tk hp b)
  | .ret e => s_ret (snd e C hs tk).s
  | .retn => s_retn
  | .drop ks b => s_drop (sndS C hs St tk hp b)
  | .sattr _ _ _ _ => .none rfl
  | .sitem _ _ _ => .none rfl
  | .augitem _ _ _ _ => .none rfl
end
end Z

namespace Z
open PySem PySem.Spec PyProof.Rows L2
section
variable {Z : Cz} {w w' : Wd} {H H' : HP} {h : Hd}
theorem look_cut : ∀ (es : List (Nat × O)) (n m : Nat) (o : O), look (cut es n) m = some o → look es m = some o
  | [], _, _, _, e => by cases e
  | (l, u) :: r, n, m, o, e => by
    simp only [cut] at e
    cases q : Nat.ble n l with
    | true =>
      simp only [q] at e
      have e2 := look_cut r n m o e
      have hm : ¬ n ≤ m := fun hle => cut_out r n m hle o e
      simp only [look]
      cases z : Nat.beq l m with
      | true =>
        have := Nat.eq_of_beq_eq_true z
        have := Nat.le_of_ble_eq_true q
        omega
      | false => exact e2
    | false =>
      simp only [q] at e
      simp only [look] at e ⊢
      cases z : Nat.beq l m with
      | true => simp only [z] at e; exact e
      | false => simp only [z] at e; exact look_cut r n m o e
where
  cut_out : ∀ (r : List (Nat × O)) (n m : Nat), n ≤ m → ∀ o, look (cut r n) m = some o → False
  | [], _, _, _, _, e => by cases e
  | (l, u) :: r, n, m, hle, o, e => by
    simp only [cut] at e
    cases q : Nat.ble n l with
    | true => simp only [q] at e; exact cut_out r n m hle o e
    | false =>
      simp only [q, look] at e
      cases z : Nat.beq l m with
      | true =>
        have := Nat.eq_of_beq_eq_true z
        subst this
        have : Nat.ble n l = true := Nat.ble_eq_true_of_le hle
        rw [this] at q; cases q
      | false => simp only [z] at e; exact cut_out r n m hle o e
theorem HR.cut (hr : HR Z w h) (n : Nat) : HR Z w ⟨h.nx, _root_.Z.cut h.es n⟩ := ⟨fun m o e => hr.at_ m o (look_cut _ _ _ _ e), hr.nx, hr.inj⟩
theorem blanks_len : ∀ n, (blanks n).length = n
  | 0 => rfl
  | n + 1 => by simp [blanks, blanks_len n]
theorem begin_len : ∀ (ds : List D) (n : Nat), ds.length ≤ n → (begin ds n).length = n
  | [], n, _ => blanks_len n
  | d :: ds, 0, e => by simp at e
  | d :: ds, n + 1, e => by simp [begin, begin_len ds n (by simpa using e)]
theorem blanks_get : ∀ n i, getS (blanks n) i = none
  | 0, i => getS_nil i
  | n + 1, 0 => rfl
  | n + 1, i + 1 => blanks_get n i
theorem begin_get : ∀ (ds : List D) (n i : Nat) (d : D), ds.length ≤ n → getS (begin ds n) i = some d → ds[i]? = some d
  | [], n, i, d, _, e => by rw [show begin [] n = blanks n by cases n <;> rfl, blanks_get] at e; cases e
  | d0 :: ds, 0, i, d, l, e => by simp at l
  | d0 :: ds, n + 1, 0, d, l, e => by
    have e : some d0 = some d := e
    simpa using e
  | d0 :: ds, n + 1, i + 1, d, l, e => by
    have e : getS (begin ds n) i = some d := e
    simpa using begin_get ds n i d (by simpa using l) e
theorem slots0 {N : List Str} {vs : List V} {ds : List D} {n : Nat} (r : VRs Z.K Z.γ w vs ds) (hn : N.length = n) (hl : ds.length ≤ n) : Slots Z w (L2.start N vs) (begin ds n) := by
  have l := r.length
  refine ⟨?_, fun i d e => ?_⟩
  · rw [begin_len ds n hl]
    unfold L2.start
    rw [List.length_append, List.length_map, List.length_replicate]
    omega
  · obtain ⟨v, e1, rv⟩ := r.get (begin_get ds n i d hl e)
    refine ⟨v, ?_, rv⟩
    unfold L2.start
    have hi : i < vs.length := (List.getElem?_eq_some_iff.mp e1).1
    rw [List.getElem?_append_left (by simpa using hi), List.getElem?_map, e1]
    rfl
end
/-- what the module tells -/
structure Gf (Z : Cz) (mg : Str → Option Value) (gn : Nat → Option Str) (df : Nat → Bool) (C : Nat → Option D) : Prop where
  glb : ∀ n d, C n = some d → ∀ id, gn n = some id → ∃ u v, mg id = some u ∧ RelV v u ∧ ∀ w, VR Z.K Z.γ w v d
  adr : ∀ f id, gn f = some id → df f = true → ∃ a, Z.γ f = some a ∧ mg id = some (.ref a)
  blt : ∀ b, b ≠ Bi.gcd → mg (biName b) = none
  gcd : mg "gcd" = some (.builtin "math.gcd")
  more : ∀ x ∈ (["isinstance", "range", "enumerate", "zip", "int", "bool", "str", "tuple", "list"] : List Str), mg x = none
/-- a native's promise -/
def spN (Z : Cz) (t : List D → Hd → K1 → Bool) : Sp := fun vs H Q E => ∃ w ds h k, Sub w.H H ∧ Wf w ∧ HR Z w h ∧ VRs Z.K Z.γ w vs ds ∧ t ds h k = true ∧ PostV Z w H k Q
section
variable {Z : Cz} {prog : Program} {w : World} {mg : Str → Option Value} {base : Heap} {gn : Nat → Option Str} {fnm : Nat → Str} {df : Nat → Bool} {P : Nat → Option Fd} {C : Nat → Option D} {Nn : Nat → Option (List D → Hd → K1 → Bool)} {M : Nat → List D → Option D}
abbrev FK (Z : Cz) (prog : Program) (w : World) (mg : Str → Option Value) (base : Heap) (A : Nat → Addr) (FD : Nat → FuncData) (PS : Nat → List Str) (k f : Nat) (sp : Sp) : Prop :=
  Z.γ f = some (A f) ∧ PySem.W.keepIn Z.K (.ref (A f)) = true ∧ Binds Z.K (FD f) (PS f) [] ∧ FnOk prog w Z.K mg base (L2.CX prog w) k (A f) (FD f) (PS f) sp
/-- what is told of each def: where it stands, what the check says -/
def DefOk (Z : Cz) (gn : Nat → Option Str) (fnm : Nat → Str) (df : Nat → Bool) (A : Nat → Addr) (FD : Nat → FuncData) (PS : Nat → List Str) (f : Nat) (d : Fd) : Prop :=
  ∃ x qual params body scope N, Z.γ f = some (A f) ∧ FunD Z.K x qual params body scope [] [] (A f) (FD f) ∧ Binds Z.K (FD f) (PS f) [] ∧ FnScope N (PS f) scope ∧ (PS f).length = d.np ∧ N.length = d.ns ∧ d.np ≤ d.ns ∧ (ms ⟨N, gn, fnm, df⟩ d.body scope).ss body = true
variable {A : Nat → Addr} {FD : Nat → FuncData} {PS : Nat → List Str}
/-- known runs -/
def mt (m : List D → Option D) (ds : List D) (h : Hd) (k : K1) : Bool := match m ds with | some r => k r h | none => false
theorem FnOk_or {prog : Program} {w : World} {K : PySem.W.Frag} {mg : Str → Option Value} {base : Heap} {CX : CXT} {k : Nat} {f : Addr} {fd : FuncData} {ps : List Str} {s1 s2 : Sp} (a : FnOk prog w K mg base CX k f fd ps s1) (b : FnOk prog w K mg base CX k f fd ps s2) : FnOk prog w K mg base CX k f fd ps fun vs H Q E => s1 vs H Q E ∨ s2 vs H Q E :=
  ⟨fun vs H Q E h => h.elim (fun h => a.len vs H Q E h) fun h => b.len vs H Q E h, fun A outer s H args us vs Q E hr e0 hb hv h => h.elim (fun h => a.run A outer s H args us vs Q E hr e0 hb hv h) fun h => b.run A outer s H args us vs Q E hr e0 hb hv h⟩
/-- a run that is not known ahead -/
def spB (Z : Cz) (T : Tx) (f : Nat) (m : List D → Option D) : Sp := fun vs H Q E => ∃ w ds h kx k, Sub w.H H ∧ Wf w ∧ HR Z w h ∧ VRs Z.K Z.γ w vs ds ∧ T.F f ds h kx k = true ∧ PostV Z w H k Q ∧ PostE Z w H kx E ∧ m ds = none
theorem fnz (G : Gf Z mg gn df C) (hfn : fnm = Z.fn) (k0 : Nat) (hD : ∀ f d, P f = some d → DefOk Z gn fnm df A FD PS f d) (hdf : ∀ f, df f = true → (P f).isSome = true ∨ (Nn f).isSome = true)
    (hN : ∀ f t, Nn f = some t → FK Z prog w mg base A FD PS k0 f (spN Z t)) (hM : ∀ f, df f = true → FK Z prog w mg base A FD PS k0 f (spN Z (mt (M f)))) : ∀ (n f : Nat), df f = true → FK Z prog w mg base A FD PS (k0 + n) f (spZ Z ⟨call P C Nn M n, C⟩ f) := by
  intro n
  induction n with
  | zero =>
    intro f hf
    obtain ⟨e1, kp, B, F⟩ := hM f hf
    refine ⟨e1, kp, B, F.imp fun vs H Q E h => ?_⟩
    obtain ⟨_, _, _, _, _, _, _, _, _, z, _⟩ := h; cases z
  | succ n ih =>
    intro f hf
    have main : FK Z prog w mg base A FD PS (k0 + (n + 1)) f (spB Z ⟨call P C Nn M (n + 1), C⟩ f (M f)) := by
      cases qn : Nn f with
      | some t =>
        obtain ⟨e1, kp, B, F⟩ := hN f t qn
        refine ⟨e1, kp, B, (F.imp fun vs H Q E h => ?_).mono (by omega)⟩
        obtain ⟨w1, ds, h1, kx, k, sb, wf, hr, r, e, p, _, qm⟩ := h
        simp only [_root_.Z.call, qm, qn] at e
        exact ⟨w1, ds, h1, k, sb, wf, hr, r, e, p⟩
      | none =>
        cases q : P f with
        | none => have z := hdf f hf; rw [q, qn] at z; rcases z with z | z <;> cases z
        | some d =>
          obtain ⟨x, qual, params, body, scope, N, e1, F, B, S, l1, l2, l3, ck⟩ := hD f d q
          refine ⟨e1, F.kp, B, F.ok S (fun vs H Q E h => ?_) fun cdv A' outer s H vs Q E hr h => ?_⟩
          · obtain ⟨w1, ds, h1, kx, k, sb, wf, hr, r, e, p, _, qm⟩ := h
            simp only [_root_.Z.call, qm, qn, q] at e
            split at e
            · rename_i hl
              rw [r.length, l1]
              exact Nat.eq_of_beq_eq_true hl
            · cases e
          · obtain ⟨w1, ds, h1, kx, k, sb, wf, hr1, r, e, p, _, qm⟩ := h
            have Cx0 : Cv Z ⟨N, gn, fnm, df⟩ ⟨_root_.Z.call P C Nn M n, C⟩ (k0 + n) (cxOf (L2.CX prog w) prog w Z.K mg base N qual scope (A f) cdv A' outer s H E) :=
              ⟨rfl, rfl, S.nd, rfl, hr, hfn, G.glb, fun g id h2 h3 => ⟨⟨⟨_, _, _, ih g h3⟩⟩, G.adr g id h2 h3⟩, G.blt, G.gcd, G.more⟩
            have ss := (sndS (T := ⟨_root_.Z.call P C Nn M n, C⟩) Cx0 rfl (fun y hy => ⟨loc_ok rfl hy, .inl rfl⟩) (takes_of rfl rfl rfl rfl) (passes_of rfl) d.body).ss body ck
            refine ⟨_, ss, ?_⟩
            simp only [_root_.Z.call, qm, qn, q] at e
            split at e
            · rename_i hl
              have hl := Nat.eq_of_beq_eq_true hl
              have gd : Good Z w1 H (L2.start N vs) (begin ds d.ns) h1 := ⟨sb, wf, hr1, slots0 r l2 (by omega)⟩
              split at e
              · exact ⟨w1, _, h1, _, _, _, _, _, gd, e, fun w2 H2 σ2 σD2 h2 n2 g2 e2 => p w2 H2 _ _ _ n2 g2.wf (g2.hr.cut _) .non e2, fun w2 H2 d2 h2 v2 n2 wf2 hr2 r2 e2 => p w2 H2 _ _ _ n2 wf2 (hr2.cut _) r2 e2, postN0, postN0⟩
              · exact ⟨w1, _, h1, _, _, _, _, _, gd, e, fun w2 H2 σ2 σD2 h2 n2 g2 e2 => p w2 H2 _ _ _ n2 g2.wf g2.hr .non e2, p, postN0, postN0⟩
            · cases e
    obtain ⟨e1, kp, B, F1⟩ := hM f hf
    obtain ⟨_, _, _, F2⟩ := main
    refine ⟨e1, kp, B, (FnOk_or (F1.mono (show k0 ≤ k0 + (n + 1) by omega)) F2).imp fun vs H Q E h => ?_⟩
    obtain ⟨w1, ds, h1, kx, k, sb, wf, hr, r, e, p, px⟩ := h
    cases qm : M f ds with
    | none => exact .inr ⟨w1, ds, h1, kx, k, sb, wf, hr, r, e, p, px, qm⟩
    | some d =>
      simp only [_root_.Z.call, qm] at e
      exact .inl ⟨w1, ds, h1, k, sb, wf, hr, r, by simp only [mt, qm]; exact e, p⟩
end
end Z

namespace Z
/-! ### the same evaluation, laid for the kernel: bare recursors, numbers brought to figures -/
noncomputable section
def nat' (n : Nat) (f : Nat → Bool) : Bool := Nat.rec (motive := fun _ => Bool) (f 0) (fun m _ => f (Nat.succ m)) n
theorem nat'_eq (n : Nat) (f : Nat → Bool) : nat' n f = f n := by cases n <;> rfl
def int' (i : Int) (f : Int → Bool) : Bool := Int.rec (motive := fun _ => Bool) (fun n => nat' n fun n => f (.ofNat n)) (fun n => nat' n fun n => f (.negSucc n)) i
theorem int'_eq (i : Int) (f : Int → Bool) : int' i f = f i := by cases i with
  | ofNat n => exact nat'_eq n fun n => f (.ofNat n)
  | negSucc n => exact nat'_eq n fun n => f (.negSucc n)
def bool' (b : Bool) (f : Bool → Bool) : Bool := Bool.rec (motive := fun _ => Bool) (f false) (f true) b
theorem bool'_eq (b : Bool) (f : Bool → Bool) : bool' b f = f b := by cases b <;> rfl
def optB {α : Type} (o : Option α) (f : α → Bool) : Bool := Option.rec (motive := fun _ => Bool) false f o
theorem optB_eq {α : Type} (o : Option α) (f : α → Bool) : optB o f = match o with | some v => f v | none => false := by cases o <;> rfl
/-- an int, or else -/
def elI (d : D) (f : Int → Bool) (g : Bool) : Bool := D.rec (motive_1 := fun _ => Bool) (motive_2 := fun _ => Bool) g (fun _ => g) f (fun _ => g) (fun _ _ => g) (fun _ _ => g) (fun _ => g) (fun _ => g) false (fun _ _ _ _ => false) d
theorem elI_eq (d : D) (f : Int → Bool) (g : Bool) : elI d f g = match d with | .int i => f i | _ => g := by cases d <;> rfl
def onT (d : D) (f : List D → Bool) : Bool := D.rec (motive_1 := fun _ => Bool) (motive_2 := fun _ => Bool) false (fun _ => false) (fun _ => false) (fun _ => false) (fun ds _ => f ds) (fun _ _ => false) (fun _ => false) (fun _ => false) false (fun _ _ _ _ => false) d
theorem onT_eq (d : D) (f : List D → Bool) : onT d f = match d with | .tup ds => f ds | _ => false := by cases d <;> rfl
def onL (d : D) (f : List D → Bool) : Bool := D.rec (motive_1 := fun _ => Bool) (motive_2 := fun _ => Bool) false (fun _ => false) (fun _ => false) (fun _ => false) (fun _ _ => false) (fun ds _ => f ds) (fun _ => false) (fun _ => false) false (fun _ _ _ _ => false) d
theorem onL_eq (d : D) (f : List D → Bool) : onL d f = match d with | .lst ds => f ds | _ => false := by cases d <;> rfl
def consB (xs : List D) (n : Bool) (f : D → List D → Bool) : Bool := List.rec (motive := fun _ => Bool) n (fun x r _ => f x r) xs
theorem consB_eq (xs : List D) (n : Bool) (f : D → List D → Bool) : consB xs n f = match xs with | [] => n | x :: r => f x r := by cases xs <;> rfl
/-! numbers -/
def negN (n : Nat) : Int := Nat.rec (motive := fun _ => Int) (.ofNat 0) (fun m _ => .negSucc m) n
theorem negN_eq (n : Nat) : negN n = Int.negOfNat n := by cases n <;> rfl
def subN (a b : Nat) : Int := Nat.rec (motive := fun _ => Int) (.ofNat (Nat.sub a b)) (fun k _ => .negSucc k) (Nat.sub b a)
theorem subN_eq (a b : Nat) : subN a b = Int.subNatNat a b := by
  unfold subN Int.subNatNat
  show _ = match b - a with | 0 => _ | .succ k => _
  have : Nat.sub b a = b - a := rfl
  rw [this]
  cases b - a <;> rfl
def addZ (i j : Int) : Int := Int.rec (motive := fun _ => Int) (fun a => Int.rec (motive := fun _ => Int) (fun b => .ofNat (Nat.add a b)) (fun b => subN a (Nat.succ b)) j) (fun a => Int.rec (motive := fun _ => Int) (fun b => subN b (Nat.succ a)) (fun b => .negSucc (Nat.succ (Nat.add a b))) j) i
theorem addZ_eq (i j : Int) : addZ i j = i + j := by
  cases i <;> cases j <;> first | rfl | exact subN_eq _ _
def negZ (i : Int) : Int := Int.rec (motive := fun _ => Int) (fun n => negN n) (fun n => .ofNat (Nat.succ n)) i
theorem negZ_eq (i : Int) : negZ i = -i := by cases i <;> first | rfl | exact negN_eq _
def subZ (i j : Int) : Int := addZ i (negZ j)
theorem subZ_eq (i j : Int) : subZ i j = i - j := by unfold subZ; rw [addZ_eq, negZ_eq]; rfl
def mulZ (i j : Int) : Int := Int.rec (motive := fun _ => Int) (fun a => Int.rec (motive := fun _ => Int) (fun b => .ofNat (Nat.mul a b)) (fun b => negN (Nat.mul a (Nat.succ b))) j) (fun a => Int.rec (motive := fun _ => Int) (fun b => negN (Nat.mul (Nat.succ a) b)) (fun b => .ofNat (Nat.mul (Nat.succ a) (Nat.succ b))) j) i
theorem mulZ_eq (i j : Int) : mulZ i j = i * j := by
  cases i <;> cases j <;> first | rfl | exact negN_eq _
def absZ (i : Int) : Nat := Int.rec (motive := fun _ => Nat) (fun a => a) (fun a => Nat.succ a) i
theorem absZ_eq (i : Int) : absZ i = i.natAbs := by cases i <;> rfl
def eqZ (i j : Int) : Bool := Int.rec (motive := fun _ => Bool) (fun a => Int.rec (motive := fun _ => Bool) (fun b => Nat.beq a b) (fun _ => false) j) (fun a => Int.rec (motive := fun _ => Bool) (fun _ => false) (fun b => Nat.beq a b) j) i
theorem beq_dec (a b : Nat) : Nat.beq a b = decide (a = b) := by
  cases h : Nat.beq a b with
  | true => simp [Nat.eq_of_beq_eq_true h]
  | false => simp [Nat.ne_of_beq_eq_false h]
theorem eqZ_eq (i j : Int) : eqZ i j = decide (i = j) := by
  cases i with
  | ofNat a => cases j with
    | ofNat b => show Nat.beq a b = _; rw [beq_dec]; exact decide_eq_decide.mpr ⟨fun q => congrArg Int.ofNat q, fun q => Int.ofNat.inj q⟩
    | negSucc b => simp [eqZ]
  | negSucc a => cases j with
    | ofNat b => simp [eqZ]
    | negSucc b => show Nat.beq a b = _; rw [beq_dec]; exact decide_eq_decide.mpr (by simp)
def leZ (i j : Int) : Bool := Int.rec (motive := fun _ => Bool) (fun a => Int.rec (motive := fun _ => Bool) (fun b => Nat.ble a b) (fun _ => false) j) (fun a => Int.rec (motive := fun _ => Bool) (fun _ => true) (fun b => Nat.ble b a) j) i
theorem ble_dec (a b : Nat) : Nat.ble a b = decide (a ≤ b) := by
  cases h : Nat.ble a b with
  | true => simp [Nat.le_of_ble_eq_true h]
  | false =>
    have : ¬ a ≤ b := fun q => by rw [Nat.ble_eq_true_of_le q] at h; cases h
    simp [this]
theorem leZ_eq (i j : Int) : leZ i j = decide (i ≤ j) := by
  cases i with
  | ofNat a => cases j with
    | ofNat b => show Nat.ble a b = _; rw [ble_dec]; exact decide_eq_decide.mpr ⟨fun q => Int.ofNat_le.mpr q, fun q => Int.ofNat_le.mp q⟩
    | negSucc b => show false = _; symm; apply decide_eq_false; simp; omega
  | negSucc a => cases j with
    | ofNat b => show true = _; symm; apply decide_eq_true; simp; omega
    | negSucc b => show Nat.ble b a = _; rw [ble_dec]; exact decide_eq_decide.mpr (by constructor <;> intro q <;> omega)
def ltZ (i j : Int) : Bool := Int.rec (motive := fun _ => Bool) (fun a => Int.rec (motive := fun _ => Bool) (fun b => Nat.ble (Nat.succ a) b) (fun _ => false) j) (fun a => Int.rec (motive := fun _ => Bool) (fun _ => true) (fun b => Nat.ble (Nat.succ b) a) j) i
theorem ltZ_eq (i j : Int) : ltZ i j = decide (i < j) := by
  cases i with
  | ofNat a => cases j with
    | ofNat b => show Nat.ble (Nat.succ a) b = _; rw [ble_dec]; exact decide_eq_decide.mpr ⟨fun q => Int.ofNat_lt.mpr q, fun q => Int.ofNat_lt.mp q⟩
    | negSucc b => show false = _; symm; apply decide_eq_false; simp; omega
  | negSucc a => cases j with
    | ofNat b => show true = _; symm; apply decide_eq_true; simp; omega
    | negSucc b => show Nat.ble (Nat.succ b) a = _; rw [ble_dec]; exact decide_eq_decide.mpr (by constructor <;> intro q <;> (simp at q ⊢; omega))

/-! values -/
def truthQ (h : Hd) (d : D) (f : Bool → Bool) : Bool := D.rec (motive_1 := fun _ => Bool) (motive_2 := fun _ => Bool) (f false) (fun b => bool' b f) (fun i => bool' (eqZ i (.ofNat 0)) fun b => Bool.rec (motive := fun _ => Bool) (f true) (f false) b) (fun x => f (!x.isEmpty)) (fun ds _ => consB ds (f false) fun _ _ => f true) (fun ds _ => consB ds (f false) fun _ _ => f true) (fun n => optB (truth h (.ref n)) f) (fun _ => false) false (fun _ _ _ _ => false) d
theorem truthQ_eq (h : Hd) (d : D) (f : Bool → Bool) : truthQ h d f = match truth h d with | some b => f b | none => false := by
  cases d with
  | non => rfl
  | bl b => exact bool'_eq b f
  | int i =>
    show bool' (eqZ i (.ofNat 0)) _ = f (!(decide (i = 0)))
    rw [bool'_eq, eqZ_eq]
    show Bool.rec (motive := fun _ => Bool) (f true) (f false) (decide (i = 0)) = _
    cases decide (i = 0) <;> rfl
  | str x => rfl
  | tup ds => cases ds <;> rfl
  | lst ds => cases ds <;> rfl
  | ref n => show optB _ _ = _; cases truth h (.ref n) <;> rfl
  | gl n => rfl
def itemsQ (h : Hd) (d : D) (f : List D → Bool) : Bool := D.rec (motive_1 := fun _ => Bool) (motive_2 := fun _ => Bool) false (fun _ => false) (fun _ => false) (fun _ => false) (fun ds _ => f ds) (fun ds _ => f ds) (fun n => optB (itemsL h (.ref n)) f) (fun _ => false) false (fun _ _ _ _ => false) d
theorem itemsQ_eq (h : Hd) (d : D) (f : List D → Bool) : itemsQ h d f = match items h d with | some xs => f xs | none => false := by
  cases d <;> first | rfl | (rename_i n; show optB _ _ = _; simp only [items]; cases itemsL h (.ref n) <;> rfl)
def lenQ (xs : List D) : Nat := List.rec (motive := fun _ => Nat) 0 (fun _ _ ih => Nat.succ ih) xs
theorem lenQ_eq : ∀ xs : List D, lenQ xs = xs.length
  | [] => rfl
  | _ :: r => congrArg Nat.succ (lenQ_eq r)
def nthQ (ds : List D) : Nat → Option D := List.rec (motive := fun _ => Nat → Option D) (fun _ => none) (fun d _ ih n => Nat.rec (motive := fun _ => Option D) (some d) (fun m _ => ih m) n) ds
theorem nthQ_eq : ∀ (ds : List D) (n : Nat), nthQ ds n = ds[n]?
  | [], _ => rfl
  | _ :: _, 0 => rfl
  | _ :: r, n + 1 => nthQ_eq r n
def appQ (xs ys : List D) : List D := List.rec (motive := fun _ => List D) ys (fun x _ ih => x :: ih) xs
theorem appQ_eq : ∀ xs ys : List D, appQ xs ys = xs ++ ys
  | [], _ => rfl
  | x :: r, ys => congrArg (x :: ·) (appQ_eq r ys)
/-! slots -/
def getQ (σ : Sg) : Nat → Option D := List.rec (motive := fun _ => Nat → Option D) (fun _ => none) (fun d _ ih n => Nat.rec (motive := fun _ => Option D) d (fun m _ => ih m) n) σ
theorem getQ_eq : ∀ (σ : Sg) (n : Nat), getQ σ n = getS σ n
  | [], _ => by simp only [getS]; rfl
  | _ :: _, 0 => rfl
  | _ :: r, n + 1 => getQ_eq r n
def setQ (σ : Sg) (x : D) : Nat → Sg := List.rec (motive := fun _ => Nat → Sg) (fun _ => []) (fun d r ih n => Nat.rec (motive := fun _ => Sg) (some x :: r) (fun m _ => d :: ih m) n) σ
theorem setQ_eq (x : D) : ∀ (σ : Sg) (n : Nat), setQ σ x n = setS σ n x
  | [], _ => by simp only [setS]; rfl
  | _ :: _, 0 => rfl
  | d :: r, n + 1 => congrArg (d :: ·) (setQ_eq x r n)
/-! operations -/
abbrev Bn := Hd → D → D → K1 → Bool
def genQ (o : Op) : Bn := fun h x y k => optB (opD h o x y) fun z => k z h
def addQ : Bn := fun h x y k => elI x (fun i => elI y (fun j => int' (addZ i j) fun z => k (.int z) h) (genQ .add h x y k)) (genQ .add h x y k)
def subQ : Bn := fun h x y k => elI x (fun i => elI y (fun j => int' (subZ i j) fun z => k (.int z) h) (genQ .sub h x y k)) (genQ .sub h x y k)
def mulQ : Bn := fun h x y k => elI x (fun i => elI y (fun j => Bool.rec (motive := fun _ => Bool) false (int' (mulZ i j) fun z => k (.int z) h) (Nat.ble (Nat.succ (Nat.add (Nat.log2 (absZ i)) (Nat.log2 (absZ j)))) 1000000)) (genQ .mul h x y k)) (genQ .mul h x y k)
def divN (i : Int) (b : Nat) : Int := Int.rec (motive := fun _ => Int) (fun a => .ofNat (Nat.div a b)) (fun a => .negSucc (Nat.div a b)) i
def modN (i : Int) (b : Nat) : Int := Int.rec (motive := fun _ => Int) (fun a => .ofNat (Nat.mod a b)) (fun a => subN b (Nat.succ (Nat.mod a b))) i
/-- the number if it is above 0 -/
def posQ (j : Int) (f : Nat → Bool) (g : Bool) : Bool := Int.rec (motive := fun _ => Bool) (fun b => Nat.rec (motive := fun _ => Bool) g (fun m _ => f (Nat.succ m)) b) (fun _ => g) j
def divQ : Bn := fun h x y k => elI x (fun i => elI y (fun j => posQ j (fun b => Bool.rec (motive := fun _ => Bool) (genQ .fdiv h x y k) (int' (divN i b) fun z => k (.int z) h) (Nat.ble (Nat.succ (Nat.log2 b)) 9000)) (genQ .fdiv h x y k)) (genQ .fdiv h x y k)) (genQ .fdiv h x y k)
def modQ : Bn := fun h x y k => elI x (fun i => elI y (fun j => posQ j (fun b => int' (modN i b) fun z => k (.int z) h) (genQ .mod h x y k)) (genQ .mod h x y k)) (genQ .mod h x y k)
def opQ (o : Op) : Bn := match o with
  | .add => addQ
  | .sub => subQ
  | .mul => mulQ
  | .fdiv => divQ
  | .mod => modQ
  | o => genQ o
theorem posQ_eq (j : Int) (f : Nat → Bool) (g : Bool) (r : Bool) (h1 : ∀ m, j = .ofNat (m + 1) → f (m + 1) = r) (h2 : g = r) : posQ j f g = r := by
  cases j with
  | ofNat b =>
    cases b with
    | zero => exact h2
    | succ m => exact h1 m rfl
  | negSucc b => exact h2
theorem divN_eq (i : Int) (m : Nat) : divN i (m + 1) = i / (Int.ofNat (m + 1)) := by cases i <;> rfl
theorem modN_eq (i : Int) (m : Nat) : modN i (m + 1) = i % (Int.ofNat (m + 1)) := by
  cases i with
  | ofNat n => rfl
  | negSucc n => exact subN_eq _ _
theorem opQ_eq (o : Op) (h : Hd) (x y : D) (k : K1) : opQ o h x y k = match opD h o x y with | some z => k z h | none => false := by
  have g : ∀ o, genQ o h x y k = match opD h o x y with | some z => k z h | none => false := fun o => by unfold genQ; cases opD h o x y <;> rfl
  cases o with
  | add =>
    show addQ h x y k = _
    unfold addQ
    rw [elI_eq]
    split
    · rw [elI_eq]
      split
      · rw [int'_eq, addZ_eq]; rfl
      · exact g _
    · exact g _
  | sub =>
    show subQ h x y k = _
    unfold subQ
    rw [elI_eq]
    split
    · rw [elI_eq]
      split
      · rw [int'_eq, subZ_eq]; rfl
      · exact g _
    · exact g _
  | mul =>
    show mulQ h x y k = _
    unfold mulQ
    rw [elI_eq]
    split
    · rename_i i
      rw [elI_eq]
      split
      · rename_i j
        rw [int'_eq, mulZ_eq, absZ_eq, absZ_eq]
        show _ = match (if bitsOf i + bitsOf j < 1000000 then some (D.int (i * j)) else none) with | some z => k z h | none => false
        have e : Nat.ble (Nat.succ (Nat.add i.natAbs.log2 j.natAbs.log2)) 1000000 = decide (bitsOf i + bitsOf j < 1000000) := ble_dec _ _
        rw [e]
        by_cases q : bitsOf i + bitsOf j < 1000000
        · rw [if_pos q, decide_eq_true q]
        · rw [if_neg q, decide_eq_false q]
      · exact g _
    · exact g _
  | fdiv =>
    show divQ h x y k = _
    unfold divQ
    rw [elI_eq]
    split
    · rename_i i
      rw [elI_eq]
      split
      · rename_i j
        refine posQ_eq _ _ _ _ (fun m e => ?_) (g _)
        subst e
        have e : Nat.ble (Nat.succ (Nat.log2 (m + 1))) 9000 = decide (bitsOf (Int.ofNat (m + 1)) < 9000) := ble_dec _ _
        rw [e]
        by_cases q : bitsOf (Int.ofNat (m + 1)) < 9000
        · rw [decide_eq_true q]
          show int' _ _ = _
          rw [int'_eq, divN_eq]
          simp only [opD, divD]
          rw [if_pos ⟨by simp, q⟩]
        · rw [decide_eq_false q]
          exact g _
      · exact g _
    · exact g _
  | mod =>
    show modQ h x y k = _
    unfold modQ
    rw [elI_eq]
    split
    · rename_i i
      rw [elI_eq]
      split
      · rename_i j
        refine posQ_eq _ _ _ _ (fun m e => ?_) (g _)
        subst e
        rw [int'_eq, modN_eq]
        simp only [opD, modD]
        rw [if_pos (by simp)]
      · exact g _
    · exact g _
  | _ => exact g _
/-! comparisons -/
def genC (o : Cm) : Bn := fun h x y k => optB (cmpD h o x y) fun z => bool' z fun z => k (.bl z) h
def relQ (o : Cm) (r : Int → Int → Bool) : Bn := fun h x y k => elI x (fun i => elI y (fun j => bool' (r i j) fun z => k (.bl z) h) (genC o h x y k)) (genC o h x y k)
def neZ (i j : Int) : Bool := Bool.rec (motive := fun _ => Bool) true false (eqZ i j)
def gtZ (i j : Int) : Bool := ltZ j i
def geZ (i j : Int) : Bool := leZ j i
def cmpQ (o : Cm) : Bn := match o with
  | .eq => relQ .eq eqZ
  | .ne => relQ .ne neZ
  | .lt => relQ .lt ltZ
  | .le => relQ .le leZ
  | .gt => relQ .gt gtZ
  | .ge => relQ .ge geZ
  | o => genC o
theorem cmpQ_eq (o : Cm) (h : Hd) (x y : D) (k : K1) : cmpQ o h x y k = match cmpD h o x y with | some z => k (.bl z) h | none => false := by
  have g : ∀ o, genC o h x y k = match cmpD h o x y with | some z => k (.bl z) h | none => false := fun o => by
    unfold genC
    cases cmpD h o x y with
    | none => rfl
    | some z => exact bool'_eq z fun z => k (.bl z) h
  have rl : ∀ o r, (∀ i j, cmpD h o (.int i) (.int j) = some (r i j)) → relQ o r h x y k = match cmpD h o x y with | some z => k (.bl z) h | none => false := fun o r e => by
    unfold relQ
    rw [elI_eq]
    split
    · rw [elI_eq]
      split
      · rw [bool'_eq, e]
      · exact g _
    · exact g _
  have ee : ∀ i j : Int, (i == j) = eqZ i j := fun i j => by rw [eqZ_eq]; rfl
  cases o with
  | eq => exact rl _ _ fun i j => by simp only [cmpD, eqv, ee]
  | ne => exact rl _ _ fun i j => by simp only [cmpD, eqv, ee]; unfold neZ; cases eqZ i j <;> rfl
  | lt => exact rl _ _ fun i j => by rw [ltZ_eq]; rfl
  | le => exact rl _ _ fun i j => by rw [leZ_eq]; rfl
  | gt => exact rl _ _ fun i j => by unfold gtZ; rw [ltZ_eq]; rfl
  | ge => exact rl _ _ fun i j => by unfold geZ; rw [leZ_eq]; rfl
  | _ => exact g _
/-! places -/
def ixQ : Bn := fun h d e k => elI e (fun i => itemsQ h d fun ds => Int.rec (motive := fun _ => Bool) (fun n => optB (nthQ ds n) fun z => k z h) (fun _ => optB (atD ds i) fun z => k z h) i) false
theorem atD_nat (ds : List D) (n : Nat) : atD ds (.ofNat n) = ds[n]? := by
  unfold atD ixOf
  rw [if_pos (by simp)]
  by_cases q : (Int.ofNat n) < ds.length
  · rw [if_pos q]; rfl
  · rw [if_neg q]
    have : ds.length ≤ n := by
      have : ¬ (n : Int) < ds.length := q
      omega
    rw [List.getElem?_eq_none this]; rfl
theorem ixQ_eq (h : Hd) (d e : D) (k : K1) : ixQ h d e k = match e with
    | .int i => (match items h d with | some ds => (match atD ds i with | some z => k z h | none => false) | none => false)
    | _ => false := by
  unfold ixQ
  rw [elI_eq]
  split
  · rename_i i
    rw [itemsQ_eq]
    split
    · cases i with
      | ofNat n =>
        show optB (nthQ _ n) _ = _
        rw [nthQ_eq, atD_nat]
        cases (_ : List D)[n]? <;> rfl
      | negSucc n =>
        show optB _ _ = _
        cases atD _ (Int.negSucc n) <;> rfl
    · rfl
  · rfl
/-! what is built in -/
abbrev Lq := Hd → List D → K1 → Bool
def biLen : Lq := fun h ds k => consB ds false fun d r => consB r (D.rec (motive_1 := fun _ => Bool) (motive_2 := fun _ => Bool) false (fun _ => false) (fun _ => false) (fun x => k (.int x.length) h) (fun xs _ => nat' (lenQ xs) fun n => k (.int (.ofNat n)) h) (fun xs _ => nat' (lenQ xs) fun n => k (.int (.ofNat n)) h) (fun n => optB (biD h .len ds) fun z => k z h) (fun _ => false) false (fun _ _ _ _ => false) d) fun _ _ => false
def biGcd : Lq := fun h ds k => consB ds false fun d r => consB r false fun e r => consB r (elI d (fun i => elI e (fun j => nat' (Nat.gcd (absZ i) (absZ j)) fun n => k (.int (.ofNat n)) h) false) false) fun _ _ => false
def biInt : Lq := fun h ds k => consB ds false fun d r => consB r (elI d (fun i => k (.int i) h) (optB (biD h .int ds) fun z => k z h)) fun _ _ => false
def biTup : Lq := fun h ds k => consB ds false fun d r => consB r (itemsQ h d fun xs => k (.tup xs) h) fun _ _ => false
def biGen (b : Bi) : Lq := fun h ds k => optB (biD h b ds) fun z => k z h
def biQ (b : Bi) : Lq := match b with
  | .len => biLen
  | .gcd => biGcd
  | .int => biInt
  | .tuple => biTup
  | b => biGen b
theorem biQ_eq (b : Bi) (h : Hd) (ds : List D) (k : K1) : biQ b h ds k = match biD h b ds with | some d => k d h | none => false := by
  have g : ∀ b, (optB (biD h b ds) fun z => k z h) = match biD h b ds with | some d => k d h | none => false := fun b => by cases biD h b ds <;> rfl
  cases b with
  | len =>
    unfold biQ
    match ds with
    | [] => rfl
    | [d] =>
      cases d with
      | tup xs => show nat' (lenQ xs) (fun n => k (.int (.ofNat n)) h) = _; rw [nat'_eq, lenQ_eq]; rfl
      | lst xs => show nat' (lenQ xs) (fun n => k (.int (.ofNat n)) h) = _; rw [nat'_eq, lenQ_eq]; rfl
      | ref n => exact g .len
      | _ => rfl
    | d :: e :: r => cases d <;> rfl
  | gcd =>
    unfold biQ
    match ds with
    | [] => rfl
    | [d] => cases d <;> rfl
    | [d, e] =>
      show elI d _ _ = _
      cases d with
      | int i =>
        cases e with
        | int j => show nat' (Nat.gcd (absZ i) (absZ j)) (fun n => k (.int (.ofNat n)) h) = _; rw [nat'_eq, absZ_eq, absZ_eq]; rfl
        | _ => rfl
      | _ => rfl
    | d :: e :: f :: r => cases d <;> cases e <;> rfl
  | int =>
    unfold biQ
    match ds with
    | [] => rfl
    | [d] =>
      cases d with
      | int i => rfl
      | _ => exact g .int
    | d :: e :: r => cases d <;> rfl
  | tuple =>
    unfold biQ
    match ds with
    | [] => rfl
    | [d] =>
      show itemsQ _ _ _ = _
      rw [itemsQ_eq]
      show _ = match (items h d).map D.tup with | some d => k d h | none => false
      cases items h d <;> rfl
    | d :: e :: r => cases d <;> rfl
  | abs => exact g .abs
  | list => exact g .list
  | all => exact g .all
  | any => exact g .any
  | sum => exact g .sum
  | sorted => exact g .sorted
  | min => exact g .min
  | max => exact g .max
end
end Z

namespace Z
noncomputable section
def onB (d : D) (f : Bool → Bool) : Bool := D.rec (motive_1 := fun _ => Bool) (motive_2 := fun _ => Bool) false f (fun _ => false) (fun _ => false) (fun _ _ => false) (fun _ _ => false) (fun _ => false) (fun _ => false) false (fun _ _ _ _ => false) d
/-! walks -/
def step0Q (h : Hd) (c : Cu) (e : Bool) (s : D → Cu → Bool) : Bool := Cu.rec (motive := fun _ => Bool) (fun xs => List.rec (motive := fun _ => Bool) e (fun x r _ => s x (.fix r)) xs)
  (fun n i => optB (step0 h (.obj n i)) fun o => Option.rec (motive := fun _ => Bool) e (fun p => Prod.rec (motive := fun _ => Bool) (fun x c' => s x c') p) o) c
theorem step0Q_eq (h : Hd) (c : Cu) (e : Bool) (s : D → Cu → Bool) : step0Q h c e s = match step0 h c with | none => false | some none => e | some (some (x, c')) => s x c' := by
  cases c with
  | fix xs => cases xs <;> rfl
  | obj n i =>
    show optB (step0 h (.obj n i)) _ = _
    cases step0 h (.obj n i) with
    | none => rfl
    | some o => cases o <;> rfl
def stepQ (h : Hd) (c : Cur) (e : Bool) (s : D → Cur → Bool) : Bool := Cur.rec (motive := fun _ => Bool) (fun c => step0Q h c e fun x c' => s x (.b c')) (fun i c => step0Q h c e fun x c' => int' (addZ i 1) fun j => s (.tup [.int i, x]) (.en j c'))
  (fun c d => step0Q h c (step0Q h d e fun _ _ => e) fun x c' => step0Q h d e fun y d' => s (.tup [x, y]) (.zp c' d')) c
theorem stepQ_eq (h : Hd) (c : Cur) (e : Bool) (s : D → Cur → Bool) : stepQ h c e s = match step h c with | none => false | some none => e | some (some (x, c')) => s x c' := by
  cases c with
  | b c =>
    show step0Q h c e (fun x c' => s x (.b c')) = _
    rw [step0Q_eq]
    simp only [step]
    cases step0 h c with
    | none => rfl
    | some o => cases o <;> rfl
  | en i c =>
    show step0Q h c e (fun x c' => int' (addZ i 1) fun j => s (.tup [.int i, x]) (.en j c')) = _
    rw [step0Q_eq]
    simp only [step]
    cases step0 h c with
    | none => rfl
    | some o =>
      cases o with
      | none => rfl
      | some p => show int' _ _ = _; rw [int'_eq, addZ_eq]
  | zp c d =>
    show step0Q h c (step0Q h d e fun _ _ => e) (fun x c' => step0Q h d e fun y d' => s (.tup [x, y]) (.zp c' d')) = _
    rw [step0Q_eq, step0Q_eq]
    simp only [step, step0Q_eq]
    cases step0 h c with
    | none => rfl
    | some o =>
      cases o with
      | none =>
        cases step0 h d with
        | none => rfl
        | some o => cases o <;> rfl
      | some p =>
        cases step0 h d with
        | none => rfl
        | some o => cases o <;> rfl
def forQ (g : D → Sg → (Sg → Bool) → Bool) (b : Sg → Hd → Kn → Kn → Bool) (n : Nat) : Cur → Sg → Hd → Kn → Bool := Nat.rec (motive := fun _ => Cur → Sg → Hd → Kn → Bool) (fun _ _ _ _ => false)
  (fun _ ih c σ h nx => stepQ h c (nx σ h) fun x c' => g x σ fun σ1 => b σ1 h (fun σ2 h2 => ih c' σ2 h2 nx) nx) n
def GE (g : G) (f : D → Sg → (Sg → Bool) → Bool) : Prop := ∀ d σ k, f d σ k = match setG g d σ with | some σ1 => k σ1 | none => false
theorem forQ_eq {g : G} {f : D → Sg → (Sg → Bool) → Bool} (hg : GE g f) (b : Sg → Hd → Kn → Kn → Bool) : ∀ (n : Nat) (c : Cur) (σ : Sg) (h : Hd) (nx : Kn), forQ f b n c σ h nx = forL g b n c σ h nx
  | 0, _, _, _, _ => by simp only [forL]; rfl
  | n + 1, c, σ, h, nx => by
    show stepQ h c (nx σ h) (fun x c' => f x σ fun σ1 => b σ1 h (fun σ2 h2 => forQ f b n c' σ2 h2 nx) nx) = _
    rw [stepQ_eq]
    simp only [forL]
    cases step h c with
    | none => rfl
    | some o =>
      cases o with
      | none => rfl
      | some p =>
        dsimp only
        rw [hg]
        simp only [forQ_eq hg b n] <;> cases setG g p.fst σ <;> rfl
def whlQ (c : Sg → Hd → (Bool → Hd → Bool) → Bool) (b : Sg → Hd → Kn → Kn → Bool) (n : Nat) : Sg → Hd → Kn → Bool := Nat.rec (motive := fun _ => Sg → Hd → Kn → Bool) (fun _ _ _ => false)
  (fun _ ih σ h nx => c σ h fun t h1 => Bool.rec (motive := fun _ => Bool) (nx σ h1) (b σ h1 (fun σ2 h2 => ih σ2 h2 nx) nx) t) n
theorem whlQ_eq (c : Sg → Hd → (Bool → Hd → Bool) → Bool) (b : Sg → Hd → Kn → Kn → Bool) : ∀ (n : Nat) (σ : Sg) (h : Hd) (nx : Kn), whlQ c b n σ h nx = whlL c b n σ h nx
  | 0, _, _, _ => by simp only [whlL]; rfl
  | n + 1, σ, h, nx => by
    show c σ h (fun t h1 => Bool.rec (motive := fun _ => Bool) (nx σ h1) (b σ h1 (fun σ2 h2 => whlQ c b n σ2 h2 nx) nx) t) = _
    simp only [whlL, whlQ_eq c b n]
    congr 1
    funext t h1
    cases t <;> rfl
def compQ (b : D → Hd → (Option D → Hd → Bool) → Bool) (n : Nat) : Cur → Hd → (List D → Hd → Bool) → Bool := Nat.rec (motive := fun _ => Cur → Hd → (List D → Hd → Bool) → Bool) (fun _ _ _ => false)
  (fun _ ih c h k => stepQ h c (k [] h) fun x c' => b x h fun y h1 => ih c' h1 fun ys h2 => Option.rec (motive := fun _ => Bool) (k ys h2) (fun y => k (y :: ys) h2) y) n
theorem compQ_eq (b : D → Hd → (Option D → Hd → Bool) → Bool) : ∀ (n : Nat) (c : Cur) (h : Hd) (k : List D → Hd → Bool), compQ b n c h k = comp b n c h k
  | 0, _, _, _ => by simp only [comp]; rfl
  | n + 1, c, h, k => by
    show stepQ h c (k [] h) (fun x c' => b x h fun y h1 => compQ b n c' h1 fun ys h2 => Option.rec (motive := fun _ => Bool) (k ys h2) (fun y => k (y :: ys) h2) y) = _
    rw [stepQ_eq]
    simp only [comp, compQ_eq b n]
    cases step h c with
    | none => rfl
    | some o =>
      cases o with
      | none => rfl
      | some p =>
        dsimp only
        congr 1
        funext y h1
        congr 1
        funext ys h2
        cases y <;> rfl
/-! targets -/
def gNm (i : Nat) : D → Sg → (Sg → Bool) → Bool := fun d σ k => k (setQ σ d i)
def gTp (A : D → Sg → (Sg → Bool) → Bool) : D → Sg → (Sg → Bool) → Bool := fun d σ k => D.rec (motive_1 := fun _ => Bool) (motive_2 := fun _ => Bool) false (fun _ => false) (fun _ => false) (fun _ => false) (fun ds _ => A (.tup ds) σ k) (fun ds _ => A (.tup ds) σ k) (fun _ => false) (fun _ => false) false (fun _ _ _ _ => false) d
def gNil : D → Sg → (Sg → Bool) → Bool := fun d σ k => onT d fun ds => consB ds (k σ) fun _ _ => false
def gCons (A B : D → Sg → (Sg → Bool) → Bool) : D → Sg → (Sg → Bool) → Bool := fun d σ k => onT d fun ds => consB ds false fun x r => A x σ fun σ1 => B (.tup r) σ1 k
def cg : G → D → Sg → (Sg → Bool) → Bool
  | .nm i => gNm i
  | .tp g => gTp (cg g)
  | .nil => gNil
  | .cons g gs => gCons (cg g) (cg gs)
theorem cg_eq : ∀ g, GE g (cg g)
  | .nm i => fun d σ k => by simp only [cg, gNm, setG, setQ_eq]
  | .tp g => fun d σ k => by
    have i := cg_eq g
    cases d with
    | tup ds => show cg g (.tup ds) σ k = _; rw [i]; simp only [setG]
    | lst ds => show cg g (.tup ds) σ k = _; rw [i]; simp only [setG]
    | _ => simp only [setG]; rfl
  | .nil => fun d σ k => by
    cases d with
    | tup ds => cases ds <;> (simp only [setG]; rfl)
    | _ => simp only [setG]; rfl
  | .cons g gs => fun d σ k => by
    have i := cg_eq g
    have j := cg_eq gs
    cases d with
    | tup ds =>
      cases ds with
      | nil => simp only [setG]; rfl
      | cons x r =>
        show cg g x σ (fun σ1 => cg gs (.tup r) σ1 k) = _
        rw [i]
        simp only [setG]
        cases setG g x σ with
        | none => rfl
        | some σ1 => exact j _ _ _
    | _ => simp only [setG]; rfl
/-! slices -/
def dropQ (n : Nat) : List D → List D := Nat.rec (motive := fun _ => List D → List D) (fun ds => ds) (fun _ ih ds => List.rec (motive := fun _ => List D) [] (fun _ r _ => ih r) ds) n
def takeQ (n : Nat) : List D → List D := Nat.rec (motive := fun _ => List D → List D) (fun _ => []) (fun _ ih ds => List.rec (motive := fun _ => List D) [] (fun x r _ => x :: ih r) ds) n
theorem dropQ_eq : ∀ (n : Nat) (ds : List D), dropQ n ds = ds.drop n
  | 0, _ => rfl
  | n + 1, [] => rfl
  | n + 1, _ :: r => dropQ_eq n r
theorem takeQ_eq : ∀ (n : Nat) (ds : List D), takeQ n ds = ds.take n
  | 0, _ => rfl
  | n + 1, [] => rfl
  | n + 1, x :: r => congrArg (x :: ·) (takeQ_eq n r)
/-- a place that is not counted from the end -/
def natO (o : Option Int) (n : Bool) (f : Nat → Bool) (g : Bool) : Bool := Option.rec (motive := fun _ => Bool) n (fun i => Int.rec (motive := fun _ => Bool) f (fun _ => g) i) o
def cutQ (ds : List D) (l u : Option Int) (k : List D → Bool) : Bool := natO l (natO u (k ds) (fun m => k (takeQ m ds)) (k (cutD ds l u))) (fun m => natO u (k (dropQ m ds)) (fun n => k (takeQ (Nat.sub n m) (dropQ m ds))) (k (cutD ds l u))) (k (cutD ds l u))
theorem bd_nat (n d m : Nat) : bd n d (some (Int.ofNat m)) = min m n := by
  show (if Int.ofNat m < 0 then (Int.ofNat m + (n : Int)).toNat else min (Int.ofNat m).toNat n) = _
  rw [if_neg (by simp)]
  rfl
theorem cut0 (ds : List D) (l n : Nat) : (ds.drop (min l ds.length)).take (min n ds.length - min l ds.length) = (ds.drop l).take (n - l) := by
  by_cases h : l ≤ ds.length
  · rw [Nat.min_eq_left h]
    by_cases h2 : n ≤ ds.length
    · rw [Nat.min_eq_left h2]
    · rw [show min n ds.length = ds.length from by omega]
      rw [List.take_of_length_le (by simp), List.take_of_length_le (by simp; omega)]
  · rw [show min l ds.length = ds.length from by omega, List.drop_eq_nil_of_le (Nat.le_refl _), List.drop_eq_nil_of_le (by omega : ds.length ≤ l)]
    simp
theorem cutQ_eq (ds : List D) (l u : Option Int) (k : List D → Bool) : cutQ ds l u k = k (cutD ds l u) := by
  cases l with
  | none =>
    cases u with
    | none => show k ds = _; congr 1; unfold cutD bd; simp
    | some u =>
      cases u with
      | ofNat n =>
        show k (takeQ n ds) = _
        rw [takeQ_eq]; congr 1
        have e := cut0 ds 0 n
        unfold cutD
        rw [bd_nat]
        simp only [bd]
        simpa using e.symm
      | negSucc n => rfl
  | some l =>
    cases l with
    | ofNat m =>
      cases u with
      | none =>
        show k (dropQ m ds) = _
        rw [dropQ_eq]; congr 1
        have e := cut0 ds m ds.length
        unfold cutD
        rw [bd_nat]
        simp only [bd]
        rw [Nat.min_self] at e
        rw [e, List.take_of_length_le (by simp)]
      | some u =>
        cases u with
        | ofNat n =>
          show k (takeQ (Nat.sub n m) (dropQ m ds)) = _
          rw [takeQ_eq, dropQ_eq]; congr 1
          unfold cutD
          rw [bd_nat, bd_nat]
          exact (cut0 ds m n).symm
        | negSucc n => rfl
    | negSucc m => rfl
def sliceQ (h : Hd) (x : D) (l u : Option Int) (k : K1) : Bool := D.rec (motive_1 := fun _ => Bool) (motive_2 := fun _ => Bool) false (fun _ => false) (fun _ => false) (fun _ => false) (fun ds _ => cutQ ds l u fun r => k (.tup r) h) (fun ds _ => cutQ ds l u fun r => k (.lst r) h) (fun n => optB (sliceD h (.ref n) l u) fun z => k z h) (fun _ => false) false (fun _ _ _ _ => false) x
theorem sliceQ_eq (h : Hd) (x : D) (l u : Option Int) (k : K1) : sliceQ h x l u k = match sliceD h x l u with | some z => k z h | none => false := by
  cases x with
  | tup ds => exact cutQ_eq ds l u fun r => k (.tup r) h
  | lst ds => exact cutQ_eq ds l u fun r => k (.lst r) h
  | ref n => show optB _ _ = _; cases sliceD h (.ref n) l u <;> rfl
  | _ => rfl
def partQ (b : Bool) (d : D) (f : Option Int → Bool) : Bool := Bool.rec (motive := fun _ => Bool) (elI d (fun i => f (some i)) false) (f none) b
theorem partQ_eq (e : E) (d : D) (f : Option Int → Bool) : partQ (isNop e) d f = match part e d with | some o => f o | none => false := by
  unfold part
  cases isNop e with
  | true => rfl
  | false => cases d <;> rfl
/-! ranges -/
def rngQ (st : Int) (n : Nat) : Int → List D := Nat.rec (motive := fun _ => Int → List D) (fun _ => []) (fun _ ih lo => .int lo :: ih (addZ lo st)) n
theorem rngQ_eq (st : Int) : ∀ (n : Nat) (lo : Int), rngQ st n lo = rng lo st n
  | 0, _ => rfl
  | n + 1, lo => by
    show D.int lo :: rngQ st n (addZ lo st) = D.int lo :: rng (lo + st) st n
    rw [rngQ_eq st n, addZ_eq]
abbrev Uq := Hd → D → K1 → Bool
def rng1G (h : Hd) (j : Int) (k : K1) : Bool := if -(2 ^ 62) ≤ j ∧ j < 2 ^ 62 then k (.lst (rng 0 1 j.toNat)) h else false
def rng1P (G : Hd → Int → K1 → Bool) : Uq := fun h d k => elI d (fun j => Int.rec (motive := fun _ => Bool) (fun n => Bool.rec (motive := fun _ => Bool) (G h j k) (k (.lst (rngQ (.ofNat 1) n (.ofNat 0))) h) (Nat.ble (Nat.log2 n) 61)) (fun n => G h j k) j) false
def rng1Q : Uq := rng1P rng1G
theorem rng1G_n (h : Hd) (n : Nat) (k : K1) (q : Nat.ble (Nat.log2 n) 61 = true) : rng1G h (.ofNat n) k = k (.lst (rngQ (.ofNat 1) n (.ofNat 0))) h := by
  have q := Nat.le_of_ble_eq_true q
  have l : n < 2 ^ 62 := by
    by_cases z : n = 0
    · subst z; decide
    · exact (Nat.log2_lt z).mp (by omega)
  have e : Int.ofNat n = (n : Int) := rfl
  unfold rng1G
  rw [if_pos ⟨by omega, by omega⟩, rngQ_eq]
  rfl
theorem rng1P_eq (G : Hd → Int → K1 → Bool) (e : ∀ h n k, Nat.ble (Nat.log2 n) 61 = true → G h (.ofNat n) k = k (.lst (rngQ (.ofNat 1) n (.ofNat 0))) h) (h : Hd) (d : D) (k : K1) : rng1P G h d k = match d with | .int j => G h j k | _ => false := by
  cases d with
  | int j =>
    cases j with
    | ofNat n =>
      show Bool.rec (motive := fun _ => Bool) (G h (.ofNat n) k) (k (.lst (rngQ (.ofNat 1) n (.ofNat 0))) h) (Nat.ble (Nat.log2 n) 61) = G h (.ofNat n) k
      have e := e h n k
      generalize Nat.ble (Nat.log2 n) 61 = b at e ⊢
      cases b with
      | true => exact (e rfl).symm
      | false => rfl
    | negSucc n => rfl
  | _ => rfl
theorem rng1Q_eq (h : Hd) (d : D) (k : K1) : rng1Q h d k = match d with | .int j => rng1G h j k | _ => false := rng1P_eq rng1G rng1G_n h d k
/-! one value -/
def negQ : Uq := fun h d k => elI d (fun i => int' (negZ i) fun z => k (.int z) h) false
def notQ : Uq := fun h d k => truthQ h d fun b => Bool.rec (motive := fun _ => Bool) (k (.bl true) h) (k (.bl false) h) b
def lstQ : Uq := fun h d k => onT d fun ds => k (.lst ds) h
def alloQ : Uq := fun h d k => onL d fun ds => nat' h.nx fun n => k (.ref n) ⟨Nat.succ n, (n, .lst ds) :: h.es⟩
def isiQ (t : Ty) : Uq := fun h d k => optB (isTy h d t) fun b => bool' b fun b => k (.bl b) h
def revQ : Uq := fun h d k => onT d fun ds => k (.tup ds.reverse) h
def enumQ : Uq := fun h d k => k (.tup [d]) h
def on1 (g : Lq) : Uq := fun h d k => onT d fun ds => g h ds k
def bi1Q (b : Bi) : Uq := on1 (biQ b)
/-! expressions -/
def cVar (i : Nat) : Ev := fun σ h _ k => Option.rec (motive := fun _ => Bool) false (fun d => k d h) (getQ σ i)
def cK (d : D) : Ev := fun _ h _ k => k d h
def cGlb (o : Option D) : Ev := fun _ h _ k => Option.rec (motive := fun _ => Bool) false (fun d => k d h) o
def cCons (A B : Ev) : Ev := fun σ h x k => A σ h x fun d h1 => B σ h1 x fun r h2 => onT r fun ds => k (.tup (d :: ds)) h2
def cUn (op : Uq) (A : Ev) : Ev := fun σ h x k => A σ h x fun d h1 => op h1 d k
def cBin (op : Bn) (A B : Ev) : Ev := fun σ h x k => A σ h x fun d h1 => B σ h1 x fun e h2 => op h2 d e k
def cChain (o p : Bn) (A B C : Ev) : Ev := fun σ h x k => A σ h x fun d h1 => B σ h1 x fun e h2 => o h2 d e fun z h2 => onB z fun b => Bool.rec (motive := fun _ => Bool) (k (.bl false) h2) (C σ h2 x fun f h3 => p h3 e f k) b
def cAnd (A B : Ev) : Ev := fun σ h x k => A σ h x fun d h1 => truthQ h1 d fun b => Bool.rec (motive := fun _ => Bool) (k d h1) (B σ h1 x k) b
def cOr (A B : Ev) : Ev := fun σ h x k => A σ h x fun d h1 => truthQ h1 d fun b => Bool.rec (motive := fun _ => Bool) (B σ h1 x k) (k d h1) b
def cIfe (C A B : Ev) : Ev := fun σ h x k => C σ h x fun d h1 => truthQ h1 d fun b => Bool.rec (motive := fun _ => Bool) (B σ h1 x k) (A σ h1 x k) b
abbrev Fn := Nat → List D → Hd → KX → K1 → Bool
def cCall (F : Fn) (f : Nat) (A : Ev) : Ev := fun σ h x k => A σ h x fun r h1 => onT r fun ds => F f ds h1 x k
def cCval (F : Fn) (A B : Ev) : Ev := fun σ h x k => A σ h x fun g h1 => B σ h1 x fun r h2 => match g, r with | .gl f, .tup ds => F f ds h2 x k | _, _ => false
def cMeth (F : Fn) (c m f : Nat) (A B : Ev) : Ev := fun σ h x k => A σ h x fun d h1 => match d with
    | .ref n => (match look h1.es n with
      | some (.ins c' fs) => (match Nat.beq c c', fld fs m with
        | true, none => B σ h1 x fun r h2 => match r with | .tup ds => F f (.ref n :: ds) h2 x k | _ => false
        | _, _ => false)
      | _ => false)
    | _ => false
def cBm (m : Bm) (A B : Ev) : Ev := fun σ h x k => A σ h x fun d h1 => Bool.rec (motive := fun _ => Bool) false (B σ h1 x fun r h2 => onT r fun ds => optB (bmD h2 m d ds) fun p => Prod.rec (motive := fun _ => Bool) (fun z h3 => k z h3) p) (recv h1 m d)
def cMake (F : Fn) (c : Nat) (A : Ev) : Ev := fun σ h x k => A σ h x fun r h1 => match r with
    | .tup ds => F c (.ref h1.nx :: ds) ⟨h1.nx + 1, (h1.nx, .ins c []) :: h1.es⟩ x fun z h2 => match z with | .non => k (.ref h1.nx) h2 | _ => false
    | _ => false
def cAttr (c n : Nat) (A : Ev) : Ev := fun σ h x k => A σ h x fun d h1 => match d with
    | .ref l => (match look h1.es l with
      | some (.ins c' fs) => (match Nat.beq c c', fld fs n with | true, some z => k z h1 | _, _ => false)
      | _ => false)
    | _ => false
def cSlc (bl bh : Bool) (A L U : Ev) : Ev := fun σ h x k => A σ h x fun d h1 => L σ h1 x fun l h2 => partQ bl l fun l => U σ h2 x fun u h3 => partQ bh u fun u => sliceQ h3 d l u k
def zipQ : Bn := fun h d e k => k (.tup [d, e]) h
def rng2Q : Bn := fun h d e k => match d, e with
    | .int i, .int j => if -(2 ^ 62) ≤ i ∧ i < 2 ^ 62 ∧ -(2 ^ 62) ≤ j ∧ j < 2 ^ 62 then k (.lst (rng i 1 (j - i).toNat)) h else false
    | _, _ => false
def cRng3 (A B C : Ev) : Ev := fun σ h x k => A σ h x fun d h1 => B σ h1 x fun e h2 => C σ h2 x fun f h3 => match d, e, f with
    | .int i, .int j, .int s => if -(2 ^ 30) ≤ i ∧ i < 2 ^ 30 ∧ -(2 ^ 30) ≤ j ∧ j < 2 ^ 30 ∧ 0 < s ∧ s < 2 ^ 20 then k (.lst (rng i s (rngSize i j s))) h3 else false
    | _, _, _ => false
inductive Kd where
  | b | en | zp
def kind : E → Kd
  | .enum _ => .en
  | .zip _ _ => .zp
  | _ => .b
def cuQ (h : Hd) (d : D) (f : Cu → Bool) : Bool := D.rec (motive_1 := fun _ => Bool) (motive_2 := fun _ => Bool) false (fun _ => false) (fun _ => false) (fun _ => false) (fun ds _ => f (.fix ds)) (fun ds _ => f (.fix ds)) (fun n => optB (cuOf h (.ref n)) f) (fun _ => false) false (fun _ _ _ _ => false) d
theorem cuQ_eq (h : Hd) (d : D) (f : Cu → Bool) : cuQ h d f = match cuOf h d with | some c => f c | none => false := by
  cases d <;> first | rfl | (rename_i n; show optB _ _ = _; cases cuOf h (.ref n) <;> rfl)
def curQ (K : Kd) (h : Hd) (d : D) (f : Cur → Bool) : Bool := Kd.rec (motive := fun _ => Bool) (cuQ h d fun c => f (.b c)) (onT d fun ds => consB ds false fun x r => consB r (cuQ h x fun c => f (.en 0 c)) fun _ _ => false) (onT d fun ds => consB ds false fun x r => consB r false fun y r => consB r (cuQ h x fun c => cuQ h y fun d => f (.zp c d)) fun _ _ => false) K
theorem curQ_b (h : Hd) (d : D) (f : Cur → Bool) : (cuQ h d fun c => f (.b c)) = match (match cuOf h d with | some c => some (Cur.b c) | none => none) with | some c => f c | none => false := by
  rw [cuQ_eq]; cases cuOf h d <;> rfl
theorem curQ_eq (e : E) (h : Hd) (d : D) (f : Cur → Bool) : curQ (kind e) h d f = match curI e h d with | some c => f c | none => false := by
  cases e with
  | enum a =>
    cases d with
    | tup ds =>
      match ds with
      | [] => rfl
      | [x] => show cuQ h x (fun c => f (.en 0 c)) = _; rw [cuQ_eq]; simp only [curI]; cases cuOf h x <;> rfl
      | x :: y :: r => rfl
    | _ => rfl
  | zip a b =>
    cases d with
    | tup ds =>
      match ds with
      | [] => rfl
      | [x] => rfl
      | [x, y] =>
        show cuQ h x (fun c => cuQ h y fun d => f (.zp c d)) = _
        rw [cuQ_eq]; simp only [curI]
        cases cuOf h x with
        | none => rfl
        | some c => show cuQ h y (fun d => f (.zp c d)) = _; rw [cuQ_eq]; cases cuOf h y <;> rfl
      | x :: y :: z :: r => rfl
    | _ => rfl
  | _ => exact curQ_b h d f
def cComp (own : List Nat) (Y : Ev) (g : D → Sg → (Sg → Bool) → Bool) (K : Kd) (I C : Ev) : Ev := fun σ h x k => I σ h x fun d h1 => curQ K h1 d fun c => compQ (fun y h2 kk => g y (wipe σ own) fun σ1 => C σ1 h2 never fun b h3 => truthQ h3 b fun t => Bool.rec (motive := fun _ => Bool) (kk none h3) (Y σ1 h3 never fun z h4 => kk (some z) h4) t) big c h1 fun ds h2 => k (.lst ds) h2
def ce (F : Fn) (C : Nat → Option D) : E → Ev
  | .var i => cVar i
  | .int i => cK (.int i)
  | .bl b => cK (.bl b)
  | .non => cK .non
  | .nop => cK .non
  | .str x => cK (.str x)
  | .glb n => cGlb (C n)
  | .nil => cK (.tup [])
  | .cons e es => cCons (ce F C e) (ce F C es)
  | .tup es => ce F C es
  | .lst es => cUn lstQ (ce F C es)
  | .allo e => cUn alloQ (ce F C e)
  | .bop o a b => cBin (opQ o) (ce F C a) (ce F C b)
  | .neg a => cUn negQ (ce F C a)
  | .not a => cUn notQ (ce F C a)
  | .cmp o a b => cBin (cmpQ o) (ce F C a) (ce F C b)
  | .chain o p a b c => cChain (cmpQ o) (cmpQ p) (ce F C a) (ce F C b) (ce F C c)
  | .and a b => cAnd (ce F C a) (ce F C b)
  | .or a b => cOr (ce F C a) (ce F C b)
  | .ife c a b => cIfe (ce F C c) (ce F C a) (ce F C b)
  | .call f es => cCall F f (ce F C es)
  | .cval e es => cCval F (ce F C e) (ce F C es)
  | .bcall b es => cUn (bi1Q b) (ce F C es)
  | .isi e t => cUn (isiQ t) (ce F C e)
  | .meth c m f o es => cMeth F c m f (ce F C o) (ce F C es)
  | .bm m o es => cBm m (ce F C o) (ce F C es)
  | .make c es => cMake F c (ce F C es)
  | .attr c o n => cAttr c n (ce F C o)
  | .ix a b => cBin ixQ (ce F C a) (ce F C b)
  | .slc a lo hi => cSlc (isNop lo) (isNop hi) (ce F C a) (ce F C lo) (ce F C hi)
  | .rev a => cUn revQ (ce F C a)
  | .enum a => cUn enumQ (ce F C a)
  | .zip a b => cBin zipQ (ce F C a) (ce F C b)
  | .rng1 a => cUn rng1Q (ce F C a)
  | .rng2 a b => cBin rng2Q (ce F C a) (ce F C b)
  | .rng3 a b c => cRng3 (ce F C a) (ce F C b) (ce F C c)
  | .comp own elt g it cnd => cComp own (ce F C elt) (cg g) (kind it) (ce F C it) (ce F C cnd)
  | .comp2 .. => fun _ _ _ _ => false
theorem un_eq {op : Uq} {A : Ev} {r : Ev} (h : ∀ σ h x k, r σ h x k = A σ h x fun d h1 => op h1 d k) : cUn op A = r := by
  funext σ h' x k
  rw [h]; rfl
theorem bin_eq {op : Bn} {A B : Ev} {r : Ev} (h : ∀ σ h x k, r σ h x k = A σ h x fun d h1 => B σ h1 x fun e h2 => op h2 d e k) : cBin op A B = r := by
  funext σ h' x k
  rw [h]; rfl
theorem ce_eq (F : Fn) (C : Nat → Option D) : ∀ e, ce F C e = ev ⟨F, C⟩ e
  | .var i => by
    funext σ h x k
    show Option.rec (motive := fun _ => Bool) false (fun d => k d h) (getQ σ i) = _
    rw [getQ_eq]; simp only [ev]; cases getS σ i <;> rfl
  | .int i => rfl
  | .bl b => rfl
  | .non => rfl
  | .nop => rfl
  | .str x => rfl
  | .glb n => by
    funext σ h x k
    show Option.rec (motive := fun _ => Bool) false (fun d => k d h) (C n) = _
    simp only [ev]; cases C n <;> rfl
  | .nil => rfl
  | .cons e es => by
    simp only [ce, ev, ce_eq F C e, ce_eq F C es]
    funext σ h x k
    unfold cCons
    congr 1; funext d h1; congr 1; funext r h2; cases r <;> rfl
  | .tup es => by simp only [ce, ev, ce_eq F C es]
  | .lst es => by
    simp only [ce, ev, ce_eq F C es]
    exact un_eq fun σ h x k => by congr 1; funext d h1; cases d <;> rfl
  | .allo e => by
    simp only [ce, ev, ce_eq F C e]
    exact un_eq fun σ h x k => by congr 1; funext d h1; cases d <;> first | rfl | (rename_i ds; exact (nat'_eq h1.nx fun n => k (.ref n) ⟨Nat.succ n, (n, .lst ds) :: h1.es⟩).symm)
  | .bop o a b => by
    simp only [ce, ev, ce_eq F C a, ce_eq F C b]
    exact bin_eq fun σ h x k => by congr 1; funext d h1; congr 1; funext e h2; rw [opQ_eq] <;> cases opD h2 o d e <;> rfl
  | .neg a => by
    simp only [ce, ev, ce_eq F C a]
    exact un_eq fun σ h x k => by congr 1; funext d h1; cases d <;> first | rfl | (rename_i i; show _ = int' (negZ i) (fun z => k (.int z) h1); rw [int'_eq, negZ_eq])
  | .not a => by
    simp only [ce, ev, ce_eq F C a]
    exact un_eq fun σ h x k => by
      congr 1; funext d h1
      unfold notQ
      rw [truthQ_eq]
      cases truth h1 d with
      | none => rfl
      | some b => cases b <;> rfl
  | .cmp o a b => by
    simp only [ce, ev, ce_eq F C a, ce_eq F C b]
    exact bin_eq fun σ h x k => by congr 1; funext d h1; congr 1; funext e h2; rw [cmpQ_eq] <;> cases cmpD h2 o d e <;> rfl
  | .chain o p a b c => by
    simp only [ce, ev, ce_eq F C a, ce_eq F C b, ce_eq F C c]
    funext σ h x k
    unfold cChain
    congr 1; funext d h1; congr 1; funext e h2
    rw [cmpQ_eq]
    cases cmpD h2 o d e with
    | none => rfl
    | some z =>
      cases z with
      | false => rfl
      | true =>
        show ev ⟨F, C⟩ c σ h2 x (fun f h3 => cmpQ p h3 e f k) = _
        congr 1; funext f h3; rw [cmpQ_eq] <;> cases cmpD h3 p e f <;> rfl
  | .and a b => by
    simp only [ce, ev, ce_eq F C a, ce_eq F C b]
    funext σ h x k
    unfold cAnd
    congr 1; funext d h1
    rw [truthQ_eq]
    cases truth h1 d with
    | none => rfl
    | some z => cases z <;> rfl
  | .or a b => by
    simp only [ce, ev, ce_eq F C a, ce_eq F C b]
    funext σ h x k
    unfold cOr
    congr 1; funext d h1
    rw [truthQ_eq]
    cases truth h1 d with
    | none => rfl
    | some z => cases z <;> rfl
  | .ife c a b => by
    simp only [ce, ev, ce_eq F C a, ce_eq F C b, ce_eq F C c]
    funext σ h x k
    unfold cIfe
    congr 1; funext d h1
    rw [truthQ_eq]
    cases truth h1 d with
    | none => rfl
    | some z => cases z <;> rfl
  | .call f es => by
    simp only [ce, ev, ce_eq F C es]
    funext σ h x k
    unfold cCall
    congr 1; funext r h1; cases r <;> rfl
  | .cval e es => by
    simp only [ce, ev, ce_eq F C e, ce_eq F C es]
    rfl
  | .bcall b es => by
    simp only [ce, ev, ce_eq F C es]
    exact un_eq fun σ h x k => by congr 1; funext d h1; cases d <;> first | rfl | exact (biQ_eq _ _ _ _).symm
  | .isi e t => by
    simp only [ce, ev, ce_eq F C e]
    exact un_eq fun σ h x k => by
      congr 1; funext d h1
      unfold isiQ
      cases isTy h1 d t with
      | none => rfl
      | some b => exact (bool'_eq b fun b => k (.bl b) h1).symm
  | .meth c m f o es => by
    simp only [ce, ev, ce_eq F C o, ce_eq F C es]
    rfl
  | .bm m o es => by
    simp only [ce, ev, ce_eq F C o, ce_eq F C es]
    funext σ h x k
    unfold cBm
    congr 1; funext d h1
    cases recv h1 m d with
    | false => rfl
    | true =>
      show ev ⟨F, C⟩ es σ h1 x (fun r h2 => onT r fun ds => optB (bmD h2 m d ds) fun p => Prod.rec (motive := fun _ => Bool) (fun z h3 => k z h3) p) = _
      congr 1; funext r h2
      cases r <;> first | rfl | (rename_i ds; show optB (bmD h2 m d ds) _ = _; dsimp only; cases bmD h2 m d ds <;> rfl)
  | .make c es => by
    simp only [ce, ev, ce_eq F C es]
    rfl
  | .attr c o n => by
    simp only [ce, ev, ce_eq F C o]
    rfl
  | .ix a b => by
    simp only [ce, ev, ce_eq F C a, ce_eq F C b]
    exact bin_eq fun σ h x k => by congr 1; funext d h1; congr 1; funext e h2; rw [ixQ_eq] <;> cases e <;> rfl
  | .slc a lo hi => by
    simp only [ce, ev, ce_eq F C a, ce_eq F C lo, ce_eq F C hi]
    funext σ h x k
    unfold cSlc
    congr 1; funext d h1; congr 1; funext l h2
    rw [partQ_eq]
    cases part lo l with
    | none => rfl
    | some l =>
      dsimp only
      congr 1; funext u h3
      rw [partQ_eq]
      cases part hi u with
      | none => rfl
      | some u => exact sliceQ_eq _ _ _ _ _
  | .rev a => by
    simp only [ce, ev, ce_eq F C a]
    exact un_eq fun σ h x k => by congr 1; funext d h1; cases d <;> rfl
  | .enum a => by
    simp only [ce, ev, ce_eq F C a]
    exact un_eq fun σ h x k => rfl
  | .zip a b => by
    simp only [ce, ev, ce_eq F C a, ce_eq F C b]
    exact bin_eq fun σ h x k => rfl
  | .rng1 a => by
    simp only [ce, ev, ce_eq F C a]
    exact un_eq fun σ h x k => by congr 1; funext d h1; rw [rng1Q_eq] <;> cases d <;> rfl
  | .rng2 a b => by
    simp only [ce, ev, ce_eq F C a, ce_eq F C b]
    exact bin_eq fun σ h x k => rfl
  | .rng3 a b c => by
    simp only [ce, ev, ce_eq F C a, ce_eq F C b, ce_eq F C c]
    rfl
  | .comp own elt g it cnd => by
    simp only [ce, ev, ce_eq F C elt, ce_eq F C it, ce_eq F C cnd]
    funext σ h x k
    unfold cComp
    congr 1; funext d h1
    rw [curQ_eq]
    cases curI it h1 d with
    | none => rfl
    | some c =>
      dsimp only
      rw [compQ_eq]
      congr 1; funext y h2 kk
      rw [cg_eq g]
      cases setG g y (wipe σ own) with
      | none => rfl
      | some σ1 =>
        dsimp only
        congr 1; funext b h3
        rw [truthQ_eq]
        cases truth h3 b with
        | none => rfl
        | some t => cases t <;> rfl
  | .comp2 .. => rfl
end
end Z

namespace Z
noncomputable section
def sSkip : Es := fun σ h _ nx _ _ _ => nx σ h
def sNever : Es := fun _ _ _ _ _ _ _ => false
def sBrk : Es := fun σ h _ _ _ bk _ => bk σ h
def sCont : Es := fun σ h _ _ _ _ ct => ct σ h
def sSeq (A B : Es) : Es := fun σ h x nx rt bk ct => A σ h x (fun σ1 h1 => B σ1 h1 x nx rt bk ct) rt bk ct
def sExpr (A : Ev) : Es := fun σ h x nx _ _ _ => A σ h (at_ x σ) fun _ h1 => nx σ h1
def sSet (i : Nat) (A : Ev) : Es := fun σ h x nx _ _ _ => A σ h (at_ x σ) fun d h1 => nx (setQ σ d i) h1
def sPar (is : List Nat) (A : Ev) : Es := fun σ h x nx _ _ _ => A σ h (at_ x σ) fun r h1 => onT r fun ds => optB (parS is ds σ) fun σ1 => nx σ1 h1
def sUnp (g : D → Sg → (Sg → Bool) → Bool) (A : Ev) : Es := fun σ h x nx _ _ _ => A σ h (at_ x σ) fun d h1 => g d σ fun σ1 => nx σ1 h1
def sSattr (c n : Nat) (O A : Ev) : Es := fun σ h x nx _ _ _ => A σ h (at_ x σ) fun v h1 => O σ h1 (at_ x σ) fun d h2 => match d with
    | .ref l => (match look h2.es l with
      | some (.ins c' fs) => (match Nat.beq c c', Nat.ble fs.length 900 with | true, true => nx σ ⟨h2.nx, put h2.es l (.ins c' (putf fs n v))⟩ | _, _ => false)
      | _ => false)
    | _ => false
def sSitem (O I A : Ev) : Es := fun σ h x nx _ _ _ => A σ h (at_ x σ) fun v h1 => O σ h1 (at_ x σ) fun d h2 => I σ h2 (at_ x σ) fun j h3 => optB (setItem h3 d j v) fun h4 => nx σ h4
def augQ (o : Op) (h : Hd) (d v : D) (k : D → Hd → Bool) : Bool := elI d (fun i => elI v (fun j => Op.rec (motive := fun _ => Bool) (int' (addZ i j) fun z => k (.int z) h) (int' (subZ i j) fun z => k (.int z) h) (optB (augD h o d v) fun p => Prod.rec (motive := fun _ => Bool) (fun z h => k z h) p) (optB (augD h o d v) fun p => Prod.rec (motive := fun _ => Bool) (fun z h => k z h) p) (optB (augD h o d v) fun p => Prod.rec (motive := fun _ => Bool) (fun z h => k z h) p) (optB (augD h o d v) fun p => Prod.rec (motive := fun _ => Bool) (fun z h => k z h) p) (optB (augD h o d v) fun p => Prod.rec (motive := fun _ => Bool) (fun z h => k z h) p) (optB (augD h o d v) fun p => Prod.rec (motive := fun _ => Bool) (fun z h => k z h) p) (optB (augD h o d v) fun p => Prod.rec (motive := fun _ => Bool) (fun z h => k z h) p) o)
    (optB (augD h o d v) fun p => Prod.rec (motive := fun _ => Bool) (fun z h => k z h) p)) (optB (augD h o d v) fun p => Prod.rec (motive := fun _ => Bool) (fun z h => k z h) p)
theorem augQ_eq (o : Op) (h : Hd) (d v : D) (k : D → Hd → Bool) : augQ o h d v k = match augD h o d v with | some (z, h2) => k z h2 | none => false := by
  have g : (optB (augD h o d v) fun p => Prod.rec (motive := fun _ => Bool) (fun z h => k z h) p) = match augD h o d v with | some (z, h2) => k z h2 | none => false := by cases augD h o d v <;> rfl
  unfold augQ
  rw [elI_eq]
  split
  · rw [elI_eq]
    split
    · cases o with
      | add => show int' _ (fun z => k (.int z) h) = _; rw [int'_eq, addZ_eq]; rfl
      | sub => show int' _ (fun z => k (.int z) h) = _; rw [int'_eq, subZ_eq]; rfl
      | _ => exact g
    · exact g
  · exact g
def sAug (i : Nat) (o : Op) (A : Ev) : Es := fun σ h x nx _ _ _ => optB (getQ σ i) fun d => A σ h (at_ x σ) fun v h1 => augQ o h1 d v fun z h2 => nx (setQ σ z i) h2
def sAugitem (o : Op) (O I A : Ev) : Es := fun σ h x nx _ _ _ => O σ h (at_ x σ) fun d h1 => I σ h1 (at_ x σ) fun j h2 => optB (getItem h2 d j) fun w => A σ h2 (at_ x σ) fun v h3 => opQ o h3 w v fun z h3 => optB (setItem h3 d j z) fun h4 => nx σ h4
def sIf (C : Ev) (A B : Es) : Es := fun σ h x nx rt bk ct => C σ h (at_ x σ) fun d h1 => truthQ h1 d fun b => Bool.rec (motive := fun _ => Bool) (B σ h1 x nx rt bk ct) (A σ h1 x nx rt bk ct) b
def sFor (g : D → Sg → (Sg → Bool) → Bool) (K : Kd) (I : Ev) (B : Es) : Es := fun σ h x nx rt _ _ => I σ h (at_ x σ) fun d h1 => curQ K h1 d fun c => forQ g (fun σ1 h2 n1 b1 => B σ1 h2 x n1 rt b1 n1) big c σ h1 nx
def sWhl (C : Ev) (B : Es) : Es := fun σ h x nx rt _ _ => whlQ (fun σ1 h1 k => C σ1 h1 (at_ x σ1) fun d h2 => truthQ h2 d fun t => k t h2) (fun σ1 h2 n1 b1 => B σ1 h2 x n1 rt b1 n1) big σ h nx
def sRet (A : Ev) : Es := fun σ h x _ rt _ _ => A σ h (at_ x σ) rt
def sRetn : Es := fun _ h _ _ rt _ _ => rt .non h
/-! values brought to figures through and through -/
def normR (x : D) : (D → Bool) → Bool := D.rec (motive_1 := fun _ => (D → Bool) → Bool) (motive_2 := fun _ => (List D → Bool) → Bool)
  (fun f => f .non) (fun b f => bool' b fun b => f (.bl b)) (fun i f => int' i fun i => f (.int i)) (fun s f => f (.str s)) (fun _ ih f => ih fun ds => f (.tup ds)) (fun _ ih f => ih fun ds => f (.lst ds)) (fun n f => nat' n fun n => f (.ref n)) (fun n f => nat' n fun n => f (.gl n))
  (fun f => f []) (fun _ _ i1 i2 f => i1 fun d => i2 fun r => f (d :: r)) x
mutual
theorem normR_eq : ∀ (x : D) (f : D → Bool), normR x f = f x
  | .non, _ => rfl
  | .bl b, f => bool'_eq b fun b => f (.bl b)
  | .int i, f => int'_eq i fun i => f (.int i)
  | .str _, _ => rfl
  | .tup ds, f => normL_eq ds fun ds => f (.tup ds)
  | .lst ds, f => normL_eq ds fun ds => f (.lst ds)
  | .ref n, f => nat'_eq n fun n => f (.ref n)
  | .gl n, f => nat'_eq n fun n => f (.gl n)
theorem normL_eq : ∀ (x : List D) (f : List D → Bool), (D.rec_1 (motive_1 := fun _ => (D → Bool) → Bool) (motive_2 := fun _ => (List D → Bool) → Bool)
  (fun f => f .non) (fun b f => bool' b fun b => f (.bl b)) (fun i f => int' i fun i => f (.int i)) (fun s f => f (.str s)) (fun _ ih f => ih fun ds => f (.tup ds)) (fun _ ih f => ih fun ds => f (.lst ds)) (fun n f => nat' n fun n => f (.ref n)) (fun n f => nat' n fun n => f (.gl n))
  (fun f => f []) (fun _ _ i1 i2 f => i1 fun d => i2 fun r => f (d :: r)) x : (List D → Bool) → Bool) f = f x
  | [], _ => rfl
  | d :: r, f => (normR_eq d _).trans (normL_eq r fun r => f (d :: r))
end
def keepQ (ks : List Bool) : Sg → (Sg → Bool) → Bool := List.rec (motive := fun _ => Sg → (Sg → Bool) → Bool) (fun _ f => f []) (fun b _ ih s f => List.rec (motive := fun _ => Bool) (f [])
  (fun o r _ => Bool.rec (motive := fun _ => Bool) (ih r fun r => f (none :: r)) (Option.rec (motive := fun _ => Bool) (ih r fun r => f (none :: r)) (fun d => normR d fun d => ih r fun r => f (some d :: r)) o) b) s) ks
theorem keepQ_eq : ∀ (ks : List Bool) (s : Sg) (f : Sg → Bool), keepQ ks s f = f (keep ks s)
  | [], _, _ => rfl
  | _ :: _, [], _ => rfl
  | true :: ks, none :: r, f => keepQ_eq ks r fun r => f (none :: r)
  | true :: ks, some d :: r, f => (normR_eq d fun d => keepQ ks r fun r => f (some d :: r)).trans (keepQ_eq ks r fun r => f (some d :: r))
  | false :: ks, _ :: r, f => keepQ_eq ks r fun r => f (none :: r)
def normLs (x : List D) : (List D → Bool) → Bool := List.rec (motive := fun _ => (List D → Bool) → Bool) (fun f => f []) (fun d _ ih f => normR d fun d => ih fun r => f (d :: r)) x
theorem normLs_eq : ∀ (x : List D) (f : List D → Bool), normLs x f = f x
  | [], _ => rfl
  | d :: r, f => (normR_eq d _).trans (normLs_eq r fun r => f (d :: r))
def normO (o : O) (f : O → Bool) : Bool := O.rec (motive := fun _ => Bool) (fun ds => normLs ds fun ds => f (.lst ds)) (fun c fs => f (.ins c fs)) (fun c => nat' (Nat.mul (Nat.add (Nat.div c 64) 1) 64) fun c => f (.pen c)) o
theorem normO_eq (o : O) (f : O → Bool) : normO o f = f (upO o) := by
  cases o with
  | lst ds => exact normLs_eq ds fun ds => f (.lst ds)
  | ins c fs => rfl
  | pen c => exact nat'_eq (Nat.mul (Nat.add (Nat.div c 64) 1) 64) fun c => f (.pen c)
def normE (es : List (Nat × O)) : (List (Nat × O) → Bool) → Bool := List.rec (motive := fun _ => (List (Nat × O) → Bool) → Bool) (fun f => f []) (fun p _ ih f => Prod.rec (motive := fun _ => Bool) (fun l o => nat' l fun l => normO o fun o => ih fun r => f ((l, o) :: r)) p) es
theorem normE_eq : ∀ (es : List (Nat × O)) (f : List (Nat × O) → Bool), normE es f = f (upE es)
  | [], _ => rfl
  | (l, o) :: r, f => by
    show nat' l (fun l => normO o fun o => normE r fun r => f ((l, o) :: r)) = _
    rw [nat'_eq, normO_eq, normE_eq r]; rfl
def normH (h : Hd) (f : Hd → Bool) : Bool := nat' h.nx fun n => normE h.es fun es => f ⟨n, es⟩
theorem normH_eq (h : Hd) (f : Hd → Bool) : normH h f = f (upH h) := by
  unfold normH
  rw [nat'_eq, normE_eq]; rfl
/-- a place where ways meet: the state in figures, so that the kernel goes on but once -/
def sDrop (ks : List Bool) (B : Es) : Es := fun σ h x nx rt bk ct => keepQ ks σ fun σ1 => normH h fun h1 => Bool.rec (motive := fun _ => Bool) false true (B σ1 h1 x nx rt bk ct)
def cs (F : Fn) (C : Nat → Option D) : S → Es
  | .skip => sSkip
  | .pass => sSkip
  | .doc => sSkip
  | .never => sNever
  | .brk => sBrk
  | .cont => sCont
  | .seq a b => sSeq (cs F C a) (cs F C b)
  | .expr e => sExpr (ce F C e)
  | .set i e => sSet i (ce F C e)
  | .par is e => sPar is (ce F C e)
  | .unp g e => sUnp (cg g) (ce F C e)
  | .sattr c o n e => sSattr c n (ce F C o) (ce F C e)
  | .sitem o i e => sSitem (ce F C o) (ce F C i) (ce F C e)
  | .aug i o e => sAug i o (ce F C e)
  | .augitem o i op e => sAugitem op (ce F C o) (ce F C i) (ce F C e)
  | .ifs c a b => sIf (ce F C c) (cs F C a) (cs F C b)
  | .for_ g it b => sFor (cg g) (kind it) (ce F C it) (cs F C b)
  | .whl c b => sWhl (ce F C c) (cs F C b)
  | .ret e => sRet (ce F C e)
  | .retn => sRetn
  | .drop ks b => sDrop ks (cs F C b)
theorem cs_eq (F : Fn) (C : Nat → Option D) : ∀ s, cs F C s = evS ⟨F, C⟩ s
  | .skip => rfl
  | .pass => rfl
  | .doc => rfl
  | .never => rfl
  | .brk => rfl
  | .cont => rfl
  | .seq a b => by
    simp only [cs, evS, cs_eq F C a, cs_eq F C b]; rfl
  | .expr e => by
    simp only [cs, evS, ce_eq F C e]; rfl
  | .set i e => by
    simp only [cs, evS, ce_eq F C e]
    funext σ h x nx rt bk ct
    unfold sSet
    simp only [setQ_eq]
  | .par is e => by
    simp only [cs, evS, ce_eq F C e]
    funext σ h x nx rt bk ct
    unfold sPar
    congr 1; funext r h1
    cases r <;> first | rfl | (rename_i ds; show optB (parS is ds σ) _ = _; dsimp only; cases parS is ds σ <;> rfl)
  | .unp g e => by
    simp only [cs, evS, ce_eq F C e]
    funext σ h x nx rt bk ct
    unfold sUnp
    congr 1; funext d h1
    rw [cg_eq g] <;> cases setG g d σ <;> rfl
  | .sattr c o n e => by
    simp only [cs, evS, ce_eq F C o, ce_eq F C e]; rfl
  | .sitem o i e => by
    simp only [cs, evS, ce_eq F C o, ce_eq F C i, ce_eq F C e]
    funext σ h x nx rt bk ct
    unfold sSitem
    congr 1; funext v h1; congr 1; funext d h2; congr 1; funext j h3
    cases setItem h3 d j v <;> rfl
  | .aug i o e => by
    simp only [cs, evS, ce_eq F C e]
    funext σ h x nx rt bk ct
    unfold sAug
    rw [getQ_eq]
    cases getS σ i with
    | none => rfl
    | some d =>
      show ev ⟨F, C⟩ e σ h (at_ x σ) (fun v h1 => augQ o h1 d v fun z h2 => nx (setQ σ z i) h2) = _
      dsimp only
      congr 1; funext v h1
      rw [augQ_eq]
      simp only [setQ_eq] <;> cases augD h1 o d v <;> rfl
  | .augitem o i op e => by
    simp only [cs, evS, ce_eq F C o, ce_eq F C i, ce_eq F C e]
    funext σ h x nx rt bk ct
    unfold sAugitem
    congr 1; funext d h1; congr 1; funext j h2
    cases getItem h2 d j with
    | none => rfl
    | some w =>
      show ev ⟨F, C⟩ e σ h2 (at_ x σ) (fun v h3 => opQ op h3 w v fun z h3 => optB (setItem h3 d j z) fun h4 => nx σ h4) = _
      dsimp only
      congr 1; funext v h3
      rw [opQ_eq]
      cases opD h3 op w v with
      | none => rfl
      | some z => dsimp only; cases setItem h3 d j z <;> rfl
  | .ifs c a b => by
    simp only [cs, evS, ce_eq F C c, cs_eq F C a, cs_eq F C b]
    funext σ h x nx rt bk ct
    unfold sIf
    congr 1; funext d h1
    rw [truthQ_eq]
    cases truth h1 d with
    | none => rfl
    | some t => cases t <;> rfl
  | .for_ g it b => by
    simp only [cs, evS, ce_eq F C it, cs_eq F C b]
    funext σ h x nx rt bk ct
    unfold sFor
    congr 1; funext d h1
    rw [curQ_eq]
    cases curI it h1 d with
    | none => rfl
    | some c => exact forQ_eq (cg_eq g) _ _ _ _ _ _
  | .whl c b => by
    simp only [cs, evS, ce_eq F C c, cs_eq F C b]
    funext σ h x nx rt bk ct
    unfold sWhl
    rw [whlQ_eq]
    congr 1
    funext σ1 h1 k
    congr 1; funext d h2
    rw [truthQ_eq] <;> cases truth h2 d <;> rfl
  | .ret e => by
    simp only [cs, evS, ce_eq F C e]; rfl
  | .retn => rfl
  | .drop ks b => by
    simp only [cs, evS, cs_eq F C b]
    funext σ h x nx rt bk ct
    unfold sDrop
    rw [keepQ_eq, normH_eq]
    cases evS ⟨F, C⟩ b (keep ks σ) (upH h) x nx rt bk ct <;> rfl
/-! defs -/
structure Fq where
  np : Nat
  ns : Nat
  body : Fn → Es
  tidy : Bool
def btQ {α : Type} (t : Bt α) (n : Nat) : Option α := Bt.rec (motive := fun _ => Option α) none (fun k v _ _ a b => Bool.rec (motive := fun _ => Option α) (Bool.rec (motive := fun _ => Option α) b a (Nat.ble n k)) (some v) (Nat.beq n k)) t
theorem btQ_eq {α : Type} (n : Nat) : ∀ t : Bt α, btQ t n = bt t n
  | .lf => rfl
  | .nd k v a b => by
    show Bool.rec (motive := fun _ => Option α) (Bool.rec (motive := fun _ => Option α) (btQ b n) (btQ a n) (Nat.ble n k)) (some v) (Nat.beq n k) = _
    simp only [bt, btQ_eq n a, btQ_eq n b]
    cases Nat.beq n k <;> cases Nat.ble n k <;> rfl
/-- the heap behind a def -/
def cutF (es : List (Nat × O)) (n : Nat) : (List (Nat × O) → Bool) → Bool := List.rec (motive := fun _ => (List (Nat × O) → Bool) → Bool) (fun f => f []) (fun p _ ih f => Bool.rec (motive := fun _ => Bool) (ih fun r => f (p :: r)) (ih f) (Nat.ble n p.1)) es
theorem cutF_eq (n : Nat) : ∀ (es : List (Nat × O)) (f : List (Nat × O) → Bool), cutF es n f = f (cut es n)
  | [], _ => rfl
  | (l, o) :: r, f => by
    show Bool.rec (motive := fun _ => Bool) (cutF r n fun q => f ((l, o) :: q)) (cutF r n f) (Nat.ble n l) = _
    simp only [cut, cutF_eq n r]
    cases Nat.ble n l <;> rfl
def tdQ (k : D → Hd → Bool) (n : Nat) : D → Hd → Bool := fun v h1 => nat' h1.nx fun m => cutF h1.es n fun es => k v ⟨m, es⟩
theorem tdQ_eq (k : D → Hd → Bool) (n : Nat) (v : D) (h1 : Hd) : tdQ k n v h1 = k v ⟨h1.nx, cut h1.es n⟩ := by
  unfold tdQ
  rw [nat'_eq, cutF_eq]
def runQ (d : Fq) (F : Fn) (ds : List D) (h : Hd) (x : KX) (k : K1) : Bool := Bool.rec (motive := fun _ => Bool)
  (d.body F (begin ds d.ns) h (fun c fs _ h1 => x c fs h1) (fun _ h1 => k .non h1) k (fun _ _ => false) (fun _ _ => false))
  (d.body F (begin ds d.ns) h (fun c fs _ h1 => x c fs ⟨h1.nx, cut h1.es h.nx⟩) (fun _ h1 => tdQ k h.nx .non h1) (tdQ k h.nx) (fun _ _ => false) (fun _ _ => false)) d.tidy
def callQ (P : Bt Fq) (N : Nat → Option (List D → Hd → K1 → Bool)) (M : Nat → List D → (D → Bool) → Bool → Bool) (n : Nat) : Fn := Nat.rec (motive := fun _ => Fn) (fun _ _ _ _ _ => false)
  (fun _ F f ds h x k => M f ds (fun r => k r h) (Option.rec (motive := fun _ => Bool)
    (Option.rec (motive := fun _ => Bool) false (fun d => Bool.rec (motive := fun _ => Bool) false (runQ d F ds h x k) (Nat.beq (lenQ ds) d.np)) (btQ P f)) (fun t => t ds h k) (N f))) n
/-- the quick program is the program -/
structure Quick (P : Nat → Option Fd) (C : Nat → Option D) (Q : Bt Fq) : Prop where
  to : ∀ f, match bt Q f with
    | some q => ∃ d, P f = some d ∧ d.np = q.np ∧ d.ns = q.ns ∧ d.tidy = q.tidy ∧ ∀ F, q.body F = cs F C d.body
    | none => P f = none
def RT {α β : Type} (R : α → β → Prop) : Bt α → Bt β → Prop
  | .lf, .lf => True
  | .nd k v a b, .nd k' v' a' b' => k = k' ∧ R v v' ∧ RT R a a' ∧ RT R b b'
  | _, _ => False
theorem RT_bt {α β : Type} {R : α → β → Prop} (n : Nat) : ∀ {t : Bt α} {u : Bt β}, RT R t u → match bt u n with | some q => ∃ d, bt t n = some d ∧ R d q | none => bt t n = none
  | .lf, .lf, _ => rfl
  | .nd k v a b, .nd k' v' a' b', h => by
    obtain ⟨e, r, h1, h2⟩ := h
    subst e
    simp only [bt]
    cases Nat.beq n k with
    | true => exact ⟨v, rfl, r⟩
    | false =>
      cases Nat.ble n k with
      | true => exact RT_bt n h1
      | false => exact RT_bt n h2
  | .lf, .nd _ _ _ _, h => h.elim
  | .nd _ _ _ _, .lf, h => h.elim
def BtAll {α : Type} (R : Nat → α → Prop) : Bt α → Prop
  | .lf => True
  | .nd k v a b => R k v ∧ BtAll R a ∧ BtAll R b
theorem btree_all {α : Type} {R : Nat → α → Prop} {n : Nat} {v : α} : ∀ {t : Bt α}, BtAll R t → bt t n = some v → R n v
  | .lf, _, h => by cases h
  | .nd k w a b, r, h => by
    simp only [bt] at h
    cases q : Nat.beq n k with
    | true =>
      simp only [q] at h
      cases h
      rw [Nat.eq_of_beq_eq_true q]
      exact r.1
    | false =>
      simp only [q] at h
      cases q2 : Nat.ble n k with
      | true => simp only [q2] at h; exact btree_all r.2.1 h
      | false => simp only [q2] at h; exact btree_all r.2.2 h
def QR (C : Nat → Option D) (d : Fd) (q : Fq) : Prop := d.np = q.np ∧ d.ns = q.ns ∧ d.tidy = q.tidy ∧ ∀ F, q.body F = cs F C d.body
theorem quick_of {P : Bt Fd} {C : Nat → Option D} {Q : Bt Fq} (h : RT (QR C) P Q) : Quick (bt P) C Q := ⟨fun f => by
  have z := RT_bt f h
  cases q : bt Q f with
  | none => rw [q] at z; exact z
  | some d => rw [q] at z; exact z⟩
theorem callQ_eq {P : Nat → Option Fd} {C : Nat → Option D} {Q : Bt Fq} (q : Quick P C Q) {N : Nat → Option (List D → Hd → K1 → Bool)} {M : Nat → List D → Option D} {MQ : Nat → List D → (D → Bool) → Bool → Bool}
    (hm : ∀ f ds a b, MQ f ds a b = match M f ds with | some r => a r | none => b) : ∀ n, callQ Q N MQ n = call P C N M n
  | 0 => by
    funext f ds h x k
    simp only [call]; rfl
  | n + 1 => by
    have ih := callQ_eq q hm (N := N) n
    funext f ds h x k
    show MQ f ds (fun r => k r h) (Option.rec (motive := fun _ => Bool) (Option.rec (motive := fun _ => Bool) false (fun d => Bool.rec (motive := fun _ => Bool) false (runQ d (callQ Q N MQ n) ds h x k) (Nat.beq (lenQ ds) d.np)) (btQ Q f)) (fun t => t ds h k) (N f)) = _
    rw [hm, ih, btQ_eq]
    simp only [call]
    cases M f ds with
    | some r => rfl
    | none =>
      dsimp only
      cases N f with
      | some t => rfl
      | none =>
        dsimp only
        have z := q.to f
        cases w : bt Q f with
        | none => rw [w] at z; dsimp only at z; rw [z]
        | some d =>
          rw [w] at z
          obtain ⟨d', e1, e2, e3, e4, e5⟩ := z
          rw [e1]
          dsimp only
          rw [lenQ_eq, e2]
          cases Nat.beq ds.length d.np with
          | false => rfl
          | true =>
            show runQ d (call P C N M n) ds h x k = _
            unfold runQ
            rw [e5, cs_eq, e3, e4]
            cases d.tidy with
            | false => rfl
            | true =>
              dsimp only
              have e : tdQ k h.nx = fun v h1 => k v ⟨h1.nx, cut h1.es h.nx⟩ := by
                funext v h1; exact tdQ_eq _ _ _ _
              rw [e]
end
end Z

namespace Z
open PySem PySem.Spec PyProof.Rows L2
/-! ### runs that touch nothing of what stands: tabled -/
def natsEq : List Nat → List Nat → Bool
  | [], [] => true
  | a :: r, b :: s => match Nat.beq a b with | true => natsEq r s | false => false
  | _, _ => false
mutual
def same : D → D → Bool
  | .non, .non => true
  | .bl a, .bl b => match a with | true => b | false => !b
  | .int i, .int j => decide (i = j)
  | .str x, .str y => natsEq x y
  | .tup xs, .tup ys => sameL xs ys
  | .lst xs, .lst ys => sameL xs ys
  | .gl a, .gl b => Nat.beq a b
  | _, _ => false
def sameL : List D → List D → Bool
  | [], [] => true
  | x :: xs, y :: ys => match same x y with | true => sameL xs ys | false => false
  | _, _ => false
end
mutual
def plain : D → Bool
  | .ref _ => false
  | .tup xs => plainL xs
  | .lst xs => plainL xs
  | _ => true
def plainL : List D → Bool
  | [] => true
  | x :: xs => match plain x with | true => plainL xs | false => false
end
theorem nats_eq : ∀ {x y : List Nat}, natsEq x y = true → x = y
  | [], [], _ => rfl
  | a :: r, b :: s, h => by
    simp only [natsEq] at h
    split at h
    · rename_i q
      rw [Nat.eq_of_beq_eq_true q, nats_eq h]
    · cases h
  | [], _ :: _, h => by cases h
  | _ :: _, [], h => by cases h
mutual
theorem same_eq : ∀ {x y : D}, same x y = true → x = y ∧ plain x = true
  | .non, y, h => by cases y <;> first | exact ⟨rfl, rfl⟩ | cases h
  | .bl a, y, h => by cases y <;> first | (rename_i b; cases a <;> cases b <;> first | exact ⟨rfl, rfl⟩ | cases h) | cases h
  | .int i, y, h => by cases y <;> first | exact ⟨congrArg D.int (of_decide_eq_true h), rfl⟩ | cases h
  | .str i, y, h => by cases y <;> first | exact ⟨congrArg D.str (nats_eq h), rfl⟩ | cases h
  | .gl i, y, h => by cases y <;> first | exact ⟨congrArg D.gl (Nat.eq_of_beq_eq_true h), rfl⟩ | cases h
  | .ref i, y, h => by cases y <;> cases h
  | .tup xs, y, h => by
    cases y with
    | tup ys => have q := sameL_eq (show sameL xs ys = true from h); exact ⟨congrArg D.tup q.1, q.2⟩
    | _ => cases h
  | .lst xs, y, h => by
    cases y with
    | lst ys => have q := sameL_eq (show sameL xs ys = true from h); exact ⟨congrArg D.lst q.1, q.2⟩
    | _ => cases h
theorem sameL_eq : ∀ {x y : List D}, sameL x y = true → x = y ∧ plainL x = true
  | [], [], _ => ⟨rfl, rfl⟩
  | a :: r, b :: s, h => by
    simp only [sameL] at h
    split at h
    · rename_i q
      have q1 := same_eq q
      have q2 := sameL_eq h
      refine ⟨by rw [q1.1, q2.1], ?_⟩
      simp only [plainL, q1.2]
      exact q2.2
    · cases h
  | [], _ :: _, h => by cases h
  | _ :: _, [], h => by cases h
end

/-! ### known runs in a search tree: by a key of the values, each with its layer -/
mutual
def hsh : D → Nat → Nat
  | .non, a => a * 1000003 + 1
  | .bl b, a => match b with | true => a * 1000003 + 3 | false => a * 1000003 + 5
  | .int i, a => match i with | .ofNat n => a * 1000003 + (n * 8 + 2) | .negSucc n => a * 1000003 + (n * 8 + 6)
  | .str x, a => hshN x (a * 1000003 + 7)
  | .tup ds, a => hshL ds (a * 1000003 + 9)
  | .lst ds, a => hshL ds (a * 1000003 + 11)
  | .ref _, a => a
  | .gl _, a => a
def hshL : List D → Nat → Nat
  | [], a => a * 1000003 + 13
  | d :: ds, a => hshL ds (hsh d a)
def hshN : List Nat → Nat → Nat
  | [], a => a * 1000003 + 15
  | n :: r, a => hshN r (a * 1000003 + n)
end
def key (ds : List D) : Nat := hshL ds 1 % 1000000007
inductive Tr where
  | lf | nd (k l : Nat) (ds : List D) (r : D) (a b : Tr)
/-- what is known below the layer m -/
def find : Tr → Nat → List D → Nat → Option D
  | .lf, _, _, _ => none
  | .nd k l ds r a b, n, xs, m => match Nat.beq n k with
    | true => match Nat.ble m l with
      | true => none
      | false => match sameL ds xs with | true => some r | false => none
    | false => match Nat.ble n k with | true => find a n xs m | false => find b n xs m
def fnd (t : Bt Tr) (m f : Nat) (ds : List D) : Option D := match bt t f with
  | none => none
  | some t => find t (key ds) ds m
/-- the check of a layer's runs whose keys lie in a part -/
def okT (c : List D → D → Bool) (l lo hi : Nat) : Tr → Bool
  | .lf => true
  | .nd k l' ds r a b => match Nat.beq l l', Nat.ble lo k, Nat.ble hi k with
    | true, true, false => c ds r && (okT c l lo hi a && okT c l lo hi b)
    | _, _, _ => okT c l lo hi a && okT c l lo hi b
theorem okT_join {c : List D → D → Bool} {l lo m hi : Nat} : ∀ {t : Tr}, okT c l lo m t = true → okT c l m hi t = true → okT c l lo hi t = true
  | .lf, _, _ => rfl
  | .nd k l' ds r a b, h1, h2 => by
    have g1 : okT c l lo m a = true ∧ okT c l lo m b = true := by
      simp only [okT] at h1
      split at h1 <;> simp only [Bool.and_eq_true] at h1 <;> first | exact h1 | exact h1.2
    have g2 : okT c l m hi a = true ∧ okT c l m hi b = true := by
      simp only [okT] at h2
      split at h2 <;> simp only [Bool.and_eq_true] at h2 <;> first | exact h2 | exact h2.2
    have ga := okT_join g1.1 g2.1
    have gb := okT_join g1.2 g2.2
    have hc : Nat.beq l l' = true → Nat.ble lo k = true → Nat.ble hi k = false → c ds r = true := fun e1 e2 e3 => by
      cases q : Nat.ble m k with
      | true => simp only [okT, e1, e3, q, Bool.and_eq_true] at h2; exact h2.1
      | false => simp only [okT, e1, e2, q, Bool.and_eq_true] at h1; exact h1.1
    simp only [okT]
    split
    · rename_i e1 e2 e3
      rw [hc e1 e2 e3, ga, gb]; rfl
    · rw [ga, gb]; rfl
theorem find_step {l : Nat} {n : Nat} {xs : List D} {r : D} {c : List D → D → Bool} : ∀ {t : Tr}, okT c l 0 1000000007 t = true → n < 1000000007 → find t n xs (l + 1) = some r → find t n xs l = some r ∨ (c xs r = true ∧ plainL xs = true)
  | .lf, _, _, h => by cases h
  | .nd k l' ds d a b, ok, hn, h => by
    have g : okT c l 0 1000000007 a = true ∧ okT c l 0 1000000007 b = true := by
      simp only [okT] at ok
      split at ok <;> simp only [Bool.and_eq_true] at ok <;> first | exact ok | exact ok.2
    simp only [find] at h ⊢
    cases e1 : Nat.beq n k with
    | false =>
      simp only [e1] at h ⊢
      cases e2 : Nat.ble n k with
      | true => simp only [e2] at h ⊢; exact find_step g.1 hn h
      | false => simp only [e2] at h ⊢; exact find_step g.2 hn h
    | true =>
      simp only [e1] at h ⊢
      cases e2 : Nat.ble (l + 1) l' with
      | true => simp only [e2] at h; cases h
      | false =>
        simp only [e2] at h
        cases e3 : sameL ds xs with
        | false => simp only [e3] at h; cases h
        | true =>
          simp only [e3] at h
          cases h
          have q := sameL_eq e3
          cases e4 : Nat.ble l l' with
          | false => exact .inl rfl
          | true =>
            have h1 := Nat.le_of_ble_eq_true e4
            have h2 : ¬ l + 1 ≤ l' := fun z => by rw [Nat.ble_eq_true_of_le z] at e2; cases e2
            have h3 : l' = l := by omega
            have h4 := Nat.eq_of_beq_eq_true e1
            subst h3; subst h4
            have b1 : Nat.beq l' l' = true := Nat.beq_refl l'
            have b2 : Nat.ble 0 n = true := Nat.ble_eq_true_of_le (Nat.zero_le _)
            have b3 : Nat.ble 1000000007 n = false := by
              cases z : Nat.ble 1000000007 n with
              | false => rfl
              | true => have := Nat.le_of_ble_eq_true z; omega
            simp only [okT, b1, b2, b3, Bool.and_eq_true] at ok
            rw [← q.1]
            exact .inr ⟨ok.1, q.2⟩
theorem find0 {n : Nat} {xs : List D} : ∀ {t : Tr}, find t n xs 0 = none
  | .lf => rfl
  | .nd k l ds r a b => by
    simp only [find]
    cases Nat.beq n k with
    | true => rfl
    | false => dsimp only; cases Nat.ble n k <;> exact find0
section
variable {Z : Cz} {w w' : Wd} {H H' : HP} {h : Hd}
open Classical in
noncomputable def bare (w : Wd) : Wd := ⟨fun _ => none, fun b => if ∃ n, w.ρ n = some b then none else w.H b⟩
open Classical in
noncomputable def back (w w' : Wd) : Wd := ⟨w.ρ, fun b => if ∃ n, w.ρ n = some b then w.H b else w'.H b⟩
theorem bare_un {b : Addr} (hb : ∀ n, w.ρ n ≠ some b) : (bare w).H b = w.H b := if_neg fun ⟨n, e⟩ => hb n e
theorem bare_reg {n : Nat} {b : Addr} (hb : w.ρ n = some b) : (bare w).H b = none := if_pos ⟨n, hb⟩
theorem back_un {b : Addr} (hb : ∀ n, w.ρ n ≠ some b) : (back w w').H b = w'.H b := if_neg fun ⟨n, e⟩ => hb n e
theorem back_reg {n : Nat} {b : Addr} (hb : w.ρ n = some b) : (back w w').H b = w.H b := if_pos ⟨n, hb⟩
theorem bare_sub : Sub (bare w).H w.H := fun b o e => by
  by_cases q : ∃ n, w.ρ n = some b
  · obtain ⟨n, q⟩ := q
    rw [bare_reg q] at e; cases e
  · rw [bare_un fun n z => q ⟨n, z⟩] at e; exact e
theorem rd_to {H1 H2 : HP} {a : Addr} {u : HO} (f : ∀ o, H1 a = some o → ¬ Chg o → H2 a = some o) (hu : ¬ Chg u) (r : Rd H1 a u) : Rd H2 a u := by
  rcases r with r | ⟨o, r⟩
  · exact .inl (f _ r hu)
  · exact .inr ⟨o, f _ r fun z => z⟩
theorem sqT_to {K : PySem.W.Frag} {H1 H2 : HP} {a : Addr} {xs : List V} (f : ∀ o, H1 a = some o → ¬ Chg o → H2 a = some o) (r : SqT K H1 a xs) : SqT K H2 a xs := by
  rcases r with r | r
  · exact .inl (rd_to f (fun z => z) r)
  · exact .inr r
mutual
theorem VR.to {K : PySem.W.Frag} {γ : Nat → Option Addr} (f : ∀ a o, w.H a = some o → ¬ Chg o → w'.H a = some o) (g : ∀ a o, w.H a = some o → (∀ n, w.ρ n ≠ some a) → w'.H a = some o ∧ ∀ n, w'.ρ n ≠ some a) : ∀ {d : D} {v : V}, plain d = true → VR K γ w v d → VR K γ w' v d
  | .non, _, _, .non => .non
  | .bl _, _, _, .bl b => .bl b
  | .int _, _, _, .int i => .int i
  | .str _, _, _, .str e z a => .str e z a
  | .tup ds, _, p, .tup s z r => .tup (sqT_to (f _) s) z (VRs.to f g p r)
  | .lst ds, _, p, .lst h n z r => .lst (g _ _ h n).1 (g _ _ h n).2 z (VRs.to f g p r)
  | .ref _, _, p, .ref e => by cases p
  | .gl _, _, _, .gl e s => .gl e fun q => by
    obtain ⟨ns, z, ⟨o, h⟩ | h⟩ := s q
    · exact ⟨ns, z, .inl ⟨o, f _ _ h fun c => c⟩⟩
    · exact ⟨ns, z, .inr h⟩
theorem VRs.to {K : PySem.W.Frag} {γ : Nat → Option Addr} (f : ∀ a o, w.H a = some o → ¬ Chg o → w'.H a = some o) (g : ∀ a o, w.H a = some o → (∀ n, w.ρ n ≠ some a) → w'.H a = some o ∧ ∀ n, w'.ρ n ≠ some a) : ∀ {ds : List D} {vs : List V}, plainL ds = true → VRs K γ w vs ds → VRs K γ w' vs ds
  | [], _, _, .nil => .nil
  | d :: ds, _, p, .cons r t => by
    simp only [plainL] at p
    cases q : plain d with
    | false => rw [q] at p; cases p
    | true =>
      rw [q] at p
      exact .cons (VR.to f g q r) (VRs.to f g p t)
end
theorem closed_run {T : Tx} {f : Nat} {r : D} {ds : List D} {vs : List V} {k : K1} {Q : VK} {E : XK} (sb : Sub w.H H) (wf : Wf w) (hr : HR Z w h) (rs : VRs Z.K Z.γ w vs ds) (pd : plainL ds = true)
    (run : T.F f ds ⟨0, []⟩ never (fun d h => same (flat h d) r) = true) (e : k r h = true) (p : PostV Z w H k Q) : spZ Z T f vs H Q E := by
  refine ⟨bare w, ds, ⟨0, []⟩, never, _, fun b o e => sb b o (bare_sub b o e), (fun n a e => nomatch e), ⟨(fun n o e => nomatch e), fun _ _ => rfl, (fun n m a e => nomatch e)⟩, ?_, run, fun w2 H2 d h2 v n wf2 hr2 r2 e2 => ?_, fun _ _ _ _ _ _ _ _ _ _ x _ => x.elim⟩
  · refine VRs.to (fun a o e c => ?_) (fun a o e u => ⟨by rw [bare_un u]; exact e, (fun n (z : (none : Option Addr) = some a) => nomatch z)⟩) pd rs
    rw [bare_un (wf.not e c)]; exact e
  · obtain ⟨e3, pl⟩ := same_eq e2
    have reg : ∀ {n a}, w.ρ n = some a → w2.H a = none := fun {m a} q => by
      cases z : w2.H a with
      | none => rfl
      | some u =>
        have y := n.fresh a (bare_reg q) (by rw [z]; simp)
        obtain ⟨o, e4, _⟩ := wf m a q
        rw [sb _ _ e4] at y; cases y
    have un : ∀ {a o}, w2.H a = some o → ∀ n, w.ρ n ≠ some a := fun {a o} q m z => by rw [reg z] at q; cases q
    have le : Le w (back w w2) := ⟨fun _ _ e => e, fun _ _ e => .inl e, fun b o e hn => by
      rw [back_un hn]
      exact n.le.keep b o (by rw [bare_un hn]; exact e) (fun m z => nomatch z), fun b o e => by
      by_cases q : ∃ m, w.ρ m = some b
      · obtain ⟨m, q⟩ := q
        exact ⟨o, by rw [back_reg q]; exact e⟩
      · have hn : ∀ m, w.ρ m ≠ some b := fun m z => q ⟨m, z⟩
        exact ⟨o, by
          rw [back_un hn]
          exact n.le.keep b o (by rw [bare_un hn]; exact e) (fun m z => nomatch z)⟩⟩
    refine p (back w w2) H2 r h v ⟨le, fun b o e4 => ?_, fun b o e4 hn => ?_, fun b hn e4 => ?_⟩ (fun m a q => ?_) ⟨fun m o q => ?_, hr.nx, hr.inj⟩ ?_ e
    · by_cases q : ∃ m, w.ρ m = some b
      · obtain ⟨m, q⟩ := q
        rw [back_reg q] at e4
        exact n.frame b o (sb b o e4) (bare_reg q)
      · rw [back_un fun m z => q ⟨m, z⟩] at e4
        exact n.sub b o e4
    · refine n.frame b o e4 ?_
      by_cases q : ∃ m, w.ρ m = some b
      · obtain ⟨m, q⟩ := q; exact bare_reg q
      · rw [bare_un fun m z => q ⟨m, z⟩]; exact hn
    · by_cases q : ∃ m, w.ρ m = some b
      · obtain ⟨m, q⟩ := q
        rw [back_reg q] at e4
        exact absurd hn e4
      · have hu : ∀ m, w.ρ m ≠ some b := fun m z => q ⟨m, z⟩
        rw [back_un hu] at e4
        exact n.fresh b (by rw [bare_un hu]; exact hn) e4
    · obtain ⟨o, e4, c⟩ := wf m a q
      exact ⟨o, by rw [back_reg (show w.ρ m = some a from q)]; exact e4, c⟩
    · obtain ⟨a, e4, r4⟩ := hr.at_ m o q
      have k2 : ∀ u, w.H a = some u → (back w w2).H a = some u := fun u z => by rw [back_reg e4]; exact z
      exact ⟨a, e4, OR.mono le wf k2 r4⟩
    · have to : ∀ {x : D} {u : V}, plain x = true → VR Z.K Z.γ w2 u x → VR Z.K Z.γ (back w w2) u x := fun {x u} pl r => VR.to (w := w2) (w' := back w w2) (fun a o e4 c => by rw [back_un (un e4)]; exact e4) (fun a o e4 _ => ⟨by rw [back_un (un e4)]; exact e4, un e4⟩) pl r
      have tos : ∀ {x : List D} {u : List V}, plainL x = true → VRs Z.K Z.γ w2 u x → VRs Z.K Z.γ (back w w2) u x := fun {x u} pl r => VRs.to (w := w2) (w' := back w w2) (fun a o e4 c => by rw [back_un (un e4)]; exact e4) (fun a o e4 _ => ⟨by rw [back_un (un e4)]; exact e4, un e4⟩) pl r
      cases d with
      | ref m =>
        have hm : ∃ ds, look h2.es m = some (.lst ds) := by
          cases q : look h2.es m with
          | none => simp only [flat, q] at pl; cases pl
          | some o =>
            cases o with
            | lst ds => exact ⟨ds, rfl⟩
            | _ => simp only [flat, q] at pl; cases pl
        obtain ⟨ds2, q⟩ := hm
        have fl : flat h2 (.ref m) = .lst ds2 := by simp only [flat, q]
        rw [fl] at e3 pl
        subst e3
        cases r2 with
        | @ref _ a ρa =>
          obtain ⟨xs, e5, e6, e7⟩ := look_lst hr2 ρa q
          exact VR.lst (w := back w w2) (by rw [back_un (un e5)]; exact e5) (un e5) e7 (tos pl e6)
      | _ =>
        have e3' := e3
        subst e3'
        exact to pl r2
theorem layer_ok {prog : Program} {w : World} {mg : Str → Option Value} {base : Heap} {A : Nat → Addr} {FD : Nat → FuncData} {PS : Nat → List Str} {k f l : Nat} {T : Tx} {t : Bt Tr} (F : FK Z prog w mg base A FD PS k f (spZ Z T f)) (F0 : FK Z prog w mg base A FD PS k f (spN Z (mt (fnd t l f))))
    (he : ∀ s, bt t f = some s → okT (fun ds r => T.F f ds ⟨0, []⟩ never fun d h => same (flat h d) r) l 0 1000000007 s = true) : FK Z prog w mg base A FD PS k f (spN Z (mt (fnd t (l + 1) f))) := by
  obtain ⟨e1, kp, B, F⟩ := F
  obtain ⟨_, _, _, F0⟩ := F0
  refine ⟨e1, kp, B, (FnOk_or F0 F).imp fun vs H Q E h => ?_⟩
  obtain ⟨w1, ds, h1, k1, sb, wf, hr, r, e, p⟩ := h
  simp only [mt, fnd] at e
  cases q : bt t f with
  | none => simp only [q] at e; cases e
  | some s =>
    simp only [q] at e
    cases q2 : find s (key ds) ds (l + 1) with
    | none => simp only [q2] at e; cases e
    | some d =>
      simp only [q2] at e
      rcases find_step (he s q) (Nat.mod_lt _ (by decide)) q2 with z | z
      · have z : find s (key ds) ds l = some d := z
        exact .inl ⟨w1, ds, h1, k1, sb, wf, hr, r, by simp only [mt, fnd, q]; rw [z]; exact e, p⟩
      · exact .inr (closed_run sb wf hr r z.2 z.1 e p)
end
section
variable {Z : Cz} {prog : Program} {w : World} {mg : Str → Option Value} {base : Heap} {gn : Nat → Option Str} {fnm : Nat → Str} {df : Nat → Bool} {P : Nat → Option Fd} {C : Nat → Option D} {Nn : Nat → Option (List D → Hd → K1 → Bool)} {A : Nat → Addr} {FD : Nat → FuncData} {PS : Nat → List Str}
/-- all layers of known runs, one by one -/
theorem layers (G : Gf Z mg gn df C) (hfn : fnm = Z.fn) (k0 n : Nat) (hD : ∀ f d, P f = some d → DefOk Z gn fnm df A FD PS f d) (hdf : ∀ f, df f = true → (P f).isSome = true ∨ (Nn f).isSome = true)
    (hN : ∀ f t, Nn f = some t → FK Z prog w mg base A FD PS k0 f (spN Z t)) (t : Bt Tr) : ∀ (L : Nat), (∀ l, l < L → ∀ f s, bt t f = some s → okT (fun ds r => call P C Nn (fnd t l) n f ds ⟨0, []⟩ never fun d h => same (flat h d) r) l 0 1000000007 s = true) →
      ∀ f, df f = true → FK Z prog w mg base A FD PS (k0 + L * n) f (spN Z (mt (fnd t L f)))
  | 0, _, f, hf => by
    have no : ∀ vs H Q E, spN Z (mt (fnd t 0 f)) vs H Q E → False := fun vs H Q E h => by
      obtain ⟨w1, ds, h1, k1, sb, wf, hr, r, e, p⟩ := h
      simp only [mt, fnd] at e
      cases q : bt t f with
      | none => simp only [q] at e; cases e
      | some s => simp only [q, find0] at e; cases e
    rcases hdf f hf with hh | hh
    · obtain ⟨d, q⟩ := Option.isSome_iff_exists.mp hh
      obtain ⟨x, qual, params, body, scope, N, e1, F, B, S, l1, l2, l3, ck⟩ := hD f d q
      exact ⟨e1, F.kp, B, ⟨fun vs H Q E h => (no vs H Q E h).elim, fun A outer s H args us vs Q E hr e0 hb hv h => (no vs H Q E h).elim⟩⟩
    · obtain ⟨u, q⟩ := Option.isSome_iff_exists.mp hh
      obtain ⟨e1, kp, B, F⟩ := hN f u q
      exact ⟨e1, kp, B, ⟨fun vs H Q E h => (no vs H Q E h).elim, fun A outer s H args us vs Q E hr e0 hb hv h => (no vs H Q E h).elim⟩⟩
  | L + 1, ok, f, hf => by
    have A0 := layers G hfn k0 n hD hdf hN t L (fun l hl => ok l (by omega))
    have up : ∀ {j k f : Nat} {sp : Sp}, j ≤ k → FK Z prog w mg base A FD PS j f sp → FK Z prog w mg base A FD PS k f sp := fun hj ⟨x1, x2, x3, x4⟩ => ⟨x1, x2, x3, x4.mono hj⟩
    have B := fnz (prog := prog) (w := w) (base := base) (Nn := Nn) (M := fnd t L) G hfn (k0 + L * n) hD hdf (fun f u q => up (by omega) (hN f u q)) A0 n f hf
    have e : k0 + (L + 1) * n = k0 + L * n + n := by rw [Nat.add_mul]; omega
    rw [e]
    exact layer_ok (T := ⟨call P C Nn (fnd t L) n, C⟩) B (up (by omega) (A0 f hf)) fun s q => ok L (by omega) f s q
end
/-! ### laid for the kernel -/
noncomputable section
def natsQ (x : List Nat) : List Nat → Bool := List.rec (motive := fun _ => List Nat → Bool) (fun y => List.rec (motive := fun _ => Bool) true (fun _ _ _ => false) y) (fun a _ ih y => List.rec (motive := fun _ => Bool) false (fun b s _ => Bool.rec (motive := fun _ => Bool) false (ih s) (Nat.beq a b)) y) x
theorem natsQ_eq : ∀ x y, natsQ x y = natsEq x y
  | [], [] => rfl
  | [], _ :: _ => rfl
  | _ :: _, [] => rfl
  | a :: r, b :: s => by
    show Bool.rec (motive := fun _ => Bool) false (natsQ r s) (Nat.beq a b) = _
    simp only [natsEq, natsQ_eq r s]
    cases Nat.beq a b <;> rfl
def isNonQ (y : D) : Bool := D.rec (motive_1 := fun _ => Bool) (motive_2 := fun _ => Bool) true (fun _ => false) (fun _ => false) (fun _ => false) (fun _ _ => false) (fun _ _ => false) (fun _ => false) (fun _ => false) false (fun _ _ _ _ => false) y
def onS (y : D) (f : List Nat → Bool) : Bool := D.rec (motive_1 := fun _ => Bool) (motive_2 := fun _ => Bool) false (fun _ => false) (fun _ => false) f (fun _ _ => false) (fun _ _ => false) (fun _ => false) (fun _ => false) false (fun _ _ _ _ => false) y
def onG (y : D) (f : Nat → Bool) : Bool := D.rec (motive_1 := fun _ => Bool) (motive_2 := fun _ => Bool) false (fun _ => false) (fun _ => false) (fun _ => false) (fun _ _ => false) (fun _ _ => false) (fun _ => false) f false (fun _ _ _ _ => false) y
def sameLQ (c : D → D → Bool) (x : List D) : List D → Bool := List.rec (motive := fun _ => List D → Bool) (fun y => consB y true fun _ _ => false) (fun a _ ih y => consB y false fun b s => Bool.rec (motive := fun _ => Bool) false (ih s) (c a b)) x
/-- sameness, by the bare recursor -/
def sameQ (x : D) : D → Bool := D.rec (motive_1 := fun _ => D → Bool) (motive_2 := fun _ => List D → Bool)
  isNonQ (fun a y => onB y fun b => Bool.rec (motive := fun _ => Bool) (Bool.rec (motive := fun _ => Bool) true false b) b a) (fun i y => elI y (fun j => eqZ i j) false) (fun s y => onS y fun s' => natsQ s s') (fun _ ih y => onT y ih) (fun _ ih y => onL y ih) (fun _ _ => false) (fun a y => onG y fun b => Nat.beq a b)
  (fun y => consB y true fun _ _ => false) (fun _ _ i1 i2 y => consB y false fun b s => Bool.rec (motive := fun _ => Bool) false (i2 s) (i1 b)) x
def sameLs (x : List D) : List D → Bool := List.rec (motive := fun _ => List D → Bool) (fun y => consB y true fun _ _ => false) (fun a _ ih y => consB y false fun b s => Bool.rec (motive := fun _ => Bool) false (ih s) (sameQ a b)) x
theorem sameQ_cons (a : D) (r : List D) (b : D) (s : List D) : sameLs (a :: r) (b :: s) = Bool.rec (motive := fun _ => Bool) false (sameLs r s) (sameQ a b) := rfl
mutual
theorem sameQ_eq : ∀ x y, sameQ x y = same x y
  | .non, y => by cases y <;> rfl
  | .bl a, y => by
    cases y with
    | bl b => cases a <;> cases b <;> rfl
    | _ => rfl
  | .int i, y => by
    cases y with
    | int j => exact eqZ_eq i j
    | _ => rfl
  | .str x, y => by
    cases y with
    | str z => exact natsQ_eq x z
    | _ => rfl
  | .tup xs, y => by
    cases y with
    | tup ys => exact (sameLr_eq xs ys)
    | _ => rfl
  | .lst xs, y => by
    cases y with
    | lst ys => exact (sameLr_eq xs ys)
    | _ => rfl
  | .ref a, y => by cases y <;> rfl
  | .gl a, y => by cases y <;> rfl
theorem sameLr_eq : ∀ x y, (D.rec_1 (motive_1 := fun _ => D → Bool) (motive_2 := fun _ => List D → Bool)
  isNonQ (fun a y => onB y fun b => Bool.rec (motive := fun _ => Bool) (Bool.rec (motive := fun _ => Bool) true false b) b a) (fun i y => elI y (fun j => eqZ i j) false) (fun s y => onS y fun s' => natsQ s s') (fun _ ih y => onT y ih) (fun _ ih y => onL y ih) (fun _ _ => false) (fun a y => onG y fun b => Nat.beq a b)
  (fun y => consB y true fun _ _ => false) (fun _ _ i1 i2 y => consB y false fun b s => Bool.rec (motive := fun _ => Bool) false (i2 s) (i1 b)) x : List D → Bool) y = sameL x y
  | [], y => by cases y <;> rfl
  | a :: r, y => by
    cases y with
    | nil => rfl
    | cons b s =>
      have h1 := sameQ_eq a b
      have h2 := sameLr_eq r s
      simp only [sameL, ← h1, ← h2]
      show Bool.rec (motive := fun _ => Bool) false _ (sameQ a b) = _
      cases sameQ a b <;> rfl
end
theorem sameLs_eq : ∀ x y, sameLs x y = sameL x y
  | [], y => by cases y <;> rfl
  | a :: r, y => by
    cases y with
    | nil => rfl
    | cons b s =>
      rw [sameQ_cons, sameLs_eq r s, sameQ_eq]
      simp only [sameL]
      cases same a b <;> rfl
def hshNQ (x : List Nat) : Nat → Nat := List.rec (motive := fun _ => Nat → Nat) (fun a => Nat.add (Nat.mul a 1000003) 15) (fun n _ ih a => ih (Nat.add (Nat.mul a 1000003) n)) x
theorem hshNQ_eq : ∀ x a, hshNQ x a = hshN x a
  | [], _ => rfl
  | n :: r, a => hshNQ_eq r _
def hshQ (x : D) : Nat → Nat := D.rec (motive_1 := fun _ => Nat → Nat) (motive_2 := fun _ => Nat → Nat)
  (fun a => Nat.add (Nat.mul a 1000003) 1) (fun b a => Bool.rec (motive := fun _ => Nat) (Nat.add (Nat.mul a 1000003) 5) (Nat.add (Nat.mul a 1000003) 3) b) (fun i a => Int.rec (motive := fun _ => Nat) (fun n => Nat.add (Nat.mul a 1000003) (Nat.add (Nat.mul n 8) 2)) (fun n => Nat.add (Nat.mul a 1000003) (Nat.add (Nat.mul n 8) 6)) i)
  (fun s a => hshNQ s (Nat.add (Nat.mul a 1000003) 7)) (fun _ ih a => ih (Nat.add (Nat.mul a 1000003) 9)) (fun _ ih a => ih (Nat.add (Nat.mul a 1000003) 11)) (fun _ a => a) (fun _ a => a) (fun a => Nat.add (Nat.mul a 1000003) 13) (fun _ _ i1 i2 a => i2 (i1 a)) x
def hshLs (x : List D) : Nat → Nat := List.rec (motive := fun _ => Nat → Nat) (fun a => Nat.add (Nat.mul a 1000003) 13) (fun d _ ih a => ih (hshQ d a)) x
mutual
theorem hshQ_eq : ∀ x a, hshQ x a = hsh x a
  | .non, _ => rfl
  | .bl b, _ => by cases b <;> rfl
  | .int i, _ => by cases i <;> rfl
  | .str x, a => hshNQ_eq x _
  | .tup xs, a => hshLr_eq xs _
  | .lst xs, a => hshLr_eq xs _
  | .ref a, _ => rfl
  | .gl a, _ => rfl
theorem hshLr_eq : ∀ x a, (D.rec_1 (motive_1 := fun _ => Nat → Nat) (motive_2 := fun _ => Nat → Nat)
  (fun a => Nat.add (Nat.mul a 1000003) 1) (fun b a => Bool.rec (motive := fun _ => Nat) (Nat.add (Nat.mul a 1000003) 5) (Nat.add (Nat.mul a 1000003) 3) b) (fun i a => Int.rec (motive := fun _ => Nat) (fun n => Nat.add (Nat.mul a 1000003) (Nat.add (Nat.mul n 8) 2)) (fun n => Nat.add (Nat.mul a 1000003) (Nat.add (Nat.mul n 8) 6)) i)
  (fun s a => hshNQ s (Nat.add (Nat.mul a 1000003) 7)) (fun _ ih a => ih (Nat.add (Nat.mul a 1000003) 9)) (fun _ ih a => ih (Nat.add (Nat.mul a 1000003) 11)) (fun _ a => a) (fun _ a => a) (fun a => Nat.add (Nat.mul a 1000003) 13) (fun _ _ i1 i2 a => i2 (i1 a)) x : Nat → Nat) a = hshL x a
  | [], _ => rfl
  | d :: r, a => by
    have h1 := hshQ_eq d a
    refine (hshLr_eq r (hshQ d a)).trans ?_
    rw [h1]
    simp only [hshL]
end
theorem hshLs_eq : ∀ x a, hshLs x a = hshL x a
  | [], _ => rfl
  | d :: r, a => by
    show hshLs r (hshQ d a) = _
    rw [hshLs_eq r, hshQ_eq]
    simp only [hshL]
def findQ (n : Nat) (xs : List D) (m : Nat) (hit : D → Bool) (miss : Bool) (t : Tr) : Bool := Tr.rec (motive := fun _ => Bool) miss (fun k l ds r _ _ ia ib => Bool.rec (motive := fun _ => Bool) (Bool.rec (motive := fun _ => Bool) ib ia (Nat.ble n k)) (Bool.rec (motive := fun _ => Bool) (Bool.rec (motive := fun _ => Bool) miss (hit r) (sameLs ds xs)) miss (Nat.ble m l)) (Nat.beq n k)) t
theorem findQ_eq (n : Nat) (xs : List D) (m : Nat) (hit : D → Bool) (miss : Bool) : ∀ t, findQ n xs m hit miss t = match find t n xs m with | some r => hit r | none => miss
  | .lf => rfl
  | .nd k l ds r a b => by
    show Bool.rec (motive := fun _ => Bool) (Bool.rec (motive := fun _ => Bool) (findQ n xs m hit miss b) (findQ n xs m hit miss a) (Nat.ble n k)) (Bool.rec (motive := fun _ => Bool) (Bool.rec (motive := fun _ => Bool) miss (hit r) (sameLs ds xs)) miss (Nat.ble m l)) (Nat.beq n k) = _
    rw [findQ_eq n xs m hit miss a, findQ_eq n xs m hit miss b, sameLs_eq]
    simp only [find]
    cases Nat.beq n k with
    | true =>
      cases Nat.ble m l with
      | true => rfl
      | false => cases sameL ds xs <;> rfl
    | false => cases Nat.ble n k <;> rfl
def mQ (t : Bt Tr) (m f : Nat) (ds : List D) (hit : D → Bool) (miss : Bool) : Bool := Option.rec (motive := fun _ => Bool) miss (fun s => nat' (Nat.mod (hshLs ds 1) 1000000007) fun n => findQ n ds m hit miss s) (btQ t f)
theorem mQ_eq (t : Bt Tr) (m f : Nat) (ds : List D) (hit : D → Bool) (miss : Bool) : mQ t m f ds hit miss = match fnd t m f ds with | some r => hit r | none => miss := by
  unfold mQ
  rw [btQ_eq]
  unfold fnd
  cases bt t f with
  | none => rfl
  | some s =>
    show nat' (Nat.mod (hshLs ds 1) 1000000007) (fun n => findQ n ds m hit miss s) = _
    rw [nat'_eq, findQ_eq, hshLs_eq]
    rfl
def okQ (c : List D → D → Bool) (l lo hi : Nat) (t : Tr) : Bool := Tr.rec (motive := fun _ => Bool) true (fun k l' ds r _ _ ia ib =>
  Bool.rec (motive := fun _ => Bool) (Bool.rec (motive := fun _ => Bool) false ib ia) (Bool.rec (motive := fun _ => Bool) (Bool.rec (motive := fun _ => Bool) false ib ia) (Bool.rec (motive := fun _ => Bool) (Bool.rec (motive := fun _ => Bool) false (Bool.rec (motive := fun _ => Bool) false ib ia) (c ds r)) (Bool.rec (motive := fun _ => Bool) false ib ia) (Nat.ble hi k)) (Nat.ble lo k)) (Nat.beq l l')) t
theorem okQ_eq (c : List D → D → Bool) (l lo hi : Nat) : ∀ t, okQ c l lo hi t = okT c l lo hi t
  | .lf => rfl
  | .nd k l' ds r a b => by
    show Bool.rec (motive := fun _ => Bool) (Bool.rec (motive := fun _ => Bool) false (okQ c l lo hi b) (okQ c l lo hi a)) (Bool.rec (motive := fun _ => Bool) (Bool.rec (motive := fun _ => Bool) false (okQ c l lo hi b) (okQ c l lo hi a)) (Bool.rec (motive := fun _ => Bool) (Bool.rec (motive := fun _ => Bool) false (Bool.rec (motive := fun _ => Bool) false (okQ c l lo hi b) (okQ c l lo hi a)) (c ds r)) (Bool.rec (motive := fun _ => Bool) false (okQ c l lo hi b) (okQ c l lo hi a)) (Nat.ble hi k)) (Nat.ble lo k)) (Nat.beq l l') = _
    rw [okQ_eq c l lo hi a, okQ_eq c l lo hi b]
    simp only [okT]
    cases Nat.beq l l' <;> cases Nat.ble lo k <;> cases Nat.ble hi k <;> cases c ds r <;> cases okT c l lo hi a <;> cases okT c l lo hi b <;> rfl
/-- the check of one layer's runs of f, for the kernel -/
def chk (Q : Bt Fq) (N : Nat → Option (List D → Hd → K1 → Bool)) (t : Bt Tr) (n f l lo hi : Nat) (s : Tr) : Bool := okQ (fun ds r => callQ Q N (mQ t l) n f ds ⟨0, []⟩ never fun d h => sameQ (flat h d) r) l lo hi s
theorem chk_ok {P : Nat → Option Fd} {C : Nat → Option D} {Q : Bt Fq} (q : Quick P C Q) {N : Nat → Option (List D → Hd → K1 → Bool)} {t : Bt Tr} {n f l lo hi : Nat} {s : Tr} (h : chk Q N t n f l lo hi s = true) : okT (fun ds r => call P C N (fnd t l) n f ds ⟨0, []⟩ never fun d h => same (flat h d) r) l lo hi s = true := by
  unfold chk at h
  rw [okQ_eq, callQ_eq q (fun f ds a b => mQ_eq t l f ds a b)] at h
  simp only [sameQ_eq] at h
  exact h
end
end Z

namespace Z
open PySem PySem.Spec PyProof.Rows L2
/-- any draw below m -/
def allD : Nat → (Int → Bool) → Bool
  | 0, _ => true
  | n + 1, f => match f n with | true => allD n f | false => false
def drawT : List D → Hd → K1 → Bool := fun ds h k => match ds with
  | [.ref l, .int m] => (match look h.es l with
    | some (.pen c) => (match decide (0 < m) && decide (m ≤ 1000) && Nat.ble c 1000000 with
      | true => allD m.toNat fun d => k (.int d) ⟨h.nx, put h.es l (.pen (c + 1))⟩
      | false => false)
    | _ => false)
  | _ => false
def penT : List D → Hd → K1 → Bool := fun ds h k => match ds with
  | [.gl 999] => k (.ref h.nx) ⟨h.nx + 1, (h.nx, .pen 0) :: h.es⟩
  | _ => false
theorem allD_at : ∀ {n : Nat} {f : Int → Bool} {d : Int}, allD n f = true → 0 ≤ d → d < n → f d = true
  | 0, _, _, _, h0, h1 => by omega
  | n + 1, f, d, h, h0, h1 => by
    simp only [allD] at h
    split at h
    · rename_i q
      by_cases hd : d = n
      · rw [hd]; exact q
      · exact allD_at h h0 (by omega)
    · cases h
section
variable {b : Addr} {i g n f : Int}
theorem pen_cells : valV (penK b i g n f) (.inr "cells") = some (.ref b) := rfl
theorem pen_at : valV (penK b i g n f) (.inr "at") = some (.int i) := rfl
theorem pen_digits : valV (penK b i g n f) (.inr "digits") = some (.int g) := rfl
theorem pen_count : valV (penK b i g n f) (.inr "count") = some (.int n) := rfl
theorem pen_fold : valV (penK b i g n f) (.inr "fold") = some (.int f) := rfl
theorem pen_pat {j : Int} : putK (penK b i g n f) (.inr "at") (.int j) = penK b j g n f := rfl
theorem pen_pdigits {j : Int} : putK (penK b i g n f) (.inr "digits") (.int j) = penK b i j n f := rfl
theorem pen_pcount {j : Int} : putK (penK b i g n f) (.inr "count") (.int j) = penK b i g j f := rfl
theorem pen_pfold {j : Int} : putK (penK b i g n f) (.inr "fold") (.int j) = penK b i g n j := rfl
theorem pen_mk {t : Int} : mergeK [] [((.inr "cells" : Key), V.ref b), (.inr "at", .int 0), (.inr "digits", .int 0), (.inr "count", .int 0), (.inr "fold", .int t)] = penK b 0 0 0 t := rfl
end
end Z

namespace K28
open PySem
end K28
namespace Z
open PySem PySem.Spec PyProof.Rows L2 K28
theorem scPen : FnScope ["script", "total", "cell"] ["script"] (defScope s__law_pen) := ⟨rfl, rfl, rfl, by decide +kernel, rfl, by decide +kernel, by decide +kernel⟩
theorem scDraw : FnScope ["pen", "many", "cell", "digit", "blend"] ["pen", "many"] (defScope s__law_draw) := ⟨rfl, rfl, rfl, by decide +kernel, rfl, by decide +kernel, by decide +kernel⟩
theorem scr_list {Z : Cz} {w : Wd} {H : Hp} {a : Addr} (s : Sub w.H H) (h : Scr Z.K w.H a) : ∃ ns : List Int, ns.length ≤ 63 ∧ SqL Z.K H a (ns.map V.int) := by
  obtain ⟨ns, z, ⟨o, h⟩ | h⟩ := h
  · exact ⟨ns, z, .inl (.inr ⟨o, s _ _ h⟩)⟩
  · rcases h with (h | ⟨o, h⟩) | h
    · cases h
    · cases h
    · exact ⟨ns, z, .inr h⟩
theorem sqL_upd {K : PySem.W.Frag} {H : Hp} {a p : Addr} {xs : List V} {o : HO} (h : SqL K H a xs) (hp : H p = none) : SqL K (upd H p o) a xs := by
  rcases h with (h | ⟨u, h⟩) | h
  · exact .inl (.inl (by rw [upd_ne (ne_of_none h hp)]; exact h))
  · exact .inl (.inr ⟨u, by rw [upd_ne (ne_of_none h hp)]; exact h⟩)
  · exact .inr h
theorem ok_pen {Z : Cz} {P : Program} {w : World} {mg : Str → Option Value} {base : Heap} {a : Addr} {fd : FuncData} (F : FunD Z.K "_law_pen" "_law_pen" (defArgs s__law_pen) (defBody s__law_pen) (defScope s__law_pen) [] [] a fd)
    (gI : mg "int" = none) (gL : mg "list" = none) : FnOk P w Z.K mg base (L2.CX P w) 1 a fd ["script"] (spN Z penT) := by
  have inv : ∀ {ds : List D} {h : Hd} {k : K1}, penT ds h k = true → ds = [.gl 999] ∧ k (.ref h.nx) ⟨h.nx + 1, (h.nx, .pen 0) :: h.es⟩ = true := fun {ds h k} e => by
    unfold penT at e
    split at e
    · exact ⟨rfl, e⟩
    · cases e
  refine F.ok scPen (fun vs H Q E h => ?_) (fun cdv A outer s H vs Q E hr h => ?_)
  · obtain ⟨w1, ds, h1, k, sb, wf, hr1, r, e, p⟩ := h
    obtain ⟨rfl, _⟩ := inv e
    rw [r.length]; rfl
  · obtain ⟨w1, ds, h1, k, sb, wf, hr1, r, e, p⟩ := h
    obtain ⟨rfl, ek⟩ := inv e
    obtain ⟨x, rfl, rx⟩ := vrs1 r
    cases rx with
    | @gl _ sa e1 e2 =>
    have sc := e2 rfl
    obtain ⟨ns, nz, hS⟩ := scr_list sb sc
    refine ⟨_, pss_cons (ps_set (i := 1) scPen.nd rfl (.inl rfl) pe_int) (pss_cons (ps_for (passes_of rfl) rfl (pi_list (pv 0)) (pg_name (i := 2) scPen.nd rfl (.inl rfl))
      (pss_one (ps_set (i := 1) scPen.nd rfl (.inl rfl) (pe_op op_mod (pe_callTy call_int1 rfl gI bt_int (pa_cons (pe_op op_add (pe_op op_mul (pv 1) pe_int) (pv 2)) pa_nil)) pe_int))))
      (pss_one (ps_ret (pe_disp (pps_cons (X := cxOf (L2.CX P w) P w Z.K mg base ["script", "total", "cell"] "_law_pen" (defScope s__law_pen) a cdv A outer s H E) pe_str (pe_callTy (x := "list") call_list_of rfl gL bt_list (pa_cons (pv 0) pa_nil)) (pps_cons pe_str pe_int (pps_cons pe_str pe_int (pps_cons pe_str pe_int (pps_cons pe_str (pv 1) pps_nil))))) rfl rfl (by simp) (by simp))))), ?_⟩
    refine ⟨_, rfl, sa, rfl, ⟨_, hS⟩, for_list (fun _ σ H' => H' = H ∧ ∃ t c, σ = [some (.ref sa), some (.int t), c] ∧ 0 ≤ t ∧ t < 1000000223) ⟨rfl, 0, none, rfl, by omega, by omega⟩ (fun i σ H' _ q => by rw [q.1]; exact hS) (fun i x σ H' hx ⟨hH, t, c, hσ, b1, b2⟩ => ?_) fun σ H' ⟨hH, t, c, hσ, b1, b2⟩ => ?_⟩
    · subst hH hσ
      rw [List.getElem?_map] at hx
      obtain ⟨j, _, rfl⟩ := Option.map_eq_some_iff.mp hx
      exact ⟨_, rfl, t, 211, rfl, rfl, .inl ⟨by omega, by omega⟩, _, rfl, _, _, rfl, rfl, .inl ⟨_, rfl, _, _, rfl, rfl, by show (0 : Int) < 1000000223; omega, rfl, (t * 211 + j) % 1000000223, _, rfl, Int.emod_nonneg _ (by omega), Int.emod_lt_of_pos _ (by omega)⟩⟩
    · subst hH hσ
      refine fun q hq => ⟨_, rfl, sa, _, rfl, .inl (sqL_upd hS hq), fun l hl => ⟨_, rfl, ?_⟩⟩
      have lq : l ≠ q := fun z => by rw [z, upd_same] at hl; cases hl
      have hl' : H' l = none := by rw [upd_ne lq] at hl; exact hl
      refine ⟨by rw [upd_ne (Ne.symm lq), upd_same], [(.inr "cells", .ref l), (.inr "at", .int 0), (.inr "digits", .int 0), (.inr "count", .int 0), (.inr "fold", .int t)], rfl, Nat.le_of_ble_eq_true rfl, ?_⟩
      rw [pen_mk]
      have e5 : upd (upd (upd H' q (.dK [])) l (.lst (ns.map V.int))) q (.dK (penK l 0 0 0 t)) = upd (upd H' l (.lst (ns.map V.int))) q (.dK (penK l 0 0 0 t)) := by
        funext c
        by_cases c1 : c = q
        · rw [c1, upd_same, upd_same]
        · rw [upd_ne c1, upd_ne c1]
          by_cases c2 : c = l
          · rw [c2, upd_same, upd_same]
          · rw [upd_ne c2, upd_ne c2, upd_ne c1]
      rw [e5]
      have n1 := new_any sb wf hl' (.lst (ns.map V.int))
      have f1 := new_wf sb wf hl' (.lst (ns.map V.int))
      have g1 := hr1.new sb wf hl' (.lst (ns.map V.int))
      have hq2 : upd H' l (.lst (ns.map V.int)) q = none := by rw [upd_ne (Ne.symm lq)]; exact hq
      have unl : ∀ m, w1.ρ m ≠ some l := fun m z => by
        obtain ⟨u, z1, _⟩ := wf m l z
        rw [sub_none sb hl'] at z1; cases z1
      obtain ⟨n2, f2, g2, r2⟩ := reg_new (ob := .pen 0) (o := .dK (penK l 0 0 0 t)) n1.sub f1 g1 hq2 trivial
        ⟨l, ns, 0, 0, 0, t, upd_same, (by show upd (upd w1.H l _) q _ l = _; rw [upd_ne lq, upd_same]), (fun m z => by
          have z : (if m = h1.nx then some q else w1.ρ m) = some l := z
          split at z
          · cases z; exact lq rfl
          · exact unl m z), nz, by omega, by omega, by omega, by omega, by omega, by omega⟩
      exact p _ _ _ _ _ (n1.trans n2) f2 g2 r2 ek
end Z

namespace Z
open PySem PySem.Spec PyProof.Rows L2 K28
theorem nosl {x : Str} {k : Nat} {pos : Pos} : NoSl (.Constant (.str x) k pos) := fun _ _ => rfl
theorem plain_sub {a b : Expr} {pos : Pos} : PlainIx (.Subscript a b pos) := fun _ _ => rfl
/-- the pen's dict so, all else as it stood -/
structure StP (a b : Addr) (H H1 : Hp) (i g n f : Int) : Prop where
  pen : H1 a = some (.dK (penK b i g n f))
  same : ∀ c, c ≠ a → H1 c = H c
theorem StP.put {a b : Addr} {H H1 : Hp} {i g n f i' g' n' f' : Int} (s : StP a b H H1 i g n f) : StP a b H (upd H1 a (.dK (penK b i' g' n' f'))) i' g' n' f' :=
  ⟨upd_same, fun c hc => by rw [upd_ne hc]; exact s.same c hc⟩
theorem StP.eq {a b : Addr} {H H1 : Hp} {i g n f : Int} (s : StP a b H H1 i g n f) : H1 = upd H a (.dK (penK b i g n f)) := by
  funext c
  by_cases hc : c = a
  · rw [hc, upd_same]; exact s.pen
  · rw [upd_ne hc]; exact s.same c hc
section
variable {a b : Addr} {H H1 : Hp} {i g n f : Int}
theorem StP.gc (s : StP a b H H1 i g n f) : DGet H1 a (.str "count") (some (.int n)) := .inl ⟨_, .inr "count", .inl s.pen, rfl, pen_count.symm⟩
theorem StP.gd (s : StP a b H H1 i g n f) : DGet H1 a (.str "digits") (some (.int g)) := .inl ⟨_, .inr "digits", .inl s.pen, rfl, pen_digits.symm⟩
theorem StP.ga (s : StP a b H H1 i g n f) : DGet H1 a (.str "at") (some (.int i)) := .inl ⟨_, .inr "at", .inl s.pen, rfl, pen_at.symm⟩
theorem StP.gf (s : StP a b H H1 i g n f) : DGet H1 a (.str "fold") (some (.int f)) := .inl ⟨_, .inr "fold", .inl s.pen, rfl, pen_fold.symm⟩
theorem StP.gl (s : StP a b H H1 i g n f) : DGet H1 a (.str "cells") (some (.ref b)) := .inl ⟨_, .inr "cells", .inl s.pen, rfl, pen_cells.symm⟩
theorem few5 : (penK b i g n f).length < sizeLine := by rw [sizeLine_eq]; exact Nat.le_of_ble_eq_true rfl
theorem StP.pc (s : StP a b H H1 i g n f) (j : Int) : DPut H1 a (.str "count") (.int j) (upd H1 a (.dK (penK b i g j f))) := .inl ⟨_, .inr "count", s.pen, rfl, few5, rfl⟩
theorem StP.pd (s : StP a b H H1 i g n f) (j : Int) : DPut H1 a (.str "digits") (.int j) (upd H1 a (.dK (penK b i j n f))) := .inl ⟨_, .inr "digits", s.pen, rfl, few5, rfl⟩
theorem StP.pa (s : StP a b H H1 i g n f) (j : Int) : DPut H1 a (.str "at") (.int j) (upd H1 a (.dK (penK b j g n f))) := .inl ⟨_, .inr "at", s.pen, rfl, few5, rfl⟩
theorem StP.pf (s : StP a b H H1 i g n f) (j : Int) : DPut H1 a (.str "fold") (.int j) (upd H1 a (.dK (penK b i g n j))) := .inl ⟨_, .inr "fold", s.pen, rfl, few5, rfl⟩
end
def rIntZ : List V → Hp → VK → Prop := fun xs H Q => (∃ i, xs = [.int i] ∧ Q (.int i) H) ∨ ∃ k, xs = [.bl k] ∧ Q (.int (if k then 1 else 0)) H
theorem ok_draw {Z : Cz} {P : Program} {w : World} {mg : Str → Option Value} {base : Heap} {a : Addr} {fd : FuncData} (F : FunD Z.K "_law_draw" "_law_draw" (defArgs s__law_draw) (defBody s__law_draw) (defScope s__law_draw) [] [] a fd)
    (gI : mg "int" = none) (gL : mg "len" = none) : FnOk P w Z.K mg base (L2.CX P w) 1 a fd ["pen", "many"] (spN Z drawT) := by
  have inv : ∀ {ds : List D} {h : Hd} {k : K1}, drawT ds h k = true → ∃ l m c, ds = [.ref l, .int m] ∧ look h.es l = some (.pen c) ∧ 0 < m ∧ m ≤ 1000 ∧ c ≤ 1000000 ∧ ∀ d : Int, 0 ≤ d → d < m → k (.int d) ⟨h.nx, put h.es l (.pen (c + 1))⟩ = true := fun {ds h k} e => by
    unfold drawT at e
    split at e
    · rename_i l m
      split at e
      · rename_i c q
        split at e
        · rename_i b
          simp only [Bool.and_eq_true, decide_eq_true_eq] at b
          exact ⟨l, m, c, rfl, q, b.1.1, b.1.2, Nat.le_of_ble_eq_true b.2, fun d d0 d1 => allD_at e d0 (by omega)⟩
        · cases e
      · cases e
    · cases e
  refine F.ok scDraw (fun vs H Q E h => ?_) (fun cdv A outer s H vs Q E hr h => ?_)
  · obtain ⟨w1, ds, h1, k, sb, wf, hr1, r, e, p⟩ := h
    obtain ⟨l, m, c, rfl, _⟩ := inv e
    rw [r.length]; rfl
  · obtain ⟨w1, ds, h1, k, sb, wf, hr1, r, e, p⟩ := h
    obtain ⟨l, m, c, rfl, lk, m0, m1, c1, ek⟩ := inv e
    obtain ⟨x, y, rfl, rx, ry⟩ := vrs2 r
    cases ry
    cases rx with
    | @ref _ pa ρa =>
    obtain ⟨pa', ρa', b, ns, i, g, n, f, e1, e2, e3, nz, i0, g0, n0, nc, f0, f1⟩ := hr1.at_ _ _ lk
    rw [ρa] at ρa'; cases ρa'
    have hu : (A.deeper (envOfC "_law_draw" (defScope s__law_draw) s.heap.objs.size a cdv)).units + 1 < cLine := by have := hr.units; omega
    have hba : b ≠ pa := fun z => by rw [z, e1] at e2; cases e2
    have s0 : StP pa b H H i g n f := ⟨sb _ _ e1, fun _ _ => rfl⟩
    have cell : ∀ {H1 : Hp} {i g n f : Int}, StP pa b H H1 i g n f → SqL Z.K H1 b (ns.map V.int) := fun {H1 i g n f} s => .inl (.inl (by rw [s.same b hba]; exact sb _ _ e2))
    have fin : ∀ {H1 : Hp} {i g n' f d : Int}, StP pa b H H1 i g n' f → 0 ≤ i → 0 ≤ g → 0 ≤ n' → n' ≤ c + 1 → 0 ≤ f → f < 2147483648 → 0 ≤ d → d < m → Q (.int d) H1 := fun {H1 i g n' f d} s q1 q2 q3 q4 q5 q6 q7 q8 => by
      obtain ⟨n2, f2, g2⟩ := put_ok (ob := .pen (c + 1)) (o := .dK (penK b i g n' f)) sb wf hr1 ρa lk e1 trivial
        ⟨b, ns, i, g, n', f, upd_same, (by show upd w1.H pa _ b = _; rw [upd_ne hba]; exact e2), e3, nz, q1, q2, q3, by omega, q5, q6⟩
      rw [← s.eq] at n2
      exact p _ _ _ _ _ n2 f2 g2 (.int d) (ek d q7 q8)
    refine ⟨_, pss_cons (ps_dput hu (pv 0) pe_str (pe_op op_add (pe_dget hu (pv 0) pe_str nosl) pe_int) rfl)
      (pss_cons (ps_if (pw_and (pt_cmpR op_eq (pe_dget hu (pv 0) pe_str nosl) pe_int (nomark _)) (pw_and1 (pt_cmpR (X := cxOf (L2.CX P w) P w Z.K mg base ["pen", "many", "cell", "digit", "blend"] "_law_draw" (defScope s__law_draw) a cdv A outer s H E) op_lt (pe_dget hu (pv 0) pe_str nosl) (pe_callB (x := "len") call_len_seq rfl gL bt_len (pa_cons (pe_dget hu (pv 0) pe_str nosl) pa_nil)) (nomark _)))).pt
          (pss_cons (ps_set (i := 2) scDraw.nd rfl (.inl rfl) (pe_ix ix_list (pe_dget hu (pv 0) pe_str nosl) (pe_dget hu (pv 0) pe_str nosl) plain_sub))
            (pss_cons (ps_dput hu (pv 0) pe_str (pe_op op_add (pe_dget hu (pv 0) pe_str nosl) pe_int) rfl)
              (pss_one (ps_if (pt_cmpR op_ge (pv 2) (pe_op op_pow pe_int pe_int) (nomark _))
                (pss_one (ps_dput hu (pv 0) pe_str (pe_op op_sub (pv 2) (pe_op op_pow pe_int pe_int)) rfl))
                (pss_one (ps_dput hu (pv 0) pe_str (pe_op op_mod (pe_callTy (x := "int") call_int1 rfl gI bt_int (pa_cons (pe_op op_add (pe_op op_mul (pe_dget hu (pv 0) pe_str nosl) pe_int) (pv 2)) pa_nil)) pe_int) rfl))))))
          pss_nil)
        (pss_cons (ps_if (pt_cmpR op_gt (pe_dget hu (pv 0) pe_str nosl) pe_int (nomark _))
            (pss_cons (ps_set (i := 3) scDraw.nd rfl (.inl rfl) (pe_op op_mod (pe_callTy (x := "int") call_int1 rfl gI bt_int (pa_cons (pe_dget hu (pv 0) pe_str nosl) pa_nil)) (pv 1)))
              (pss_cons (ps_dput hu (pv 0) pe_str (pe_op op_fdiv (pe_dget hu (pv 0) pe_str nosl) (pv 1)) rfl)
                (pss_one (ps_ret (pv 3)))))
            pss_nil)
          (pss_cons (ps_set (i := 4) scDraw.nd rfl (.inl rfl) (pe_op op_add (pe_op op_add (pe_dget hu (pv 0) pe_str nosl) (pe_op op_mul (pe_dget hu (pv 0) pe_str nosl) pe_int)) pe_int))
            (pss_one (ps_ret (pe_op op_mod (pe_op op_fdiv (pe_callTy (x := "int") call_int1 rfl gI bt_int (pa_cons (pe_op op_mod (pe_op op_pow (pv 4) pe_int) pe_int) pa_nil)) pe_int) (pv 1))))))), ?_⟩
    -- what stands behind the cells
    have tail : ∀ {H1 : Hp} {i g n' f : Int} (σ : L2.St), σ[0]? = some (some (.ref pa)) → σ[1]? = some (some (.int m)) → StP pa b H H1 i g n' f → 0 ≤ i → 0 ≤ g → 0 ≤ n' → n' ≤ c + 1 → 0 ≤ f → f < 2147483648 → σ.length = 5 →
        (tSeq (tIfS (tTest (tOp (rI0 fun i j => .bl (decide (j < i))) (tDGet (tVar 0) (tC (.str "digits"))) (tC (.int 0))))
          (tSeq (tAsg (tOp (rI (fun _ j => 0 < j) fun i j => .int (i % j)) (tCB rIntZ (tCons (tDGet (tVar 0) (tC (.str "digits"))) tNil)) (tVar 1)) (gName 3)) (tSeq (sDPut (tVar 0) (tC (.str "digits")) (tOp (rI CDiv fun i j => .int (i / j)) (tDGet (tVar 0) (tC (.str "digits"))) (tVar 1))) (tRet (tVar 3)))) tNext)
          (tSeq (tAsg (tOp (rI0 fun i j => .int (i + j)) (tOp (rI0 fun i j => .int (i + j)) (tDGet (tVar 0) (tC (.str "fold"))) (tOp (rI CMul fun i j => .int (i * j)) (tDGet (tVar 0) (tC (.str "count"))) (tC (.int 9697)))) (tC (.int 151))) (gName 4))
            (tRet (tOp (rI (fun _ j => 0 < j) fun i j => .int (i % j)) (tOp (rI CDiv fun i j => .int (i / j)) (tCB rIntZ (tCons (tOp (rI (fun _ j => 0 < j) fun i j => .int (i % j)) (tOp (rI CPow fun i j => .int (i ^ j.toNat)) (tVar 4) (tC (.int 23))) (tC (.int 2305843009213693951))) tNil)) (tC (.int 128))) (tVar 1)))))
          { nx := fun _ H' => Q .non H', rt := Q } σ H1 := fun {H1 i g n' f} σ a0 a1 s q1 q2 q3 q4 q5 q6 sl => by
      have mm : (0 : Int) < m := m0
      have md : CDiv (m : Int) m ∨ True := .inr trivial
      refine ⟨_, a0, pa, _, rfl, s.gd, _, _, rfl, rfl, _, rfl, ?_⟩
      by_cases hg : (0 : Int) < g
      · dsimp only
        rw [if_pos (decide_eq_true hg)]
        refine ⟨_, a0, pa, _, rfl, s.gd, .inl ⟨g, rfl, _, a1, g, m, rfl, rfl, m0, ?_⟩⟩
        have b0 : (σ.set 3 (some (V.int (g % m))))[0]? = some (some (.ref pa)) := by rw [List.getElem?_set_ne (by decide)]; exact a0
        have b1 : (σ.set 3 (some (V.int (g % m))))[1]? = some (some (.int m)) := by rw [List.getElem?_set_ne (by decide)]; exact a1
        have b3 : (σ.set 3 (some (V.int (g % m))))[3]? = some (some (.int (g % m))) := List.getElem?_set_self (by omega)
        exact ⟨_, b0, pa, _, rfl, s.gd, _, b1, g, m, rfl, rfl, ⟨m0, by omega⟩, _, b0, pa, _, rfl, s.pd _, _, b3, fin s.put q1 (Int.ediv_nonneg q2 (by omega)) q3 q4 q5 q6 (Int.emod_nonneg _ (by omega)) (Int.emod_lt_of_pos _ m0)⟩
      · dsimp only
        rw [if_neg (by simpa using hg)]
        refine ⟨_, a0, pa, _, rfl, s.gf, _, a0, pa, _, rfl, s.gc, n', 9697, rfl, rfl, .inl ⟨by omega, by omega⟩, f, _, rfl, rfl, _, _, rfl, rfl, ?_⟩
        have b1 : (σ.set 4 (some (V.int (f + n' * 9697 + 151))))[1]? = some (some (.int m)) := by rw [List.getElem?_set_ne (by decide)]; exact a1
        have b4 : (σ.set 4 (some (V.int (f + n' * 9697 + 151))))[4]? = some (some (.int (f + n' * 9697 + 151))) := List.getElem?_set_self (by omega)
        exact ⟨_, b4, _, 23, rfl, rfl, ⟨by decide, by decide, by omega⟩, _, 2305843009213693951, rfl, rfl, by show (0 : Int) < 2305843009213693951; omega, .inl ⟨_, rfl, _, 128, rfl, rfl, ⟨by decide, by decide⟩, _, b1, _, m, rfl, rfl, m0, fin s q1 q2 q3 q4 q5 q6 (Int.emod_nonneg _ (by omega)) (Int.emod_lt_of_pos _ m0)⟩⟩
    refine ⟨_, rfl, pa, _, rfl, s0.gc, n, 1, rfl, rfl, _, rfl, pa, _, rfl, s0.pc _, ?_⟩
    have s1 : StP pa b H (upd H pa (.dK (penK b i g (n + 1) f))) i g (n + 1) f := s0.put
    refine ⟨_, rfl, pa, _, rfl, s1.gd, rfl, _, rfl, ?_⟩
    have cp : CPow 10 18 := ⟨by decide, by decide, by decide⟩
    dsimp only
    by_cases hg : g = 0
    · subst hg
      rw [if_pos (decide_eq_true rfl)]
      refine ⟨_, rfl, pa, _, rfl, s1.ga, _, rfl, pa, _, rfl, s1.gl, b, _, rfl, .inl (cell s1), i, _, rfl, rfl, _, rfl, ?_⟩
      dsimp only
      by_cases hi : i < ((ns.map V.int).length : Int)
      · rw [if_pos (decide_eq_true hi)]
        have hi' : i.toNat < ns.length := by rw [List.length_map] at hi; omega
        have hat : atI (ns.map V.int) i = some (.int (ns[i.toNat]'hi')) := by
          unfold atI ixN
          rw [if_pos i0, if_pos hi]
          simp [hi']
        refine ⟨_, rfl, pa, _, rfl, s1.gl, _, rfl, pa, _, rfl, s1.ga, b, _, i, _, rfl, rfl, cell s1, hat, ?_⟩
        generalize ns[i.toNat]'hi' = j
        refine ⟨_, rfl, pa, _, rfl, s1.ga, i, 1, rfl, rfl, _, rfl, pa, _, rfl, s1.pa _, ?_⟩
        have s2 : StP pa b H (upd (upd H pa (.dK (penK b i 0 (n + 1) f))) pa (.dK (penK b (i + 1) 0 (n + 1) f))) (i + 1) 0 (n + 1) f := s1.put
        refine ⟨_, rfl, 10, 18, rfl, rfl, cp, j, _, rfl, rfl, _, rfl, ?_⟩
        dsimp only
        by_cases hj : (10 : Int) ^ (18 : Int).toNat ≤ j
        · rw [if_pos (decide_eq_true hj)]
          exact ⟨_, rfl, 10, 18, rfl, rfl, cp, j, _, rfl, rfl, _, rfl, pa, _, rfl, s2.pd _, tail _ rfl rfl s2.put (by omega) (by omega) (by omega) (by omega) f0 f1 rfl⟩
        · rw [if_neg (by simpa using hj)]
          exact ⟨_, rfl, pa, _, rfl, s2.gf, f, 70843, rfl, rfl, .inl ⟨by omega, by omega⟩, _, rfl, _, j, rfl, rfl, .inl ⟨_, rfl, _, 2147483543, rfl, rfl, by show (0 : Int) < 2147483543; omega, _, rfl, pa, _, rfl, s2.pf _,
            tail _ rfl rfl s2.put (by omega) (by omega) (by omega) (by omega) (Int.emod_nonneg _ (by omega)) (Int.lt_trans (Int.emod_lt_of_pos _ (by omega)) (by omega)) rfl⟩⟩
      · rw [if_neg (by simpa using hi)]
        exact tail _ rfl rfl s1 i0 (by omega) (by omega) (by omega) f0 f1 rfl
    · rw [if_neg (by simpa using hg)]
      exact tail _ rfl rfl s1 i0 g0 (by omega) (by omega) f0 f1 rfl
end Z

namespace K28
open PySem L2
def names : List Str := [Str.ofString "is_whole", Str.ofString "is_count", Str.ofString "is_element_in", Str.ofString "common", Str.ofString "is_tower_form", Str.ofString "need_tower", Str.ofString "need_element", Str.ofString "lowest_in", Str.ofString "whole_in", Str.ofString "is_nought_in", Str.ofString "plus_in", Str.ofString "other_in", Str.ofString "minus_in", Str.ofString "halves_in", Str.ofString "joined_in", Str.ofString "times_in", Str.ofString "turned_in", Str.ofString "norm_in", Str.ofString "inverse_in", Str.ofString "over_in", Str.ofString "lifted_in", Str.ofString "need_two", Str.ofString "sign_in", Str.ofString "sign", Str.ofString "order", Str.ofString "root_below", Str.ofString "lowest", Str.ofString "products", Str.ofString "span_in", Str.ofString "is_bound", Str.ofString "are_bounds_in", Str.ofString "are_bounds", Str.ofString "bounds_in", Str.ofString "bounds", Str.ofString "whole_root", Str.ofString "some_root", Str.ofString "root_in", Str.ofString "square_root", Str.ofString "bar_in", Str.ofString "tower_bar", Str.ofString "is_tower", Str.ofString "is_odd_prime", Str.ofString "need_prime", Str.ofString "inverse", Str.ofString "in_ring", Str.ofString "ring_of", Str.ofString "ring_times", Str.ofString "ring_power", Str.ofString "ring_norm", Str.ofString "fits_in", Str.ofString "fits", Str.ofString "led", Str.ofString "rests_in", Str.ofString "all_rests", Str.ofString "moves_in", Str.ofString "nested_in", Str.ofString "is_nested_in", Str.ofString "nested_paper", Str.ofString "is_nested_paper", Str.ofString "power_in_ring", Str.ofString "_law_pen", Str.ofString "_law_draw", Str.ofString "_law_pick", Str.ofString "_law_gcd", Str.ofString "_law_lowest", Str.ofString "_law_size", Str.ofString "_law_sum", Str.ofString "_law_product", Str.ofString "_law_root_below", Str.ofString "_law_near", Str.ofString "_law_worth", Str.ofString "_law_twos", Str.ofString "law", Str.ofString "MOST_ROOTS", Str.ofString "MOST_PRIME"]
def gn (n : Nat) : Option Str := names[n]?
def df (n : Nat) : Bool := decide (n ∈ [0, 1, 2, 3, 4, 5, 6, 7, 8, 9, 10, 11, 12, 13, 14, 15, 16, 17, 18, 19, 20, 21, 22, 23, 24, 25, 26, 27, 28, 29, 30, 31, 32, 33, 34, 35, 36, 37, 38, 39, 40, 41, 42, 43, 44, 45, 46, 47, 48, 49, 50, 51, 52, 53, 54, 55, 56, 57, 58, 59, 60, 61, 62, 63, 64, 65, 66, 67, 68, 69, 70, 71, 72])
def b_is_whole : Z.S := (.seq (.ret (.and (.isi (.var 0) .int) (.not (.isi (.var 0) .bool)))) .skip)
def f_is_whole : Z.Fd := ⟨1, 1, b_is_whole, true⟩
def b_is_count : Z.S := (.seq (.ret (.and (.call 0 (.cons (.var 0) .nil)) (.cmp .ge (.var 0) (.int 0)))) .skip)
def f_is_count : Z.Fd := ⟨1, 1, b_is_count, true⟩
def b_is_element_in : Z.S := (.seq (.ifs (.or (.not (.isi (.var 1) .tuple)) (.or (.cmp .ne (.bcall .len (.cons (.var 1) .nil)) (.bop .add (.int 1) (.bop .shl (.int 1) (.var 0)))) (.not (.bcall .all (.cons (.comp [2] (.call 0 (.cons (.var 2) .nil)) (.nm 2) (.var 1) (.bl true)) .nil))))) (.seq (.ret (.bl false)) .skip) .skip) (.seq (.ret (.and (.cmp .gt (.ix (.var 1) (.int 0)) (.int 0)) (.cmp .eq (.bcall .gcd (.cons (.ix (.var 1) (.int 0)) (.cons (.call 3 (.cons (.slc (.var 1) (.int 1) .nop) .nil)) .nil))) (.int 1)))) .skip))
def f_is_element_in : Z.Fd := ⟨2, 3, b_is_element_in, true⟩
def b_common : Z.S := (.seq (.set 1 (.int 0)) (.seq (.for_ (.nm 2) (.var 0) (.seq (.set 1 (.bcall .gcd (.cons (.var 1) (.cons (.var 2) .nil)))) .skip)) (.seq (.ret (.var 1)) .skip)))
def f_common : Z.Fd := ⟨1, 3, b_common, true⟩
def b_is_tower_form : Z.S := (.seq (.ifs (.or (.not (.isi (.var 0) .tuple)) (.cmp .gt (.bcall .len (.cons (.var 0) .nil)) (.glb 73))) (.seq (.ret (.bl false)) .skip) .skip) (.seq (.ret (.bcall .all (.cons (.comp [1, 2] (.call 2 (.cons (.var 1) (.cons (.var 2) .nil))) (.tp (.cons (.nm 1) (.cons (.nm 2) .nil))) (.enum (.var 0)) (.bl true)) .nil))) .skip))
def f_is_tower_form : Z.Fd := ⟨1, 3, b_is_tower_form, true⟩
def b_need_tower : Z.S := (.seq (.ifs (.not (.call 4 (.cons (.var 0) .nil))) (.seq .never .skip) .skip) .skip)
def f_need_tower : Z.Fd := ⟨1, 1, b_need_tower, true⟩
def b_need_element : Z.S := (.seq (.ifs (.not (.call 2 (.cons (.bcall .len (.cons (.var 0) .nil)) (.cons (.var 1) .nil)))) (.seq .never .skip) .skip) .skip)
def f_need_element : Z.Fd := ⟨2, 2, b_need_element, true⟩
def b_lowest_in : Z.S := (.seq (.set 1 (.bcall .gcd (.cons (.ix (.var 0) (.int 0)) (.cons (.call 3 (.cons (.slc (.var 0) (.int 1) .nop) .nil)) .nil)))) (.seq (.ifs (.cmp .lt (.ix (.var 0) (.int 0)) (.int 0)) (.seq (.set 1 (.neg (.var 1))) .skip) .skip) (.seq (.ret (.bcall .tuple (.cons (.comp [2] (.bop .fdiv (.var 2) (.var 1)) (.nm 2) (.var 0) (.bl true)) .nil))) .skip)))
def f_lowest_in : Z.Fd := ⟨1, 3, b_lowest_in, true⟩
def b_whole_in : Z.S := (.seq (.ret (.call 7 (.cons (.bop .add (.tup (.cons (.var 2) (.cons (.var 1) .nil))) (.bop .mul (.tup (.cons (.int 0) .nil)) (.bop .sub (.bop .shl (.int 1) (.var 0)) (.int 1)))) .nil))) .skip)
def f_whole_in : Z.Fd := ⟨3, 3, b_whole_in, true⟩
def b_is_nought_in : Z.S := (.seq (.ret (.not (.bcall .any (.cons (.slc (.var 0) (.int 1) .nop) .nil)))) .skip)
def f_is_nought_in : Z.Fd := ⟨1, 1, b_is_nought_in, true⟩
def b_plus_in : Z.S := (.seq (.set 2 (.allo (.lst (.cons (.bop .mul (.ix (.var 0) (.int 0)) (.ix (.var 1) (.int 0))) .nil)))) (.seq (.expr (.bm .extend (.var 2) (.cons (.comp [3, 4] (.bop .add (.bop .mul (.var 3) (.ix (.var 1) (.int 0))) (.bop .mul (.var 4) (.ix (.var 0) (.int 0)))) (.tp (.cons (.nm 3) (.cons (.nm 4) .nil))) (.zip (.slc (.var 0) (.int 1) .nop) (.slc (.var 1) (.int 1) .nop)) (.bl true)) .nil))) (.seq (.ret (.call 7 (.cons (.bcall .tuple (.cons (.var 2) .nil)) .nil))) .skip)))
def f_plus_in : Z.Fd := ⟨2, 5, b_plus_in, true⟩
def b_other_in : Z.S := (.seq (.ret (.bop .add (.slc (.var 0) .nop (.int 1)) (.bcall .tuple (.cons (.comp [1] (.neg (.var 1)) (.nm 1) (.slc (.var 0) (.int 1) .nop) (.bl true)) .nil)))) .skip)
def f_other_in : Z.Fd := ⟨1, 2, b_other_in, true⟩
def b_minus_in : Z.S := (.seq (.ret (.call 10 (.cons (.var 0) (.cons (.call 11 (.cons (.var 1) .nil)) .nil)))) .skip)
def f_minus_in : Z.Fd := ⟨2, 2, b_minus_in, true⟩
def b_halves_in : Z.S := (.seq (.set 1 (.bop .fdiv (.bop .sub (.bcall .len (.cons (.var 0) .nil)) (.int 1)) (.int 2))) (.seq (.ret (.tup (.cons (.call 7 (.cons (.bop .add (.slc (.var 0) .nop (.int 1)) (.slc (.var 0) (.int 1) (.bop .add (.int 1) (.var 1)))) .nil)) (.cons (.call 7 (.cons (.bop .add (.slc (.var 0) .nop (.int 1)) (.slc (.var 0) (.bop .add (.int 1) (.var 1)) .nop)) .nil)) .nil)))) .skip))
def f_halves_in : Z.Fd := ⟨1, 2, b_halves_in, true⟩
def b_joined_in : Z.S := (.seq (.unp (.tp (.cons (.nm 2) (.cons (.nm 3) .nil))) (.tup (.cons (.bop .fdiv (.bop .mul (.ix (.var 0) (.int 0)) (.ix (.var 1) (.int 0))) (.bcall .gcd (.cons (.ix (.var 0) (.int 0)) (.cons (.ix (.var 1) (.int 0)) .nil)))) (.cons (.allo (.lst .nil)) .nil)))) (.seq (.expr (.bm .extend (.var 3) (.cons (.comp [4] (.bop .mul (.var 4) (.bop .fdiv (.var 2) (.ix (.var 0) (.int 0)))) (.nm 4) (.slc (.var 0) (.int 1) .nop) (.bl true)) .nil))) (.seq (.expr (.bm .extend (.var 3) (.cons (.comp [4] (.bop .mul (.var 4) (.bop .fdiv (.var 2) (.ix (.var 1) (.int 0)))) (.nm 4) (.slc (.var 1) (.int 1) .nop) (.bl true)) .nil))) (.seq (.ret (.call 7 (.cons (.bop .add (.tup (.cons (.var 2) .nil)) (.bcall .tuple (.cons (.var 3) .nil))) .nil))) .skip))))
def f_joined_in : Z.Fd := ⟨2, 5, b_joined_in, true⟩
def b_times_in : Z.S := (.seq (.ifs (.cmp .eq (.bcall .len (.cons (.var 1) .nil)) (.int 2)) (.seq (.ret (.call 7 (.cons (.tup (.cons (.bop .mul (.ix (.var 1) (.int 0)) (.ix (.var 2) (.int 0))) (.cons (.bop .mul (.ix (.var 1) (.int 1)) (.ix (.var 2) (.int 1))) .nil))) .nil))) .skip) .skip) (.seq (.set 3 (.bop .sub (.bm .bitlen (.bop .sub (.bcall .len (.cons (.var 1) .nil)) (.int 1)) .nil) (.int 1))) (.seq (.unp (.tp (.cons (.tp (.cons (.nm 4) (.cons (.nm 5) .nil))) (.cons (.tp (.cons (.nm 6) (.cons (.nm 7) .nil))) .nil))) (.tup (.cons (.call 13 (.cons (.var 1) .nil)) (.cons (.call 13 (.cons (.var 2) .nil)) .nil)))) (.seq (.set 8 (.call 15 (.cons (.var 0) (.cons (.var 4) (.cons (.var 6) .nil))))) (.seq (.ifs (.and (.not (.call 9 (.cons (.var 5) .nil))) (.not (.call 9 (.cons (.var 7) .nil)))) (.seq (.set 8 (.call 10 (.cons (.var 8) (.cons (.call 15 (.cons (.var 0) (.cons (.call 15 (.cons (.var 0) (.cons (.var 5) (.cons (.var 7) .nil)))) (.cons (.ix (.var 0) (.bop .sub (.var 3) (.int 1))) .nil)))) .nil)))) .skip) .skip) (.seq (.ret (.call 14 (.cons (.var 8) (.cons (.call 10 (.cons (.call 15 (.cons (.var 0) (.cons (.var 4) (.cons (.var 7) .nil)))) (.cons (.call 15 (.cons (.var 0) (.cons (.var 5) (.cons (.var 6) .nil)))) .nil))) .nil)))) .skip))))))
def f_times_in : Z.Fd := ⟨3, 9, b_times_in, true⟩
def b_turned_in : Z.S := (.seq (.set 1 (.bop .fdiv (.bop .sub (.bcall .len (.cons (.var 0) .nil)) (.int 1)) (.int 2))) (.seq (.ret (.bop .add (.slc (.var 0) .nop (.bop .add (.int 1) (.var 1))) (.bcall .tuple (.cons (.comp [2] (.neg (.var 2)) (.nm 2) (.slc (.var 0) (.bop .add (.int 1) (.var 1)) .nop) (.bl true)) .nil)))) .skip))
def f_turned_in : Z.Fd := ⟨1, 3, b_turned_in, true⟩
def b_norm_in : Z.S := (.seq (.ret (.ix (.call 13 (.cons (.call 15 (.cons (.var 0) (.cons (.var 1) (.cons (.call 16 (.cons (.var 1) .nil)) .nil)))) .nil)) (.int 0))) .skip)
def f_norm_in : Z.Fd := ⟨2, 2, b_norm_in, true⟩
def b_inverse_in : Z.S := (.seq (.ifs (.cmp .eq (.bcall .len (.cons (.var 1) .nil)) (.int 2)) (.seq (.ret (.call 7 (.cons (.tup (.cons (.ix (.var 1) (.int 1)) (.cons (.ix (.var 1) (.int 0)) .nil))) .nil))) .skip) .skip) (.seq (.unp (.tp (.cons (.nm 2) (.cons (.nm 3) .nil))) (.call 13 (.cons (.call 16 (.cons (.var 1) .nil)) .nil))) (.seq (.set 4 (.call 18 (.cons (.var 0) (.cons (.call 17 (.cons (.var 0) (.cons (.var 1) .nil))) .nil)))) (.seq (.ret (.call 14 (.cons (.call 15 (.cons (.var 0) (.cons (.var 2) (.cons (.var 4) .nil)))) (.cons (.call 15 (.cons (.var 0) (.cons (.var 3) (.cons (.var 4) .nil)))) .nil)))) .skip))))
def f_inverse_in : Z.Fd := ⟨2, 5, b_inverse_in, true⟩
def b_over_in : Z.S := (.seq (.ret (.call 15 (.cons (.var 0) (.cons (.var 1) (.cons (.call 18 (.cons (.var 0) (.cons (.var 2) .nil))) .nil))))) .skip)
def f_over_in : Z.Fd := ⟨3, 3, b_over_in, true⟩
def b_lifted_in : Z.S := (.seq (.ret (.bop .add (.var 1) (.bop .mul (.tup (.cons (.int 0) .nil)) (.bop .sub (.bop .add (.int 1) (.bop .shl (.int 1) (.var 0))) (.bcall .len (.cons (.var 1) .nil)))))) .skip)
def f_lifted_in : Z.Fd := ⟨2, 2, b_lifted_in, true⟩
def b_need_two : Z.S := (.seq (.expr (.call 5 (.cons (.var 0) .nil))) (.seq (.expr (.call 6 (.cons (.var 0) (.cons (.var 1) .nil)))) (.seq (.expr (.call 6 (.cons (.var 0) (.cons (.var 2) .nil)))) .skip)))
def f_need_two : Z.Fd := ⟨3, 3, b_need_two, true⟩
def b_sign_in : Z.S := (.seq (.ifs (.cmp .eq (.bcall .len (.cons (.var 1) .nil)) (.int 2)) (.seq (.ret (.bop .sub (.cmp .gt (.ix (.var 1) (.int 1)) (.int 0)) (.cmp .lt (.ix (.var 1) (.int 1)) (.int 0)))) .skip) .skip) (.seq (.set 2 (.bop .sub (.bm .bitlen (.bop .sub (.bcall .len (.cons (.var 1) .nil)) (.int 1)) .nil) (.int 1))) (.seq (.unp (.tp (.cons (.nm 3) (.cons (.nm 4) .nil))) (.call 13 (.cons (.var 1) .nil))) (.seq (.par [5, 6] (.cons (.call 22 (.cons (.var 0) (.cons (.var 3) .nil))) (.cons (.call 22 (.cons (.var 0) (.cons (.var 4) .nil))) .nil))) (.seq (.ifs (.cmp .ge (.bop .mul (.var 5) (.var 6)) (.int 0)) (.seq (.ret (.or (.var 5) (.var 6))) .skip) .skip) (.seq (.set 7 (.call 15 (.cons (.var 0) (.cons (.call 15 (.cons (.var 0) (.cons (.var 4) (.cons (.var 4) .nil)))) (.cons (.ix (.var 0) (.bop .sub (.var 2) (.int 1))) .nil))))) (.seq (.ret (.bop .mul (.var 5) (.call 22 (.cons (.var 0) (.cons (.call 12 (.cons (.call 15 (.cons (.var 0) (.cons (.var 3) (.cons (.var 3) .nil)))) (.cons (.var 7) .nil))) .nil))))) .skip)))))))
def f_sign_in : Z.Fd := ⟨2, 8, b_sign_in, true⟩
def b_sign : Z.S := (.seq (.expr (.call 5 (.cons (.var 0) .nil))) (.seq (.expr (.call 6 (.cons (.var 0) (.cons (.var 1) .nil)))) (.seq (.ret (.call 22 (.cons (.var 0) (.cons (.var 1) .nil)))) .skip)))
def f_sign : Z.Fd := ⟨2, 2, b_sign, true⟩
def b_order : Z.S := (.seq (.expr (.call 21 (.cons (.var 0) (.cons (.var 1) (.cons (.var 2) .nil))))) (.seq (.ret (.call 22 (.cons (.var 0) (.cons (.call 12 (.cons (.var 1) (.cons (.var 2) .nil))) .nil)))) .skip))
def f_order : Z.Fd := ⟨3, 3, b_order, true⟩
def b_root_below : Z.S := (.seq (.ifs (.cmp .lt (.var 0) (.int 2)) (.seq (.ret (.var 0)) .skip) .skip) (.seq (.set 1 (.bop .shl (.int 1) (.bop .fdiv (.bop .add (.bm .bitlen (.var 0) .nil) (.int 1)) (.int 2)))) (.seq (.whl (.bl true) (.seq (.set 2 (.bop .fdiv (.bop .add (.var 1) (.bop .fdiv (.var 0) (.var 1))) (.int 2))) (.seq (.ifs (.cmp .ge (.var 2) (.var 1)) (.seq (.ret (.var 1)) .skip) .skip) (.seq (.set 1 (.var 2)) .skip)))) .skip)))
def f_root_below : Z.Fd := ⟨1, 3, b_root_below, true⟩
def b_lowest : Z.S := (.seq (.set 2 (.bcall .gcd (.cons (.var 0) (.cons (.var 1) .nil)))) (.seq (.ret (.tup (.cons (.bop .fdiv (.var 0) (.var 2)) (.cons (.bop .fdiv (.var 1) (.var 2)) .nil)))) .skip))
def f_lowest : Z.Fd := ⟨2, 3, b_lowest, true⟩
def b_products : Z.S := (.seq (.set 1 (.allo (.lst (.cons (.tup (.cons (.tup (.cons (.int 1) (.cons (.int 1) .nil))) (.cons (.tup (.cons (.int 1) (.cons (.int 1) .nil))) .nil))) .nil)))) (.seq (.for_ (.tp (.cons (.nm 2) (.cons (.nm 3) (.cons (.nm 4) (.cons (.nm 5) .nil))))) (.var 0) (.seq (.expr (.bm .extend (.var 1) (.cons (.comp [6, 7] (.tup (.cons (.tup (.cons (.bop .mul (.ix (.var 6) (.int 0)) (.var 2)) (.cons (.bop .mul (.ix (.var 6) (.int 1)) (.var 3)) .nil))) (.cons (.tup (.cons (.bop .mul (.ix (.var 7) (.int 0)) (.var 4)) (.cons (.bop .mul (.ix (.var 7) (.int 1)) (.var 5)) .nil))) .nil))) (.tp (.cons (.nm 6) (.cons (.nm 7) .nil))) (.bcall .list (.cons (.var 1) .nil)) (.bl true)) .nil))) .skip)) (.seq (.ret (.var 1)) .skip)))
def f_products : Z.Fd := ⟨1, 8, b_products, false⟩
def b_span_in : Z.S := (.seq (.unp (.tp (.cons (.nm 2) (.cons (.nm 3) .nil))) (.tup (.cons (.tup (.cons (.int 0) (.cons (.int 1) .nil))) (.cons (.tup (.cons (.int 0) (.cons (.int 1) .nil))) .nil)))) (.seq (.for_ (.tp (.cons (.nm 4) (.cons (.nm 5) .nil))) (.zip (.slc (.var 1) (.int 1) .nop) (.call 27 (.cons (.var 0) .nil))) (.seq (.ifs (.var 4) (.seq (.unp (.tp (.cons (.nm 6) (.cons (.nm 7) .nil))) (.ife (.cmp .gt (.var 4) (.int 0)) (.var 5) (.rev (.var 5)))) (.seq (.set 2 (.call 26 (.cons (.bop .add (.bop .mul (.ix (.var 2) (.int 0)) (.ix (.var 6) (.int 1))) (.bop .mul (.bop .mul (.var 4) (.ix (.var 6) (.int 0))) (.ix (.var 2) (.int 1)))) (.cons (.bop .mul (.ix (.var 2) (.int 1)) (.ix (.var 6) (.int 1))) .nil)))) (.seq (.set 3 (.call 26 (.cons (.bop .add (.bop .mul (.ix (.var 3) (.int 0)) (.ix (.var 7) (.int 1))) (.bop .mul (.bop .mul (.var 4) (.ix (.var 7) (.int 0))) (.ix (.var 3) (.int 1)))) (.cons (.bop .mul (.ix (.var 3) (.int 1)) (.ix (.var 7) (.int 1))) .nil)))) .skip))) .skip) .skip)) (.seq (.ret (.tup (.cons (.call 26 (.cons (.ix (.var 2) (.int 0)) (.cons (.bop .mul (.ix (.var 2) (.int 1)) (.ix (.var 1) (.int 0))) .nil))) (.cons (.call 26 (.cons (.ix (.var 3) (.int 0)) (.cons (.bop .mul (.ix (.var 3) (.int 1)) (.ix (.var 1) (.int 0))) .nil))) .nil)))) .skip)))
def f_span_in : Z.Fd := ⟨2, 8, b_span_in, true⟩
def b_is_bound : Z.S := (.seq (.ifs (.or (.not (.isi (.var 0) .tuple)) (.or (.cmp .ne (.bcall .len (.cons (.var 0) .nil)) (.int 4)) (.not (.bcall .all (.cons (.comp [1] (.and (.call 0 (.cons (.var 1) .nil)) (.cmp .gt (.var 1) (.int 0))) (.nm 1) (.var 0) (.bl true)) .nil))))) (.seq (.ret (.bl false)) .skip) .skip) (.seq (.unp (.tp (.cons (.nm 2) (.cons (.nm 3) (.cons (.nm 4) (.cons (.nm 5) .nil))))) (.var 0)) (.seq (.ret (.and (.cmp .eq (.bcall .gcd (.cons (.var 2) (.cons (.var 3) .nil))) (.int 1)) (.and (.cmp .eq (.bcall .gcd (.cons (.var 4) (.cons (.var 5) .nil))) (.int 1)) (.cmp .le (.bop .mul (.var 2) (.var 5)) (.bop .mul (.var 4) (.var 3)))))) .skip)))
def f_is_bound : Z.Fd := ⟨1, 6, b_is_bound, true⟩
def b_are_bounds_in : Z.S := (.seq (.ifs (.or (.not (.isi (.var 1) .tuple)) (.or (.cmp .ne (.bcall .len (.cons (.var 1) .nil)) (.bcall .len (.cons (.var 0) .nil))) (.not (.bcall .all (.cons (.comp [2] (.call 29 (.cons (.var 2) .nil)) (.nm 2) (.var 1) (.bl true)) .nil))))) (.seq (.ret (.bl false)) .skip) .skip) (.seq (.for_ (.tp (.cons (.nm 3) (.cons (.tp (.cons (.nm 4) (.cons (.nm 5) (.cons (.nm 6) (.cons (.nm 7) .nil))))) .nil))) (.enum (.var 1)) (.seq (.unp (.tp (.cons (.nm 8) (.cons (.nm 9) .nil))) (.call 28 (.cons (.slc (.var 1) .nop (.var 3)) (.cons (.ix (.var 0) (.var 3)) .nil)))) (.seq (.ifs (.or (.cmp .gt (.bop .mul (.bop .mul (.var 4) (.var 4)) (.ix (.var 8) (.int 1))) (.bop .mul (.bop .mul (.ix (.var 8) (.int 0)) (.var 5)) (.var 5))) (.cmp .lt (.bop .mul (.bop .mul (.var 6) (.var 6)) (.ix (.var 9) (.int 1))) (.bop .mul (.bop .mul (.ix (.var 9) (.int 0)) (.var 7)) (.var 7)))) (.seq (.ret (.bl false)) .skip) .skip) .skip))) (.seq (.ret (.bl true)) .skip)))
def f_are_bounds_in : Z.Fd := ⟨2, 10, b_are_bounds_in, true⟩
def b_are_bounds : Z.S := (.seq (.expr (.call 5 (.cons (.var 0) .nil))) (.seq (.ret (.call 30 (.cons (.var 0) (.cons (.var 1) .nil)))) .skip))
def f_are_bounds : Z.Fd := ⟨2, 2, b_are_bounds, true⟩
def b_bounds_in : Z.S := (.seq (.par [2, 3] (.cons (.allo (.lst .nil)) (.cons (.bop .shl (.int 1) (.var 1)) .nil))) (.seq (.for_ (.nm 4) (.var 0) (.seq (.unp (.tp (.cons (.nm 5) (.cons (.nm 6) .nil))) (.call 28 (.cons (.var 2) (.cons (.var 4) .nil)))) (.seq (.ifs (.cmp .le (.ix (.var 5) (.int 0)) (.int 0)) (.seq (.ret .non) .skip) .skip) (.seq (.set 7 (.call 25 (.cons (.bop .fdiv (.bop .mul (.bop .mul (.ix (.var 5) (.int 0)) (.var 3)) (.var 3)) (.ix (.var 5) (.int 1))) .nil))) (.seq (.set 8 (.bop .add (.call 25 (.cons (.bop .fdiv (.bop .mul (.bop .mul (.ix (.var 6) (.int 0)) (.var 3)) (.var 3)) (.ix (.var 6) (.int 1))) .nil)) (.int 1))) (.seq (.ifs (.cmp .eq (.var 7) (.int 0)) (.seq (.ret .non) .skip) .skip) (.seq (.expr (.bm .append (.var 2) (.cons (.bop .add (.call 26 (.cons (.var 7) (.cons (.var 3) .nil))) (.call 26 (.cons (.var 8) (.cons (.var 3) .nil)))) .nil))) .skip))))))) (.seq (.ret (.bcall .tuple (.cons (.var 2) .nil))) .skip)))
def f_bounds_in : Z.Fd := ⟨2, 9, b_bounds_in, true⟩
def b_bounds : Z.S := (.seq (.expr (.call 5 (.cons (.var 0) .nil))) (.seq (.ifs (.or (.not (.call 1 (.cons (.var 1) .nil))) (.cmp .gt (.var 1) (.int 2000))) (.seq .never .skip) .skip) (.seq (.ret (.call 32 (.cons (.var 0) (.cons (.var 1) .nil)))) .skip)))
def f_bounds : Z.Fd := ⟨2, 2, b_bounds, true⟩
def b_whole_root : Z.S := (.seq (.ifs (.cmp .lt (.var 0) (.int 0)) (.seq (.ret .non) .skip) .skip) (.seq (.set 1 (.call 25 (.cons (.var 0) .nil))) (.seq (.ret (.ife (.cmp .eq (.bop .mul (.var 1) (.var 1)) (.var 0)) (.var 1) .non)) .skip)))
def f_whole_root : Z.Fd := ⟨1, 2, b_whole_root, true⟩
def b_some_root : Z.S := (.seq (.ifs (.cmp .eq (.bcall .len (.cons (.var 1) .nil)) (.int 2)) (.seq (.par [2, 3] (.cons (.call 34 (.cons (.ix (.var 1) (.int 0)) .nil)) (.cons (.call 34 (.cons (.ix (.var 1) (.int 1)) .nil)) .nil))) (.seq (.ret (.ife (.or (.cmp .is (.var 2) .non) (.cmp .is (.var 3) .non)) .non (.tup (.cons (.var 2) (.cons (.var 3) .nil))))) .skip)) .skip) (.seq (.set 4 (.bop .sub (.bm .bitlen (.bop .sub (.bcall .len (.cons (.var 1) .nil)) (.int 1)) .nil) (.int 1))) (.seq (.unp (.tp (.cons (.nm 5) (.cons (.nm 6) .nil))) (.call 13 (.cons (.var 1) .nil))) (.seq (.set 7 (.ix (.var 0) (.bop .sub (.var 4) (.int 1)))) (.seq (.ifs (.call 9 (.cons (.var 6) .nil)) (.seq (.set 8 (.call 35 (.cons (.var 0) (.cons (.var 5) .nil)))) (.seq (.ifs (.cmp .isn (.var 8) .non) (.seq (.ret (.call 20 (.cons (.var 4) (.cons (.var 8) .nil)))) .skip) .skip) (.seq (.set 8 (.call 35 (.cons (.var 0) (.cons (.call 15 (.cons (.var 0) (.cons (.var 5) (.cons (.var 7) .nil)))) .nil)))) (.seq (.ret (.ife (.cmp .is (.var 8) .non) .non (.call 14 (.cons (.call 8 (.cons (.bop .sub (.var 4) (.int 1)) (.cons (.int 0) (.cons (.int 1) .nil)))) (.cons (.call 19 (.cons (.var 0) (.cons (.var 8) (.cons (.var 7) .nil)))) .nil))))) .skip)))) .skip) (.seq (.set 9 (.call 12 (.cons (.call 15 (.cons (.var 0) (.cons (.var 5) (.cons (.var 5) .nil)))) (.cons (.call 15 (.cons (.var 0) (.cons (.call 15 (.cons (.var 0) (.cons (.var 6) (.cons (.var 6) .nil)))) (.cons (.var 7) .nil)))) .nil)))) (.seq (.par [10, 11] (.cons (.call 35 (.cons (.var 0) (.cons (.var 9) .nil))) (.cons (.call 8 (.cons (.bop .sub (.var 4) (.int 1)) (.cons (.int 2) (.cons (.int 1) .nil)))) .nil))) (.seq (.for_ (.nm 12) (.ife (.cmp .is (.var 10) .non) (.tup .nil) (.tup (.cons (.var 10) (.cons (.call 11 (.cons (.var 10) .nil)) .nil)))) (.seq (.set 8 (.call 35 (.cons (.var 0) (.cons (.call 19 (.cons (.var 0) (.cons (.call 10 (.cons (.var 5) (.cons (.var 12) .nil))) (.cons (.var 11) .nil)))) .nil)))) (.seq (.ifs (.cmp .isn (.var 8) .non) (.seq (.ret (.call 14 (.cons (.var 8) (.cons (.call 19 (.cons (.var 0) (.cons (.var 6) (.cons (.call 15 (.cons (.var 0) (.cons (.var 11) (.cons (.var 8) .nil)))) .nil)))) .nil)))) .skip) .skip) .skip))) (.seq (.ret .non) .skip)))))))))
def f_some_root : Z.Fd := ⟨2, 13, b_some_root, true⟩
def b_root_in : Z.S := (.seq (.set 2 (.call 35 (.cons (.var 0) (.cons (.var 1) .nil)))) (.seq (.ret (.ife (.and (.cmp .isn (.var 2) .non) (.cmp .lt (.call 22 (.cons (.var 0) (.cons (.var 2) .nil))) (.int 0))) (.call 11 (.cons (.var 2) .nil)) (.var 2))) .skip))
def f_root_in : Z.Fd := ⟨2, 3, b_root_in, true⟩
def b_square_root : Z.S := (.seq (.expr (.call 5 (.cons (.var 0) .nil))) (.seq (.expr (.call 6 (.cons (.var 0) (.cons (.var 1) .nil)))) (.seq (.ret (.call 36 (.cons (.var 0) (.cons (.var 1) .nil)))) .skip)))
def f_square_root : Z.Fd := ⟨2, 2, b_square_root, true⟩
def b_bar_in : Z.S := (.seq (.for_ (.tp (.cons (.nm 1) (.cons (.nm 2) .nil))) (.enum (.var 0)) (.seq (.ifs (.cmp .le (.call 22 (.cons (.var 0) (.cons (.var 2) .nil))) (.int 0)) (.seq (.ret (.tup (.cons (.str [97, 98, 111, 118, 101]) (.cons (.bop .add (.var 1) (.int 1)) .nil)))) .skip) .skip) (.seq (.ifs (.cmp .isn (.call 35 (.cons (.var 0) (.cons (.var 2) .nil))) .non) (.seq (.ret (.tup (.cons (.str [117, 110, 108, 105, 107, 101]) (.cons (.bop .add (.var 1) (.int 1)) .nil)))) .skip) .skip) .skip))) (.seq (.ret .non) .skip))
def f_bar_in : Z.Fd := ⟨1, 3, b_bar_in, true⟩
def b_tower_bar : Z.S := (.seq (.expr (.call 5 (.cons (.var 0) .nil))) (.seq (.ret (.call 38 (.cons (.var 0) .nil))) .skip))
def f_tower_bar : Z.Fd := ⟨1, 1, b_tower_bar, true⟩
def b_is_tower : Z.S := (.seq (.ret (.cmp .is (.call 39 (.cons (.var 0) .nil)) .non)) .skip)
def f_is_tower : Z.Fd := ⟨1, 1, b_is_tower, true⟩
def b_is_odd_prime : Z.S := (.seq (.ifs (.or (.not (.call 0 (.cons (.var 0) .nil))) (.or (.not (.chain .lt .lt (.int 2) (.var 0) (.glb 74))) (.cmp .eq (.bop .mod (.var 0) (.int 2)) (.int 0)))) (.seq (.ret (.bl false)) .skip) .skip) (.seq (.set 1 (.int 3)) (.seq (.whl (.cmp .le (.bop .mul (.var 1) (.var 1)) (.var 0)) (.seq (.ifs (.cmp .eq (.bop .mod (.var 0) (.var 1)) (.int 0)) (.seq (.ret (.bl false)) .skip) .skip) (.seq (.aug 1 .add (.int 2)) .skip))) (.seq (.ret (.bl true)) .skip))))
def f_is_odd_prime : Z.Fd := ⟨1, 2, b_is_odd_prime, true⟩
def b_need_prime : Z.S := (.seq (.ifs (.not (.call 41 (.cons (.var 0) .nil))) (.seq .never .skip) .skip) .skip)
def f_need_prime : Z.Fd := ⟨1, 1, b_need_prime, true⟩
def b_inverse : Z.S := (.seq (.unp (.tp (.cons (.nm 2) (.cons (.nm 3) (.cons (.nm 4) (.cons (.nm 5) .nil))))) (.tup (.cons (.var 1) (.cons (.bop .mod (.var 0) (.var 1)) (.cons (.int 0) (.cons (.int 1) .nil)))))) (.seq (.whl (.var 3) (.seq (.set 6 (.bop .fdiv (.var 2) (.var 3))) (.seq (.unp (.tp (.cons (.nm 2) (.cons (.nm 3) (.cons (.nm 4) (.cons (.nm 5) .nil))))) (.tup (.cons (.var 3) (.cons (.bop .sub (.var 2) (.bop .mul (.var 6) (.var 3))) (.cons (.var 5) (.cons (.bop .sub (.var 4) (.bop .mul (.var 6) (.var 5))) .nil)))))) .skip))) (.seq (.ret (.bop .mod (.var 4) (.var 1))) .skip)))
def f_inverse : Z.Fd := ⟨2, 7, b_inverse, true⟩
def b_in_ring : Z.S := (.seq (.set 2 (.call 43 (.cons (.ix (.var 1) (.int 0)) (.cons (.var 0) .nil)))) (.seq (.ret (.bcall .tuple (.cons (.comp [3] (.bop .mod (.bop .mul (.var 3) (.var 2)) (.var 0)) (.nm 3) (.slc (.var 1) (.int 1) .nop) (.bl true)) .nil))) .skip))
def f_in_ring : Z.Fd := ⟨2, 4, b_in_ring, true⟩
def b_ring_of : Z.S := (.seq (.ifs (.bcall .any (.cons (.comp [2] (.cmp .eq (.bop .mod (.ix (.var 2) (.int 0)) (.var 1)) (.int 0)) (.nm 2) (.var 0) (.bl true)) .nil)) (.seq (.ret .non) .skip) .skip) (.seq (.ret (.comp [2] (.call 44 (.cons (.var 1) (.cons (.var 2) .nil))) (.nm 2) (.var 0) (.bl true))) .skip))
def f_ring_of : Z.Fd := ⟨2, 3, b_ring_of, true⟩
def b_ring_times : Z.S := (.seq (.ifs (.cmp .eq (.bcall .len (.cons (.var 2) .nil)) (.int 1)) (.seq (.ret (.tup (.cons (.bop .mod (.bop .mul (.ix (.var 2) (.int 0)) (.ix (.var 3) (.int 0))) (.var 1)) .nil))) .skip) .skip) (.seq (.set 4 (.bop .fdiv (.bcall .len (.cons (.var 2) .nil)) (.int 2))) (.seq (.unp (.tp (.cons (.nm 5) (.cons (.nm 6) (.cons (.nm 7) (.cons (.nm 8) .nil))))) (.tup (.cons (.slc (.var 2) .nop (.var 4)) (.cons (.slc (.var 2) (.var 4) .nop) (.cons (.slc (.var 3) .nop (.var 4)) (.cons (.slc (.var 3) (.var 4) .nop) .nil)))))) (.seq (.set 9 (.ix (.var 0) (.bop .sub (.bm .bitlen (.var 4) .nil) (.int 1)))) (.seq (.par [10, 11] (.cons (.call 46 (.cons (.var 0) (.cons (.var 1) (.cons (.var 5) (.cons (.var 7) .nil))))) (.cons (.call 46 (.cons (.var 0) (.cons (.var 1) (.cons (.call 46 (.cons (.var 0) (.cons (.var 1) (.cons (.var 6) (.cons (.var 8) .nil))))) (.cons (.var 9) .nil))))) .nil))) (.seq (.par [12, 13] (.cons (.call 46 (.cons (.var 0) (.cons (.var 1) (.cons (.var 5) (.cons (.var 8) .nil))))) (.cons (.call 46 (.cons (.var 0) (.cons (.var 1) (.cons (.var 6) (.cons (.var 7) .nil))))) .nil))) (.seq (.set 14 (.allo (.comp [15, 16] (.bop .mod (.bop .add (.var 15) (.var 16)) (.var 1)) (.tp (.cons (.nm 15) (.cons (.nm 16) .nil))) (.zip (.var 10) (.var 11)) (.bl true)))) (.seq (.expr (.bm .extend (.var 14) (.cons (.comp [15, 16] (.bop .mod (.bop .add (.var 15) (.var 16)) (.var 1)) (.tp (.cons (.nm 15) (.cons (.nm 16) .nil))) (.zip (.var 12) (.var 13)) (.bl true)) .nil))) (.seq (.ret (.bcall .tuple (.cons (.var 14) .nil))) .skip)))))))))
def f_ring_times : Z.Fd := ⟨4, 17, b_ring_times, true⟩
def b_ring_power : Z.S := (.seq (.set 4 .non) (.seq (.whl (.var 3) (.seq (.ifs (.bop .mod (.var 3) (.int 2)) (.seq (.set 4 (.ife (.cmp .is (.var 4) .non) (.var 2) (.call 46 (.cons (.var 0) (.cons (.var 1) (.cons (.var 4) (.cons (.var 2) .nil))))))) .skip) .skip) (.seq (.set 2 (.call 46 (.cons (.var 0) (.cons (.var 1) (.cons (.var 2) (.cons (.var 2) .nil)))))) (.seq (.aug 3 .fdiv (.int 2)) .skip)))) (.seq (.ret (.var 4)) .skip)))
def f_ring_power : Z.Fd := ⟨4, 5, b_ring_power, true⟩
def b_ring_norm : Z.S := (.seq (.whl (.cmp .gt (.bcall .len (.cons (.var 2) .nil)) (.int 1)) (.seq (.set 3 (.bop .fdiv (.bcall .len (.cons (.var 2) .nil)) (.int 2))) (.seq (.set 4 (.bop .add (.slc (.var 2) .nop (.var 3)) (.bcall .tuple (.cons (.comp [5] (.bop .mod (.neg (.var 5)) (.var 1)) (.nm 5) (.slc (.var 2) (.var 3) .nop) (.bl true)) .nil)))) (.seq (.set 2 (.slc (.call 46 (.cons (.var 0) (.cons (.var 1) (.cons (.var 2) (.cons (.var 4) .nil))))) .nop (.var 3))) .skip)))) (.seq (.ret (.ix (.var 2) (.int 0))) .skip))
def f_ring_norm : Z.Fd := ⟨3, 6, b_ring_norm, true⟩
def b_fits_in : Z.S := (.seq (.set 2 (.call 45 (.cons (.var 0) (.cons (.var 1) .nil)))) (.seq (.ret (.and (.cmp .isn (.var 2) .non) (.bcall .all (.cons (.comp [3] (.call 48 (.cons (.var 2) (.cons (.var 1) (.cons (.var 3) .nil)))) (.nm 3) (.var 2) (.bl true)) .nil)))) .skip))
def f_fits_in : Z.Fd := ⟨2, 4, b_fits_in, true⟩
def b_fits : Z.S := (.seq (.expr (.call 5 (.cons (.var 0) .nil))) (.seq (.expr (.call 42 (.cons (.var 1) .nil))) (.seq (.ret (.call 49 (.cons (.var 0) (.cons (.var 1) .nil)))) .skip)))
def f_fits : Z.Fd := ⟨2, 2, b_fits, true⟩
def b_led : Z.S := (.seq (.set 3 (.allo (.lst (.cons (.int 1) .nil)))) (.seq (.for_ (.nm 4) (.var 1) (.seq (.expr (.bm .extend (.var 3) (.cons (.comp [5] (.bop .mod (.bop .mul (.var 5) (.var 4)) (.var 0)) (.nm 5) (.bcall .list (.cons (.var 3) .nil)) (.bl true)) .nil))) .skip)) (.seq (.ret (.bop .mod (.bcall .sum (.cons (.comp [6, 7] (.bop .mul (.var 6) (.var 7)) (.tp (.cons (.nm 6) (.cons (.nm 7) .nil))) (.zip (.var 2) (.var 3)) (.bl true)) .nil)) (.var 0))) .skip)))
def f_led : Z.Fd := ⟨3, 8, b_led, true⟩
def b_rests_in : Z.S := (.seq (.par [2, 3] (.cons (.call 45 (.cons (.var 0) (.cons (.var 1) .nil))) (.cons (.lst (.cons (.tup .nil) .nil)) .nil))) (.seq (.ifs (.cmp .is (.var 2) .non) (.seq (.ret (.lst .nil)) .skip) .skip) (.seq (.for_ (.nm 4) (.var 2) (.seq (.set 5 (.allo (.lst .nil))) (.seq (.for_ (.nm 6) (.var 3) (.seq (.set 7 (.call 51 (.cons (.var 1) (.cons (.var 6) (.cons (.var 4) .nil))))) (.seq (.expr (.bm .extend (.var 5) (.cons (.comp [8] (.bop .add (.var 6) (.tup (.cons (.var 8) .nil))) (.nm 8) (.rng2 (.int 1) (.var 1)) (.cmp .eq (.bop .mod (.bop .mul (.var 8) (.var 8)) (.var 1)) (.var 7))) .nil))) .skip))) (.seq (.set 3 (.var 5)) .skip)))) (.seq (.ret (.var 3)) .skip))))
def f_rests_in : Z.Fd := ⟨2, 9, b_rests_in, false⟩
def b_all_rests : Z.S := (.seq (.expr (.call 5 (.cons (.var 0) .nil))) (.seq (.expr (.call 42 (.cons (.var 1) .nil))) (.seq (.ret (.bcall .tuple (.cons (.call 52 (.cons (.var 0) (.cons (.var 1) .nil))) .nil))) .skip)))
def f_all_rests : Z.Fd := ⟨2, 2, b_all_rests, true⟩
def b_moves_in : Z.S := (.seq (.ifs (.or (.cmp .eq (.bop .mod (.ix (.var 2) (.int 0)) (.var 1)) (.int 0)) (.not (.call 49 (.cons (.var 0) (.cons (.var 1) .nil))))) (.seq (.ret (.bl false)) .skip) .skip) (.seq (.par [4, 5] (.cons (.call 45 (.cons (.var 0) (.cons (.var 1) .nil))) (.cons (.call 44 (.cons (.var 1) (.cons (.var 2) .nil))) .nil))) (.seq (.set 6 (.var 5)) (.seq (.for_ (.nm 7) (.rng1 (.var 3)) (.seq (.set 6 (.call 47 (.cons (.var 4) (.cons (.var 1) (.cons (.var 6) (.cons (.var 1) .nil)))))) .skip)) (.seq (.ret (.cmp .ne (.var 6) (.var 5))) .skip)))))
def f_moves_in : Z.Fd := ⟨4, 8, b_moves_in, true⟩
def b_nested_in : Z.S := (.seq (.for_ (.nm 2) (.rng3 (.int 3) (.glb 74) (.int 2)) (.seq (.ifs (.and (.call 41 (.cons (.var 2) .nil)) (.call 54 (.cons (.var 0) (.cons (.var 2) (.cons (.var 1) (.cons (.int 2) .nil)))))) (.seq (.ret (.tup (.cons (.str [110, 101, 115, 116, 101, 100]) (.cons (.var 2) .nil)))) .skip) .skip) .skip)) (.seq (.ret .non) .skip))
def f_nested_in : Z.Fd := ⟨2, 3, b_nested_in, true⟩
def b_is_nested_in : Z.S := (.seq (.ifs (.or (.not (.isi (.var 2) .tuple)) (.or (.cmp .ne (.bcall .len (.cons (.var 2) .nil)) (.int 2)) (.or (.not (.isi (.ix (.var 2) (.int 0)) .str)) (.cmp .ne (.ix (.var 2) (.int 0)) (.str [110, 101, 115, 116, 101, 100]))))) (.seq (.ret (.bl false)) .skip) .skip) (.seq (.ret (.and (.call 41 (.cons (.ix (.var 2) (.int 1)) .nil)) (.call 54 (.cons (.var 0) (.cons (.ix (.var 2) (.int 1)) (.cons (.var 1) (.cons (.int 2) .nil))))))) .skip))
def f_is_nested_in : Z.Fd := ⟨3, 3, b_is_nested_in, true⟩
def b_nested_paper : Z.S := (.seq (.expr (.call 5 (.cons (.var 0) .nil))) (.seq (.expr (.call 6 (.cons (.var 0) (.cons (.var 1) .nil)))) (.seq (.ret (.call 55 (.cons (.var 0) (.cons (.var 1) .nil)))) .skip)))
def f_nested_paper : Z.Fd := ⟨2, 2, b_nested_paper, true⟩
def b_is_nested_paper : Z.S := (.seq (.expr (.call 5 (.cons (.var 0) .nil))) (.seq (.expr (.call 6 (.cons (.var 0) (.cons (.var 1) .nil)))) (.seq (.ret (.call 56 (.cons (.var 0) (.cons (.var 1) (.cons (.var 2) .nil))))) .skip)))
def f_is_nested_paper : Z.Fd := ⟨3, 3, b_is_nested_paper, true⟩
def b_power_in_ring : Z.S := (.seq (.expr (.call 5 (.cons (.var 0) .nil))) (.seq (.expr (.call 42 (.cons (.var 1) .nil))) (.seq (.expr (.call 6 (.cons (.var 0) (.cons (.var 2) .nil)))) (.seq (.ifs (.or (.not (.call 1 (.cons (.var 3) .nil))) (.cmp .lt (.var 3) (.int 1))) (.seq .never .skip) .skip) (.seq (.set 4 (.call 45 (.cons (.var 0) (.cons (.var 1) .nil)))) (.seq (.ifs (.or (.cmp .is (.var 4) .non) (.cmp .eq (.bop .mod (.ix (.var 2) (.int 0)) (.var 1)) (.int 0))) (.seq (.ret .non) .skip) .skip) (.seq (.ret (.call 47 (.cons (.var 4) (.cons (.var 1) (.cons (.call 44 (.cons (.var 1) (.cons (.var 2) .nil))) (.cons (.var 3) .nil)))))) .skip)))))))
def f_power_in_ring : Z.Fd := ⟨4, 5, b_power_in_ring, true⟩
def b__law_pick : Z.S := (.seq (.ret (.ix (.var 1) (.call 61 (.cons (.var 0) (.cons (.bcall .len (.cons (.var 1) .nil)) .nil))))) .skip)
def f__law_pick : Z.Fd := ⟨2, 2, b__law_pick, true⟩
def b__law_gcd : Z.S := (.seq (.set 1 (.int 0)) (.seq (.for_ (.nm 2) (.var 0) (.seq (.par [3, 4] (.cons (.var 1) (.cons (.var 2) .nil))) (.seq (.for_ (.nm 5) (.rng1 (.int 600)) (.seq (.ifs (.cmp .eq (.var 4) (.int 0)) (.seq .brk .skip) .skip) (.seq (.par [3, 4] (.cons (.var 4) (.cons (.bop .mod (.bcall .int (.cons (.var 3) .nil)) (.var 4)) .nil))) .skip))) (.seq (.set 1 (.bcall .abs (.cons (.var 3) .nil))) .skip)))) (.seq (.ret (.var 1)) .skip)))
def f__law_gcd : Z.Fd := ⟨1, 6, b__law_gcd, true⟩
def b__law_lowest : Z.S := (.seq (.set 1 (.call 63 (.cons (.var 0) .nil))) (.seq (.ifs (.cmp .lt (.ix (.var 0) (.int 0)) (.int 0)) (.seq (.set 1 (.bop .sub (.int 0) (.var 1))) .skip) .skip) (.seq (.ret (.bcall .tuple (.cons (.comp [2] (.bcall .int (.cons (.bop .fdiv (.var 2) (.var 1)) .nil)) (.nm 2) (.var 0) (.bl true)) .nil))) .skip)))
def f__law_lowest : Z.Fd := ⟨1, 3, b__law_lowest, true⟩
def b__law_size : Z.S := (.seq (.set 1 (.int 1)) (.seq (.for_ (.nm 2) (.rng1 (.var 0)) (.seq (.set 1 (.bop .mul (.var 1) (.int 2))) .skip)) (.seq (.ret (.var 1)) .skip)))
def f__law_size : Z.Fd := ⟨1, 3, b__law_size, true⟩
def b__law_sum : Z.S := (.seq (.ret (.call 64 (.cons (.bop .add (.tup (.cons (.bop .mul (.ix (.var 0) (.int 0)) (.ix (.var 1) (.int 0))) .nil)) (.bcall .tuple (.cons (.comp [3, 4] (.bop .add (.bop .mul (.var 3) (.ix (.var 1) (.int 0))) (.bop .mul (.bop .mul (.var 2) (.var 4)) (.ix (.var 0) (.int 0)))) (.tp (.cons (.nm 3) (.cons (.nm 4) .nil))) (.zip (.slc (.var 0) (.int 1) .nop) (.slc (.var 1) (.int 1) .nop)) (.bl true)) .nil))) .nil))) .skip)
def f__law_sum : Z.Fd := ⟨3, 5, b__law_sum, true⟩
def b__law_product : Z.S := (.seq (.ifs (.cmp .eq (.bcall .len (.cons (.var 1) .nil)) (.int 2)) (.seq (.ret (.call 64 (.cons (.tup (.cons (.bop .mul (.ix (.var 1) (.int 0)) (.ix (.var 2) (.int 0))) (.cons (.bop .mul (.ix (.var 1) (.int 1)) (.ix (.var 2) (.int 1))) .nil))) .nil))) .skip) .skip) (.seq (.par [3, 4] (.cons (.bcall .int (.cons (.bop .fdiv (.bop .sub (.bcall .len (.cons (.var 1) .nil)) (.int 1)) (.int 2)) .nil)) (.cons (.int 0) .nil))) (.seq (.for_ (.nm 5) (.rng1 (.int 9)) (.seq (.ifs (.cmp .lt (.call 65 (.cons (.var 4) .nil)) (.var 3)) (.seq (.set 4 (.bop .add (.var 4) (.int 1))) .skip) .skip) .skip)) (.seq (.unp (.tp (.cons (.nm 6) (.cons (.nm 7) (.cons (.nm 8) (.cons (.nm 9) .nil))))) (.comp [10, 11] (.call 64 (.cons (.bop .add (.tup (.cons (.ix (.var 10) (.int 0)) .nil)) (.var 11)) .nil)) (.tp (.cons (.nm 10) (.cons (.nm 11) .nil))) (.lst (.cons (.tup (.cons (.var 1) (.cons (.slc (.var 1) (.int 1) (.bop .add (.int 1) (.var 3))) .nil))) (.cons (.tup (.cons (.var 1) (.cons (.slc (.var 1) (.bop .add (.int 1) (.var 3)) .nop) .nil))) (.cons (.tup (.cons (.var 2) (.cons (.slc (.var 2) (.int 1) (.bop .add (.int 1) (.var 3))) .nil))) (.cons (.tup (.cons (.var 2) (.cons (.slc (.var 2) (.bop .add (.int 1) (.var 3)) .nop) .nil))) .nil))))) (.bl true))) (.seq (.set 12 (.call 67 (.cons (.var 0) (.cons (.call 67 (.cons (.var 0) (.cons (.var 7) (.cons (.var 9) .nil)))) (.cons (.ix (.var 0) (.var 4)) .nil))))) (.seq (.set 13 (.call 66 (.cons (.call 67 (.cons (.var 0) (.cons (.var 6) (.cons (.var 8) .nil)))) (.cons (.var 12) (.cons (.int 1) .nil))))) (.seq (.set 14 (.call 66 (.cons (.call 67 (.cons (.var 0) (.cons (.var 6) (.cons (.var 9) .nil)))) (.cons (.call 67 (.cons (.var 0) (.cons (.var 7) (.cons (.var 8) .nil)))) (.cons (.int 1) .nil))))) (.seq (.ret (.call 64 (.cons (.bop .add (.bop .add (.tup (.cons (.bop .mul (.ix (.var 13) (.int 0)) (.ix (.var 14) (.int 0))) .nil)) (.bcall .tuple (.cons (.comp [15] (.bop .mul (.var 15) (.ix (.var 14) (.int 0))) (.nm 15) (.slc (.var 13) (.int 1) .nop) (.bl true)) .nil))) (.bcall .tuple (.cons (.comp [15] (.bop .mul (.var 15) (.ix (.var 13) (.int 0))) (.nm 15) (.slc (.var 14) (.int 1) .nop) (.bl true)) .nil))) .nil))) .skip))))))))
def f__law_product : Z.Fd := ⟨3, 16, b__law_product, true⟩
def b__law_root_below : Z.S := (.seq (.ifs (.cmp .lt (.var 0) (.int 2)) (.seq (.ret (.var 0)) .skip) .skip) (.seq (.set 1 (.var 0)) (.seq (.for_ (.nm 2) (.rng1 (.int 3000)) (.seq (.set 3 (.bcall .int (.cons (.bop .fdiv (.bop .add (.var 1) (.bcall .int (.cons (.bop .fdiv (.var 0) (.var 1)) .nil))) (.int 2)) .nil))) (.seq (.ifs (.cmp .ge (.var 3) (.var 1)) (.seq .brk .skip) .skip) (.seq (.set 1 (.var 3)) .skip)))) (.seq (.ret (.var 1)) .skip))))
def f__law_root_below : Z.Fd := ⟨1, 4, b__law_root_below, true⟩
def b__law_near : Z.S := (.seq (.set 2 (.allo (.lst .nil))) (.seq (.for_ (.nm 3) (.var 0) (.seq (.expr (.bm .append (.var 2) (.cons (.call 68 (.cons (.bop .mul (.bcall .max (.cons (.int 0) (.cons (.call 70 (.cons (.var 2) (.cons (.var 3) (.cons (.var 1) .nil)))) .nil))) (.var 1)) .nil)) .nil))) .skip)) (.seq (.ret (.var 2)) .skip)))
def f__law_near : Z.Fd := ⟨2, 4, b__law_near, false⟩
def b__law_worth : Z.S := (.seq (.set 3 (.lst (.cons (.var 2) .nil))) (.seq (.for_ (.nm 4) (.var 0) (.seq (.set 3 (.bop .add (.var 3) (.comp [5] (.bcall .int (.cons (.bop .fdiv (.bop .mul (.var 5) (.var 4)) (.var 2)) .nil)) (.nm 5) (.var 3) (.bl true)))) .skip)) (.seq (.ret (.bcall .int (.cons (.bop .fdiv (.bcall .sum (.cons (.comp [6, 5] (.bop .mul (.var 6) (.var 5)) (.tp (.cons (.nm 6) (.cons (.nm 5) .nil))) (.zip (.slc (.var 1) (.int 1) .nop) (.var 3)) (.bl true)) .nil)) (.ix (.var 1) (.int 0))) .nil))) .skip)))
def f__law_worth : Z.Fd := ⟨3, 7, b__law_worth, true⟩
def b__law_twos : Z.S := (.seq (.set 3 (.allo (.lst (.cons (.tup (.cons (.int 1) (.cons (.var 1) .nil))) .nil)))) (.seq (.for_ (.nm 4) (.rng2 (.int 1) (.var 0)) (.seq (.set 5 (.call 65 (.cons (.bop .sub (.var 4) (.int 1)) .nil))) (.seq (.expr (.bm .append (.var 3) (.cons (.bop .add (.bop .add (.bop .add (.tup (.cons (.int 1) (.cons (.var 1) .nil))) (.bop .mul (.tup (.cons (.int 0) .nil)) (.bop .sub (.var 5) (.int 1)))) (.tup (.cons (.var 2) .nil))) (.bop .mul (.tup (.cons (.int 0) .nil)) (.bop .sub (.var 5) (.int 1)))) .nil))) .skip))) (.seq (.ret (.bcall .tuple (.cons (.var 3) .nil))) .skip)))
def f__law_twos : Z.Fd := ⟨3, 6, b__law_twos, true⟩
def b_law : Z.S := (.seq (.set 1 (.call 60 (.cons (.var 0) .nil))) (.seq (.for_ (.nm 2) (.rng1 (.int 2)) (.drop [false, true, false, false, false, false, false, false, false, false, false, false, false, false, false, true, false, false, false, false, false] (.seq (.par [3, 4] (.cons (.bop .add (.int 2) (.call 61 (.cons (.var 1) (.cons (.int 3) .nil)))) (.cons (.bop .add (.int 2) (.call 61 (.cons (.var 1) (.cons (.int 2) .nil)))) .nil))) (.seq (.set 5 (.call 62 (.cons (.var 1) (.cons (.lst (.cons (.int 1) (.cons (.int 1) (.cons (.neg (.int 1)) .nil)))) .nil)))) (.seq (.set 6 (.call 71 (.cons (.var 3) (.cons (.var 4) (.cons (.var 5) .nil))))) (.seq (.ifs (.cmp .isn (.call 40 (.cons (.var 6) .nil)) (.bl true)) (.seq (.ret (.bl false)) .skip) .skip) (.seq (.set 7 (.bop .pow (.int 10) (.int 60))) (.seq (.set 8 (.call 69 (.cons (.var 6) (.cons (.var 7) .nil)))) (.seq (.set 9 (.call 33 (.cons (.var 6) (.cons (.int 12) .nil)))) (.seq (.ifs (.or (.cmp .is (.var 9) .non) (.cmp .isn (.call 31 (.cons (.var 6) (.cons (.var 9) .nil))) (.bl true))) (.seq (.ret (.bl false)) .skip) .skip) (.seq (.for_ (.nm 10) (.rng1 (.var 3)) (.seq (.par [11, 12] (.cons (.slc (.ix (.var 9) (.var 10)) .nop (.int 2)) (.cons (.slc (.ix (.var 9) (.var 10)) (.int 2) .nop) .nil))) (.seq (.ifs (.or (.not (.cmp .le (.bop .mul (.ix (.var 11) (.int 0)) (.var 7)) (.bop .mul (.bop .add (.ix (.var 8) (.var 10)) (.int 1)) (.ix (.var 11) (.int 1))))) (.not (.cmp .le (.bop .mul (.ix (.var 8) (.var 10)) (.ix (.var 12) (.int 1))) (.bop .mul (.ix (.var 12) (.int 0)) (.var 7))))) (.seq (.ret (.bl false)) .skip) .skip) .skip))) (.seq (.set 13 (.bop .add (.bop .add (.bop .add (.tup (.cons (.int 1) .nil)) (.bop .mul (.tup (.cons (.int 0) .nil)) (.call 65 (.cons (.bop .sub (.var 3) (.int 1)) .nil)))) (.tup (.cons (.int 1) .nil))) (.bop .mul (.tup (.cons (.int 0) .nil)) (.bop .sub (.call 65 (.cons (.bop .sub (.var 3) (.int 1)) .nil)) (.int 1))))) (.seq (.ifs (.or (.cmp .ne (.call 37 (.cons (.var 6) (.cons (.call 67 (.cons (.var 6) (.cons (.var 13) (.cons (.var 13) .nil)))) .nil))) (.var 13)) (.cmp .ne (.call 23 (.cons (.var 6) (.cons (.var 13) .nil))) (.int 1))) (.seq (.ret (.bl false)) .skip) .skip) (.seq (.for_ (.nm 10) (.rng2 (.int 1) (.var 3)) (.seq (.set 14 (.bop .add (.tup (.cons (.int 1) .nil)) (.bcall .tuple (.cons (.comp [15] (.bcall .int (.cons (.cmp .eq (.var 15) (.call 65 (.cons (.bop .sub (.var 10) (.int 1)) .nil))) .nil)) (.nm 15) (.rng1 (.call 65 (.cons (.var 3) .nil))) (.bl true)) .nil)))) (.seq (.set 16 (.bop .add (.tup (.cons (.int 1) .nil)) (.bcall .tuple (.cons (.comp [15] (.bcall .int (.cons (.cmp .eq (.var 15) (.call 65 (.cons (.var 10) .nil))) .nil)) (.nm 15) (.rng1 (.call 65 (.cons (.var 3) .nil))) (.bl true)) .nil)))) (.seq (.ifs (.cmp .ne (.call 24 (.cons (.var 6) (.cons (.var 14) (.cons (.var 16) .nil)))) (.ife (.cmp .gt (.ix (.var 8) (.bop .sub (.var 10) (.int 1))) (.ix (.var 8) (.var 10))) (.int 1) (.neg (.int 1)))) (.seq (.ret (.bl false)) .skip) .skip) .skip)))) (.seq (.ifs (.cmp .lt (.var 3) (.int 4)) (.seq (.set 17 (.call 57 (.cons (.var 6) (.cons (.var 13) .nil)))) (.seq (.ifs (.or (.cmp .is (.var 17) .non) (.cmp .isn (.call 58 (.cons (.var 6) (.cons (.var 13) (.cons (.var 17) .nil)))) (.bl true))) (.seq (.ret (.bl false)) .skip) .skip) (.seq (.set 18 (.bop .add (.tup (.cons (.int 1) (.cons (.int 0) (.cons (.int 1) .nil)))) (.bop .mul (.tup (.cons (.int 0) .nil)) (.bop .sub (.call 65 (.cons (.var 3) .nil)) (.int 2))))) (.seq (.ifs (.call 58 (.cons (.var 6) (.cons (.var 18) (.cons (.var 17) .nil)))) (.seq (.ret (.bl false)) .skip) .skip) (.seq (.set 19 (.ix (.var 17) (.int 1))) (.seq (.ifs (.or (.cmp .isn (.call 50 (.cons (.var 6) (.cons (.var 19) .nil))) (.bl true)) (.cmp .eq (.call 59 (.cons (.var 6) (.cons (.var 19) (.cons (.var 13) (.cons (.bop .mul (.var 19) (.var 19)) .nil))))) (.call 59 (.cons (.var 6) (.cons (.var 19) (.cons (.var 13) (.cons (.int 1) .nil))))))) (.seq (.ret (.bl false)) .skip) .skip) .skip)))))) .skip) (.seq (.for_ (.nm 19) (.lst (.cons (.int 7) (.cons (.int 17) (.cons (.int 31) .nil)))) (.seq (.for_ (.nm 20) (.call 53 (.cons (.var 6) (.cons (.var 19) .nil))) (.seq (.ifs (.or (.cmp .ne (.bop .mod (.bcall .int (.cons (.bop .mul (.ix (.var 20) (.int 0)) (.ix (.var 20) (.int 0))) .nil)) (.var 19)) (.bop .mod (.var 4) (.var 19))) (.cmp .ne (.bcall .len (.cons (.var 20) .nil)) (.var 3))) (.seq (.ret (.bl false)) .skip) .skip) .skip)) .skip)) .skip)))))))))))))))) (.seq (.ret (.bl true)) .skip)))
def f_law : Z.Fd := ⟨1, 21, b_law, true⟩
def PT : Z.Bt Z.Fd := (.nd 35 f_some_root (.nd 17 f_norm_in (.nd 8 f_whole_in (.nd 4 f_is_tower_form (.nd 2 f_is_element_in (.nd 1 f_is_count (.nd 0 f_is_whole .lf .lf) .lf) (.nd 3 f_common .lf .lf)) (.nd 6 f_need_element (.nd 5 f_need_tower .lf .lf) (.nd 7 f_lowest_in .lf .lf))) (.nd 13 f_halves_in (.nd 11 f_other_in (.nd 10 f_plus_in (.nd 9 f_is_nought_in .lf .lf) .lf) (.nd 12 f_minus_in .lf .lf)) (.nd 15 f_times_in (.nd 14 f_joined_in .lf .lf) (.nd 16 f_turned_in .lf .lf)))) (.nd 26 f_lowest (.nd 22 f_sign_in (.nd 20 f_lifted_in (.nd 19 f_over_in (.nd 18 f_inverse_in .lf .lf) .lf) (.nd 21 f_need_two .lf .lf)) (.nd 24 f_order (.nd 23 f_sign .lf .lf) (.nd 25 f_root_below .lf .lf))) (.nd 31 f_are_bounds (.nd 29 f_is_bound (.nd 28 f_span_in (.nd 27 f_products .lf .lf) .lf) (.nd 30 f_are_bounds_in .lf .lf)) (.nd 33 f_bounds (.nd 32 f_bounds_in .lf .lf) (.nd 34 f_whole_root .lf .lf))))) (.nd 53 f_all_rests (.nd 44 f_in_ring (.nd 40 f_is_tower (.nd 38 f_bar_in (.nd 37 f_square_root (.nd 36 f_root_in .lf .lf) .lf) (.nd 39 f_tower_bar .lf .lf)) (.nd 42 f_need_prime (.nd 41 f_is_odd_prime .lf .lf) (.nd 43 f_inverse .lf .lf))) (.nd 49 f_fits_in (.nd 47 f_ring_power (.nd 46 f_ring_times (.nd 45 f_ring_of .lf .lf) .lf) (.nd 48 f_ring_norm .lf .lf)) (.nd 51 f_led (.nd 50 f_fits .lf .lf) (.nd 52 f_rests_in .lf .lf)))) (.nd 64 f__law_lowest (.nd 58 f_is_nested_paper (.nd 56 f_is_nested_in (.nd 55 f_nested_in (.nd 54 f_moves_in .lf .lf) .lf) (.nd 57 f_nested_paper .lf .lf)) (.nd 62 f__law_pick (.nd 59 f_power_in_ring .lf .lf) (.nd 63 f__law_gcd .lf .lf))) (.nd 69 f__law_near (.nd 67 f__law_product (.nd 66 f__law_sum (.nd 65 f__law_size .lf .lf) .lf) (.nd 68 f__law_root_below .lf .lf)) (.nd 71 f__law_twos (.nd 70 f__law_worth .lf .lf) (.nd 72 f_law .lf .lf))))))
def P : Nat → Option Z.Fd := Z.bt PT
def C : Nat → Option Z.D
  | 73 => some (.int 4)
  | 74 => some (.int 10000)
  | _ => none
noncomputable section
open Z
def q_is_whole : Z.Fn → Z.Es := fun F => (sSeq (sRet (cAnd (cUn (isiQ .int) (cVar 0)) (cUn notQ (cUn (isiQ .bool) (cVar 0))))) sSkip)
def e_is_whole : Z.Fq := ⟨1, 1, q_is_whole, true⟩
def q_is_count : Z.Fn → Z.Es := fun F => (sSeq (sRet (cAnd (cCall F 0 (cCons (cVar 0) (cK (.tup [])))) (cBin (relQ .ge geZ) (cVar 0) (cK (.int 0))))) sSkip)
def e_is_count : Z.Fq := ⟨1, 1, q_is_count, true⟩
def q_is_element_in : Z.Fn → Z.Es := fun F => (sSeq (sIf (cOr (cUn notQ (cUn (isiQ .tuple) (cVar 1))) (cOr (cBin (relQ .ne neZ) (cUn (on1 biLen) (cCons (cVar 1) (cK (.tup [])))) (cBin addQ (cK (.int 1)) (cBin (genQ .shl) (cK (.int 1)) (cVar 0)))) (cUn notQ (cUn (on1 (biGen .all)) (cCons (cComp [2] (cCall F 0 (cCons (cVar 2) (cK (.tup [])))) (gNm 2) .b (cVar 1) (cK (.bl true))) (cK (.tup []))))))) (sSeq (sRet (cK (.bl false))) sSkip) sSkip) (sSeq (sRet (cAnd (cBin (relQ .gt gtZ) (cBin ixQ (cVar 1) (cK (.int 0))) (cK (.int 0))) (cBin (relQ .eq eqZ) (cUn (on1 biGcd) (cCons (cBin ixQ (cVar 1) (cK (.int 0))) (cCons (cCall F 3 (cCons (cSlc false true (cVar 1) (cK (.int 1)) (cK .non)) (cK (.tup [])))) (cK (.tup []))))) (cK (.int 1))))) sSkip))
def e_is_element_in : Z.Fq := ⟨2, 3, q_is_element_in, true⟩
def q_common : Z.Fn → Z.Es := fun F => (sSeq (sSet 1 (cK (.int 0))) (sSeq (sFor (gNm 2) .b (cVar 0) (sSeq (sSet 1 (cUn (on1 biGcd) (cCons (cVar 1) (cCons (cVar 2) (cK (.tup [])))))) sSkip)) (sSeq (sRet (cVar 1)) sSkip)))
def e_common : Z.Fq := ⟨1, 3, q_common, true⟩
def q_is_tower_form : Z.Fn → Z.Es := fun F => (sSeq (sIf (cOr (cUn notQ (cUn (isiQ .tuple) (cVar 0))) (cBin (relQ .gt gtZ) (cUn (on1 biLen) (cCons (cVar 0) (cK (.tup [])))) (cGlb (C 73)))) (sSeq (sRet (cK (.bl false))) sSkip) sSkip) (sSeq (sRet (cUn (on1 (biGen .all)) (cCons (cComp [1, 2] (cCall F 2 (cCons (cVar 1) (cCons (cVar 2) (cK (.tup []))))) (gTp (gCons (gNm 1) (gCons (gNm 2) gNil))) .en (cUn enumQ (cVar 0)) (cK (.bl true))) (cK (.tup []))))) sSkip))
def e_is_tower_form : Z.Fq := ⟨1, 3, q_is_tower_form, true⟩
def q_need_tower : Z.Fn → Z.Es := fun F => (sSeq (sIf (cUn notQ (cCall F 4 (cCons (cVar 0) (cK (.tup []))))) (sSeq sNever sSkip) sSkip) sSkip)
def e_need_tower : Z.Fq := ⟨1, 1, q_need_tower, true⟩
def q_need_element : Z.Fn → Z.Es := fun F => (sSeq (sIf (cUn notQ (cCall F 2 (cCons (cUn (on1 biLen) (cCons (cVar 0) (cK (.tup [])))) (cCons (cVar 1) (cK (.tup [])))))) (sSeq sNever sSkip) sSkip) sSkip)
def e_need_element : Z.Fq := ⟨2, 2, q_need_element, true⟩
def q_lowest_in : Z.Fn → Z.Es := fun F => (sSeq (sSet 1 (cUn (on1 biGcd) (cCons (cBin ixQ (cVar 0) (cK (.int 0))) (cCons (cCall F 3 (cCons (cSlc false true (cVar 0) (cK (.int 1)) (cK .non)) (cK (.tup [])))) (cK (.tup [])))))) (sSeq (sIf (cBin (relQ .lt ltZ) (cBin ixQ (cVar 0) (cK (.int 0))) (cK (.int 0))) (sSeq (sSet 1 (cUn negQ (cVar 1))) sSkip) sSkip) (sSeq (sRet (cUn (on1 biTup) (cCons (cComp [2] (cBin divQ (cVar 2) (cVar 1)) (gNm 2) .b (cVar 0) (cK (.bl true))) (cK (.tup []))))) sSkip)))
def e_lowest_in : Z.Fq := ⟨1, 3, q_lowest_in, true⟩
def q_whole_in : Z.Fn → Z.Es := fun F => (sSeq (sRet (cCall F 7 (cCons (cBin addQ (cCons (cVar 2) (cCons (cVar 1) (cK (.tup [])))) (cBin mulQ (cCons (cK (.int 0)) (cK (.tup []))) (cBin subQ (cBin (genQ .shl) (cK (.int 1)) (cVar 0)) (cK (.int 1))))) (cK (.tup []))))) sSkip)
def e_whole_in : Z.Fq := ⟨3, 3, q_whole_in, true⟩
def q_is_nought_in : Z.Fn → Z.Es := fun F => (sSeq (sRet (cUn notQ (cUn (on1 (biGen .any)) (cCons (cSlc false true (cVar 0) (cK (.int 1)) (cK .non)) (cK (.tup [])))))) sSkip)
def e_is_nought_in : Z.Fq := ⟨1, 1, q_is_nought_in, true⟩
def q_plus_in : Z.Fn → Z.Es := fun F => (sSeq (sSet 2 (cUn alloQ (cUn lstQ (cCons (cBin mulQ (cBin ixQ (cVar 0) (cK (.int 0))) (cBin ixQ (cVar 1) (cK (.int 0)))) (cK (.tup [])))))) (sSeq (sExpr (cBm .extend (cVar 2) (cCons (cComp [3, 4] (cBin addQ (cBin mulQ (cVar 3) (cBin ixQ (cVar 1) (cK (.int 0)))) (cBin mulQ (cVar 4) (cBin ixQ (cVar 0) (cK (.int 0))))) (gTp (gCons (gNm 3) (gCons (gNm 4) gNil))) .zp (cBin zipQ (cSlc false true (cVar 0) (cK (.int 1)) (cK .non)) (cSlc false true (cVar 1) (cK (.int 1)) (cK .non))) (cK (.bl true))) (cK (.tup []))))) (sSeq (sRet (cCall F 7 (cCons (cUn (on1 biTup) (cCons (cVar 2) (cK (.tup [])))) (cK (.tup []))))) sSkip)))
def e_plus_in : Z.Fq := ⟨2, 5, q_plus_in, true⟩
def q_other_in : Z.Fn → Z.Es := fun F => (sSeq (sRet (cBin addQ (cSlc true false (cVar 0) (cK .non) (cK (.int 1))) (cUn (on1 biTup) (cCons (cComp [1] (cUn negQ (cVar 1)) (gNm 1) .b (cSlc false true (cVar 0) (cK (.int 1)) (cK .non)) (cK (.bl true))) (cK (.tup [])))))) sSkip)
def e_other_in : Z.Fq := ⟨1, 2, q_other_in, true⟩
def q_minus_in : Z.Fn → Z.Es := fun F => (sSeq (sRet (cCall F 10 (cCons (cVar 0) (cCons (cCall F 11 (cCons (cVar 1) (cK (.tup [])))) (cK (.tup [])))))) sSkip)
def e_minus_in : Z.Fq := ⟨2, 2, q_minus_in, true⟩
def q_halves_in : Z.Fn → Z.Es := fun F => (sSeq (sSet 1 (cBin divQ (cBin subQ (cUn (on1 biLen) (cCons (cVar 0) (cK (.tup [])))) (cK (.int 1))) (cK (.int 2)))) (sSeq (sRet (cCons (cCall F 7 (cCons (cBin addQ (cSlc true false (cVar 0) (cK .non) (cK (.int 1))) (cSlc false false (cVar 0) (cK (.int 1)) (cBin addQ (cK (.int 1)) (cVar 1)))) (cK (.tup [])))) (cCons (cCall F 7 (cCons (cBin addQ (cSlc true false (cVar 0) (cK .non) (cK (.int 1))) (cSlc false true (cVar 0) (cBin addQ (cK (.int 1)) (cVar 1)) (cK .non))) (cK (.tup [])))) (cK (.tup []))))) sSkip))
def e_halves_in : Z.Fq := ⟨1, 2, q_halves_in, true⟩
def q_joined_in : Z.Fn → Z.Es := fun F => (sSeq (sUnp (gTp (gCons (gNm 2) (gCons (gNm 3) gNil))) (cCons (cBin divQ (cBin mulQ (cBin ixQ (cVar 0) (cK (.int 0))) (cBin ixQ (cVar 1) (cK (.int 0)))) (cUn (on1 biGcd) (cCons (cBin ixQ (cVar 0) (cK (.int 0))) (cCons (cBin ixQ (cVar 1) (cK (.int 0))) (cK (.tup [])))))) (cCons (cUn alloQ (cUn lstQ (cK (.tup [])))) (cK (.tup []))))) (sSeq (sExpr (cBm .extend (cVar 3) (cCons (cComp [4] (cBin mulQ (cVar 4) (cBin divQ (cVar 2) (cBin ixQ (cVar 0) (cK (.int 0))))) (gNm 4) .b (cSlc false true (cVar 0) (cK (.int 1)) (cK .non)) (cK (.bl true))) (cK (.tup []))))) (sSeq (sExpr (cBm .extend (cVar 3) (cCons (cComp [4] (cBin mulQ (cVar 4) (cBin divQ (cVar 2) (cBin ixQ (cVar 1) (cK (.int 0))))) (gNm 4) .b (cSlc false true (cVar 1) (cK (.int 1)) (cK .non)) (cK (.bl true))) (cK (.tup []))))) (sSeq (sRet (cCall F 7 (cCons (cBin addQ (cCons (cVar 2) (cK (.tup []))) (cUn (on1 biTup) (cCons (cVar 3) (cK (.tup []))))) (cK (.tup []))))) sSkip))))
def e_joined_in : Z.Fq := ⟨2, 5, q_joined_in, true⟩
def q_times_in : Z.Fn → Z.Es := fun F => (sSeq (sIf (cBin (relQ .eq eqZ) (cUn (on1 biLen) (cCons (cVar 1) (cK (.tup [])))) (cK (.int 2))) (sSeq (sRet (cCall F 7 (cCons (cCons (cBin mulQ (cBin ixQ (cVar 1) (cK (.int 0))) (cBin ixQ (cVar 2) (cK (.int 0)))) (cCons (cBin mulQ (cBin ixQ (cVar 1) (cK (.int 1))) (cBin ixQ (cVar 2) (cK (.int 1)))) (cK (.tup [])))) (cK (.tup []))))) sSkip) sSkip) (sSeq (sSet 3 (cBin subQ (cBm .bitlen (cBin subQ (cUn (on1 biLen) (cCons (cVar 1) (cK (.tup [])))) (cK (.int 1))) (cK (.tup []))) (cK (.int 1)))) (sSeq (sUnp (gTp (gCons (gTp (gCons (gNm 4) (gCons (gNm 5) gNil))) (gCons (gTp (gCons (gNm 6) (gCons (gNm 7) gNil))) gNil))) (cCons (cCall F 13 (cCons (cVar 1) (cK (.tup [])))) (cCons (cCall F 13 (cCons (cVar 2) (cK (.tup [])))) (cK (.tup []))))) (sSeq (sSet 8 (cCall F 15 (cCons (cVar 0) (cCons (cVar 4) (cCons (cVar 6) (cK (.tup []))))))) (sSeq (sIf (cAnd (cUn notQ (cCall F 9 (cCons (cVar 5) (cK (.tup []))))) (cUn notQ (cCall F 9 (cCons (cVar 7) (cK (.tup [])))))) (sSeq (sSet 8 (cCall F 10 (cCons (cVar 8) (cCons (cCall F 15 (cCons (cVar 0) (cCons (cCall F 15 (cCons (cVar 0) (cCons (cVar 5) (cCons (cVar 7) (cK (.tup [])))))) (cCons (cBin ixQ (cVar 0) (cBin subQ (cVar 3) (cK (.int 1)))) (cK (.tup [])))))) (cK (.tup [])))))) sSkip) sSkip) (sSeq (sRet (cCall F 14 (cCons (cVar 8) (cCons (cCall F 10 (cCons (cCall F 15 (cCons (cVar 0) (cCons (cVar 4) (cCons (cVar 7) (cK (.tup [])))))) (cCons (cCall F 15 (cCons (cVar 0) (cCons (cVar 5) (cCons (cVar 6) (cK (.tup [])))))) (cK (.tup []))))) (cK (.tup [])))))) sSkip))))))
def e_times_in : Z.Fq := ⟨3, 9, q_times_in, true⟩
def q_turned_in : Z.Fn → Z.Es := fun F => (sSeq (sSet 1 (cBin divQ (cBin subQ (cUn (on1 biLen) (cCons (cVar 0) (cK (.tup [])))) (cK (.int 1))) (cK (.int 2)))) (sSeq (sRet (cBin addQ (cSlc true false (cVar 0) (cK .non) (cBin addQ (cK (.int 1)) (cVar 1))) (cUn (on1 biTup) (cCons (cComp [2] (cUn negQ (cVar 2)) (gNm 2) .b (cSlc false true (cVar 0) (cBin addQ (cK (.int 1)) (cVar 1)) (cK .non)) (cK (.bl true))) (cK (.tup [])))))) sSkip))
def e_turned_in : Z.Fq := ⟨1, 3, q_turned_in, true⟩
def q_norm_in : Z.Fn → Z.Es := fun F => (sSeq (sRet (cBin ixQ (cCall F 13 (cCons (cCall F 15 (cCons (cVar 0) (cCons (cVar 1) (cCons (cCall F 16 (cCons (cVar 1) (cK (.tup [])))) (cK (.tup [])))))) (cK (.tup [])))) (cK (.int 0)))) sSkip)
def e_norm_in : Z.Fq := ⟨2, 2, q_norm_in, true⟩
def q_inverse_in : Z.Fn → Z.Es := fun F => (sSeq (sIf (cBin (relQ .eq eqZ) (cUn (on1 biLen) (cCons (cVar 1) (cK (.tup [])))) (cK (.int 2))) (sSeq (sRet (cCall F 7 (cCons (cCons (cBin ixQ (cVar 1) (cK (.int 1))) (cCons (cBin ixQ (cVar 1) (cK (.int 0))) (cK (.tup [])))) (cK (.tup []))))) sSkip) sSkip) (sSeq (sUnp (gTp (gCons (gNm 2) (gCons (gNm 3) gNil))) (cCall F 13 (cCons (cCall F 16 (cCons (cVar 1) (cK (.tup [])))) (cK (.tup []))))) (sSeq (sSet 4 (cCall F 18 (cCons (cVar 0) (cCons (cCall F 17 (cCons (cVar 0) (cCons (cVar 1) (cK (.tup []))))) (cK (.tup [])))))) (sSeq (sRet (cCall F 14 (cCons (cCall F 15 (cCons (cVar 0) (cCons (cVar 2) (cCons (cVar 4) (cK (.tup [])))))) (cCons (cCall F 15 (cCons (cVar 0) (cCons (cVar 3) (cCons (cVar 4) (cK (.tup [])))))) (cK (.tup [])))))) sSkip))))
def e_inverse_in : Z.Fq := ⟨2, 5, q_inverse_in, true⟩
def q_over_in : Z.Fn → Z.Es := fun F => (sSeq (sRet (cCall F 15 (cCons (cVar 0) (cCons (cVar 1) (cCons (cCall F 18 (cCons (cVar 0) (cCons (cVar 2) (cK (.tup []))))) (cK (.tup []))))))) sSkip)
def e_over_in : Z.Fq := ⟨3, 3, q_over_in, true⟩
def q_lifted_in : Z.Fn → Z.Es := fun F => (sSeq (sRet (cBin addQ (cVar 1) (cBin mulQ (cCons (cK (.int 0)) (cK (.tup []))) (cBin subQ (cBin addQ (cK (.int 1)) (cBin (genQ .shl) (cK (.int 1)) (cVar 0))) (cUn (on1 biLen) (cCons (cVar 1) (cK (.tup [])))))))) sSkip)
def e_lifted_in : Z.Fq := ⟨2, 2, q_lifted_in, true⟩
def q_need_two : Z.Fn → Z.Es := fun F => (sSeq (sExpr (cCall F 5 (cCons (cVar 0) (cK (.tup []))))) (sSeq (sExpr (cCall F 6 (cCons (cVar 0) (cCons (cVar 1) (cK (.tup [])))))) (sSeq (sExpr (cCall F 6 (cCons (cVar 0) (cCons (cVar 2) (cK (.tup [])))))) sSkip)))
def e_need_two : Z.Fq := ⟨3, 3, q_need_two, true⟩
def q_sign_in : Z.Fn → Z.Es := fun F => (sSeq (sIf (cBin (relQ .eq eqZ) (cUn (on1 biLen) (cCons (cVar 1) (cK (.tup [])))) (cK (.int 2))) (sSeq (sRet (cBin subQ (cBin (relQ .gt gtZ) (cBin ixQ (cVar 1) (cK (.int 1))) (cK (.int 0))) (cBin (relQ .lt ltZ) (cBin ixQ (cVar 1) (cK (.int 1))) (cK (.int 0))))) sSkip) sSkip) (sSeq (sSet 2 (cBin subQ (cBm .bitlen (cBin subQ (cUn (on1 biLen) (cCons (cVar 1) (cK (.tup [])))) (cK (.int 1))) (cK (.tup []))) (cK (.int 1)))) (sSeq (sUnp (gTp (gCons (gNm 3) (gCons (gNm 4) gNil))) (cCall F 13 (cCons (cVar 1) (cK (.tup []))))) (sSeq (sPar [5, 6] (cCons (cCall F 22 (cCons (cVar 0) (cCons (cVar 3) (cK (.tup []))))) (cCons (cCall F 22 (cCons (cVar 0) (cCons (cVar 4) (cK (.tup []))))) (cK (.tup []))))) (sSeq (sIf (cBin (relQ .ge geZ) (cBin mulQ (cVar 5) (cVar 6)) (cK (.int 0))) (sSeq (sRet (cOr (cVar 5) (cVar 6))) sSkip) sSkip) (sSeq (sSet 7 (cCall F 15 (cCons (cVar 0) (cCons (cCall F 15 (cCons (cVar 0) (cCons (cVar 4) (cCons (cVar 4) (cK (.tup [])))))) (cCons (cBin ixQ (cVar 0) (cBin subQ (cVar 2) (cK (.int 1)))) (cK (.tup []))))))) (sSeq (sRet (cBin mulQ (cVar 5) (cCall F 22 (cCons (cVar 0) (cCons (cCall F 12 (cCons (cCall F 15 (cCons (cVar 0) (cCons (cVar 3) (cCons (cVar 3) (cK (.tup [])))))) (cCons (cVar 7) (cK (.tup []))))) (cK (.tup []))))))) sSkip)))))))
def e_sign_in : Z.Fq := ⟨2, 8, q_sign_in, true⟩
def q_sign : Z.Fn → Z.Es := fun F => (sSeq (sExpr (cCall F 5 (cCons (cVar 0) (cK (.tup []))))) (sSeq (sExpr (cCall F 6 (cCons (cVar 0) (cCons (cVar 1) (cK (.tup [])))))) (sSeq (sRet (cCall F 22 (cCons (cVar 0) (cCons (cVar 1) (cK (.tup [])))))) sSkip)))
def e_sign : Z.Fq := ⟨2, 2, q_sign, true⟩
def q_order : Z.Fn → Z.Es := fun F => (sSeq (sExpr (cCall F 21 (cCons (cVar 0) (cCons (cVar 1) (cCons (cVar 2) (cK (.tup []))))))) (sSeq (sRet (cCall F 22 (cCons (cVar 0) (cCons (cCall F 12 (cCons (cVar 1) (cCons (cVar 2) (cK (.tup []))))) (cK (.tup [])))))) sSkip))
def e_order : Z.Fq := ⟨3, 3, q_order, true⟩
def q_root_below : Z.Fn → Z.Es := fun F => (sSeq (sIf (cBin (relQ .lt ltZ) (cVar 0) (cK (.int 2))) (sSeq (sRet (cVar 0)) sSkip) sSkip) (sSeq (sSet 1 (cBin (genQ .shl) (cK (.int 1)) (cBin divQ (cBin addQ (cBm .bitlen (cVar 0) (cK (.tup []))) (cK (.int 1))) (cK (.int 2))))) (sSeq (sWhl (cK (.bl true)) (sSeq (sSet 2 (cBin divQ (cBin addQ (cVar 1) (cBin divQ (cVar 0) (cVar 1))) (cK (.int 2)))) (sSeq (sIf (cBin (relQ .ge geZ) (cVar 2) (cVar 1)) (sSeq (sRet (cVar 1)) sSkip) sSkip) (sSeq (sSet 1 (cVar 2)) sSkip)))) sSkip)))
def e_root_below : Z.Fq := ⟨1, 3, q_root_below, true⟩
def q_lowest : Z.Fn → Z.Es := fun F => (sSeq (sSet 2 (cUn (on1 biGcd) (cCons (cVar 0) (cCons (cVar 1) (cK (.tup [])))))) (sSeq (sRet (cCons (cBin divQ (cVar 0) (cVar 2)) (cCons (cBin divQ (cVar 1) (cVar 2)) (cK (.tup []))))) sSkip))
def e_lowest : Z.Fq := ⟨2, 3, q_lowest, true⟩
def q_products : Z.Fn → Z.Es := fun F => (sSeq (sSet 1 (cUn alloQ (cUn lstQ (cCons (cCons (cCons (cK (.int 1)) (cCons (cK (.int 1)) (cK (.tup [])))) (cCons (cCons (cK (.int 1)) (cCons (cK (.int 1)) (cK (.tup [])))) (cK (.tup [])))) (cK (.tup [])))))) (sSeq (sFor (gTp (gCons (gNm 2) (gCons (gNm 3) (gCons (gNm 4) (gCons (gNm 5) gNil))))) .b (cVar 0) (sSeq (sExpr (cBm .extend (cVar 1) (cCons (cComp [6, 7] (cCons (cCons (cBin mulQ (cBin ixQ (cVar 6) (cK (.int 0))) (cVar 2)) (cCons (cBin mulQ (cBin ixQ (cVar 6) (cK (.int 1))) (cVar 3)) (cK (.tup [])))) (cCons (cCons (cBin mulQ (cBin ixQ (cVar 7) (cK (.int 0))) (cVar 4)) (cCons (cBin mulQ (cBin ixQ (cVar 7) (cK (.int 1))) (cVar 5)) (cK (.tup [])))) (cK (.tup [])))) (gTp (gCons (gNm 6) (gCons (gNm 7) gNil))) .b (cUn (on1 (biGen .list)) (cCons (cVar 1) (cK (.tup [])))) (cK (.bl true))) (cK (.tup []))))) sSkip)) (sSeq (sRet (cVar 1)) sSkip)))
def e_products : Z.Fq := ⟨1, 8, q_products, false⟩
def q_span_in : Z.Fn → Z.Es := fun F => (sSeq (sUnp (gTp (gCons (gNm 2) (gCons (gNm 3) gNil))) (cCons (cCons (cK (.int 0)) (cCons (cK (.int 1)) (cK (.tup [])))) (cCons (cCons (cK (.int 0)) (cCons (cK (.int 1)) (cK (.tup [])))) (cK (.tup []))))) (sSeq (sFor (gTp (gCons (gNm 4) (gCons (gNm 5) gNil))) .zp (cBin zipQ (cSlc false true (cVar 1) (cK (.int 1)) (cK .non)) (cCall F 27 (cCons (cVar 0) (cK (.tup []))))) (sSeq (sIf (cVar 4) (sSeq (sUnp (gTp (gCons (gNm 6) (gCons (gNm 7) gNil))) (cIfe (cBin (relQ .gt gtZ) (cVar 4) (cK (.int 0))) (cVar 5) (cUn revQ (cVar 5)))) (sSeq (sSet 2 (cCall F 26 (cCons (cBin addQ (cBin mulQ (cBin ixQ (cVar 2) (cK (.int 0))) (cBin ixQ (cVar 6) (cK (.int 1)))) (cBin mulQ (cBin mulQ (cVar 4) (cBin ixQ (cVar 6) (cK (.int 0)))) (cBin ixQ (cVar 2) (cK (.int 1))))) (cCons (cBin mulQ (cBin ixQ (cVar 2) (cK (.int 1))) (cBin ixQ (cVar 6) (cK (.int 1)))) (cK (.tup [])))))) (sSeq (sSet 3 (cCall F 26 (cCons (cBin addQ (cBin mulQ (cBin ixQ (cVar 3) (cK (.int 0))) (cBin ixQ (cVar 7) (cK (.int 1)))) (cBin mulQ (cBin mulQ (cVar 4) (cBin ixQ (cVar 7) (cK (.int 0)))) (cBin ixQ (cVar 3) (cK (.int 1))))) (cCons (cBin mulQ (cBin ixQ (cVar 3) (cK (.int 1))) (cBin ixQ (cVar 7) (cK (.int 1)))) (cK (.tup [])))))) sSkip))) sSkip) sSkip)) (sSeq (sRet (cCons (cCall F 26 (cCons (cBin ixQ (cVar 2) (cK (.int 0))) (cCons (cBin mulQ (cBin ixQ (cVar 2) (cK (.int 1))) (cBin ixQ (cVar 1) (cK (.int 0)))) (cK (.tup []))))) (cCons (cCall F 26 (cCons (cBin ixQ (cVar 3) (cK (.int 0))) (cCons (cBin mulQ (cBin ixQ (cVar 3) (cK (.int 1))) (cBin ixQ (cVar 1) (cK (.int 0)))) (cK (.tup []))))) (cK (.tup []))))) sSkip)))
def e_span_in : Z.Fq := ⟨2, 8, q_span_in, true⟩
def q_is_bound : Z.Fn → Z.Es := fun F => (sSeq (sIf (cOr (cUn notQ (cUn (isiQ .tuple) (cVar 0))) (cOr (cBin (relQ .ne neZ) (cUn (on1 biLen) (cCons (cVar 0) (cK (.tup [])))) (cK (.int 4))) (cUn notQ (cUn (on1 (biGen .all)) (cCons (cComp [1] (cAnd (cCall F 0 (cCons (cVar 1) (cK (.tup [])))) (cBin (relQ .gt gtZ) (cVar 1) (cK (.int 0)))) (gNm 1) .b (cVar 0) (cK (.bl true))) (cK (.tup []))))))) (sSeq (sRet (cK (.bl false))) sSkip) sSkip) (sSeq (sUnp (gTp (gCons (gNm 2) (gCons (gNm 3) (gCons (gNm 4) (gCons (gNm 5) gNil))))) (cVar 0)) (sSeq (sRet (cAnd (cBin (relQ .eq eqZ) (cUn (on1 biGcd) (cCons (cVar 2) (cCons (cVar 3) (cK (.tup []))))) (cK (.int 1))) (cAnd (cBin (relQ .eq eqZ) (cUn (on1 biGcd) (cCons (cVar 4) (cCons (cVar 5) (cK (.tup []))))) (cK (.int 1))) (cBin (relQ .le leZ) (cBin mulQ (cVar 2) (cVar 5)) (cBin mulQ (cVar 4) (cVar 3)))))) sSkip)))
def e_is_bound : Z.Fq := ⟨1, 6, q_is_bound, true⟩
def q_are_bounds_in : Z.Fn → Z.Es := fun F => (sSeq (sIf (cOr (cUn notQ (cUn (isiQ .tuple) (cVar 1))) (cOr (cBin (relQ .ne neZ) (cUn (on1 biLen) (cCons (cVar 1) (cK (.tup [])))) (cUn (on1 biLen) (cCons (cVar 0) (cK (.tup []))))) (cUn notQ (cUn (on1 (biGen .all)) (cCons (cComp [2] (cCall F 29 (cCons (cVar 2) (cK (.tup [])))) (gNm 2) .b (cVar 1) (cK (.bl true))) (cK (.tup []))))))) (sSeq (sRet (cK (.bl false))) sSkip) sSkip) (sSeq (sFor (gTp (gCons (gNm 3) (gCons (gTp (gCons (gNm 4) (gCons (gNm 5) (gCons (gNm 6) (gCons (gNm 7) gNil))))) gNil))) .en (cUn enumQ (cVar 1)) (sSeq (sUnp (gTp (gCons (gNm 8) (gCons (gNm 9) gNil))) (cCall F 28 (cCons (cSlc true false (cVar 1) (cK .non) (cVar 3)) (cCons (cBin ixQ (cVar 0) (cVar 3)) (cK (.tup [])))))) (sSeq (sIf (cOr (cBin (relQ .gt gtZ) (cBin mulQ (cBin mulQ (cVar 4) (cVar 4)) (cBin ixQ (cVar 8) (cK (.int 1)))) (cBin mulQ (cBin mulQ (cBin ixQ (cVar 8) (cK (.int 0))) (cVar 5)) (cVar 5))) (cBin (relQ .lt ltZ) (cBin mulQ (cBin mulQ (cVar 6) (cVar 6)) (cBin ixQ (cVar 9) (cK (.int 1)))) (cBin mulQ (cBin mulQ (cBin ixQ (cVar 9) (cK (.int 0))) (cVar 7)) (cVar 7)))) (sSeq (sRet (cK (.bl false))) sSkip) sSkip) sSkip))) (sSeq (sRet (cK (.bl true))) sSkip)))
def e_are_bounds_in : Z.Fq := ⟨2, 10, q_are_bounds_in, true⟩
def q_are_bounds : Z.Fn → Z.Es := fun F => (sSeq (sExpr (cCall F 5 (cCons (cVar 0) (cK (.tup []))))) (sSeq (sRet (cCall F 30 (cCons (cVar 0) (cCons (cVar 1) (cK (.tup [])))))) sSkip))
def e_are_bounds : Z.Fq := ⟨2, 2, q_are_bounds, true⟩
def q_bounds_in : Z.Fn → Z.Es := fun F => (sSeq (sPar [2, 3] (cCons (cUn alloQ (cUn lstQ (cK (.tup [])))) (cCons (cBin (genQ .shl) (cK (.int 1)) (cVar 1)) (cK (.tup []))))) (sSeq (sFor (gNm 4) .b (cVar 0) (sSeq (sUnp (gTp (gCons (gNm 5) (gCons (gNm 6) gNil))) (cCall F 28 (cCons (cVar 2) (cCons (cVar 4) (cK (.tup [])))))) (sSeq (sIf (cBin (relQ .le leZ) (cBin ixQ (cVar 5) (cK (.int 0))) (cK (.int 0))) (sSeq (sRet (cK .non)) sSkip) sSkip) (sSeq (sSet 7 (cCall F 25 (cCons (cBin divQ (cBin mulQ (cBin mulQ (cBin ixQ (cVar 5) (cK (.int 0))) (cVar 3)) (cVar 3)) (cBin ixQ (cVar 5) (cK (.int 1)))) (cK (.tup []))))) (sSeq (sSet 8 (cBin addQ (cCall F 25 (cCons (cBin divQ (cBin mulQ (cBin mulQ (cBin ixQ (cVar 6) (cK (.int 0))) (cVar 3)) (cVar 3)) (cBin ixQ (cVar 6) (cK (.int 1)))) (cK (.tup [])))) (cK (.int 1)))) (sSeq (sIf (cBin (relQ .eq eqZ) (cVar 7) (cK (.int 0))) (sSeq (sRet (cK .non)) sSkip) sSkip) (sSeq (sExpr (cBm .append (cVar 2) (cCons (cBin addQ (cCall F 26 (cCons (cVar 7) (cCons (cVar 3) (cK (.tup []))))) (cCall F 26 (cCons (cVar 8) (cCons (cVar 3) (cK (.tup [])))))) (cK (.tup []))))) sSkip))))))) (sSeq (sRet (cUn (on1 biTup) (cCons (cVar 2) (cK (.tup []))))) sSkip)))
def e_bounds_in : Z.Fq := ⟨2, 9, q_bounds_in, true⟩
def q_bounds : Z.Fn → Z.Es := fun F => (sSeq (sExpr (cCall F 5 (cCons (cVar 0) (cK (.tup []))))) (sSeq (sIf (cOr (cUn notQ (cCall F 1 (cCons (cVar 1) (cK (.tup []))))) (cBin (relQ .gt gtZ) (cVar 1) (cK (.int 2000)))) (sSeq sNever sSkip) sSkip) (sSeq (sRet (cCall F 32 (cCons (cVar 0) (cCons (cVar 1) (cK (.tup [])))))) sSkip)))
def e_bounds : Z.Fq := ⟨2, 2, q_bounds, true⟩
def q_whole_root : Z.Fn → Z.Es := fun F => (sSeq (sIf (cBin (relQ .lt ltZ) (cVar 0) (cK (.int 0))) (sSeq (sRet (cK .non)) sSkip) sSkip) (sSeq (sSet 1 (cCall F 25 (cCons (cVar 0) (cK (.tup []))))) (sSeq (sRet (cIfe (cBin (relQ .eq eqZ) (cBin mulQ (cVar 1) (cVar 1)) (cVar 0)) (cVar 1) (cK .non))) sSkip)))
def e_whole_root : Z.Fq := ⟨1, 2, q_whole_root, true⟩
def q_some_root : Z.Fn → Z.Es := fun F => (sSeq (sIf (cBin (relQ .eq eqZ) (cUn (on1 biLen) (cCons (cVar 1) (cK (.tup [])))) (cK (.int 2))) (sSeq (sPar [2, 3] (cCons (cCall F 34 (cCons (cBin ixQ (cVar 1) (cK (.int 0))) (cK (.tup [])))) (cCons (cCall F 34 (cCons (cBin ixQ (cVar 1) (cK (.int 1))) (cK (.tup [])))) (cK (.tup []))))) (sSeq (sRet (cIfe (cOr (cBin (genC .is) (cVar 2) (cK .non)) (cBin (genC .is) (cVar 3) (cK .non))) (cK .non) (cCons (cVar 2) (cCons (cVar 3) (cK (.tup [])))))) sSkip)) sSkip) (sSeq (sSet 4 (cBin subQ (cBm .bitlen (cBin subQ (cUn (on1 biLen) (cCons (cVar 1) (cK (.tup [])))) (cK (.int 1))) (cK (.tup []))) (cK (.int 1)))) (sSeq (sUnp (gTp (gCons (gNm 5) (gCons (gNm 6) gNil))) (cCall F 13 (cCons (cVar 1) (cK (.tup []))))) (sSeq (sSet 7 (cBin ixQ (cVar 0) (cBin subQ (cVar 4) (cK (.int 1))))) (sSeq (sIf (cCall F 9 (cCons (cVar 6) (cK (.tup [])))) (sSeq (sSet 8 (cCall F 35 (cCons (cVar 0) (cCons (cVar 5) (cK (.tup [])))))) (sSeq (sIf (cBin (genC .isn) (cVar 8) (cK .non)) (sSeq (sRet (cCall F 20 (cCons (cVar 4) (cCons (cVar 8) (cK (.tup [])))))) sSkip) sSkip) (sSeq (sSet 8 (cCall F 35 (cCons (cVar 0) (cCons (cCall F 15 (cCons (cVar 0) (cCons (cVar 5) (cCons (cVar 7) (cK (.tup [])))))) (cK (.tup [])))))) (sSeq (sRet (cIfe (cBin (genC .is) (cVar 8) (cK .non)) (cK .non) (cCall F 14 (cCons (cCall F 8 (cCons (cBin subQ (cVar 4) (cK (.int 1))) (cCons (cK (.int 0)) (cCons (cK (.int 1)) (cK (.tup [])))))) (cCons (cCall F 19 (cCons (cVar 0) (cCons (cVar 8) (cCons (cVar 7) (cK (.tup [])))))) (cK (.tup []))))))) sSkip)))) sSkip) (sSeq (sSet 9 (cCall F 12 (cCons (cCall F 15 (cCons (cVar 0) (cCons (cVar 5) (cCons (cVar 5) (cK (.tup [])))))) (cCons (cCall F 15 (cCons (cVar 0) (cCons (cCall F 15 (cCons (cVar 0) (cCons (cVar 6) (cCons (cVar 6) (cK (.tup [])))))) (cCons (cVar 7) (cK (.tup [])))))) (cK (.tup [])))))) (sSeq (sPar [10, 11] (cCons (cCall F 35 (cCons (cVar 0) (cCons (cVar 9) (cK (.tup []))))) (cCons (cCall F 8 (cCons (cBin subQ (cVar 4) (cK (.int 1))) (cCons (cK (.int 2)) (cCons (cK (.int 1)) (cK (.tup [])))))) (cK (.tup []))))) (sSeq (sFor (gNm 12) .b (cIfe (cBin (genC .is) (cVar 10) (cK .non)) (cK (.tup [])) (cCons (cVar 10) (cCons (cCall F 11 (cCons (cVar 10) (cK (.tup [])))) (cK (.tup []))))) (sSeq (sSet 8 (cCall F 35 (cCons (cVar 0) (cCons (cCall F 19 (cCons (cVar 0) (cCons (cCall F 10 (cCons (cVar 5) (cCons (cVar 12) (cK (.tup []))))) (cCons (cVar 11) (cK (.tup [])))))) (cK (.tup [])))))) (sSeq (sIf (cBin (genC .isn) (cVar 8) (cK .non)) (sSeq (sRet (cCall F 14 (cCons (cVar 8) (cCons (cCall F 19 (cCons (cVar 0) (cCons (cVar 6) (cCons (cCall F 15 (cCons (cVar 0) (cCons (cVar 11) (cCons (cVar 8) (cK (.tup [])))))) (cK (.tup [])))))) (cK (.tup [])))))) sSkip) sSkip) sSkip))) (sSeq (sRet (cK .non)) sSkip)))))))))
def e_some_root : Z.Fq := ⟨2, 13, q_some_root, true⟩
def q_root_in : Z.Fn → Z.Es := fun F => (sSeq (sSet 2 (cCall F 35 (cCons (cVar 0) (cCons (cVar 1) (cK (.tup [])))))) (sSeq (sRet (cIfe (cAnd (cBin (genC .isn) (cVar 2) (cK .non)) (cBin (relQ .lt ltZ) (cCall F 22 (cCons (cVar 0) (cCons (cVar 2) (cK (.tup []))))) (cK (.int 0)))) (cCall F 11 (cCons (cVar 2) (cK (.tup [])))) (cVar 2))) sSkip))
def e_root_in : Z.Fq := ⟨2, 3, q_root_in, true⟩
def q_square_root : Z.Fn → Z.Es := fun F => (sSeq (sExpr (cCall F 5 (cCons (cVar 0) (cK (.tup []))))) (sSeq (sExpr (cCall F 6 (cCons (cVar 0) (cCons (cVar 1) (cK (.tup [])))))) (sSeq (sRet (cCall F 36 (cCons (cVar 0) (cCons (cVar 1) (cK (.tup [])))))) sSkip)))
def e_square_root : Z.Fq := ⟨2, 2, q_square_root, true⟩
def q_bar_in : Z.Fn → Z.Es := fun F => (sSeq (sFor (gTp (gCons (gNm 1) (gCons (gNm 2) gNil))) .en (cUn enumQ (cVar 0)) (sSeq (sIf (cBin (relQ .le leZ) (cCall F 22 (cCons (cVar 0) (cCons (cVar 2) (cK (.tup []))))) (cK (.int 0))) (sSeq (sRet (cCons (cK (.str [97, 98, 111, 118, 101])) (cCons (cBin addQ (cVar 1) (cK (.int 1))) (cK (.tup []))))) sSkip) sSkip) (sSeq (sIf (cBin (genC .isn) (cCall F 35 (cCons (cVar 0) (cCons (cVar 2) (cK (.tup []))))) (cK .non)) (sSeq (sRet (cCons (cK (.str [117, 110, 108, 105, 107, 101])) (cCons (cBin addQ (cVar 1) (cK (.int 1))) (cK (.tup []))))) sSkip) sSkip) sSkip))) (sSeq (sRet (cK .non)) sSkip))
def e_bar_in : Z.Fq := ⟨1, 3, q_bar_in, true⟩
def q_tower_bar : Z.Fn → Z.Es := fun F => (sSeq (sExpr (cCall F 5 (cCons (cVar 0) (cK (.tup []))))) (sSeq (sRet (cCall F 38 (cCons (cVar 0) (cK (.tup []))))) sSkip))
def e_tower_bar : Z.Fq := ⟨1, 1, q_tower_bar, true⟩
def q_is_tower : Z.Fn → Z.Es := fun F => (sSeq (sRet (cBin (genC .is) (cCall F 39 (cCons (cVar 0) (cK (.tup [])))) (cK .non))) sSkip)
def e_is_tower : Z.Fq := ⟨1, 1, q_is_tower, true⟩
def q_is_odd_prime : Z.Fn → Z.Es := fun F => (sSeq (sIf (cOr (cUn notQ (cCall F 0 (cCons (cVar 0) (cK (.tup []))))) (cOr (cUn notQ (cChain (relQ .lt ltZ) (relQ .lt ltZ) (cK (.int 2)) (cVar 0) (cGlb (C 74)))) (cBin (relQ .eq eqZ) (cBin modQ (cVar 0) (cK (.int 2))) (cK (.int 0))))) (sSeq (sRet (cK (.bl false))) sSkip) sSkip) (sSeq (sSet 1 (cK (.int 3))) (sSeq (sWhl (cBin (relQ .le leZ) (cBin mulQ (cVar 1) (cVar 1)) (cVar 0)) (sSeq (sIf (cBin (relQ .eq eqZ) (cBin modQ (cVar 0) (cVar 1)) (cK (.int 0))) (sSeq (sRet (cK (.bl false))) sSkip) sSkip) (sSeq (sAug 1 .add (cK (.int 2))) sSkip))) (sSeq (sRet (cK (.bl true))) sSkip))))
def e_is_odd_prime : Z.Fq := ⟨1, 2, q_is_odd_prime, true⟩
def q_need_prime : Z.Fn → Z.Es := fun F => (sSeq (sIf (cUn notQ (cCall F 41 (cCons (cVar 0) (cK (.tup []))))) (sSeq sNever sSkip) sSkip) sSkip)
def e_need_prime : Z.Fq := ⟨1, 1, q_need_prime, true⟩
def q_inverse : Z.Fn → Z.Es := fun F => (sSeq (sUnp (gTp (gCons (gNm 2) (gCons (gNm 3) (gCons (gNm 4) (gCons (gNm 5) gNil))))) (cCons (cVar 1) (cCons (cBin modQ (cVar 0) (cVar 1)) (cCons (cK (.int 0)) (cCons (cK (.int 1)) (cK (.tup []))))))) (sSeq (sWhl (cVar 3) (sSeq (sSet 6 (cBin divQ (cVar 2) (cVar 3))) (sSeq (sUnp (gTp (gCons (gNm 2) (gCons (gNm 3) (gCons (gNm 4) (gCons (gNm 5) gNil))))) (cCons (cVar 3) (cCons (cBin subQ (cVar 2) (cBin mulQ (cVar 6) (cVar 3))) (cCons (cVar 5) (cCons (cBin subQ (cVar 4) (cBin mulQ (cVar 6) (cVar 5))) (cK (.tup []))))))) sSkip))) (sSeq (sRet (cBin modQ (cVar 4) (cVar 1))) sSkip)))
def e_inverse : Z.Fq := ⟨2, 7, q_inverse, true⟩
def q_in_ring : Z.Fn → Z.Es := fun F => (sSeq (sSet 2 (cCall F 43 (cCons (cBin ixQ (cVar 1) (cK (.int 0))) (cCons (cVar 0) (cK (.tup [])))))) (sSeq (sRet (cUn (on1 biTup) (cCons (cComp [3] (cBin modQ (cBin mulQ (cVar 3) (cVar 2)) (cVar 0)) (gNm 3) .b (cSlc false true (cVar 1) (cK (.int 1)) (cK .non)) (cK (.bl true))) (cK (.tup []))))) sSkip))
def e_in_ring : Z.Fq := ⟨2, 4, q_in_ring, true⟩
def q_ring_of : Z.Fn → Z.Es := fun F => (sSeq (sIf (cUn (on1 (biGen .any)) (cCons (cComp [2] (cBin (relQ .eq eqZ) (cBin modQ (cBin ixQ (cVar 2) (cK (.int 0))) (cVar 1)) (cK (.int 0))) (gNm 2) .b (cVar 0) (cK (.bl true))) (cK (.tup [])))) (sSeq (sRet (cK .non)) sSkip) sSkip) (sSeq (sRet (cComp [2] (cCall F 44 (cCons (cVar 1) (cCons (cVar 2) (cK (.tup []))))) (gNm 2) .b (cVar 0) (cK (.bl true)))) sSkip))
def e_ring_of : Z.Fq := ⟨2, 3, q_ring_of, true⟩
def q_ring_times : Z.Fn → Z.Es := fun F => (sSeq (sIf (cBin (relQ .eq eqZ) (cUn (on1 biLen) (cCons (cVar 2) (cK (.tup [])))) (cK (.int 1))) (sSeq (sRet (cCons (cBin modQ (cBin mulQ (cBin ixQ (cVar 2) (cK (.int 0))) (cBin ixQ (cVar 3) (cK (.int 0)))) (cVar 1)) (cK (.tup [])))) sSkip) sSkip) (sSeq (sSet 4 (cBin divQ (cUn (on1 biLen) (cCons (cVar 2) (cK (.tup [])))) (cK (.int 2)))) (sSeq (sUnp (gTp (gCons (gNm 5) (gCons (gNm 6) (gCons (gNm 7) (gCons (gNm 8) gNil))))) (cCons (cSlc true false (cVar 2) (cK .non) (cVar 4)) (cCons (cSlc false true (cVar 2) (cVar 4) (cK .non)) (cCons (cSlc true false (cVar 3) (cK .non) (cVar 4)) (cCons (cSlc false true (cVar 3) (cVar 4) (cK .non)) (cK (.tup []))))))) (sSeq (sSet 9 (cBin ixQ (cVar 0) (cBin subQ (cBm .bitlen (cVar 4) (cK (.tup []))) (cK (.int 1))))) (sSeq (sPar [10, 11] (cCons (cCall F 46 (cCons (cVar 0) (cCons (cVar 1) (cCons (cVar 5) (cCons (cVar 7) (cK (.tup []))))))) (cCons (cCall F 46 (cCons (cVar 0) (cCons (cVar 1) (cCons (cCall F 46 (cCons (cVar 0) (cCons (cVar 1) (cCons (cVar 6) (cCons (cVar 8) (cK (.tup []))))))) (cCons (cVar 9) (cK (.tup []))))))) (cK (.tup []))))) (sSeq (sPar [12, 13] (cCons (cCall F 46 (cCons (cVar 0) (cCons (cVar 1) (cCons (cVar 5) (cCons (cVar 8) (cK (.tup []))))))) (cCons (cCall F 46 (cCons (cVar 0) (cCons (cVar 1) (cCons (cVar 6) (cCons (cVar 7) (cK (.tup []))))))) (cK (.tup []))))) (sSeq (sSet 14 (cUn alloQ (cComp [15, 16] (cBin modQ (cBin addQ (cVar 15) (cVar 16)) (cVar 1)) (gTp (gCons (gNm 15) (gCons (gNm 16) gNil))) .zp (cBin zipQ (cVar 10) (cVar 11)) (cK (.bl true))))) (sSeq (sExpr (cBm .extend (cVar 14) (cCons (cComp [15, 16] (cBin modQ (cBin addQ (cVar 15) (cVar 16)) (cVar 1)) (gTp (gCons (gNm 15) (gCons (gNm 16) gNil))) .zp (cBin zipQ (cVar 12) (cVar 13)) (cK (.bl true))) (cK (.tup []))))) (sSeq (sRet (cUn (on1 biTup) (cCons (cVar 14) (cK (.tup []))))) sSkip)))))))))
def e_ring_times : Z.Fq := ⟨4, 17, q_ring_times, true⟩
def q_ring_power : Z.Fn → Z.Es := fun F => (sSeq (sSet 4 (cK .non)) (sSeq (sWhl (cVar 3) (sSeq (sIf (cBin modQ (cVar 3) (cK (.int 2))) (sSeq (sSet 4 (cIfe (cBin (genC .is) (cVar 4) (cK .non)) (cVar 2) (cCall F 46 (cCons (cVar 0) (cCons (cVar 1) (cCons (cVar 4) (cCons (cVar 2) (cK (.tup []))))))))) sSkip) sSkip) (sSeq (sSet 2 (cCall F 46 (cCons (cVar 0) (cCons (cVar 1) (cCons (cVar 2) (cCons (cVar 2) (cK (.tup [])))))))) (sSeq (sAug 3 .fdiv (cK (.int 2))) sSkip)))) (sSeq (sRet (cVar 4)) sSkip)))
def e_ring_power : Z.Fq := ⟨4, 5, q_ring_power, true⟩
def q_ring_norm : Z.Fn → Z.Es := fun F => (sSeq (sWhl (cBin (relQ .gt gtZ) (cUn (on1 biLen) (cCons (cVar 2) (cK (.tup [])))) (cK (.int 1))) (sSeq (sSet 3 (cBin divQ (cUn (on1 biLen) (cCons (cVar 2) (cK (.tup [])))) (cK (.int 2)))) (sSeq (sSet 4 (cBin addQ (cSlc true false (cVar 2) (cK .non) (cVar 3)) (cUn (on1 biTup) (cCons (cComp [5] (cBin modQ (cUn negQ (cVar 5)) (cVar 1)) (gNm 5) .b (cSlc false true (cVar 2) (cVar 3) (cK .non)) (cK (.bl true))) (cK (.tup [])))))) (sSeq (sSet 2 (cSlc true false (cCall F 46 (cCons (cVar 0) (cCons (cVar 1) (cCons (cVar 2) (cCons (cVar 4) (cK (.tup []))))))) (cK .non) (cVar 3))) sSkip)))) (sSeq (sRet (cBin ixQ (cVar 2) (cK (.int 0)))) sSkip))
def e_ring_norm : Z.Fq := ⟨3, 6, q_ring_norm, true⟩
def q_fits_in : Z.Fn → Z.Es := fun F => (sSeq (sSet 2 (cCall F 45 (cCons (cVar 0) (cCons (cVar 1) (cK (.tup [])))))) (sSeq (sRet (cAnd (cBin (genC .isn) (cVar 2) (cK .non)) (cUn (on1 (biGen .all)) (cCons (cComp [3] (cCall F 48 (cCons (cVar 2) (cCons (cVar 1) (cCons (cVar 3) (cK (.tup [])))))) (gNm 3) .b (cVar 2) (cK (.bl true))) (cK (.tup [])))))) sSkip))
def e_fits_in : Z.Fq := ⟨2, 4, q_fits_in, true⟩
def q_fits : Z.Fn → Z.Es := fun F => (sSeq (sExpr (cCall F 5 (cCons (cVar 0) (cK (.tup []))))) (sSeq (sExpr (cCall F 42 (cCons (cVar 1) (cK (.tup []))))) (sSeq (sRet (cCall F 49 (cCons (cVar 0) (cCons (cVar 1) (cK (.tup [])))))) sSkip)))
def e_fits : Z.Fq := ⟨2, 2, q_fits, true⟩
def q_led : Z.Fn → Z.Es := fun F => (sSeq (sSet 3 (cUn alloQ (cUn lstQ (cCons (cK (.int 1)) (cK (.tup [])))))) (sSeq (sFor (gNm 4) .b (cVar 1) (sSeq (sExpr (cBm .extend (cVar 3) (cCons (cComp [5] (cBin modQ (cBin mulQ (cVar 5) (cVar 4)) (cVar 0)) (gNm 5) .b (cUn (on1 (biGen .list)) (cCons (cVar 3) (cK (.tup [])))) (cK (.bl true))) (cK (.tup []))))) sSkip)) (sSeq (sRet (cBin modQ (cUn (on1 (biGen .sum)) (cCons (cComp [6, 7] (cBin mulQ (cVar 6) (cVar 7)) (gTp (gCons (gNm 6) (gCons (gNm 7) gNil))) .zp (cBin zipQ (cVar 2) (cVar 3)) (cK (.bl true))) (cK (.tup [])))) (cVar 0))) sSkip)))
def e_led : Z.Fq := ⟨3, 8, q_led, true⟩
def q_rests_in : Z.Fn → Z.Es := fun F => (sSeq (sPar [2, 3] (cCons (cCall F 45 (cCons (cVar 0) (cCons (cVar 1) (cK (.tup []))))) (cCons (cUn lstQ (cCons (cK (.tup [])) (cK (.tup [])))) (cK (.tup []))))) (sSeq (sIf (cBin (genC .is) (cVar 2) (cK .non)) (sSeq (sRet (cUn lstQ (cK (.tup [])))) sSkip) sSkip) (sSeq (sFor (gNm 4) .b (cVar 2) (sSeq (sSet 5 (cUn alloQ (cUn lstQ (cK (.tup []))))) (sSeq (sFor (gNm 6) .b (cVar 3) (sSeq (sSet 7 (cCall F 51 (cCons (cVar 1) (cCons (cVar 6) (cCons (cVar 4) (cK (.tup []))))))) (sSeq (sExpr (cBm .extend (cVar 5) (cCons (cComp [8] (cBin addQ (cVar 6) (cCons (cVar 8) (cK (.tup [])))) (gNm 8) .b (cBin rng2Q (cK (.int 1)) (cVar 1)) (cBin (relQ .eq eqZ) (cBin modQ (cBin mulQ (cVar 8) (cVar 8)) (cVar 1)) (cVar 7))) (cK (.tup []))))) sSkip))) (sSeq (sSet 3 (cVar 5)) sSkip)))) (sSeq (sRet (cVar 3)) sSkip))))
def e_rests_in : Z.Fq := ⟨2, 9, q_rests_in, false⟩
def q_all_rests : Z.Fn → Z.Es := fun F => (sSeq (sExpr (cCall F 5 (cCons (cVar 0) (cK (.tup []))))) (sSeq (sExpr (cCall F 42 (cCons (cVar 1) (cK (.tup []))))) (sSeq (sRet (cUn (on1 biTup) (cCons (cCall F 52 (cCons (cVar 0) (cCons (cVar 1) (cK (.tup []))))) (cK (.tup []))))) sSkip)))
def e_all_rests : Z.Fq := ⟨2, 2, q_all_rests, true⟩
def q_moves_in : Z.Fn → Z.Es := fun F => (sSeq (sIf (cOr (cBin (relQ .eq eqZ) (cBin modQ (cBin ixQ (cVar 2) (cK (.int 0))) (cVar 1)) (cK (.int 0))) (cUn notQ (cCall F 49 (cCons (cVar 0) (cCons (cVar 1) (cK (.tup []))))))) (sSeq (sRet (cK (.bl false))) sSkip) sSkip) (sSeq (sPar [4, 5] (cCons (cCall F 45 (cCons (cVar 0) (cCons (cVar 1) (cK (.tup []))))) (cCons (cCall F 44 (cCons (cVar 1) (cCons (cVar 2) (cK (.tup []))))) (cK (.tup []))))) (sSeq (sSet 6 (cVar 5)) (sSeq (sFor (gNm 7) .b (cUn rng1Q (cVar 3)) (sSeq (sSet 6 (cCall F 47 (cCons (cVar 4) (cCons (cVar 1) (cCons (cVar 6) (cCons (cVar 1) (cK (.tup [])))))))) sSkip)) (sSeq (sRet (cBin (relQ .ne neZ) (cVar 6) (cVar 5))) sSkip)))))
def e_moves_in : Z.Fq := ⟨4, 8, q_moves_in, true⟩
def q_nested_in : Z.Fn → Z.Es := fun F => (sSeq (sFor (gNm 2) .b (cRng3 (cK (.int 3)) (cGlb (C 74)) (cK (.int 2))) (sSeq (sIf (cAnd (cCall F 41 (cCons (cVar 2) (cK (.tup [])))) (cCall F 54 (cCons (cVar 0) (cCons (cVar 2) (cCons (cVar 1) (cCons (cK (.int 2)) (cK (.tup [])))))))) (sSeq (sRet (cCons (cK (.str [110, 101, 115, 116, 101, 100])) (cCons (cVar 2) (cK (.tup []))))) sSkip) sSkip) sSkip)) (sSeq (sRet (cK .non)) sSkip))
def e_nested_in : Z.Fq := ⟨2, 3, q_nested_in, true⟩
def q_is_nested_in : Z.Fn → Z.Es := fun F => (sSeq (sIf (cOr (cUn notQ (cUn (isiQ .tuple) (cVar 2))) (cOr (cBin (relQ .ne neZ) (cUn (on1 biLen) (cCons (cVar 2) (cK (.tup [])))) (cK (.int 2))) (cOr (cUn notQ (cUn (isiQ .str) (cBin ixQ (cVar 2) (cK (.int 0))))) (cBin (relQ .ne neZ) (cBin ixQ (cVar 2) (cK (.int 0))) (cK (.str [110, 101, 115, 116, 101, 100])))))) (sSeq (sRet (cK (.bl false))) sSkip) sSkip) (sSeq (sRet (cAnd (cCall F 41 (cCons (cBin ixQ (cVar 2) (cK (.int 1))) (cK (.tup [])))) (cCall F 54 (cCons (cVar 0) (cCons (cBin ixQ (cVar 2) (cK (.int 1))) (cCons (cVar 1) (cCons (cK (.int 2)) (cK (.tup []))))))))) sSkip))
def e_is_nested_in : Z.Fq := ⟨3, 3, q_is_nested_in, true⟩
def q_nested_paper : Z.Fn → Z.Es := fun F => (sSeq (sExpr (cCall F 5 (cCons (cVar 0) (cK (.tup []))))) (sSeq (sExpr (cCall F 6 (cCons (cVar 0) (cCons (cVar 1) (cK (.tup [])))))) (sSeq (sRet (cCall F 55 (cCons (cVar 0) (cCons (cVar 1) (cK (.tup [])))))) sSkip)))
def e_nested_paper : Z.Fq := ⟨2, 2, q_nested_paper, true⟩
def q_is_nested_paper : Z.Fn → Z.Es := fun F => (sSeq (sExpr (cCall F 5 (cCons (cVar 0) (cK (.tup []))))) (sSeq (sExpr (cCall F 6 (cCons (cVar 0) (cCons (cVar 1) (cK (.tup [])))))) (sSeq (sRet (cCall F 56 (cCons (cVar 0) (cCons (cVar 1) (cCons (cVar 2) (cK (.tup []))))))) sSkip)))
def e_is_nested_paper : Z.Fq := ⟨3, 3, q_is_nested_paper, true⟩
def q_power_in_ring : Z.Fn → Z.Es := fun F => (sSeq (sExpr (cCall F 5 (cCons (cVar 0) (cK (.tup []))))) (sSeq (sExpr (cCall F 42 (cCons (cVar 1) (cK (.tup []))))) (sSeq (sExpr (cCall F 6 (cCons (cVar 0) (cCons (cVar 2) (cK (.tup [])))))) (sSeq (sIf (cOr (cUn notQ (cCall F 1 (cCons (cVar 3) (cK (.tup []))))) (cBin (relQ .lt ltZ) (cVar 3) (cK (.int 1)))) (sSeq sNever sSkip) sSkip) (sSeq (sSet 4 (cCall F 45 (cCons (cVar 0) (cCons (cVar 1) (cK (.tup [])))))) (sSeq (sIf (cOr (cBin (genC .is) (cVar 4) (cK .non)) (cBin (relQ .eq eqZ) (cBin modQ (cBin ixQ (cVar 2) (cK (.int 0))) (cVar 1)) (cK (.int 0)))) (sSeq (sRet (cK .non)) sSkip) sSkip) (sSeq (sRet (cCall F 47 (cCons (cVar 4) (cCons (cVar 1) (cCons (cCall F 44 (cCons (cVar 1) (cCons (cVar 2) (cK (.tup []))))) (cCons (cVar 3) (cK (.tup [])))))))) sSkip)))))))
def e_power_in_ring : Z.Fq := ⟨4, 5, q_power_in_ring, true⟩
def q__law_pick : Z.Fn → Z.Es := fun F => (sSeq (sRet (cBin ixQ (cVar 1) (cCall F 61 (cCons (cVar 0) (cCons (cUn (on1 biLen) (cCons (cVar 1) (cK (.tup [])))) (cK (.tup []))))))) sSkip)
def e__law_pick : Z.Fq := ⟨2, 2, q__law_pick, true⟩
def q__law_gcd : Z.Fn → Z.Es := fun F => (sSeq (sSet 1 (cK (.int 0))) (sSeq (sFor (gNm 2) .b (cVar 0) (sSeq (sPar [3, 4] (cCons (cVar 1) (cCons (cVar 2) (cK (.tup []))))) (sSeq (sFor (gNm 5) .b (cUn rng1Q (cK (.int 600))) (sSeq (sIf (cBin (relQ .eq eqZ) (cVar 4) (cK (.int 0))) (sSeq sBrk sSkip) sSkip) (sSeq (sPar [3, 4] (cCons (cVar 4) (cCons (cBin modQ (cUn (on1 biInt) (cCons (cVar 3) (cK (.tup [])))) (cVar 4)) (cK (.tup []))))) sSkip))) (sSeq (sSet 1 (cUn (on1 (biGen .abs)) (cCons (cVar 3) (cK (.tup []))))) sSkip)))) (sSeq (sRet (cVar 1)) sSkip)))
def e__law_gcd : Z.Fq := ⟨1, 6, q__law_gcd, true⟩
def q__law_lowest : Z.Fn → Z.Es := fun F => (sSeq (sSet 1 (cCall F 63 (cCons (cVar 0) (cK (.tup []))))) (sSeq (sIf (cBin (relQ .lt ltZ) (cBin ixQ (cVar 0) (cK (.int 0))) (cK (.int 0))) (sSeq (sSet 1 (cBin subQ (cK (.int 0)) (cVar 1))) sSkip) sSkip) (sSeq (sRet (cUn (on1 biTup) (cCons (cComp [2] (cUn (on1 biInt) (cCons (cBin divQ (cVar 2) (cVar 1)) (cK (.tup [])))) (gNm 2) .b (cVar 0) (cK (.bl true))) (cK (.tup []))))) sSkip)))
def e__law_lowest : Z.Fq := ⟨1, 3, q__law_lowest, true⟩
def q__law_size : Z.Fn → Z.Es := fun F => (sSeq (sSet 1 (cK (.int 1))) (sSeq (sFor (gNm 2) .b (cUn rng1Q (cVar 0)) (sSeq (sSet 1 (cBin mulQ (cVar 1) (cK (.int 2)))) sSkip)) (sSeq (sRet (cVar 1)) sSkip)))
def e__law_size : Z.Fq := ⟨1, 3, q__law_size, true⟩
def q__law_sum : Z.Fn → Z.Es := fun F => (sSeq (sRet (cCall F 64 (cCons (cBin addQ (cCons (cBin mulQ (cBin ixQ (cVar 0) (cK (.int 0))) (cBin ixQ (cVar 1) (cK (.int 0)))) (cK (.tup []))) (cUn (on1 biTup) (cCons (cComp [3, 4] (cBin addQ (cBin mulQ (cVar 3) (cBin ixQ (cVar 1) (cK (.int 0)))) (cBin mulQ (cBin mulQ (cVar 2) (cVar 4)) (cBin ixQ (cVar 0) (cK (.int 0))))) (gTp (gCons (gNm 3) (gCons (gNm 4) gNil))) .zp (cBin zipQ (cSlc false true (cVar 0) (cK (.int 1)) (cK .non)) (cSlc false true (cVar 1) (cK (.int 1)) (cK .non))) (cK (.bl true))) (cK (.tup []))))) (cK (.tup []))))) sSkip)
def e__law_sum : Z.Fq := ⟨3, 5, q__law_sum, true⟩
def q__law_product : Z.Fn → Z.Es := fun F => (sSeq (sIf (cBin (relQ .eq eqZ) (cUn (on1 biLen) (cCons (cVar 1) (cK (.tup [])))) (cK (.int 2))) (sSeq (sRet (cCall F 64 (cCons (cCons (cBin mulQ (cBin ixQ (cVar 1) (cK (.int 0))) (cBin ixQ (cVar 2) (cK (.int 0)))) (cCons (cBin mulQ (cBin ixQ (cVar 1) (cK (.int 1))) (cBin ixQ (cVar 2) (cK (.int 1)))) (cK (.tup [])))) (cK (.tup []))))) sSkip) sSkip) (sSeq (sPar [3, 4] (cCons (cUn (on1 biInt) (cCons (cBin divQ (cBin subQ (cUn (on1 biLen) (cCons (cVar 1) (cK (.tup [])))) (cK (.int 1))) (cK (.int 2))) (cK (.tup [])))) (cCons (cK (.int 0)) (cK (.tup []))))) (sSeq (sFor (gNm 5) .b (cUn rng1Q (cK (.int 9))) (sSeq (sIf (cBin (relQ .lt ltZ) (cCall F 65 (cCons (cVar 4) (cK (.tup [])))) (cVar 3)) (sSeq (sSet 4 (cBin addQ (cVar 4) (cK (.int 1)))) sSkip) sSkip) sSkip)) (sSeq (sUnp (gTp (gCons (gNm 6) (gCons (gNm 7) (gCons (gNm 8) (gCons (gNm 9) gNil))))) (cComp [10, 11] (cCall F 64 (cCons (cBin addQ (cCons (cBin ixQ (cVar 10) (cK (.int 0))) (cK (.tup []))) (cVar 11)) (cK (.tup [])))) (gTp (gCons (gNm 10) (gCons (gNm 11) gNil))) .b (cUn lstQ (cCons (cCons (cVar 1) (cCons (cSlc false false (cVar 1) (cK (.int 1)) (cBin addQ (cK (.int 1)) (cVar 3))) (cK (.tup [])))) (cCons (cCons (cVar 1) (cCons (cSlc false true (cVar 1) (cBin addQ (cK (.int 1)) (cVar 3)) (cK .non)) (cK (.tup [])))) (cCons (cCons (cVar 2) (cCons (cSlc false false (cVar 2) (cK (.int 1)) (cBin addQ (cK (.int 1)) (cVar 3))) (cK (.tup [])))) (cCons (cCons (cVar 2) (cCons (cSlc false true (cVar 2) (cBin addQ (cK (.int 1)) (cVar 3)) (cK .non)) (cK (.tup [])))) (cK (.tup []))))))) (cK (.bl true)))) (sSeq (sSet 12 (cCall F 67 (cCons (cVar 0) (cCons (cCall F 67 (cCons (cVar 0) (cCons (cVar 7) (cCons (cVar 9) (cK (.tup [])))))) (cCons (cBin ixQ (cVar 0) (cVar 4)) (cK (.tup []))))))) (sSeq (sSet 13 (cCall F 66 (cCons (cCall F 67 (cCons (cVar 0) (cCons (cVar 6) (cCons (cVar 8) (cK (.tup [])))))) (cCons (cVar 12) (cCons (cK (.int 1)) (cK (.tup []))))))) (sSeq (sSet 14 (cCall F 66 (cCons (cCall F 67 (cCons (cVar 0) (cCons (cVar 6) (cCons (cVar 9) (cK (.tup [])))))) (cCons (cCall F 67 (cCons (cVar 0) (cCons (cVar 7) (cCons (cVar 8) (cK (.tup [])))))) (cCons (cK (.int 1)) (cK (.tup []))))))) (sSeq (sRet (cCall F 64 (cCons (cBin addQ (cBin addQ (cCons (cBin mulQ (cBin ixQ (cVar 13) (cK (.int 0))) (cBin ixQ (cVar 14) (cK (.int 0)))) (cK (.tup []))) (cUn (on1 biTup) (cCons (cComp [15] (cBin mulQ (cVar 15) (cBin ixQ (cVar 14) (cK (.int 0)))) (gNm 15) .b (cSlc false true (cVar 13) (cK (.int 1)) (cK .non)) (cK (.bl true))) (cK (.tup []))))) (cUn (on1 biTup) (cCons (cComp [15] (cBin mulQ (cVar 15) (cBin ixQ (cVar 13) (cK (.int 0)))) (gNm 15) .b (cSlc false true (cVar 14) (cK (.int 1)) (cK .non)) (cK (.bl true))) (cK (.tup []))))) (cK (.tup []))))) sSkip))))))))
def e__law_product : Z.Fq := ⟨3, 16, q__law_product, true⟩
def q__law_root_below : Z.Fn → Z.Es := fun F => (sSeq (sIf (cBin (relQ .lt ltZ) (cVar 0) (cK (.int 2))) (sSeq (sRet (cVar 0)) sSkip) sSkip) (sSeq (sSet 1 (cVar 0)) (sSeq (sFor (gNm 2) .b (cUn rng1Q (cK (.int 3000))) (sSeq (sSet 3 (cUn (on1 biInt) (cCons (cBin divQ (cBin addQ (cVar 1) (cUn (on1 biInt) (cCons (cBin divQ (cVar 0) (cVar 1)) (cK (.tup []))))) (cK (.int 2))) (cK (.tup []))))) (sSeq (sIf (cBin (relQ .ge geZ) (cVar 3) (cVar 1)) (sSeq sBrk sSkip) sSkip) (sSeq (sSet 1 (cVar 3)) sSkip)))) (sSeq (sRet (cVar 1)) sSkip))))
def e__law_root_below : Z.Fq := ⟨1, 4, q__law_root_below, true⟩
def q__law_near : Z.Fn → Z.Es := fun F => (sSeq (sSet 2 (cUn alloQ (cUn lstQ (cK (.tup []))))) (sSeq (sFor (gNm 3) .b (cVar 0) (sSeq (sExpr (cBm .append (cVar 2) (cCons (cCall F 68 (cCons (cBin mulQ (cUn (on1 (biGen .max)) (cCons (cK (.int 0)) (cCons (cCall F 70 (cCons (cVar 2) (cCons (cVar 3) (cCons (cVar 1) (cK (.tup [])))))) (cK (.tup []))))) (cVar 1)) (cK (.tup [])))) (cK (.tup []))))) sSkip)) (sSeq (sRet (cVar 2)) sSkip)))
def e__law_near : Z.Fq := ⟨2, 4, q__law_near, false⟩
def q__law_worth : Z.Fn → Z.Es := fun F => (sSeq (sSet 3 (cUn lstQ (cCons (cVar 2) (cK (.tup []))))) (sSeq (sFor (gNm 4) .b (cVar 0) (sSeq (sSet 3 (cBin addQ (cVar 3) (cComp [5] (cUn (on1 biInt) (cCons (cBin divQ (cBin mulQ (cVar 5) (cVar 4)) (cVar 2)) (cK (.tup [])))) (gNm 5) .b (cVar 3) (cK (.bl true))))) sSkip)) (sSeq (sRet (cUn (on1 biInt) (cCons (cBin divQ (cUn (on1 (biGen .sum)) (cCons (cComp [6, 5] (cBin mulQ (cVar 6) (cVar 5)) (gTp (gCons (gNm 6) (gCons (gNm 5) gNil))) .zp (cBin zipQ (cSlc false true (cVar 1) (cK (.int 1)) (cK .non)) (cVar 3)) (cK (.bl true))) (cK (.tup [])))) (cBin ixQ (cVar 1) (cK (.int 0)))) (cK (.tup []))))) sSkip)))
def e__law_worth : Z.Fq := ⟨3, 7, q__law_worth, true⟩
def q__law_twos : Z.Fn → Z.Es := fun F => (sSeq (sSet 3 (cUn alloQ (cUn lstQ (cCons (cCons (cK (.int 1)) (cCons (cVar 1) (cK (.tup [])))) (cK (.tup [])))))) (sSeq (sFor (gNm 4) .b (cBin rng2Q (cK (.int 1)) (cVar 0)) (sSeq (sSet 5 (cCall F 65 (cCons (cBin subQ (cVar 4) (cK (.int 1))) (cK (.tup []))))) (sSeq (sExpr (cBm .append (cVar 3) (cCons (cBin addQ (cBin addQ (cBin addQ (cCons (cK (.int 1)) (cCons (cVar 1) (cK (.tup [])))) (cBin mulQ (cCons (cK (.int 0)) (cK (.tup []))) (cBin subQ (cVar 5) (cK (.int 1))))) (cCons (cVar 2) (cK (.tup [])))) (cBin mulQ (cCons (cK (.int 0)) (cK (.tup []))) (cBin subQ (cVar 5) (cK (.int 1))))) (cK (.tup []))))) sSkip))) (sSeq (sRet (cUn (on1 biTup) (cCons (cVar 3) (cK (.tup []))))) sSkip)))
def e__law_twos : Z.Fq := ⟨3, 6, q__law_twos, true⟩
def q_law : Z.Fn → Z.Es := fun F => (sSeq (sSet 1 (cCall F 60 (cCons (cVar 0) (cK (.tup []))))) (sSeq (sFor (gNm 2) .b (cUn rng1Q (cK (.int 2))) (sDrop [false, true, false, false, false, false, false, false, false, false, false, false, false, false, false, true, false, false, false, false, false] (sSeq (sPar [3, 4] (cCons (cBin addQ (cK (.int 2)) (cCall F 61 (cCons (cVar 1) (cCons (cK (.int 3)) (cK (.tup [])))))) (cCons (cBin addQ (cK (.int 2)) (cCall F 61 (cCons (cVar 1) (cCons (cK (.int 2)) (cK (.tup [])))))) (cK (.tup []))))) (sSeq (sSet 5 (cCall F 62 (cCons (cVar 1) (cCons (cUn lstQ (cCons (cK (.int 1)) (cCons (cK (.int 1)) (cCons (cUn negQ (cK (.int 1))) (cK (.tup [])))))) (cK (.tup [])))))) (sSeq (sSet 6 (cCall F 71 (cCons (cVar 3) (cCons (cVar 4) (cCons (cVar 5) (cK (.tup []))))))) (sSeq (sIf (cBin (genC .isn) (cCall F 40 (cCons (cVar 6) (cK (.tup [])))) (cK (.bl true))) (sSeq (sRet (cK (.bl false))) sSkip) sSkip) (sSeq (sSet 7 (cBin (genQ .pow) (cK (.int 10)) (cK (.int 60)))) (sSeq (sSet 8 (cCall F 69 (cCons (cVar 6) (cCons (cVar 7) (cK (.tup [])))))) (sSeq (sSet 9 (cCall F 33 (cCons (cVar 6) (cCons (cK (.int 12)) (cK (.tup [])))))) (sSeq (sIf (cOr (cBin (genC .is) (cVar 9) (cK .non)) (cBin (genC .isn) (cCall F 31 (cCons (cVar 6) (cCons (cVar 9) (cK (.tup []))))) (cK (.bl true)))) (sSeq (sRet (cK (.bl false))) sSkip) sSkip) (sSeq (sFor (gNm 10) .b (cUn rng1Q (cVar 3)) (sSeq (sPar [11, 12] (cCons (cSlc true false (cBin ixQ (cVar 9) (cVar 10)) (cK .non) (cK (.int 2))) (cCons (cSlc false true (cBin ixQ (cVar 9) (cVar 10)) (cK (.int 2)) (cK .non)) (cK (.tup []))))) (sSeq (sIf (cOr (cUn notQ (cBin (relQ .le leZ) (cBin mulQ (cBin ixQ (cVar 11) (cK (.int 0))) (cVar 7)) (cBin mulQ (cBin addQ (cBin ixQ (cVar 8) (cVar 10)) (cK (.int 1))) (cBin ixQ (cVar 11) (cK (.int 1)))))) (cUn notQ (cBin (relQ .le leZ) (cBin mulQ (cBin ixQ (cVar 8) (cVar 10)) (cBin ixQ (cVar 12) (cK (.int 1)))) (cBin mulQ (cBin ixQ (cVar 12) (cK (.int 0))) (cVar 7))))) (sSeq (sRet (cK (.bl false))) sSkip) sSkip) sSkip))) (sSeq (sSet 13 (cBin addQ (cBin addQ (cBin addQ (cCons (cK (.int 1)) (cK (.tup []))) (cBin mulQ (cCons (cK (.int 0)) (cK (.tup []))) (cCall F 65 (cCons (cBin subQ (cVar 3) (cK (.int 1))) (cK (.tup [])))))) (cCons (cK (.int 1)) (cK (.tup [])))) (cBin mulQ (cCons (cK (.int 0)) (cK (.tup []))) (cBin subQ (cCall F 65 (cCons (cBin subQ (cVar 3) (cK (.int 1))) (cK (.tup [])))) (cK (.int 1)))))) (sSeq (sIf (cOr (cBin (relQ .ne neZ) (cCall F 37 (cCons (cVar 6) (cCons (cCall F 67 (cCons (cVar 6) (cCons (cVar 13) (cCons (cVar 13) (cK (.tup [])))))) (cK (.tup []))))) (cVar 13)) (cBin (relQ .ne neZ) (cCall F 23 (cCons (cVar 6) (cCons (cVar 13) (cK (.tup []))))) (cK (.int 1)))) (sSeq (sRet (cK (.bl false))) sSkip) sSkip) (sSeq (sFor (gNm 10) .b (cBin rng2Q (cK (.int 1)) (cVar 3)) (sSeq (sSet 14 (cBin addQ (cCons (cK (.int 1)) (cK (.tup []))) (cUn (on1 biTup) (cCons (cComp [15] (cUn (on1 biInt) (cCons (cBin (relQ .eq eqZ) (cVar 15) (cCall F 65 (cCons (cBin subQ (cVar 10) (cK (.int 1))) (cK (.tup []))))) (cK (.tup [])))) (gNm 15) .b (cUn rng1Q (cCall F 65 (cCons (cVar 3) (cK (.tup []))))) (cK (.bl true))) (cK (.tup [])))))) (sSeq (sSet 16 (cBin addQ (cCons (cK (.int 1)) (cK (.tup []))) (cUn (on1 biTup) (cCons (cComp [15] (cUn (on1 biInt) (cCons (cBin (relQ .eq eqZ) (cVar 15) (cCall F 65 (cCons (cVar 10) (cK (.tup []))))) (cK (.tup [])))) (gNm 15) .b (cUn rng1Q (cCall F 65 (cCons (cVar 3) (cK (.tup []))))) (cK (.bl true))) (cK (.tup [])))))) (sSeq (sIf (cBin (relQ .ne neZ) (cCall F 24 (cCons (cVar 6) (cCons (cVar 14) (cCons (cVar 16) (cK (.tup [])))))) (cIfe (cBin (relQ .gt gtZ) (cBin ixQ (cVar 8) (cBin subQ (cVar 10) (cK (.int 1)))) (cBin ixQ (cVar 8) (cVar 10))) (cK (.int 1)) (cUn negQ (cK (.int 1))))) (sSeq (sRet (cK (.bl false))) sSkip) sSkip) sSkip)))) (sSeq (sIf (cBin (relQ .lt ltZ) (cVar 3) (cK (.int 4))) (sSeq (sSet 17 (cCall F 57 (cCons (cVar 6) (cCons (cVar 13) (cK (.tup [])))))) (sSeq (sIf (cOr (cBin (genC .is) (cVar 17) (cK .non)) (cBin (genC .isn) (cCall F 58 (cCons (cVar 6) (cCons (cVar 13) (cCons (cVar 17) (cK (.tup [])))))) (cK (.bl true)))) (sSeq (sRet (cK (.bl false))) sSkip) sSkip) (sSeq (sSet 18 (cBin addQ (cCons (cK (.int 1)) (cCons (cK (.int 0)) (cCons (cK (.int 1)) (cK (.tup []))))) (cBin mulQ (cCons (cK (.int 0)) (cK (.tup []))) (cBin subQ (cCall F 65 (cCons (cVar 3) (cK (.tup [])))) (cK (.int 2)))))) (sSeq (sIf (cCall F 58 (cCons (cVar 6) (cCons (cVar 18) (cCons (cVar 17) (cK (.tup [])))))) (sSeq (sRet (cK (.bl false))) sSkip) sSkip) (sSeq (sSet 19 (cBin ixQ (cVar 17) (cK (.int 1)))) (sSeq (sIf (cOr (cBin (genC .isn) (cCall F 50 (cCons (cVar 6) (cCons (cVar 19) (cK (.tup []))))) (cK (.bl true))) (cBin (relQ .eq eqZ) (cCall F 59 (cCons (cVar 6) (cCons (cVar 19) (cCons (cVar 13) (cCons (cBin mulQ (cVar 19) (cVar 19)) (cK (.tup []))))))) (cCall F 59 (cCons (cVar 6) (cCons (cVar 19) (cCons (cVar 13) (cCons (cK (.int 1)) (cK (.tup []))))))))) (sSeq (sRet (cK (.bl false))) sSkip) sSkip) sSkip)))))) sSkip) (sSeq (sFor (gNm 19) .b (cUn lstQ (cCons (cK (.int 7)) (cCons (cK (.int 17)) (cCons (cK (.int 31)) (cK (.tup [])))))) (sSeq (sFor (gNm 20) .b (cCall F 53 (cCons (cVar 6) (cCons (cVar 19) (cK (.tup []))))) (sSeq (sIf (cOr (cBin (relQ .ne neZ) (cBin modQ (cUn (on1 biInt) (cCons (cBin mulQ (cBin ixQ (cVar 20) (cK (.int 0))) (cBin ixQ (cVar 20) (cK (.int 0)))) (cK (.tup [])))) (cVar 19)) (cBin modQ (cVar 4) (cVar 19))) (cBin (relQ .ne neZ) (cUn (on1 biLen) (cCons (cVar 20) (cK (.tup [])))) (cVar 3))) (sSeq (sRet (cK (.bl false))) sSkip) sSkip) sSkip)) sSkip)) sSkip)))))))))))))))) (sSeq (sRet (cK (.bl true))) sSkip)))
def e_law : Z.Fq := ⟨1, 21, q_law, true⟩
def QT : Z.Bt Z.Fq := (.nd 35 e_some_root (.nd 17 e_norm_in (.nd 8 e_whole_in (.nd 4 e_is_tower_form (.nd 2 e_is_element_in (.nd 1 e_is_count (.nd 0 e_is_whole .lf .lf) .lf) (.nd 3 e_common .lf .lf)) (.nd 6 e_need_element (.nd 5 e_need_tower .lf .lf) (.nd 7 e_lowest_in .lf .lf))) (.nd 13 e_halves_in (.nd 11 e_other_in (.nd 10 e_plus_in (.nd 9 e_is_nought_in .lf .lf) .lf) (.nd 12 e_minus_in .lf .lf)) (.nd 15 e_times_in (.nd 14 e_joined_in .lf .lf) (.nd 16 e_turned_in .lf .lf)))) (.nd 26 e_lowest (.nd 22 e_sign_in (.nd 20 e_lifted_in (.nd 19 e_over_in (.nd 18 e_inverse_in .lf .lf) .lf) (.nd 21 e_need_two .lf .lf)) (.nd 24 e_order (.nd 23 e_sign .lf .lf) (.nd 25 e_root_below .lf .lf))) (.nd 31 e_are_bounds (.nd 29 e_is_bound (.nd 28 e_span_in (.nd 27 e_products .lf .lf) .lf) (.nd 30 e_are_bounds_in .lf .lf)) (.nd 33 e_bounds (.nd 32 e_bounds_in .lf .lf) (.nd 34 e_whole_root .lf .lf))))) (.nd 53 e_all_rests (.nd 44 e_in_ring (.nd 40 e_is_tower (.nd 38 e_bar_in (.nd 37 e_square_root (.nd 36 e_root_in .lf .lf) .lf) (.nd 39 e_tower_bar .lf .lf)) (.nd 42 e_need_prime (.nd 41 e_is_odd_prime .lf .lf) (.nd 43 e_inverse .lf .lf))) (.nd 49 e_fits_in (.nd 47 e_ring_power (.nd 46 e_ring_times (.nd 45 e_ring_of .lf .lf) .lf) (.nd 48 e_ring_norm .lf .lf)) (.nd 51 e_led (.nd 50 e_fits .lf .lf) (.nd 52 e_rests_in .lf .lf)))) (.nd 64 e__law_lowest (.nd 58 e_is_nested_paper (.nd 56 e_is_nested_in (.nd 55 e_nested_in (.nd 54 e_moves_in .lf .lf) .lf) (.nd 57 e_nested_paper .lf .lf)) (.nd 62 e__law_pick (.nd 59 e_power_in_ring .lf .lf) (.nd 63 e__law_gcd .lf .lf))) (.nd 69 e__law_near (.nd 67 e__law_product (.nd 66 e__law_sum (.nd 65 e__law_size .lf .lf) .lf) (.nd 68 e__law_root_below .lf .lf)) (.nd 71 e__law_twos (.nd 70 e__law_worth .lf .lf) (.nd 72 e_law .lf .lf))))))
end
theorem w_is_whole : q_is_whole = fun F => Z.cs F C b_is_whole := by kernel_rfl
theorem w_is_count : q_is_count = fun F => Z.cs F C b_is_count := by kernel_rfl
theorem w_is_element_in : q_is_element_in = fun F => Z.cs F C b_is_element_in := by kernel_rfl
theorem w_common : q_common = fun F => Z.cs F C b_common := by kernel_rfl
theorem w_is_tower_form : q_is_tower_form = fun F => Z.cs F C b_is_tower_form := by kernel_rfl
theorem w_need_tower : q_need_tower = fun F => Z.cs F C b_need_tower := by kernel_rfl
theorem w_need_element : q_need_element = fun F => Z.cs F C b_need_element := by kernel_rfl
theorem w_lowest_in : q_lowest_in = fun F => Z.cs F C b_lowest_in := by kernel_rfl
theorem w_whole_in : q_whole_in = fun F => Z.cs F C b_whole_in := by kernel_rfl
theorem w_is_nought_in : q_is_nought_in = fun F => Z.cs F C b_is_nought_in := by kernel_rfl
theorem w_plus_in : q_plus_in = fun F => Z.cs F C b_plus_in := by kernel_rfl
theorem w_other_in : q_other_in = fun F => Z.cs F C b_other_in := by kernel_rfl
theorem w_minus_in : q_minus_in = fun F => Z.cs F C b_minus_in := by kernel_rfl
theorem w_halves_in : q_halves_in = fun F => Z.cs F C b_halves_in := by kernel_rfl
theorem w_joined_in : q_joined_in = fun F => Z.cs F C b_joined_in := by kernel_rfl
theorem w_times_in : q_times_in = fun F => Z.cs F C b_times_in := by kernel_rfl
theorem w_turned_in : q_turned_in = fun F => Z.cs F C b_turned_in := by kernel_rfl
theorem w_norm_in : q_norm_in = fun F => Z.cs F C b_norm_in := by kernel_rfl
theorem w_inverse_in : q_inverse_in = fun F => Z.cs F C b_inverse_in := by kernel_rfl
theorem w_over_in : q_over_in = fun F => Z.cs F C b_over_in := by kernel_rfl
theorem w_lifted_in : q_lifted_in = fun F => Z.cs F C b_lifted_in := by kernel_rfl
theorem w_need_two : q_need_two = fun F => Z.cs F C b_need_two := by kernel_rfl
theorem w_sign_in : q_sign_in = fun F => Z.cs F C b_sign_in := by kernel_rfl
theorem w_sign : q_sign = fun F => Z.cs F C b_sign := by kernel_rfl
theorem w_order : q_order = fun F => Z.cs F C b_order := by kernel_rfl
theorem w_root_below : q_root_below = fun F => Z.cs F C b_root_below := by kernel_rfl
theorem w_lowest : q_lowest = fun F => Z.cs F C b_lowest := by kernel_rfl
theorem w_products : q_products = fun F => Z.cs F C b_products := by kernel_rfl
theorem w_span_in : q_span_in = fun F => Z.cs F C b_span_in := by kernel_rfl
theorem w_is_bound : q_is_bound = fun F => Z.cs F C b_is_bound := by kernel_rfl
theorem w_are_bounds_in : q_are_bounds_in = fun F => Z.cs F C b_are_bounds_in := by kernel_rfl
theorem w_are_bounds : q_are_bounds = fun F => Z.cs F C b_are_bounds := by kernel_rfl
theorem w_bounds_in : q_bounds_in = fun F => Z.cs F C b_bounds_in := by kernel_rfl
theorem w_bounds : q_bounds = fun F => Z.cs F C b_bounds := by kernel_rfl
theorem w_whole_root : q_whole_root = fun F => Z.cs F C b_whole_root := by kernel_rfl
theorem w_some_root : q_some_root = fun F => Z.cs F C b_some_root := by kernel_rfl
theorem w_root_in : q_root_in = fun F => Z.cs F C b_root_in := by kernel_rfl
theorem w_square_root : q_square_root = fun F => Z.cs F C b_square_root := by kernel_rfl
theorem w_bar_in : q_bar_in = fun F => Z.cs F C b_bar_in := by kernel_rfl
theorem w_tower_bar : q_tower_bar = fun F => Z.cs F C b_tower_bar := by kernel_rfl
theorem w_is_tower : q_is_tower = fun F => Z.cs F C b_is_tower := by kernel_rfl
theorem w_is_odd_prime : q_is_odd_prime = fun F => Z.cs F C b_is_odd_prime := by kernel_rfl
theorem w_need_prime : q_need_prime = fun F => Z.cs F C b_need_prime := by kernel_rfl
theorem w_inverse : q_inverse = fun F => Z.cs F C b_inverse := by kernel_rfl
theorem w_in_ring : q_in_ring = fun F => Z.cs F C b_in_ring := by kernel_rfl
theorem w_ring_of : q_ring_of = fun F => Z.cs F C b_ring_of := by kernel_rfl
theorem w_ring_times : q_ring_times = fun F => Z.cs F C b_ring_times := by kernel_rfl
theorem w_ring_power : q_ring_power = fun F => Z.cs F C b_ring_power := by kernel_rfl
theorem w_ring_norm : q_ring_norm = fun F => Z.cs F C b_ring_norm := by kernel_rfl
theorem w_fits_in : q_fits_in = fun F => Z.cs F C b_fits_in := by kernel_rfl
theorem w_fits : q_fits = fun F => Z.cs F C b_fits := by kernel_rfl
theorem w_led : q_led = fun F => Z.cs F C b_led := by kernel_rfl
theorem w_rests_in : q_rests_in = fun F => Z.cs F C b_rests_in := by kernel_rfl
theorem w_all_rests : q_all_rests = fun F => Z.cs F C b_all_rests := by kernel_rfl
theorem w_moves_in : q_moves_in = fun F => Z.cs F C b_moves_in := by kernel_rfl
theorem w_nested_in : q_nested_in = fun F => Z.cs F C b_nested_in := by kernel_rfl
theorem w_is_nested_in : q_is_nested_in = fun F => Z.cs F C b_is_nested_in := by kernel_rfl
theorem w_nested_paper : q_nested_paper = fun F => Z.cs F C b_nested_paper := by kernel_rfl
theorem w_is_nested_paper : q_is_nested_paper = fun F => Z.cs F C b_is_nested_paper := by kernel_rfl
theorem w_power_in_ring : q_power_in_ring = fun F => Z.cs F C b_power_in_ring := by kernel_rfl
theorem w__law_pick : q__law_pick = fun F => Z.cs F C b__law_pick := by kernel_rfl
theorem w__law_gcd : q__law_gcd = fun F => Z.cs F C b__law_gcd := by kernel_rfl
theorem w__law_lowest : q__law_lowest = fun F => Z.cs F C b__law_lowest := by kernel_rfl
theorem w__law_size : q__law_size = fun F => Z.cs F C b__law_size := by kernel_rfl
theorem w__law_sum : q__law_sum = fun F => Z.cs F C b__law_sum := by kernel_rfl
theorem w__law_product : q__law_product = fun F => Z.cs F C b__law_product := by kernel_rfl
theorem w__law_root_below : q__law_root_below = fun F => Z.cs F C b__law_root_below := by kernel_rfl
theorem w__law_near : q__law_near = fun F => Z.cs F C b__law_near := by kernel_rfl
theorem w__law_worth : q__law_worth = fun F => Z.cs F C b__law_worth := by kernel_rfl
theorem w__law_twos : q__law_twos = fun F => Z.cs F C b__law_twos := by kernel_rfl
theorem w_law : q_law = fun F => Z.cs F C b_law := by kernel_rfl
theorem quick : Z.Quick P C QT := Z.quick_of (P := PT) ⟨rfl, ⟨rfl, rfl, rfl, fun F => congrFun w_some_root F⟩, ⟨rfl, ⟨rfl, rfl, rfl, fun F => congrFun w_norm_in F⟩, ⟨rfl, ⟨rfl, rfl, rfl, fun F => congrFun w_whole_in F⟩, ⟨rfl, ⟨rfl, rfl, rfl, fun F => congrFun w_is_tower_form F⟩, ⟨rfl, ⟨rfl, rfl, rfl, fun F => congrFun w_is_element_in F⟩, ⟨rfl, ⟨rfl, rfl, rfl, fun F => congrFun w_is_count F⟩, ⟨rfl, ⟨rfl, rfl, rfl, fun F => congrFun w_is_whole F⟩, trivial, trivial⟩, trivial⟩, ⟨rfl, ⟨rfl, rfl, rfl, fun F => congrFun w_common F⟩, trivial, trivial⟩⟩, ⟨rfl, ⟨rfl, rfl, rfl, fun F => congrFun w_need_element F⟩, ⟨rfl, ⟨rfl, rfl, rfl, fun F => congrFun w_need_tower F⟩, trivial, trivial⟩, ⟨rfl, ⟨rfl, rfl, rfl, fun F => congrFun w_lowest_in F⟩, trivial, trivial⟩⟩⟩, ⟨rfl, ⟨rfl, rfl, rfl, fun F => congrFun w_halves_in F⟩, ⟨rfl, ⟨rfl, rfl, rfl, fun F => congrFun w_other_in F⟩, ⟨rfl, ⟨rfl, rfl, rfl, fun F => congrFun w_plus_in F⟩, ⟨rfl, ⟨rfl, rfl, rfl, fun F => congrFun w_is_nought_in F⟩, trivial, trivial⟩, trivial⟩, ⟨rfl, ⟨rfl, rfl, rfl, fun F => congrFun w_minus_in F⟩, trivial, trivial⟩⟩, ⟨rfl, ⟨rfl, rfl, rfl, fun F => congrFun w_times_in F⟩, ⟨rfl, ⟨rfl, rfl, rfl, fun F => congrFun w_joined_in F⟩, trivial, trivial⟩, ⟨rfl, ⟨rfl, rfl, rfl, fun F => congrFun w_turned_in F⟩, trivial, trivial⟩⟩⟩⟩, ⟨rfl, ⟨rfl, rfl, rfl, fun F => congrFun w_lowest F⟩, ⟨rfl, ⟨rfl, rfl, rfl, fun F => congrFun w_sign_in F⟩, ⟨rfl, ⟨rfl, rfl, rfl, fun F => congrFun w_lifted_in F⟩, ⟨rfl, ⟨rfl, rfl, rfl, fun F => congrFun w_over_in F⟩, ⟨rfl, ⟨rfl, rfl, rfl, fun F => congrFun w_inverse_in F⟩, trivial, trivial⟩, trivial⟩, ⟨rfl, ⟨rfl, rfl, rfl, fun F => congrFun w_need_two F⟩, trivial, trivial⟩⟩, ⟨rfl, ⟨rfl, rfl, rfl, fun F => congrFun w_order F⟩, ⟨rfl, ⟨rfl, rfl, rfl, fun F => congrFun w_sign F⟩, trivial, trivial⟩, ⟨rfl, ⟨rfl, rfl, rfl, fun F => congrFun w_root_below F⟩, trivial, trivial⟩⟩⟩, ⟨rfl, ⟨rfl, rfl, rfl, fun F => congrFun w_are_bounds F⟩, ⟨rfl, ⟨rfl, rfl, rfl, fun F => congrFun w_is_bound F⟩, ⟨rfl, ⟨rfl, rfl, rfl, fun F => congrFun w_span_in F⟩, ⟨rfl, ⟨rfl, rfl, rfl, fun F => congrFun w_products F⟩, trivial, trivial⟩, trivial⟩, ⟨rfl, ⟨rfl, rfl, rfl, fun F => congrFun w_are_bounds_in F⟩, trivial, trivial⟩⟩, ⟨rfl, ⟨rfl, rfl, rfl, fun F => congrFun w_bounds F⟩, ⟨rfl, ⟨rfl, rfl, rfl, fun F => congrFun w_bounds_in F⟩, trivial, trivial⟩, ⟨rfl, ⟨rfl, rfl, rfl, fun F => congrFun w_whole_root F⟩, trivial, trivial⟩⟩⟩⟩⟩, ⟨rfl, ⟨rfl, rfl, rfl, fun F => congrFun w_all_rests F⟩, ⟨rfl, ⟨rfl, rfl, rfl, fun F => congrFun w_in_ring F⟩, ⟨rfl, ⟨rfl, rfl, rfl, fun F => congrFun w_is_tower F⟩, ⟨rfl, ⟨rfl, rfl, rfl, fun F => congrFun w_bar_in F⟩, ⟨rfl, ⟨rfl, rfl, rfl, fun F => congrFun w_square_root F⟩, ⟨rfl, ⟨rfl, rfl, rfl, fun F => congrFun w_root_in F⟩, trivial, trivial⟩, trivial⟩, ⟨rfl, ⟨rfl, rfl, rfl, fun F => congrFun w_tower_bar F⟩, trivial, trivial⟩⟩, ⟨rfl, ⟨rfl, rfl, rfl, fun F => congrFun w_need_prime F⟩, ⟨rfl, ⟨rfl, rfl, rfl, fun F => congrFun w_is_odd_prime F⟩, trivial, trivial⟩, ⟨rfl, ⟨rfl, rfl, rfl, fun F => congrFun w_inverse F⟩, trivial, trivial⟩⟩⟩, ⟨rfl, ⟨rfl, rfl, rfl, fun F => congrFun w_fits_in F⟩, ⟨rfl, ⟨rfl, rfl, rfl, fun F => congrFun w_ring_power F⟩, ⟨rfl, ⟨rfl, rfl, rfl, fun F => congrFun w_ring_times F⟩, ⟨rfl, ⟨rfl, rfl, rfl, fun F => congrFun w_ring_of F⟩, trivial, trivial⟩, trivial⟩, ⟨rfl, ⟨rfl, rfl, rfl, fun F => congrFun w_ring_norm F⟩, trivial, trivial⟩⟩, ⟨rfl, ⟨rfl, rfl, rfl, fun F => congrFun w_led F⟩, ⟨rfl, ⟨rfl, rfl, rfl, fun F => congrFun w_fits F⟩, trivial, trivial⟩, ⟨rfl, ⟨rfl, rfl, rfl, fun F => congrFun w_rests_in F⟩, trivial, trivial⟩⟩⟩⟩, ⟨rfl, ⟨rfl, rfl, rfl, fun F => congrFun w__law_lowest F⟩, ⟨rfl, ⟨rfl, rfl, rfl, fun F => congrFun w_is_nested_paper F⟩, ⟨rfl, ⟨rfl, rfl, rfl, fun F => congrFun w_is_nested_in F⟩, ⟨rfl, ⟨rfl, rfl, rfl, fun F => congrFun w_nested_in F⟩, ⟨rfl, ⟨rfl, rfl, rfl, fun F => congrFun w_moves_in F⟩, trivial, trivial⟩, trivial⟩, ⟨rfl, ⟨rfl, rfl, rfl, fun F => congrFun w_nested_paper F⟩, trivial, trivial⟩⟩, ⟨rfl, ⟨rfl, rfl, rfl, fun F => congrFun w__law_pick F⟩, ⟨rfl, ⟨rfl, rfl, rfl, fun F => congrFun w_power_in_ring F⟩, trivial, trivial⟩, ⟨rfl, ⟨rfl, rfl, rfl, fun F => congrFun w__law_gcd F⟩, trivial, trivial⟩⟩⟩, ⟨rfl, ⟨rfl, rfl, rfl, fun F => congrFun w__law_near F⟩, ⟨rfl, ⟨rfl, rfl, rfl, fun F => congrFun w__law_product F⟩, ⟨rfl, ⟨rfl, rfl, rfl, fun F => congrFun w__law_sum F⟩, ⟨rfl, ⟨rfl, rfl, rfl, fun F => congrFun w__law_size F⟩, trivial, trivial⟩, trivial⟩, ⟨rfl, ⟨rfl, rfl, rfl, fun F => congrFun w__law_root_below F⟩, trivial, trivial⟩⟩, ⟨rfl, ⟨rfl, rfl, rfl, fun F => congrFun w__law_twos F⟩, ⟨rfl, ⟨rfl, rfl, rfl, fun F => congrFun w__law_worth F⟩, trivial, trivial⟩, ⟨rfl, ⟨rfl, rfl, rfl, fun F => congrFun w_law F⟩, trivial, trivial⟩⟩⟩⟩⟩⟩
end K28

namespace K28
open PySem L2
def fn0 (n : Nat) : Str := ⟨Array.replicate n 0⟩
theorem m_is_whole : (Z.ms ⟨N_is_whole, gn, fn0, df⟩ b_is_whole (defScope s_is_whole)).ss (defBody s_is_whole) = true := by decide +kernel
theorem m_is_count : (Z.ms ⟨N_is_count, gn, fn0, df⟩ b_is_count (defScope s_is_count)).ss (defBody s_is_count) = true := by decide +kernel
theorem m_is_element_in : (Z.ms ⟨N_is_element_in, gn, fn0, df⟩ b_is_element_in (defScope s_is_element_in)).ss (defBody s_is_element_in) = true := by decide +kernel
theorem m_common : (Z.ms ⟨N_common, gn, fn0, df⟩ b_common (defScope s_common)).ss (defBody s_common) = true := by decide +kernel
theorem m_is_tower_form : (Z.ms ⟨N_is_tower_form, gn, fn0, df⟩ b_is_tower_form (defScope s_is_tower_form)).ss (defBody s_is_tower_form) = true := by decide +kernel
theorem m_need_tower : (Z.ms ⟨N_need_tower, gn, fn0, df⟩ b_need_tower (defScope s_need_tower)).ss (defBody s_need_tower) = true := by decide +kernel
theorem m_need_element : (Z.ms ⟨N_need_element, gn, fn0, df⟩ b_need_element (defScope s_need_element)).ss (defBody s_need_element) = true := by decide +kernel
theorem m_lowest_in : (Z.ms ⟨N_lowest_in, gn, fn0, df⟩ b_lowest_in (defScope s_lowest_in)).ss (defBody s_lowest_in) = true := by decide +kernel
theorem m_whole_in : (Z.ms ⟨N_whole_in, gn, fn0, df⟩ b_whole_in (defScope s_whole_in)).ss (defBody s_whole_in) = true := by decide +kernel
theorem m_is_nought_in : (Z.ms ⟨N_is_nought_in, gn, fn0, df⟩ b_is_nought_in (defScope s_is_nought_in)).ss (defBody s_is_nought_in) = true := by decide +kernel
theorem m_plus_in : (Z.ms ⟨N_plus_in, gn, fn0, df⟩ b_plus_in (defScope s_plus_in)).ss (defBody s_plus_in) = true := by decide +kernel
theorem m_other_in : (Z.ms ⟨N_other_in, gn, fn0, df⟩ b_other_in (defScope s_other_in)).ss (defBody s_other_in) = true := by decide +kernel
theorem m_minus_in : (Z.ms ⟨N_minus_in, gn, fn0, df⟩ b_minus_in (defScope s_minus_in)).ss (defBody s_minus_in) = true := by decide +kernel
theorem m_halves_in : (Z.ms ⟨N_halves_in, gn, fn0, df⟩ b_halves_in (defScope s_halves_in)).ss (defBody s_halves_in) = true := by decide +kernel
theorem m_joined_in : (Z.ms ⟨N_joined_in, gn, fn0, df⟩ b_joined_in (defScope s_joined_in)).ss (defBody s_joined_in) = true := by decide +kernel
theorem m_times_in : (Z.ms ⟨N_times_in, gn, fn0, df⟩ b_times_in (defScope s_times_in)).ss (defBody s_times_in) = true := by decide +kernel
theorem m_turned_in : (Z.ms ⟨N_turned_in, gn, fn0, df⟩ b_turned_in (defScope s_turned_in)).ss (defBody s_turned_in) = true := by decide +kernel
theorem m_norm_in : (Z.ms ⟨N_norm_in, gn, fn0, df⟩ b_norm_in (defScope s_norm_in)).ss (defBody s_norm_in) = true := by decide +kernel
theorem m_inverse_in : (Z.ms ⟨N_inverse_in, gn, fn0, df⟩ b_inverse_in (defScope s_inverse_in)).ss (defBody s_inverse_in) = true := by decide +kernel
theorem m_over_in : (Z.ms ⟨N_over_in, gn, fn0, df⟩ b_over_in (defScope s_over_in)).ss (defBody s_over_in) = true := by decide +kernel
theorem m_lifted_in : (Z.ms ⟨N_lifted_in, gn, fn0, df⟩ b_lifted_in (defScope s_lifted_in)).ss (defBody s_lifted_in) = true := by decide +kernel
theorem m_need_two : (Z.ms ⟨N_need_two, gn, fn0, df⟩ b_need_two (defScope s_need_two)).ss (defBody s_need_two) = true := by decide +kernel
theorem m_sign_in : (Z.ms ⟨N_sign_in, gn, fn0, df⟩ b_sign_in (defScope s_sign_in)).ss (defBody s_sign_in) = true := by decide +kernel
theorem m_sign : (Z.ms ⟨N_sign, gn, fn0, df⟩ b_sign (defScope s_sign)).ss (defBody s_sign) = true := by decide +kernel
theorem m_order : (Z.ms ⟨N_order, gn, fn0, df⟩ b_order (defScope s_order)).ss (defBody s_order) = true := by decide +kernel
theorem m_root_below : (Z.ms ⟨N_root_below, gn, fn0, df⟩ b_root_below (defScope s_root_below)).ss (defBody s_root_below) = true := by decide +kernel
theorem m_lowest : (Z.ms ⟨N_lowest, gn, fn0, df⟩ b_lowest (defScope s_lowest)).ss (defBody s_lowest) = true := by decide +kernel
theorem m_products : (Z.ms ⟨N_products, gn, fn0, df⟩ b_products (defScope s_products)).ss (defBody s_products) = true := by decide +kernel
theorem m_span_in : (Z.ms ⟨N_span_in, gn, fn0, df⟩ b_span_in (defScope s_span_in)).ss (defBody s_span_in) = true := by decide +kernel
theorem m_is_bound : (Z.ms ⟨N_is_bound, gn, fn0, df⟩ b_is_bound (defScope s_is_bound)).ss (defBody s_is_bound) = true := by decide +kernel
theorem m_are_bounds_in : (Z.ms ⟨N_are_bounds_in, gn, fn0, df⟩ b_are_bounds_in (defScope s_are_bounds_in)).ss (defBody s_are_bounds_in) = true := by decide +kernel
theorem m_are_bounds : (Z.ms ⟨N_are_bounds, gn, fn0, df⟩ b_are_bounds (defScope s_are_bounds)).ss (defBody s_are_bounds) = true := by decide +kernel
theorem m_bounds_in : (Z.ms ⟨N_bounds_in, gn, fn0, df⟩ b_bounds_in (defScope s_bounds_in)).ss (defBody s_bounds_in) = true := by decide +kernel
theorem m_bounds : (Z.ms ⟨N_bounds, gn, fn0, df⟩ b_bounds (defScope s_bounds)).ss (defBody s_bounds) = true := by decide +kernel
theorem m_whole_root : (Z.ms ⟨N_whole_root, gn, fn0, df⟩ b_whole_root (defScope s_whole_root)).ss (defBody s_whole_root) = true := by decide +kernel
theorem m_some_root : (Z.ms ⟨N_some_root, gn, fn0, df⟩ b_some_root (defScope s_some_root)).ss (defBody s_some_root) = true := by decide +kernel
theorem m_root_in : (Z.ms ⟨N_root_in, gn, fn0, df⟩ b_root_in (defScope s_root_in)).ss (defBody s_root_in) = true := by decide +kernel
theorem m_square_root : (Z.ms ⟨N_square_root, gn, fn0, df⟩ b_square_root (defScope s_square_root)).ss (defBody s_square_root) = true := by decide +kernel
theorem m_bar_in : (Z.ms ⟨N_bar_in, gn, fn0, df⟩ b_bar_in (defScope s_bar_in)).ss (defBody s_bar_in) = true := by decide +kernel
theorem m_tower_bar : (Z.ms ⟨N_tower_bar, gn, fn0, df⟩ b_tower_bar (defScope s_tower_bar)).ss (defBody s_tower_bar) = true := by decide +kernel
theorem m_is_tower : (Z.ms ⟨N_is_tower, gn, fn0, df⟩ b_is_tower (defScope s_is_tower)).ss (defBody s_is_tower) = true := by decide +kernel
theorem m_is_odd_prime : (Z.ms ⟨N_is_odd_prime, gn, fn0, df⟩ b_is_odd_prime (defScope s_is_odd_prime)).ss (defBody s_is_odd_prime) = true := by decide +kernel
theorem m_need_prime : (Z.ms ⟨N_need_prime, gn, fn0, df⟩ b_need_prime (defScope s_need_prime)).ss (defBody s_need_prime) = true := by decide +kernel
theorem m_inverse : (Z.ms ⟨N_inverse, gn, fn0, df⟩ b_inverse (defScope s_inverse)).ss (defBody s_inverse) = true := by decide +kernel
theorem m_in_ring : (Z.ms ⟨N_in_ring, gn, fn0, df⟩ b_in_ring (defScope s_in_ring)).ss (defBody s_in_ring) = true := by decide +kernel
theorem m_ring_of : (Z.ms ⟨N_ring_of, gn, fn0, df⟩ b_ring_of (defScope s_ring_of)).ss (defBody s_ring_of) = true := by decide +kernel
theorem m_ring_times : (Z.ms ⟨N_ring_times, gn, fn0, df⟩ b_ring_times (defScope s_ring_times)).ss (defBody s_ring_times) = true := by decide +kernel
theorem m_ring_power : (Z.ms ⟨N_ring_power, gn, fn0, df⟩ b_ring_power (defScope s_ring_power)).ss (defBody s_ring_power) = true := by decide +kernel
theorem m_ring_norm : (Z.ms ⟨N_ring_norm, gn, fn0, df⟩ b_ring_norm (defScope s_ring_norm)).ss (defBody s_ring_norm) = true := by decide +kernel
theorem m_fits_in : (Z.ms ⟨N_fits_in, gn, fn0, df⟩ b_fits_in (defScope s_fits_in)).ss (defBody s_fits_in) = true := by decide +kernel
theorem m_fits : (Z.ms ⟨N_fits, gn, fn0, df⟩ b_fits (defScope s_fits)).ss (defBody s_fits) = true := by decide +kernel
theorem m_led : (Z.ms ⟨N_led, gn, fn0, df⟩ b_led (defScope s_led)).ss (defBody s_led) = true := by decide +kernel
theorem m_rests_in : (Z.ms ⟨N_rests_in, gn, fn0, df⟩ b_rests_in (defScope s_rests_in)).ss (defBody s_rests_in) = true := by decide +kernel
theorem m_all_rests : (Z.ms ⟨N_all_rests, gn, fn0, df⟩ b_all_rests (defScope s_all_rests)).ss (defBody s_all_rests) = true := by decide +kernel
theorem m_moves_in : (Z.ms ⟨N_moves_in, gn, fn0, df⟩ b_moves_in (defScope s_moves_in)).ss (defBody s_moves_in) = true := by decide +kernel
theorem m_nested_in : (Z.ms ⟨N_nested_in, gn, fn0, df⟩ b_nested_in (defScope s_nested_in)).ss (defBody s_nested_in) = true := by decide +kernel
theorem m_is_nested_in : (Z.ms ⟨N_is_nested_in, gn, fn0, df⟩ b_is_nested_in (defScope s_is_nested_in)).ss (defBody s_is_nested_in) = true := by decide +kernel
theorem m_nested_paper : (Z.ms ⟨N_nested_paper, gn, fn0, df⟩ b_nested_paper (defScope s_nested_paper)).ss (defBody s_nested_paper) = true := by decide +kernel
theorem m_is_nested_paper : (Z.ms ⟨N_is_nested_paper, gn, fn0, df⟩ b_is_nested_paper (defScope s_is_nested_paper)).ss (defBody s_is_nested_paper) = true := by decide +kernel
theorem m_power_in_ring : (Z.ms ⟨N_power_in_ring, gn, fn0, df⟩ b_power_in_ring (defScope s_power_in_ring)).ss (defBody s_power_in_ring) = true := by decide +kernel
theorem m__law_pick : (Z.ms ⟨N__law_pick, gn, fn0, df⟩ b__law_pick (defScope s__law_pick)).ss (defBody s__law_pick) = true := by decide +kernel
theorem m__law_gcd : (Z.ms ⟨N__law_gcd, gn, fn0, df⟩ b__law_gcd (defScope s__law_gcd)).ss (defBody s__law_gcd) = true := by decide +kernel
theorem m__law_lowest : (Z.ms ⟨N__law_lowest, gn, fn0, df⟩ b__law_lowest (defScope s__law_lowest)).ss (defBody s__law_lowest) = true := by decide +kernel
theorem m__law_size : (Z.ms ⟨N__law_size, gn, fn0, df⟩ b__law_size (defScope s__law_size)).ss (defBody s__law_size) = true := by decide +kernel
theorem m__law_sum : (Z.ms ⟨N__law_sum, gn, fn0, df⟩ b__law_sum (defScope s__law_sum)).ss (defBody s__law_sum) = true := by decide +kernel
theorem m__law_product : (Z.ms ⟨N__law_product, gn, fn0, df⟩ b__law_product (defScope s__law_product)).ss (defBody s__law_product) = true := by decide +kernel
theorem m__law_root_below : (Z.ms ⟨N__law_root_below, gn, fn0, df⟩ b__law_root_below (defScope s__law_root_below)).ss (defBody s__law_root_below) = true := by decide +kernel
theorem m__law_near : (Z.ms ⟨N__law_near, gn, fn0, df⟩ b__law_near (defScope s__law_near)).ss (defBody s__law_near) = true := by decide +kernel
theorem m__law_worth : (Z.ms ⟨N__law_worth, gn, fn0, df⟩ b__law_worth (defScope s__law_worth)).ss (defBody s__law_worth) = true := by decide +kernel
theorem m__law_twos : (Z.ms ⟨N__law_twos, gn, fn0, df⟩ b__law_twos (defScope s__law_twos)).ss (defBody s__law_twos) = true := by decide +kernel
theorem m_law : (Z.ms ⟨N_law, gn, fn0, df⟩ b_law (defScope s_law)).ss (defBody s_law) = true := by decide +kernel
end K28
namespace K28
open Z PySem L2
def v0 : D := .tup [(.int 1), (.int 3)]
def v1 : D := .tup [(.int 1), (.int 3), (.int (-1))]
def v2 : D := .tup [(.int 1), (.int 3), (.int 0), (.int (-1)), (.int 0)]
def v3 : D := .tup [v0, v1, v2]
def v4 : D := .tup [(.int 1), (.int 2)]
def v5 : D := .tup [(.int 1), (.int 2), (.int (-1))]
def v6 : D := .tup [(.int 1), (.int 2), (.int 0), (.int (-1)), (.int 0)]
def v7 : D := .tup [(.int 1), (.int 2), (.int 0), (.int 0), (.int 0), (.int (-1)), (.int 0), (.int 0), (.int 0)]
def v8 : D := .tup [v4, v5, v6, v7]
def v9 : D := .tup [(.int 1), (.int 3), (.int 1)]
def v10 : D := .tup [(.int 1), (.int 3), (.int 0), (.int 1), (.int 0)]
def v11 : D := .tup [v0, v9, v10]
def v12 : D := .tup [(.int 1), (.int 3), (.int 0), (.int 0), (.int 0), (.int (-1)), (.int 0), (.int 0), (.int 0)]
def v13 : D := .tup [v0, v1, v2, v12]
def v14 : D := .tup [(.int 1), (.int 3), (.int 0), (.int 0), (.int 0), (.int 1), (.int 0), (.int 0), (.int 0)]
def v15 : D := .tup [v0, v9, v10, v14]
def v16 : D := .tup [(.int 1), (.int 2), (.int 1)]
def v17 : D := .tup [(.int 1), (.int 2), (.int 0), (.int 1), (.int 0)]
def v18 : D := .tup [(.int 1), (.int 2), (.int 0), (.int 0), (.int 0), (.int 1), (.int 0), (.int 0), (.int 0)]
def v19 : D := .tup [v4, v16, v17, v18]
def v20 : D := .tup [v4, v16]
def v21 : D := .tup [v0, v1]
def v22 : D := .tup [v4, v5, v6]
def v23 : D := .tup [v4, v16, v17]
def v24 : D := .tup [v0, v9]
def v25 : D := .tup [v4, v5]
def v26 : D := .tup [(.int 1), (.int 0), (.int 0), (.int 1), (.int 0), (.int 0), (.int 0), (.int 0), (.int 0), (.int 0), (.int 0), (.int 0), (.int 0), (.int 0), (.int 0), (.int 0), (.int 0)]
def v27 : D := .tup [(.int 1), (.int 0), (.int 0), (.int 0), (.int 0), (.int 1), (.int 0), (.int 0), (.int 0), (.int 0), (.int 0), (.int 0), (.int 0), (.int 0), (.int 0), (.int 0), (.int 0)]
def v28 : D := .tup [(.int 1), (.int 0), (.int 0), (.int 1), (.int 0)]
def v29 : D := .tup [(.int 1), (.int 0), (.int 1), (.int 0), (.int 0)]
def v30 : D := .tup [(.int 1), (.int 0), (.int 0), (.int 1), (.int 0), (.int 0), (.int 0), (.int 0), (.int 0)]
def v31 : D := .tup [(.int 1), (.int 0), (.int 0), (.int 0), (.int 0), (.int 1), (.int 0), (.int 0), (.int 0)]
def v32 : D := .tup [(.int 1), (.int 0), (.int 1), (.int 0), (.int 0), (.int 0), (.int 0), (.int 0), (.int 0), (.int 0), (.int 0), (.int 0), (.int 0), (.int 0), (.int 0), (.int 0), (.int 0)]
def v33 : D := .tup [(.int 1), (.int 0), (.int 0), (.int 0), (.int 0), (.int 0), (.int 0), (.int 0), (.int 0), (.int 1), (.int 0), (.int 0), (.int 0), (.int 0), (.int 0), (.int 0), (.int 0)]
def v34 : D := .tup [(.int 1), (.int 0), (.int 1), (.int 0), (.int 0), (.int 0), (.int 0), (.int 0), (.int 0)]
def v35 : D := .tup [(.int 1), (.int 4), (.int 0)]
def v36 : D := .tup [(.int 1), (.int 2), (.int 0)]
def v37 : D := .tup [(.int 1), (.int 4)]
def v38 : D := .tup [(.int 33), (.int (-6))]
def v39 : D := .tup [(.int 11), (.int (-2))]
def v40 : D := .tup [(.int 1), (.int 66)]
def v41 : D := .tup [(.int 1), (.int 1), (.int 0), (.int 0), (.int 0)]
def v42 : D := .tup [(.int 1), (.int 108)]
def v43 : D := .tup [(.int 33), (.int 6)]
def v44 : D := .tup [(.int 11), (.int 2)]
def v45 : D := .tup [(.int 11), (.int (-1))]
def v46 : D := .tup [(.int 1), (.int (-4))]
def v47 : D := .tup [(.int 6), (.int (-3))]
def v48 : D := .tup [(.int 2), (.int (-1))]
def v49 : D := .tup [(.int 181), (.int (-9))]
def v50 : D := .tup [(.int 1), (.int (-1)), (.int 0)]
def v51 : D := .tup [(.int 1), (.int 1089)]
def v52 : D := .tup [(.int 11), (.int 1)]
def v53 : D := .tup [(.int 2), (.int 4), (.int (-2)), (.int (-2)), (.int 1)]
def v54 : D := .tup [(.int 181), (.int 9)]
def v55 : D := .tup [(.int 6), (.int 3)]
def v56 : D := .tup [(.int 2), (.int 1)]
def v57 : D := .tup [(.int 1), (.int 33), (.int (-1))]
def v58 : D := .tup [(.int 16), (.int 0)]
def v59 : D := .tup [(.int 1), (.int 0)]
def v60 : D := .tup [(.int 1), (.int 33), (.int 1)]
def v61 : D := .tup [(.int 1), (.int (-6))]
def v62 : D := .tup [(.int 1), (.int 256)]
def v63 : D := .tup [(.int 11), (.int (-3))]
def v64 : D := .tup [(.int 1), (.int 2), (.int 0), (.int 0), (.int 0)]
def v65 : D := .tup [(.int 2), (.int 0)]
def v66 : D := .tup [(.int 16), (.int 1)]
def v67 : D := .tup [(.int 2), (.int (-2))]
def v68 : D := .tup [(.int 1), (.int (-1))]
def v69 : D := .tup [(.int 1), (.int (-6)), (.int 0)]
def v70 : D := .tup [(.int 2), (.int 4), (.int (-2))]
def v71 : D := .tup [(.int 362), (.int (-11))]
def v72 : D := .tup [(.int 1), (.int 6)]
def v73 : D := .tup [(.int 2), (.int 2)]
def v74 : D := .tup [(.int 1), (.int 1)]
def v75 : D := .tup [(.int 1), (.int 1), (.int 0)]
def v76 : D := .tup [(.int 2), (.int 4), (.int 2)]
def v77 : D := .tup [(.int 6), (.int (-6))]
def v78 : D := .tup [(.int 181), (.int (-33))]
def v79 : D := .tup [(.int 362), (.int 11)]
def v80 : D := .tup [(.int 11), (.int 3)]
def v81 : D := .tup [(.int 1), (.int 1092)]
def v82 : D := .tup [(.int 6), (.int 6)]
def v83 : D := .tup [(.int 2), (.int 3)]
def v84 : D := .tup [(.int 12), (.int 0)]
def v85 : D := .tup [(.int 181), (.int 33)]
def v86 : D := .tup [(.int 1), (.int 3), (.int 0), (.int 0), (.int 0)]
def v87 : D := .tup [(.int 1), (.int 8)]
def v88 : D := .tup [(.int 362), (.int 33)]
def v89 : D := .tup [(.int 1), (.int 12), (.int 0), (.int (-1)), (.int 0)]
def v90 : D := .tup [(.int 1), (.int 6), (.int 0)]
def v91 : D := .tup [(.int 144), (.int 12)]
def v92 : D := .tup [(.int 12), (.int 1)]
def v93 : D := .tup [(.int 1086), (.int (-33))]
def v94 : D := .tup [(.int 362), (.int (-33))]
def v95 : D := .tup [(.int 33), (.int (-6)), (.int (-1))]
def v96 : D := .tup [(.int 1), (.int 6), (.int (-1))]
def v97 : D := .tup [(.int 1), (.int 0), (.int 1), (.int (-1)), (.int 0)]
def v98 : D := .tup [(.int 16), (.int 4)]
def v99 : D := .tup [(.int 4), (.int 1)]
def v100 : D := .tup [(.int 11), (.int (-6))]
def v101 : D := .tup [(.int 1), (.int (-16)), (.int 0)]
def v102 : D := .tup [(.int 11), (.int 6)]
def v103 : D := .tup [(.int 1), (.int 6), (.int 1)]
def v104 : D := .tup [(.int 1), (.int 72)]
def v105 : D := .tup [(.int 362), (.int (-33)), (.int (-1))]
def v106 : D := .tup [(.int 1), (.int (-2)), (.int (-1))]
def v107 : D := .tup [(.int 1), (.int 9)]
def v108 : D := .tup [(.int 1), (.int 4), (.int 0), (.int 0), (.int 0)]
def v109 : D := .tup [(.int 1), (.int (-2)), (.int 1)]
def v110 : D := .tup [(.int 131044), (.int 0), (.int 0), (.int 0), (.int 0)]
def v111 : D := .tup [(.int 1), (.int 0), (.int 0), (.int 0), (.int 0)]
def v112 : D := .tup [(.int 362), (.int (-33)), (.int 1)]
def v113 : D := .tup [(.int 33), (.int 6), (.int (-1))]
def v114 : D := .tup [(.int 181), (.int (-99))]
def v115 : D := .tup [(.int 1), (.int 13068)]
def v116 : D := .tup [(.int 1), (.int 32)]
def v117 : D := .tup [(.int 1), (.int 12), (.int 0), (.int 1), (.int 0)]
def v118 : D := .tup [(.int 121), (.int 0), (.int 0)]
def v119 : D := .tup [(.int 1), (.int 0), (.int 0)]
def v120 : D := .tup [(.int 181), (.int 99)]
def v121 : D := .tup [(.int 1), (.int 16), (.int 0)]
def v122 : D := .tup [(.int 36), (.int 0)]
def v123 : D := .tup [(.int 1), (.int (-33))]
def v124 : D := .tup [(.int 1), (.int (-12))]
def v125 : D := .tup [(.int 362), (.int 33), (.int (-1))]
def v126 : D := .tup [(.int 2), (.int 1), (.int 0)]
def v127 : D := .tup [(.int 1), (.int 1192464)]
def v128 : D := .tup [(.int 1), (.int (-12)), (.int 0)]
def v129 : D := .tup [(.int 1), (.int 12)]
def v130 : D := .tup [(.int 1), (.int 6), (.int (-4))]
def v131 : D := .tup [(.int 6), (.int 1), (.int 0)]
def v132 : D := .tup [(.int 1), (.int 33)]
def v133 : D := .tup [(.int 362), (.int 33), (.int 1)]
def v134 : D := .tup [(.int 36), (.int 1)]
def v135 : D := .tup [(.int 1), (.int 6), (.int 4)]
def v136 : D := .tup [(.int 1), (.int (-1)), (.int 0), (.int 0), (.int 0)]
def v137 : D := .tup [(.int 1086), (.int (-33)), (.int (-1))]
def v138 : D := .tup [(.int 2), (.int (-4)), (.int (-2)), (.int (-2)), (.int (-1))]
def v139 : D := .tup [(.int 2), (.int 2178)]
def v140 : D := .tup [(.int 1086), (.int (-33)), (.int 1)]
def v141 : D := .tup [(.int 1), (.int 72), (.int 0)]
def v142 : D := .tup [(.int 2), (.int 8)]
def v143 : D := .tup [(.int 121), (.int 121), (.int 0)]
def v144 : D := .tup [(.int 1086), (.int 33)]
def v145 : D := .tup [(.int 2), (.int 72)]
def v146 : D := .tup [(.int 1), (.int 36)]
def v147 : D := .tup [(.int 1), (.int 6), (.int 0), (.int 0), (.int 0)]
def v148 : D := .tup [(.int 131044), (.int 131044), (.int 0), (.int 0), (.int 0)]
def v149 : D := .tup [(.int 1), (.int (-36))]
def v150 : D := .tup [(.int 2), (.int (-2)), (.int (-1))]
def v151 : D := .tup [(.int 1), (.int 12), (.int 0)]
def v152 : D := .tup [(.int 1), (.int 432)]
def v153 : D := .tup [(.int 256), (.int 16)]
def v154 : D := .tup [(.int 1086), (.int 198), (.int (-6)), (.int (-33)), (.int 1)]
def v155 : D := .tup [(.int 2), (.int (-2)), (.int 1)]
def v156 : D := .tup [(.int 1086), (.int 33), (.int (-1))]
def v157 : D := .tup [(.int 1), (.int 12), (.int (-1))]
def v158 : D := .tup [(.int 4), (.int 2)]
def v159 : D := .tup [(.int 1086), (.int 33), (.int 1)]
def v160 : D := .tup [(.int 1), (.int (-16))]
def v161 : D := .tup [(.int 1), (.int (-36)), (.int 0)]
def v162 : D := .tup [(.int 1), (.int 0), (.int 0), (.int (-1)), (.int 0), (.int 1), (.int 0), (.int 0), (.int 0)]
def v163 : D := .tup [(.int 1), (.int 3), (.int 0)]
def v164 : D := .tup [(.int 181), (.int 0)]
def v165 : D := .tup [(.int 1), (.int 6), (.int 0), (.int (-1)), (.int 0)]
def v166 : D := .tup [(.int 362), (.int 0)]
def v167 : D := .tup [(.int 1296), (.int 36)]
def v168 : D := .tup [(.int 1), (.int 16)]
def v169 : D := .tup [(.int 1), (.int 12), (.int 1)]
def v170 : D := .tup [(.int 2), (.int 2), (.int (-1))]
def v171 : D := .tup [(.int 4), (.int (-4))]
def v172 : D := .tup [(.int 181), (.int (-1))]
def v173 : D := .tup [(.int 362), (.int (-1))]
def v174 : D := .tup [(.int 1), (.int 0), (.int 0), (.int 0), (.int 0), (.int 0), (.int 0), (.int 0), (.int 0)]
def v175 : D := .tup [(.int 144), (.int 0)]
def v176 : D := .tup [(.int 36), (.int 6)]
def v177 : D := .tup [(.int 6), (.int 1)]
def v178 : D := .tup [(.int 181), (.int 1)]
def v179 : D := .tup [(.int 2), (.int 2), (.int 1)]
def v180 : D := .tup [(.int 4), (.int 4)]
def v181 : D := .tup [(.int 1), (.int 0), (.int 1), (.int (-1)), (.int 0), (.int 0), (.int 0), (.int 0), (.int 0)]
def v182 : D := .tup [(.int 1086), (.int (-1))]
def v183 : D := .tup [(.int 1), (.int 8), (.int 0)]
def v184 : D := .tup [(.int 1), (.int 4356)]
def v185 : D := .tup [(.int 1), (.int (-4)), (.int 0)]
def v186 : D := .tup [(.int 1), (.int (-39))]
def v187 : D := .tup [(.int 1086), (.int 1)]
def v188 : D := .tup [(.int 1), (.int 18)]
def v189 : D := .tup [(.int 1), (.int 36), (.int 0)]
def v190 : D := .tup [(.int 1), (.int 39)]
def v191 : D := .tup [(.int 1), (.int (-144))]
def v192 : D := .tup [(.int 1), (.int 8), (.int 0), (.int 0), (.int 0)]
def v193 : D := .tup [(.int 1), (.int 6), (.int 0), (.int 1), (.int 0)]
def v194 : D := .tup [(.int 1), (.int 18), (.int 0), (.int 0), (.int 0)]
def v195 : D := .tup [(.int 1), (.int 1), (.int 0), (.int 0), (.int 0), (.int 0), (.int 0), (.int 0), (.int 0)]
def v196 : D := .tup [(.int 144), (.int 1)]
def v197 : D := .tup [(.int 362), (.int 1)]
def v198 : D := .tup [(.int 362), (.int (-99)), (.int 3)]
def v199 : D := .tup [(.int 1), (.int 144)]
def v200 : D := .tup [(.int 181), (.int (-3))]
def v201 : D := .tup [(.int 362), (.int 99), (.int 3)]
def v202 : D := .tup [(.int 33), (.int (-1))]
def v203 : D := .tup [(.int 12), (.int (-12))]
def v204 : D := .tup [(.int 1), (.int (-4)), (.int 0), (.int 0), (.int 0)]
def v205 : D := .tup [(.int 181), (.int 3)]
def v206 : D := .tup [(.int 1), (.int (-4)), (.int (-2))]
def v207 : D := .tup [(.int 362), (.int 3)]
def v208 : D := .tup [(.int 33), (.int 1)]
def v209 : D := .tup [(.int 1086), (.int (-3))]
def v210 : D := .tup [(.int 1), (.int 1521)]
def v211 : D := .tup [(.int 256), (.int 0)]
def v212 : D := .tup [(.int 1086), (.int 3)]
def v213 : D := .tup [(.int 1), (.int (-4)), (.int 2)]
def v214 : D := .tup [(.int 1), (.int 18), (.int 0)]
def v215 : D := .tup [(.int 362), (.int 66)]
def v216 : D := .tup [(.int 11), (.int 18)]
def v217 : D := .tup [(.int 33), (.int (-3))]
def v218 : D := .tup [(.int 181), (.int 297)]
def v219 : D := .tup [(.int 1), (.int 4), (.int (-2))]
def v220 : D := .tup [(.int 256), (.int 1)]
def v221 : D := .tup [(.int 12), (.int 12)]
def v222 : D := .tup [(.int 1), (.int 9), (.int 0)]
def v223 : D := .tup [(.int 1), (.int 0), (.int 0), (.int 1), (.int 0), (.int (-1)), (.int 0), (.int 0), (.int 0)]
def v224 : D := .tup [(.int 66), (.int 1)]
def v225 : D := .tup [(.int 1), (.int 4), (.int 2)]
def v226 : D := .tup [(.int 1), (.int 1086)]
def v227 : D := .tup [(.int 1), (.int (-2))]
def v228 : D := .tup [(.int 1296), (.int 0)]
def v229 : D := .tup [(.int 6), (.int 0)]
def v230 : D := .tup [(.int 2), (.int 18)]
def v231 : D := .tup [(.int 4), (.int 1), (.int 0)]
def v232 : D := .tup [(.int 6), (.int (-1))]
def v233 : D := .tup [(.int 1296), (.int 1)]
def v234 : D := .tup [(.int 1), (.int (-3))]
def v235 : D := .tup [(.int 1), (.int (-6)), (.int 0), (.int 0), (.int 0)]
def v236 : D := .tup [(.int 1), (.int 0), (.int (-1))]
def v237 : D := .tup [(.int 1086), (.int (-198)), (.int (-6)), (.int (-33)), (.int (-1))]
def v238 : D := .tup [(.int 1), (.int 1296)]
def v239 : D := .tup [(.int 1), (.int 0), (.int 1)]
def v240 : D := .tup [(.int 11), (.int 0)]
def v241 : D := .tup [(.int 33), (.int 3)]
def v242 : D := .tup [(.int 1), (.int 0), (.int (-1)), (.int 1), (.int 0)]
def v243 : D := .tup [(.int 4), (.int 0)]
def v244 : D := .tup [v75, v119]
def v245 : D := .tup [(.int 36), (.int 1), (.int 0)]
def v246 : D := .tup [v134, v59]
def v247 : D := .tup [(.int 1), (.int 0), (.int 0), (.int (-1)), (.int 0)]
def v248 : D := .tup [v68, v59]
def v249 : D := .tup [(.int 1), (.int 33), (.int 0)]
def v250 : D := .tup [v132, v59]
def v251 : D := .tup [v5, v155]
def v252 : D := .tup [v36, v119]
def v253 : D := .tup [v119, v75]
def v254 : D := .tup [(.int 1), (.int 256), (.int 0)]
def v255 : D := .tup [v62, v59]
def v256 : D := .tup [v74, v59]
def v257 : D := .tup [v36, v50]
def v258 : D := .tup [v163, v119]
def v259 : D := .tup [v61, v59]
def v260 : D := .tup [(.int 1), (.int 1296), (.int 0)]
def v261 : D := .tup [v238, v59]
def v262 : D := .tup [v72, v59]
def v263 : D := .tup [(.int 1), (.int 0), (.int 0), (.int 0), (.int 0), (.int 1), (.int 0), (.int 0), (.int 0), (.int (-1)), (.int 0), (.int 0), (.int 0), (.int 0), (.int 0), (.int 0), (.int 0)]
def v264 : D := .tup [(.int 1), (.int (-1)), (.int 0), (.int 0), (.int 0), (.int 0), (.int 0), (.int 0), (.int 0)]
def v265 : D := .tup [v39, v202]
def v266 : D := .tup [v227, v68]
def v267 : D := .tup [(.int 1), (.int 4), (.int 2), (.int 2), (.int 1)]
def v268 : D := .tup [v225, v16]
def v269 : D := .tup [(.int 1086), (.int 198), (.int 6), (.int 33), (.int 1)]
def v270 : D := .tup [(.int 181), (.int 33), (.int 1)]
def v271 : D := .tup [v35, v119]
def v272 : D := .tup [v163, v50]
def v273 : D := .tup [v227, v74]
def v274 : D := .tup [(.int 1), (.int 0), (.int 1), (.int (-1)), (.int 0), (.int 0), (.int 0), (.int 0), (.int 0), (.int 0), (.int 0), (.int 0), (.int 0), (.int 0), (.int 0), (.int 0), (.int 0)]
def v275 : D := .tup [(.int 1), (.int 0), (.int 0), (.int 1), (.int 0), (.int (-1)), (.int 0), (.int 0), (.int 0), (.int 0), (.int 0), (.int 0), (.int 0), (.int 0), (.int 0), (.int 0), (.int 0)]
def v276 : D := .tup [v36, v75]
def v277 : D := .tup [(.int 6), (.int 1), (.int 0), (.int 0), (.int 0)]
def v278 : D := .tup [v131, v119]
def v279 : D := .tup [(.int 362), (.int 198), (.int 6), (.int 33), (.int 1)]
def v280 : D := .tup [(.int 181), (.int 99), (.int 3)]
def v281 : D := .tup [v280, v133]
def v282 : D := .tup [v64, v136]
def v283 : D := .tup [(.int 1), (.int 2), (.int 1), (.int 0), (.int 0)]
def v284 : D := .tup [v16, v119]
def v285 : D := .tup [v44, v202]
def v286 : D := .tup [v4, v59]
def v287 : D := .tup [v168, v59]
def v288 : D := .tup [(.int 33), (.int 6), (.int 1)]
def v289 : D := .tup [v4, v68]
def v290 : D := .tup [(.int 4), (.int 1), (.int 0), (.int 0), (.int 0)]
def v291 : D := .tup [v231, v119]
def v292 : D := .tup [(.int 1), (.int 39), (.int 1)]
def v293 : D := .tup [(.int 1), (.int 39), (.int (-1))]
def v294 : D := .tup [v56, v59]
def v295 : D := .tup [v4, v74]
def v296 : D := .tup [v124, v59]
def v297 : D := .tup [v163, v75]
def v298 : D := .tup [v88, v197]
def v299 : D := .tup [v177, v59]
def v300 : D := .tup [v106, v150]
def v301 : D := .tup [v71, v182]
def v302 : D := .tup [(.int 2), (.int 1), (.int 0), (.int 0), (.int 0)]
def v303 : D := .tup [v126, v119]
def v304 : D := .tup [(.int 181), (.int (-33)), (.int (-1))]
def v305 : D := .tup [v78, v172]
def v306 : D := .tup [v71, v187]
def v307 : D := .tup [(.int 1), (.int 2), (.int 0), (.int 1), (.int 0), (.int 0), (.int 0), (.int 0), (.int 0)]
def v308 : D := .tup [v17, v111]
def v309 : D := .tup [v50, v119]
def v310 : D := .tup [v86, v136]
def v311 : D := .tup [v129, v59]
def v312 : D := .tup [(.int 1), (.int 16), (.int 0), (.int 0), (.int 0)]
def v313 : D := .tup [v121, v119]
def v314 : D := .tup [(.int 181), (.int (-33)), (.int 1)]
def v315 : D := .tup [(.int 1), (.int 4), (.int (-2)), (.int (-2)), (.int 1)]
def v316 : D := .tup [(.int 181), (.int 33), (.int (-1))]
def v317 : D := .tup [v316, v140]
def v318 : D := .tup [v68, v48]
def v319 : D := .tup [v68, v56]
def v320 : D := .tup [(.int 1), (.int 36), (.int 0), (.int 0), (.int 0)]
def v321 : D := .tup [v189, v119]
def v322 : D := .tup [v0, v59]
def v323 : D := .tup [(.int 362), (.int 198), (.int (-6)), (.int (-33)), (.int 1)]
def v324 : D := .tup [(.int 181), (.int 99), (.int (-3))]
def v325 : D := .tup [v79, v187]
def v326 : D := .tup [v79, v182]
def v327 : D := .tup [v85, v172]
def v328 : D := .tup [(.int 1), (.int 2), (.int 0), (.int (-1)), (.int 0), (.int 0), (.int 0), (.int 0), (.int 0)]
def v329 : D := .tup [v6, v111]
def v330 : D := .tup [v111, v111]
def v331 : D := .tup [v74, v48]
def v332 : D := .tup [v0, v74]
def v333 : D := .tup [v74, v56]
def v334 : D := .tup [v136, v111]
def v335 : D := .tup [v146, v59]
def v336 : D := .tup [v41, v111]
def v337 : D := .tup [v0, v68]
def v338 : D := .tup [(.int 1), (.int 2), (.int (-1)), (.int 0), (.int 0)]
def v339 : D := .tup [v5, v119]
def v340 : D := .tup [(.int 2), (.int 4), (.int 2), (.int 2), (.int 1)]
def v341 : D := .tup [(.int 11), (.int 6), (.int (-1))]
def v342 : D := .tup [v111, v41]
def v343 : D := .tup [(.int 11), (.int 6), (.int 1)]
def v344 : D := .tup [v102, v52]
def v345 : D := .tup [(.int 1), (.int 9), (.int 0), (.int 0), (.int 0)]
def v346 : D := .tup [v222, v119]
def v347 : D := .tup [v107, v59]
def v348 : D := .tup [v64, v41]
def v349 : D := .tup [v37, v227]
def v350 : D := .tup [v37, v59]
def v351 : D := .tup [v119, v119]
def v352 : D := .tup [v99, v59]
def v353 : D := .tup [v59, v59]
def v354 : D := .tup [(.int 16), (.int 1), (.int 0)]
def v355 : D := .tup [v66, v59]
def v356 : D := .tup [v174, v195]
def v357 : D := .tup [(.int 12), (.int 1), (.int 0)]
def v358 : D := .tup [v92, v59]
def v359 : D := .tup [v86, v41]
def v360 : D := .tup [v59, v68]
def v361 : D := .tup [(.int 1), (.int 144), (.int 0)]
def v362 : D := .tup [v199, v59]
def v363 : D := .tup [v304, v137]
def v364 : D := .tup [(.int 1), (.int 1086), (.int 0)]
def v365 : D := .tup [v226, v59]
def v366 : D := .tup [v120, v205]
def v367 : D := .tup [v37, v4]
def v368 : D := .tup [v90, v119]
def v369 : D := .tup [(.int 1), (.int (-2)), (.int 0)]
def v370 : D := .tup [(.int 1), (.int (-3)), (.int 0)]
def v371 : D := .tup [(.int 1), (.int (-2)), (.int 0), (.int 0), (.int 0)]
def v372 : D := .tup [(.int 1), (.int (-3)), (.int 0), (.int 0), (.int 0)]
def v373 : D := .tup [(.int 1), (.int (-3)), (.int (-1))]
def v374 : D := .tup [(.int 1), (.int (-3)), (.int 0), (.int (-1)), (.int 0)]
def v375 : D := .tup [(.int 1), (.int (-3)), (.int 1)]
def v376 : D := .tup [(.int 1), (.int (-3)), (.int 0), (.int 1), (.int 0)]
def v377 : D := .tup [(.int 1), (.int (-2)), (.int 0), (.int (-1)), (.int 0)]
def v378 : D := .tup [(.int 1), (.int (-2)), (.int 0), (.int 1), (.int 0)]
def v379 : D := .tup [(.int 1), (.int 38)]
def v380 : D := .tup [(.int 1), (.int 3), (.int 1), (.int 0), (.int 0)]
def v381 : D := .tup [(.int 1), (.int 38), (.int 12)]
def v382 : D := .tup [(.int 1), (.int 32), (.int 16)]
def v383 : D := .tup [(.int 1), (.int 38), (.int (-12))]
def v384 : D := .tup [(.int 1), (.int 32), (.int (-16))]
def v385 : D := .tup [(.int 1), (.int 3), (.int (-1)), (.int 0), (.int 0)]
def v386 : D := .lst [(.int 1732050807568877293527446341505872366942805253810380628055806), (.int 1126032500610494237999280857286004202375856141734312335128513)]
def v387 : D := .lst [(.int 1732050807568877293527446341505872366942805253810380628055806)]
def v388 : D := .lst [(.int 1414213562373095048801688724209698078569671875376948073176679)]
def v389 : D := .lst [(.int 1732050807568877293527446341505872366942805253810380628055806), (.int 2175327747161074873767401364955486885203013272073239078932233)]
def v390 : D := .lst [(.int 1414213562373095048801688724209698078569671875376948073176679), (.int 765366864730179543456919968060797733522689124971254082867601)]
def v391 : D := .lst [(.int 1414213562373095048801688724209698078569671875376948073176679), (.int 1847759065022573512256366378793576573644833251727284972230195)]
def v392 : D := .tup [(.int 3547), (.int 2048), (.int 7095), (.int 4096)]
def v393 : D := .tup [(.int 4611), (.int 4096), (.int 4613), (.int 4096)]
def v394 : D := .lst [v392, v393]
def v395 : D := .tup [(.tup [(.int 7675), (.int 4096)]), (.tup [(.int 7677), (.int 4096)])]
def v396 : D := .tup [(.int 181), (.int 128), (.int 5793), (.int 4096)]
def v397 : D := .tup [(.int 473), (.int 256), (.int 7569), (.int 4096)]
def v398 : D := .lst [v396, v397]
def v399 : D := .tup [(.tup [(.int 985), (.int 256)]), (.tup [(.int 15761), (.int 4096)])]
def v400 : D := .tup [v396]
def v401 : D := .tup [(.tup [(.int 2399), (.int 4096)]), (.tup [(.int 75), (.int 128)])]
def v402 : D := .tup [(.tup [(.int 437), (.int 128)]), (.tup [(.int 13985), (.int 4096)])]
def v403 : D := .tup [(.int 4455), (.int 2048), (.int 8911), (.int 4096)]
def v404 : D := .lst [v392, v403]
def v405 : D := .tup [(.tup [(.int 10599), (.int 2048)]), (.tup [(.int 21199), (.int 4096)])]
def v406 : D := .lst [v396]
def v407 : D := .tup [v392, v393]
def v408 : D := .tup [v392, v403]
def v409 : D := .tup [v396, v397]
def v410 : D := .tup [v392]
def v411 : D := .tup [(.tup [(.int 5193), (.int 4096)]), (.tup [(.int 2597), (.int 2048)])]
def v412 : D := .tup [(.tup [(.int 9691), (.int 2048)]), (.tup [(.int 19383), (.int 4096)])]
def v413 : D := .lst [v392]
def v414 : D := .tup [v56, v56]
def v415 : D := .tup [(.int 1567), (.int 2048), (.int 49), (.int 64)]
def v416 : D := .tup [v396, v415]
def v417 : D := .tup [(.tup [(.int 79), (.int 64)]), (.tup [(.int 2529), (.int 2048)])]
def v418 : D := .tup [(.int 3), (.int 1)]
def v419 : D := .tup [v418, v418]
def v420 : D := .lst [v396, v415]
def v421 : D := .tup [v74, v74]
def v422 : D := .lst [v421, (.tup [(.tup [(.int 3547), (.int 2048)]), (.tup [(.int 7095), (.int 4096)])])]
def v423 : D := .lst [v421, (.tup [(.tup [(.int 181), (.int 128)]), (.tup [(.int 5793), (.int 4096)])])]
def v424 : D := .tup [(.int 2803), (.int 2048), (.int 701), (.int 512)]
def v425 : D := .tup [v392, v393, v424]
def v426 : D := .tup [(.int 4017), (.int 2048), (.int 8035), (.int 4096)]
def v427 : D := .tup [v396, v397, v426]
def v428 : D := .tup [(.int 2275), (.int 2048), (.int 569), (.int 512)]
def v429 : D := .tup [v396, v415, v428]
def v430 : D := .tup [v396, v397, v426, (.tup [(.int 1019), (.int 512), (.int 8153), (.int 4096)])]
def v431 : D := .tup [v396, v415, v428, (.tup [(.int 3861), (.int 4096), (.int 3863), (.int 4096)])]
def v432 : D := .tup [(.int 4659), (.int 2048), (.int 9319), (.int 4096)]
def v433 : D := .tup [v392, v403, v432, (.tup [(.int 9407), (.int 4096), (.int 147), (.int 64)])]
def v434 : D := .tup [v392, v403, v432]
def v435 : D := .tup [v392, v393, v424, (.tup [(.int 2615), (.int 2048), (.int 327), (.int 256)])]
def v436 : D := .tup [(.int 1), (.int 3), (.int 0), (.int 1), (.int 0), (.int 0), (.int 0), (.int 0), (.int 0)]
def v437 : D := .tup [(.int 1), (.int 3), (.int 0), (.int 0), (.int 0), (.int 1), (.int 0), (.int 0), (.int 0), (.int 0), (.int 0), (.int 0), (.int 0), (.int 0), (.int 0), (.int 0), (.int 0)]
def v438 : D := .tup [(.int 1), (.int 2), (.int 0), (.int 0), (.int 0), (.int 1), (.int 0), (.int 0), (.int 0), (.int 0), (.int 0), (.int 0), (.int 0), (.int 0), (.int 0), (.int 0), (.int 0)]
def v439 : D := .tup [(.int 1), (.int 3), (.int 0), (.int 0), (.int 0), (.int (-1)), (.int 0), (.int 0), (.int 0), (.int 0), (.int 0), (.int 0), (.int 0), (.int 0), (.int 0), (.int 0), (.int 0)]
def v440 : D := .tup [(.int 1), (.int 3), (.int 0), (.int (-1)), (.int 0), (.int 0), (.int 0), (.int 0), (.int 0)]
def v441 : D := .tup [(.int 1), (.int 2), (.int 0), (.int 0), (.int 0), (.int (-1)), (.int 0), (.int 0), (.int 0), (.int 0), (.int 0), (.int 0), (.int 0), (.int 0), (.int 0), (.int 0), (.int 0)]
def v442 : D := .tup [(.int 0), (.int 0), (.int 1), (.int 0)]
def v443 : D := .tup [(.int 2), (.int 0), (.int 1), (.int 0)]
def v444 : D := .tup [(.int 3), (.int 0), (.int 1), (.int 0)]
def v445 : D := .tup [(.int 2), (.int 16)]
def v446 : D := .tup [(.int 2), (.int 0), (.int 16), (.int 0)]
def v447 : D := .tup [(.int 0), (.int 0), (.int 0), (.int 0), (.int 1), (.int 0), (.int 0), (.int 0)]
def v448 : D := .tup [(.int 3)]
def v449 : D := .tup [(.int 2)]
def v450 : D := .tup [(.int 0), (.int 1), (.int 0), (.int 0), (.int 0), (.int 0), (.int 0), (.int 0)]
def v451 : D := .tup [(.int 0), (.int 1), (.int 0), (.int 0)]
def v452 : D := .tup [(.int 2), (.int 6)]
def v453 : D := .tup [(.int 2), (.int 30)]
def v454 : D := .tup [(.int 3), (.int 6)]
def v455 : D := .tup [(.int 3), (.int 4)]
def v456 : D := .tup [(.int 0), (.int 1)]
def v457 : D := .tup [(.int 0), (.int 2)]
def v458 : D := .tup [(.int 2), (.int 0), (.int 30), (.int 0)]
def v459 : D := .lst [v448, v455]
def v460 : D := .lst [v448, v454]
def v461 : D := .tup [(.int 2), (.int 0), (.int 2), (.int 0)]
def v462 : D := .lst [v449, v73, v461]
def v463 : D := .lst [v449, v56]
def v464 : D := .tup [(.int 3), (.int 0), (.int 4), (.int 0)]
def v465 : D := .lst [v448, v455, v464]
def v466 : D := .lst [v448, v418]
def v467 : D := .lst [v449, v73]
def v468 : D := .lst [v449, v56, v443]
def v469 : D := .lst [v448, v418, v444]
def v470 : D := .tup [(.int 0), (.int 0)]
def v471 : D := .tup [(.int 0), (.int 0), (.int 0), (.int 0)]
def v472 : D := .tup [(.int 2), (.int 1), (.int 1), (.int 0)]
def v473 : D := .tup [(.int 1), (.int 0), (.int 0), (.int 0)]
def v474 : D := .tup [(.int 2), (.int 0), (.int 1), (.int 0), (.int 0), (.int 0), (.int 0), (.int 0)]
def v475 : D := .tup [(.int 2), (.int 4), (.int 2), (.int 1)]
def v476 : D := .tup [(.int 2), (.int 1), (.int 1), (.int 0), (.int 0), (.int 0), (.int 0), (.int 0)]
def v477 : D := .tup [(.int 3), (.int 0), (.int 4), (.int 0), (.int 0), (.int 0), (.int 0), (.int 0)]
def v478 : D := .tup [(.int 3), (.int 0), (.int 0), (.int 0)]
def v479 : D := .tup [(.int 2), (.int 0), (.int 0), (.int 0)]
def v480 : D := .tup [(.int 5), (.int 2)]
def v481 : D := .tup [(.int 0), (.int 4)]
def v482 : D := .tup [(.int 4), (.int 0), (.int 0), (.int 0), (.int 0), (.int 0), (.int 0), (.int 0)]
def v483 : D := .tup [(.int 1), (.int 0), (.int 0), (.int 0), (.int 0), (.int 0), (.int 0), (.int 0)]
def v484 : D := .tup [(.int 2), (.int 4)]
def v485 : D := .tup [(.int 5), (.int 6)]
def v486 : D := .tup [(.int 2), (.int 1), (.int 0), (.int 0)]
def v487 : D := .tup [(.int 0), (.int 4), (.int 0), (.int 0)]
def v488 : D := .tup [(.int 3), (.int 0)]
def v489 : D := .tup [(.int 2), (.int 0), (.int 2), (.int 0), (.int 0), (.int 0), (.int 0), (.int 0)]
def v490 : D := .tup [(.int 2), (.int 0), (.int 1), (.int 1)]
def v491 : D := .tup [(.int 3), (.int 0), (.int 0), (.int 0), (.int 0), (.int 0), (.int 0), (.int 0)]
def v492 : D := .tup [(.int 3), (.int 0), (.int 1), (.int 0), (.int 0), (.int 0), (.int 0), (.int 0)]
def v493 : D := .tup [(.int 5), (.int 5)]
def v494 : D := .tup [(.int 0), (.int 0), (.int 4), (.int 2)]
def v495 : D := .tup [(.int 4), (.int 0), (.int 0), (.int 0)]
def v496 : D := .tup [(.int 0), (.int 6)]
def v497 : D := .tup [(.int 5), (.int 6), (.int 0), (.int 0)]
def v498 : D := .tup [(.int 2), (.int 4), (.int 4), (.int 0), (.int 0), (.int 0), (.int 0), (.int 0)]
def v499 : D := .tup [(.int 3), (.int 6), (.int 0), (.int 0)]
def v500 : D := .tup [(.int 5), (.int 1), (.int 0), (.int 0)]
def v501 : D := .tup [(.int 1), (.int 2), (.int 0), (.int 2)]
def v502 : D := .tup [(.int 1), (.int 1), (.int 0), (.int 2)]
def v503 : D := .tup [(.int 2), (.int 2), (.int 0), (.int 0)]
def v504 : D := .tup [(.int 3), (.int 1), (.int 0), (.int 0)]
def v505 : D := .tup [(.int 2), (.int 4), (.int 4), (.int 0)]
def v506 : D := .tup [(.int 0), (.int 2), (.int 0), (.int 0)]
def v507 : D := .tup [(.int 2), (.int 0), (.int 2), (.int 1)]
def v508 : D := .tup [(.int 0), (.int 0), (.int 1), (.int 2)]
def v509 : D := .tup [(.int 2), (.int 1), (.int 3), (.int 1)]
def v510 : D := .tup [(.int 5), (.int 1)]
def v511 : D := .tup [(.int 2), (.int 0), (.int 0), (.int 0), (.int 0), (.int 0), (.int 0), (.int 0)]
def v512 : D := .tup [(.int 2), (.int 4), (.int 0), (.int 0)]
def v513 : D := .tup [(.int 0), (.int 3)]
def v514 : D := .tup [(.str [110, 101, 115, 116, 101, 100]), (.int 3)]
def v515 : D := .tup [(.str [110, 101, 115, 116, 101, 100]), (.int 5)]
def v516 : D := .tup [(.str [110, 101, 115, 116, 101, 100]), (.int 7)]
def v517 : D := .tup [(.int 0), (.int 0), (.int 6), (.int 0)]
def v518 : D := .tup [(.int 0), (.int 0), (.int 2), (.int 0)]
def v519 : D := .tup [(.int 8), (.int 14)]
def v520 : D := .tup [(.int 23), (.int 26)]
def v521 : D := .tup [(.int 6), (.int 12)]
def v522 : D := .tup [(.int 23), (.int 14)]
def v523 : D := .tup [(.int 11), (.int 5)]
def v524 : D := .tup [(.int 6)]
def v525 : D := .tup [(.int 8)]
def v526 : D := .tup [(.int 8), (.int 26)]
def v527 : D := .tup [(.int 23)]
def v528 : D := .tup [(.int 6), (.int 8)]
def v529 : D := .tup [(.int 23), (.int 5)]
def v530 : D := .tup [(.int 8), (.int 17)]
def v531 : D := .tup [(.int 8), (.int 5)]
def v532 : D := .tup [(.int 11), (.int 12)]
def v533 : D := .tup [(.int 4)]
def v534 : D := .tup [(.int 6), (.int 9)]
def v535 : D := .tup [(.int 11), (.int 8)]
def v536 : D := .tup [(.int 23), (.int 17)]
def v537 : D := .tup [(.int 11)]
def v538 : D := .tup [(.int 11), (.int 9)]
def v539 : D := .tup [(.int 6), (.int 5)]
def v540 : D := .tup [(.int 2), (.int 0), (.int (-1)), (.int 0), (.int 0), (.int 0), (.int 0), (.int 0)]
def v541 : D := .tup [(.int 3), (.int 0), (.int (-1)), (.int 0), (.int 0), (.int 0), (.int 0), (.int 0)]
def v542 : D := .tup [(.int 2), (.int 0), (.int 0), (.int 0), (.int 1), (.int 0), (.int 0), (.int 0)]
def v543 : D := .tup [(.int 3), (.int 0), (.int 0), (.int 0), (.int 1), (.int 0), (.int 0), (.int 0)]
def v544 : D := .tup [(.int 2), (.int 0), (.int 0), (.int 0), (.int (-1)), (.int 0), (.int 0), (.int 0)]
def v545 : D := .tup [(.int 3), (.int 0), (.int 0), (.int 0), (.int (-1)), (.int 0), (.int 0), (.int 0)]
def v546 : D := .tup [(.int 0), (.int 0), (.int 0), (.int 0), (.int 0), (.int 0), (.int 0), (.int 0), (.int 1), (.int 0), (.int 0), (.int 0), (.int 0), (.int 0), (.int 0), (.int 0)]
def t__law_twos : Tr := .nd 755364230 0 [(.int 2), (.int 2), (.int (-1))] v25 (.nd 190357451 0 [(.int 4), (.int 2), (.int 1)] v19 (.nd 22804915 0 [(.int 3), (.int 3), (.int 1)] v11 (.nd 18804903 0 [(.int 3), (.int 3), (.int (-1))] v3 .lf .lf) (.nd 186357439 0 [(.int 4), (.int 2), (.int (-1))] v8 .lf .lf)) (.nd 238301523 0 [(.int 4), (.int 3), (.int 1)] v15 (.nd 234301511 0 [(.int 4), (.int 3), (.int (-1))] v13 .lf .lf) .lf)) (.nd 807308314 0 [(.int 2), (.int 3), (.int 1)] v24 (.nd 803308302 0 [(.int 2), (.int 3), (.int (-1))] v21 (.nd 759364242 0 [(.int 2), (.int 2), (.int 1)] v20 .lf .lf) .lf) (.nd 974860850 0 [(.int 3), (.int 2), (.int 1)] v23 (.nd 970860838 0 [(.int 3), (.int 2), (.int (-1))] v22 .lf .lf) .lf))
def t_is_element_in : Tr := .nd 656117478 0 [(.int 1), v16] (.bl true) (.nd 236241687 0 [(.int 3), v30] (.bl true) (.nd 181686879 0 [(.int 0), v0] (.bl true) (.nd 133742807 0 [(.int 0), v4] (.bl true) (.nd 469199 0 [(.int 4), v26] (.bl true) .lf .lf) .lf) (.nd 207798636 0 [(.int 4), v27] (.bl true) .lf .lf)) (.nd 612474073 0 [(.int 2), v6] (.bl true) (.nd 553360792 0 [(.int 2), v29] (.bl true) (.nd 515876055 0 [(.int 2), v28] (.bl true) .lf .lf) .lf) (.nd 632145442 0 [(.int 1), v5] (.bl true) .lf .lf))) (.nd 750848027 0 [(.int 3), v34] (.bl true) (.nd 714647234 0 [(.int 2), v2] (.bl true) (.nd 678854317 0 [(.int 4), v32] (.bl true) (.nd 669269674 1 [(.int 3), v31] (.bl true) .lf .lf) .lf) (.nd 720222377 0 [(.int 2), v17] (.bl true) .lf .lf)) (.nd 871614086 0 [(.int 1), v9] (.bl true) (.nd 847642050 0 [(.int 1), v1] (.bl true) (.nd 822395538 0 [(.int 2), v10] (.bl true) .lf .lf) .lf) (.nd 910205113 1 [(.int 4), v33] (.bl true) .lf .lf)))
def t_need_tower : Tr := .nd 329721073 1 [v3] .non (.nd 210467352 1 [v21] .non (.nd 171751877 1 [v13] .non (.nd 106818667 1 [v23] .non .lf .lf) (.nd 190940271 1 [v11] .non .lf .lf)) (.nd 318215656 1 [v24] .non (.nd 245599469 1 [v22] .non .lf .lf) .lf)) (.nd 773734500 1 [v25] .non (.nd 554739862 1 [v15] .non (.nd 449324759 1 [v8] .non .lf .lf) .lf) (.nd 881482804 1 [v20] .non (.nd 832312744 1 [v19] .non .lf .lf) .lf))
def t_whole_root : Tr := .nd 204232487 0 [(.int 1179396)] (.int 1086) (.nd 39993124 0 [(.int 4)] (.int 2) (.nd 31993100 0 [(.int 3)] .non (.nd 23993076 0 [(.int 2)] .non .lf .lf) .lf) (.nd 79993244 0 [(.int 9)] (.int 3) (.nd 55993172 0 [(.int 6)] .non .lf .lf) .lf)) (.nd 696019036 0 [(.int 1086)] .non (.nd 295993892 0 [(.int 36)] (.int 6) (.nd 271993820 0 [(.int 33)] .non .lf .lf) .lf) (.nd 720019108 0 [(.int 1089)] (.int 33) .lf .lf))
def t_some_root : Tr := .nd 402844271 0 [v25, v4] .non (.nd 273494975 0 [v8, v4] .non (.nd 181868693 2 [v23, v17] .non (.nd 75788535 1 [v21, v1] .non (.nd 64356154 3 [v19, v18] .non .lf .lf) (.nd 158640583 1 [v8, v35] v36 .lf .lf)) (.nd 237416858 0 [v20, v4] .non (.nd 191636328 1 [v24, v9] .non .lf .lf) (.nd 259234740 0 [v19, v4] .non .lf .lf))) (.nd 355122884 0 [v19, v37] v4 (.nd 333305002 0 [v20, v37] v4 (.nd 321192371 3 [v8, v7] .non .lf .lf) (.nd 352065845 2 [v22, v6] .non .lf .lf)) (.nd 371204953 0 [v23, v4] .non (.nd 369383119 0 [v8, v37] v4 .lf .lf) .lf))) (.nd 593467063 3 [v15, v14] .non (.nd 476612276 2 [v11, v10] .non (.nd 467093097 0 [v23, v37] v4 (.nd 434761848 1 [v25, v5] .non .lf .lf) (.nd 473938525 1 [v19, v5] .non .lf .lf)) (.nd 550609641 1 [v20, v16] .non (.nd 498732415 0 [v25, v37] v4 .lf .lf) .lf)) (.nd 850303280 3 [v13, v12] .non (.nd 775591446 1 [v8, v16] .non (.nd 646809428 2 [v3, v2] .non .lf .lf) (.nd 834251958 0 [v22, v4] .non .lf .lf)) (.nd 930140102 0 [v22, v37] v4 (.nd 880959705 1 [v19, v35] v36 .lf .lf) .lf)))
def t_lowest_in_1 : Tr := .nd 57229091 0 [v65] v59 (.nd 28069352 0 [v53] v53 (.nd 9536735 0 [v46] v46 (.nd 4084606 0 [v41] v41 (.nd 1316286 0 [v38] v39 .lf .lf) (.nd 6041214 0 [v40] v40 .lf .lf)) (.nd 20670585 0 [v45] v45 (.nd 19692224 0 [v42] v42 .lf .lf) (.nd 25288322 0 [v43] v44 .lf .lf))) (.nd 44642621 0 [v52] v52 (.nd 38646262 0 [v49] v49 (.nd 33508771 0 [v37] v37 .lf .lf) (.nd 39075696 0 [v47] v48 .lf .lf)) (.nd 52826527 0 [v51] v51 (.nd 51130543 0 [v50] v50 .lf .lf) .lf))) (.nd 92586693 0 [v44] v44 (.nd 74181582 0 [v58] v59 (.nd 63047732 0 [v55] v56 (.nd 62618298 0 [v54] v54 .lf .lf) (.nd 68614657 0 [v39] v39 .lf .lf)) (.nd 81201127 0 [v48] v48 (.nd 78742290 0 [v57] v57 .lf .lf) .lf)) (.nd 106257767 0 [v64] v64 (.nd 105173163 0 [v56] v56 (.nd 102714326 0 [v60] v60 .lf .lf) (.nd 105424879 0 [v61] v61 .lf .lf)) (.nd 116558729 0 [v63] v63 (.nd 115414831 0 [v62] v62 .lf .lf) .lf)))
def t_lowest_in_2 : Tr := .nd 194189758 0 [v94] v94 (.nd 140530765 0 [v80] v80 (.nd 129396915 0 [v72] v72 (.nd 128613576 0 [v69] v69 (.nd 122125654 0 [v66] v66 .lf .lf) (.nd 129145199 0 [v67] v68 .lf .lf)) (.nd 139420181 0 [v71] v71 (.nd 130266117 0 [v70] v5 .lf .lf) .lf)) (.nd 163392217 0 [v79] v79 (.nd 154238153 0 [v76] v16 (.nd 153117235 0 [v73] v74 .lf .lf) (.nd 158878847 0 [v75] v75 .lf .lf)) (.nd 189303983 0 [v78] v78 (.nd 182907912 0 [v77] v68 .lf .lf) .lf))) (.nd 213732858 0 [v93] v71 (.nd 208430928 0 [v86] v86 (.nd 201061307 0 [v83] v83 (.nd 196658743 0 [v81] v81 .lf .lf) (.nd 206879948 0 [v82] v74 .lf .lf)) (.nd 213276019 0 [v85] v85 (.nd 212195157 0 [v84] v59 .lf .lf) .lf)) (.nd 233076074 0 [v91] v92 (.nd 218161794 0 [v88] v88 (.nd 214006071 0 [v6] v6 .lf .lf) (.nd 225285059 0 [v87] v87 .lf .lf)) (.nd 236361880 0 [v90] v90 (.nd 235737674 0 [v89] v89 .lf .lf) .lf)))
def t_lowest_in_3 : Tr := .nd 117408053 0 [v28] v28 t_lowest_in_1 t_lowest_in_2
def t_lowest_in_4 : Tr := .nd 301143429 0 [v118] v119 (.nd 273229131 0 [v107] v107 (.nd 260390945 0 [v100] v100 (.nd 260139229 0 [v92] v92 (.nd 247988596 0 [v95] v95 .lf .lf) (.nd 260333916 0 [v96] v96 .lf .lf)) (.nd 265957870 0 [v98] v99 (.nd 262641094 0 [v97] v97 .lf .lf) .lf)) (.nd 290599187 0 [v106] v106 (.nd 284305952 0 [v103] v103 (.nd 283579642 0 [v101] v101 .lf .lf) (.nd 284362981 0 [v102] v102 .lf .lf)) (.nd 297258894 0 [v105] v105 (.nd 293705646 0 [v104] v104 .lf .lf) .lf))) (.nd 343485978 0 [v117] v117 (.nd 321230930 0 [v112] v112 (.nd 314571223 0 [v109] v109 (.nd 310604089 0 [v108] v108 .lf .lf) (.nd 316179232 0 [v2] v2 .lf .lf)) (.nd 333698944 0 [v110] v111 (.nd 321754375 0 [v17] v17 .lf .lf) .lf)) (.nd 374375455 0 [v36] v36 (.nd 353612714 0 [v114] v114 (.nd 344632860 0 [v7] v7 .lf .lf) (.nd 355736900 0 [v113] v113 .lf .lf)) (.nd 375942780 0 [v116] v116 (.nd 374860997 0 [v115] v115 .lf .lf) .lf)))
def t_lowest_in_5 : Tr := .nd 422319527 0 [v16] v16 (.nd 404166132 0 [v130] v130 (.nd 393089311 0 [v124] v124 (.nd 384113714 0 [v122] v59 (.nd 377584750 0 [v120] v120 .lf .lf) (.nd 391327946 0 [v121] v121 .lf .lf)) (.nd 399914816 0 [v123] v123 (.nd 398347491 0 [v5] v5 .lf .lf) .lf)) (.nd 417061347 0 [v129] v129 (.nd 408601138 0 [v12] v12 (.nd 405007198 0 [v125] v125 .lf .lf) (.nd 411860192 0 [v126] v126 .lf .lf)) (.nd 421593217 0 [v128] v128 (.nd 421205694 0 [v127] v127 .lf .lf) .lf))) (.nd 440781667 0 [v142] v37 (.nd 428138168 0 [v135] v135 (.nd 423886852 0 [v132] v132 (.nd 423785565 0 [v131] v131 .lf .lf) (.nd 423927536 0 [v10] v10 .lf .lf)) (.nd 432057786 0 [v134] v134 (.nd 428979234 0 [v133] v133 .lf .lf) .lf)) (.nd 459137910 0 [v141] v141 (.nd 453010739 0 [v138] v138 (.nd 452998029 0 [v136] v136 .lf .lf) (.nd 455751393 0 [v137] v137 .lf .lf)) (.nd 479723429 0 [v140] v140 (.nd 479417179 0 [v139] v51 .lf .lf) .lf)))
def t_lowest_in_6 : Tr := .nd 376232815 0 [v143] v75 t_lowest_in_4 t_lowest_in_5
def t_lowest_in_7 : Tr := .nd 237704894 0 [v144] v79 t_lowest_in_3 t_lowest_in_6
def t_lowest_in_8 : Tr := .nd 577285593 0 [v169] v169 (.nd 553313557 0 [v157] v157 (.nd 529341521 0 [v151] v151 (.nd 513315305 0 [v148] v41 (.nd 509202254 0 [v145] v146 .lf .lf) (.nd 514950411 0 [v147] v147 .lf .lf)) (.nd 543580532 0 [v150] v150 (.nd 536166379 0 [v99] v99 .lf .lf) (.nd 543747032 0 [v149] v149 .lf .lf))) (.nd 563499697 0 [v156] v156 (.nd 557809931 0 [v154] v154 (.nd 553571447 0 [v152] v152 .lf .lf) (.nd 560472290 0 [v153] v66 .lf .lf)) (.nd 567719068 0 [v146] v146 (.nd 567552568 0 [v155] v155 .lf .lf) .lf))) (.nd 608837635 0 [v168] v168 (.nd 589872063 0 [v163] v163 (.nd 584865599 0 [v160] v160 (.nd 584110451 0 [v158] v56 .lf .lf) (.nd 587471733 0 [v159] v159 .lf .lf)) (.nd 602355475 0 [v162] v162 (.nd 593511774 0 [v161] v161 .lf .lf) .lf)) (.nd 635824475 0 [v167] v134 (.nd 622698715 0 [v165] v165 (.nd 613844099 0 [v1] v1 .lf .lf) (.nd 631121657 0 [v164] v59 .lf .lf)) (.nd 637816135 0 [v9] v9 (.nd 636007432 0 [v166] v59 .lf .lf) .lf)))
def t_lowest_in_9 : Tr := .nd 683951504 0 [v197] v197 (.nd 667355096 0 [v183] v183 (.nd 657747217 0 [v175] v59 (.nd 655093693 0 [v172] v172 (.nd 651328836 0 [v170] v170 .lf .lf) (.nd 656026559 0 [v171] v68 .lf .lf)) (.nd 665609727 0 [v174] v174 (.nd 659979468 0 [v173] v173 .lf .lf) .lf)) (.nd 679522568 0 [v182] v182 (.nd 675300872 0 [v179] v179 (.nd 671778146 0 [v176] v177 .lf .lf) (.nd 679065729 0 [v178] v178 .lf .lf)) (.nd 683933828 0 [v181] v181 (.nd 679998595 0 [v180] v74 .lf .lf) .lf))) (.nd 705691289 0 [v196] v196 (.nd 701260078 0 [v189] v189 (.nd 687579248 0 [v186] v186 (.nd 686108659 0 [v184] v184 .lf .lf) (.nd 697620367 0 [v185] v185 .lf .lf)) (.nd 704725779 0 [v188] v188 (.nd 703494604 0 [v187] v187 .lf .lf) .lf)) (.nd 729578005 0 [v195] v195 (.nd 719296733 0 [v192] v192 (.nd 711551284 0 [v190] v190 .lf .lf) (.nd 721706773 0 [v191] v191 .lf .lf)) (.nd 741028336 0 [v194] v194 (.nd 730447019 0 [v193] v193 .lf .lf) .lf)))
def t_lowest_in_10 : Tr := .nd 639895104 0 [v198] v198 t_lowest_in_8 t_lowest_in_9
def t_lowest_in_11 : Tr := .nd 787524021 0 [v221] v74 (.nd 764665491 0 [v210] v210 (.nd 759517512 0 [v204] v204 (.nd 747643408 0 [v201] v201 (.nd 745678809 0 [v199] v199 .lf .lf) (.nd 750981837 0 [v200] v200 .lf .lf)) (.nd 763551985 0 [v203] v68 (.nd 761595933 0 [v202] v202 .lf .lf) .lf)) (.nd 775410712 0 [v209] v173 (.nd 769536475 0 [v206] v206 (.nd 767782888 0 [v31] v31 .lf .lf) (.nd 774953873 0 [v205] v205 .lf .lf)) (.nd 785567969 0 [v208] v208 (.nd 779839648 0 [v207] v207 .lf .lf) .lf))) (.nd 841311217 0 [v220] v220 (.nd 800316163 0 [v215] v85 (.nd 793508511 0 [v213] v213 (.nd 793367145 0 [v211] v59 .lf .lf) (.nd 799382748 0 [v212] v197 .lf .lf)) (.nd 822321162 0 [v214] v214 (.nd 805368671 0 [v35] v35 .lf .lf) .lf)) (.nd 865704526 0 [v68] v68 (.nd 857484077 0 [v217] v45 (.nd 841732490 0 [v59] v59 .lf .lf) (.nd 859691845 0 [v216] v216 .lf .lf)) (.nd 877284779 0 [v219] v219 (.nd 870510943 0 [v218] v218 .lf .lf) .lf)))
def t_lowest_in_12 : Tr := .nd 937620634 0 [v4] v4 (.nd 901911452 0 [v111] v111 (.nd 895719444 0 [v18] v18 (.nd 885841485 0 [v223] v223 (.nd 882851704 0 [v222] v222 .lf .lf) (.nd 889676562 0 [v74] v74 .lf .lf)) (.nd 901256815 0 [v225] v225 (.nd 896955984 0 [v224] v224 .lf .lf) .lf)) (.nd 917822882 0 [v231] v231 (.nd 909837897 0 [v228] v59 (.nd 908994318 0 [v226] v226 .lf .lf) (.nd 913648598 0 [v227] v227 .lf .lf)) (.nd 920222387 0 [v230] v107 (.nd 919215523 0 [v229] v59 .lf .lf) .lf))) (.nd 967159595 0 [v177] v177 (.nd 959687722 0 [v14] v14 (.nd 943382246 0 [v119] v119 (.nd 943187559 0 [v232] v232 .lf .lf) (.nd 957781969 0 [v233] v233 .lf .lf)) (.nd 963863834 0 [v235] v235 (.nd 961592670 0 [v234] v234 .lf .lf) .lf)) (.nd 985564706 0 [v0] v0 (.nd 977249368 0 [v238] v238 (.nd 967354282 0 [v236] v236 .lf .lf) (.nd 982751318 0 [v237] v237 .lf .lf)) (.nd 996698556 0 [v240] v59 (.nd 991326318 0 [v239] v239 .lf .lf) .lf)))
def t_lowest_in_13 : Tr := .nd 881456113 0 [v241] v52 t_lowest_in_11 t_lowest_in_12
def t_lowest_in_14 : Tr := .nd 743898729 0 [v242] v242 t_lowest_in_10 t_lowest_in_13
def t_lowest_in : Tr := .nd 488222307 0 [v243] v59 t_lowest_in_7 t_lowest_in_14
def t_halves_in_1 : Tr := .nd 102714326 0 [v60] (.tup [v132, v74]) (.nd 28069352 0 [v53] v251 (.nd 9659749 0 [v247] (.tup [v119, v50]) (.nd 4084606 0 [v41] v244 .lf .lf) (.nd 13225859 0 [v245] v246 .lf .lf)) (.nd 54770254 0 [v249] v250 (.nd 51130543 0 [v50] v248 .lf .lf) (.nd 78742290 0 [v57] (.tup [v132, v68]) .lf .lf))) (.nd 128613576 0 [v69] v259 (.nd 110513502 0 [v254] v255 (.nd 106257767 0 [v64] v252 .lf .lf) (.nd 117408053 0 [v28] v253 .lf .lf)) (.nd 208430928 0 [v86] v258 (.nd 158878847 0 [v75] v256 .lf .lf) (.nd 214006071 0 [v6] v257 .lf .lf)))
def t_halves_in_2 : Tr := .nd 284305952 0 [v103] (.tup [v72, v74]) (.nd 247988596 0 [v95] v265 (.nd 235737674 0 [v89] (.tup [v151, v50]) (.nd 226984254 0 [v260] v261 .lf .lf) (.nd 236361880 0 [v90] v262 .lf .lf)) (.nd 262641094 0 [v97] (.tup [v239, v50]) (.nd 260333916 0 [v96] (.tup [v72, v68]) .lf .lf) (.nd 281221083 1 [v263] (.tup [v31, v264]) .lf .lf))) (.nd 297408807 1 [v274] (.tup [v181, v174]) (.nd 292048904 0 [v269] (.tup [v270, v159]) (.nd 290599187 0 [v106] v266 .lf .lf) (.nd 295504060 0 [v267] v268 .lf .lf)) (.nd 314571223 0 [v109] v273 (.nd 310604089 0 [v108] v271 .lf .lf) (.nd 316179232 0 [v2] v272 .lf .lf)))
def t_halves_in_3 : Tr := .nd 222688411 1 [v275] (.tup [v223, v174]) t_halves_in_1 t_halves_in_2
def t_halves_in_4 : Tr := .nd 371721931 0 [v293] (.tup [v190, v68]) (.nd 343485978 0 [v117] (.tup [v151, v75]) (.nd 325758342 0 [v279] v281 (.nd 321754375 0 [v17] v276 .lf .lf) (.nd 338105952 0 [v277] v278 .lf .lf)) (.nd 355736900 0 [v113] v285 (.nd 344632860 0 [v7] v282 .lf .lf) (.nd 359239112 0 [v283] v284 .lf .lf))) (.nd 395693967 0 [v292] (.tup [v190, v74]) (.nd 379708936 0 [v288] (.tup [v44, v208]) (.nd 374375455 0 [v36] v286 .lf .lf) (.nd 391327946 0 [v121] v287 .lf .lf)) (.nd 404166132 0 [v130] (.tup [v72, v46]) (.nd 398347491 0 [v5] v289 .lf .lf) (.nd 404497415 0 [v290] v291 .lf .lf)))
def t_halves_in_5 : Tr := .nd 452998029 0 [v136] v309 (.nd 423785565 0 [v131] v299 (.nd 421593217 0 [v128] v296 (.nd 411860192 0 [v126] v294 .lf .lf) (.nd 422319527 0 [v16] v295 .lf .lf)) (.nd 428138168 0 [v135] (.tup [v72, v37]) (.nd 423927536 0 [v10] v297 .lf .lf) (.nd 428979234 0 [v133] v298 .lf .lf))) (.nd 462691457 0 [v307] v308 (.nd 455751393 0 [v137] v301 (.nd 453010739 0 [v138] v300 .lf .lf) (.nd 459137910 0 [v141] (.tup [v104, v59]) .lf .lf)) (.nd 479723429 0 [v140] v306 (.nd 470888878 0 [v302] v303 .lf .lf) (.nd 507635771 0 [v304] v305 .lf .lf)))
def t_halves_in_6 : Tr := .nd 408601138 0 [v12] v310 t_halves_in_4 t_halves_in_5
def t_halves_in_7 : Tr := .nd 321230930 0 [v112] (.tup [v94, v197]) t_halves_in_3 t_halves_in_6
def t_halves_in_8 : Tr := .nd 563499697 0 [v156] v326 (.nd 543580532 0 [v150] v318 (.nd 531607807 0 [v314] (.tup [v78, v178]) (.nd 529341521 0 [v151] v311 .lf .lf) (.nd 536682014 0 [v312] v313 .lf .lf)) (.nd 557809931 0 [v154] v317 (.nd 553313557 0 [v157] (.tup [v129, v68]) .lf .lf) (.nd 561265087 0 [v315] (.tup [v219, v109]) .lf .lf))) (.nd 587471733 0 [v159] v325 (.nd 577285593 0 [v169] (.tup [v129, v74]) (.nd 567552568 0 [v155] v319 .lf .lf) (.nd 580145220 0 [v320] v321 .lf .lf)) (.nd 591519369 0 [v323] (.tup [v324, v112]) (.nd 589872063 0 [v163] v322 .lf .lf) (.nd 602355475 0 [v162] (.tup [v247, v41]) .lf .lf)))
def t_halves_in_9 : Tr := .nd 667355096 0 [v183] (.tup [v87, v59]) (.nd 637816135 0 [v9] v332 (.nd 622698715 0 [v165] (.tup [v90, v50]) (.nd 615384075 0 [v316] v327 .lf .lf) (.nd 628118870 0 [v328] v329 .lf .lf)) (.nd 651328836 0 [v170] v331 (.nd 639356111 0 [v270] (.tup [v85, v178]) .lf .lf) (.nd 665609727 0 [v174] v330 .lf .lf))) (.nd 697620367 0 [v185] (.tup [v46, v59]) (.nd 683933828 0 [v181] (.tup [v97, v111]) (.nd 675300872 0 [v179] v333 .lf .lf) (.nd 697593866 0 [v264] v334 .lf .lf)) (.nd 719296733 0 [v192] (.tup [v183, v119]) (.nd 701260078 0 [v189] v335 .lf .lf) (.nd 729578005 0 [v195] v336 .lf .lf)))
def t_halves_in_10 : Tr := .nd 613844099 0 [v1] v337 t_halves_in_8 t_halves_in_9
def t_halves_in_11 : Tr := .nd 805368671 0 [v35] v350 (.nd 759517512 0 [v204] (.tup [v185, v119]) (.nd 741028336 0 [v194] (.tup [v214, v119]) (.nd 732748443 0 [v338] v339 .lf .lf) (.nd 743898729 0 [v242] (.tup [v236, v75]) .lf .lf)) (.nd 767782888 0 [v31] v342 (.nd 762308332 0 [v340] (.tup [v16, v179]) .lf .lf) (.nd 790147352 0 [v341] (.tup [v102, v45]) .lf .lf))) (.nd 877284779 0 [v219] v349 (.nd 821469894 0 [v345] v346 (.nd 814119388 0 [v343] v344 .lf .lf) (.nd 822321162 0 [v214] (.tup [v188, v59]) .lf .lf)) (.nd 885841485 0 [v223] (.tup [v28, v136]) (.nd 882851704 0 [v222] v347 .lf .lf) (.nd 895719444 0 [v18] v348 .lf .lf)))
def t_halves_in_12 : Tr := .nd 958020285 0 [v280] v366 (.nd 941673628 0 [v357] v358 (.nd 917822882 0 [v231] v352 (.nd 901911452 0 [v111] v351 .lf .lf) (.nd 934048249 0 [v324] (.tup [v120, v200]) .lf .lf)) (.nd 951643421 1 [v33] v356 (.nd 943382246 0 [v119] v353 .lf .lf) (.nd 953599001 0 [v354] v355 .lf .lf))) (.nd 972696896 0 [v364] v365 (.nd 963863834 0 [v235] (.tup [v69, v119]) (.nd 959687722 0 [v14] v359 .lf .lf) (.nd 967354282 0 [v236] v360 .lf .lf)) (.nd 982751318 0 [v237] v363 (.nd 974893581 0 [v361] v362 .lf .lf) (.nd 991326318 0 [v239] (.tup [v59, v74]) .lf .lf)))
def t_halves_in_13 : Tr := .nd 901256815 0 [v225] v367 t_halves_in_11 t_halves_in_12
def t_halves_in_14 : Tr := .nd 730447019 0 [v193] (.tup [v90, v75]) t_halves_in_10 t_halves_in_13
def t_halves_in : Tr := .nd 514950411 0 [v147] v368 t_halves_in_7 t_halves_in_14
def t_times_in_1 : Tr := .nd 32025956 0 [v3, v4, v59] v59 (.nd 9212621 0 [v23, v4, v56] v74 (.nd 5039734 0 [v8, v4, v99] v56 (.nd 1452975 1 [v23, v50, v50] v75 (.nd 643492 1 [v15, v75, v163] v163 .lf .lf) (.nd 2210001 0 [v20, v74, v4] v4 .lf .lf)) (.nd 7713499 0 [v15, v72, v59] v59 (.nd 5242373 0 [v21, v74, v0] v0 .lf .lf) .lf)) (.nd 20794426 1 [v22, v75, v75] v75 (.nd 11841561 0 [v15, v146, v59] v59 (.nd 10812246 0 [v8, v46, v59] v59 .lf .lf) .lf) (.nd 26570826 0 [v19, v227, v59] v59 (.nd 20798314 0 [v19, v59, v99] v59 .lf .lf) .lf))) (.nd 48587564 1 [v15, v75, v9] v9 (.nd 43928809 0 [v11, v68, v59] v59 (.nd 37408847 0 [v11, v59, v39] v59 (.nd 33662687 0 [v22, v4, v59] v59 .lf .lf) (.nd 43047542 1 [v13, v163, v119] v119 .lf .lf)) (.nd 45565540 0 [v23, v68, v59] v59 (.nd 45303146 1 [v8, v35, v35] v121 .lf .lf) .lf)) (.nd 56609370 0 [v19, v74, v56] v56 (.nd 56028357 1 [v11, v163, v163] v222 (.nd 55619063 2 [v19, v64, v64] v108 .lf .lf) .lf) (.nd 57908059 1 [v11, v50, v50] v75 (.nd 57634723 0 [v22, v4, v68] v227 .lf .lf) .lf)))
def t_times_in_2 : Tr := .nd 84794395 1 [v19, v119, v225] v119 (.nd 69537576 0 [v23, v68, v68] v74 (.nd 63055395 1 [v8, v75, v36] v36 (.nd 61380883 0 [v11, v59, v44] v59 (.nd 60798573 0 [v19, v87, v59] v59 .lf .lf) (.nd 62474444 0 [v13, v146, v59] v59 .lf .lf)) (.nd 67900845 0 [v11, v68, v68] v74 (.nd 65409877 1 [v19, v183, v126] v35 .lf .lf) .lf)) (.nd 77249510 1 [v3, v75, v75] v75 (.nd 77203709 0 [v8, v227, v59] v59 (.nd 71431197 0 [v8, v59, v99] v59 .lf .lf) .lf) (.nd 81606759 0 [v22, v4, v74] v4 (.nd 80833122 0 [v19, v74, v72] v72 .lf .lf) .lf))) (.nd 100054150 0 [v22, v59, v59] v59 (.nd 93509612 0 [v23, v68, v74] v68 (.nd 91440964 1 [v8, v185, v119] v119 (.nd 87027431 1 [v8, v75, v5] v5 .lf .lf) (.nd 91872881 0 [v11, v68, v74] v68 .lf .lf)) (.nd 98417419 0 [v3, v59, v59] v59 (.nd 97928978 0 [v22, v87, v56] v37 .lf .lf) .lf)) (.nd 118158804 2 [v15, v41, v86] v86 (.nd 111431456 0 [v8, v87, v59] v59 (.nd 101360462 1 [v19, v119, v231] v119 .lf .lf) .lf) (.nd 124026186 0 [v22, v59, v68] v59 (.nd 122389455 0 [v3, v59, v68] v59 .lf .lf) .lf)))
def t_times_in_3 : Tr := .nd 58346382 0 [v13, v72, v59] v59 t_times_in_1 t_times_in_2
def t_times_in_4 : Tr := .nd 168387313 1 [v22, v50, v5] v109 (.nd 141453684 0 [v23, v68, v4] v227 (.nd 138282824 1 [v13, v119, v163] v119 (.nd 127983615 0 [v19, v46, v46] v168 (.nd 127190036 0 [v19, v72, v59] v59 .lf .lf) (.nd 129550831 0 [v22, v4, v4] v37 .lf .lf)) (.nd 140896713 0 [v24, v74, v74] v74 (.nd 140496425 0 [v15, v4, v59] v59 .lf .lf) .lf)) (.nd 147998222 0 [v22, v59, v74] v59 (.nd 146361491 0 [v3, v59, v74] v59 (.nd 144415277 1 [v22, v50, v36] v369 .lf .lf) .lf) (.nd 163794836 1 [v13, v119, v316] v119 (.nd 159047512 0 [v22, v37, v37] v168 .lf .lf) .lf))) (.nd 186907462 0 [v3, v72, v72] v146 (.nd 177822919 0 [v8, v72, v59] v59 (.nd 170402161 1 [v15, v119, v119] v119 (.nd 170393394 0 [v24, v0, v0] v107 .lf .lf) (.nd 175134108 0 [v19, v72, v74] v72 .lf .lf)) (.nd 185719254 2 [v15, v136, v136] v41 (.nd 185040200 1 [v15, v119, v280] v119 .lf .lf) .lf)) (.nd 189527717 0 [v25, v4, v74] v4 (.nd 188544193 0 [v22, v72, v72] v146 (.nd 187761025 0 [v11, v68, v0] v234 .lf .lf) .lf) (.nd 193581499 0 [v19, v37, v59] v59 (.nd 191129308 0 [v13, v4, v59] v59 .lf .lf) .lf)))
def t_times_in_5 : Tr := .nd 237471789 0 [v25, v4, v4] v37 (.nd 218795583 1 [v19, v50, v119] v119 (.nd 201794955 0 [v8, v72, v68] v61 (.nd 195942294 0 [v22, v59, v4] v59 (.nd 194744783 2 [v15, v147, v147] v320 .lf .lf) (.nd 201077036 1 [v23, v75, v75] v75 .lf .lf)) (.nd 210939482 0 [v11, v0, v59] v59 (.nd 206887888 0 [v15, v59, v59] v59 .lf .lf) .lf)) (.nd 230859924 0 [v15, v59, v68] v59 (.nd 230158581 1 [v13, v50, v163] v370 (.nd 226341480 1 [v19, v36, v179] v16 .lf .lf) .lf) (.nd 236784857 0 [v24, v74, v0] v0 (.nd 234668130 1 [v19, v119, v50] v119 .lf .lf) .lf))) (.nd 253772716 1 [v11, v90, v90] v189 (.nd 244216004 0 [v13, v132, v132] v51 (.nd 244214382 0 [v8, v37, v59] v59 (.nd 242249635 0 [v3, v59, v0] v59 .lf .lf) .lf) (.nd 253157171 0 [v11, v59, v102] v59 (.nd 246806909 1 [v8, v36, v36] v35 .lf .lf) .lf)) (.nd 257532120 1 [v11, v75, v75] v75 (.nd 257520771 0 [v13, v59, v59] v59 (.nd 254831960 0 [v15, v59, v74] v59 .lf .lf) .lf) (.nd 260263070 1 [v22, v75, v5] v5 (.nd 259972962 0 [v19, v4, v59] v59 .lf .lf) .lf)))
def t_times_in_6 : Tr := .nd 193583121 0 [v15, v132, v132] v51 t_times_in_4 t_times_in_5
def t_times_in_7 : Tr := .nd 126919826 1 [v19, v119, v119] v119 t_times_in_3 t_times_in_6
def t_times_in_8 : Tr := .nd 302776032 0 [v15, v59, v4] v59 (.nd 278967676 0 [v23, v74, v59] v59 (.nd 276855807 0 [v19, v48, v74] v48 (.nd 272911238 1 [v15, v90, v119] v119 (.nd 264927447 2 [v8, v136, v64] v371 .lf .lf) (.nd 275397505 0 [v3, v129, v129] v199 .lf .lf)) (.nd 278150465 1 [v15, v119, v50] v119 (.nd 277330945 0 [v11, v74, v59] v59 .lf .lf) .lf)) (.nd 283944998 0 [v19, v4, v68] v227 (.nd 282770436 1 [v13, v151, v151] v361 (.nd 281492807 0 [v13, v59, v68] v59 .lf .lf) .lf) (.nd 295377931 0 [v15, v72, v72] v146 (.nd 290289244 1 [v13, v36, v36] v35 .lf .lf) .lf))) (.nd 324239253 0 [v19, v87, v56] v37 (.nd 310605845 0 [v8, v4, v59] v59 (.nd 305464843 0 [v13, v59, v74] v59 (.nd 302939712 0 [v23, v74, v68] v68 .lf .lf) (.nd 307917034 0 [v19, v4, v74] v4 .lf .lf)) (.nd 322034338 1 [v13, v75, v163] v163 (.nd 310671340 1 [v19, v75, v119] v119 .lf .lf) .lf)) (.nd 326364425 0 [v19, v59, v59] v59 (.nd 325275017 0 [v11, v74, v74] v74 (.nd 324799879 0 [v19, v48, v4] v68 .lf .lf) .lf) (.nd 326911748 0 [v23, v74, v74] v74 (.nd 326543887 1 [v19, v50, v50] v75 .lf .lf) .lf)))
def t_times_in_9 : Tr := .nd 353408915 0 [v13, v59, v4] v59 (.nd 346006374 1 [v13, v75, v1] v1 (.nd 334577881 0 [v8, v4, v68] v227 (.nd 333456286 0 [v22, v68, v59] v59 (.nd 332314993 0 [v15, v59, v177] v59 .lf .lf) (.nd 333655412 2 [v15, v41, v10] v10 .lf .lf)) (.nd 342416434 1 [v19, v119, v75] v119 (.nd 339760937 2 [v8, v41, v41] v41 .lf .lf) .lf)) (.nd 350336461 0 [v19, v59, v68] v59 (.nd 349271629 0 [v3, v59, v44] v59 (.nd 346010814 0 [v13, v72, v72] v146 .lf .lf) .lf) (.nd 352685021 0 [v13, v68, v187] v182 (.nd 350720104 0 [v15, v59, v0] v59 .lf .lf) .lf))) (.nd 358549917 0 [v8, v4, v74] v4 (.nd 355791591 0 [v3, v68, v68] v74 (.nd 354771698 0 [v11, v0, v0] v107 (.nd 354153675 1 [v15, v75, v119] v119 .lf .lf) .lf) (.nd 357428322 0 [v22, v68, v68] v74 (.nd 355861106 0 [v19, v4, v4] v37 .lf .lf) .lf)) (.nd 374308497 0 [v19, v59, v74] v59 (.nd 370026222 1 [v15, v50, v50] v75 (.nd 368146520 1 [v15, v163, v163] v222 .lf .lf) .lf) (.nd 374872136 0 [v8, v87, v56] v37 (.nd 374855820 0 [v23, v74, v4] v4 .lf .lf) .lf)))
def t_times_in_10 : Tr := .nd 331819555 0 [v3, v68, v59] v59 t_times_in_8 t_times_in_9
def t_times_in_11 : Tr := .nd 405024325 0 [v25, v4, v56] v74 (.nd 385898769 1 [v15, v119, v75] v119 (.nd 382213205 1 [v8, v119, v219] v119 (.nd 376997308 0 [v8, v59, v59] v59 (.nd 376919851 0 [v23, v168, v4] v116 .lf .lf) (.nd 381400358 0 [v22, v68, v74] v68 .lf .lf)) (.nd 382947876 0 [v13, v59, v177] v59 (.nd 382521953 0 [v8, v4, v227] v46 .lf .lf) .lf)) (.nd 398821395 1 [v23, v35, v35] v121 (.nd 398280533 0 [v19, v59, v227] v59 (.nd 386800723 1 [v8, v183, v126] v35 .lf .lf) .lf) (.nd 401352987 0 [v13, v59, v0] v59 (.nd 400969344 0 [v8, v59, v68] v59 .lf .lf) .lf))) (.nd 421163161 0 [v11, v74, v0] v0 (.nd 416573644 1 [v23, v75, v36] v36 (.nd 414854468 0 [v19, v72, v72] v146 (.nd 406493989 0 [v8, v4, v4] v37 .lf .lf) (.nd 416366969 1 [v3, v50, v163] v370 .lf .lf)) (.nd 421070201 0 [v20, v4, v74] v4 (.nd 420042548 1 [v22, v36, v36] v35 .lf .lf) .lf)) (.nd 424941380 0 [v8, v59, v74] v59 (.nd 422751308 1 [v8, v119, v231] v119 (.nd 422252569 0 [v19, v59, v4] v59 .lf .lf) .lf) (.nd 434292191 1 [v19, v50, v75] v50 (.nd 429344430 0 [v22, v68, v4] v227 .lf .lf) .lf)))
def t_times_in_12 : Tr := .nd 475651771 0 [v3, v68, v0] v234 (.nd 465487351 0 [v8, v72, v72] v146 (.nd 464262060 0 [v15, v68, v68] v74 (.nd 448310672 1 [v8, v119, v119] v119 (.nd 440290024 0 [v15, v68, v59] v59 .lf .lf) (.nd 448913416 0 [v8, v59, v227] v59 .lf .lf)) (.nd 465349280 0 [v25, v68, v68] v74 (.nd 464517716 1 [v23, v75, v16] v16 .lf .lf) .lf)) (.nd 472885452 0 [v8, v59, v4] v59 (.nd 470328568 0 [v15, v59, v56] v59 (.nd 469014273 0 [v20, v4, v4] v37 .lf .lf) .lf) (.nd 474136774 1 [v19, v119, v106] v119 (.nd 473974670 0 [v19, v37, v66] v99 .lf .lf) .lf))) (.nd 491793007 1 [v13, v119, v119] v119 (.nd 488234096 0 [v15, v68, v74] v68 (.nd 482459010 1 [v13, v119, v324] v119 (.nd 477774526 1 [v15, v50, v75] v50 .lf .lf) .lf) (.nd 490922907 0 [v13, v68, v59] v59 (.nd 489321316 0 [v25, v68, v74] v68 .lf .lf) .lf)) (.nd 498830228 0 [v3, v0, v59] v59 (.nd 494552320 0 [v15, v59, v72] v59 (.nd 494422854 1 [v19, v36, v119] v119 .lf .lf) .lf) (.nd 504575586 0 [v15, v59, v71] v59 (.nd 502426327 1 [v13, v69, v119] v119 .lf .lf) .lf)))
def t_times_in_13 : Tr := .nd 435990670 0 [v8, v37, v37] v168 t_times_in_11 t_times_in_12
def t_times_in_14 : Tr := .nd 375432762 0 [v8, v48, v4] v68 t_times_in_10 t_times_in_13
def t_times_in_15 : Tr := .nd 262277918 1 [v15, v50, v119] v119 t_times_in_7 t_times_in_14
def t_times_in_16 : Tr := .nd 537905189 1 [v15, v36, v119] v119 (.nd 524607553 0 [v8, v37, v66] v99 (.nd 520961451 0 [v13, v59, v56] v59 (.nd 514894943 0 [v13, v68, v68] v74 (.nd 510750399 0 [v15, v182, v74] v182 .lf .lf) (.nd 518140713 0 [v19, v59, v37] v59 .lf .lf)) (.nd 523413642 0 [v19, v4, v56] v74 (.nd 521213167 0 [v13, v59, v61] v59 .lf .lf) .lf)) (.nd 532214762 1 [v3, v75, v1] v1 (.nd 528547622 0 [v15, v59, v79] v59 (.nd 526167948 1 [v19, v75, v75] v75 .lf .lf) .lf) (.nd 537265388 0 [v25, v68, v4] v227 (.nd 535454274 0 [v15, v74, v187] v187 .lf .lf) .lf))) (.nd 555208469 0 [v13, v59, v71] v59 (.nd 545185203 0 [v13, v59, v72] v59 (.nd 541047917 0 [v3, v59, v102] v59 (.nd 540186429 1 [v8, v50, v119] v119 .lf .lf) (.nd 544801560 0 [v8, v59, v46] v59 .lf .lf)) (.nd 554459388 0 [v15, v59, v78] v59 (.nd 549682402 2 [v8, v41, v6] v6 .lf .lf) .lf)) (.nd 559766561 0 [v19, v68, v59] v59 (.nd 557913042 1 [v19, v119, v36] v119 (.nd 556058976 1 [v8, v119, v50] v119 .lf .lf) .lf) (.nd 565890879 1 [v15, v90, v90] v189 (.nd 565221691 0 [v3, v74, v59] v59 .lf .lf) .lf)))
def t_times_in_17 : Tr := .nd 589805105 0 [v19, v59, v56] v59 (.nd 579180505 0 [v13, v59, v79] v59 (.nd 574046525 0 [v8, v4, v56] v74 (.nd 568773596 0 [v8, v59, v37] v59 (.nd 566858422 0 [v22, v74, v59] v59 .lf .lf) (.nd 569650283 1 [v15, v75, v75] v75 .lf .lf)) (.nd 578431424 0 [v15, v59, v85] v59 (.nd 575136981 0 [v15, v124, v59] v59 .lf .lf) .lf)) (.nd 583738597 0 [v19, v68, v68] v74 (.nd 583668764 1 [v13, v50, v119] v119 (.nd 583317199 0 [v15, v59, v88] v59 .lf .lf) .lf) (.nd 589193727 0 [v3, v74, v68] v68 (.nd 584122240 0 [v15, v68, v0] v234 .lf .lf) .lf))) (.nd 605857114 1 [v19, v119, v16] v119 (.nd 599541311 1 [v13, v119, v50] v119 (.nd 599432607 2 [v19, v41, v41] v41 (.nd 590830458 0 [v22, v74, v68] v68 .lf .lf) .lf) (.nd 600406670 0 [v11, v202, v0] v45 (.nd 600325158 1 [v23, v36, v36] v35 .lf .lf) .lf)) (.nd 607300697 0 [v15, v0, v59] v59 (.nd 606757596 0 [v19, v59, v66] v59 (.nd 606638543 0 [v15, v182, v0] v173 .lf .lf) .lf) (.nd 609364728 0 [v15, v188, v59] v59 (.nd 607710633 0 [v19, v68, v74] v68 .lf .lf) .lf)))
def t_times_in_18 : Tr := .nd 566513738 2 [v13, v86, v86] v345 t_times_in_16 t_times_in_17
def t_times_in_19 : Tr := .nd 642662444 0 [v3, v0, v0] v107 (.nd 629064307 0 [v13, v59, v85] v59 (.nd 613165763 0 [v3, v74, v74] v74 (.nd 611352291 0 [v11, v72, v59] v59 (.nd 610399444 0 [v8, v68, v59] v59 .lf .lf) (.nd 611667709 2 [v8, v136, v136] v41 .lf .lf)) (.nd 614802494 0 [v22, v74, v74] v74 (.nd 614028857 0 [v19, v59, v72] v59 .lf .lf) .lf)) (.nd 634755123 0 [v13, v68, v0] v234 (.nd 634371480 0 [v8, v68, v68] v74 (.nd 632062186 1 [v8, v75, v119] v119 .lf .lf) .lf) (.nd 641610591 1 [v3, v163, v113] v341 (.nd 640437988 0 [v8, v59, v56] v59 .lf .lf) .lf))) (.nd 657271426 0 [v13, v182, v0] v173 (.nd 654140819 2 [v13, v41, v41] v41 (.nd 649788799 1 [v19, v50, v36] v369 (.nd 647934733 1 [v8, v50, v50] v75 .lf .lf) (.nd 651980064 0 [v21, v68, v68] v74 .lf .lf)) (.nd 655654705 0 [v19, v68, v4] v227 (.nd 654613259 0 [v19, v46, v99] v68 .lf .lf) .lf)) (.nd 658343516 0 [v8, v68, v74] v68 (.nd 657933580 0 [v13, v0, v59] v59 (.nd 657390479 0 [v8, v59, v66] v59 .lf .lf) .lf) (.nd 662746566 0 [v22, v74, v4] v4 (.nd 659997611 0 [v13, v188, v59] v59 .lf .lf) .lf)))
def t_times_in_20 : Tr := .nd 696995929 1 [v22, v36, v170] v5 (.nd 679380485 0 [v23, v37, v59] v59 (.nd 669741363 0 [v15, v71, v59] v59 (.nd 664810597 0 [v22, v168, v4] v116 (.nd 664661740 0 [v8, v59, v72] v59 .lf .lf) (.nd 665840901 0 [v3, v61, v59] v59 .lf .lf)) (.nd 675544521 1 [v13, v75, v119] v119 (.nd 673692160 0 [v15, v74, v59] v59 .lf .lf) .lf)) (.nd 688525336 1 [v11, v75, v163] v163 (.nd 682315552 0 [v8, v68, v227] v4 (.nd 681480490 2 [v13, v136, v86] v372 .lf .lf) .lf) (.nd 691417068 1 [v13, v50, v50] v75 (.nd 689537366 1 [v13, v163, v163] v222 .lf .lf) .lf))) (.nd 709919462 1 [v19, v36, v75] v36 (.nd 706287588 0 [v8, v68, v4] v227 (.nd 701605768 2 [v19, v41, v64] v64 (.nd 697732871 1 [v19, v50, v16] v106 .lf .lf) .lf) (.nd 709053907 0 [v3, v74, v0] v0 (.nd 707289615 1 [v13, v119, v75] v119 .lf .lf) .lf)) (.nd 721636232 0 [v15, v74, v74] v74 (.nd 717758985 2 [v8, v64, v53] v315 (.nd 717685435 0 [v15, v71, v74] v71 .lf .lf) .lf) (.nd 723912307 1 [v19, v35, v35] v121 (.nd 721656703 1 [v15, v163, v119] v119 .lf .lf) .lf)))
def t_times_in_21 : Tr := .nd 663807280 1 [v8, v119, v75] v119 t_times_in_19 t_times_in_20
def t_times_in_22 : Tr := .nd 609978046 0 [v13, v59, v94] v59 t_times_in_18 t_times_in_21
def t_times_in_23 : Tr := .nd 771840244 0 [v21, v68, v0] v234 (.nd 744135217 0 [v11, v4, v59] v59 (.nd 739810490 1 [v8, v75, v50] v50 (.nd 734655693 1 [v15, v119, v304] v119 (.nd 733869095 0 [v22, v46, v59] v59 .lf .lf) (.nd 736469408 1 [v11, v75, v9] v9 .lf .lf)) (.nd 742740155 0 [v15, v59, v120] v59 (.nd 741664556 1 [v19, v75, v36] v36 .lf .lf) .lf)) (.nd 751132913 0 [v15, v0, v0] v107 (.nd 748297079 0 [v13, v74, v68] v68 (.nd 745771948 0 [v23, v4, v59] v59 .lf .lf) .lf) (.nd 770667524 0 [v25, v74, v4] v4 (.nd 769743984 0 [v23, v4, v68] v227 .lf .lf) .lf))) (.nd 793716020 0 [v23, v4, v74] v4 (.nd 789608628 1 [v19, v75, v16] v16 (.nd 782216752 0 [v15, v59, v129] v59 (.nd 772269115 0 [v13, v74, v74] v74 .lf .lf) (.nd 783292825 1 [v13, v75, v50] v50 .lf .lf)) (.nd 793373038 0 [v13, v59, v120] v59 (.nd 793168697 0 [v19, v74, v59] v59 .lf .lf) .lf)) (.nd 795947400 2 [v8, v64, v64] v108 (.nd 795232728 0 [v19, v168, v59] v59 (.nd 794488046 0 [v22, v59, v99] v59 .lf .lf) .lf) (.nd 801765796 0 [v13, v0, v0] v107 (.nd 797213191 0 [v15, v59, v134] v59 .lf .lf) .lf)))
def t_times_in_24 : Tr := .nd 826185408 2 [v15, v86, v86] v345 (.nd 816891985 1 [v15, v119, v163] v119 (.nd 812163411 0 [v23, v59, v59] v59 (.nd 810526680 0 [v11, v59, v59] v59 (.nd 810038239 0 [v23, v87, v56] v37 .lf .lf) (.nd 810598865 0 [v23, v48, v4] v68 .lf .lf)) (.nd 815813700 1 [v8, v36, v119] v119 (.nd 813573579 0 [v15, v71, v0] v94 .lf .lf) .lf)) (.nd 821170372 1 [v22, v50, v50] v75 (.nd 817524376 0 [v15, v74, v0] v0 (.nd 817140733 0 [v19, v74, v68] v68 .lf .lf) .lf) (.nd 824944253 0 [v13, v61, v59] v59 (.nd 824158363 0 [v15, v78, v59] v59 .lf .lf) .lf))) (.nd 841660092 0 [v23, v4, v4] v37 (.nd 834930321 0 [v15, v4, v99] v56 (.nd 834498716 0 [v11, v59, v68] v59 (.nd 832849635 0 [v13, v59, v129] v59 .lf .lf) .lf) (.nd 841112769 0 [v19, v74, v74] v74 (.nd 836135447 0 [v23, v59, v68] v59 .lf .lf) .lf)) (.nd 845865611 0 [v8, v168, v59] v59 (.nd 843801580 0 [v8, v74, v59] v59 (.nd 843176800 0 [v19, v168, v74] v168 .lf .lf) .lf) (.nd 847846074 0 [v13, v59, v134] v59 (.nd 847558794 1 [v8, v75, v75] v75 .lf .lf) .lf)))
def t_times_in_25 : Tr := .nd 808539117 0 [v15, v129, v59] v59 t_times_in_23 t_times_in_24
def t_times_in_26 : Tr := .nd 877625456 1 [v3, v50, v50] v75 (.nd 868157259 0 [v13, v74, v0] v0 (.nd 861925882 1 [v19, v35, v119] v119 (.nd 859296035 1 [v13, v36, v119] v119 (.nd 859172000 0 [v13, v129, v59] v59 .lf .lf) (.nd 860107483 0 [v23, v59, v74] v59 .lf .lf)) (.nd 867773616 0 [v8, v74, v68] v68 (.nd 866376033 1 [v15, v119, v270] v119 .lf .lf) .lf)) (.nd 873840124 0 [v8, v68, v56] v48 (.nd 871339379 2 [v19, v136, v136] v41 (.nd 869837647 0 [v8, v168, v68] v160 .lf .lf) .lf) (.nd 875745754 1 [v3, v163, v163] v222 (.nd 874791246 0 [v13, v78, v59] v59 .lf .lf) .lf))) (.nd 891745652 0 [v8, v74, v74] v74 (.nd 889056841 0 [v19, v74, v4] v4 (.nd 885563204 0 [v13, v4, v99] v56 (.nd 879303888 1 [v8, v119, v36] v119 .lf .lf) (.nd 887281725 1 [v13, v90, v90] v189 .lf .lf)) (.nd 891120872 0 [v19, v168, v4] v116 (.nd 891041129 1 [v13, v75, v75] v75 .lf .lf) .lf)) (.nd 900653454 0 [v23, v72, v72] v146 (.nd 899016723 0 [v11, v72, v72] v146 (.nd 898063876 0 [v8, v68, v72] v61 .lf .lf) .lf) (.nd 903275924 1 [v8, v119, v5] v119 (.nd 901321784 0 [v15, v59, v99] v59 .lf .lf) .lf)))
def t_times_in_27 : Tr := .nd 953776382 0 [v13, v79, v59] v59 (.nd 926047591 2 [v13, v136, v136] v41 (.nd 920445806 0 [v21, v0, v177] v56 (.nd 915892741 1 [v13, v86, v154] v323 (.nd 913812489 2 [v15, v41, v41] v41 .lf .lf) (.nd 917102376 2 [v19, v41, v17] v17 .lf .lf)) (.nd 925416070 1 [v19, v36, v36] v35 (.nd 923562004 1 [v8, v36, v50] v369 .lf .lf) .lf)) (.nd 939689724 0 [v8, v74, v4] v4 (.nd 938850917 0 [v21, v0, v0] v107 (.nd 938648278 0 [v8, v37, v99] v74 .lf .lf) .lf) (.nd 951954667 0 [v13, v59, v99] v59 (.nd 941753755 0 [v8, v168, v4] v116 .lf .lf) .lf))) (.nd 966235445 2 [v13, v41, v2] v2 (.nd 954406858 0 [v19, v4, v99] v56 (.nd 954358896 0 [v11, v59, v0] v59 (.nd 954265936 0 [v20, v74, v74] v74 .lf .lf) .lf) (.nd 961379597 1 [v15, v151, v151] v361 (.nd 960179370 0 [v19, v46, v59] v59 .lf .lf) .lf)) (.nd 971179645 1 [v8, v50, v36] v369 (.nd 968898405 1 [v15, v36, v36] v35 (.nd 967991989 2 [v19, v108, v108] v312 .lf .lf) .lf) (.nd 995151681 1 [v8, v50, v5] v109 (.nd 973360142 1 [v19, v36, v16] v225 .lf .lf) .lf)))
def t_times_in_28 : Tr := .nd 908051555 0 [v23, v59, v4] v59 t_times_in_26 t_times_in_27
def t_times_in_29 : Tr := .nd 858470752 0 [v11, v59, v74] v59 t_times_in_25 t_times_in_28
def t_times_in_30 : Tr := .nd 724325043 0 [v13, v74, v59] v59 t_times_in_22 t_times_in_29
def t_times_in : Tr := .nd 506597300 0 [v23, v59, v99] v59 t_times_in_15 t_times_in_30
def t_plus_in_1 : Tr := .nd 112824712 0 [v111, v111] v111 (.nd 56673464 0 [v59, v0] v0 (.nd 22797969 0 [v119, v119] v119 (.nd 8729392 0 [v59, v4] v4 (.nd 1331291 0 [v72, v72] v129 .lf .lf) .lf) (.nd 48790694 0 [v56, v59] v56 .lf .lf)) (.nd 71097281 0 [v52, v59] v52 (.nd 65966206 0 [v210, v0] (.tup [(.int 1), (.int 1524)]) (.nd 59446171 0 [v16, v119] v16 .lf .lf) .lf) (.nd 105020966 0 [v35, v106] v5 .lf .lf))) (.nd 162125612 0 [v345, v374] v165 (.nd 146243384 0 [v68, v59] v68 (.nd 128993002 0 [v35, v109] v16 (.nd 114673726 0 [v50, v119] v50 .lf .lf) .lf) (.nd 148307415 0 [v160, v59] v160 .lf .lf)) (.nd 196966105 0 [v150, v119] v150 (.nd 170215420 0 [v68, v68] v227 (.nd 168759687 0 [v182, v59] v182 .lf .lf) .lf) (.nd 200565980 0 [v189, v373] v57 .lf .lf)))
def t_plus_in_2 : Tr := .nd 276488163 0 [v199, v0] (.tup [(.int 1), (.int 147)]) (.nd 239275137 0 [v222, v373] v96 (.nd 233939848 0 [v107, v234] v72 (.nd 224538016 0 [v189, v375] v60 (.nd 221867875 0 [v83, v48] v74 .lf .lf) .lf) (.nd 234875866 0 [v137, v119] v137 .lf .lf)) (.nd 263247173 0 [v222, v375] v103 (.nd 257911884 0 [v107, v0] v129 (.nd 249417472 0 [v103, v5] v183 .lf .lf) .lf) (.nd 269873916 0 [v345, v376] v193 .lf .lf))) (.nd 381709551 0 [v168, v59] v168 (.nd 350654593 0 [v100, v45] (.tup [(.int 11), (.int (-7))]) (.nd 289885955 0 [v108, v377] v6 (.nd 289831363 0 [v136, v111] v136 .lf .lf) .lf) (.nd 379645520 0 [v74, v59] v74 .lf .lf)) (.nd 402161823 0 [v187, v59] v187 (.nd 397634259 0 [v108, v378] v17 (.nd 382550080 0 [v51, v234] v226 .lf .lf) .lf) (.nd 427589592 0 [v74, v74] v4 .lf .lf)))
def t_plus_in_3 : Tr := .nd 206549483 0 [v75, v119] v75 t_plus_in_1 t_plus_in_2
def t_plus_in_4 : Tr := .nd 693259829 0 [v119, v1] v1 (.nd 525983661 0 [v200, v59] v200 (.nd 477763221 0 [v119, v5] v5 (.nd 466838014 0 [v41, v111] v41 (.nd 463635615 0 [v94, v173] (.tup [(.int 181), (.int (-17))]) .lf .lf) .lf) (.nd 501735257 0 [v119, v16] v16 .lf .lf)) (.nd 613047656 0 [v227, v59] v227 (.nd 592375124 0 [v172, v59] v172 (.nd 558889029 0 [v202, v59] v202 .lf .lf) .lf) (.nd 637019692 0 [v227, v68] v234 .lf .lf))) (.nd 717231865 0 [v119, v9] v9 (.nd 708935800 0 [v227, v4] v59 (.nd 707652038 0 [v173, v59] v173 (.nd 700362099 0 [v190, v132] v104 .lf .lf) .lf) (.nd 713545909 0 [v36, v369] v119 .lf .lf)) (.nd 730364537 0 [v81, v226] (.tup [(.int 1), (.int 2178)]) (.nd 729418456 0 [v369, v36] v119 (.nd 726202458 0 [v59, v172] v172 .lf .lf) .lf) (.nd 731088233 0 [v59, v173] v173 .lf .lf)))
def t_plus_in_5 : Tr := .nd 848291267 0 [v133, v119] v133 (.nd 815388565 0 [v48, v59] v48 (.nd 809555010 0 [v72, v4] v87 (.nd 802156909 0 [v129, v72] v188 (.nd 759385797 0 [v205, v59] v205 .lf .lf) .lf) (.nd 813683072 0 [v146, v4] v379 .lf .lf)) (.nd 837695152 0 [v45, v59] v45 (.nd 837655108 0 [v146, v234] v132 (.nd 825777260 0 [v178, v59] v178 .lf .lf) .lf) (.nd 846449792 0 [v4, v59] v4 .lf .lf))) (.nd 912841255 0 [v59, v59] v59 (.nd 874662711 0 [v207, v59] v207 (.nd 870421828 0 [v4, v68] v74 (.nd 851974437 0 [v37, v227] v4 .lf .lf) .lf) (.nd 875946473 0 [v37, v4] v72 .lf .lf)) (.nd 936813291 0 [v59, v68] v68 (.nd 918365900 0 [v4, v227] v59 .lf .lf) (.nd 941054174 0 [v197, v59] v197 .lf .lf)))
def t_plus_in_6 : Tr := .nd 743957126 0 [v61, v61] v124 t_plus_in_4 t_plus_in_5
def t_plus_in : Tr := .nd 438816921 0 [v96, v16] v183 t_plus_in_3 t_plus_in_6
def t_minus_in_1 : Tr := .nd 310615688 0 [v199, v42] v146 (.nd 244514364 0 [v163, v1] v239 (.nd 212769270 0 [v35, v5] v16 (.nd 159965663 0 [v380, v10] v97 .lf .lf) (.nd 236741306 0 [v35, v16] v5 .lf .lf)) (.nd 257911884 0 [v107, v0] v72 (.nd 252005218 0 [v146, v116] v37 .lf .lf) (.nd 268486400 0 [v163, v9] v236 .lf .lf))) (.nd 364488419 0 [v338, v6] v242 (.nd 347023441 0 [v222, v1] v103 (.nd 332445214 1 [v34, v30] v181 .lf .lf) (.nd 353877192 0 [v32, v26] v274 .lf .lf)) (.nd 406522116 0 [v51, v0] v226 (.nd 370995477 0 [v222, v9] v96 .lf .lf) (.nd 412554210 1 [v30, v31] v223 .lf .lf)))
def t_minus_in : Tr := .nd 429968135 0 [v26, v27] v275 t_minus_in_1 (.nd 820674882 0 [v385, v2] v242 (.nd 703779207 0 [v283, v17] v97 (.nd 633972954 0 [v210, v152] v51 (.nd 430163411 0 [v27, v33] v263 .lf .lf) (.nd 698094127 0 [v381, v382] v130 .lf .lf)) (.nd 731479441 0 [v127, v115] (.tup [(.int 1), (.int 1179396)]) (.nd 713212196 0 [v345, v2] v193 .lf .lf) (.nd 791406288 0 [v29, v28] v97 .lf .lf))) (.nd 861627144 0 [v146, v0] v132 (.nd 840972539 0 [v108, v6] v17 (.nd 839549504 0 [v383, v384] v135 .lf .lf) (.nd 845266249 0 [v36, v5] v239 .lf .lf)) (.nd 875946473 0 [v37, v4] v4 (.nd 869238285 0 [v36, v16] v236 .lf .lf) .lf)))
def t_whole_in : Tr := .nd 663476098 0 [(.int 2), (.int 0), (.int 1)] v111 (.nd 447979490 0 [(.int 1), (.int 0), (.int 1)] v119 (.nd 328371026 0 [(.int 0), (.int 2), (.int 1)] v4 .lf .lf) (.nd 543867634 0 [(.int 1), (.int 2), (.int 1)] v36 .lf .lf)) (.nd 878972706 0 [(.int 3), (.int 0), (.int 1)] v174 (.nd 759364242 0 [(.int 2), (.int 2), (.int 1)] v64 .lf .lf) .lf)
def t_is_tower : Tr := .nd 329721073 3 [v3] (.bl true) (.nd 210467352 2 [v21] (.bl true) (.nd 171751877 4 [v13] (.bl true) (.nd 106818667 3 [v23] (.bl true) .lf .lf) (.nd 190940271 3 [v11] (.bl true) .lf .lf)) (.nd 318215656 2 [v24] (.bl true) (.nd 245599469 3 [v22] (.bl true) .lf .lf) .lf)) (.nd 773734500 2 [v25] (.bl true) (.nd 554739862 4 [v15] (.bl true) (.nd 449324759 4 [v8] (.bl true) .lf .lf) .lf) (.nd 881482804 2 [v20] (.bl true) (.nd 832312744 4 [v19] (.bl true) .lf .lf) .lf))
def t__law_root_below : Tr := .nd 321951302 0 [(.int 1267949192431122706472553658494127633057194746189619371944194000000000000000000000000000000000000000000000000000000000000)] (.int 1126032500610494237999280857286004202375856141734312335128513) (.nd 110101359 0 [(.int 2000000000000000000000000000000000000000000000000000000000000000000000000000000000000000000000000000000000000000000000000)] (.int 1414213562373095048801688724209698078569671875376948073176679) (.nd 1818345 0 [(.int 3414213562373095048801688724209698078569671875376948073176679000000000000000000000000000000000000000000000000000000000000)] (.int 1847759065022573512256366378793576573644833251727284972230195) (.nd 359747 0 [(.int 4732050807568877293527446341505872366942805253810380628055806000000000000000000000000000000000000000000000000000000000000)] (.int 2175327747161074873767401364955486885203013272073239078932233) .lf .lf) .lf) (.nd 226356016 0 [(.int 5175327747161074873767401364955486885203013272073239078932233000000000000000000000000000000000000000000000000000000000000)] (.int 2274934668767671418944256459300570729659638773118422050318804) (.nd 218384373 0 [(.int 585786437626904951198311275790301921430328124623051926823321000000000000000000000000000000000000000000000000000000000000)] (.int 765366864730179543456919968060797733522689124971254082867601) .lf .lf) .lf)) (.nd 731796175 0 [(.int 3847759065022573512256366378793576573644833251727284972230195000000000000000000000000000000000000000000000000000000000000)] (.int 1961570560806460898252364472268478073947867461786672190005832) (.nd 661155528 0 [(.int 3000000000000000000000000000000000000000000000000000000000000000000000000000000000000000000000000000000000000000000000000)] (.int 1732050807568877293527446341505872366942805253810380628055806) (.nd 455077189 0 [(.int 1234633135269820456543080031939202266477310875028745917132399000000000000000000000000000000000000000000000000000000000000)] (.int 1111140466039204449485661627897065748749874381509608091848307) .lf .lf) .lf) (.nd 940567067 0 [(.int 1873967499389505762000719142713995797624143858265687664871487000000000000000000000000000000000000000000000000000000000000)] (.int 1368929325929394268085003379252152651029576228387691774672188) .lf .lf))
def t__law_worth : Tr := .nd 432855911 0 [v388, v16, (.int 1000000000000000000000000000000000000000000000000000000000000)] (.int 3414213562373095048801688724209698078569671875376948073176679) (.nd 325107607 0 [v388, v5, (.int 1000000000000000000000000000000000000000000000000000000000000)] (.int 585786437626904951198311275790301921430328124623051926823321) (.nd 297307474 0 [v387, v1, (.int 1000000000000000000000000000000000000000000000000000000000000)] (.int 1267949192431122706472553658494127633057194746189619371944194) (.nd 240107839 0 [v386, v2, (.int 1000000000000000000000000000000000000000000000000000000000000)] (.int 1873967499389505762000719142713995797624143858265687664871487) .lf .lf) .lf) (.nd 405055778 0 [v387, v9, (.int 1000000000000000000000000000000000000000000000000000000000000)] (.int 4732050807568877293527446341505872366942805253810380628055806) .lf .lf)) (.nd 645721248 0 [v391, v17, (.int 1000000000000000000000000000000000000000000000000000000000000)] (.int 3847759065022573512256366378793576573644833251727284972230195) (.nd 594894598 0 [v389, v10, (.int 1000000000000000000000000000000000000000000000000000000000000)] (.int 5175327747161074873767401364955486885203013272073239078932233) .lf .lf) (.nd 700679043 0 [v390, v6, (.int 1000000000000000000000000000000000000000000000000000000000000)] (.int 1234633135269820456543080031939202266477310875028745917132399) .lf .lf))
def t__law_near : Tr := .nd 498972660 1 [v15, (.int 1000000000000000000000000000000000000000000000000000000000000)] (.lst [(.int 1732050807568877293527446341505872366942805253810380628055806), (.int 2175327747161074873767401364955486885203013272073239078932233), (.int 2274934668767671418944256459300570729659638773118422050318804), (.int 2296722592906612093386485696097934510325582868883039982551800)]) (.nd 211748288 1 [v19, (.int 1000000000000000000000000000000000000000000000000000000000000)] (.lst [(.int 1414213562373095048801688724209698078569671875376948073176679), (.int 1847759065022573512256366378793576573644833251727284972230195), (.int 1961570560806460898252364472268478073947867461786672190005832), (.int 1990369453344393772489673906218959843150949737459714123667225)]) (.nd 80465256 1 [v8, (.int 1000000000000000000000000000000000000000000000000000000000000)] (.lst [(.int 1414213562373095048801688724209698078569671875376948073176679), (.int 765366864730179543456919968060797733522689124971254082867601), (.int 1111140466039204449485661627897065748749874381509608091848307), (.int 942793473651995297112775251810508755314920637864961242803228)]) (.nd 36491426 1 [v3, (.int 1000000000000000000000000000000000000000000000000000000000000)] (.lst [(.int 1732050807568877293527446341505872366942805253810380628055806), (.int 1126032500610494237999280857286004202375856141734312335128513), (.int 1368929325929394268085003379252152651029576228387691774672188)]) .lf .lf) (.nd 180715468 1 [v22, (.int 1000000000000000000000000000000000000000000000000000000000000)] (.lst [(.int 1414213562373095048801688724209698078569671875376948073176679), (.int 765366864730179543456919968060797733522689124971254082867601), (.int 1111140466039204449485661627897065748749874381509608091848307)]) .lf .lf)) (.nd 418914278 1 [v20, (.int 1000000000000000000000000000000000000000000000000000000000000)] v391 (.nd 367689628 1 [v13, (.int 1000000000000000000000000000000000000000000000000000000000000)] (.lst [(.int 1732050807568877293527446341505872366942805253810380628055806), (.int 1126032500610494237999280857286004202375856141734312335128513), (.int 1368929325929394268085003379252152651029576228387691774672188), (.int 1277133772973922153460394225541987965306589632083167237084432)]) .lf .lf) .lf)) (.nd 819120494 1 [v11, (.int 1000000000000000000000000000000000000000000000000000000000000)] (.lst [(.int 1732050807568877293527446341505872366942805253810380628055806), (.int 2175327747161074873767401364955486885203013272073239078932233), (.int 2274934668767671418944256459300570729659638773118422050318804)]) (.nd 792423609 1 [v25, (.int 1000000000000000000000000000000000000000000000000000000000000)] v390 (.nd 585055717 1 [v24, (.int 1000000000000000000000000000000000000000000000000000000000000)] v389 .lf .lf) .lf) (.nd 963344536 1 [v23, (.int 1000000000000000000000000000000000000000000000000000000000000)] (.lst [(.int 1414213562373095048801688724209698078569671875376948073176679), (.int 1847759065022573512256366378793576573644833251727284972230195), (.int 1961570560806460898252364472268478073947867461786672190005832)]) (.nd 958565048 1 [v21, (.int 1000000000000000000000000000000000000000000000000000000000000)] v386 .lf .lf) .lf))
def t_span_in : Tr := .nd 651737807 0 [v420, v6] v417 (.nd 235971572 0 [v406, v5] v401 (.nd 85437994 0 [v404, v10] v405 (.nd 68817769 0 [v398, v17] v399 (.nd 61390233 0 [v394, v2] v395 .lf .lf) .lf) (.nd 169553156 0 [v400, v16] v402 (.nd 145581120 0 [v400, v5] v401 .lf .lf) .lf)) (.nd 282582939 0 [v409, v17] v399 (.nd 275155403 0 [v407, v2] v395 (.nd 259943608 0 [v406, v16] v402 .lf .lf) .lf) (.nd 299203164 0 [v408, v10] v405 .lf .lf))) (.nd 863674019 0 [v413, v9] v412 (.nd 824678323 0 [(.tup []), v4] v414 (.nd 773283567 0 [v410, v9] v412 (.nd 749311531 0 [v410, v1] v411 .lf .lf) .lf) (.nd 839701983 0 [v413, v1] v411 .lf .lf)) (.nd 941379391 0 [(.lst []), v4] v414 (.nd 872622395 0 [(.tup []), v0] v419 (.nd 865502977 0 [v416, v6] v417 .lf .lf) .lf) (.nd 989323463 0 [(.lst []), v0] v419 .lf .lf)))
def t_root_below : Tr := .nd 397134002 0 [(.int 50331648)] (.int 7094) (.nd 150978894 0 [(.int 86827008)] (.int 9318) (.nd 52973452 0 [(.int 79392768)] (.int 8910) (.nd 48054473 0 [(.int 20717568)] (.int 4551) (.nd 1747166 0 [(.int 64557056)] (.int 8034) .lf .lf) .lf) (.nd 91468561 0 [(.int 57278464)] (.int 7568) .lf .lf)) (.nd 267420344 0 [(.int 33554432)] (.int 5792) (.nd 233649093 0 [(.int 64552960)] (.int 8034) (.nd 160715763 0 [(.int 31436800)] (.int 5606) .lf .lf) .lf) (.nd 284875379 0 [(.int 79388672)] (.int 8910) .lf .lf))) (.nd 696911916 0 [(.int 31444992)] (.int 5607) (.nd 511858327 0 [(.int 20709376)] (.int 4550) (.nd 509392625 0 [(.int 21274624)] (.int 4612) (.nd 443372127 0 [(.int 9830400)] (.int 3135) .lf .lf) .lf) (.nd 675274054 0 [(.int 9826304)] (.int 3134) .lf .lf)) (.nd 859566641 0 [(.int 57282560)] (.int 7568) (.nd 741294552 0 [(.int 21270528)] (.int 4611) .lf .lf) (.nd 919076974 0 [(.int 86831104)] (.int 9318) .lf .lf)))
def t_products : Tr := .nd 570819562 0 [v413] v422 (.nd 207536497 0 [v400] v423 (.nd 24881680 0 [v410] v422 .lf .lf) .lf) (.nd 753474379 0 [v406] v423 .lf .lf)
def t_bounds : Tr := .nd 476053635 2 [v13, (.int 12)] v435 (.nd 188829263 2 [v8, (.int 12)] v431 (.nd 71708536 2 [v23, (.int 12)] v427 (.nd 66929048 2 [v21, (.int 12)] v407 .lf .lf) (.nd 144855433 2 [v3, (.int 12)] v425 .lf .lf)) (.nd 320112295 2 [v19, (.int 12)] v430 (.nd 289079475 2 [v22, (.int 12)] v429 .lf .lf) .lf)) (.nd 693419724 2 [v24, (.int 12)] v408 (.nd 607336667 2 [v15, (.int 12)] v433 (.nd 527278285 2 [v20, (.int 12)] v409 .lf .lf) .lf) (.nd 927484501 2 [v11, (.int 12)] v434 (.nd 900787616 2 [v25, (.int 12)] v416 .lf .lf) .lf))
def t_is_bound : Tr := .nd 623784933 0 [v432] (.bl true) (.nd 465307553 0 [v397] (.bl true) (.nd 330973293 0 [v426] (.bl true) (.nd 9091851 0 [v424] (.bl true) .lf .lf) .lf) (.nd 616111168 0 [v428] (.bl true) (.nd 527159688 0 [v396] (.bl true) .lf .lf) .lf)) (.nd 742777860 0 [v392] (.bl true) (.nd 740334206 0 [v415] (.bl true) (.nd 698234024 0 [v393] (.bl true) .lf .lf) .lf) (.nd 857844788 0 [v403] (.bl true) .lf .lf))
def t_are_bounds : Tr := .nd 715924686 2 [v13, v435] (.bl true) (.nd 256474969 2 [v22, v429] (.bl true) (.nd 30519693 2 [v19, v430] (.bl true) (.nd 14736925 2 [v23, v427] (.bl true) .lf .lf) (.nd 217523079 2 [v21, v407] (.bl true) .lf .lf)) (.nd 699020146 2 [v11, v434] (.bl true) (.nd 286565555 2 [v3, v425] (.bl true) .lf .lf) .lf)) (.nd 743893844 2 [v20, v409] (.bl true) (.nd 732266801 2 [v8, v431] (.bl true) (.nd 729536547 2 [v25, v416] (.bl true) .lf .lf) .lf) (.nd 949750161 2 [v24, v408] (.bl true) (.nd 767698259 2 [v15, v433] (.bl true) .lf .lf) .lf))
def t__law_lowest : Tr := .nd 452998029 0 [v136] v136 (.nd 321754375 0 [v17] v17 (.nd 158878847 0 [v75] v75 (.nd 51130543 0 [v50] v50 (.nd 4084606 0 [v41] v41 .lf .lf) (.nd 106257767 0 [v64] v64 .lf .lf)) (.nd 214006071 0 [v6] v6 (.nd 208430928 0 [v86] v86 .lf .lf) (.nd 316179232 0 [v2] v2 .lf .lf))) (.nd 408601138 0 [v12] v12 (.nd 374375455 0 [v36] v36 (.nd 344632860 0 [v7] v7 .lf .lf) (.nd 398347491 0 [v5] v5 .lf .lf)) (.nd 423927536 0 [v10] v10 (.nd 422319527 0 [v16] v16 .lf .lf) .lf))) (.nd 889676562 0 [v74] v74 (.nd 665609727 0 [v174] v174 (.nd 613844099 0 [v1] v1 (.nd 589872063 0 [v163] v163 .lf .lf) (.nd 637816135 0 [v9] v9 .lf .lf)) (.nd 841732490 0 [v59] v59 (.nd 729578005 0 [v195] v195 .lf .lf) (.nd 865704526 0 [v68] v68 .lf .lf))) (.nd 943382246 0 [v119] v119 (.nd 901911452 0 [v111] v111 (.nd 895719444 0 [v18] v18 .lf .lf) (.nd 937620634 0 [v4] v4 .lf .lf)) (.nd 985564706 0 [v0] v0 (.nd 959687722 0 [v14] v14 .lf .lf) .lf)))
def t__law_product_1 : Tr := .nd 100054150 0 [v22, v59, v59] v59 (.nd 73780606 1 [v11, v119, v75] v119 (.nd 17325522 1 [v23, v119, v75] v119 (.nd 9711085 1 [v25, v28, v28] v338 .lf .lf) (.nd 42035512 1 [v11, v75, v119] v119 .lf .lf)) (.nd 92952641 0 [v24, v74, v59] v59 (.nd 76511556 1 [v22, v119, v5] v119 .lf .lf) (.nd 98417419 0 [v3, v59, v59] v59 .lf .lf))) (.nd 138282824 1 [v13, v119, v163] v119 (.nd 124026186 0 [v22, v59, v68] v59 (.nd 122389455 0 [v3, v59, v68] v59 .lf .lf) (.nd 126919826 1 [v19, v119, v119] v119 .lf .lf)) (.nd 143246144 2 [v19, v111, v111] v111 (.nd 140896713 0 [v24, v74, v74] v74 .lf .lf) (.nd 146361491 0 [v3, v59, v74] v59 .lf .lf)))
def t__law_product_2 : Tr := .nd 206887888 0 [v15, v59, v59] v59 (.nd 195669100 2 [v8, v111, v6] v111 (.nd 170402161 1 [v15, v119, v119] v119 (.nd 162254860 1 [v13, v119, v1] v119 .lf .lf) (.nd 191802873 2 [v22, v31, v31] v328 .lf .lf)) (.nd 197954356 2 [v13, v111, v111] v111 (.nd 195942294 0 [v22, v59, v4] v59 .lf .lf) (.nd 201077036 1 [v23, v75, v75] v75 .lf .lf))) (.nd 242249635 0 [v3, v59, v0] v59 (.nd 213571316 2 [v11, v31, v31] v436 (.nd 207975108 0 [v25, v59, v59] v59 .lf .lf) (.nd 237587776 2 [v8, v41, v111] v111 .lf .lf)) (.nd 254831960 0 [v15, v59, v74] v59 (.nd 245419305 2 [v19, v111, v41] v111 .lf .lf) (.nd 255919180 0 [v25, v59, v74] v59 .lf .lf)))
def t__law_product_3 : Tr := .nd 147998222 0 [v22, v59, v74] v59 t__law_product_1 t__law_product_2
def t__law_product_4 : Tr := .nd 305464843 0 [v13, v59, v74] v59 (.nd 280766202 1 [v23, v119, v16] v119 (.nd 277330945 0 [v11, v74, v59] v59 (.nd 257532120 1 [v11, v75, v75] v75 .lf .lf) (.nd 278967676 0 [v23, v74, v59] v59 .lf .lf)) (.nd 300127517 2 [v13, v111, v41] v111 (.nd 281492807 0 [v13, v59, v68] v59 .lf .lf) (.nd 303863252 0 [v25, v59, v4] v59 .lf .lf))) (.nd 342416434 1 [v19, v119, v75] v119 (.nd 326364425 0 [v19, v59, v59] v59 (.nd 310671340 1 [v19, v75, v119] v119 .lf .lf) (.nd 331231766 1 [v24, v28, v28] v380 .lf .lf)) (.nd 350720104 0 [v15, v59, v0] v59 (.nd 348463248 1 [v3, v119, v1] v119 .lf .lf) (.nd 352820881 3 [v15, v33, v33] v437 .lf .lf)))
def t__law_product_5 : Tr := .nd 354153675 1 [v15, v75, v119] v119 t__law_product_4 (.nd 424941380 0 [v8, v59, v74] v59 (.nd 394605892 0 [v21, v59, v59] v59 (.nd 376997308 0 [v8, v59, v59] v59 (.nd 374308497 0 [v19, v59, v74] v59 .lf .lf) (.nd 385898769 1 [v15, v119, v75] v119 .lf .lf)) (.nd 401352987 0 [v13, v59, v0] v59 (.nd 400969344 0 [v8, v59, v68] v59 .lf .lf) (.nd 422252569 0 [v19, v59, v4] v59 .lf .lf))) (.nd 457626026 2 [v15, v111, v111] v111 (.nd 442549964 0 [v21, v59, v74] v59 (.nd 439517592 0 [v20, v59, v59] v59 .lf .lf) (.nd 448310672 1 [v8, v119, v119] v119 .lf .lf)) (.nd 472885452 0 [v8, v59, v4] v59 (.nd 471644999 3 [v19, v33, v33] v438 .lf .lf) .lf)))
def t__law_product_6 : Tr := .nd 257520771 0 [v13, v59, v59] v59 t__law_product_3 t__law_product_5
def t__law_product_7 : Tr := .nd 551967658 2 [v13, v41, v111] v111 (.nd 512006177 2 [v3, v31, v31] v440 (.nd 497259446 2 [v19, v41, v111] v111 (.nd 491793007 1 [v13, v119, v119] v119 .lf .lf) (.nd 500223152 1 [v20, v28, v28] v283 .lf .lf)) (.nd 538438108 0 [v21, v59, v0] v59 (.nd 535405736 0 [v20, v59, v4] v59 .lf .lf) (.nd 548028211 3 [v13, v33, v33] v439 .lf .lf))) (.nd 559799187 2 [v15, v111, v41] v111 (.nd 556058976 1 [v8, v119, v50] v119 (.nd 552717894 1 [v11, v119, v9] v119 .lf .lf) (.nd 557913042 1 [v19, v119, v36] v119 .lf .lf)) (.nd 565221691 0 [v3, v74, v59] v59 (.nd 563089074 2 [v19, v111, v17] v111 .lf .lf) (.nd 566858422 0 [v22, v74, v59] v59 .lf .lf)))
def t__law_product_8 : Tr := .nd 599432607 2 [v19, v41, v41] v41 t__law_product_7 (.nd 666852329 3 [v8, v33, v33] v441 (.nd 621546311 1 [v22, v119, v119] v119 (.nd 605857114 1 [v19, v119, v16] v119 (.nd 599541311 1 [v13, v119, v50] v119 .lf .lf) (.nd 612222143 2 [v13, v111, v2] v111 .lf .lf)) (.nd 632062186 1 [v8, v75, v119] v119 (.nd 626148376 0 [v24, v59, v59] v59 .lf .lf) (.nd 663807280 1 [v8, v119, v75] v119 .lf .lf))) (.nd 675544521 1 [v13, v75, v119] v119 (.nd 674092448 0 [v24, v59, v74] v59 (.nd 673692160 0 [v15, v74, v59] v59 .lf .lf) (.nd 674779380 0 [v25, v74, v59] v59 .lf .lf)) (.nd 707289615 1 [v13, v119, v75] v119 (.nd 678001395 1 [v3, v119, v119] v119 .lf .lf) .lf)))
def t__law_product_9 : Tr := .nd 816891985 1 [v15, v119, v163] v119 (.nd 805297825 1 [v22, v75, v119] v119 (.nd 793168697 0 [v19, v74, v59] v59 (.nd 769980592 0 [v24, v59, v0] v59 .lf .lf) (.nd 801828921 1 [v23, v119, v119] v119 .lf .lf)) (.nd 811639328 2 [v15, v41, v111] v111 (.nd 810526680 0 [v11, v59, v59] v59 .lf .lf) (.nd 812163411 0 [v23, v59, v59] v59 .lf .lf))) (.nd 858284005 1 [v11, v119, v119] v119 (.nd 840719706 1 [v21, v28, v28] v385 (.nd 837042919 1 [v22, v119, v75] v119 .lf .lf) (.nd 843801580 0 [v8, v74, v59] v59 .lf .lf)) (.nd 860107483 0 [v23, v59, v74] v59 (.nd 858470752 0 [v11, v59, v74] v59 .lf .lf) (.nd 861410164 0 [v21, v74, v59] v59 .lf .lf)))
def t__law_product_10 : Tr := .nd 861752909 1 [v3, v75, v119] v119 t__law_product_9 (.nd 908051555 0 [v23, v59, v4] v59 (.nd 893368019 2 [v23, v31, v31] v307 (.nd 879303888 1 [v8, v119, v36] v119 (.nd 864836057 1 [v15, v119, v9] v119 .lf .lf) (.nd 883574481 2 [v8, v111, v111] v111 .lf .lf)) (.nd 903275924 1 [v8, v119, v5] v119 (.nd 893498003 1 [v3, v119, v75] v119 .lf .lf) (.nd 906321864 0 [v20, v74, v59] v59 .lf .lf))) (.nd 979642117 2 [v15, v111, v10] v111 (.nd 954265936 0 [v20, v74, v74] v74 (.nd 913812489 2 [v15, v41, v41] v41 .lf .lf) (.nd 954358896 0 [v11, v59, v0] v59 .lf .lf)) (.nd 985747642 2 [v8, v111, v41] v111 (.nd 985580435 1 [v23, v75, v119] v119 .lf .lf) .lf)))
def t__law_product_11 : Tr := .nd 724325043 0 [v13, v74, v59] v59 t__law_product_8 t__law_product_10
def t__law_product : Tr := .nd 487461664 0 [v20, v59, v74] v59 t__law_product_6 t__law_product_11
def t__law_sum : Tr := .nd 322424216 0 [v4, v59, (.int 1)] v4 (.nd 131369782 1 [v86, v111, (.int 1)] v86 (.nd 66218464 0 [v50, v119, (.int 1)] v50 (.nd 46684365 1 [v111, v111, (.int 1)] v111 (.nd 34234325 0 [v119, v119, (.int 1)] v119 .lf .lf) .lf) (.nd 98202603 0 [v75, v119, (.int 1)] v75 .lf .lf)) (.nd 226139159 0 [v163, v119, (.int 1)] v163 (.nd 162170881 0 [v36, v119, (.int 1)] v36 .lf .lf) (.nd 227465269 1 [v136, v111, (.int 1)] v136 .lf .lf))) (.nd 769807981 1 [v64, v111, (.int 1)] v64 (.nd 551846280 1 [v174, v174, (.int 1)] v174 (.nd 408246173 1 [v41, v111, (.int 1)] v41 .lf .lf) (.nd 653279042 0 [v74, v59, (.int 1)] v74 .lf .lf)) (.nd 984133868 0 [v59, v59, (.int 1)] v59 (.nd 818706455 0 [v68, v59, (.int 1)] v68 .lf .lf) (.nd 991569397 0 [v0, v59, (.int 1)] v0 .lf .lf)))
def t_inverse_in : Tr := .nd 371204953 0 [v23, v4] v56 (.nd 259234740 0 [v19, v4] v56 (.nd 158640583 2 [v8, v35] v231 (.nd 132385368 0 [v21, v72] v177 .lf .lf) (.nd 237416858 0 [v20, v4] v56 .lf .lf)) (.nd 355122884 0 [v19, v37] v99 (.nd 273494975 0 [v8, v4] v56 .lf .lf) (.nd 369383119 0 [v8, v37] v99 .lf .lf))) (.nd 880959705 2 [v19, v35] v231 (.nd 467093097 0 [v23, v37] v99 (.nd 402844271 0 [v25, v4] v56 .lf .lf) (.nd 834251958 0 [v22, v4] v56 .lf .lf)) (.nd 966957962 0 [v24, v72] v177 (.nd 930140102 0 [v22, v37] v99 .lf .lf) .lf))
def t_joined_in_1 : Tr := .nd 175740065 0 [v234, v4] (.tup [(.int 1), (.int (-3)), (.int 2)]) (.nd 114079668 0 [v107, v59] v222 (.nd 59446171 0 [v16, v119] v283 (.nd 48790694 0 [v56, v59] v126 (.nd 22797969 0 [v119, v119] v111 .lf .lf) (.nd 55579838 1 [v6, v111] v328 .lf .lf)) (.nd 103823957 0 [v234, v68] v373 (.nd 79851921 0 [v234, v59] v370 .lf .lf) .lf)) (.nd 132655947 0 [v199, v59] v361 (.nd 125307046 0 [v90, v119] v147 (.nd 114673726 0 [v50, v119] v136 .lf .lf) (.nd 127795993 0 [v234, v74] v375 .lf .lf)) (.nd 151768029 0 [v234, v227] (.tup [(.int 1), (.int (-3)), (.int (-2))]) (.nd 146243384 0 [v68, v59] v50 .lf .lf) .lf))) (.nd 224873584 0 [v5, v119] v338 (.nd 214997873 1 [v111, v41] v31 (.nd 206549483 0 [v75, v119] v41 (.nd 202760286 0 [v379, v124] v383 .lf .lf) (.nd 213484801 0 [v71, v182] v137 .lf .lf)) (.nd 224362860 0 [v39, v202] v95 (.nd 221520209 0 [v280, v133] v279 .lf .lf) .lf)) (.nd 238294577 0 [v119, v75] v28 (.nd 237456837 0 [v71, v187] v140 (.nd 226732322 0 [v379, v129] v381 .lf .lf) .lf) (.nd 248442805 0 [v114, v200] (.tup [(.int 181), (.int (-99)), (.int (-3))]) (.nd 243197685 0 [v9, v119] v380 .lf .lf) .lf)))
def t_joined_in_2 : Tr := .nd 371937893 1 [v64, v136] v7 (.nd 313254057 0 [v0, v59] v163 (.nd 290308367 1 [v17, v111] v307 (.nd 277037772 1 [v86, v41] v14 (.nd 272414841 0 [v114, v205] (.tup [(.int 181), (.int (-99)), (.int 3)]) .lf .lf) (.nd 281090341 0 [v124, v59] v128 .lf .lf)) (.nd 304144114 1 [v174, v195] v33 (.nd 298425240 0 [v369, v119] v371 .lf .lf) .lf)) (.nd 337226093 0 [v0, v68] v1 (.nd 327702274 0 [v42, v59] (.tup [(.int 1), (.int 108), (.int 0)]) (.nd 317382119 0 [v132, v59] v249 .lf .lf) .lf) (.nd 361198129 0 [v0, v74] v9 (.nd 343472926 0 [v78, v172] v304 .lf .lf) .lf))) (.nd 408625098 0 [v1, v119] v385 (.nd 387081049 0 [v99, v59] v231 (.nd 381709551 0 [v168, v59] v121 (.nd 379645520 0 [v74, v59] v75 .lf .lf) (.nd 385712028 0 [v68, v48] v150 .lf .lf)) (.nd 398454317 0 [v231, v119] v290 (.nd 390300997 0 [v36, v119] v64 .lf .lf) .lf)) (.nd 416823165 0 [v66, v59] v354 (.nd 414734047 0 [v62, v59] v254 (.nd 409684064 0 [v68, v56] v155 .lf .lf) .lf) (.nd 457764996 0 [v44, v202] v113 (.nd 446886937 0 [v79, v182] v156 .lf .lf) .lf)))
def t_joined_in_3 : Tr := .nd 270517761 0 [v126, v119] v302 t_joined_in_1 t_joined_in_2
def t_joined_in_4 : Tr := .nd 605797605 0 [v36, v75] v17 (.nd 514492477 0 [v129, v59] v151 (.nd 482176754 0 [v370, v119] v372 (.nd 470858973 0 [v79, v187] v159 (.nd 466838014 1 [v41, v111] v195 .lf .lf) (.nd 480264730 0 [v61, v59] v69 .lf .lf)) (.nd 505816977 0 [v120, v205] v280 (.nd 498049301 0 [v36, v50] v6 .lf .lf) .lf)) (.nd 575031661 0 [v225, v16] v267 (.nd 574052511 0 [v163, v119] v86 (.nd 526390873 0 [v131, v119] v277 .lf .lf) .lf) (.nd 593710963 0 [v116, v160] v384 (.nd 576875062 0 [v85, v172] v316 .lf .lf) .lf))) (.nd 637852431 0 [v189, v119] v320 (.nd 618572301 0 [v46, v227] v206 (.nd 613047656 0 [v227, v59] v369 (.nd 608028765 0 [v102, v52] v343 .lf .lf) (.nd 617682999 0 [v116, v168] v382 .lf .lf)) (.nd 637019692 0 [v227, v68] v106 (.nd 619114164 0 [v74, v48] v170 .lf .lf) .lf)) (.nd 660991728 0 [v227, v74] v109 (.nd 643086200 0 [v74, v56] v179 (.nd 642544337 0 [v46, v4] v213 .lf .lf) .lf) (.nd 681800815 0 [v163, v50] v2 (.nd 676561588 0 [v222, v119] v345 .lf .lf) .lf)))
def t_joined_in_5 : Tr := .nd 849043913 0 [v5, v155] v53 (.nd 740242462 0 [v92, v59] v357 (.nd 725371404 0 [v177, v59] v131 (.nd 717794928 0 [v146, v59] v189 (.nd 713666866 0 [v72, v59] v90 .lf .lf) (.nd 721009787 0 [v88, v197] v133 .lf .lf)) (.nd 733196120 0 [v106, v150] v138 (.nd 725951195 1 [v86, v136] v12 .lf .lf) .lf)) (.nd 789549119 0 [v163, v75] v10 (.nd 780058329 0 [v37, v59] v35 (.nd 757804025 0 [v35, v119] v108 .lf .lf) .lf) (.nd 846449792 0 [v4, v59] v36 (.nd 799726694 0 [v134, v59] v245 .lf .lf) .lf))) (.nd 891173532 0 [v238, v59] v260 (.nd 862277098 0 [v226, v59] v364 (.nd 851974437 0 [v37, v227] v219 (.nd 850577854 0 [v116, v59] (.tup [(.int 1), (.int 32), (.int 0)]) .lf .lf) (.nd 855953836 0 [v304, v137] v237 .lf .lf)) (.nd 875946473 0 [v37, v4] v225 (.nd 870421828 0 [v4, v68] v5 .lf .lf) .lf)) (.nd 923024477 1 [v64, v41] v18 (.nd 912841255 0 [v59, v59] v119 (.nd 894393864 0 [v4, v74] v16 .lf .lf) .lf) (.nd 971801629 0 [v316, v140] v154 (.nd 962822179 0 [v121, v119] v312 .lf .lf) .lf)))
def t_joined_in_6 : Tr := .nd 697037751 0 [v88, v173] v125 t_joined_in_4 t_joined_in_5
def t_joined_in : Tr := .nd 463635615 0 [v94, v173] v105 t_joined_in_3 t_joined_in_6
def t_sign_in_1 : Tr := .nd 54478195 3 [v19, v223] (.int (-1)) (.nd 27740668 0 [v25, v239] (.int 1) (.nd 12518408 1 [v15, v111] (.int 0) (.nd 6551274 2 [v19, v97] (.int (-1)) (.nd 5943866 0 [v22, v239] (.int 1) .lf .lf) .lf) (.nd 18973273 0 [v19, v119] (.int 0) .lf .lf)) (.nd 46818281 2 [v13, v33] (.int 1) (.nd 43802365 1 [v13, v111] (.int 0) (.nd 39971219 1 [v22, v111] (.int 0) .lf .lf) .lf) (.nd 51422506 1 [v23, v31] (.int 1) .lf .lf))) (.nd 122755412 2 [v23, v97] (.int (-1)) (.nd 107311862 1 [v13, v174] (.int 0) (.nd 95051029 0 [v15, v163] (.int 1) (.nd 65748098 0 [v22, v50] (.int (-1)) .lf .lf) .lf) (.nd 114691569 1 [v15, v41] (.int 1) .lf .lf)) (.nd 145975526 1 [v13, v41] (.int 1) (.nd 126721577 0 [v19, v50] (.int (-1)) .lf .lf) (.nd 154806724 1 [v3, v31] (.int 1) .lf .lf)))
def t_sign_in_2 : Tr := .nd 315325834 2 [v11, v97] (.int (-1)) (.nd 234469881 0 [v19, v75] (.int 1) (.nd 228192166 1 [v8, v136] (.int (-1)) (.nd 196908209 1 [v19, v136] (.int (-1)) (.nd 191859350 2 [v15, v33] (.int 1) .lf .lf) .lf) (.nd 232541641 1 [v3, v111] (.int 0) .lf .lf)) (.nd 302427981 1 [v21, v28] (.int 1) (.nd 299389068 1 [v15, v174] (.int 0) (.nd 296654158 0 [v8, v119] (.int 0) .lf .lf) .lf) (.nd 304392573 1 [v11, v31] (.int 1) .lf .lf))) (.nd 404402462 0 [v8, v50] (.int (-1)) (.nd 372731914 0 [v13, v163] (.int 1) (.nd 344598230 0 [v8, v239] (.int 1) (.nd 333213302 0 [v11, v119] (.int 0) .lf .lf) .lf) (.nd 373248057 2 [v15, v97] (.int (-1)) .lf .lf)) (.nd 448561212 0 [v15, v119] (.int 0) (.nd 440961606 0 [v11, v50] (.int (-1)) .lf .lf) (.nd 449966489 0 [v19, v36] (.int 1) .lf .lf)))
def t_sign_in_3 : Tr := .nd 173496402 0 [v22, v75] (.int 1) t_sign_in_1 t_sign_in_2
def t_sign_in_4 : Tr := .nd 594888949 1 [v13, v136] (.int (-1)) (.nd 537580947 2 [v8, v33] (.int 1) (.nd 519620826 3 [v15, v223] (.int (-1)) (.nd 519092866 2 [v8, v242] (.int (-1)) (.nd 512150766 0 [v8, v75] (.int 1) .lf .lf) .lf) (.nd 537156510 1 [v24, v28] (.int 1) .lf .lf)) (.nd 563604992 1 [v15, v136] (.int (-1)) (.nd 556309516 0 [v15, v50] (.int (-1)) (.nd 548709910 0 [v11, v75] (.int 1) .lf .lf) .lf) (.nd 567100122 0 [v23, v119] (.int 0) .lf .lf))) (.nd 677105589 1 [v8, v111] (.int 0) (.nd 664057820 0 [v15, v75] (.int 1) (.nd 645821632 1 [v19, v111] (.int 0) (.nd 642169238 1 [v8, v174] (.int 0) .lf .lf) .lf) (.nd 674848426 0 [v23, v50] (.int (-1)) .lf .lf)) (.nd 685110649 1 [v25, v28] (.int 1) (.nd 682622016 2 [v19, v33] (.int 1) .lf .lf) (.nd 724112981 0 [v3, v119] (.int 0) .lf .lf)))
def t_sign_in_5 : Tr := .nd 833990401 0 [v13, v50] (.int (-1)) (.nd 774186169 0 [v13, v239] (.int 1) (.nd 762025770 1 [v23, v111] (.int 0) (.nd 747994793 1 [v19, v41] (.int 1) (.nd 727647374 0 [v8, v36] (.int 1) .lf .lf) .lf) (.nd 772057053 0 [v3, v239] (.int 1) .lf .lf)) (.nd 782596730 0 [v23, v75] (.int 1) (.nd 779278750 1 [v8, v41] (.int 1) .lf .lf) (.nd 831861285 0 [v3, v50] (.int (-1)) .lf .lf))) (.nd 939609589 0 [v3, v75] (.int 1) (.nd 901836664 1 [v22, v31] (.int 1) (.nd 885789649 2 [v13, v242] (.int (-1)) (.nd 834246444 1 [v19, v174] (.int 0) .lf .lf) .lf) (.nd 919839178 1 [v20, v28] (.int 1) .lf .lf)) (.nd 954596192 1 [v11, v111] (.int 0) (.nd 941738705 0 [v13, v75] (.int 1) .lf .lf) (.nd 957999801 0 [v22, v119] (.int 0) .lf .lf)))
def t_sign_in_6 : Tr := .nd 726242097 0 [v13, v119] (.int 0) t_sign_in_4 t_sign_in_5
def t_sign_in : Tr := .nd 453270754 0 [v21, v239] (.int 1) t_sign_in_3 t_sign_in_6
def t_square_root : Tr := .nd 432525261 2 [v15, v437] v33 (.nd 106703288 2 [v13, v439] v33 (.nd 63269420 2 [v11, v436] v31 (.nd 19941525 1 [v21, v385] v28 .lf .lf) (.nd 79110984 2 [v3, v440] v31 .lf .lf)) (.nd 300451032 2 [v25, v338] v28 (.nd 161670230 2 [v20, v283] v28 .lf .lf) .lf)) (.nd 762172646 2 [v22, v328] v31 (.nd 746331082 2 [v23, v307] v31 (.nd 616441827 3 [v8, v441] v33 .lf .lf) .lf) (.nd 942263800 3 [v19, v438] v33 (.nd 881160730 1 [v24, v380] v28 .lf .lf) .lf))
def t_need_element : Tr := .nd 574641247 0 [v24, v29] .non (.nd 304392573 1 [v11, v31] .non (.nd 154806724 1 [v3, v31] .non (.nd 51422506 1 [v23, v31] .non .lf .lf) (.nd 302427981 0 [v21, v28] .non .lf .lf)) (.nd 537156510 0 [v24, v28] .non (.nd 339912718 0 [v21, v29] .non .lf .lf) .lf)) (.nd 901836664 1 [v22, v31] .non (.nd 722595386 0 [v25, v29] .non (.nd 685110649 0 [v25, v28] .non .lf .lf) .lf) (.nd 957323915 0 [v20, v29] .non (.nd 919839178 0 [v20, v28] .non .lf .lf) .lf))
def t_sign : Tr := .nd 537156510 2 [v24, v28] (.int 1) (.nd 191859350 2 [v15, v33] (.int 1) (.nd 51422506 2 [v23, v31] (.int 1) (.nd 46818281 2 [v13, v33] (.int 1) .lf .lf) (.nd 154806724 2 [v3, v31] (.int 1) .lf .lf)) (.nd 304392573 2 [v11, v31] (.int 1) (.nd 302427981 2 [v21, v28] (.int 1) .lf .lf) .lf)) (.nd 685110649 2 [v25, v28] (.int 1) (.nd 682622016 2 [v19, v33] (.int 1) (.nd 537580947 2 [v8, v33] (.int 1) .lf .lf) .lf) (.nd 919839178 2 [v20, v28] (.int 1) (.nd 901836664 2 [v22, v31] (.int 1) .lf .lf) .lf))
def t_order : Tr := .nd 493851062 1 [v20, v29, v28] (.int (-1)) (.nd 371050051 3 [v11, v34, v30] (.int (-1)) (.nd 324859676 1 [v24, v29, v28] (.int (-1)) (.nd 50846747 3 [v23, v34, v30] (.int (-1)) (.nd 3338995 1 [v25, v29, v28] (.int 1) .lf .lf) (.nd 130955743 3 [v23, v30, v31] (.int (-1)) .lf .lf)) (.nd 353455531 3 [v15, v32, v26] (.int (-1)) (.nd 349281608 2 [v22, v34, v30] (.int 1) .lf .lf) .lf)) (.nd 429741750 3 [v15, v27, v33] (.int (-1)) (.nd 429546474 4 [v15, v26, v27] (.int (-1)) (.nd 429390604 2 [v22, v30, v31] (.int (-1)) .lf .lf) .lf) (.nd 472279649 3 [v19, v32, v26] (.int (-1)) (.nd 451159047 3 [v11, v30, v31] (.int (-1)) .lf .lf) .lf))) (.nd 667486979 2 [v8, v32, v26] (.int 1) (.nd 548662861 2 [v13, v32, v26] (.int 1) (.nd 548565868 4 [v19, v27, v33] (.int (-1)) (.nd 548370592 4 [v19, v26, v27] (.int (-1)) .lf .lf) .lf) (.nd 624949080 3 [v13, v27, v33] (.int 1) (.nd 624753804 3 [v13, v26, v27] (.int (-1)) .lf .lf) .lf)) (.nd 743773198 3 [v8, v27, v33] (.int 1) (.nd 743577922 3 [v8, v26, v27] (.int (-1)) (.nd 669484912 2 [v3, v34, v30] (.int 1) .lf .lf) .lf) (.nd 834347616 1 [v21, v29, v28] (.int 1) (.nd 749593908 2 [v3, v30, v31] (.int (-1)) .lf .lf) .lf)))
def t_in_ring_1 : Tr := .nd 432971053 0 [(.int 7), v5] v452 (.nd 301110777 0 [(.int 31), v4] v449 (.nd 101013738 0 [(.int 17), v5] v445 (.nd 49016241 0 [(.int 31), v17] v443 (.nd 43441098 0 [(.int 31), v2] (.tup [(.int 3), (.int 0), (.int 30), (.int 0)]) .lf .lf) (.nd 67130590 0 [(.int 5), v28] v442 .lf .lf)) (.nd 151189402 0 [(.int 31), v10] v444 (.nd 124985774 0 [(.int 17), v16] v56 .lf .lf) .lf)) (.nd 349054849 0 [(.int 31), v0] v448 (.nd 340482382 0 [(.int 17), v9] v418 (.nd 316510346 0 [(.int 17), v1] (.tup [(.int 3), (.int 16)]) .lf .lf) .lf) (.nd 377296271 0 [(.int 5), v31] v447 (.nd 368746762 0 [(.int 17), v6] v446 .lf .lf) .lf))) (.nd 472118355 0 [(.int 7), v29] v451 (.nd 456943089 0 [(.int 7), v16] v56 (.nd 440262290 0 [(.int 3), v4] v449 (.nd 434633618 0 [(.int 7), v28] v442 .lf .lf) .lf) (.nd 470919923 0 [(.int 17), v2] (.tup [(.int 3), (.int 0), (.int 16), (.int 0)]) (.nd 458874624 0 [(.int 5), v34] v450 .lf .lf) .lf)) (.nd 531231636 0 [(.int 7), v6] (.tup [(.int 2), (.int 0), (.int 6), (.int 0)]) (.nd 488206362 0 [(.int 3), v0] (.tup [(.int 0)]) (.nd 476495066 0 [(.int 17), v17] v443 .lf .lf) .lf) (.nd 578668227 0 [(.int 17), v10] v444 (.nd 565753979 0 [(.int 3), v5] v73 .lf .lf) .lf)))
def t_in_ring_2 : Tr := .nd 738831160 0 [(.int 5), v9] v418 (.nd 669269674 0 [(.int 3), v31] v447 (.nd 638979940 0 [(.int 7), v17] v443 (.nd 636273504 0 [(.int 31), v5] v453 (.nd 633404797 0 [(.int 7), v2] (.tup [(.int 3), (.int 0), (.int 6), (.int 0)]) .lf .lf) .lf) (.nd 660245540 0 [(.int 31), v16] v56 (.nd 648467661 0 [(.int 7), v1] v454 .lf .lf) .lf)) (.nd 699627569 0 [(.int 3), v28] v442 (.nd 692552684 0 [(.int 5), v0] v448 (.nd 672439697 0 [(.int 7), v9] v418 .lf .lf) .lf) (.nd 737112306 0 [(.int 3), v29] v451 (.nd 714859124 0 [(.int 5), v1] v455 .lf .lf) .lf))) (.nd 851770112 0 [(.int 31), v1] (.tup [(.int 3), (.int 30)]) (.nd 781250587 0 [(.int 3), v1] v457 (.nd 750848027 0 [(.int 3), v34] v450 (.nd 741153101 0 [(.int 7), v10] v444 .lf .lf) .lf) (.nd 848954934 0 [(.int 7), v4] v449 (.nd 805222623 0 [(.int 3), v9] v456 .lf .lf) .lf)) (.nd 896899006 0 [(.int 7), v0] v448 (.nd 875742148 0 [(.int 31), v9] v418 (.nd 870686537 0 [(.int 17), v4] v449 .lf .lf) .lf) (.nd 941267944 0 [(.int 31), v6] v458 (.nd 918630609 0 [(.int 17), v0] v448 .lf .lf) .lf)))
def t_in_ring : Tr := .nd 589726015 0 [(.int 3), v16] v56 t_in_ring_1 t_in_ring_2
def t_ring_of : Tr := .nd 637419556 0 [v24, (.int 5)] v466 (.nd 88855265 1 [v3, (.int 5)] v465 (.nd 26928928 0 [v21, (.int 7)] v460 (.nd 10928880 0 [v21, (.int 5)] v459 .lf .lf) .lf) (.nd 455278069 0 [v20, (.int 3)] v463 (.nd 217079259 1 [v22, (.int 3)] v462 .lf .lf) .lf)) (.nd 871484333 1 [v11, (.int 5)] v469 (.nd 828787400 0 [v25, (.int 3)] v467 (.nd 653419604 0 [v24, (.int 7)] v466 .lf .lf) .lf) (.nd 999708327 1 [v23, (.int 3)] v468 .lf .lf))
def t_ring_times_1 : Tr := .nd 30592884 1 [v465, (.int 5), v451, v471] v471 (.nd 20955693 2 [v468, (.int 3), v447, v447] v474 (.nd 8477510 1 [v469, (.int 5), v471, v472] v471 (.nd 3939559 0 [v467, (.int 3), v73, v470] v470 .lf .lf) (.nd 11577125 0 [v462, (.int 3), v65, v65] v59 .lf .lf)) (.nd 26023148 0 [v468, (.int 3), v470, v59] v470 (.nd 24220794 1 [v465, (.int 5), v473, v471] v471 .lf .lf) (.nd 29139479 0 [v460, (.int 7), v470, v65] v470 .lf .lf))) (.nd 43576375 0 [v466, (.int 7), v470, v59] v470 (.nd 38728393 0 [v465, (.int 5), v456, v470] v470 (.nd 30862218 1 [v469, (.int 5), v471, v475] v471 .lf .lf) (.nd 41490907 2 [v469, (.int 5), v476, v476] (.tup [(.int 0), (.int 0), (.int 4), (.int 2), (.int 0), (.int 0), (.int 0), (.int 0)]) .lf .lf)) (.nd 47172546 0 [v463, (.int 3), v59, v470] v470 (.nd 46163922 0 [v465, (.int 5), v418, v470] v470 .lf .lf) (.nd 50861409 0 [v465, (.int 5), v470, v56] v470 .lf .lf)))
def t_ring_times_2 : Tr := .nd 103055727 0 [v465, (.int 5), v59, v243] v243 (.nd 79335407 0 [v465, (.int 5), v59, v455] v455 (.nd 67943377 2 [v465, (.int 5), v447, v447] v477 (.nd 64950535 0 [v460, (.int 7), v456, v470] v470 .lf .lf) (.nd 73967220 0 [v468, (.int 3), v470, v74] v470 .lf .lf)) (.nd 94558448 0 [v468, (.int 3), v56, v56] v456 (.nd 81717692 0 [v469, (.int 5), v56, v470] v470 .lf .lf) (.nd 95098330 1 [v460, (.int 7), v478, v478] v479 .lf .lf))) (.nd 111549836 2 [v469, (.int 5), v482, v482] v483 (.nd 107465269 0 [v462, (.int 3), v65, v73] v74 (.nd 107414188 0 [v466, (.int 7), v480, v470] v470 .lf .lf) (.nd 110491256 0 [v465, (.int 5), v243, v243] v59 .lf .lf)) (.nd 138609497 0 [v469, (.int 5), v470, v243] v470 (.nd 121059408 0 [v466, (.int 7), v470, v229] v470 .lf .lf) (.nd 143840146 0 [v469, (.int 5), v481, v470] v470 .lf .lf)))
def t_ring_times_3 : Tr := .nd 60992854 1 [v463, (.int 3), v451, v451] v479 t_ring_times_1 t_ring_times_2
def t_ring_times_4 : Tr := .nd 191509105 1 [v463, (.int 3), v486, v486] v451 (.nd 175902098 0 [v462, (.int 3), v457, v470] v470 (.nd 163033883 0 [v467, (.int 3), v470, v65] v470 (.nd 161264854 0 [v469, (.int 5), v59, v59] v59 .lf .lf) (.nd 174677839 0 [v465, (.int 5), v4, v470] v470 .lf .lf)) (.nd 179080499 0 [v466, (.int 5), v470, v56] v470 (.nd 176564390 0 [v469, (.int 5), v484, v418] v455 .lf .lf) (.nd 183121992 0 [v463, (.int 3), v56, v470] v470 .lf .lf))) (.nd 197524630 1 [v468, (.int 3), v471, v479] v471 (.nd 193227232 0 [v466, (.int 7), v470, v485] v470 (.nd 191658837 0 [v466, (.int 7), v59, v418] v418 .lf .lf) (.nd 194693625 0 [v465, (.int 5), v470, v484] v470 .lf .lf)) (.nd 198844939 0 [v467, (.int 3), v456, v470] v470 (.nd 198090804 1 [v462, (.int 3), v473, v471] v471 .lf .lf) (.nd 201445693 0 [v460, (.int 7), v59, v454] v454 .lf .lf)))
def t_ring_times_5 : Tr := .nd 237075003 2 [v462, (.int 3), v447, v447] v489 (.nd 215284853 0 [v465, (.int 5), v56, v455] v418 (.nd 210977955 0 [v467, (.int 3), v470, v56] v470 (.nd 204462894 1 [v462, (.int 3), v451, v471] v471 .lf .lf) (.nd 213481460 1 [v469, (.int 5), v487, v471] v471 .lf .lf)) (.nd 225849474 0 [v465, (.int 5), v488, v488] v243 (.nd 218413945 0 [v465, (.int 5), v470, v488] v470 .lf .lf) (.nd 234497641 0 [v469, (.int 5), v470, v158] v470 .lf .lf))) (.nd 242293561 0 [v462, (.int 3), v470, v470] v470 (.nd 241120398 0 [v459, (.int 5), v470, v56] v470 (.nd 241069302 0 [v465, (.int 5), v59, v470] v470 .lf .lf) (.nd 241519756 0 [v468, (.int 3), v470, v65] v470 .lf .lf)) (.nd 248504831 0 [v465, (.int 5), v243, v470] v470 (.nd 244636087 0 [v460, (.int 7), v470, v488] v470 .lf .lf) (.nd 255193037 2 [v462, (.int 3), v489, v489] (.tup [(.int 0), (.int 2), (.int 2), (.int 0), (.int 0), (.int 0), (.int 0), (.int 0)]) .lf .lf)))
def t_ring_times_6 : Tr := .nd 202792838 1 [v462, (.int 3), v471, v490] v471 t_ring_times_4 t_ring_times_5
def t_ring_times_7 : Tr := .nd 148816895 0 [v468, (.int 3), v65, v470] v470 t_ring_times_3 t_ring_times_6
def t_ring_times_8 : Tr := .nd 277330812 0 [v468, (.int 3), v456, v470] v470 (.nd 271790242 0 [v462, (.int 3), v457, v457] v65 (.nd 266358017 0 [v465, (.int 5), v470, v418] v470 (.nd 259072983 0 [v466, (.int 7), v470, v65] v470 .lf .lf) (.nd 267291444 0 [v460, (.int 7), v59, v470] v470 .lf .lf)) (.nd 274626662 2 [v469, (.int 5), v492, v492] v476 (.nd 272815284 2 [v465, (.int 5), v491, v491] v482 .lf .lf) (.nd 276623072 0 [v469, (.int 5), v470, v470] v470 .lf .lf))) (.nd 290237633 0 [v462, (.int 3), v470, v456] v470 (.nd 284058601 0 [v469, (.int 5), v488, v470] v470 (.nd 277893493 0 [v460, (.int 7), v493, v470] v470 .lf .lf) (.nd 289463828 0 [v468, (.int 3), v470, v56] v470 .lf .lf)) (.nd 293527811 1 [v469, (.int 5), v471, v494] v471 (.nd 292580159 0 [v460, (.int 7), v470, v418] v470 .lf .lf) (.nd 294884039 0 [v466, (.int 7), v456, v470] v470 .lf .lf)))
def t_ring_times_9 : Tr := .nd 342431951 0 [v462, (.int 3), v59, v65] v65 (.nd 324567144 0 [v469, (.int 5), v470, v456] v470 (.nd 311635909 0 [v463, (.int 3), v457, v470] v470 (.nd 302319568 0 [v466, (.int 7), v418, v470] v470 .lf .lf) (.nd 322912715 0 [v466, (.int 5), v470, v484] v470 .lf .lf)) (.nd 335653242 1 [v469, (.int 5), v471, v471] v471 (.nd 325274884 0 [v468, (.int 3), v456, v456] v65 .lf .lf) (.nd 338181705 0 [v462, (.int 3), v470, v457] v470 .lf .lf))) (.nd 377018748 0 [v465, (.int 5), v56, v470] v470 (.nd 369288392 0 [v466, (.int 5), v59, v470] v470 (.nd 366752791 1 [v466, (.int 7), v479, v479] v495 .lf .lf) (.nd 370345374 1 [v462, (.int 3), v471, v461] v471 .lf .lf)) (.nd 378243007 0 [v462, (.int 3), v74, v470] v470 (.nd 378027372 0 [v463, (.int 3), v470, v470] v470 .lf .lf) (.nd 384952614 0 [v459, (.int 5), v470, v484] v470 .lf .lf)))
def t_ring_times_10 : Tr := .nd 301688191 1 [v467, (.int 3), v479, v479] v473 t_ring_times_8 t_ring_times_9
def t_ring_times_11 : Tr := .nd 406407410 0 [v460, (.int 7), v454, v470] v470 (.nd 400201054 0 [v465, (.int 5), v484, v484] v56 (.nd 397157554 1 [v466, (.int 7), v497, v497] v487 (.nd 394577107 0 [v466, (.int 5), v470, v418] v470 .lf .lf) (.nd 398971881 0 [v460, (.int 7), v496, v470] v470 .lf .lf)) (.nd 402226921 2 [v465, (.int 5), v498, v498] (.tup [(.int 0), (.int 0), (.int 1), (.int 2), (.int 0), (.int 0), (.int 0), (.int 0)]) (.nd 401185848 0 [v467, (.int 3), v59, v470] v470 .lf .lf) (.nd 403159445 1 [v468, (.int 3), v443, v443] (.tup [(.int 0), (.int 1), (.int 1), (.int 0)]) .lf .lf))) (.nd 424451859 1 [v462, (.int 3), v461, v461] (.tup [(.int 0), (.int 2), (.int 2), (.int 0)]) (.nd 413021238 1 [v468, (.int 3), v471, v443] v471 (.nd 410190233 0 [v465, (.int 5), v470, v455] v470 .lf .lf) (.nd 419585454 2 [v469, (.int 5), v447, v447] v492 .lf .lf)) (.nd 429728720 1 [v460, (.int 7), v499, v499] v500 (.nd 424705534 0 [v469, (.int 5), v59, v56] v56 .lf .lf) (.nd 431328291 0 [v459, (.int 5), v59, v470] v470 .lf .lf)))
def t_ring_times_12 : Tr := .nd 433910553 0 [v465, (.int 5), v470, v243] v470 t_ring_times_11 (.nd 457790169 0 [v462, (.int 3), v470, v59] v470 (.nd 439141202 0 [v465, (.int 5), v481, v470] v470 (.nd 438964051 1 [v465, (.int 5), v487, v471] v471 (.nd 438320095 0 [v462, (.int 3), v59, v73] v73 .lf .lf) (.nd 439029831 1 [v462, (.int 3), v471, v501] v471 .lf .lf)) (.nd 450636826 1 [v467, (.int 3), v442, v442] v503 (.nd 444220958 1 [v468, (.int 3), v471, v502] v471 .lf .lf) (.nd 456263276 1 [v468, (.int 3), v473, v471] v471 .lf .lf))) (.nd 469070709 1 [v463, (.int 3), v479, v479] v473 (.nd 468072775 1 [v469, (.int 5), v472, v472] v494 (.nd 462635366 1 [v468, (.int 3), v451, v471] v471 .lf .lf) (.nd 468399360 0 [v469, (.int 5), v470, v481] v470 .lf .lf)) (.nd 479671721 0 [v468, (.int 3), v59, v470] v470 (.nd 474569591 0 [v466, (.int 7), v470, v488] v470 .lf .lf) .lf)))
def t_ring_times_13 : Tr := .nd 388904426 2 [v468, (.int 3), v474, v474] (.tup [(.int 0), (.int 1), (.int 1), (.int 0), (.int 0), (.int 0), (.int 0), (.int 0)]) t_ring_times_10 t_ring_times_12
def t_ring_times_14 : Tr := .nd 258922027 0 [v467, (.int 3), v470, v73] v470 t_ring_times_7 t_ring_times_13
def t_ring_times_15 : Tr := .nd 515701426 1 [v466, (.int 7), v442, v442] v504 (.nd 492827420 0 [v468, (.int 3), v456, v59] v456 (.nd 482876847 0 [v467, (.int 3), v73, v56] v65 (.nd 482788052 0 [v460, (.int 7), v59, v59] v59 .lf .lf) (.nd 492119680 0 [v469, (.int 5), v470, v59] v470 .lf .lf)) (.nd 505237838 0 [v466, (.int 5), v56, v470] v470 (.nd 497224948 0 [v466, (.int 7), v59, v470] v470 .lf .lf) (.nd 505734241 0 [v462, (.int 3), v470, v74] v470 .lf .lf))) (.nd 530820919 0 [v467, (.int 3), v73, v73] v457 (.nd 526109834 0 [v463, (.int 3), v59, v56] v56 (.nd 522513663 0 [v466, (.int 7), v470, v418] v470 .lf .lf) (.nd 529840208 1 [v460, (.int 7), v479, v479] v495 .lf .lf)) (.nd 553678313 0 [v462, (.int 3), v470, v4] v470 (.nd 532300519 0 [v460, (.int 7), v470, v454] v470 .lf .lf) (.nd 560654980 0 [v469, (.int 5), v56, v56] v484 .lf .lf)))
def t_ring_times_16 : Tr := .nd 600449222 0 [v459, (.int 5), v470, v455] v470 (.nd 580583916 0 [v462, (.int 3), v65, v470] v470 (.nd 579359657 0 [v465, (.int 5), v488, v470] v470 (.nd 571924128 0 [v465, (.int 5), v470, v470] v470 .lf .lf) (.nd 579810111 0 [v468, (.int 3), v65, v65] v59 .lf .lf)) (.nd 592258070 0 [v469, (.int 5), v59, v488] v488 (.nd 590460043 0 [v459, (.int 5), v484, v484] v56 .lf .lf) (.nd 598146270 0 [v460, (.int 7), v470, v470] v470 .lf .lf))) (.nd 616048739 1 [v467, (.int 3), v506, v506] v479 (.nd 613017328 0 [v460, (.int 7), v229, v470] v470 (.nd 606895314 0 [v462, (.int 3), v457, v65] v456 .lf .lf) (.nd 615621167 0 [v468, (.int 3), v56, v470] v470 .lf .lf)) (.nd 619868200 0 [v465, (.int 5), v470, v456] v470 (.nd 618019344 1 [v463, (.int 3), v442, v442] v486 .lf .lf) (.nd 621007092 1 [v465, (.int 5), v505, v471] v471 .lf .lf)))
def t_ring_times_17 : Tr := .nd 561135833 1 [v465, (.int 5), v471, v471] v471 t_ring_times_15 t_ring_times_16
def t_ring_times_18 : Tr := .nd 673286777 0 [v462, (.int 3), v470, v65] v470 (.nd 640202142 0 [v469, (.int 5), v59, v418] v418 (.nd 628905385 0 [v466, (.int 7), v496, v470] v470 (.nd 627754183 0 [v468, (.int 3), v65, v56] v4 .lf .lf) (.nd 639393953 1 [v465, (.int 5), v471, v505] v471 .lf .lf)) (.nd 662059280 0 [v463, (.int 3), v56, v56] v456 (.nd 654449316 1 [v466, (.int 7), v504, v504] v497 .lf .lf) (.nd 665649211 0 [v467, (.int 3), v457, v470] v470 .lf .lf))) (.nd 695168329 0 [v468, (.int 3), v59, v59] v59 (.nd 676461918 1 [v468, (.int 3), v471, v507] v471 (.nd 673919952 1 [v462, (.int 3), v506, v471] v471 .lf .lf) (.nd 678788843 1 [v460, (.int 7), v442, v442] v499 .lf .lf)) (.nd 699265212 1 [v465, (.int 5), v505, v505] v508 (.nd 695296848 0 [v466, (.int 7), v481, v470] v470 .lf .lf) (.nd 700143218 0 [v466, (.int 5), v470, v470] v470 .lf .lf)))
def t_ring_times_19 : Tr := .nd 732040674 0 [v467, (.int 3), v470, v470] v470 (.nd 712721556 0 [v466, (.int 7), v59, v59] v59 (.nd 709097833 0 [v462, (.int 3), v456, v470] v470 (.nd 708324028 0 [v468, (.int 3), v456, v65] v457 .lf .lf) (.nd 710003352 0 [v463, (.int 3), v56, v73] v65 .lf .lf)) (.nd 723573375 0 [v460, (.int 7), v470, v510] v470 (.nd 712897389 1 [v465, (.int 5), v471, v509] v471 .lf .lf) (.nd 729641741 1 [v465, (.int 5), v471, v464] v471 .lf .lf))) (.nd 743427344 0 [v469, (.int 5), v456, v470] v470 (.nd 738735125 2 [v468, (.int 3), v511, v511] v483 (.nd 735005843 1 [v462, (.int 3), v471, v471] v471 .lf .lf) (.nd 740597818 0 [v465, (.int 5), v418, v418] v56 .lf .lf)) (.nd 744345886 1 [v469, (.int 5), v471, v495] v471 (.nd 744135084 0 [v468, (.int 3), v457, v470] v470 .lf .lf) (.nd 746564990 1 [v467, (.int 3), v503, v503] v506 .lf .lf)))
def t_ring_times_20 : Tr := .nd 704487196 0 [v469, (.int 5), v56, v484] v59 t_ring_times_18 t_ring_times_19
def t_ring_times_21 : Tr := .nd 624457361 2 [v469, (.int 5), v491, v491] v482 t_ring_times_17 t_ring_times_20
def t_ring_times_22 : Tr := .nd 787420736 0 [v465, (.int 5), v470, v59] v470 (.nd 763700416 0 [v465, (.int 5), v470, v481] v470 (.nd 762183117 0 [v459, (.int 5), v470, v470] v470 (.nd 759907766 2 [v465, (.int 5), v482, v482] v483 .lf .lf) (.nd 762234023 0 [v466, (.int 7), v470, v454] v470 .lf .lf)) (.nd 777407528 1 [v465, (.int 5), v471, v512] v471 (.nd 769174921 0 [v462, (.int 3), v470, v73] v470 .lf .lf) (.nd 777431557 0 [v465, (.int 5), v484, v470] v470 .lf .lf))) (.nd 796080524 0 [v462, (.int 3), v65, v59] v65 (.nd 792980909 1 [v469, (.int 5), v471, v486] v471 (.nd 789112328 1 [v462, (.int 3), v461, v471] v471 .lf .lf) (.nd 795248507 1 [v469, (.int 5), v472, v471] v471 .lf .lf)) (.nd 805110300 1 [v469, (.int 5), v451, v471] v471 (.nd 798738210 1 [v469, (.int 5), v473, v471] v471 .lf .lf) (.nd 809020588 0 [v463, (.int 3), v470, v65] v470 .lf .lf)))
def t_ring_times_23 : Tr := .nd 845047279 0 [v462, (.int 3), v4, v470] v470 (.nd 840023228 0 [v468, (.int 3), v457, v457] v65 (.nd 828079774 0 [v466, (.int 7), v470, v470] v470 (.nd 813642878 0 [v460, (.int 7), v470, v59] v470 .lf .lf) (.nd 833430342 1 [v462, (.int 3), v473, v461] v461 .lf .lf)) (.nd 844024596 0 [v462, (.int 3), v65, v74] v73 (.nd 842950832 0 [v466, (.int 7), v229, v470] v470 .lf .lf) (.nd 844831644 0 [v463, (.int 3), v456, v470] v470 .lf .lf))) (.nd 872520585 1 [v465, (.int 5), v471, v508] v471 (.nd 857669333 1 [v469, (.int 5), v471, v444] v471 (.nd 856964660 0 [v463, (.int 3), v470, v56] v470 .lf .lf) (.nd 858470619 0 [v468, (.int 3), v470, v456] v470 .lf .lf)) (.nd 876106206 1 [v468, (.int 3), v473, v443] v443 (.nd 873492502 2 [v465, (.int 5), v477, v477] v498 .lf .lf) (.nd 883308880 0 [v465, (.int 5), v470, v4] v470 .lf .lf)))
def t_ring_times_24 : Tr := .nd 810526547 0 [v468, (.int 3), v470, v470] v470 t_ring_times_22 t_ring_times_23
def t_ring_times_25 : Tr := .nd 923112896 0 [v469, (.int 5), v470, v488] v470 (.nd 904908732 0 [v463, (.int 3), v470, v73] v470 (.nd 894994655 0 [v465, (.int 5), v243, v488] v65 (.nd 891125911 0 [v460, (.int 7), v470, v229] v470 .lf .lf) (.nd 899392576 0 [v469, (.int 5), v470, v484] v470 .lf .lf)) (.nd 910664937 0 [v468, (.int 3), v59, v65] v65 (.nd 906414691 0 [v468, (.int 3), v470, v457] v470 .lf .lf) (.nd 911438742 0 [v462, (.int 3), v59, v470] v470 .lf .lf))) (.nd 932092424 1 [v468, (.int 3), v506, v471] v471 (.nd 930548425 0 [v469, (.int 5), v488, v488] v243 (.nd 928067208 0 [v467, (.int 3), v59, v73] v73 .lf .lf) (.nd 932010920 1 [v466, (.int 7), v478, v478] v479 .lf .lf)) (.nd 945768253 0 [v469, (.int 5), v59, v470] v470 (.nd 939352165 1 [v462, (.int 3), v471, v479] v471 .lf .lf) (.nd 946475993 0 [v468, (.int 3), v74, v470] v470 .lf .lf)))
def t_ring_times_26 : Tr := .nd 948052984 1 [v460, (.int 7), v500, v500] (.tup [(.int 0), (.int 3), (.int 0), (.int 0)]) t_ring_times_25 (.nd 969828477 1 [v465, (.int 5), v471, v495] v471 (.nd 958609009 0 [v468, (.int 3), v59, v56] v56 (.nd 953506879 0 [v466, (.int 7), v470, v510] v470 (.nd 953203782 0 [v469, (.int 5), v243, v470] v470 .lf .lf) (.nd 954854435 2 [v462, (.int 3), v511, v511] v483 .lf .lf)) (.nd 963293735 0 [v460, (.int 7), v470, v485] v470 (.nd 959029382 1 [v469, (.int 5), v494, v471] v471 .lf .lf) (.nd 967690546 0 [v459, (.int 5), v484, v470] v470 .lf .lf))) (.nd 992607139 1 [v465, (.int 5), v508, v471] v471 (.nd 983316522 1 [v468, (.int 3), v443, v471] v471 (.nd 971056968 0 [v469, (.int 5), v470, v418] v470 .lf .lf) (.nd 984175126 0 [v466, (.int 5), v56, v56] v484 .lf .lf)) (.nd 998559079 0 [v460, (.int 7), v513, v470] v470 (.nd 993178315 1 [v468, (.int 3), v471, v471] v471 .lf .lf) .lf)))
def t_ring_times_27 : Tr := .nd 886812319 0 [v469, (.int 5), v158, v470] v470 t_ring_times_24 t_ring_times_26
def t_ring_times_28 : Tr := .nd 755560360 0 [v469, (.int 5), v470, v56] v470 t_ring_times_21 t_ring_times_27
def t_ring_times : Tr := .nd 482130501 0 [v469, (.int 5), v484, v470] v470 t_ring_times_14 t_ring_times_28
def t_fits_in : Tr := .nd 653419604 1 [v24, (.int 7)] (.bl true) (.nd 217079259 2 [v22, (.int 3)] (.bl true) (.nd 88855265 1 [v3, (.int 5)] (.bl true) (.nd 26928928 1 [v21, (.int 7)] (.bl true) .lf .lf) .lf) (.nd 455278069 1 [v20, (.int 3)] (.bl true) .lf .lf)) (.nd 871484333 1 [v11, (.int 5)] (.bl true) (.nd 828787400 1 [v25, (.int 3)] (.bl true) .lf .lf) (.nd 999708327 2 [v23, (.int 3)] (.bl true) .lf .lf))
def t_moves_in : Tr := .nd 411320967 2 [v25, (.int 3), v28, (.int 2)] (.bl true) (.nd 162552435 3 [v22, (.int 3), v31, (.int 2)] (.bl true) (.nd 96379641 3 [v11, (.int 5), v31, (.int 2)] (.bl true) (.nd 9780007 2 [v21, (.int 7), v28, (.int 2)] (.bl true) .lf .lf) .lf) (.nd 186786658 2 [v24, (.int 7), v28, (.int 2)] (.bl true) .lf .lf)) (.nd 588327618 2 [v20, (.int 3), v28, (.int 2)] (.bl true) (.nd 495606793 3 [v23, (.int 3), v31, (.int 2)] (.bl true) .lf .lf) (.nd 763325290 3 [v3, (.int 5), v31, (.int 2)] (.bl true) .lf .lf))
def t_nested_paper : Tr := .nd 537156510 3 [v24, v28] v516 (.nd 302427981 3 [v21, v28] v516 (.nd 154806724 4 [v3, v31] v515 (.nd 51422506 4 [v23, v31] v514 .lf .lf) .lf) (.nd 304392573 4 [v11, v31] v515 .lf .lf)) (.nd 901836664 4 [v22, v31] v514 (.nd 685110649 3 [v25, v28] v514 .lf .lf) (.nd 919839178 3 [v20, v28] v514 .lf .lf))
def t_is_nested_paper : Tr := .nd 648909806 2 [v25, v29, v514] (.bl false) (.nd 379801580 4 [v11, v31, v515] (.bl true) (.nd 262144993 4 [v22, v31, v514] (.bl true) (.nd 221379466 2 [v20, v29, v514] (.bl false) (.nd 112632027 2 [v21, v29, v516] (.bl false) .lf .lf) .lf) (.nd 268743156 3 [v3, v34, v515] (.bl false) .lf .lf)) (.nd 421023806 3 [v24, v28, v516] (.bl true) (.nd 384831918 3 [v25, v28, v514] (.bl true) .lf .lf) (.nd 554216854 3 [v23, v34, v514] (.bl false) .lf .lf))) (.nd 852651715 3 [v22, v34, v514] (.bl false) (.nd 685101694 2 [v24, v29, v516] (.bl false) (.nd 678236441 4 [v3, v31, v515] (.bl true) .lf .lf) (.nd 848554146 3 [v21, v28, v516] (.bl true) .lf .lf)) (.nd 963710139 4 [v23, v31, v514] (.bl true) (.nd 957301585 3 [v20, v28, v514] (.bl true) .lf .lf) (.nd 970308302 3 [v11, v34, v515] (.bl false) .lf .lf)))
def t_fits : Tr := .nd 653419604 2 [v24, (.int 7)] (.bl true) (.nd 217079259 3 [v22, (.int 3)] (.bl true) (.nd 88855265 2 [v3, (.int 5)] (.bl true) (.nd 26928928 2 [v21, (.int 7)] (.bl true) .lf .lf) .lf) (.nd 455278069 2 [v20, (.int 3)] (.bl true) .lf .lf)) (.nd 871484333 2 [v11, (.int 5)] (.bl true) (.nd 828787400 2 [v25, (.int 3)] (.bl true) .lf .lf) (.nd 999708327 3 [v23, (.int 3)] (.bl true) .lf .lf))
def t_power_in_ring : Tr := .nd 467321135 2 [v25, (.int 3), v28, (.int 9)] v518 (.nd 218552603 3 [v22, (.int 3), v31, (.int 9)] (.tup [(.int 0), (.int 0), (.int 0), (.int 0), (.int 1), (.int 2), (.int 0), (.int 2)]) (.nd 154552411 3 [v22, (.int 3), v31, (.int 1)] v447 (.nd 88379617 3 [v11, (.int 5), v31, (.int 1)] v447 (.nd 1779983 2 [v21, (.int 7), v28, (.int 1)] v442 .lf .lf) .lf) (.nd 178786634 2 [v24, (.int 7), v28, (.int 1)] v442 .lf .lf)) (.nd 385781135 2 [v21, (.int 7), v28, (.int 49)] v517 (.nd 280380193 3 [v11, (.int 5), v31, (.int 25)] (.tup [(.int 0), (.int 0), (.int 0), (.int 0), (.int 0), (.int 0), (.int 4), (.int 3)]) .lf .lf) (.nd 403320943 2 [v25, (.int 3), v28, (.int 1)] v442 .lf .lf))) (.nd 580327594 2 [v20, (.int 3), v28, (.int 1)] v442 (.nd 551606961 3 [v23, (.int 3), v31, (.int 9)] (.tup [(.int 0), (.int 0), (.int 0), (.int 0), (.int 1), (.int 1), (.int 0), (.int 2)]) (.nd 487606769 3 [v23, (.int 3), v31, (.int 1)] v447 .lf .lf) (.nd 562787786 2 [v24, (.int 7), v28, (.int 49)] v517 .lf .lf)) (.nd 755325266 3 [v3, (.int 5), v31, (.int 1)] v447 (.nd 644327786 2 [v20, (.int 3), v28, (.int 9)] v518 .lf .lf) (.nd 947325842 3 [v3, (.int 5), v31, (.int 25)] (.tup [(.int 0), (.int 0), (.int 0), (.int 0), (.int 0), (.int 0), (.int 1), (.int 3)]) .lf .lf)))
def t_led : Tr := .nd 534639957 0 [(.int 17), v537, v445] (.int 8) (.nd 320761383 0 [(.int 31), v529, v443] (.int 7) (.nd 200618611 0 [(.int 17), v524, v445] (.int 13) (.nd 36371745 0 [(.int 17), v521, v443] (.int 14) (.nd 15000832 0 [(.int 31), v519, v443] (.int 16) .lf .lf) (.nd 179543149 0 [(.int 31), v520, v443] (.int 28) .lf .lf)) (.nd 243529603 0 [(.int 7), v448, v56] (.int 5) (.nd 223926585 0 [(.int 31), v522, v458] (.int 19) .lf .lf) (.nd 302401643 0 [(.int 17), v523, v446] (.int 14) .lf .lf))) (.nd 481457538 0 [(.int 17), v524, v56] (.int 8) (.nd 380029362 0 [(.int 31), v527, v453] (.int 10) (.nd 377965331 0 [(.int 31), v525, v453] (.int 25) .lf .lf) (.nd 469420576 0 [(.int 31), v526, v458] (.int 7) .lf .lf)) (.nd 533814795 0 [(.int 17), v528, v446] (.int 11) (.nd 483249963 0 [(.int 7), v448, v452] (.int 6) .lf .lf) .lf))) (.nd 750111161 0 [(.int 17), v539, v443] (.int 7) (.nd 621207086 0 [(.int 17), v535, v443] (.int 10) (.nd 588662234 0 [(.int 17), v532, v446] (.int 7) (.nd 566255374 0 [(.int 31), v530, v443] (.int 19) .lf .lf) (.nd 610638810 0 [(.int 31), v531, v458] (.int 28) .lf .lf)) (.nd 717566309 0 [(.int 17), v534, v446] (.int 10) (.nd 710333875 0 [(.int 7), v533, v56] (.int 6) .lf .lf) .lf)) (.nd 950054235 0 [(.int 7), v533, v452] (.int 5) (.nd 804958600 0 [(.int 17), v538, v443] (.int 11) (.nd 775181127 0 [(.int 31), v536, v458] (.int 16) .lf .lf) (.nd 815478884 0 [(.int 17), v537, v56] (.int 13) .lf .lf)) (.nd 989651288 0 [(.int 31), v527, v56] (.int 25) (.nd 987587257 0 [(.int 31), v525, v56] (.int 10) .lf .lf) .lf)))
def t_all_rests_1 : Tr := .nd 218929504 1 [v21, (.int 31)] (.tup []) (.nd 104855313 2 [v3, (.int 7)] (.tup []) (.nd 52788065 1 [v25, (.int 31)] (.tup [v531, v526, v522, v536]) (.nd 31708416 1 [v23, (.int 7)] (.tup []) (.nd 26928928 2 [v21, (.int 7)] (.tup []) .lf .lf) .lf) (.nd 79484950 1 [v11, (.int 31)] (.tup []) .lf .lf)) (.nd 148829143 2 [v8, (.int 7)] (.tup []) (.nd 111708656 1 [v23, (.int 17)] (.tup []) (.nd 106929168 1 [v21, (.int 17)] (.tup []) .lf .lf) .lf) (.nd 184855553 2 [v3, (.int 17)] (.tup []) .lf .lf))) (.nd 296855889 1 [v3, (.int 31)] (.tup []) (.nd 249079355 1 [v22, (.int 7)] (.tup []) (.nd 228829383 1 [v8, (.int 17)] (.tup []) (.nd 223708992 1 [v23, (.int 31)] (.tup [(.tup [(.int 8), (.int 14), (.int 4)]), (.tup [(.int 8), (.int 14), (.int 27)]), (.tup [(.int 8), (.int 17), (.int 9)]), (.tup [(.int 8), (.int 17), (.int 22)]), (.tup [(.int 23), (.int 5), (.int 10)]), (.tup [(.int 23), (.int 5), (.int 21)]), (.tup [(.int 23), (.int 26), (.int 11)]), (.tup [(.int 23), (.int 26), (.int 20)])]) .lf .lf) .lf) (.nd 280112175 2 [v19, (.int 7)] (.tup []) .lf .lf)) (.nd 340829719 1 [v8, (.int 31)] (.tup []) (.nd 329079595 1 [v22, (.int 17)] (.tup []) .lf .lf) (.nd 360112415 1 [v19, (.int 17)] (.tup []) .lf .lf)))
def t_all_rests_2 : Tr := .nd 653419604 2 [v24, (.int 7)] (.tup []) (.nd 567278405 1 [v20, (.int 17)] (.tup [v539, v521, v535, v538]) (.nd 487278165 1 [v20, (.int 7)] (.tup []) (.nd 472112751 1 [v19, (.int 31)] (.tup []) (.nd 441079931 1 [v22, (.int 31)] (.tup [(.tup [(.int 8), (.int 5), (.int 11)]), (.tup [(.int 8), (.int 5), (.int 20)]), (.tup [(.int 8), (.int 26), (.int 10)]), (.tup [(.int 8), (.int 26), (.int 21)]), (.tup [(.int 23), (.int 14), (.int 9)]), (.tup [(.int 23), (.int 14), (.int 22)]), (.tup [(.int 23), (.int 17), (.int 4)]), (.tup [(.int 23), (.int 17), (.int 27)])]) .lf .lf) .lf) (.nd 516053755 2 [v13, (.int 17)] (.tup []) .lf .lf)) (.nd 628054091 2 [v13, (.int 31)] (.tup []) (.nd 567336547 2 [v15, (.int 7)] (.tup []) .lf .lf) (.nd 647336787 2 [v15, (.int 17)] (.tup []) .lf .lf))) (.nd 860787496 1 [v25, (.int 7)] (.tup []) (.nd 759337123 2 [v15, (.int 31)] (.tup []) (.nd 733419844 1 [v24, (.int 17)] (.tup []) (.nd 679278741 1 [v20, (.int 31)] (.tup [v519, v530, v529, v520]) .lf .lf) .lf) (.nd 845420180 1 [v24, (.int 31)] (.tup []) .lf .lf)) (.nd 940787736 1 [v25, (.int 17)] (.tup [v528, v534, v523, v532]) (.nd 887484381 2 [v11, (.int 7)] (.tup []) .lf .lf) (.nd 967484621 2 [v11, (.int 17)] (.tup []) .lf .lf)))
def t_all_rests : Tr := .nd 436053515 2 [v13, (.int 7)] (.tup []) t_all_rests_1 t_all_rests_2
def t_need_prime : Tr := .nd 255993772 0 [(.int 31)] .non (.nd 143993436 0 [(.int 17)] .non .lf .lf) .lf
def t_common : Tr := .nd 710942225 0 [v546] (.int 1) (.nd 201764125 0 [v447] (.int 1) (.nd 126068385 0 [v541] (.int 1) (.nd 62100107 0 [v540] (.int 1) .lf .lf) .lf) (.nd 393668959 0 [v543] (.int 1) (.nd 329700681 0 [v542] (.int 1) .lf .lf) .lf)) (.nd 896672701 0 [v474] (.int 1) (.nd 842582382 0 [v545] (.int 1) (.nd 778614104 0 [v544] (.int 1) .lf .lf) .lf) (.nd 960640979 0 [v492] (.int 1) .lf .lf))
def t_turned_in : Tr := .nd 895719444 0 [v18] v7 (.nd 408601138 0 [v12] v14 (.nd 344632860 0 [v7] v18 .lf .lf) .lf) (.nd 959687722 0 [v14] v12 .lf .lf)
def TT : Bt Tr := (.nd 34 t_whole_root (.nd 16 t_turned_in (.nd 8 t_whole_in (.nd 5 t_need_tower (.nd 3 t_common (.nd 2 t_is_element_in .lf .lf) .lf) (.nd 7 t_lowest_in (.nd 6 t_need_element .lf .lf) .lf)) (.nd 13 t_halves_in (.nd 12 t_minus_in (.nd 10 t_plus_in .lf .lf) .lf) (.nd 15 t_times_in (.nd 14 t_joined_in .lf .lf) .lf))) (.nd 27 t_products (.nd 23 t_sign (.nd 22 t_sign_in (.nd 18 t_inverse_in .lf .lf) .lf) (.nd 25 t_root_below (.nd 24 t_order .lf .lf) .lf)) (.nd 31 t_are_bounds (.nd 29 t_is_bound (.nd 28 t_span_in .lf .lf) .lf) (.nd 33 t_bounds .lf .lf)))) (.nd 54 t_moves_in (.nd 45 t_ring_of (.nd 40 t_is_tower (.nd 37 t_square_root (.nd 35 t_some_root .lf .lf) .lf) (.nd 44 t_in_ring (.nd 42 t_need_prime .lf .lf) .lf)) (.nd 50 t_fits (.nd 49 t_fits_in (.nd 46 t_ring_times .lf .lf) .lf) (.nd 53 t_all_rests (.nd 51 t_led .lf .lf) .lf))) (.nd 67 t__law_product (.nd 59 t_power_in_ring (.nd 58 t_is_nested_paper (.nd 57 t_nested_paper .lf .lf) .lf) (.nd 66 t__law_sum (.nd 64 t__law_lowest .lf .lf) .lf)) (.nd 70 t__law_worth (.nd 69 t__law_near (.nd 68 t__law_root_below .lf .lf) .lf) (.nd 71 t__law_twos .lf .lf)))))
def NT : Bt (List D → Hd → K1 → Bool) := (.nd 61 drawT (.nd 60 penT .lf .lf) .lf)
def N0 : Nat → Option (List D → Hd → K1 → Bool) := bt NT
-- layers 5 20 10
abbrev RL (l f : Nat) (s : Tr) : Prop := okT (fun ds r => Z.call P C N0 (fnd TT l) 20 f ds ⟨0, []⟩ never fun d h => same (flat h d) r) l 0 1000000007 s = true
def TF : Z.Tx := ⟨Z.call P C N0 (fnd TT 5) 10, C⟩
def yes : K1 := fun d _ => match d with | .bl b => b | _ => false

theorem h_is_element_in_0_0 : chk QT N0 TT 20 2 0 0 1000000007 t_is_element_in = true := by kernel_rfl
theorem g_is_element_in_0 : RL 0 2 t_is_element_in := chk_ok quick h_is_element_in_0_0
theorem h_common_0_0 : chk QT N0 TT 20 3 0 0 1000000007 t_common = true := by kernel_rfl
theorem g_common_0 : RL 0 3 t_common := chk_ok quick h_common_0_0
theorem h_need_tower_0_0 : chk QT N0 TT 20 5 0 0 1000000007 t_need_tower = true := by kernel_rfl
theorem g_need_tower_0 : RL 0 5 t_need_tower := chk_ok quick h_need_tower_0_0
theorem h_need_element_0_0 : chk QT N0 TT 20 6 0 0 1000000007 t_need_element = true := by kernel_rfl
theorem g_need_element_0 : RL 0 6 t_need_element := chk_ok quick h_need_element_0_0
theorem h_lowest_in_0_0 : chk QT N0 TT 20 7 0 0 423886852 t_lowest_in = true := by kernel_rfl
theorem h_lowest_in_0_1 : chk QT N0 TT 20 7 0 423886852 877284779 t_lowest_in = true := by kernel_rfl
theorem h_lowest_in_0_2 : chk QT N0 TT 20 7 0 877284779 1000000007 t_lowest_in = true := by kernel_rfl
theorem g_lowest_in_0 : RL 0 7 t_lowest_in := okT_join (okT_join (chk_ok quick h_lowest_in_0_0) (chk_ok quick h_lowest_in_0_1)) (chk_ok quick h_lowest_in_0_2)
theorem h_whole_in_0_0 : chk QT N0 TT 20 8 0 0 1000000007 t_whole_in = true := by kernel_rfl
theorem g_whole_in_0 : RL 0 8 t_whole_in := chk_ok quick h_whole_in_0_0
theorem h_plus_in_0_0 : chk QT N0 TT 20 10 0 0 730364537 t_plus_in = true := by kernel_rfl
theorem h_plus_in_0_1 : chk QT N0 TT 20 10 0 730364537 1000000007 t_plus_in = true := by kernel_rfl
theorem g_plus_in_0 : RL 0 10 t_plus_in := okT_join (chk_ok quick h_plus_in_0_0) (chk_ok quick h_plus_in_0_1)
theorem h_minus_in_0_0 : chk QT N0 TT 20 12 0 0 1000000007 t_minus_in = true := by kernel_rfl
theorem g_minus_in_0 : RL 0 12 t_minus_in := chk_ok quick h_minus_in_0_0
theorem h_halves_in_0_0 : chk QT N0 TT 20 13 0 0 421593217 t_halves_in = true := by kernel_rfl
theorem h_halves_in_0_1 : chk QT N0 TT 20 13 0 421593217 729578005 t_halves_in = true := by kernel_rfl
theorem h_halves_in_0_2 : chk QT N0 TT 20 13 0 729578005 1000000007 t_halves_in = true := by kernel_rfl
theorem g_halves_in_0 : RL 0 13 t_halves_in := okT_join (okT_join (chk_ok quick h_halves_in_0_0) (chk_ok quick h_halves_in_0_1)) (chk_ok quick h_halves_in_0_2)
theorem h_joined_in_0_0 : chk QT N0 TT 20 14 0 0 463635615 t_joined_in = true := by kernel_rfl
theorem h_joined_in_0_1 : chk QT N0 TT 20 14 0 463635615 912841255 t_joined_in = true := by kernel_rfl
theorem h_joined_in_0_2 : chk QT N0 TT 20 14 0 912841255 1000000007 t_joined_in = true := by kernel_rfl
theorem g_joined_in_0 : RL 0 14 t_joined_in := okT_join (okT_join (chk_ok quick h_joined_in_0_0) (chk_ok quick h_joined_in_0_1)) (chk_ok quick h_joined_in_0_2)
theorem h_times_in_0_0 : chk QT N0 TT 20 15 0 0 346010814 t_times_in = true := by kernel_rfl
theorem h_times_in_0_1 : chk QT N0 TT 20 15 0 346010814 614028857 t_times_in = true := by kernel_rfl
theorem h_times_in_0_2 : chk QT N0 TT 20 15 0 614028857 951954667 t_times_in = true := by kernel_rfl
theorem h_times_in_0_3 : chk QT N0 TT 20 15 0 951954667 1000000007 t_times_in = true := by kernel_rfl
theorem g_times_in_0 : RL 0 15 t_times_in := okT_join (okT_join (okT_join (chk_ok quick h_times_in_0_0) (chk_ok quick h_times_in_0_1)) (chk_ok quick h_times_in_0_2)) (chk_ok quick h_times_in_0_3)
theorem h_turned_in_0_0 : chk QT N0 TT 20 16 0 0 1000000007 t_turned_in = true := by kernel_rfl
theorem g_turned_in_0 : RL 0 16 t_turned_in := chk_ok quick h_turned_in_0_0
theorem h_inverse_in_0_0 : chk QT N0 TT 20 18 0 0 1000000007 t_inverse_in = true := by kernel_rfl
theorem g_inverse_in_0 : RL 0 18 t_inverse_in := chk_ok quick h_inverse_in_0_0
theorem h_sign_in_0_0 : chk QT N0 TT 20 22 0 0 1000000007 t_sign_in = true := by kernel_rfl
theorem g_sign_in_0 : RL 0 22 t_sign_in := chk_ok quick h_sign_in_0_0
theorem h_sign_0_0 : chk QT N0 TT 20 23 0 0 1000000007 t_sign = true := by kernel_rfl
theorem g_sign_0 : RL 0 23 t_sign := chk_ok quick h_sign_0_0
theorem h_order_0_0 : chk QT N0 TT 20 24 0 0 1000000007 t_order = true := by kernel_rfl
theorem g_order_0 : RL 0 24 t_order := chk_ok quick h_order_0_0
theorem h_root_below_0_0 : chk QT N0 TT 20 25 0 0 1000000007 t_root_below = true := by kernel_rfl
theorem g_root_below_0 : RL 0 25 t_root_below := chk_ok quick h_root_below_0_0
theorem h_products_0_0 : chk QT N0 TT 20 27 0 0 1000000007 t_products = true := by kernel_rfl
theorem g_products_0 : RL 0 27 t_products := chk_ok quick h_products_0_0
theorem h_span_in_0_0 : chk QT N0 TT 20 28 0 0 1000000007 t_span_in = true := by kernel_rfl
theorem g_span_in_0 : RL 0 28 t_span_in := chk_ok quick h_span_in_0_0
theorem h_is_bound_0_0 : chk QT N0 TT 20 29 0 0 1000000007 t_is_bound = true := by kernel_rfl
theorem g_is_bound_0 : RL 0 29 t_is_bound := chk_ok quick h_is_bound_0_0
theorem h_are_bounds_0_0 : chk QT N0 TT 20 31 0 0 1000000007 t_are_bounds = true := by kernel_rfl
theorem g_are_bounds_0 : RL 0 31 t_are_bounds := chk_ok quick h_are_bounds_0_0
theorem h_bounds_0_0 : chk QT N0 TT 20 33 0 0 1000000007 t_bounds = true := by kernel_rfl
theorem g_bounds_0 : RL 0 33 t_bounds := chk_ok quick h_bounds_0_0
theorem h_whole_root_0_0 : chk QT N0 TT 20 34 0 0 1000000007 t_whole_root = true := by kernel_rfl
theorem g_whole_root_0 : RL 0 34 t_whole_root := chk_ok quick h_whole_root_0_0
theorem h_some_root_0_0 : chk QT N0 TT 20 35 0 0 1000000007 t_some_root = true := by kernel_rfl
theorem g_some_root_0 : RL 0 35 t_some_root := chk_ok quick h_some_root_0_0
theorem h_square_root_0_0 : chk QT N0 TT 20 37 0 0 1000000007 t_square_root = true := by kernel_rfl
theorem g_square_root_0 : RL 0 37 t_square_root := chk_ok quick h_square_root_0_0
theorem h_is_tower_0_0 : chk QT N0 TT 20 40 0 0 1000000007 t_is_tower = true := by kernel_rfl
theorem g_is_tower_0 : RL 0 40 t_is_tower := chk_ok quick h_is_tower_0_0
theorem h_need_prime_0_0 : chk QT N0 TT 20 42 0 0 1000000007 t_need_prime = true := by kernel_rfl
theorem g_need_prime_0 : RL 0 42 t_need_prime := chk_ok quick h_need_prime_0_0
theorem h_in_ring_0_0 : chk QT N0 TT 20 44 0 0 1000000007 t_in_ring = true := by kernel_rfl
theorem g_in_ring_0 : RL 0 44 t_in_ring := chk_ok quick h_in_ring_0_0
theorem h_ring_of_0_0 : chk QT N0 TT 20 45 0 0 1000000007 t_ring_of = true := by kernel_rfl
theorem g_ring_of_0 : RL 0 45 t_ring_of := chk_ok quick h_ring_of_0_0
theorem h_ring_times_0_0 : chk QT N0 TT 20 46 0 0 234497641 t_ring_times = true := by kernel_rfl
theorem h_ring_times_0_1 : chk QT N0 TT 20 46 0 234497641 424705534 t_ring_times = true := by kernel_rfl
theorem h_ring_times_0_2 : chk QT N0 TT 20 46 0 424705534 662059280 t_ring_times = true := by kernel_rfl
theorem h_ring_times_0_3 : chk QT N0 TT 20 46 0 662059280 894994655 t_ring_times = true := by kernel_rfl
theorem h_ring_times_0_4 : chk QT N0 TT 20 46 0 894994655 1000000007 t_ring_times = true := by kernel_rfl
theorem g_ring_times_0 : RL 0 46 t_ring_times := okT_join (okT_join (okT_join (okT_join (chk_ok quick h_ring_times_0_0) (chk_ok quick h_ring_times_0_1)) (chk_ok quick h_ring_times_0_2)) (chk_ok quick h_ring_times_0_3)) (chk_ok quick h_ring_times_0_4)
theorem h_fits_in_0_0 : chk QT N0 TT 20 49 0 0 1000000007 t_fits_in = true := by kernel_rfl
theorem g_fits_in_0 : RL 0 49 t_fits_in := chk_ok quick h_fits_in_0_0
theorem h_fits_0_0 : chk QT N0 TT 20 50 0 0 1000000007 t_fits = true := by kernel_rfl
theorem g_fits_0 : RL 0 50 t_fits := chk_ok quick h_fits_0_0
theorem h_led_0_0 : chk QT N0 TT 20 51 0 0 1000000007 t_led = true := by kernel_rfl
theorem g_led_0 : RL 0 51 t_led := chk_ok quick h_led_0_0
theorem h_all_rests_0_0 : chk QT N0 TT 20 53 0 0 1000000007 t_all_rests = true := by kernel_rfl
theorem g_all_rests_0 : RL 0 53 t_all_rests := chk_ok quick h_all_rests_0_0
theorem h_moves_in_0_0 : chk QT N0 TT 20 54 0 0 1000000007 t_moves_in = true := by kernel_rfl
theorem g_moves_in_0 : RL 0 54 t_moves_in := chk_ok quick h_moves_in_0_0
theorem h_nested_paper_0_0 : chk QT N0 TT 20 57 0 0 1000000007 t_nested_paper = true := by kernel_rfl
theorem g_nested_paper_0 : RL 0 57 t_nested_paper := chk_ok quick h_nested_paper_0_0
theorem h_is_nested_paper_0_0 : chk QT N0 TT 20 58 0 0 1000000007 t_is_nested_paper = true := by kernel_rfl
theorem g_is_nested_paper_0 : RL 0 58 t_is_nested_paper := chk_ok quick h_is_nested_paper_0_0
theorem h_power_in_ring_0_0 : chk QT N0 TT 20 59 0 0 1000000007 t_power_in_ring = true := by kernel_rfl
theorem g_power_in_ring_0 : RL 0 59 t_power_in_ring := chk_ok quick h_power_in_ring_0_0
theorem h__law_lowest_0_0 : chk QT N0 TT 20 64 0 0 1000000007 t__law_lowest = true := by kernel_rfl
theorem g__law_lowest_0 : RL 0 64 t__law_lowest := chk_ok quick h__law_lowest_0_0
theorem h__law_sum_0_0 : chk QT N0 TT 20 66 0 0 1000000007 t__law_sum = true := by kernel_rfl
theorem g__law_sum_0 : RL 0 66 t__law_sum := chk_ok quick h__law_sum_0_0
theorem h__law_product_0_0 : chk QT N0 TT 20 67 0 0 1000000007 t__law_product = true := by kernel_rfl
theorem g__law_product_0 : RL 0 67 t__law_product := chk_ok quick h__law_product_0_0
theorem h__law_root_below_0_0 : chk QT N0 TT 20 68 0 0 110101359 t__law_root_below = true := by kernel_rfl
theorem h__law_root_below_0_1 : chk QT N0 TT 20 68 0 110101359 226356016 t__law_root_below = true := by kernel_rfl
theorem h__law_root_below_0_2 : chk QT N0 TT 20 68 0 226356016 455077189 t__law_root_below = true := by kernel_rfl
theorem h__law_root_below_0_3 : chk QT N0 TT 20 68 0 455077189 731796175 t__law_root_below = true := by kernel_rfl
theorem h__law_root_below_0_4 : chk QT N0 TT 20 68 0 731796175 1000000007 t__law_root_below = true := by kernel_rfl
theorem g__law_root_below_0 : RL 0 68 t__law_root_below := okT_join (okT_join (okT_join (okT_join (chk_ok quick h__law_root_below_0_0) (chk_ok quick h__law_root_below_0_1)) (chk_ok quick h__law_root_below_0_2)) (chk_ok quick h__law_root_below_0_3)) (chk_ok quick h__law_root_below_0_4)
theorem h__law_near_0_0 : chk QT N0 TT 20 69 0 0 1000000007 t__law_near = true := by kernel_rfl
theorem g__law_near_0 : RL 0 69 t__law_near := chk_ok quick h__law_near_0_0
theorem h__law_worth_0_0 : chk QT N0 TT 20 70 0 0 1000000007 t__law_worth = true := by kernel_rfl
theorem g__law_worth_0 : RL 0 70 t__law_worth := chk_ok quick h__law_worth_0_0
theorem h__law_twos_0_0 : chk QT N0 TT 20 71 0 0 1000000007 t__law_twos = true := by kernel_rfl
theorem g__law_twos_0 : RL 0 71 t__law_twos := chk_ok quick h__law_twos_0_0
theorem hl_0 : BtAll (RL 0) TT := ⟨g_whole_root_0, ⟨g_turned_in_0, ⟨g_whole_in_0, ⟨g_need_tower_0, ⟨g_common_0, ⟨g_is_element_in_0, trivial, trivial⟩, trivial⟩, ⟨g_lowest_in_0, ⟨g_need_element_0, trivial, trivial⟩, trivial⟩⟩, ⟨g_halves_in_0, ⟨g_minus_in_0, ⟨g_plus_in_0, trivial, trivial⟩, trivial⟩, ⟨g_times_in_0, ⟨g_joined_in_0, trivial, trivial⟩, trivial⟩⟩⟩, ⟨g_products_0, ⟨g_sign_0, ⟨g_sign_in_0, ⟨g_inverse_in_0, trivial, trivial⟩, trivial⟩, ⟨g_root_below_0, ⟨g_order_0, trivial, trivial⟩, trivial⟩⟩, ⟨g_are_bounds_0, ⟨g_is_bound_0, ⟨g_span_in_0, trivial, trivial⟩, trivial⟩, ⟨g_bounds_0, trivial, trivial⟩⟩⟩⟩, ⟨g_moves_in_0, ⟨g_ring_of_0, ⟨g_is_tower_0, ⟨g_square_root_0, ⟨g_some_root_0, trivial, trivial⟩, trivial⟩, ⟨g_in_ring_0, ⟨g_need_prime_0, trivial, trivial⟩, trivial⟩⟩, ⟨g_fits_0, ⟨g_fits_in_0, ⟨g_ring_times_0, trivial, trivial⟩, trivial⟩, ⟨g_all_rests_0, ⟨g_led_0, trivial, trivial⟩, trivial⟩⟩⟩, ⟨g__law_product_0, ⟨g_power_in_ring_0, ⟨g_is_nested_paper_0, ⟨g_nested_paper_0, trivial, trivial⟩, trivial⟩, ⟨g__law_sum_0, ⟨g__law_lowest_0, trivial, trivial⟩, trivial⟩⟩, ⟨g__law_worth_0, ⟨g__law_near_0, ⟨g__law_root_below_0, trivial, trivial⟩, trivial⟩, ⟨g__law_twos_0, trivial, trivial⟩⟩⟩⟩⟩
theorem h_is_element_in_1_0 : chk QT N0 TT 20 2 1 0 1000000007 t_is_element_in = true := by kernel_rfl
theorem g_is_element_in_1 : RL 1 2 t_is_element_in := chk_ok quick h_is_element_in_1_0
theorem h_common_1_0 : chk QT N0 TT 20 3 1 0 1000000007 t_common = true := by kernel_rfl
theorem g_common_1 : RL 1 3 t_common := chk_ok quick h_common_1_0
theorem h_need_tower_1_0 : chk QT N0 TT 20 5 1 0 1000000007 t_need_tower = true := by kernel_rfl
theorem g_need_tower_1 : RL 1 5 t_need_tower := chk_ok quick h_need_tower_1_0
theorem h_need_element_1_0 : chk QT N0 TT 20 6 1 0 1000000007 t_need_element = true := by kernel_rfl
theorem g_need_element_1 : RL 1 6 t_need_element := chk_ok quick h_need_element_1_0
theorem h_lowest_in_1_0 : chk QT N0 TT 20 7 1 0 1000000007 t_lowest_in = true := by kernel_rfl
theorem g_lowest_in_1 : RL 1 7 t_lowest_in := chk_ok quick h_lowest_in_1_0
theorem h_whole_in_1_0 : chk QT N0 TT 20 8 1 0 1000000007 t_whole_in = true := by kernel_rfl
theorem g_whole_in_1 : RL 1 8 t_whole_in := chk_ok quick h_whole_in_1_0
theorem h_plus_in_1_0 : chk QT N0 TT 20 10 1 0 1000000007 t_plus_in = true := by kernel_rfl
theorem g_plus_in_1 : RL 1 10 t_plus_in := chk_ok quick h_plus_in_1_0
theorem h_minus_in_1_0 : chk QT N0 TT 20 12 1 0 1000000007 t_minus_in = true := by kernel_rfl
theorem g_minus_in_1 : RL 1 12 t_minus_in := chk_ok quick h_minus_in_1_0
theorem h_halves_in_1_0 : chk QT N0 TT 20 13 1 0 1000000007 t_halves_in = true := by kernel_rfl
theorem g_halves_in_1 : RL 1 13 t_halves_in := chk_ok quick h_halves_in_1_0
theorem h_joined_in_1_0 : chk QT N0 TT 20 14 1 0 1000000007 t_joined_in = true := by kernel_rfl
theorem g_joined_in_1 : RL 1 14 t_joined_in := chk_ok quick h_joined_in_1_0
theorem h_times_in_1_0 : chk QT N0 TT 20 15 1 0 354153675 t_times_in = true := by kernel_rfl
theorem h_times_in_1_1 : chk QT N0 TT 20 15 1 354153675 696995929 t_times_in = true := by kernel_rfl
theorem h_times_in_1_2 : chk QT N0 TT 20 15 1 696995929 1000000007 t_times_in = true := by kernel_rfl
theorem g_times_in_1 : RL 1 15 t_times_in := okT_join (okT_join (chk_ok quick h_times_in_1_0) (chk_ok quick h_times_in_1_1)) (chk_ok quick h_times_in_1_2)
theorem h_turned_in_1_0 : chk QT N0 TT 20 16 1 0 1000000007 t_turned_in = true := by kernel_rfl
theorem g_turned_in_1 : RL 1 16 t_turned_in := chk_ok quick h_turned_in_1_0
theorem h_inverse_in_1_0 : chk QT N0 TT 20 18 1 0 1000000007 t_inverse_in = true := by kernel_rfl
theorem g_inverse_in_1 : RL 1 18 t_inverse_in := chk_ok quick h_inverse_in_1_0
theorem h_sign_in_1_0 : chk QT N0 TT 20 22 1 0 1000000007 t_sign_in = true := by kernel_rfl
theorem g_sign_in_1 : RL 1 22 t_sign_in := chk_ok quick h_sign_in_1_0
theorem h_sign_1_0 : chk QT N0 TT 20 23 1 0 1000000007 t_sign = true := by kernel_rfl
theorem g_sign_1 : RL 1 23 t_sign := chk_ok quick h_sign_1_0
theorem h_order_1_0 : chk QT N0 TT 20 24 1 0 1000000007 t_order = true := by kernel_rfl
theorem g_order_1 : RL 1 24 t_order := chk_ok quick h_order_1_0
theorem h_root_below_1_0 : chk QT N0 TT 20 25 1 0 1000000007 t_root_below = true := by kernel_rfl
theorem g_root_below_1 : RL 1 25 t_root_below := chk_ok quick h_root_below_1_0
theorem h_products_1_0 : chk QT N0 TT 20 27 1 0 1000000007 t_products = true := by kernel_rfl
theorem g_products_1 : RL 1 27 t_products := chk_ok quick h_products_1_0
theorem h_span_in_1_0 : chk QT N0 TT 20 28 1 0 1000000007 t_span_in = true := by kernel_rfl
theorem g_span_in_1 : RL 1 28 t_span_in := chk_ok quick h_span_in_1_0
theorem h_is_bound_1_0 : chk QT N0 TT 20 29 1 0 1000000007 t_is_bound = true := by kernel_rfl
theorem g_is_bound_1 : RL 1 29 t_is_bound := chk_ok quick h_is_bound_1_0
theorem h_are_bounds_1_0 : chk QT N0 TT 20 31 1 0 1000000007 t_are_bounds = true := by kernel_rfl
theorem g_are_bounds_1 : RL 1 31 t_are_bounds := chk_ok quick h_are_bounds_1_0
theorem h_bounds_1_0 : chk QT N0 TT 20 33 1 0 1000000007 t_bounds = true := by kernel_rfl
theorem g_bounds_1 : RL 1 33 t_bounds := chk_ok quick h_bounds_1_0
theorem h_whole_root_1_0 : chk QT N0 TT 20 34 1 0 1000000007 t_whole_root = true := by kernel_rfl
theorem g_whole_root_1 : RL 1 34 t_whole_root := chk_ok quick h_whole_root_1_0
theorem h_some_root_1_0 : chk QT N0 TT 20 35 1 0 1000000007 t_some_root = true := by kernel_rfl
theorem g_some_root_1 : RL 1 35 t_some_root := chk_ok quick h_some_root_1_0
theorem h_square_root_1_0 : chk QT N0 TT 20 37 1 0 1000000007 t_square_root = true := by kernel_rfl
theorem g_square_root_1 : RL 1 37 t_square_root := chk_ok quick h_square_root_1_0
theorem h_is_tower_1_0 : chk QT N0 TT 20 40 1 0 1000000007 t_is_tower = true := by kernel_rfl
theorem g_is_tower_1 : RL 1 40 t_is_tower := chk_ok quick h_is_tower_1_0
theorem h_need_prime_1_0 : chk QT N0 TT 20 42 1 0 1000000007 t_need_prime = true := by kernel_rfl
theorem g_need_prime_1 : RL 1 42 t_need_prime := chk_ok quick h_need_prime_1_0
theorem h_in_ring_1_0 : chk QT N0 TT 20 44 1 0 1000000007 t_in_ring = true := by kernel_rfl
theorem g_in_ring_1 : RL 1 44 t_in_ring := chk_ok quick h_in_ring_1_0
theorem h_ring_of_1_0 : chk QT N0 TT 20 45 1 0 1000000007 t_ring_of = true := by kernel_rfl
theorem g_ring_of_1 : RL 1 45 t_ring_of := chk_ok quick h_ring_of_1_0
theorem h_ring_times_1_0 : chk QT N0 TT 20 46 1 0 450636826 t_ring_times = true := by kernel_rfl
theorem h_ring_times_1_1 : chk QT N0 TT 20 46 1 450636826 789112328 t_ring_times = true := by kernel_rfl
theorem h_ring_times_1_2 : chk QT N0 TT 20 46 1 789112328 1000000007 t_ring_times = true := by kernel_rfl
theorem g_ring_times_1 : RL 1 46 t_ring_times := okT_join (okT_join (chk_ok quick h_ring_times_1_0) (chk_ok quick h_ring_times_1_1)) (chk_ok quick h_ring_times_1_2)
theorem h_fits_in_1_0 : chk QT N0 TT 20 49 1 0 1000000007 t_fits_in = true := by kernel_rfl
theorem g_fits_in_1 : RL 1 49 t_fits_in := chk_ok quick h_fits_in_1_0
theorem h_fits_1_0 : chk QT N0 TT 20 50 1 0 1000000007 t_fits = true := by kernel_rfl
theorem g_fits_1 : RL 1 50 t_fits := chk_ok quick h_fits_1_0
theorem h_led_1_0 : chk QT N0 TT 20 51 1 0 1000000007 t_led = true := by kernel_rfl
theorem g_led_1 : RL 1 51 t_led := chk_ok quick h_led_1_0
theorem h_all_rests_1_0 : chk QT N0 TT 20 53 1 0 228829383 t_all_rests = true := by kernel_rfl
theorem h_all_rests_1_1 : chk QT N0 TT 20 53 1 228829383 340829719 t_all_rests = true := by kernel_rfl
theorem h_all_rests_1_2 : chk QT N0 TT 20 53 1 340829719 360112415 t_all_rests = true := by kernel_rfl
theorem h_all_rests_1_3 : chk QT N0 TT 20 53 1 360112415 472112751 t_all_rests = true := by kernel_rfl
theorem h_all_rests_1_4 : chk QT N0 TT 20 53 1 472112751 679278741 t_all_rests = true := by kernel_rfl
theorem h_all_rests_1_5 : chk QT N0 TT 20 53 1 679278741 1000000007 t_all_rests = true := by kernel_rfl
theorem g_all_rests_1 : RL 1 53 t_all_rests := okT_join (okT_join (okT_join (okT_join (okT_join (chk_ok quick h_all_rests_1_0) (chk_ok quick h_all_rests_1_1)) (chk_ok quick h_all_rests_1_2)) (chk_ok quick h_all_rests_1_3)) (chk_ok quick h_all_rests_1_4)) (chk_ok quick h_all_rests_1_5)
theorem h_moves_in_1_0 : chk QT N0 TT 20 54 1 0 1000000007 t_moves_in = true := by kernel_rfl
theorem g_moves_in_1 : RL 1 54 t_moves_in := chk_ok quick h_moves_in_1_0
theorem h_nested_paper_1_0 : chk QT N0 TT 20 57 1 0 1000000007 t_nested_paper = true := by kernel_rfl
theorem g_nested_paper_1 : RL 1 57 t_nested_paper := chk_ok quick h_nested_paper_1_0
theorem h_is_nested_paper_1_0 : chk QT N0 TT 20 58 1 0 1000000007 t_is_nested_paper = true := by kernel_rfl
theorem g_is_nested_paper_1 : RL 1 58 t_is_nested_paper := chk_ok quick h_is_nested_paper_1_0
theorem h_power_in_ring_1_0 : chk QT N0 TT 20 59 1 0 1000000007 t_power_in_ring = true := by kernel_rfl
theorem g_power_in_ring_1 : RL 1 59 t_power_in_ring := chk_ok quick h_power_in_ring_1_0
theorem h__law_lowest_1_0 : chk QT N0 TT 20 64 1 0 1000000007 t__law_lowest = true := by kernel_rfl
theorem g__law_lowest_1 : RL 1 64 t__law_lowest := chk_ok quick h__law_lowest_1_0
theorem h__law_sum_1_0 : chk QT N0 TT 20 66 1 0 1000000007 t__law_sum = true := by kernel_rfl
theorem g__law_sum_1 : RL 1 66 t__law_sum := chk_ok quick h__law_sum_1_0
theorem h__law_product_1_0 : chk QT N0 TT 20 67 1 0 201077036 t__law_product = true := by kernel_rfl
theorem h__law_product_1_1 : chk QT N0 TT 20 67 1 201077036 448310672 t__law_product = true := by kernel_rfl
theorem h__law_product_1_2 : chk QT N0 TT 20 67 1 448310672 632062186 t__law_product = true := by kernel_rfl
theorem h__law_product_1_3 : chk QT N0 TT 20 67 1 632062186 840719706 t__law_product = true := by kernel_rfl
theorem h__law_product_1_4 : chk QT N0 TT 20 67 1 840719706 1000000007 t__law_product = true := by kernel_rfl
theorem g__law_product_1 : RL 1 67 t__law_product := okT_join (okT_join (okT_join (okT_join (chk_ok quick h__law_product_1_0) (chk_ok quick h__law_product_1_1)) (chk_ok quick h__law_product_1_2)) (chk_ok quick h__law_product_1_3)) (chk_ok quick h__law_product_1_4)
theorem h__law_root_below_1_0 : chk QT N0 TT 20 68 1 0 1000000007 t__law_root_below = true := by kernel_rfl
theorem g__law_root_below_1 : RL 1 68 t__law_root_below := chk_ok quick h__law_root_below_1_0
theorem h__law_near_1_0 : chk QT N0 TT 20 69 1 0 211748288 t__law_near = true := by kernel_rfl
theorem h__law_near_1_1 : chk QT N0 TT 20 69 1 211748288 367689628 t__law_near = true := by kernel_rfl
theorem h__law_near_1_2 : chk QT N0 TT 20 69 1 367689628 498972660 t__law_near = true := by kernel_rfl
theorem h__law_near_1_3 : chk QT N0 TT 20 69 1 498972660 1000000007 t__law_near = true := by kernel_rfl
theorem g__law_near_1 : RL 1 69 t__law_near := okT_join (okT_join (okT_join (chk_ok quick h__law_near_1_0) (chk_ok quick h__law_near_1_1)) (chk_ok quick h__law_near_1_2)) (chk_ok quick h__law_near_1_3)
theorem h__law_worth_1_0 : chk QT N0 TT 20 70 1 0 1000000007 t__law_worth = true := by kernel_rfl
theorem g__law_worth_1 : RL 1 70 t__law_worth := chk_ok quick h__law_worth_1_0
theorem h__law_twos_1_0 : chk QT N0 TT 20 71 1 0 1000000007 t__law_twos = true := by kernel_rfl
theorem g__law_twos_1 : RL 1 71 t__law_twos := chk_ok quick h__law_twos_1_0
theorem hl_1 : BtAll (RL 1) TT := ⟨g_whole_root_1, ⟨g_turned_in_1, ⟨g_whole_in_1, ⟨g_need_tower_1, ⟨g_common_1, ⟨g_is_element_in_1, trivial, trivial⟩, trivial⟩, ⟨g_lowest_in_1, ⟨g_need_element_1, trivial, trivial⟩, trivial⟩⟩, ⟨g_halves_in_1, ⟨g_minus_in_1, ⟨g_plus_in_1, trivial, trivial⟩, trivial⟩, ⟨g_times_in_1, ⟨g_joined_in_1, trivial, trivial⟩, trivial⟩⟩⟩, ⟨g_products_1, ⟨g_sign_1, ⟨g_sign_in_1, ⟨g_inverse_in_1, trivial, trivial⟩, trivial⟩, ⟨g_root_below_1, ⟨g_order_1, trivial, trivial⟩, trivial⟩⟩, ⟨g_are_bounds_1, ⟨g_is_bound_1, ⟨g_span_in_1, trivial, trivial⟩, trivial⟩, ⟨g_bounds_1, trivial, trivial⟩⟩⟩⟩, ⟨g_moves_in_1, ⟨g_ring_of_1, ⟨g_is_tower_1, ⟨g_square_root_1, ⟨g_some_root_1, trivial, trivial⟩, trivial⟩, ⟨g_in_ring_1, ⟨g_need_prime_1, trivial, trivial⟩, trivial⟩⟩, ⟨g_fits_1, ⟨g_fits_in_1, ⟨g_ring_times_1, trivial, trivial⟩, trivial⟩, ⟨g_all_rests_1, ⟨g_led_1, trivial, trivial⟩, trivial⟩⟩⟩, ⟨g__law_product_1, ⟨g_power_in_ring_1, ⟨g_is_nested_paper_1, ⟨g_nested_paper_1, trivial, trivial⟩, trivial⟩, ⟨g__law_sum_1, ⟨g__law_lowest_1, trivial, trivial⟩, trivial⟩⟩, ⟨g__law_worth_1, ⟨g__law_near_1, ⟨g__law_root_below_1, trivial, trivial⟩, trivial⟩, ⟨g__law_twos_1, trivial, trivial⟩⟩⟩⟩⟩
theorem h_is_element_in_2_0 : chk QT N0 TT 20 2 2 0 1000000007 t_is_element_in = true := by kernel_rfl
theorem g_is_element_in_2 : RL 2 2 t_is_element_in := chk_ok quick h_is_element_in_2_0
theorem h_common_2_0 : chk QT N0 TT 20 3 2 0 1000000007 t_common = true := by kernel_rfl
theorem g_common_2 : RL 2 3 t_common := chk_ok quick h_common_2_0
theorem h_need_tower_2_0 : chk QT N0 TT 20 5 2 0 1000000007 t_need_tower = true := by kernel_rfl
theorem g_need_tower_2 : RL 2 5 t_need_tower := chk_ok quick h_need_tower_2_0
theorem h_need_element_2_0 : chk QT N0 TT 20 6 2 0 1000000007 t_need_element = true := by kernel_rfl
theorem g_need_element_2 : RL 2 6 t_need_element := chk_ok quick h_need_element_2_0
theorem h_lowest_in_2_0 : chk QT N0 TT 20 7 2 0 1000000007 t_lowest_in = true := by kernel_rfl
theorem g_lowest_in_2 : RL 2 7 t_lowest_in := chk_ok quick h_lowest_in_2_0
theorem h_whole_in_2_0 : chk QT N0 TT 20 8 2 0 1000000007 t_whole_in = true := by kernel_rfl
theorem g_whole_in_2 : RL 2 8 t_whole_in := chk_ok quick h_whole_in_2_0
theorem h_plus_in_2_0 : chk QT N0 TT 20 10 2 0 1000000007 t_plus_in = true := by kernel_rfl
theorem g_plus_in_2 : RL 2 10 t_plus_in := chk_ok quick h_plus_in_2_0
theorem h_minus_in_2_0 : chk QT N0 TT 20 12 2 0 1000000007 t_minus_in = true := by kernel_rfl
theorem g_minus_in_2 : RL 2 12 t_minus_in := chk_ok quick h_minus_in_2_0
theorem h_halves_in_2_0 : chk QT N0 TT 20 13 2 0 1000000007 t_halves_in = true := by kernel_rfl
theorem g_halves_in_2 : RL 2 13 t_halves_in := chk_ok quick h_halves_in_2_0
theorem h_joined_in_2_0 : chk QT N0 TT 20 14 2 0 1000000007 t_joined_in = true := by kernel_rfl
theorem g_joined_in_2 : RL 2 14 t_joined_in := chk_ok quick h_joined_in_2_0
theorem h_times_in_2_0 : chk QT N0 TT 20 15 2 0 1000000007 t_times_in = true := by kernel_rfl
theorem g_times_in_2 : RL 2 15 t_times_in := chk_ok quick h_times_in_2_0
theorem h_turned_in_2_0 : chk QT N0 TT 20 16 2 0 1000000007 t_turned_in = true := by kernel_rfl
theorem g_turned_in_2 : RL 2 16 t_turned_in := chk_ok quick h_turned_in_2_0
theorem h_inverse_in_2_0 : chk QT N0 TT 20 18 2 0 1000000007 t_inverse_in = true := by kernel_rfl
theorem g_inverse_in_2 : RL 2 18 t_inverse_in := chk_ok quick h_inverse_in_2_0
theorem h_sign_in_2_0 : chk QT N0 TT 20 22 2 0 1000000007 t_sign_in = true := by kernel_rfl
theorem g_sign_in_2 : RL 2 22 t_sign_in := chk_ok quick h_sign_in_2_0
theorem h_sign_2_0 : chk QT N0 TT 20 23 2 0 1000000007 t_sign = true := by kernel_rfl
theorem g_sign_2 : RL 2 23 t_sign := chk_ok quick h_sign_2_0
theorem h_order_2_0 : chk QT N0 TT 20 24 2 0 749593908 t_order = true := by kernel_rfl
theorem h_order_2_1 : chk QT N0 TT 20 24 2 749593908 1000000007 t_order = true := by kernel_rfl
theorem g_order_2 : RL 2 24 t_order := okT_join (chk_ok quick h_order_2_0) (chk_ok quick h_order_2_1)
theorem h_root_below_2_0 : chk QT N0 TT 20 25 2 0 1000000007 t_root_below = true := by kernel_rfl
theorem g_root_below_2 : RL 2 25 t_root_below := chk_ok quick h_root_below_2_0
theorem h_products_2_0 : chk QT N0 TT 20 27 2 0 1000000007 t_products = true := by kernel_rfl
theorem g_products_2 : RL 2 27 t_products := chk_ok quick h_products_2_0
theorem h_span_in_2_0 : chk QT N0 TT 20 28 2 0 1000000007 t_span_in = true := by kernel_rfl
theorem g_span_in_2 : RL 2 28 t_span_in := chk_ok quick h_span_in_2_0
theorem h_is_bound_2_0 : chk QT N0 TT 20 29 2 0 1000000007 t_is_bound = true := by kernel_rfl
theorem g_is_bound_2 : RL 2 29 t_is_bound := chk_ok quick h_is_bound_2_0
theorem h_are_bounds_2_0 : chk QT N0 TT 20 31 2 0 1000000007 t_are_bounds = true := by kernel_rfl
theorem g_are_bounds_2 : RL 2 31 t_are_bounds := chk_ok quick h_are_bounds_2_0
theorem h_bounds_2_0 : chk QT N0 TT 20 33 2 0 1000000007 t_bounds = true := by kernel_rfl
theorem g_bounds_2 : RL 2 33 t_bounds := chk_ok quick h_bounds_2_0
theorem h_whole_root_2_0 : chk QT N0 TT 20 34 2 0 1000000007 t_whole_root = true := by kernel_rfl
theorem g_whole_root_2 : RL 2 34 t_whole_root := chk_ok quick h_whole_root_2_0
theorem h_some_root_2_0 : chk QT N0 TT 20 35 2 0 1000000007 t_some_root = true := by kernel_rfl
theorem g_some_root_2 : RL 2 35 t_some_root := chk_ok quick h_some_root_2_0
theorem h_square_root_2_0 : chk QT N0 TT 20 37 2 0 79110984 t_square_root = true := by kernel_rfl
theorem h_square_root_2_1 : chk QT N0 TT 20 37 2 79110984 106703288 t_square_root = true := by kernel_rfl
theorem h_square_root_2_2 : chk QT N0 TT 20 37 2 106703288 161670230 t_square_root = true := by kernel_rfl
theorem h_square_root_2_3 : chk QT N0 TT 20 37 2 161670230 432525261 t_square_root = true := by kernel_rfl
theorem h_square_root_2_4 : chk QT N0 TT 20 37 2 432525261 746331082 t_square_root = true := by kernel_rfl
theorem h_square_root_2_5 : chk QT N0 TT 20 37 2 746331082 762172646 t_square_root = true := by kernel_rfl
theorem h_square_root_2_6 : chk QT N0 TT 20 37 2 762172646 1000000007 t_square_root = true := by kernel_rfl
theorem g_square_root_2 : RL 2 37 t_square_root := okT_join (okT_join (okT_join (okT_join (okT_join (okT_join (chk_ok quick h_square_root_2_0) (chk_ok quick h_square_root_2_1)) (chk_ok quick h_square_root_2_2)) (chk_ok quick h_square_root_2_3)) (chk_ok quick h_square_root_2_4)) (chk_ok quick h_square_root_2_5)) (chk_ok quick h_square_root_2_6)
theorem h_is_tower_2_0 : chk QT N0 TT 20 40 2 0 1000000007 t_is_tower = true := by kernel_rfl
theorem g_is_tower_2 : RL 2 40 t_is_tower := chk_ok quick h_is_tower_2_0
theorem h_need_prime_2_0 : chk QT N0 TT 20 42 2 0 1000000007 t_need_prime = true := by kernel_rfl
theorem g_need_prime_2 : RL 2 42 t_need_prime := chk_ok quick h_need_prime_2_0
theorem h_in_ring_2_0 : chk QT N0 TT 20 44 2 0 1000000007 t_in_ring = true := by kernel_rfl
theorem g_in_ring_2 : RL 2 44 t_in_ring := chk_ok quick h_in_ring_2_0
theorem h_ring_of_2_0 : chk QT N0 TT 20 45 2 0 1000000007 t_ring_of = true := by kernel_rfl
theorem g_ring_of_2 : RL 2 45 t_ring_of := chk_ok quick h_ring_of_2_0
theorem h_ring_times_2_0 : chk QT N0 TT 20 46 2 0 624457361 t_ring_times = true := by kernel_rfl
theorem h_ring_times_2_1 : chk QT N0 TT 20 46 2 624457361 1000000007 t_ring_times = true := by kernel_rfl
theorem g_ring_times_2 : RL 2 46 t_ring_times := okT_join (chk_ok quick h_ring_times_2_0) (chk_ok quick h_ring_times_2_1)
theorem h_fits_in_2_0 : chk QT N0 TT 20 49 2 0 1000000007 t_fits_in = true := by kernel_rfl
theorem g_fits_in_2 : RL 2 49 t_fits_in := chk_ok quick h_fits_in_2_0
theorem h_fits_2_0 : chk QT N0 TT 20 50 2 0 1000000007 t_fits = true := by kernel_rfl
theorem g_fits_2 : RL 2 50 t_fits := chk_ok quick h_fits_2_0
theorem h_led_2_0 : chk QT N0 TT 20 51 2 0 1000000007 t_led = true := by kernel_rfl
theorem g_led_2 : RL 2 51 t_led := chk_ok quick h_led_2_0
theorem h_all_rests_2_0 : chk QT N0 TT 20 53 2 0 1000000007 t_all_rests = true := by kernel_rfl
theorem g_all_rests_2 : RL 2 53 t_all_rests := chk_ok quick h_all_rests_2_0
theorem h_moves_in_2_0 : chk QT N0 TT 20 54 2 0 411320967 t_moves_in = true := by kernel_rfl
theorem h_moves_in_2_1 : chk QT N0 TT 20 54 2 411320967 1000000007 t_moves_in = true := by kernel_rfl
theorem g_moves_in_2 : RL 2 54 t_moves_in := okT_join (chk_ok quick h_moves_in_2_0) (chk_ok quick h_moves_in_2_1)
theorem h_nested_paper_2_0 : chk QT N0 TT 20 57 2 0 1000000007 t_nested_paper = true := by kernel_rfl
theorem g_nested_paper_2 : RL 2 57 t_nested_paper := chk_ok quick h_nested_paper_2_0
theorem h_is_nested_paper_2_0 : chk QT N0 TT 20 58 2 0 685101694 t_is_nested_paper = true := by kernel_rfl
theorem h_is_nested_paper_2_1 : chk QT N0 TT 20 58 2 685101694 1000000007 t_is_nested_paper = true := by kernel_rfl
theorem g_is_nested_paper_2 : RL 2 58 t_is_nested_paper := okT_join (chk_ok quick h_is_nested_paper_2_0) (chk_ok quick h_is_nested_paper_2_1)
theorem h_power_in_ring_2_0 : chk QT N0 TT 20 59 2 0 1000000007 t_power_in_ring = true := by kernel_rfl
theorem g_power_in_ring_2 : RL 2 59 t_power_in_ring := chk_ok quick h_power_in_ring_2_0
theorem h__law_lowest_2_0 : chk QT N0 TT 20 64 2 0 1000000007 t__law_lowest = true := by kernel_rfl
theorem g__law_lowest_2 : RL 2 64 t__law_lowest := chk_ok quick h__law_lowest_2_0
theorem h__law_sum_2_0 : chk QT N0 TT 20 66 2 0 1000000007 t__law_sum = true := by kernel_rfl
theorem g__law_sum_2 : RL 2 66 t__law_sum := chk_ok quick h__law_sum_2_0
theorem h__law_product_2_0 : chk QT N0 TT 20 67 2 0 197954356 t__law_product = true := by kernel_rfl
theorem h__law_product_2_1 : chk QT N0 TT 20 67 2 197954356 457626026 t__law_product = true := by kernel_rfl
theorem h__law_product_2_2 : chk QT N0 TT 20 67 2 457626026 551967658 t__law_product = true := by kernel_rfl
theorem h__law_product_2_3 : chk QT N0 TT 20 67 2 551967658 893368019 t__law_product = true := by kernel_rfl
theorem h__law_product_2_4 : chk QT N0 TT 20 67 2 893368019 1000000007 t__law_product = true := by kernel_rfl
theorem g__law_product_2 : RL 2 67 t__law_product := okT_join (okT_join (okT_join (okT_join (chk_ok quick h__law_product_2_0) (chk_ok quick h__law_product_2_1)) (chk_ok quick h__law_product_2_2)) (chk_ok quick h__law_product_2_3)) (chk_ok quick h__law_product_2_4)
theorem h__law_root_below_2_0 : chk QT N0 TT 20 68 2 0 1000000007 t__law_root_below = true := by kernel_rfl
theorem g__law_root_below_2 : RL 2 68 t__law_root_below := chk_ok quick h__law_root_below_2_0
theorem h__law_near_2_0 : chk QT N0 TT 20 69 2 0 1000000007 t__law_near = true := by kernel_rfl
theorem g__law_near_2 : RL 2 69 t__law_near := chk_ok quick h__law_near_2_0
theorem h__law_worth_2_0 : chk QT N0 TT 20 70 2 0 1000000007 t__law_worth = true := by kernel_rfl
theorem g__law_worth_2 : RL 2 70 t__law_worth := chk_ok quick h__law_worth_2_0
theorem h__law_twos_2_0 : chk QT N0 TT 20 71 2 0 1000000007 t__law_twos = true := by kernel_rfl
theorem g__law_twos_2 : RL 2 71 t__law_twos := chk_ok quick h__law_twos_2_0
theorem hl_2 : BtAll (RL 2) TT := ⟨g_whole_root_2, ⟨g_turned_in_2, ⟨g_whole_in_2, ⟨g_need_tower_2, ⟨g_common_2, ⟨g_is_element_in_2, trivial, trivial⟩, trivial⟩, ⟨g_lowest_in_2, ⟨g_need_element_2, trivial, trivial⟩, trivial⟩⟩, ⟨g_halves_in_2, ⟨g_minus_in_2, ⟨g_plus_in_2, trivial, trivial⟩, trivial⟩, ⟨g_times_in_2, ⟨g_joined_in_2, trivial, trivial⟩, trivial⟩⟩⟩, ⟨g_products_2, ⟨g_sign_2, ⟨g_sign_in_2, ⟨g_inverse_in_2, trivial, trivial⟩, trivial⟩, ⟨g_root_below_2, ⟨g_order_2, trivial, trivial⟩, trivial⟩⟩, ⟨g_are_bounds_2, ⟨g_is_bound_2, ⟨g_span_in_2, trivial, trivial⟩, trivial⟩, ⟨g_bounds_2, trivial, trivial⟩⟩⟩⟩, ⟨g_moves_in_2, ⟨g_ring_of_2, ⟨g_is_tower_2, ⟨g_square_root_2, ⟨g_some_root_2, trivial, trivial⟩, trivial⟩, ⟨g_in_ring_2, ⟨g_need_prime_2, trivial, trivial⟩, trivial⟩⟩, ⟨g_fits_2, ⟨g_fits_in_2, ⟨g_ring_times_2, trivial, trivial⟩, trivial⟩, ⟨g_all_rests_2, ⟨g_led_2, trivial, trivial⟩, trivial⟩⟩⟩, ⟨g__law_product_2, ⟨g_power_in_ring_2, ⟨g_is_nested_paper_2, ⟨g_nested_paper_2, trivial, trivial⟩, trivial⟩, ⟨g__law_sum_2, ⟨g__law_lowest_2, trivial, trivial⟩, trivial⟩⟩, ⟨g__law_worth_2, ⟨g__law_near_2, ⟨g__law_root_below_2, trivial, trivial⟩, trivial⟩, ⟨g__law_twos_2, trivial, trivial⟩⟩⟩⟩⟩
theorem h_is_element_in_3_0 : chk QT N0 TT 20 2 3 0 1000000007 t_is_element_in = true := by kernel_rfl
theorem g_is_element_in_3 : RL 3 2 t_is_element_in := chk_ok quick h_is_element_in_3_0
theorem h_common_3_0 : chk QT N0 TT 20 3 3 0 1000000007 t_common = true := by kernel_rfl
theorem g_common_3 : RL 3 3 t_common := chk_ok quick h_common_3_0
theorem h_need_tower_3_0 : chk QT N0 TT 20 5 3 0 1000000007 t_need_tower = true := by kernel_rfl
theorem g_need_tower_3 : RL 3 5 t_need_tower := chk_ok quick h_need_tower_3_0
theorem h_need_element_3_0 : chk QT N0 TT 20 6 3 0 1000000007 t_need_element = true := by kernel_rfl
theorem g_need_element_3 : RL 3 6 t_need_element := chk_ok quick h_need_element_3_0
theorem h_lowest_in_3_0 : chk QT N0 TT 20 7 3 0 1000000007 t_lowest_in = true := by kernel_rfl
theorem g_lowest_in_3 : RL 3 7 t_lowest_in := chk_ok quick h_lowest_in_3_0
theorem h_whole_in_3_0 : chk QT N0 TT 20 8 3 0 1000000007 t_whole_in = true := by kernel_rfl
theorem g_whole_in_3 : RL 3 8 t_whole_in := chk_ok quick h_whole_in_3_0
theorem h_plus_in_3_0 : chk QT N0 TT 20 10 3 0 1000000007 t_plus_in = true := by kernel_rfl
theorem g_plus_in_3 : RL 3 10 t_plus_in := chk_ok quick h_plus_in_3_0
theorem h_minus_in_3_0 : chk QT N0 TT 20 12 3 0 1000000007 t_minus_in = true := by kernel_rfl
theorem g_minus_in_3 : RL 3 12 t_minus_in := chk_ok quick h_minus_in_3_0
theorem h_halves_in_3_0 : chk QT N0 TT 20 13 3 0 1000000007 t_halves_in = true := by kernel_rfl
theorem g_halves_in_3 : RL 3 13 t_halves_in := chk_ok quick h_halves_in_3_0
theorem h_joined_in_3_0 : chk QT N0 TT 20 14 3 0 1000000007 t_joined_in = true := by kernel_rfl
theorem g_joined_in_3 : RL 3 14 t_joined_in := chk_ok quick h_joined_in_3_0
theorem h_times_in_3_0 : chk QT N0 TT 20 15 3 0 1000000007 t_times_in = true := by kernel_rfl
theorem g_times_in_3 : RL 3 15 t_times_in := chk_ok quick h_times_in_3_0
theorem h_turned_in_3_0 : chk QT N0 TT 20 16 3 0 1000000007 t_turned_in = true := by kernel_rfl
theorem g_turned_in_3 : RL 3 16 t_turned_in := chk_ok quick h_turned_in_3_0
theorem h_inverse_in_3_0 : chk QT N0 TT 20 18 3 0 1000000007 t_inverse_in = true := by kernel_rfl
theorem g_inverse_in_3 : RL 3 18 t_inverse_in := chk_ok quick h_inverse_in_3_0
theorem h_sign_in_3_0 : chk QT N0 TT 20 22 3 0 1000000007 t_sign_in = true := by kernel_rfl
theorem g_sign_in_3 : RL 3 22 t_sign_in := chk_ok quick h_sign_in_3_0
theorem h_sign_3_0 : chk QT N0 TT 20 23 3 0 1000000007 t_sign = true := by kernel_rfl
theorem g_sign_3 : RL 3 23 t_sign := chk_ok quick h_sign_3_0
theorem h_order_3_0 : chk QT N0 TT 20 24 3 0 624753804 t_order = true := by kernel_rfl
theorem h_order_3_1 : chk QT N0 TT 20 24 3 624753804 1000000007 t_order = true := by kernel_rfl
theorem g_order_3 : RL 3 24 t_order := okT_join (chk_ok quick h_order_3_0) (chk_ok quick h_order_3_1)
theorem h_root_below_3_0 : chk QT N0 TT 20 25 3 0 1000000007 t_root_below = true := by kernel_rfl
theorem g_root_below_3 : RL 3 25 t_root_below := chk_ok quick h_root_below_3_0
theorem h_products_3_0 : chk QT N0 TT 20 27 3 0 1000000007 t_products = true := by kernel_rfl
theorem g_products_3 : RL 3 27 t_products := chk_ok quick h_products_3_0
theorem h_span_in_3_0 : chk QT N0 TT 20 28 3 0 1000000007 t_span_in = true := by kernel_rfl
theorem g_span_in_3 : RL 3 28 t_span_in := chk_ok quick h_span_in_3_0
theorem h_is_bound_3_0 : chk QT N0 TT 20 29 3 0 1000000007 t_is_bound = true := by kernel_rfl
theorem g_is_bound_3 : RL 3 29 t_is_bound := chk_ok quick h_is_bound_3_0
theorem h_are_bounds_3_0 : chk QT N0 TT 20 31 3 0 1000000007 t_are_bounds = true := by kernel_rfl
theorem g_are_bounds_3 : RL 3 31 t_are_bounds := chk_ok quick h_are_bounds_3_0
theorem h_bounds_3_0 : chk QT N0 TT 20 33 3 0 1000000007 t_bounds = true := by kernel_rfl
theorem g_bounds_3 : RL 3 33 t_bounds := chk_ok quick h_bounds_3_0
theorem h_whole_root_3_0 : chk QT N0 TT 20 34 3 0 1000000007 t_whole_root = true := by kernel_rfl
theorem g_whole_root_3 : RL 3 34 t_whole_root := chk_ok quick h_whole_root_3_0
theorem h_some_root_3_0 : chk QT N0 TT 20 35 3 0 1000000007 t_some_root = true := by kernel_rfl
theorem g_some_root_3 : RL 3 35 t_some_root := chk_ok quick h_some_root_3_0
theorem h_square_root_3_0 : chk QT N0 TT 20 37 3 0 942263800 t_square_root = true := by kernel_rfl
theorem h_square_root_3_1 : chk QT N0 TT 20 37 3 942263800 1000000007 t_square_root = true := by kernel_rfl
theorem g_square_root_3 : RL 3 37 t_square_root := okT_join (chk_ok quick h_square_root_3_0) (chk_ok quick h_square_root_3_1)
theorem h_is_tower_3_0 : chk QT N0 TT 20 40 3 0 1000000007 t_is_tower = true := by kernel_rfl
theorem g_is_tower_3 : RL 3 40 t_is_tower := chk_ok quick h_is_tower_3_0
theorem h_need_prime_3_0 : chk QT N0 TT 20 42 3 0 1000000007 t_need_prime = true := by kernel_rfl
theorem g_need_prime_3 : RL 3 42 t_need_prime := chk_ok quick h_need_prime_3_0
theorem h_in_ring_3_0 : chk QT N0 TT 20 44 3 0 1000000007 t_in_ring = true := by kernel_rfl
theorem g_in_ring_3 : RL 3 44 t_in_ring := chk_ok quick h_in_ring_3_0
theorem h_ring_of_3_0 : chk QT N0 TT 20 45 3 0 1000000007 t_ring_of = true := by kernel_rfl
theorem g_ring_of_3 : RL 3 45 t_ring_of := chk_ok quick h_ring_of_3_0
theorem h_ring_times_3_0 : chk QT N0 TT 20 46 3 0 1000000007 t_ring_times = true := by kernel_rfl
theorem g_ring_times_3 : RL 3 46 t_ring_times := chk_ok quick h_ring_times_3_0
theorem h_fits_in_3_0 : chk QT N0 TT 20 49 3 0 1000000007 t_fits_in = true := by kernel_rfl
theorem g_fits_in_3 : RL 3 49 t_fits_in := chk_ok quick h_fits_in_3_0
theorem h_fits_3_0 : chk QT N0 TT 20 50 3 0 1000000007 t_fits = true := by kernel_rfl
theorem g_fits_3 : RL 3 50 t_fits := chk_ok quick h_fits_3_0
theorem h_led_3_0 : chk QT N0 TT 20 51 3 0 1000000007 t_led = true := by kernel_rfl
theorem g_led_3 : RL 3 51 t_led := chk_ok quick h_led_3_0
theorem h_all_rests_3_0 : chk QT N0 TT 20 53 3 0 1000000007 t_all_rests = true := by kernel_rfl
theorem g_all_rests_3 : RL 3 53 t_all_rests := chk_ok quick h_all_rests_3_0
theorem h_moves_in_3_0 : chk QT N0 TT 20 54 3 0 495606793 t_moves_in = true := by kernel_rfl
theorem h_moves_in_3_1 : chk QT N0 TT 20 54 3 495606793 763325290 t_moves_in = true := by kernel_rfl
theorem h_moves_in_3_2 : chk QT N0 TT 20 54 3 763325290 1000000007 t_moves_in = true := by kernel_rfl
theorem g_moves_in_3 : RL 3 54 t_moves_in := okT_join (okT_join (chk_ok quick h_moves_in_3_0) (chk_ok quick h_moves_in_3_1)) (chk_ok quick h_moves_in_3_2)
theorem h_nested_paper_3_0 : chk QT N0 TT 20 57 3 0 537156510 t_nested_paper = true := by kernel_rfl
theorem h_nested_paper_3_1 : chk QT N0 TT 20 57 3 537156510 1000000007 t_nested_paper = true := by kernel_rfl
theorem g_nested_paper_3 : RL 3 57 t_nested_paper := okT_join (chk_ok quick h_nested_paper_3_0) (chk_ok quick h_nested_paper_3_1)
theorem h_is_nested_paper_3_0 : chk QT N0 TT 20 58 3 0 852651715 t_is_nested_paper = true := by kernel_rfl
theorem h_is_nested_paper_3_1 : chk QT N0 TT 20 58 3 852651715 1000000007 t_is_nested_paper = true := by kernel_rfl
theorem g_is_nested_paper_3 : RL 3 58 t_is_nested_paper := okT_join (chk_ok quick h_is_nested_paper_3_0) (chk_ok quick h_is_nested_paper_3_1)
theorem h_power_in_ring_3_0 : chk QT N0 TT 20 59 3 0 551606961 t_power_in_ring = true := by kernel_rfl
theorem h_power_in_ring_3_1 : chk QT N0 TT 20 59 3 551606961 1000000007 t_power_in_ring = true := by kernel_rfl
theorem g_power_in_ring_3 : RL 3 59 t_power_in_ring := okT_join (chk_ok quick h_power_in_ring_3_0) (chk_ok quick h_power_in_ring_3_1)
theorem h__law_lowest_3_0 : chk QT N0 TT 20 64 3 0 1000000007 t__law_lowest = true := by kernel_rfl
theorem g__law_lowest_3 : RL 3 64 t__law_lowest := chk_ok quick h__law_lowest_3_0
theorem h__law_sum_3_0 : chk QT N0 TT 20 66 3 0 1000000007 t__law_sum = true := by kernel_rfl
theorem g__law_sum_3 : RL 3 66 t__law_sum := chk_ok quick h__law_sum_3_0
theorem h__law_product_3_0 : chk QT N0 TT 20 67 3 0 471644999 t__law_product = true := by kernel_rfl
theorem h__law_product_3_1 : chk QT N0 TT 20 67 3 471644999 548028211 t__law_product = true := by kernel_rfl
theorem h__law_product_3_2 : chk QT N0 TT 20 67 3 548028211 666852329 t__law_product = true := by kernel_rfl
theorem h__law_product_3_3 : chk QT N0 TT 20 67 3 666852329 1000000007 t__law_product = true := by kernel_rfl
theorem g__law_product_3 : RL 3 67 t__law_product := okT_join (okT_join (okT_join (chk_ok quick h__law_product_3_0) (chk_ok quick h__law_product_3_1)) (chk_ok quick h__law_product_3_2)) (chk_ok quick h__law_product_3_3)
theorem h__law_root_below_3_0 : chk QT N0 TT 20 68 3 0 1000000007 t__law_root_below = true := by kernel_rfl
theorem g__law_root_below_3 : RL 3 68 t__law_root_below := chk_ok quick h__law_root_below_3_0
theorem h__law_near_3_0 : chk QT N0 TT 20 69 3 0 1000000007 t__law_near = true := by kernel_rfl
theorem g__law_near_3 : RL 3 69 t__law_near := chk_ok quick h__law_near_3_0
theorem h__law_worth_3_0 : chk QT N0 TT 20 70 3 0 1000000007 t__law_worth = true := by kernel_rfl
theorem g__law_worth_3 : RL 3 70 t__law_worth := chk_ok quick h__law_worth_3_0
theorem h__law_twos_3_0 : chk QT N0 TT 20 71 3 0 1000000007 t__law_twos = true := by kernel_rfl
theorem g__law_twos_3 : RL 3 71 t__law_twos := chk_ok quick h__law_twos_3_0
theorem hl_3 : BtAll (RL 3) TT := ⟨g_whole_root_3, ⟨g_turned_in_3, ⟨g_whole_in_3, ⟨g_need_tower_3, ⟨g_common_3, ⟨g_is_element_in_3, trivial, trivial⟩, trivial⟩, ⟨g_lowest_in_3, ⟨g_need_element_3, trivial, trivial⟩, trivial⟩⟩, ⟨g_halves_in_3, ⟨g_minus_in_3, ⟨g_plus_in_3, trivial, trivial⟩, trivial⟩, ⟨g_times_in_3, ⟨g_joined_in_3, trivial, trivial⟩, trivial⟩⟩⟩, ⟨g_products_3, ⟨g_sign_3, ⟨g_sign_in_3, ⟨g_inverse_in_3, trivial, trivial⟩, trivial⟩, ⟨g_root_below_3, ⟨g_order_3, trivial, trivial⟩, trivial⟩⟩, ⟨g_are_bounds_3, ⟨g_is_bound_3, ⟨g_span_in_3, trivial, trivial⟩, trivial⟩, ⟨g_bounds_3, trivial, trivial⟩⟩⟩⟩, ⟨g_moves_in_3, ⟨g_ring_of_3, ⟨g_is_tower_3, ⟨g_square_root_3, ⟨g_some_root_3, trivial, trivial⟩, trivial⟩, ⟨g_in_ring_3, ⟨g_need_prime_3, trivial, trivial⟩, trivial⟩⟩, ⟨g_fits_3, ⟨g_fits_in_3, ⟨g_ring_times_3, trivial, trivial⟩, trivial⟩, ⟨g_all_rests_3, ⟨g_led_3, trivial, trivial⟩, trivial⟩⟩⟩, ⟨g__law_product_3, ⟨g_power_in_ring_3, ⟨g_is_nested_paper_3, ⟨g_nested_paper_3, trivial, trivial⟩, trivial⟩, ⟨g__law_sum_3, ⟨g__law_lowest_3, trivial, trivial⟩, trivial⟩⟩, ⟨g__law_worth_3, ⟨g__law_near_3, ⟨g__law_root_below_3, trivial, trivial⟩, trivial⟩, ⟨g__law_twos_3, trivial, trivial⟩⟩⟩⟩⟩
theorem h_is_element_in_4_0 : chk QT N0 TT 20 2 4 0 1000000007 t_is_element_in = true := by kernel_rfl
theorem g_is_element_in_4 : RL 4 2 t_is_element_in := chk_ok quick h_is_element_in_4_0
theorem h_common_4_0 : chk QT N0 TT 20 3 4 0 1000000007 t_common = true := by kernel_rfl
theorem g_common_4 : RL 4 3 t_common := chk_ok quick h_common_4_0
theorem h_need_tower_4_0 : chk QT N0 TT 20 5 4 0 1000000007 t_need_tower = true := by kernel_rfl
theorem g_need_tower_4 : RL 4 5 t_need_tower := chk_ok quick h_need_tower_4_0
theorem h_need_element_4_0 : chk QT N0 TT 20 6 4 0 1000000007 t_need_element = true := by kernel_rfl
theorem g_need_element_4 : RL 4 6 t_need_element := chk_ok quick h_need_element_4_0
theorem h_lowest_in_4_0 : chk QT N0 TT 20 7 4 0 1000000007 t_lowest_in = true := by kernel_rfl
theorem g_lowest_in_4 : RL 4 7 t_lowest_in := chk_ok quick h_lowest_in_4_0
theorem h_whole_in_4_0 : chk QT N0 TT 20 8 4 0 1000000007 t_whole_in = true := by kernel_rfl
theorem g_whole_in_4 : RL 4 8 t_whole_in := chk_ok quick h_whole_in_4_0
theorem h_plus_in_4_0 : chk QT N0 TT 20 10 4 0 1000000007 t_plus_in = true := by kernel_rfl
theorem g_plus_in_4 : RL 4 10 t_plus_in := chk_ok quick h_plus_in_4_0
theorem h_minus_in_4_0 : chk QT N0 TT 20 12 4 0 1000000007 t_minus_in = true := by kernel_rfl
theorem g_minus_in_4 : RL 4 12 t_minus_in := chk_ok quick h_minus_in_4_0
theorem h_halves_in_4_0 : chk QT N0 TT 20 13 4 0 1000000007 t_halves_in = true := by kernel_rfl
theorem g_halves_in_4 : RL 4 13 t_halves_in := chk_ok quick h_halves_in_4_0
theorem h_joined_in_4_0 : chk QT N0 TT 20 14 4 0 1000000007 t_joined_in = true := by kernel_rfl
theorem g_joined_in_4 : RL 4 14 t_joined_in := chk_ok quick h_joined_in_4_0
theorem h_times_in_4_0 : chk QT N0 TT 20 15 4 0 1000000007 t_times_in = true := by kernel_rfl
theorem g_times_in_4 : RL 4 15 t_times_in := chk_ok quick h_times_in_4_0
theorem h_turned_in_4_0 : chk QT N0 TT 20 16 4 0 1000000007 t_turned_in = true := by kernel_rfl
theorem g_turned_in_4 : RL 4 16 t_turned_in := chk_ok quick h_turned_in_4_0
theorem h_inverse_in_4_0 : chk QT N0 TT 20 18 4 0 1000000007 t_inverse_in = true := by kernel_rfl
theorem g_inverse_in_4 : RL 4 18 t_inverse_in := chk_ok quick h_inverse_in_4_0
theorem h_sign_in_4_0 : chk QT N0 TT 20 22 4 0 1000000007 t_sign_in = true := by kernel_rfl
theorem g_sign_in_4 : RL 4 22 t_sign_in := chk_ok quick h_sign_in_4_0
theorem h_sign_4_0 : chk QT N0 TT 20 23 4 0 1000000007 t_sign = true := by kernel_rfl
theorem g_sign_4 : RL 4 23 t_sign := chk_ok quick h_sign_4_0
theorem h_order_4_0 : chk QT N0 TT 20 24 4 0 1000000007 t_order = true := by kernel_rfl
theorem g_order_4 : RL 4 24 t_order := chk_ok quick h_order_4_0
theorem h_root_below_4_0 : chk QT N0 TT 20 25 4 0 1000000007 t_root_below = true := by kernel_rfl
theorem g_root_below_4 : RL 4 25 t_root_below := chk_ok quick h_root_below_4_0
theorem h_products_4_0 : chk QT N0 TT 20 27 4 0 1000000007 t_products = true := by kernel_rfl
theorem g_products_4 : RL 4 27 t_products := chk_ok quick h_products_4_0
theorem h_span_in_4_0 : chk QT N0 TT 20 28 4 0 1000000007 t_span_in = true := by kernel_rfl
theorem g_span_in_4 : RL 4 28 t_span_in := chk_ok quick h_span_in_4_0
theorem h_is_bound_4_0 : chk QT N0 TT 20 29 4 0 1000000007 t_is_bound = true := by kernel_rfl
theorem g_is_bound_4 : RL 4 29 t_is_bound := chk_ok quick h_is_bound_4_0
theorem h_are_bounds_4_0 : chk QT N0 TT 20 31 4 0 1000000007 t_are_bounds = true := by kernel_rfl
theorem g_are_bounds_4 : RL 4 31 t_are_bounds := chk_ok quick h_are_bounds_4_0
theorem h_bounds_4_0 : chk QT N0 TT 20 33 4 0 1000000007 t_bounds = true := by kernel_rfl
theorem g_bounds_4 : RL 4 33 t_bounds := chk_ok quick h_bounds_4_0
theorem h_whole_root_4_0 : chk QT N0 TT 20 34 4 0 1000000007 t_whole_root = true := by kernel_rfl
theorem g_whole_root_4 : RL 4 34 t_whole_root := chk_ok quick h_whole_root_4_0
theorem h_some_root_4_0 : chk QT N0 TT 20 35 4 0 1000000007 t_some_root = true := by kernel_rfl
theorem g_some_root_4 : RL 4 35 t_some_root := chk_ok quick h_some_root_4_0
theorem h_square_root_4_0 : chk QT N0 TT 20 37 4 0 1000000007 t_square_root = true := by kernel_rfl
theorem g_square_root_4 : RL 4 37 t_square_root := chk_ok quick h_square_root_4_0
theorem h_is_tower_4_0 : chk QT N0 TT 20 40 4 0 1000000007 t_is_tower = true := by kernel_rfl
theorem g_is_tower_4 : RL 4 40 t_is_tower := chk_ok quick h_is_tower_4_0
theorem h_need_prime_4_0 : chk QT N0 TT 20 42 4 0 1000000007 t_need_prime = true := by kernel_rfl
theorem g_need_prime_4 : RL 4 42 t_need_prime := chk_ok quick h_need_prime_4_0
theorem h_in_ring_4_0 : chk QT N0 TT 20 44 4 0 1000000007 t_in_ring = true := by kernel_rfl
theorem g_in_ring_4 : RL 4 44 t_in_ring := chk_ok quick h_in_ring_4_0
theorem h_ring_of_4_0 : chk QT N0 TT 20 45 4 0 1000000007 t_ring_of = true := by kernel_rfl
theorem g_ring_of_4 : RL 4 45 t_ring_of := chk_ok quick h_ring_of_4_0
theorem h_ring_times_4_0 : chk QT N0 TT 20 46 4 0 1000000007 t_ring_times = true := by kernel_rfl
theorem g_ring_times_4 : RL 4 46 t_ring_times := chk_ok quick h_ring_times_4_0
theorem h_fits_in_4_0 : chk QT N0 TT 20 49 4 0 1000000007 t_fits_in = true := by kernel_rfl
theorem g_fits_in_4 : RL 4 49 t_fits_in := chk_ok quick h_fits_in_4_0
theorem h_fits_4_0 : chk QT N0 TT 20 50 4 0 1000000007 t_fits = true := by kernel_rfl
theorem g_fits_4 : RL 4 50 t_fits := chk_ok quick h_fits_4_0
theorem h_led_4_0 : chk QT N0 TT 20 51 4 0 1000000007 t_led = true := by kernel_rfl
theorem g_led_4 : RL 4 51 t_led := chk_ok quick h_led_4_0
theorem h_all_rests_4_0 : chk QT N0 TT 20 53 4 0 1000000007 t_all_rests = true := by kernel_rfl
theorem g_all_rests_4 : RL 4 53 t_all_rests := chk_ok quick h_all_rests_4_0
theorem h_moves_in_4_0 : chk QT N0 TT 20 54 4 0 1000000007 t_moves_in = true := by kernel_rfl
theorem g_moves_in_4 : RL 4 54 t_moves_in := chk_ok quick h_moves_in_4_0
theorem h_nested_paper_4_0 : chk QT N0 TT 20 57 4 0 1000000007 t_nested_paper = true := by kernel_rfl
theorem g_nested_paper_4 : RL 4 57 t_nested_paper := chk_ok quick h_nested_paper_4_0
theorem h_is_nested_paper_4_0 : chk QT N0 TT 20 58 4 0 1000000007 t_is_nested_paper = true := by kernel_rfl
theorem g_is_nested_paper_4 : RL 4 58 t_is_nested_paper := chk_ok quick h_is_nested_paper_4_0
theorem h_power_in_ring_4_0 : chk QT N0 TT 20 59 4 0 1000000007 t_power_in_ring = true := by kernel_rfl
theorem g_power_in_ring_4 : RL 4 59 t_power_in_ring := chk_ok quick h_power_in_ring_4_0
theorem h__law_lowest_4_0 : chk QT N0 TT 20 64 4 0 1000000007 t__law_lowest = true := by kernel_rfl
theorem g__law_lowest_4 : RL 4 64 t__law_lowest := chk_ok quick h__law_lowest_4_0
theorem h__law_sum_4_0 : chk QT N0 TT 20 66 4 0 1000000007 t__law_sum = true := by kernel_rfl
theorem g__law_sum_4 : RL 4 66 t__law_sum := chk_ok quick h__law_sum_4_0
theorem h__law_product_4_0 : chk QT N0 TT 20 67 4 0 1000000007 t__law_product = true := by kernel_rfl
theorem g__law_product_4 : RL 4 67 t__law_product := chk_ok quick h__law_product_4_0
theorem h__law_root_below_4_0 : chk QT N0 TT 20 68 4 0 1000000007 t__law_root_below = true := by kernel_rfl
theorem g__law_root_below_4 : RL 4 68 t__law_root_below := chk_ok quick h__law_root_below_4_0
theorem h__law_near_4_0 : chk QT N0 TT 20 69 4 0 1000000007 t__law_near = true := by kernel_rfl
theorem g__law_near_4 : RL 4 69 t__law_near := chk_ok quick h__law_near_4_0
theorem h__law_worth_4_0 : chk QT N0 TT 20 70 4 0 1000000007 t__law_worth = true := by kernel_rfl
theorem g__law_worth_4 : RL 4 70 t__law_worth := chk_ok quick h__law_worth_4_0
theorem h__law_twos_4_0 : chk QT N0 TT 20 71 4 0 1000000007 t__law_twos = true := by kernel_rfl
theorem g__law_twos_4 : RL 4 71 t__law_twos := chk_ok quick h__law_twos_4_0
theorem hl_4 : BtAll (RL 4) TT := ⟨g_whole_root_4, ⟨g_turned_in_4, ⟨g_whole_in_4, ⟨g_need_tower_4, ⟨g_common_4, ⟨g_is_element_in_4, trivial, trivial⟩, trivial⟩, ⟨g_lowest_in_4, ⟨g_need_element_4, trivial, trivial⟩, trivial⟩⟩, ⟨g_halves_in_4, ⟨g_minus_in_4, ⟨g_plus_in_4, trivial, trivial⟩, trivial⟩, ⟨g_times_in_4, ⟨g_joined_in_4, trivial, trivial⟩, trivial⟩⟩⟩, ⟨g_products_4, ⟨g_sign_4, ⟨g_sign_in_4, ⟨g_inverse_in_4, trivial, trivial⟩, trivial⟩, ⟨g_root_below_4, ⟨g_order_4, trivial, trivial⟩, trivial⟩⟩, ⟨g_are_bounds_4, ⟨g_is_bound_4, ⟨g_span_in_4, trivial, trivial⟩, trivial⟩, ⟨g_bounds_4, trivial, trivial⟩⟩⟩⟩, ⟨g_moves_in_4, ⟨g_ring_of_4, ⟨g_is_tower_4, ⟨g_square_root_4, ⟨g_some_root_4, trivial, trivial⟩, trivial⟩, ⟨g_in_ring_4, ⟨g_need_prime_4, trivial, trivial⟩, trivial⟩⟩, ⟨g_fits_4, ⟨g_fits_in_4, ⟨g_ring_times_4, trivial, trivial⟩, trivial⟩, ⟨g_all_rests_4, ⟨g_led_4, trivial, trivial⟩, trivial⟩⟩⟩, ⟨g__law_product_4, ⟨g_power_in_ring_4, ⟨g_is_nested_paper_4, ⟨g_nested_paper_4, trivial, trivial⟩, trivial⟩, ⟨g__law_sum_4, ⟨g__law_lowest_4, trivial, trivial⟩, trivial⟩⟩, ⟨g__law_worth_4, ⟨g__law_near_4, ⟨g__law_root_below_4, trivial, trivial⟩, trivial⟩, ⟨g__law_twos_4, trivial, trivial⟩⟩⟩⟩⟩
theorem allok : ∀ l, l < 5 → ∀ f s, bt TT f = some s → RL l f s := by
  intro l hl f s q
  match l, hl with
  | 0, _ => exact btree_all hl_0 q
  | 1, _ => exact btree_all hl_1 q
  | 2, _ => exact btree_all hl_2 q
  | 3, _ => exact btree_all hl_3 q
  | 4, _ => exact btree_all hl_4 q
theorem run1 : bool' (callQ QT N0 (mQ TT 5) 10 72 [.gl 999] ⟨0, []⟩ never yes) (fun b => b) = true := by kernel_rfl
theorem run2' : Z.call P C N0 (fnd TT 5) 10 72 [.gl 999] ⟨0, []⟩ never yes = true := by
  have e := run1
  rw [bool'_eq, callQ_eq quick (fun f ds a b => mQ_eq TT 5 f ds a b)] at e
  exact e
theorem eTF : TF.F = Z.call P C N0 (fnd TT 5) 10 := by kernel_rfl
theorem run2 : TF.F 72 [.gl 999] ⟨0, []⟩ never yes = true := by
  rw [eTF]
  exact run2'
end K28

namespace K28
open Z PySem PySem.Spec PyProof.Rows L2
theorem fn0_inj (i j : Nat) (h : fn0 i = fn0 j) : i = j := by
  have := congrArg (fun s : Str => s.cps.size) h
  simpa [fn0] using this
def AA (K : PySem.W.Frag) (n : Nat) : Addr := He.ga K ((names[n]?).getD "")
def cz (K : PySem.W.Frag) (sa : Addr) : Cz where
  K := K
  γ := fun n => if n = 999 then some sa else if n < 73 then some (AA K n) else none
  fn := fn0
  inj := fn0_inj
  pen := fun _ _ _ => True
  penMono := fun _ _ _ _ _ _ => trivial
def PP : List (List Str) := [(ps_is_whole : List Str), (ps_is_count : List Str), (ps_is_element_in : List Str), (ps_common : List Str), (ps_is_tower_form : List Str), (ps_need_tower : List Str), (ps_need_element : List Str), (ps_lowest_in : List Str), (ps_whole_in : List Str), (ps_is_nought_in : List Str), (ps_plus_in : List Str), (ps_other_in : List Str), (ps_minus_in : List Str), (ps_halves_in : List Str), (ps_joined_in : List Str), (ps_times_in : List Str), (ps_turned_in : List Str), (ps_norm_in : List Str), (ps_inverse_in : List Str), (ps_over_in : List Str), (ps_lifted_in : List Str), (ps_need_two : List Str), (ps_sign_in : List Str), (ps_sign : List Str), (ps_order : List Str), (ps_root_below : List Str), (ps_lowest : List Str), (ps_products : List Str), (ps_span_in : List Str), (ps_is_bound : List Str), (ps_are_bounds_in : List Str), (ps_are_bounds : List Str), (ps_bounds_in : List Str), (ps_bounds : List Str), (ps_whole_root : List Str), (ps_some_root : List Str), (ps_root_in : List Str), (ps_square_root : List Str), (ps_bar_in : List Str), (ps_tower_bar : List Str), (ps_is_tower : List Str), (ps_is_odd_prime : List Str), (ps_need_prime : List Str), (ps_inverse : List Str), (ps_in_ring : List Str), (ps_ring_of : List Str), (ps_ring_times : List Str), (ps_ring_power : List Str), (ps_ring_norm : List Str), (ps_fits_in : List Str), (ps_fits : List Str), (ps_led : List Str), (ps_rests_in : List Str), (ps_all_rests : List Str), (ps_moves_in : List Str), (ps_nested_in : List Str), (ps_is_nested_in : List Str), (ps_nested_paper : List Str), (ps_is_nested_paper : List Str), (ps_power_in_ring : List Str), (ps__law_pen : List Str), (ps__law_draw : List Str), (ps__law_pick : List Str), (ps__law_gcd : List Str), (ps__law_lowest : List Str), (ps__law_size : List Str), (ps__law_sum : List Str), (ps__law_product : List Str), (ps__law_root_below : List Str), (ps__law_near : List Str), (ps__law_worth : List Str), (ps__law_twos : List Str), (ps_law : List Str)]
def PS (n : Nat) : List Str := (PP[n]?).getD []
section
variable {K : PySem.W.Frag} {sa : Addr} {FD : Nat → FuncData}
abbrev HF (K : PySem.W.Frag) (FD : Nat → FuncData) : Prop := ∀ i d, fns[i]? = some d → FunD K d.name d.qual d.params d.body d.scope [] [] (He.fAd K d.at_) (FD i)
abbrev DK (K : PySem.W.Frag) (sa : Addr) (FD : Nat → FuncData) (f : Nat) (d : Fd) : Prop := DefOk (cz K sa) gn fn0 df (AA K) FD PS f d
theorem hd_is_whole (hF : HF K FD) : DK K sa FD 0 f_is_whole := ⟨"is_whole", "is_whole", defArgs s_is_whole, defBody s_is_whole, defScope s_is_whole, N_is_whole, rfl, hF 0 d_is_whole rfl, bd_is_whole (hF 0 d_is_whole rfl), sc_is_whole, rfl, rfl, by decide, m_is_whole⟩
theorem hd_is_count (hF : HF K FD) : DK K sa FD 1 f_is_count := ⟨"is_count", "is_count", defArgs s_is_count, defBody s_is_count, defScope s_is_count, N_is_count, rfl, hF 1 d_is_count rfl, bd_is_count (hF 1 d_is_count rfl), sc_is_count, rfl, rfl, by decide, m_is_count⟩
theorem hd_is_element_in (hF : HF K FD) : DK K sa FD 2 f_is_element_in := ⟨"is_element_in", "is_element_in", defArgs s_is_element_in, defBody s_is_element_in, defScope s_is_element_in, N_is_element_in, rfl, hF 2 d_is_element_in rfl, bd_is_element_in (hF 2 d_is_element_in rfl), sc_is_element_in, rfl, rfl, by decide, m_is_element_in⟩
theorem hd_common (hF : HF K FD) : DK K sa FD 3 f_common := ⟨"common", "common", defArgs s_common, defBody s_common, defScope s_common, N_common, rfl, hF 3 d_common rfl, bd_common (hF 3 d_common rfl), sc_common, rfl, rfl, by decide, m_common⟩
theorem hd_is_tower_form (hF : HF K FD) : DK K sa FD 4 f_is_tower_form := ⟨"is_tower_form", "is_tower_form", defArgs s_is_tower_form, defBody s_is_tower_form, defScope s_is_tower_form, N_is_tower_form, rfl, hF 4 d_is_tower_form rfl, bd_is_tower_form (hF 4 d_is_tower_form rfl), sc_is_tower_form, rfl, rfl, by decide, m_is_tower_form⟩
theorem hd_need_tower (hF : HF K FD) : DK K sa FD 5 f_need_tower := ⟨"need_tower", "need_tower", defArgs s_need_tower, defBody s_need_tower, defScope s_need_tower, N_need_tower, rfl, hF 5 d_need_tower rfl, bd_need_tower (hF 5 d_need_tower rfl), sc_need_tower, rfl, rfl, by decide, m_need_tower⟩
theorem hd_need_element (hF : HF K FD) : DK K sa FD 6 f_need_element := ⟨"need_element", "need_element", defArgs s_need_element, defBody s_need_element, defScope s_need_element, N_need_element, rfl, hF 6 d_need_element rfl, bd_need_element (hF 6 d_need_element rfl), sc_need_element, rfl, rfl, by decide, m_need_element⟩
theorem hd_lowest_in (hF : HF K FD) : DK K sa FD 7 f_lowest_in := ⟨"lowest_in", "lowest_in", defArgs s_lowest_in, defBody s_lowest_in, defScope s_lowest_in, N_lowest_in, rfl, hF 7 d_lowest_in rfl, bd_lowest_in (hF 7 d_lowest_in rfl), sc_lowest_in, rfl, rfl, by decide, m_lowest_in⟩
theorem hd_whole_in (hF : HF K FD) : DK K sa FD 8 f_whole_in := ⟨"whole_in", "whole_in", defArgs s_whole_in, defBody s_whole_in, defScope s_whole_in, N_whole_in, rfl, hF 8 d_whole_in rfl, bd_whole_in (hF 8 d_whole_in rfl), sc_whole_in, rfl, rfl, by decide, m_whole_in⟩
theorem hd_is_nought_in (hF : HF K FD) : DK K sa FD 9 f_is_nought_in := ⟨"is_nought_in", "is_nought_in", defArgs s_is_nought_in, defBody s_is_nought_in, defScope s_is_nought_in, N_is_nought_in, rfl, hF 9 d_is_nought_in rfl, bd_is_nought_in (hF 9 d_is_nought_in rfl), sc_is_nought_in, rfl, rfl, by decide, m_is_nought_in⟩
theorem hd_plus_in (hF : HF K FD) : DK K sa FD 10 f_plus_in := ⟨"plus_in", "plus_in", defArgs s_plus_in, defBody s_plus_in, defScope s_plus_in, N_plus_in, rfl, hF 10 d_plus_in rfl, bd_plus_in (hF 10 d_plus_in rfl), sc_plus_in, rfl, rfl, by decide, m_plus_in⟩
theorem hd_other_in (hF : HF K FD) : DK K sa FD 11 f_other_in := ⟨"other_in", "other_in", defArgs s_other_in, defBody s_other_in, defScope s_other_in, N_other_in, rfl, hF 11 d_other_in rfl, bd_other_in (hF 11 d_other_in rfl), sc_other_in, rfl, rfl, by decide, m_other_in⟩
theorem hd_minus_in (hF : HF K FD) : DK K sa FD 12 f_minus_in := ⟨"minus_in", "minus_in", defArgs s_minus_in, defBody s_minus_in, defScope s_minus_in, N_minus_in, rfl, hF 12 d_minus_in rfl, bd_minus_in (hF 12 d_minus_in rfl), sc_minus_in, rfl, rfl, by decide, m_minus_in⟩
theorem hd_halves_in (hF : HF K FD) : DK K sa FD 13 f_halves_in := ⟨"halves_in", "halves_in", defArgs s_halves_in, defBody s_halves_in, defScope s_halves_in, N_halves_in, rfl, hF 13 d_halves_in rfl, bd_halves_in (hF 13 d_halves_in rfl), sc_halves_in, rfl, rfl, by decide, m_halves_in⟩
theorem hd_joined_in (hF : HF K FD) : DK K sa FD 14 f_joined_in := ⟨"joined_in", "joined_in", defArgs s_joined_in, defBody s_joined_in, defScope s_joined_in, N_joined_in, rfl, hF 14 d_joined_in rfl, bd_joined_in (hF 14 d_joined_in rfl), sc_joined_in, rfl, rfl, by decide, m_joined_in⟩
theorem hd_times_in (hF : HF K FD) : DK K sa FD 15 f_times_in := ⟨"times_in", "times_in", defArgs s_times_in, defBody s_times_in, defScope s_times_in, N_times_in, rfl, hF 15 d_times_in rfl, bd_times_in (hF 15 d_times_in rfl), sc_times_in, rfl, rfl, by decide, m_times_in⟩
theorem hd_turned_in (hF : HF K FD) : DK K sa FD 16 f_turned_in := ⟨"turned_in", "turned_in", defArgs s_turned_in, defBody s_turned_in, defScope s_turned_in, N_turned_in, rfl, hF 16 d_turned_in rfl, bd_turned_in (hF 16 d_turned_in rfl), sc_turned_in, rfl, rfl, by decide, m_turned_in⟩
theorem hd_norm_in (hF : HF K FD) : DK K sa FD 17 f_norm_in := ⟨"norm_in", "norm_in", defArgs s_norm_in, defBody s_norm_in, defScope s_norm_in, N_norm_in, rfl, hF 17 d_norm_in rfl, bd_norm_in (hF 17 d_norm_in rfl), sc_norm_in, rfl, rfl, by decide, m_norm_in⟩
theorem hd_inverse_in (hF : HF K FD) : DK K sa FD 18 f_inverse_in := ⟨"inverse_in", "inverse_in", defArgs s_inverse_in, defBody s_inverse_in, defScope s_inverse_in, N_inverse_in, rfl, hF 18 d_inverse_in rfl, bd_inverse_in (hF 18 d_inverse_in rfl), sc_inverse_in, rfl, rfl, by decide, m_inverse_in⟩
theorem hd_over_in (hF : HF K FD) : DK K sa FD 19 f_over_in := ⟨"over_in", "over_in", defArgs s_over_in, defBody s_over_in, defScope s_over_in, N_over_in, rfl, hF 19 d_over_in rfl, bd_over_in (hF 19 d_over_in rfl), sc_over_in, rfl, rfl, by decide, m_over_in⟩
theorem hd_lifted_in (hF : HF K FD) : DK K sa FD 20 f_lifted_in := ⟨"lifted_in", "lifted_in", defArgs s_lifted_in, defBody s_lifted_in, defScope s_lifted_in, N_lifted_in, rfl, hF 20 d_lifted_in rfl, bd_lifted_in (hF 20 d_lifted_in rfl), sc_lifted_in, rfl, rfl, by decide, m_lifted_in⟩
theorem hd_need_two (hF : HF K FD) : DK K sa FD 21 f_need_two := ⟨"need_two", "need_two", defArgs s_need_two, defBody s_need_two, defScope s_need_two, N_need_two, rfl, hF 21 d_need_two rfl, bd_need_two (hF 21 d_need_two rfl), sc_need_two, rfl, rfl, by decide, m_need_two⟩
theorem hd_sign_in (hF : HF K FD) : DK K sa FD 22 f_sign_in := ⟨"sign_in", "sign_in", defArgs s_sign_in, defBody s_sign_in, defScope s_sign_in, N_sign_in, rfl, hF 22 d_sign_in rfl, bd_sign_in (hF 22 d_sign_in rfl), sc_sign_in, rfl, rfl, by decide, m_sign_in⟩
theorem hd_sign (hF : HF K FD) : DK K sa FD 23 f_sign := ⟨"sign", "sign", defArgs s_sign, defBody s_sign, defScope s_sign, N_sign, rfl, hF 23 d_sign rfl, bd_sign (hF 23 d_sign rfl), sc_sign, rfl, rfl, by decide, m_sign⟩
theorem hd_order (hF : HF K FD) : DK K sa FD 24 f_order := ⟨"order", "order", defArgs s_order, defBody s_order, defScope s_order, N_order, rfl, hF 24 d_order rfl, bd_order (hF 24 d_order rfl), sc_order, rfl, rfl, by decide, m_order⟩
theorem hd_root_below (hF : HF K FD) : DK K sa FD 25 f_root_below := ⟨"root_below", "root_below", defArgs s_root_below, defBody s_root_below, defScope s_root_below, N_root_below, rfl, hF 25 d_root_below rfl, bd_root_below (hF 25 d_root_below rfl), sc_root_below, rfl, rfl, by decide, m_root_below⟩
theorem hd_lowest (hF : HF K FD) : DK K sa FD 26 f_lowest := ⟨"lowest", "lowest", defArgs s_lowest, defBody s_lowest, defScope s_lowest, N_lowest, rfl, hF 26 d_lowest rfl, bd_lowest (hF 26 d_lowest rfl), sc_lowest, rfl, rfl, by decide, m_lowest⟩
theorem hd_products (hF : HF K FD) : DK K sa FD 27 f_products := ⟨"products", "products", defArgs s_products, defBody s_products, defScope s_products, N_products, rfl, hF 27 d_products rfl, bd_products (hF 27 d_products rfl), sc_products, rfl, rfl, by decide, m_products⟩
theorem hd_span_in (hF : HF K FD) : DK K sa FD 28 f_span_in := ⟨"span_in", "span_in", defArgs s_span_in, defBody s_span_in, defScope s_span_in, N_span_in, rfl, hF 28 d_span_in rfl, bd_span_in (hF 28 d_span_in rfl), sc_span_in, rfl, rfl, by decide, m_span_in⟩
theorem hd_is_bound (hF : HF K FD) : DK K sa FD 29 f_is_bound := ⟨"is_bound", "is_bound", defArgs s_is_bound, defBody s_is_bound, defScope s_is_bound, N_is_bound, rfl, hF 29 d_is_bound rfl, bd_is_bound (hF 29 d_is_bound rfl), sc_is_bound, rfl, rfl, by decide, m_is_bound⟩
theorem hd_are_bounds_in (hF : HF K FD) : DK K sa FD 30 f_are_bounds_in := ⟨"are_bounds_in", "are_bounds_in", defArgs s_are_bounds_in, defBody s_are_bounds_in, defScope s_are_bounds_in, N_are_bounds_in, rfl, hF 30 d_are_bounds_in rfl, bd_are_bounds_in (hF 30 d_are_bounds_in rfl), sc_are_bounds_in, rfl, rfl, by decide, m_are_bounds_in⟩
theorem hd_are_bounds (hF : HF K FD) : DK K sa FD 31 f_are_bounds := ⟨"are_bounds", "are_bounds", defArgs s_are_bounds, defBody s_are_bounds, defScope s_are_bounds, N_are_bounds, rfl, hF 31 d_are_bounds rfl, bd_are_bounds (hF 31 d_are_bounds rfl), sc_are_bounds, rfl, rfl, by decide, m_are_bounds⟩
theorem hd_bounds_in (hF : HF K FD) : DK K sa FD 32 f_bounds_in := ⟨"bounds_in", "bounds_in", defArgs s_bounds_in, defBody s_bounds_in, defScope s_bounds_in, N_bounds_in, rfl, hF 32 d_bounds_in rfl, bd_bounds_in (hF 32 d_bounds_in rfl), sc_bounds_in, rfl, rfl, by decide, m_bounds_in⟩
theorem hd_bounds (hF : HF K FD) : DK K sa FD 33 f_bounds := ⟨"bounds", "bounds", defArgs s_bounds, defBody s_bounds, defScope s_bounds, N_bounds, rfl, hF 33 d_bounds rfl, bd_bounds (hF 33 d_bounds rfl), sc_bounds, rfl, rfl, by decide, m_bounds⟩
theorem hd_whole_root (hF : HF K FD) : DK K sa FD 34 f_whole_root := ⟨"whole_root", "whole_root", defArgs s_whole_root, defBody s_whole_root, defScope s_whole_root, N_whole_root, rfl, hF 34 d_whole_root rfl, bd_whole_root (hF 34 d_whole_root rfl), sc_whole_root, rfl, rfl, by decide, m_whole_root⟩
theorem hd_some_root (hF : HF K FD) : DK K sa FD 35 f_some_root := ⟨"some_root", "some_root", defArgs s_some_root, defBody s_some_root, defScope s_some_root, N_some_root, rfl, hF 35 d_some_root rfl, bd_some_root (hF 35 d_some_root rfl), sc_some_root, rfl, rfl, by decide, m_some_root⟩
theorem hd_root_in (hF : HF K FD) : DK K sa FD 36 f_root_in := ⟨"root_in", "root_in", defArgs s_root_in, defBody s_root_in, defScope s_root_in, N_root_in, rfl, hF 36 d_root_in rfl, bd_root_in (hF 36 d_root_in rfl), sc_root_in, rfl, rfl, by decide, m_root_in⟩
theorem hd_square_root (hF : HF K FD) : DK K sa FD 37 f_square_root := ⟨"square_root", "square_root", defArgs s_square_root, defBody s_square_root, defScope s_square_root, N_square_root, rfl, hF 37 d_square_root rfl, bd_square_root (hF 37 d_square_root rfl), sc_square_root, rfl, rfl, by decide, m_square_root⟩
theorem hd_bar_in (hF : HF K FD) : DK K sa FD 38 f_bar_in := ⟨"bar_in", "bar_in", defArgs s_bar_in, defBody s_bar_in, defScope s_bar_in, N_bar_in, rfl, hF 38 d_bar_in rfl, bd_bar_in (hF 38 d_bar_in rfl), sc_bar_in, rfl, rfl, by decide, m_bar_in⟩
theorem hd_tower_bar (hF : HF K FD) : DK K sa FD 39 f_tower_bar := ⟨"tower_bar", "tower_bar", defArgs s_tower_bar, defBody s_tower_bar, defScope s_tower_bar, N_tower_bar, rfl, hF 39 d_tower_bar rfl, bd_tower_bar (hF 39 d_tower_bar rfl), sc_tower_bar, rfl, rfl, by decide, m_tower_bar⟩
theorem hd_is_tower (hF : HF K FD) : DK K sa FD 40 f_is_tower := ⟨"is_tower", "is_tower", defArgs s_is_tower, defBody s_is_tower, defScope s_is_tower, N_is_tower, rfl, hF 40 d_is_tower rfl, bd_is_tower (hF 40 d_is_tower rfl), sc_is_tower, rfl, rfl, by decide, m_is_tower⟩
theorem hd_is_odd_prime (hF : HF K FD) : DK K sa FD 41 f_is_odd_prime := ⟨"is_odd_prime", "is_odd_prime", defArgs s_is_odd_prime, defBody s_is_odd_prime, defScope s_is_odd_prime, N_is_odd_prime, rfl, hF 41 d_is_odd_prime rfl, bd_is_odd_prime (hF 41 d_is_odd_prime rfl), sc_is_odd_prime, rfl, rfl, by decide, m_is_odd_prime⟩
theorem hd_need_prime (hF : HF K FD) : DK K sa FD 42 f_need_prime := ⟨"need_prime", "need_prime", defArgs s_need_prime, defBody s_need_prime, defScope s_need_prime, N_need_prime, rfl, hF 42 d_need_prime rfl, bd_need_prime (hF 42 d_need_prime rfl), sc_need_prime, rfl, rfl, by decide, m_need_prime⟩
theorem hd_inverse (hF : HF K FD) : DK K sa FD 43 f_inverse := ⟨"inverse", "inverse", defArgs s_inverse, defBody s_inverse, defScope s_inverse, N_inverse, rfl, hF 43 d_inverse rfl, bd_inverse (hF 43 d_inverse rfl), sc_inverse, rfl, rfl, by decide, m_inverse⟩
theorem hd_in_ring (hF : HF K FD) : DK K sa FD 44 f_in_ring := ⟨"in_ring", "in_ring", defArgs s_in_ring, defBody s_in_ring, defScope s_in_ring, N_in_ring, rfl, hF 44 d_in_ring rfl, bd_in_ring (hF 44 d_in_ring rfl), sc_in_ring, rfl, rfl, by decide, m_in_ring⟩
theorem hd_ring_of (hF : HF K FD) : DK K sa FD 45 f_ring_of := ⟨"ring_of", "ring_of", defArgs s_ring_of, defBody s_ring_of, defScope s_ring_of, N_ring_of, rfl, hF 45 d_ring_of rfl, bd_ring_of (hF 45 d_ring_of rfl), sc_ring_of, rfl, rfl, by decide, m_ring_of⟩
theorem hd_ring_times (hF : HF K FD) : DK K sa FD 46 f_ring_times := ⟨"ring_times", "ring_times", defArgs s_ring_times, defBody s_ring_times, defScope s_ring_times, N_ring_times, rfl, hF 46 d_ring_times rfl, bd_ring_times (hF 46 d_ring_times rfl), sc_ring_times, rfl, rfl, by decide, m_ring_times⟩
theorem hd_ring_power (hF : HF K FD) : DK K sa FD 47 f_ring_power := ⟨"ring_power", "ring_power", defArgs s_ring_power, defBody s_ring_power, defScope s_ring_power, N_ring_power, rfl, hF 47 d_ring_power rfl, bd_ring_power (hF 47 d_ring_power rfl), sc_ring_power, rfl, rfl, by decide, m_ring_power⟩
theorem hd_ring_norm (hF : HF K FD) : DK K sa FD 48 f_ring_norm := ⟨"ring_norm", "ring_norm", defArgs s_ring_norm, defBody s_ring_norm, defScope s_ring_norm, N_ring_norm, rfl, hF 48 d_ring_norm rfl, bd_ring_norm (hF 48 d_ring_norm rfl), sc_ring_norm, rfl, rfl, by decide, m_ring_norm⟩
theorem hd_fits_in (hF : HF K FD) : DK K sa FD 49 f_fits_in := ⟨"fits_in", "fits_in", defArgs s_fits_in, defBody s_fits_in, defScope s_fits_in, N_fits_in, rfl, hF 49 d_fits_in rfl, bd_fits_in (hF 49 d_fits_in rfl), sc_fits_in, rfl, rfl, by decide, m_fits_in⟩
theorem hd_fits (hF : HF K FD) : DK K sa FD 50 f_fits := ⟨"fits", "fits", defArgs s_fits, defBody s_fits, defScope s_fits, N_fits, rfl, hF 50 d_fits rfl, bd_fits (hF 50 d_fits rfl), sc_fits, rfl, rfl, by decide, m_fits⟩
theorem hd_led (hF : HF K FD) : DK K sa FD 51 f_led := ⟨"led", "led", defArgs s_led, defBody s_led, defScope s_led, N_led, rfl, hF 51 d_led rfl, bd_led (hF 51 d_led rfl), sc_led, rfl, rfl, by decide, m_led⟩
theorem hd_rests_in (hF : HF K FD) : DK K sa FD 52 f_rests_in := ⟨"rests_in", "rests_in", defArgs s_rests_in, defBody s_rests_in, defScope s_rests_in, N_rests_in, rfl, hF 52 d_rests_in rfl, bd_rests_in (hF 52 d_rests_in rfl), sc_rests_in, rfl, rfl, by decide, m_rests_in⟩
theorem hd_all_rests (hF : HF K FD) : DK K sa FD 53 f_all_rests := ⟨"all_rests", "all_rests", defArgs s_all_rests, defBody s_all_rests, defScope s_all_rests, N_all_rests, rfl, hF 53 d_all_rests rfl, bd_all_rests (hF 53 d_all_rests rfl), sc_all_rests, rfl, rfl, by decide, m_all_rests⟩
theorem hd_moves_in (hF : HF K FD) : DK K sa FD 54 f_moves_in := ⟨"moves_in", "moves_in", defArgs s_moves_in, defBody s_moves_in, defScope s_moves_in, N_moves_in, rfl, hF 54 d_moves_in rfl, bd_moves_in (hF 54 d_moves_in rfl), sc_moves_in, rfl, rfl, by decide, m_moves_in⟩
theorem hd_nested_in (hF : HF K FD) : DK K sa FD 55 f_nested_in := ⟨"nested_in", "nested_in", defArgs s_nested_in, defBody s_nested_in, defScope s_nested_in, N_nested_in, rfl, hF 55 d_nested_in rfl, bd_nested_in (hF 55 d_nested_in rfl), sc_nested_in, rfl, rfl, by decide, m_nested_in⟩
theorem hd_is_nested_in (hF : HF K FD) : DK K sa FD 56 f_is_nested_in := ⟨"is_nested_in", "is_nested_in", defArgs s_is_nested_in, defBody s_is_nested_in, defScope s_is_nested_in, N_is_nested_in, rfl, hF 56 d_is_nested_in rfl, bd_is_nested_in (hF 56 d_is_nested_in rfl), sc_is_nested_in, rfl, rfl, by decide, m_is_nested_in⟩
theorem hd_nested_paper (hF : HF K FD) : DK K sa FD 57 f_nested_paper := ⟨"nested_paper", "nested_paper", defArgs s_nested_paper, defBody s_nested_paper, defScope s_nested_paper, N_nested_paper, rfl, hF 57 d_nested_paper rfl, bd_nested_paper (hF 57 d_nested_paper rfl), sc_nested_paper, rfl, rfl, by decide, m_nested_paper⟩
theorem hd_is_nested_paper (hF : HF K FD) : DK K sa FD 58 f_is_nested_paper := ⟨"is_nested_paper", "is_nested_paper", defArgs s_is_nested_paper, defBody s_is_nested_paper, defScope s_is_nested_paper, N_is_nested_paper, rfl, hF 58 d_is_nested_paper rfl, bd_is_nested_paper (hF 58 d_is_nested_paper rfl), sc_is_nested_paper, rfl, rfl, by decide, m_is_nested_paper⟩
theorem hd_power_in_ring (hF : HF K FD) : DK K sa FD 59 f_power_in_ring := ⟨"power_in_ring", "power_in_ring", defArgs s_power_in_ring, defBody s_power_in_ring, defScope s_power_in_ring, N_power_in_ring, rfl, hF 59 d_power_in_ring rfl, bd_power_in_ring (hF 59 d_power_in_ring rfl), sc_power_in_ring, rfl, rfl, by decide, m_power_in_ring⟩
theorem hd__law_pick (hF : HF K FD) : DK K sa FD 62 f__law_pick := ⟨"_law_pick", "_law_pick", defArgs s__law_pick, defBody s__law_pick, defScope s__law_pick, N__law_pick, rfl, hF 62 d__law_pick rfl, bd__law_pick (hF 62 d__law_pick rfl), sc__law_pick, rfl, rfl, by decide, m__law_pick⟩
theorem hd__law_gcd (hF : HF K FD) : DK K sa FD 63 f__law_gcd := ⟨"_law_gcd", "_law_gcd", defArgs s__law_gcd, defBody s__law_gcd, defScope s__law_gcd, N__law_gcd, rfl, hF 63 d__law_gcd rfl, bd__law_gcd (hF 63 d__law_gcd rfl), sc__law_gcd, rfl, rfl, by decide, m__law_gcd⟩
theorem hd__law_lowest (hF : HF K FD) : DK K sa FD 64 f__law_lowest := ⟨"_law_lowest", "_law_lowest", defArgs s__law_lowest, defBody s__law_lowest, defScope s__law_lowest, N__law_lowest, rfl, hF 64 d__law_lowest rfl, bd__law_lowest (hF 64 d__law_lowest rfl), sc__law_lowest, rfl, rfl, by decide, m__law_lowest⟩
theorem hd__law_size (hF : HF K FD) : DK K sa FD 65 f__law_size := ⟨"_law_size", "_law_size", defArgs s__law_size, defBody s__law_size, defScope s__law_size, N__law_size, rfl, hF 65 d__law_size rfl, bd__law_size (hF 65 d__law_size rfl), sc__law_size, rfl, rfl, by decide, m__law_size⟩
theorem hd__law_sum (hF : HF K FD) : DK K sa FD 66 f__law_sum := ⟨"_law_sum", "_law_sum", defArgs s__law_sum, defBody s__law_sum, defScope s__law_sum, N__law_sum, rfl, hF 66 d__law_sum rfl, bd__law_sum (hF 66 d__law_sum rfl), sc__law_sum, rfl, rfl, by decide, m__law_sum⟩
theorem hd__law_product (hF : HF K FD) : DK K sa FD 67 f__law_product := ⟨"_law_product", "_law_product", defArgs s__law_product, defBody s__law_product, defScope s__law_product, N__law_product, rfl, hF 67 d__law_product rfl, bd__law_product (hF 67 d__law_product rfl), sc__law_product, rfl, rfl, by decide, m__law_product⟩
theorem hd__law_root_below (hF : HF K FD) : DK K sa FD 68 f__law_root_below := ⟨"_law_root_below", "_law_root_below", defArgs s__law_root_below, defBody s__law_root_below, defScope s__law_root_below, N__law_root_below, rfl, hF 68 d__law_root_below rfl, bd__law_root_below (hF 68 d__law_root_below rfl), sc__law_root_below, rfl, rfl, by decide, m__law_root_below⟩
theorem hd__law_near (hF : HF K FD) : DK K sa FD 69 f__law_near := ⟨"_law_near", "_law_near", defArgs s__law_near, defBody s__law_near, defScope s__law_near, N__law_near, rfl, hF 69 d__law_near rfl, bd__law_near (hF 69 d__law_near rfl), sc__law_near, rfl, rfl, by decide, m__law_near⟩
theorem hd__law_worth (hF : HF K FD) : DK K sa FD 70 f__law_worth := ⟨"_law_worth", "_law_worth", defArgs s__law_worth, defBody s__law_worth, defScope s__law_worth, N__law_worth, rfl, hF 70 d__law_worth rfl, bd__law_worth (hF 70 d__law_worth rfl), sc__law_worth, rfl, rfl, by decide, m__law_worth⟩
theorem hd__law_twos (hF : HF K FD) : DK K sa FD 71 f__law_twos := ⟨"_law_twos", "_law_twos", defArgs s__law_twos, defBody s__law_twos, defScope s__law_twos, N__law_twos, rfl, hF 71 d__law_twos rfl, bd__law_twos (hF 71 d__law_twos rfl), sc__law_twos, rfl, rfl, by decide, m__law_twos⟩
theorem hd_law (hF : HF K FD) : DK K sa FD 72 f_law := ⟨"law", "law", defArgs s_law, defBody s_law, defScope s_law, N_law, rfl, hF 72 d_law rfl, bd_law (hF 72 d_law rfl), sc_law, rfl, rfl, by decide, m_law⟩
theorem hD (hF : HF K FD) : ∀ f d, P f = some d → DefOk (cz K sa) gn fn0 df (AA K) FD PS f d := fun f d h => btree_all (R := DK K sa FD) (t := PT) ⟨hd_some_root hF, ⟨hd_norm_in hF, ⟨hd_whole_in hF, ⟨hd_is_tower_form hF, ⟨hd_is_element_in hF, ⟨hd_is_count hF, ⟨hd_is_whole hF, trivial, trivial⟩, trivial⟩, ⟨hd_common hF, trivial, trivial⟩⟩, ⟨hd_need_element hF, ⟨hd_need_tower hF, trivial, trivial⟩, ⟨hd_lowest_in hF, trivial, trivial⟩⟩⟩, ⟨hd_halves_in hF, ⟨hd_other_in hF, ⟨hd_plus_in hF, ⟨hd_is_nought_in hF, trivial, trivial⟩, trivial⟩, ⟨hd_minus_in hF, trivial, trivial⟩⟩, ⟨hd_times_in hF, ⟨hd_joined_in hF, trivial, trivial⟩, ⟨hd_turned_in hF, trivial, trivial⟩⟩⟩⟩, ⟨hd_lowest hF, ⟨hd_sign_in hF, ⟨hd_lifted_in hF, ⟨hd_over_in hF, ⟨hd_inverse_in hF, trivial, trivial⟩, trivial⟩, ⟨hd_need_two hF, trivial, trivial⟩⟩, ⟨hd_order hF, ⟨hd_sign hF, trivial, trivial⟩, ⟨hd_root_below hF, trivial, trivial⟩⟩⟩, ⟨hd_are_bounds hF, ⟨hd_is_bound hF, ⟨hd_span_in hF, ⟨hd_products hF, trivial, trivial⟩, trivial⟩, ⟨hd_are_bounds_in hF, trivial, trivial⟩⟩, ⟨hd_bounds hF, ⟨hd_bounds_in hF, trivial, trivial⟩, ⟨hd_whole_root hF, trivial, trivial⟩⟩⟩⟩⟩, ⟨hd_all_rests hF, ⟨hd_in_ring hF, ⟨hd_is_tower hF, ⟨hd_bar_in hF, ⟨hd_square_root hF, ⟨hd_root_in hF, trivial, trivial⟩, trivial⟩, ⟨hd_tower_bar hF, trivial, trivial⟩⟩, ⟨hd_need_prime hF, ⟨hd_is_odd_prime hF, trivial, trivial⟩, ⟨hd_inverse hF, trivial, trivial⟩⟩⟩, ⟨hd_fits_in hF, ⟨hd_ring_power hF, ⟨hd_ring_times hF, ⟨hd_ring_of hF, trivial, trivial⟩, trivial⟩, ⟨hd_ring_norm hF, trivial, trivial⟩⟩, ⟨hd_led hF, ⟨hd_fits hF, trivial, trivial⟩, ⟨hd_rests_in hF, trivial, trivial⟩⟩⟩⟩, ⟨hd__law_lowest hF, ⟨hd_is_nested_paper hF, ⟨hd_is_nested_in hF, ⟨hd_nested_in hF, ⟨hd_moves_in hF, trivial, trivial⟩, trivial⟩, ⟨hd_nested_paper hF, trivial, trivial⟩⟩, ⟨hd__law_pick hF, ⟨hd_power_in_ring hF, trivial, trivial⟩, ⟨hd__law_gcd hF, trivial, trivial⟩⟩⟩, ⟨hd__law_near hF, ⟨hd__law_product hF, ⟨hd__law_sum hF, ⟨hd__law_size hF, trivial, trivial⟩, trivial⟩, ⟨hd__law_root_below hF, trivial, trivial⟩⟩, ⟨hd__law_twos hF, ⟨hd__law_worth hF, trivial, trivial⟩, ⟨hd_law hF, trivial, trivial⟩⟩⟩⟩⟩⟩ h
theorem gl_at (f : Nat) (id : Str) (hf : f < 73) (q : gn f = some id) : fas[f]? = some (He.Fa.glo id) := by
  have e : fas.take 73 = (names.take 73).map He.Fa.glo := rfl
  have h1 : fas[f]? = (fas.take 73)[f]? := by rw [List.getElem?_take_of_lt hf]
  rw [h1, e, List.getElem?_map, List.getElem?_take_of_lt hf]
  have q : names[f]? = some id := q
  rw [q] <;> rfl
theorem gf {mg : Str → Option Value} {h : Heap} (X : K.In h) (G : h.Ns mainGlobals mg) (c : He.SaysD fas fns K) (gc : gcdB K = true) : Gf (cz K sa) mg gn df C := by
  refine ⟨fun n d e id q => ?_, fun f id q hd => ?_, fun b hb => ?_, PySem.W.mg_of X G (He.eqO_ok gc), fun x hx => ?_⟩
  · match n, e with
    | 73, e =>
      cases e; cases q
      obtain ⟨t, h⟩ := He.int_ok X G (c.fact 73 (f := .int "MOST_ROOTS" 4) rfl)
      exact ⟨_, .int 4, h, ⟨t, rfl⟩, fun _ => .int _⟩
    | 74, e =>
      cases e; cases q
      obtain ⟨t, h⟩ := He.int_ok X G (c.fact 74 (f := .int "MOST_PRIME" 10000) rfl)
      exact ⟨_, .int 10000, h, ⟨t, rfl⟩, fun _ => .int _⟩
    | _ + 75, e => cases e
    | 0, e => cases e
    | 1, e => cases e
    | 2, e => cases e
    | 3, e => cases e
    | 4, e => cases e
    | 5, e => cases e
    | 6, e => cases e
    | 7, e => cases e
    | 8, e => cases e
    | 9, e => cases e
    | 10, e => cases e
    | 11, e => cases e
    | 12, e => cases e
    | 13, e => cases e
    | 14, e => cases e
    | 15, e => cases e
    | 16, e => cases e
    | 17, e => cases e
    | 18, e => cases e
    | 19, e => cases e
    | 20, e => cases e
    | 21, e => cases e
    | 22, e => cases e
    | 23, e => cases e
    | 24, e => cases e
    | 25, e => cases e
    | 26, e => cases e
    | 27, e => cases e
    | 28, e => cases e
    | 29, e => cases e
    | 30, e => cases e
    | 31, e => cases e
    | 32, e => cases e
    | 33, e => cases e
    | 34, e => cases e
    | 35, e => cases e
    | 36, e => cases e
    | 37, e => cases e
    | 38, e => cases e
    | 39, e => cases e
    | 40, e => cases e
    | 41, e => cases e
    | 42, e => cases e
    | 43, e => cases e
    | 44, e => cases e
    | 45, e => cases e
    | 46, e => cases e
    | 47, e => cases e
    | 48, e => cases e
    | 49, e => cases e
    | 50, e => cases e
    | 51, e => cases e
    | 52, e => cases e
    | 53, e => cases e
    | 54, e => cases e
    | 55, e => cases e
    | 56, e => cases e
    | 57, e => cases e
    | 58, e => cases e
    | 59, e => cases e
    | 60, e => cases e
    | 61, e => cases e
    | 62, e => cases e
    | 63, e => cases e
    | 64, e => cases e
    | 65, e => cases e
    | 66, e => cases e
    | 67, e => cases e
    | 68, e => cases e
    | 69, e => cases e
    | 70, e => cases e
    | 71, e => cases e
    | 72, e => cases e
  · have hf : f < 73 := by
      have := of_decide_eq_true hd
      simp only [List.mem_cons, List.not_mem_nil, or_false] at this
      omega
    refine ⟨AA K f, ?_, ?_⟩
    · show (if f = 999 then some sa else if f < 73 then some (AA K f) else none) = _
      rw [if_neg (by omega), if_pos hf]
    · have h1 : (fas[f]? = some (.glo id)) := gl_at f id hf q
      have h2 := He.glo_ok X G (c.fact f h1)
      rw [h2]
      unfold AA
      have q : names[f]? = some id := q
      rw [q] <;> rfl
  · cases b with
    | len => exact He.free_ok X G (c.fact 75 (f := .free "len") rfl)
    | abs => exact He.free_ok X G (c.fact 76 (f := .free "abs") rfl)
    | int => exact He.free_ok X G (c.fact 77 (f := .free "int") rfl)
    | tuple => exact He.free_ok X G (c.fact 78 (f := .free "tuple") rfl)
    | list => exact He.free_ok X G (c.fact 79 (f := .free "list") rfl)
    | all => exact He.free_ok X G (c.fact 80 (f := .free "all") rfl)
    | any => exact He.free_ok X G (c.fact 81 (f := .free "any") rfl)
    | sum => exact He.free_ok X G (c.fact 82 (f := .free "sum") rfl)
    | sorted => exact He.free_ok X G (c.fact 83 (f := .free "sorted") rfl)
    | min => exact He.free_ok X G (c.fact 84 (f := .free "min") rfl)
    | max => exact He.free_ok X G (c.fact 85 (f := .free "max") rfl)
    | gcd => exact absurd rfl hb
  · simp only [List.mem_cons, List.not_mem_nil, or_false] at hx
    rcases hx with rfl | rfl | rfl | rfl | rfl | rfl | rfl | rfl | rfl
    · exact He.free_ok X G (c.fact 86 (f := .free "isinstance") rfl)
    · exact He.free_ok X G (c.fact 87 (f := .free "range") rfl)
    · exact He.free_ok X G (c.fact 88 (f := .free "enumerate") rfl)
    · exact He.free_ok X G (c.fact 89 (f := .free "zip") rfl)
    · exact He.free_ok X G (c.fact 77 (f := .free "int") rfl)
    · exact He.free_ok X G (c.fact 90 (f := .free "bool") rfl)
    · exact He.free_ok X G (c.fact 91 (f := .free "str") rfl)
    · exact He.free_ok X G (c.fact 78 (f := .free "tuple") rfl)
    · exact He.free_ok X G (c.fact 79 (f := .free "list") rfl)
theorem ddf (Nn : Nat → Option (List D → Hd → K1 → Bool)) (h1 : (Nn 60).isSome = true) (h2 : (Nn 61).isSome = true) : ∀ f, df f = true → (P f).isSome = true ∨ (Nn f).isSome = true := by
  intro f hd
  have hf := of_decide_eq_true hd
  simp only [List.mem_cons, List.not_mem_nil, or_false] at hf
  rcases hf with rfl | rfl | rfl | rfl | rfl | rfl | rfl | rfl | rfl | rfl | rfl | rfl | rfl | rfl | rfl | rfl | rfl | rfl | rfl | rfl | rfl | rfl | rfl | rfl | rfl | rfl | rfl | rfl | rfl | rfl | rfl | rfl | rfl | rfl | rfl | rfl | rfl | rfl | rfl | rfl | rfl | rfl | rfl | rfl | rfl | rfl | rfl | rfl | rfl | rfl | rfl | rfl | rfl | rfl | rfl | rfl | rfl | rfl | rfl | rfl | rfl | rfl | rfl | rfl | rfl | rfl | rfl | rfl | rfl | rfl | rfl | rfl | rfl
  · exact .inl rfl
  · exact .inl rfl
  · exact .inl rfl
  · exact .inl rfl
  · exact .inl rfl
  · exact .inl rfl
  · exact .inl rfl
  · exact .inl rfl
  · exact .inl rfl
  · exact .inl rfl
  · exact .inl rfl
  · exact .inl rfl
  · exact .inl rfl
  · exact .inl rfl
  · exact .inl rfl
  · exact .inl rfl
  · exact .inl rfl
  · exact .inl rfl
  · exact .inl rfl
  · exact .inl rfl
  · exact .inl rfl
  · exact .inl rfl
  · exact .inl rfl
  · exact .inl rfl
  · exact .inl rfl
  · exact .inl rfl
  · exact .inl rfl
  · exact .inl rfl
  · exact .inl rfl
  · exact .inl rfl
  · exact .inl rfl
  · exact .inl rfl
  · exact .inl rfl
  · exact .inl rfl
  · exact .inl rfl
  · exact .inl rfl
  · exact .inl rfl
  · exact .inl rfl
  · exact .inl rfl
  · exact .inl rfl
  · exact .inl rfl
  · exact .inl rfl
  · exact .inl rfl
  · exact .inl rfl
  · exact .inl rfl
  · exact .inl rfl
  · exact .inl rfl
  · exact .inl rfl
  · exact .inl rfl
  · exact .inl rfl
  · exact .inl rfl
  · exact .inl rfl
  · exact .inl rfl
  · exact .inl rfl
  · exact .inl rfl
  · exact .inl rfl
  · exact .inl rfl
  · exact .inl rfl
  · exact .inl rfl
  · exact .inl rfl
  · exact .inr h1
  · exact .inr h2
  · exact .inl rfl
  · exact .inl rfl
  · exact .inl rfl
  · exact .inl rfl
  · exact .inl rfl
  · exact .inl rfl
  · exact .inl rfl
  · exact .inl rfl
  · exact .inl rfl
  · exact .inl rfl
  · exact .inl rfl
def spLaw (K : PySem.W.Frag) : Sp := fun vs H Q _ => ∃ (a : Addr) (ns : List Int), vs = [.ref a] ∧ ns.length ≤ 63 ∧ Only H ∧ SqL K H a (ns.map V.int) ∧ ∀ H', Q (.bl true) H'
theorem nats {prog : Program} {w : World} {mg : Str → Option Value} {h base : Heap} (X : K.In h) (G : h.Ns mainGlobals mg) (c : He.SaysD fas fns K) (hF : HF K FD) : ∀ f t, N0 f = some t → FK (cz K sa) prog w mg base (AA K) FD PS 1 f (spN (cz K sa) t) := by
  have hint := He.free_ok X G (c.fact 77 (f := .free "int") rfl)
  have hlist := He.free_ok X G (c.fact 79 (f := .free "list") rfl)
  have hlen := He.free_ok X G (c.fact 75 (f := .free "len") rfl)
  have n1 : FK (cz K sa) prog w mg base (AA K) FD PS 1 60 (spN (cz K sa) penT) := ⟨rfl, (hF 60 d__law_pen rfl).kp, bd__law_pen (hF 60 d__law_pen rfl), ok_pen (hF 60 d__law_pen rfl) hint hlist⟩
  have n2 : FK (cz K sa) prog w mg base (AA K) FD PS 1 61 (spN (cz K sa) drawT) := ⟨rfl, (hF 61 d__law_draw rfl).kp, bd__law_draw (hF 61 d__law_draw rfl), ok_draw (hF 61 d__law_draw rfl) hint hlen⟩
  exact fun f t e => btree_all (R := fun f t => FK (cz K sa) prog w mg base (AA K) FD PS 1 f (spN (cz K sa) t)) (t := NT) ⟨n2, ⟨n1, trivial, trivial⟩, trivial⟩ e
theorem fin_ok {prog : Program} {w : World} {mg : Str → Option Value} {h base : Heap} (X : K.In h) (G : h.Ns mainGlobals mg) (c : He.SaysD fas fns K) (gc : gcdB K = true) (hF : HF K FD) : ∀ f, df f = true → FK (cz K sa) prog w mg base (AA K) FD PS 111 f (spZ (cz K sa) TF f) := by
  have GF := gf (sa := sa) X G c gc
  have N := nats (prog := prog) (w := w) (base := base) (sa := sa) X G c hF
  have up : ∀ {f k : Nat} {sp : Sp}, 1 ≤ k → FK (cz K sa) prog w mg base (AA K) FD PS 1 f sp → FK (cz K sa) prog w mg base (AA K) FD PS k f sp := fun hk ⟨x1, x2, x3, x4⟩ => ⟨x1, x2, x3, x4.mono hk⟩
  have A := layers (prog := prog) (w := w) (base := base) (Nn := N0) GF rfl 1 20 (hD (sa := sa) hF) (ddf N0 rfl rfl) N TT 5 fun l hl f s q => allok l hl f s q
  exact fun f hf => fnz (prog := prog) (w := w) (base := base) (Nn := N0) (M := fnd TT 5) GF rfl 101 (hD (sa := sa) hF) (ddf N0 rfl rfl) (fun f t e => up (by omega) (N f t e)) A 10 f hf
theorem ok_law {prog : Program} {w : World} {mg : Str → Option Value} {h base : Heap} (X : K.In h) (G : h.Ns mainGlobals mg) (c : He.SaysD fas fns K) (gc : gcdB K = true) (hF : HF K FD) : FnOk prog w K mg base (L2.CX prog w) 111 (AA K 72) (FD 72) (PS 72) (spLaw K) := by
  have key : ∀ sa, FnOk prog w K mg base (L2.CX prog w) 111 (AA K 72) (FD 72) (PS 72) (fun vs H Q _ => ∃ (ns : List Int), vs = [.ref sa] ∧ ns.length ≤ 63 ∧ Only H ∧ SqL K H sa (ns.map V.int) ∧ ∀ H', Q (.bl true) H') := fun sa => by
    obtain ⟨_, _, _, L⟩ := fin_ok (sa := sa) (prog := prog) (w := w) (base := base) X G c gc hF 72 rfl
    refine L.imp fun vs H Q E ⟨ns, ev, nz, hO, hS, q⟩ => ?_
    subst ev
    have sc : Scr K H sa := by
      rcases hS with (hS | ⟨u, hS⟩) | hS
      · rcases hO sa with z | ⟨u, xs, z⟩
        · rw [hS] at z; cases z
        · rw [hS] at z; cases z
      · exact ⟨ns, nz, .inl ⟨u, hS⟩⟩
      · exact ⟨ns, nz, .inr (.inr hS)⟩
    refine ⟨⟨fun _ => none, H⟩, [.gl 999], ⟨0, []⟩, never, yes, fun _ _ e => e, (fun _ _ e => nomatch e), ⟨(fun _ _ e => nomatch e), (fun _ _ => rfl), (fun _ _ _ e => nomatch e)⟩, .cons (.gl rfl fun _ => sc) .nil, run2, fun w' H' d h' v _ _ _ r e => ?_, fun _ _ _ _ _ _ _ _ _ _ x _ => x.elim⟩
    cases d with
    | bl b =>
      cases b with
      | true => cases r; exact q H'
      | false => cases e
    | _ => cases e
  exact ⟨fun vs H Q E ⟨sa, ns, r⟩ => (key sa).len vs H Q E ⟨ns, r⟩, fun A outer s H args us vs Q E hr e0 hb hv ⟨sa, ns, r⟩ => (key sa).run A outer s H args us vs Q E hr e0 hb hv ⟨ns, r⟩⟩
end
theorem facts {P' : Program} {w : World} {K : PySem.W.Frag} {h : Heap} {mg : Str → Option Value} {f : Addr} (X : K.In h) (G : h.Ns mainGlobals mg) (hfa : mg ("law" : Str) = some (.ref f)) (c : He.SaysD fas fns K) (gc : gcdB K = true) :
    ∃ fd : FuncData, (∀ (s : Shared) (v : Value), BindsTo s fd ⟨[v], []⟩ [("script", v)]) ∧ ∀ base : Heap, K.In base → base.Ns mainGlobals mg → FnOk P' w K mg base (L2.CX P' w) 111 f fd ["script"] (spLaw K) := by
  have ch : ∀ i : Nat, ∃ fd : FuncData, ∀ d, fns[i]? = some d → FunD K d.name d.qual d.params d.body d.scope [] [] (He.fAd K d.at_) fd := fun i => by
    cases q : fns[i]? with
    | none => exact ⟨default, fun d e => nomatch e⟩
    | some d =>
      obtain ⟨fd, F⟩ := c.def_ i q
      have nd : d.dfl = [] ∧ d.kwd = [] := by
        have m := List.mem_of_getElem? q
        have z : fns.all (fun d => d.dfl.isEmpty && d.kwd.isEmpty) = true := rfl
        have z2 := List.all_eq_true.mp z d m
        simp only [Bool.and_eq_true, List.isEmpty_iff] at z2
        exact z2
      refine ⟨fd, fun d' e => ?_⟩
      cases e
      have F2 : FunD K d.name d.qual d.params d.body d.scope (d.dfl.map (He.Dv.v K)) (d.kwd.map fun q => (q.1, q.2.v K)) (He.fAd K d.at_) fd := F
      rw [nd.1, nd.2] at F2
      exact F2
  obtain ⟨FD, hF⟩ := Classical.axiomOfChoice ch
  have e := hfa.symm.trans (He.glo_ok X G (c.fact 72 (f := .glo "law") rfl))
  have b := FunD.bindsA (ps := ["script"]) (hF 72 d_law rfl) fun _ _ _ _ _ _ us hl => match us, hl with | [_], _ => rfl
  refine ⟨FD 72, fun s v => b s [v] rfl, fun base _ _ => ?_⟩
  have L := ok_law (prog := P') (w := w) (base := base) X G c gc (fun i d e => hF i d e)
  cases e
  exact L
theorem quiet {P' : Program} {w : World} {K : PySem.W.Frag} {mg : Str → Option Value} {base : Heap} {k : Nat} {f : Addr} {fd : FuncData} {ps : List Str} (F : FnOk P' w K mg base (L2.CX P' w) k f fd ps (spLaw K)) : FnOk P' w K mg base CX0 k f fd ps (spLaw K) :=
  ⟨F.len, fun A outer s H args us vs Q E hr e0 hb hv h => codeAny_mono (F.run A outer s H args us vs Q (fun _ _ _ => False) hr e0 hb hv h) fun r s' hq => by
    cases r with
    | error e =>
      obtain ⟨_, _, _, _, _, _, _, _, _, _, _, _, z⟩ := (show L2.CX P' w outer H s (fun _ _ _ => False) e s' from hq)
      exact z.elim
    | ok fl => cases fl <;> exact hq⟩
end K28
open PySem PySem.W PySem.Calls PyProof.Rows
theorem PySem.Challenge.cw_nestedroots_k28_whole_towers_of_twos_holds : PySem.Challenge.rw_nestedroots_k28_whole_towers_of_twos.Holds := by
  w_on; o_law
  refine HandSHeadRun.head_imp (r := OpenLaw.row PySem.Challenge.rw_nestedroots_k28_whole_towers_of_twos) (q := view (OpenLaw.row PySem.Challenge.rw_nestedroots_k28_whole_towers_of_twos).prog [0, 86]) (H := K28.hk) (ob := K28.ob) (M := 12000) (loose := K28.loose) (d := HandSHeadRun.topDef (OpenLaw.row PySem.Challenge.rw_nestedroots_k28_whole_towers_of_twos).prog 86) (kwd := []) K28.ob_eq
    K28.run (by kernel_rfl) (by kernel_rfl) (by kernel_rfl) (by rfl) (by first | assumption | decide +kernel) (by decide +kernel) ⟨rfl, rfl, rfl, rfl, rfl, by decide +kernel⟩ ?hw ?hc
  case hw => w_witness2
  case hc =>
    refine L2.walk_ofE (l := PySem.Challenge.rw_nestedroots_k28_whole_towers_of_twos) (n := 63) (k := 111) (x := "script") (CX := L2.CX0) rfl (by decide) (by kernel_rfl) ⟨rfl, by decide, by decide⟩ ?F (fun _ _ _ _ z => z)
    intro w mg fa h Y G hmg0
    obtain ⟨K, KX, c, gc⟩ := Y
    have hmg : mg ("law" : PySem.Str) = some (.ref fa) := by
      have e : (HandSHeadRun.topDef (OpenLaw.row PySem.Challenge.rw_nestedroots_k28_whole_towers_of_twos).prog 86).name = ("law" : PySem.Str) := by kernel_rfl
      rw [← e]
      exact hmg0
    obtain ⟨fd, hb, hF⟩ := K28.facts (P' := (PySem.Challenge.rw_nestedroots_k28_whole_towers_of_twos).prog) (w := w) KX G hmg c gc
    exact ⟨K, fd, K28.spLaw K, KX, hb, fun H a ns hl hO hS => ⟨a, ns, rfl, hl, hO, hS, fun _ => rfl⟩, fun base b1 b2 => K28.quiet (hF base b1 b2)⟩

