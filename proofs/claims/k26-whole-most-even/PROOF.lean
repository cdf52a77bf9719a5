import PyProof.Rows.All
import Wide.All
import OpenK.AllK
import Wide.FinOn
import KE.KStateDown
import Lean
import HandS.Base
import HandS.Call
import HandS.Ends
import HandS.More
import HandS.Words
import HandS.WordsExc
import HandS.Defaults
import HandS.Head0
import HandS.Head1
import HandS.Head2
import HandS.HeadEnd
import HandS.HeadHook1
import HandS.HeadHook2
import HandS.ForMost
import HandS.IsInst
import HandS.TupMul
import HandS.TupAny
import HandS.Conv
import HandS.TupSets
import KE.KDictDisplayH
import KE.KTupSum
import PyProof.SeqI3
import KE.DataFind
import HandS.SortInts
import PyProof.ReprRoads
import PyProof.Rows.RegFStrParts
import HandS.RaiseMore
import PySem.Challenge.RW_unithouse_k26_whole_most_even
section
set_option Elab.async false
set_option linter.all false
set_option maxRecDepth 100000
set_option maxHeartbeats 0
namespace ME
open PySem PySem.Spec PyProof.Rows L2
def top (i : Nat) : Stmt := PySem.Challenge.pw_unithouse_k26_whole_most_even.main.body.getD i (.Pass ⟨0, 0, 0, 0⟩)
abbrev s_p_is_from : Stmt := top 14
abbrev s_p_need_many : Stmt := top 15
abbrev s_p_part_places : Stmt := top 16
abbrev s_p_single : Stmt := top 17
abbrev s_p_walked : Stmt := top 18
abbrev s_p_marks_of : Stmt := top 19
abbrev s_p_width_of : Stmt := top 20
abbrev s_p_power : Stmt := top 21
abbrev s_p_choices : Stmt := top 22
abbrev s_p_bare_size : Stmt := top 23
abbrev s_p_size_of : Stmt := top 24
abbrev s_p_need_sort : Stmt := top 25
abbrev s_p_is_content : Stmt := top 28
abbrev s_p_need_content : Stmt := top 29
abbrev s_p_zero_table : Stmt := top 31
abbrev s_p_name_table : Stmt := top 32
abbrev s_p_added_tables : Stmt := top 33
abbrev s_p_joined_contents : Stmt := top 34
abbrev s_p_multiplied_tables : Stmt := top 35
abbrev s_p_powered_table : Stmt := top 36
abbrev s_p_binomial : Stmt := top 37
abbrev s_p_ways_to_take : Stmt := top 38
abbrev s_p_taken_further : Stmt := top 39
abbrev s_p_picked_table : Stmt := top 40
abbrev s_p_rounds_table : Stmt := top 41
abbrev s_p_table_of : Stmt := top 42
abbrev s_p_count_at : Stmt := top 43
abbrev s_p_need_total : Stmt := top 44
abbrev s_p_most_even : Stmt := top 45
abbrev s_p_greatest_count : Stmt := top 46
abbrev s_mixed : Stmt := top 48
abbrev s_begin : Stmt := top 49
abbrev s_draw : Stmt := top 50
abbrev s_of : Stmt := top 51
abbrev s_tuples : Stmt := top 52
abbrev s_rows : Stmt := top 53
abbrev s_meets : Stmt := top 54
abbrev s_joined : Stmt := top 55
abbrev s_trees : Stmt := top 56
abbrev s_listed : Stmt := top 57
abbrev s_ways : Stmt := top 58
abbrev s_power : Stmt := top 59
abbrev s_size : Stmt := top 60
abbrev s_weight : Stmt := top 61
abbrev s_letters : Stmt := top 62
abbrev s_names : Stmt := top 63
abbrev s_marks : Stmt := top 64
abbrev s_single : Stmt := top 65
abbrev s_any_sort : Stmt := top 66
abbrev s_fits : Stmt := top 67
abbrev s_sort : Stmt := top 68
abbrev s_like : Stmt := top 69
abbrev s_gathered : Stmt := top 70
abbrev s_by_sum : Stmt := top 71
abbrev s_at : Stmt := top 72
abbrev s_factorial : Stmt := top 73
abbrev s_listings : Stmt := top 74
abbrev s_even : Stmt := top 75
abbrev s_greatest : Stmt := top 76
abbrev s_shuffled : Stmt := top 77
abbrev s_law : Stmt := top 78
abbrev FnP (K : PySem.W.Frag) (x : Str) (st : Stmt) (f : Addr) (fd : FuncData) : Prop := FunD K x x (defArgs st) (defBody st) (defScope st) [] [] f fd
def d_p_is_from : He.DefD := ⟨("is_from", none), "is_from", "is_from", defArgs s_p_is_from, defBody s_p_is_from, defScope s_p_is_from, [], []⟩
def d_p_need_many : He.DefD := ⟨("need_many", none), "need_many", "need_many", defArgs s_p_need_many, defBody s_p_need_many, defScope s_p_need_many, [], []⟩
def d_p_part_places : He.DefD := ⟨("part_places", none), "part_places", "part_places", defArgs s_p_part_places, defBody s_p_part_places, defScope s_p_part_places, [], []⟩
def d_p_single : He.DefD := ⟨("single", none), "single", "single", defArgs s_p_single, defBody s_p_single, defScope s_p_single, [], []⟩
def d_p_walked : He.DefD := ⟨("walked", none), "walked", "walked", defArgs s_p_walked, defBody s_p_walked, defScope s_p_walked, [], []⟩
def d_p_marks_of : He.DefD := ⟨("marks_of", none), "marks_of", "marks_of", defArgs s_p_marks_of, defBody s_p_marks_of, defScope s_p_marks_of, [], []⟩
def d_p_width_of : He.DefD := ⟨("width_of", none), "width_of", "width_of", defArgs s_p_width_of, defBody s_p_width_of, defScope s_p_width_of, [], []⟩
def d_p_power : He.DefD := ⟨("power", none), "power", "power", defArgs s_p_power, defBody s_p_power, defScope s_p_power, [], []⟩
def d_p_choices : He.DefD := ⟨("choices", none), "choices", "choices", defArgs s_p_choices, defBody s_p_choices, defScope s_p_choices, [], []⟩
def d_p_bare_size : He.DefD := ⟨("bare_size", none), "bare_size", "bare_size", defArgs s_p_bare_size, defBody s_p_bare_size, defScope s_p_bare_size, [], []⟩
def d_p_size_of : He.DefD := ⟨("size_of", none), "size_of", "size_of", defArgs s_p_size_of, defBody s_p_size_of, defScope s_p_size_of, [], []⟩
def d_p_need_sort : He.DefD := ⟨("need_sort", none), "need_sort", "need_sort", defArgs s_p_need_sort, defBody s_p_need_sort, defScope s_p_need_sort, [], []⟩
def d_p_is_content : He.DefD := ⟨("is_content", none), "is_content", "is_content", defArgs s_p_is_content, defBody s_p_is_content, defScope s_p_is_content, [], []⟩
def d_p_need_content : He.DefD := ⟨("need_content", none), "need_content", "need_content", defArgs s_p_need_content, defBody s_p_need_content, defScope s_p_need_content, [], []⟩
def d_p_zero_table : He.DefD := ⟨("zero_table", none), "zero_table", "zero_table", defArgs s_p_zero_table, defBody s_p_zero_table, defScope s_p_zero_table, [], []⟩
def d_p_name_table : He.DefD := ⟨("name_table", none), "name_table", "name_table", defArgs s_p_name_table, defBody s_p_name_table, defScope s_p_name_table, [], []⟩
def d_p_added_tables : He.DefD := ⟨("added_tables", none), "added_tables", "added_tables", defArgs s_p_added_tables, defBody s_p_added_tables, defScope s_p_added_tables, [], []⟩
def d_p_joined_contents : He.DefD := ⟨("joined_contents", none), "joined_contents", "joined_contents", defArgs s_p_joined_contents, defBody s_p_joined_contents, defScope s_p_joined_contents, [], []⟩
def d_p_multiplied_tables : He.DefD := ⟨("multiplied_tables", none), "multiplied_tables", "multiplied_tables", defArgs s_p_multiplied_tables, defBody s_p_multiplied_tables, defScope s_p_multiplied_tables, [], []⟩
def d_p_powered_table : He.DefD := ⟨("powered_table", none), "powered_table", "powered_table", defArgs s_p_powered_table, defBody s_p_powered_table, defScope s_p_powered_table, [], []⟩
def d_p_binomial : He.DefD := ⟨("binomial", none), "binomial", "binomial", defArgs s_p_binomial, defBody s_p_binomial, defScope s_p_binomial, [], []⟩
def d_p_ways_to_take : He.DefD := ⟨("ways_to_take", none), "ways_to_take", "ways_to_take", defArgs s_p_ways_to_take, defBody s_p_ways_to_take, defScope s_p_ways_to_take, [], []⟩
def d_p_taken_further : He.DefD := ⟨("taken_further", none), "taken_further", "taken_further", defArgs s_p_taken_further, defBody s_p_taken_further, defScope s_p_taken_further, [], []⟩
def d_p_picked_table : He.DefD := ⟨("picked_table", none), "picked_table", "picked_table", defArgs s_p_picked_table, defBody s_p_picked_table, defScope s_p_picked_table, [], []⟩
def d_p_rounds_table : He.DefD := ⟨("rounds_table", none), "rounds_table", "rounds_table", defArgs s_p_rounds_table, defBody s_p_rounds_table, defScope s_p_rounds_table, [], []⟩
def d_p_table_of : He.DefD := ⟨("table_of", none), "table_of", "table_of", defArgs s_p_table_of, defBody s_p_table_of, defScope s_p_table_of, [], []⟩
def d_p_count_at : He.DefD := ⟨("count_at", none), "count_at", "count_at", defArgs s_p_count_at, defBody s_p_count_at, defScope s_p_count_at, [], []⟩
def d_p_need_total : He.DefD := ⟨("need_total", none), "need_total", "need_total", defArgs s_p_need_total, defBody s_p_need_total, defScope s_p_need_total, [], []⟩
def d_p_most_even : He.DefD := ⟨("most_even", none), "most_even", "most_even", defArgs s_p_most_even, defBody s_p_most_even, defScope s_p_most_even, [], []⟩
def d_p_greatest_count : He.DefD := ⟨("greatest_count", none), "greatest_count", "greatest_count", defArgs s_p_greatest_count, defBody s_p_greatest_count, defScope s_p_greatest_count, [], []⟩
def d_mixed : He.DefD := ⟨("_law_mixed", none), "_law_mixed", "_law_mixed", defArgs s_mixed, defBody s_mixed, defScope s_mixed, [], []⟩
def d_begin : He.DefD := ⟨("_law_begin", none), "_law_begin", "_law_begin", defArgs s_begin, defBody s_begin, defScope s_begin, [], []⟩
def d_draw : He.DefD := ⟨("_law_draw", none), "_law_draw", "_law_draw", defArgs s_draw, defBody s_draw, defScope s_draw, [], []⟩
def d_of : He.DefD := ⟨("_law_of", none), "_law_of", "_law_of", defArgs s_of, defBody s_of, defScope s_of, [], []⟩
def d_tuples : He.DefD := ⟨("_law_tuples", none), "_law_tuples", "_law_tuples", defArgs s_tuples, defBody s_tuples, defScope s_tuples, [], []⟩
def d_rows : He.DefD := ⟨("_law_rows", none), "_law_rows", "_law_rows", defArgs s_rows, defBody s_rows, defScope s_rows, [], []⟩
def d_meets : He.DefD := ⟨("_law_meets", none), "_law_meets", "_law_meets", defArgs s_meets, defBody s_meets, defScope s_meets, [], []⟩
def d_joined : He.DefD := ⟨("_law_joined", none), "_law_joined", "_law_joined", defArgs s_joined, defBody s_joined, defScope s_joined, [], []⟩
def d_trees : He.DefD := ⟨("_law_trees", none), "_law_trees", "_law_trees", defArgs s_trees, defBody s_trees, defScope s_trees, [], []⟩
def d_listed : He.DefD := ⟨("_law_listed", none), "_law_listed", "_law_listed", defArgs s_listed, defBody s_listed, defScope s_listed, [], []⟩
def d_ways : He.DefD := ⟨("_law_ways", none), "_law_ways", "_law_ways", defArgs s_ways, defBody s_ways, defScope s_ways, [], []⟩
def d_power : He.DefD := ⟨("_law_power", none), "_law_power", "_law_power", defArgs s_power, defBody s_power, defScope s_power, [], []⟩
def d_size : He.DefD := ⟨("_law_size", none), "_law_size", "_law_size", defArgs s_size, defBody s_size, defScope s_size, [], []⟩
def d_weight : He.DefD := ⟨("_law_weight", none), "_law_weight", "_law_weight", defArgs s_weight, defBody s_weight, defScope s_weight, [], []⟩
def d_letters : He.DefD := ⟨("_law_letters", none), "_law_letters", "_law_letters", defArgs s_letters, defBody s_letters, defScope s_letters, [], []⟩
def d_names : He.DefD := ⟨("_law_names", none), "_law_names", "_law_names", defArgs s_names, defBody s_names, defScope s_names, [], []⟩
def d_marks : He.DefD := ⟨("_law_marks", none), "_law_marks", "_law_marks", defArgs s_marks, defBody s_marks, defScope s_marks, [], []⟩
def d_single : He.DefD := ⟨("_law_single", none), "_law_single", "_law_single", defArgs s_single, defBody s_single, defScope s_single, [], []⟩
def d_any_sort : He.DefD := ⟨("_law_any_sort", none), "_law_any_sort", "_law_any_sort", defArgs s_any_sort, defBody s_any_sort, defScope s_any_sort, [], []⟩
def d_fits : He.DefD := ⟨("_law_fits", none), "_law_fits", "_law_fits", defArgs s_fits, defBody s_fits, defScope s_fits, [], []⟩
def d_sort : He.DefD := ⟨("_law_sort", none), "_law_sort", "_law_sort", defArgs s_sort, defBody s_sort, defScope s_sort, [], []⟩
def d_like : He.DefD := ⟨("_law_like", none), "_law_like", "_law_like", defArgs s_like, defBody s_like, defScope s_like, [], []⟩
def d_gathered : He.DefD := ⟨("_law_gathered", none), "_law_gathered", "_law_gathered", defArgs s_gathered, defBody s_gathered, defScope s_gathered, [], []⟩
def d_by_sum : He.DefD := ⟨("_law_by_sum", none), "_law_by_sum", "_law_by_sum", defArgs s_by_sum, defBody s_by_sum, defScope s_by_sum, [], []⟩
def d_at : He.DefD := ⟨("_law_at", none), "_law_at", "_law_at", defArgs s_at, defBody s_at, defScope s_at, [], []⟩
def d_factorial : He.DefD := ⟨("_law_factorial", none), "_law_factorial", "_law_factorial", defArgs s_factorial, defBody s_factorial, defScope s_factorial, [], []⟩
def d_listings : He.DefD := ⟨("_law_listings", none), "_law_listings", "_law_listings", defArgs s_listings, defBody s_listings, defScope s_listings, [], []⟩
def d_even : He.DefD := ⟨("_law_even", none), "_law_even", "_law_even", defArgs s_even, defBody s_even, defScope s_even, [], []⟩
def d_greatest : He.DefD := ⟨("_law_greatest", none), "_law_greatest", "_law_greatest", defArgs s_greatest, defBody s_greatest, defScope s_greatest, [], []⟩
def d_shuffled : He.DefD := ⟨("_law_shuffled", none), "_law_shuffled", "_law_shuffled", defArgs s_shuffled, defBody s_shuffled, defScope s_shuffled, [], []⟩
def d_law : He.DefD := ⟨("law", none), "law", "law", defArgs s_law, defBody s_law, defScope s_law, [], []⟩
def fn : List He.DefD := [d_p_is_from, d_p_need_many, d_p_part_places, d_p_single, d_p_walked, d_p_marks_of, d_p_width_of, d_p_power, d_p_choices, d_p_bare_size, d_p_size_of, d_p_need_sort, d_p_is_content, d_p_need_content, d_p_zero_table, d_p_name_table, d_p_added_tables, d_p_joined_contents, d_p_multiplied_tables, d_p_powered_table, d_p_binomial, d_p_ways_to_take, d_p_taken_further, d_p_picked_table, d_p_rounds_table, d_p_table_of, d_p_count_at, d_p_need_total, d_p_most_even, d_p_greatest_count, d_mixed, d_begin, d_draw, d_of, d_tuples, d_rows, d_meets, d_joined, d_trees, d_listed, d_ways, d_power, d_size, d_weight, d_letters, d_names, d_marks, d_single, d_any_sort, d_fits, d_sort, d_like, d_gathered, d_by_sum, d_at, d_factorial, d_listings, d_even, d_greatest, d_shuffled, d_law]
def fa : List He.Fa := [.glo "is_from", .glo "need_many", .glo "part_places", .glo "single", .glo "walked", .glo "marks_of", .glo "width_of", .glo "power", .glo "choices", .glo "bare_size", .glo "size_of", .glo "need_sort", .glo "is_content", .glo "need_content", .glo "zero_table", .glo "name_table", .glo "added_tables", .glo "joined_contents", .glo "multiplied_tables", .glo "powered_table", .glo "binomial", .glo "ways_to_take", .glo "taken_further", .glo "picked_table", .glo "rounds_table", .glo "table_of", .glo "count_at", .glo "need_total", .glo "most_even", .glo "greatest_count", .glo "_law_mixed", .glo "_law_begin", .glo "_law_draw", .glo "_law_of", .glo "_law_tuples", .glo "_law_rows", .glo "_law_meets", .glo "_law_joined", .glo "_law_trees", .glo "_law_listed", .glo "_law_ways", .glo "_law_power", .glo "_law_size", .glo "_law_weight", .glo "_law_letters", .glo "_law_names", .glo "_law_marks", .glo "_law_single", .glo "_law_any_sort", .glo "_law_fits", .glo "_law_sort", .glo "_law_like", .glo "_law_gathered", .glo "_law_by_sum", .glo "_law_at", .glo "_law_factorial", .glo "_law_listings", .glo "_law_even", .glo "_law_greatest", .glo "_law_shuffled", .glo "law", .int "MOST_DEEP" 10, .int "MOST_PARTS" 60, .int "MOST_MARKS" 12, .int "MOST_WIDTH" 40, .int "MOST_MEMBERS" 1000000000000000000000000000000, .int "MOST_NUMBER" 12, .int "MOST_OF_A_NAME" 24, .free "bool", .free "divmod", .free "int", .free "isinstance", .free "len", .free "list", .free "max", .free "range", .free "repr", .free "sorted", .free "str", .free "sum", .free "tuple"]
abbrev R : PySem.W.OpenRow := PySem.W.OpenLaw.row PySem.Challenge.rw_unithouse_k26_whole_most_even
abbrev hk : PySem.W.Hook := He.hookD 4 fa fn
def ob (s : PySem.W.SharedT) : He.AlD := He.obsDG 4 fa fn (HandSHeadRun.getT s)
theorem ob_eq (s : PySem.W.SharedT) : ob s = hk.obs s.abs := He.obsDG_eq (HandSHeadRun.getT_eq s)
def loose0 : List PySem.Str := ["is_from", "need_many", "part_places", "single", "walked", "marks_of", "width_of", "power", "choices", "bare_size", "size_of", "need_sort", "is_content", "need_content", "zero_table", "name_table", "added_tables", "joined_contents", "multiplied_tables", "powered_table", "binomial", "ways_to_take", "taken_further", "picked_table", "rounds_table", "table_of", "count_at", "need_total", "most_even", "greatest_count"]
def loose1 : List PySem.Str := ["_law_mixed", "_law_begin", "_law_draw", "_law_of", "_law_tuples", "_law_rows", "_law_meets", "_law_joined", "_law_trees", "_law_listed", "_law_ways", "_law_power", "_law_size", "_law_weight", "_law_letters", "_law_names", "_law_marks", "_law_single", "_law_any_sort", "_law_fits", "_law_sort", "_law_like", "_law_gathered", "_law_by_sum", "_law_at", "_law_factorial", "_law_listings", "_law_even", "_law_greatest", "_law_shuffled"]
def loose2 : List PySem.Str := ["MOST_DEEP", "MOST_PARTS", "MOST_MARKS", "MOST_WIDTH", "MOST_MEMBERS", "MOST_NUMBER", "MOST_OF_A_NAME", "UnitError", "BadMany", "BadSort", "TooGreat", "BadContent", "BadTotal"]
def loose : List PySem.Str := loose0 ++ loose1 ++ loose2
theorem run (w : World) : HandSHeadRun.RunEq R (PySem.W.view R.prog [78]) hk ob 6000 loose w := by
  intro os
  kernel_rfl
end ME
end
section
set_option Elab.async false
set_option linter.all false
set_option maxRecDepth 100000
set_option maxHeartbeats 4000000
/-! A calculus over abstract data: what a slot holds (shared data, or an object of the def's own), expressions and statements by what must hold behind them. -/
namespace MW
open PySem L2

/-! ### data -/
inductive D where
  | non | bl (b : Bool) | int (i : Int) | str (x : Str) | lst (l : List D) | tup (l : List D)
  | tab (t : List (List Int × Int)) | tik (t : List (Int × Int)) | scr (ns : List Int) | adr (a : Addr)
abbrev Tab := List (List Int × Int)
abbrev TabI := List (Int × Int)
abbrev D.ints (c : List Int) : D := .tup (c.map .int)
def emb (t : Tab) : List (List Key × V) := t.map fun p => (p.1.map Sum.inl, V.int p.2)
def embI (t : TabI) : List (Key × V) := t.map fun p => (Sum.inl p.1, V.int p.2)
mutual
inductive Is (K : PySem.W.Frag) (H : Hp) : V → D → Prop
  | non : Is K H .non .non
  | bl (b : Bool) : Is K H (.bl b) (.bl b)
  | int (i : Int) : Is K H (.int i) (.int i)
  | str (x : Str) : Is K H (.str x) (.str x)
  | lst {a : Addr} {xs : List V} {ds : List D} : H a = some (.lst xs) → IsA K H xs ds → Is K H (.ref a) (.lst ds)
  | tup {a : Addr} {xs : List V} {ds : List D} : H a = some (.tup xs) → IsA K H xs ds → Is K H (.ref a) (.tup ds)
  | tab {a : Addr} {t : Tab} : Rd H a (.dT (emb t)) → Is K H (.ref a) (.tab t)
  | tik {a : Addr} {t : TabI} : H a = some (.dK (embI t)) → Is K H (.ref a) (.tik t)
  | scr {a : Addr} {ns : List Int} : SqL K H a (ns.map V.int) → Is K H (.ref a) (.scr ns)
  | adr (a : Addr) : Is K H (.ref a) (.adr a)
inductive IsA (K : PySem.W.Frag) (H : Hp) : List V → List D → Prop
  | nil : IsA K H [] []
  | cons {v : V} {vs : List V} {d : D} {ds : List D} : Is K H v d → IsA K H vs ds → IsA K H (v :: vs) (d :: ds)
end
/-- what data lean on is kept -/
structure Gx (K : PySem.W.Frag) (H H' : Hp) : Prop where
  tup : ∀ a xs, H a = some (.tup xs) → H' a = some (.tup xs)
  lst : ∀ a xs, H a = some (.lst xs) → H' a = some (.lst xs)
  tab : ∀ a t, Rd H a (.dT t) → Rd H' a (.dT t)
  tik : ∀ a t, H a = some (.dK t) → H' a = some (.dK t)
  scr : ∀ a xs, SqL K H a xs → SqL K H' a xs
section
variable {K : PySem.W.Frag} {H H' H1 H2 Hs Hs' : Hp} {v : V} {d : D} {vs xs ys : List V} {ds es : List D} {a b p : Addr} {o u : HO}
theorem Gx.of (s : Same H H') : Gx K H H' :=
  ⟨fun a xs h => s a _ h, fun a xs h => s a _ h, fun a t h => h.elim (fun h => .inl (s a _ h)) fun ⟨o, h⟩ => .inr ⟨o, s a _ h⟩, fun a t h => s a _ h, fun a xs h => s.seq h⟩
mutual
theorem Is.mono (g : Gx K H H') : ∀ (d : D) (v : V), Is K H v d → Is K H' v d
  | .non, _, h => by cases h; exact .non
  | .bl b, _, h => by cases h; exact .bl b
  | .int i, _, h => by cases h; exact .int i
  | .str x, _, h => by cases h; exact .str x
  | .lst l, _, h => by cases h with | lst h1 h2 => exact .lst (g.lst _ _ h1) (IsA.mono g l _ h2)
  | .tup l, _, h => by cases h with | tup h1 h2 => exact .tup (g.tup _ _ h1) (IsA.mono g l _ h2)
  | .tab t, _, h => by cases h with | tab h1 => exact .tab (g.tab _ _ h1)
  | .tik t, _, h => by cases h with | tik h1 => exact .tik (g.tik _ _ h1)
  | .scr t, _, h => by cases h with | scr h1 => exact .scr (g.scr _ _ h1)
  | .adr _, _, h => by cases h; exact .adr _
theorem IsA.mono (g : Gx K H H') : ∀ (ds : List D) (vs : List V), IsA K H vs ds → IsA K H' vs ds
  | [], _, h => by cases h; exact .nil
  | d :: ds, _, h => by cases h with | cons h1 h2 => exact .cons (Is.mono g d _ h1) (IsA.mono g ds _ h2)
end
theorem Is.to (s : Same H H') (h : Is K H v d) : Is K H' v d := h.mono (Gx.of s)
theorem IsA.to (s : Same H H') (h : IsA K H vs ds) : IsA K H' vs ds := h.mono (Gx.of s)
theorem IsA.length : ∀ {vs : List V} {ds : List D}, IsA K H vs ds → vs.length = ds.length
  | _, _, .nil => rfl
  | _, _, .cons _ t => congrArg Nat.succ (IsA.length t)
theorem IsA.get : ∀ {vs : List V} {ds : List D} {i : Nat} {d : D}, IsA K H vs ds → ds[i]? = some d → ∃ v, vs[i]? = some v ∧ Is K H v d
  | _, _, _, _, .nil, e => by simp at e
  | _, _, 0, _, .cons r _, e => by simp at e; subst e; exact ⟨_, rfl, r⟩
  | _, _, i + 1, d, .cons _ t, e => by
    obtain ⟨u, h1, h2⟩ := IsA.get (i := i) (d := d) t (by simpa using e)
    exact ⟨u, by simpa using h1, h2⟩
theorem IsA.getV : ∀ {vs : List V} {ds : List D} {i : Nat} {v : V}, IsA K H vs ds → vs[i]? = some v → ∃ d, ds[i]? = some d ∧ Is K H v d
  | _, _, _, _, .nil, e => by simp at e
  | _, _, 0, _, .cons r _, e => by simp at e; subst e; exact ⟨_, rfl, r⟩
  | _, _, i + 1, d, .cons _ t, e => by
    obtain ⟨u, h1, h2⟩ := IsA.getV (i := i) (v := d) t (by simpa using e)
    exact ⟨u, by simpa using h1, h2⟩
theorem IsA.append : ∀ {vs xs : List V} {ds es : List D}, IsA K H vs ds → IsA K H xs es → IsA K H (vs ++ xs) (ds ++ es)
  | _, _, _, _, .nil, s => s
  | _, _, _, _, .cons r t, s => .cons r (IsA.append t s)
theorem IsA.one (h : Is K H v d) : IsA K H [v] [d] := .cons h .nil
theorem IsA.set (r : Is K H v d) : ∀ {xs : List V} {ds : List D} (i : Nat), IsA K H xs ds → IsA K H (xs.set i v) (ds.set i d)
  | _, _, _, .nil => .nil
  | _, _, 0, .cons _ t => .cons r t
  | _, _, i + 1, .cons q t => .cons q (IsA.set r i t)
theorem IsA.take : ∀ {xs : List V} {ds : List D} (n : Nat), IsA K H xs ds → IsA K H (xs.take n) (ds.take n)
  | _, _, 0, _ => .nil
  | _, _, _ + 1, .nil => .nil
  | _, _, n + 1, .cons r t => .cons r (IsA.take n t)
theorem IsA.drop : ∀ {xs : List V} {ds : List D} (n : Nat), IsA K H xs ds → IsA K H (xs.drop n) (ds.drop n)
  | _, _, 0, r => r
  | _, _, _ + 1, .nil => .nil
  | _, _, n + 1, .cons _ t => IsA.drop n t
theorem IsA.ints : ∀ (c : List Int), IsA K H (c.map V.int) (c.map D.int)
  | [] => .nil
  | i :: c => .cons (.int i) (IsA.ints c)
theorem IsA.of_ints : ∀ {c : List Int} {xs : List V}, IsA K H xs (c.map D.int) → xs = c.map V.int
  | [], _, h => by cases h; rfl
  | i :: c, _, h => by
    cases h with
    | cons h1 h2 =>
      cases h1
      rw [IsA.of_ints h2, List.map_cons]
theorem IsA.eraseIdx : ∀ {xs : List V} {ds : List D} (n : Nat), IsA K H xs ds → IsA K H (xs.eraseIdx n) (ds.eraseIdx n)
  | _, _, _, .nil => .nil
  | _, _, 0, .cons _ t => t
  | _, _, n + 1, .cons r t => .cons r (IsA.eraseIdx n t)
theorem Same.new {H : Hp} {p : Addr} {o : HO} (h : H p = none) : Same H (upd H p o) := fun b u e => by rw [upd_ne (ne_of_none e h)]; exact e
/-- an object that H does not know may change -/
theorem Same.mut {H H' : Hp} {p : Addr} {o : HO} (e : Same H H') (h : H p = none) : Same H (upd H' p o) := fun a u ha => by rw [upd_ne (ne_of_none ha h)]; exact e a u ha
end

/-! ### the state of the law's draws -/
structure StA where
  st : Addr
  cs : Addr
  lf : Addr
def StOk (Hs H : Hp) (s : StA) (m : Nat) : Prop := ∃ (c l : List Int) (k : Int),
  H s.st = some (.dK [(Sum.inr "cells", .ref s.cs), (Sum.inr "lefts", .ref s.lf), (Sum.inr "at", .int k)]) ∧ Hs s.cs = some (.lst (c.map V.int)) ∧ H s.lf = some (.lst (l.map V.int)) ∧
  c.length = l.length ∧ 0 < l.length ∧ l.length ≤ 63 ∧ (∀ x ∈ l, 0 ≤ x) ∧ l.length = m % 64 ∧ k = ((m / 64 : Nat) : Int)
/-! ### what is kept through a def -/
structure Bs where
  H0 : Hp
  F : Addr → Prop
  st : Option StA
inductive Sl where
  | any | sh (d : D) | lst (ds : List D) | dic (t : Tab) | dik (t : TabI) | sta
def Sl.own : Sl → Bool
  | .lst _ => true
  | .dic _ => true
  | .dik _ => true
  | _ => false
def Own (B : Bs) (Hs : Hp) (p : Addr) : Prop := B.H0 p = none ∧ Hs p = none ∧ ¬ B.F p
def SlOk (K : PySem.W.Frag) (B : Bs) (Hs H : Hp) (x : Option V) : Sl → Prop
  | .any => True
  | .sh d => ∃ v, x = some v ∧ Is K Hs v d
  | .lst ds => ∃ p xs, x = some (.ref p) ∧ Own B Hs p ∧ H p = some (.lst xs) ∧ IsA K Hs xs ds
  | .dic t => ∃ p, x = some (.ref p) ∧ Own B Hs p ∧ H p = some (.dT (emb t))
  | .dik t => ∃ p, x = some (.ref p) ∧ Own B Hs p ∧ H p = some (.dK (embI t))
  | .sta => ∃ s, B.st = some s ∧ x = some (.ref s.st)
/-- something that is no tuple -/
def NoTup (x : Option HO) : Prop := ∃ o, x = some o ∧ ∀ xs, o ≠ .tup xs
structure Rep (K : PySem.W.Frag) (B : Bs) (Hs H : Hp) (σ : St) (m : Nat) (env : List Sl) : Prop where
  base : Same B.H0 H
  sub : Same Hs H
  fa : ∀ a, B.F a → Hs a = none
  fb : ∀ a, B.F a → NoTup (H a)
  len : σ.length = env.length
  sl : ∀ (i : Nat) (o : Sl), env[i]? = some o → SlOk K B Hs H (σ[i]?.getD none) o
  ap : ∀ (i j : Nat) (p : Addr) (oi oj : Sl), env[i]? = some oi → env[j]? = some oj → oi.own = true → oj.own = true → σ[i]? = some (some (.ref p)) → σ[j]? = some (some (.ref p)) → i = j
  stt : ∀ s, B.st = some s → StOk Hs H s m ∧ B.H0 s.st = none ∧ B.H0 s.lf = none ∧ B.F s.st ∧ B.F s.lf

section
variable {K : PySem.W.Frag} {B B' : Bs} {Hs Hs' H H' : Hp} {σ σ' : St} {m m' : Nat} {env env' : List Sl} {i j : Nat} {p q : Addr} {o : HO} {d : D} {ds : List D} {x : Option V} {v : V} {xs : List V} {sl sl' : Sl}
theorem getD_of {σ : St} {i : Nat} {v : V} (h : σ[i]?.getD none = some v) : σ[i]? = some (some v) := by
  cases e : σ[i]? with
  | none => rw [e] at h; cases h
  | some z => rw [e] at h; exact congrArg some h
theorem of_getD {σ : St} {i : Nat} {v : V} (h : σ[i]? = some (some v)) : σ[i]?.getD none = some v := by rw [h]; rfl
theorem SlOk.own_at (h : SlOk K B Hs H x sl) (ho : sl.own = true) : ∃ p ob, x = some (.ref p) ∧ Own B Hs p ∧ H p = some ob ∧ ∀ xs, ob ≠ .tup xs := by
  cases sl with
  | lst ds => obtain ⟨p, xs, e, w, h, _⟩ := h; exact ⟨p, _, e, w, h, fun _ z => by cases z⟩
  | dic t => obtain ⟨p, e, w, h⟩ := h; exact ⟨p, _, e, w, h, fun _ z => by cases z⟩
  | dik t => obtain ⟨p, e, w, h⟩ := h; exact ⟨p, _, e, w, h, fun _ z => by cases z⟩
  | _ => cases ho
theorem StOk.to (h : StOk Hs H s m) (hs : Same Hs Hs') (h1 : ∀ u, H s.st = some u → H' s.st = some u) (h2 : ∀ u, H s.lf = some u → H' s.lf = some u) (hm : m ≤ m) : StOk Hs' H' s m := by
  obtain ⟨c, l, k, e1, e2, e3, a, b, b2, c1, c2, c3⟩ := h
  exact ⟨c, l, k, h1 _ e1, hs _ _ e2, h2 _ e3, a, b, b2, c1, c2, c3⟩
/-- all that stood stands; what is shared grows by new objects alone -/
theorem Rep.ext (r : Rep K B Hs H σ m env) (s : Same H H') (hs : Same Hs Hs') (sub : Same Hs' H') (ow : ∀ a, NoTup (H a) → Hs a = none → Hs' a = none) : Rep K B Hs' H' σ m env := by
  have own : ∀ p, NoTup (H p) → Own B Hs p → Own B Hs' p := fun p hp w => ⟨w.1, ow p hp w.2.1, w.2.2⟩
  refine ⟨fun b u e => s b u (r.base b u e), sub, fun a h => ow a (r.fb a h) (r.fa a h), fun a h => ?_, r.len, fun i o e => ?_, r.ap, fun s' e => ?_⟩
  · obtain ⟨o, e, n⟩ := r.fb a h
    exact ⟨o, s a o e, n⟩
  · have q := r.sl i o e
    cases o with
    | any => trivial
    | sh d => obtain ⟨v, e1, h⟩ := q; exact ⟨v, e1, h.to hs⟩
    | lst ds => obtain ⟨p, xs, e1, w, h, g⟩ := q; exact ⟨p, xs, e1, own p ⟨_, h, fun _ z => by cases z⟩ w, s p _ h, g.to hs⟩
    | dic t => obtain ⟨p, e1, w, h⟩ := q; exact ⟨p, e1, own p ⟨_, h, fun _ z => by cases z⟩ w, s p _ h⟩
    | dik t => obtain ⟨p, e1, w, h⟩ := q; exact ⟨p, e1, own p ⟨_, h, fun _ z => by cases z⟩ w, s p _ h⟩
    | sta => exact q
  · obtain ⟨a, b⟩ := r.stt s' e
    exact ⟨a.to hs (fun u z => s _ u z) (fun u z => s _ u z) (Nat.le_refl _), b⟩
/-- a new object that is shared; one that is not -/
theorem Rep.newS (r : Rep K B Hs H σ m env) (hp : H p = none) (o : HO) : Rep K B (upd Hs p o) (upd H p o) σ m env ∧ Same Hs (upd Hs p o) ∧ Hs p = none := by
  have hq : Hs p = none := by
    cases e : Hs p with
    | none => rfl
    | some u => rw [r.sub p u e] at hp; cases hp
  refine ⟨r.ext (Same.new hp) (Same.new hq) (fun b u e => ?_) (fun a h1 h2 => ?_), Same.new hq, hq⟩
  · by_cases hb : b = p
    · subst hb; rw [upd_same] at e ⊢; exact e
    · rw [upd_ne hb] at e ⊢; exact r.sub b u e
  · by_cases hb : a = p
    · subst hb
      obtain ⟨o, e, _⟩ := h1
      rw [hp] at e; cases e
    · rw [upd_ne hb]; exact h2
theorem Rep.new0 (r : Rep K B Hs H σ m env) (hp : H p = none) (o : HO) : Rep K B Hs (upd H p o) σ m env := r.ext (Same.new hp) (Same.refl _) (fun b u e => Same.new hp b u (r.sub b u e)) fun a _ h => h
theorem Rep.freshS (r : Rep K B Hs H σ m env) (hp : H p = none) : Hs p = none := by
  cases e : Hs p with
  | none => rfl
  | some u => rw [r.sub p u e] at hp; cases hp
/-- p is new to all slots -/
def Apart (σ : St) (env : List Sl) (p : Addr) : Prop := ∀ (i : Nat) (o : Sl), env[i]? = some o → o.own = true → σ[i]? ≠ some (some (.ref p))
theorem Rep.fresh (r : Rep K B Hs H σ m env) (hp : H p = none) : Own B Hs p ∧ Apart σ env p := by
  refine ⟨⟨?_, r.freshS hp, fun z => ?_⟩, fun i o e ho z => ?_⟩
  · cases e : B.H0 p with
    | none => rfl
    | some u => rw [r.base p u e] at hp; cases hp
  · obtain ⟨o, e, _⟩ := r.fb p z
    rw [hp] at e; cases e
  · obtain ⟨p', ob, e1, _, h, _⟩ := (r.sl i o e).own_at ho
    rw [of_getD z] at e1
    cases e1
    rw [h] at hp; cases hp
/-- a slot is stored -/
theorem Rep.store (r : Rep K B Hs H σ m env) (i : Nat) (v : V) (o : Sl) (ho : SlOk K B Hs H (some v) o) (hap : o.own = true → ∀ p, v = .ref p → Apart σ env p) : Rep K B Hs H (σ.set i (some v)) m (env.set i o) := by
  refine ⟨r.base, r.sub, r.fa, r.fb, by rw [List.length_set, List.length_set, r.len], fun j oj e => ?_, fun j k p oj ok e1 e2 h1 h2 g1 g2 => ?_, r.stt⟩
  · rw [List.getElem?_set] at e
    by_cases hij : i = j
    · subst hij
      by_cases hl : i < env.length
      · rw [if_pos rfl, if_pos hl] at e
        cases e
        rw [List.getElem?_set_self (by rw [r.len]; exact hl)]
        exact ho
      · rw [if_pos rfl, if_neg hl] at e; cases e
    · rw [if_neg hij] at e
      rw [List.getElem?_set_ne hij]
      exact r.sl j oj e
  · rw [List.getElem?_set] at e1 e2 g1 g2
    by_cases hij : i = j
    · subst hij
      by_cases hik : i = k
      · exact hik
      · rw [if_neg hik] at e2 g2
        rw [if_pos rfl] at e1 g1
        split at e1
        · cases e1
          split at g1
          · cases g1
            exact absurd g2 (hap h1 p rfl k ok e2 h2)
          · cases g1
        · cases e1
    · by_cases hik : i = k
      · subst hik
        rw [if_neg hij] at e1 g1
        rw [if_pos rfl] at e2 g2
        split at e2
        · cases e2
          split at g2
          · cases g2
            exact absurd g1 (hap h2 p rfl j oj e1 h1)
          · cases g2
        · cases e2
      · rw [if_neg hij] at e1 g1
        rw [if_neg hik] at e2 g2
        exact r.ap j k p oj ok e1 e2 h1 h2 g1 g2
/-- an object of our own is written -/
theorem Rep.write (r : Rep K B Hs H σ m env) (he : env[i]? = some sl) (ho : sl.own = true) (hv : σ[i]? = some (some (.ref p))) (o : HO) (sl' : Sl) (ho' : sl'.own = true)
    (h : Own B Hs p → SlOk K B Hs (upd H p o) (some (.ref p)) sl') : Rep K B Hs (upd H p o) σ m (env.set i sl') := by
  obtain ⟨p', ob, e1, w, hp, _⟩ := (r.sl i sl he).own_at ho
  rw [of_getD hv] at e1
  cases e1
  obtain ⟨p3, ob3, e3, _, h3, n3⟩ := (h w).own_at ho'
  cases e3
  have nst : ∀ s, B.st = some s → s.st ≠ p ∧ s.lf ≠ p := fun s e => by
    obtain ⟨_, _, _, f1, f2⟩ := r.stt s e
    exact ⟨fun z => w.2.2 (z ▸ f1), fun z => w.2.2 (z ▸ f2)⟩
  refine ⟨Same.mut r.base w.1, Same.mut r.sub w.2.1, r.fa, fun a h => ?_, by rw [List.length_set, r.len], fun j oj e => ?_, fun j k q oj ok e1 e2 h1 h2 g1 g2 => ?_, fun s e => ?_⟩
  · by_cases hb : a = p
    · subst hb; exact ⟨ob3, h3, n3⟩
    · rw [upd_ne hb]; exact r.fb a h
  · rw [List.getElem?_set] at e
    by_cases hij : i = j
    · subst hij
      rw [if_pos rfl] at e
      split at e
      · cases e
        rw [of_getD hv]
        exact h w
      · cases e
    · rw [if_neg hij] at e
      have q := r.sl j oj e
      cases oj with
      | any => trivial
      | sh d => exact q
      | lst ds =>
        obtain ⟨p2, xs, e1, w2, h2, g⟩ := q
        refine ⟨p2, xs, e1, w2, ?_, g⟩
        rw [upd_ne]
        · exact h2
        · rintro rfl
          exact hij (r.ap i j p2 sl _ he e ho rfl hv (getD_of e1))
      | dic t =>
        obtain ⟨p2, e1, w2, h2⟩ := q
        refine ⟨p2, e1, w2, ?_⟩
        rw [upd_ne]
        · exact h2
        · rintro rfl
          exact hij (r.ap i j p2 sl _ he e ho rfl hv (getD_of e1))
      | dik t =>
        obtain ⟨p2, e1, w2, h2⟩ := q
        refine ⟨p2, e1, w2, ?_⟩
        rw [upd_ne]
        · exact h2
        · rintro rfl
          exact hij (r.ap i j p2 sl _ he e ho rfl hv (getD_of e1))
      | sta => exact q
  · have back : ∀ (n : Nat) (on : Sl), (env.set i sl')[n]? = some on → on.own = true → ∃ on', env[n]? = some on' ∧ on'.own = true := fun n on e h => by
      rw [List.getElem?_set] at e
      by_cases hin : i = n
      · subst hin; exact ⟨sl, he, ho⟩
      · rw [if_neg hin] at e; exact ⟨on, e, h⟩
    obtain ⟨oj', e1', h1'⟩ := back j oj e1 h1
    obtain ⟨ok', e2', h2'⟩ := back k ok e2 h2
    exact r.ap j k q oj' ok' e1' e2' h1' h2' g1 g2
  · obtain ⟨a, b⟩ := r.stt s e
    exact ⟨a.to (Same.refl _) (fun u z => by rw [upd_ne (nst s e).1]; exact z) (fun u z => by rw [upd_ne (nst s e).2]; exact z) (Nat.le_refl _), b⟩
/-- what is our own becomes shared -/
theorem Rep.give (r : Rep K B Hs H σ m env) (he : env[i]? = some sl) (ho : sl.own = true) (hv : σ[i]? = some (some (.ref p))) (hp : H p = some o) (d : D) (hd : Is K (upd Hs p o) (.ref p) d) :
    Rep K B (upd Hs p o) H σ m (env.set i (.sh d)) ∧ Same Hs (upd Hs p o) := by
  obtain ⟨p', ob, e1, w, _, _⟩ := (r.sl i sl he).own_at ho
  rw [of_getD hv] at e1
  cases e1
  have hs : Same Hs (upd Hs p o) := Same.new w.2.1
  have own : ∀ q, q ≠ p → Own B Hs q → Own B (upd Hs p o) q := fun q n w => ⟨w.1, by rw [upd_ne n]; exact w.2.1, w.2.2⟩
  refine ⟨⟨r.base, fun b u e => ?_, fun a h => ?_, r.fb, by rw [List.length_set, r.len], fun j oj e => ?_, fun j k q oj ok e1 e2 h1 h2 g1 g2 => ?_, fun s e => ?_⟩, hs⟩
  · by_cases hb : b = p
    · subst hb; rw [upd_same] at e; rw [hp]; exact e
    · rw [upd_ne hb] at e; exact r.sub b u e
  · by_cases hb : a = p
    · subst hb; exact absurd h w.2.2
    · rw [upd_ne hb]; exact r.fa a h
  · rw [List.getElem?_set] at e
    by_cases hij : i = j
    · subst hij
      rw [if_pos rfl] at e
      split at e
      · cases e
        rw [of_getD hv]
        exact ⟨_, rfl, hd⟩
      · cases e
    · rw [if_neg hij] at e
      have q := r.sl j oj e
      have ne : ∀ p2, oj.own = true → σ[j]?.getD none = some (.ref p2) → p2 ≠ p := fun p2 h e1 z => by
        subst z
        exact hij (r.ap i j p2 sl _ he e ho h hv (getD_of e1))
      cases oj with
      | any => trivial
      | sh d => obtain ⟨v, e1, h⟩ := q; exact ⟨v, e1, h.to hs⟩
      | lst ds => obtain ⟨p2, xs, e1, w2, h2, g⟩ := q; exact ⟨p2, xs, e1, own p2 (ne p2 rfl e1) w2, h2, g.to hs⟩
      | dic t => obtain ⟨p2, e1, w2, h2⟩ := q; exact ⟨p2, e1, own p2 (ne p2 rfl e1) w2, h2⟩
      | dik t => obtain ⟨p2, e1, w2, h2⟩ := q; exact ⟨p2, e1, own p2 (ne p2 rfl e1) w2, h2⟩
      | sta => exact q
  · rw [List.getElem?_set] at e1 e2
    by_cases hij : i = j
    · rw [if_pos hij] at e1
      split at e1
      · cases e1; cases h1
      · cases e1
    · by_cases hik : i = k
      · rw [if_pos hik] at e2
        split at e2
        · cases e2; cases h2
        · cases e2
      · rw [if_neg hij] at e1
        rw [if_neg hik] at e2
        exact r.ap j k q oj ok e1 e2 h1 h2 g1 g2
  · obtain ⟨a, b⟩ := r.stt s e
    exact ⟨a.to hs (fun u z => z) (fun u z => z) (Nat.le_refl _), b⟩
/-- some slots are forgotten -/
theorem Rep.slots (r : Rep K B Hs H σ m env) : Rep K B Hs H [] m [] := ⟨r.base, r.sub, r.fa, r.fb, rfl, fun i o e => by simp at e, fun i j p oi oj e => by simp at e, r.stt⟩
/-- a tuple that stands is shared -/
theorem Rep.addT (r : Rep K B Hs H σ m env) {xs : List V} (h : H q = some (.tup xs)) : ∃ Hs', Same Hs Hs' ∧ Rep K B Hs' H σ m env ∧ Hs' q = some (.tup xs) := by
  cases e : Hs q with
  | some u =>
    refine ⟨Hs, Same.refl _, r, ?_⟩
    rw [e, ← r.sub q u e, h]
  | none =>
    refine ⟨upd Hs q (.tup xs), Same.new e, r.ext (Same.refl _) (Same.new e) (fun b u e => ?_) (fun a h1 h2 => ?_), upd_same⟩
    · by_cases hb : b = q
      · subst hb; rw [upd_same] at e; rw [h]; exact e
      · rw [upd_ne hb] at e; exact r.sub b u e
    · by_cases hb : a = q
      · subst hb
        obtain ⟨o, e1, n⟩ := h1
        rw [h] at e1
        cases e1
        exact absurd rfl (n xs)
      · rw [upd_ne hb]; exact h2
end
end MW
end
section
set_option Elab.async false
set_option linter.all false
set_option maxRecDepth 100000
set_option maxHeartbeats 4000000
namespace MW
open PySem L2

/-! ### the judgements -/
def WE (K : PySem.W.Frag) (te : TE) (m : Nat) (env : List Sl) (P : D → Nat → Prop) : Prop :=
  ∀ (B : Bs) (Hs H : Hp) (σ : St), Rep K B Hs H σ m env → ∀ Q : VK, (∀ v d Hs' H' m', Same Hs Hs' → Rep K B Hs' H' σ m' env → Is K Hs' v d → P d m' → Q v H') → te σ H Q
/-- a new list -/
def WL (K : PySem.W.Frag) (te : TE) (m : Nat) (env : List Sl) (P : List D → Nat → Prop) : Prop :=
  ∀ (B : Bs) (Hs H : Hp) (σ : St), Rep K B Hs H σ m env → ∀ Q : VK,
    (∀ p xs ds Hs' H' m', Same Hs Hs' → Rep K B Hs' H' σ m' env → Own B Hs' p → Apart σ env p → H' p = some (.lst xs) → IsA K Hs' xs ds → P ds m' → Q (.ref p) H') → te σ H Q
def WT (K : PySem.W.Frag) (tt : TT) (m : Nat) (env : List Sl) (P : Bool → Nat → Prop) : Prop :=
  ∀ (B : Bs) (Hs H : Hp) (σ : St), Rep K B Hs H σ m env → ∀ Q : Bool → Hp → Prop, (∀ b Hs' H' m', Same Hs Hs' → Rep K B Hs' H' σ m' env → P b m' → Q b H') → tt σ H Q
def WA (K : PySem.W.Frag) (ta : TA) (m : Nat) (env : List Sl) (P : List D → Nat → Prop) : Prop :=
  ∀ (B : Bs) (Hs H : Hp) (σ : St), Rep K B Hs H σ m env → ∀ Q : List V → Hp → Prop, (∀ vs ds Hs' H' m', Same Hs Hs' → Rep K B Hs' H' σ m' env → IsA K Hs' vs ds → P ds m' → Q vs H') → ta σ H Q
inductive Out where
  | nx (m : Nat) (env : List Sl) | rt (d : D) (m : Nat) | bk (m : Nat) (env : List Sl) | ct (m : Nat) (env : List Sl)
def Does (K : PySem.W.Frag) (B : Bs) (D : Ends) (Hs : Hp) : Out → Prop
  | .nx m env => ∀ Hs' H' σ', Same Hs Hs' → Rep K B Hs' H' σ' m env → D.nx σ' H'
  | .rt d m => ∀ v Hs' H', Same Hs Hs' → Rep K B Hs' H' [] m [] → Is K Hs' v d → D.rt v H'
  | .bk m env => ∀ Hs' H' σ', Same Hs Hs' → Rep K B Hs' H' σ' m env → D.bk σ' H'
  | .ct m env => ∀ Hs' H' σ', Same Hs Hs' → Rep K B Hs' H' σ' m env → D.ct σ' H'
def WS (K : PySem.W.Frag) (ts : TS) (m : Nat) (env : List Sl) (P : Out → Prop) : Prop :=
  ∀ (B : Bs) (Hs H : Hp) (σ : St) (D : Ends), Rep K B Hs H σ m env → (∀ o, P o → Does K B D Hs o) → ts D σ H
theorem Does.to {K : PySem.W.Frag} {B : Bs} {D : Ends} {Hs Hs' : Hp} {o : Out} (h : Does K B D Hs o) (s : Same Hs Hs') : Does K B D Hs' o := by
  cases o with
  | nx m env => exact fun a b c e r => h a b c (s.trans e) r
  | rt d m => exact fun a b c e r i => h a b c (s.trans e) r i
  | bk m env => exact fun a b c e r => h a b c (s.trans e) r
  | ct m env => exact fun a b c e r => h a b c (s.trans e) r

section
variable {K : PySem.W.Frag} {te ta tb tc : TE} {tl : TA} {tt tu : TT} {ts tz : TS} {m : Nat} {env : List Sl} {P P' : D → Nat → Prop} {PL : List D → Nat → Prop} {PT' : Bool → Nat → Prop} {PO : Out → Prop} {i : Nat} {d : D} {ds : List D}
theorem WE.imp (h : WE K te m env P) (f : ∀ d m', P d m' → P' d m') : WE K te m env P' := fun B Hs H σ r Q q => h B Hs H σ r Q fun v d a b c e1 e2 e3 e4 => q v d a b c e1 e2 e3 (f _ _ e4)
theorem WS.imp {PO' : Out → Prop} (h : WS K ts m env PO) (f : ∀ o, PO o → PO' o) : WS K ts m env PO' := fun B Hs H σ D r q => h B Hs H σ D r fun o e => q o (f o e)
/-! ### expressions -/
theorem we_var (e : env[i]? = some (.sh d)) (h : P d m) : WE K (tVar i) m env P := fun B Hs H σ r Q q => by
  obtain ⟨v, e1, e2⟩ := r.sl i _ e
  exact ⟨v, getD_of e1, q v d Hs H m (Same.refl _) r e2 h⟩
theorem we_c {v : V} (hv : ∀ H, Is K H v d) (h : P d m) : WE K (tC v) m env P := fun B Hs H σ r Q q => q v d Hs H m (Same.refl _) r (hv _) h
theorem we_int {n : Int} (h : P (.int n) m) : WE K (tC (.int n)) m env P := we_c (fun _ => .int n) h
theorem we_str {x : Str} (h : P (.str x) m) : WE K (tC (.str x)) m env P := we_c (fun _ => .str x) h
theorem we_bl {b : Bool} (h : P (.bl b) m) : WE K (tC (.bl b)) m env P := we_c (fun _ => .bl b) h
theorem we_non (h : P .non m) : WE K (tC .non) m env P := we_c (fun _ => .non) h
/-- two operands, then a rule on what they are -/
theorem we_two {r : R2} (h : WE K ta m env fun da m1 => WE K tb m1 env fun db m2 => P' db m2 ∧
      ∀ (B : Bs) (Hs H : Hp) (σ : St) x y, Rep K B Hs H σ m2 env → Is K Hs x da → Is K Hs y db → ∀ Q : VK, (∀ v d Hs' H' m', Same Hs Hs' → Rep K B Hs' H' σ m' env → Is K Hs' v d → P d m' → Q v H') → r x y H Q) : WE K (tOp r ta tb) m env P := fun B Hs H σ rp Q q => by
  refine h B Hs H σ rp _ fun x da Hs1 H1 m1 s1 r1 i1 k1 => ?_
  refine k1 B Hs1 H1 σ r1 _ fun y db Hs2 H2 m2 s2 r2 i2 k2 => ?_
  exact k2.2 B Hs2 H2 σ x y r2 (i1.to s2) i2 Q fun v d Hs3 H3 m3 s3 => q v d Hs3 H3 m3 (s1.trans (s2.trans s3))
def Op2 (K : PySem.W.Frag) (env : List Sl) (r : R2) (da db : D) (m : Nat) (P : D → Nat → Prop) : Prop :=
  ∀ (B : Bs) (Hs H : Hp) (σ : St) x y, Rep K B Hs H σ m env → Is K Hs x da → Is K Hs y db → ∀ Q : VK, (∀ v d Hs' H' m', Same Hs Hs' → Rep K B Hs' H' σ m' env → Is K Hs' v d → P d m' → Q v H') → r x y H Q
theorem we_op {r : R2} (h : WE K ta m env fun da m1 => WE K tb m1 env fun db m2 => Op2 K env r da db m2 P) : WE K (tOp r ta tb) m env P :=
  we_two (P' := fun _ _ => True) (h.imp fun da m1 k => k.imp fun db m2 k2 => ⟨trivial, k2⟩)
theorem o_rI {C : Int → Int → Prop} {g : Int → Int → V} {f : Int → Int → D} {a b : Int} (hf : ∀ i j H, Is K H (g i j) (f i j)) (hc : C a b) (h : P (f a b) m) : Op2 K env (rI C g) (.int a) (.int b) m P := fun B Hs H σ x y r ix iy Q q => by
  cases ix; cases iy
  exact ⟨a, b, rfl, rfl, hc, q _ _ Hs H m (Same.refl _) r (hf a b _) h⟩
theorem o_rI0 {g : Int → Int → V} {f : Int → Int → D} {a b : Int} (hf : ∀ i j H, Is K H (g i j) (f i j)) (h : P (f a b) m) : Op2 K env (rI0 g) (.int a) (.int b) m P := fun B Hs H σ x y r ix iy Q q => by
  cases ix; cases iy
  exact ⟨a, b, rfl, rfl, q _ _ Hs H m (Same.refl _) r (hf a b _) h⟩
theorem o_add {a b : Int} (h : P (.int (a + b)) m) : Op2 K env (rI0 fun i j => .int (i + j)) (.int a) (.int b) m P := o_rI0 (f := fun i j => .int (i + j)) (fun i j H => .int _) h
theorem o_sub {a b : Int} (h : P (.int (a - b)) m) : Op2 K env (rI0 fun i j => .int (i - j)) (.int a) (.int b) m P := o_rI0 (f := fun i j => .int (i - j)) (fun i j H => .int _) h
theorem o_mul {a b : Int} (hc : CMul a b) (h : P (.int (a * b)) m) : Op2 K env (rI CMul fun i j => .int (i * j)) (.int a) (.int b) m P := o_rI (f := fun i j => .int (i * j)) (fun i j H => .int _) hc h
theorem o_div {a b : Int} (hc : CDiv a b) (h : P (.int (a / b)) m) : Op2 K env (rI CDiv fun i j => .int (i / j)) (.int a) (.int b) m P := o_rI (f := fun i j => .int (i / j)) (fun i j H => .int _) hc h
theorem o_mod {a b : Int} (hc : 0 < b) (h : P (.int (a % b)) m) : Op2 K env (rI (fun _ j => 0 < j) fun i j => .int (i % j)) (.int a) (.int b) m P := o_rI (f := fun i j => .int (i % j)) (fun i j H => .int _) hc h
theorem o_lt {a b : Int} (h : P (.bl (decide (a < b))) m) : Op2 K env (rI0 fun i j => .bl (decide (i < j))) (.int a) (.int b) m P := o_rI0 (f := fun i j => .bl (decide (i < j))) (fun i j H => .bl _) h
theorem o_le {a b : Int} (h : P (.bl (decide (a ≤ b))) m) : Op2 K env (rI0 fun i j => .bl (decide (i ≤ j))) (.int a) (.int b) m P := o_rI0 (f := fun i j => .bl (decide (i ≤ j))) (fun i j H => .bl _) h
theorem o_gt {a b : Int} (h : P (.bl (decide (b < a))) m) : Op2 K env (rI0 fun i j => .bl (decide (j < i))) (.int a) (.int b) m P := o_rI0 (f := fun i j => .bl (decide (j < i))) (fun i j H => .bl _) h
theorem o_ge {a b : Int} (h : P (.bl (decide (b ≤ a))) m) : Op2 K env (rI0 fun i j => .bl (decide (j ≤ i))) (.int a) (.int b) m P := o_rI0 (f := fun i j => .bl (decide (j ≤ i))) (fun i j H => .bl _) h
/-- == of ints, texts, bools -/
def flat : D → Option V
  | .non => some .non
  | .bl b => some (.bl b)
  | .int i => some (.int i)
  | .str x => some (.str x)
  | _ => none
theorem flat_is {H : Hp} {v w : V} {d : D} (h : Is K H v d) (e : flat d = some w) : v = w := by
  cases h <;> first | (cases e; rfl) | cases e
theorem flat_flatV {d : D} {w : V} (e : flat d = some w) : flatV w = true := by
  cases d <;> first | (cases e; rfl) | cases e
theorem o_eq {da db : D} {x y : V} (hx : flat da = some x) (hy : flat db = some y) (hs : scal x y = true) (h : P (.bl (decide (x = y))) m) : Op2 K env rEq da db m P := fun B Hs H σ x' y' r ix iy Q q => by
  rw [flat_is ix hx, flat_is iy hy]
  exact ⟨hs, q _ _ Hs H m (Same.refl _) r (.bl _) h⟩
theorem o_eqI {a b : Int} (h : P (.bl (decide (a = b))) m) : Op2 K env rEq (.int a) (.int b) m P := o_eq rfl rfl rfl (by
  have e : decide (V.int a = V.int b) = decide (a = b) := by
    by_cases h : a = b
    · subst h; simp
    · rw [decide_eq_false h, decide_eq_false fun z => h (V.int.inj z)]
  rw [e]; exact h)
theorem o_eqS {a b : Str} (h : P (.bl (decide (a = b))) m) : Op2 K env rEq (.str a) (.str b) m P := o_eq rfl rfl rfl (by
  have e : decide (V.str a = V.str b) = decide (a = b) := by
    by_cases h : a = b
    · subst h; simp
    · rw [decide_eq_false h, decide_eq_false fun z => h (V.str.inj z)]
  rw [e]; exact h)
theorem o_neI {a b : Int} (h : P (.bl (!decide (a = b))) m) : Op2 K env rNe (.int a) (.int b) m P := fun B Hs H σ x' y' r ix iy Q q => by
  cases ix; cases iy
  have e : decide (V.int a = V.int b) = decide (a = b) := by
    by_cases h : a = b
    · subst h; simp
    · rw [decide_eq_false h, decide_eq_false fun z => h (V.int.inj z)]
  refine ⟨rfl, ?_⟩
  rw [e]
  exact q _ _ Hs H m (Same.refl _) r (.bl _) h
/-- an item -/
theorem at_is {H : Hp} {xs : List V} {ds : List D} {n : Int} {d : D} (h : IsA K H xs ds) (e : atI ds n = some d) : ∃ v, atI xs n = some v ∧ Is K H v d := by
  unfold atI at e ⊢
  rw [h.length]
  cases q : ixN ds.length n with
  | none => rw [q] at e; cases e
  | some j =>
    rw [q] at e
    exact h.get e
theorem o_ixL {n : Int} (e : atI ds n = some d) (h : P d m) : Op2 K env (rIxL K) (.lst ds) (.int n) m P := fun B Hs H σ x' y' r ix iy Q q => by
  cases iy
  cases ix with
  | lst h1 h2 =>
    obtain ⟨v, a, b⟩ := at_is h2 e
    exact ⟨_, _, n, v, rfl, rfl, SqL.of (r.sub _ _ h1), a, q _ _ Hs H m (Same.refl _) r b h⟩
theorem o_ixT {n : Int} (e : atI ds n = some d) (h : P d m) : Op2 K env (rIxT K) (.tup ds) (.int n) m P := fun B Hs H σ x' y' r ix iy Q q => by
  cases iy
  cases ix with
  | tup h1 h2 =>
    obtain ⟨v, a, b⟩ := at_is h2 e
    exact ⟨_, _, n, v, rfl, rfl, SqT.of (r.sub _ _ h1), a, q _ _ Hs H m (Same.refl _) r b h⟩
/-- a place of a list of our own -/
theorem we_ixO {n : Int} (e : env[i]? = some (.lst ds)) (h : WE K tb m env fun db m1 => ∃ n d, db = .int n ∧ atI ds n = some d ∧ P d m1) : WE K (tOp (rIxL K) (tVar i) tb) m env P := fun B Hs H σ r Q q => by
  obtain ⟨p, xs, e1, w, e2, e3⟩ := r.sl i _ e
  refine ⟨_, getD_of e1, h B Hs H σ r _ fun y db Hs2 H2 m2 s2 r2 i2 k2 => ?_⟩
  obtain ⟨n, d, rfl, ha, k⟩ := k2
  cases i2
  obtain ⟨p', xs', e1', w', e2', e3'⟩ := r2.sl i _ e
  rw [e1] at e1'
  cases e1'
  obtain ⟨v, a, b⟩ := at_is e3' ha
  exact ⟨p, xs', n, v, rfl, rfl, SqL.of e2', a, q _ _ Hs2 H2 m2 s2 r2 b k⟩
/-- in, not in -/
def flats : List D → Option (List V)
  | [] => some []
  | d :: ds => match flat d, flats ds with
    | some x, some xs => some (x :: xs)
    | _, _ => none
theorem flats_is {H : Hp} : ∀ {ds : List D} {vs ws : List V}, IsA K H vs ds → flats ds = some ws → vs = ws ∧ ws.all flatV = true
  | [], _, ws, h, e => by cases h; cases e; exact ⟨rfl, rfl⟩
  | d :: ds, _, ws, h, e => by
    cases h with
    | cons h1 h2 =>
      unfold flats at e
      cases e1 : flat d with
      | none => rw [e1] at e; cases e
      | some x =>
        cases e2 : flats ds with
        | none => rw [e1, e2] at e; cases e
        | some xs =>
          rw [e1, e2] at e
          cases e
          obtain ⟨a, b⟩ := flats_is h2 e2
          rw [flat_is h1 e1, a, List.all_cons, flat_flatV e1, b]
          exact ⟨rfl, rfl⟩
theorem o_in {neg : Bool} {da db : D} {x : V} {xs : List V} (hx : flat da = some x) (hb : db = .tup ds ∨ db = .lst ds) (hs : flats ds = some xs) (h : P (.bl (if neg then !inV x xs else inV x xs)) m) : Op2 K env (rIn K neg) da db m P := fun B Hs H σ x' y' r ix iy Q q => by
  rw [flat_is ix hx]
  rcases hb with rfl | rfl
  · cases iy with
    | tup h1 h2 =>
      obtain ⟨a, b⟩ := flats_is h2 hs
      subst a
      exact ⟨_, _, rfl, .inr (SqT.of (r.sub _ _ h1)), flat_flatV hx, b, q _ _ Hs H m (Same.refl _) r (.bl _) h⟩
  · cases iy with
    | lst h1 h2 =>
      obtain ⟨a, b⟩ := flats_is h2 hs
      subst a
      exact ⟨_, _, rfl, .inl (SqL.of (r.sub _ _ h1)), flat_flatV hx, b, q _ _ Hs H m (Same.refl _) r (.bl _) h⟩
/-- in a list of our own -/
theorem we_inO {neg : Bool} {xs : List V} (e : env[i]? = some (.lst ds)) (hs : flats ds = some xs) (h : WE K ta m env fun da m1 => ∃ x, flat da = some x ∧ P (.bl (if neg then !inV x xs else inV x xs)) m1) : WE K (tOp (rIn K neg) ta (tVar i)) m env P := fun B Hs H σ r Q q => by
  refine h B Hs H σ r _ fun y da Hs2 H2 m2 s2 r2 i2 k2 => ?_
  obtain ⟨x, hx, k⟩ := k2
  obtain ⟨p, ys, e1, w, e2, e3⟩ := r2.sl i _ e
  obtain ⟨a, b⟩ := flats_is e3 hs
  subst a
  rw [flat_is i2 hx]
  exact ⟨_, getD_of e1, p, _, rfl, .inl (SqL.of e2), flat_flatV hx, b, q _ _ Hs2 H2 m2 s2 r2 (.bl _) k⟩
/-- -n -/
theorem we_neg (h : WE K ta m env fun da m1 => ∃ n, da = .int n ∧ P (.int (-n)) m1) : WE K (tUn (rU fun i => .int (-i)) ta) m env P := fun B Hs H σ r Q q => by
  refine h B Hs H σ r _ fun y da Hs2 H2 m2 s2 r2 i2 k2 => ?_
  obtain ⟨n, rfl, k⟩ := k2
  cases i2
  exact ⟨n, rfl, q _ _ Hs2 H2 m2 s2 r2 (.int _) k⟩
/-! ### tests -/
theorem wt_test (h : WE K te m env fun d m1 => ∃ b, d = .bl b ∧ PT' b m1) : WT K (tTest te) m env PT' := fun B Hs H σ r Q q => by
  refine h B Hs H σ r _ fun v d Hs2 H2 m2 s2 r2 i2 k2 => ?_
  obtain ⟨b, rfl, k⟩ := k2
  cases i2
  exact ⟨b, rfl, q b Hs2 H2 m2 s2 r2 k⟩
theorem wt_B (h : WE K te m env fun d m1 => ∃ b, d = .bl b ∧ PT' b m1) : WT K (tB te) m env PT' := fun B Hs H σ r Q q => by
  refine h B Hs H σ r _ fun v d Hs2 H2 m2 s2 r2 i2 k2 => ?_
  obtain ⟨b, rfl, k⟩ := k2
  cases i2
  exact ⟨b, rfl, q b Hs2 H2 m2 s2 r2 k⟩
theorem wt_not (h : WT K tt m env fun b m1 => PT' (!b) m1) : WT K (tNot tt) m env PT' := fun B Hs H σ r Q q => h B Hs H σ r _ fun b Hs2 H2 m2 s2 r2 k2 => q (!b) Hs2 H2 m2 s2 r2 k2
theorem wt_and (h : WT K tt m env fun b m1 => (b = true → WT K tu m1 env PT') ∧ (b = false → PT' false m1)) : WT K (tAnd tt tu) m env PT' := fun B Hs H σ r Q q => h B Hs H σ r _ fun b Hs2 H2 m2 s2 r2 k2 => by
  cases b with
  | true => exact iteT (k2.1 rfl B Hs2 H2 σ r2 _ fun b Hs3 H3 m3 s3 => q b Hs3 H3 m3 (s2.trans s3))
  | false => exact iteF (q false Hs2 H2 m2 s2 r2 (k2.2 rfl))
theorem wt_or (h : WT K tt m env fun b m1 => (b = true → PT' true m1) ∧ (b = false → WT K tu m1 env PT')) : WT K (tOr tt tu) m env PT' := fun B Hs H σ r Q q => h B Hs H σ r _ fun b Hs2 H2 m2 s2 r2 k2 => by
  cases b with
  | true => exact iteT (q true Hs2 H2 m2 s2 r2 (k2.1 rfl))
  | false => exact iteF (k2.2 rfl B Hs2 H2 σ r2 _ fun b Hs3 H3 m3 s3 => q b Hs3 H3 m3 (s2.trans s3))
theorem we_if (h : WT K tt m env fun b m1 => (b = true → WE K ta m1 env P) ∧ (b = false → WE K tb m1 env P)) : WE K (tIf tt ta tb) m env P := fun B Hs H σ r Q q => h B Hs H σ r _ fun b Hs2 H2 m2 s2 r2 k2 => by
  cases b with
  | true => exact iteT (k2.1 rfl B Hs2 H2 σ r2 _ fun v d Hs3 H3 m3 s3 => q v d Hs3 H3 m3 (s2.trans s3))
  | false => exact iteF (k2.2 rfl B Hs2 H2 σ r2 _ fun v d Hs3 H3 m3 s3 => q v d Hs3 H3 m3 (s2.trans s3))
theorem we_andV (h : WE K ta m env fun d m1 => ∃ b, d = .bl b ∧ (b = true → WE K tb m1 env P) ∧ (b = false → P (.bl false) m1)) : WE K (tAndV ta tb) m env P := fun B Hs H σ r Q q => h B Hs H σ r _ fun v d Hs2 H2 m2 s2 r2 i2 k2 => by
  obtain ⟨b, rfl, k3, k4⟩ := k2
  cases i2
  cases b with
  | true => exact ⟨true, rfl, iteT (k3 rfl B Hs2 H2 σ r2 _ fun v d Hs3 H3 m3 s3 => q v d Hs3 H3 m3 (s2.trans s3))⟩
  | false => exact ⟨false, rfl, iteF (q _ _ Hs2 H2 m2 s2 r2 (.bl _) (k4 rfl))⟩
theorem we_orV (h : WE K ta m env fun d m1 => ∃ b, d = .bl b ∧ (b = true → P (.bl true) m1) ∧ (b = false → WE K tb m1 env P)) : WE K (tOrV ta tb) m env P := fun B Hs H σ r Q q => h B Hs H σ r _ fun v d Hs2 H2 m2 s2 r2 i2 k2 => by
  obtain ⟨b, rfl, k3, k4⟩ := k2
  cases i2
  cases b with
  | true => exact ⟨true, rfl, iteT (q _ _ Hs2 H2 m2 s2 r2 (.bl _) (k3 rfl))⟩
  | false => exact ⟨false, rfl, iteF (k4 rfl B Hs2 H2 σ r2 _ fun v d Hs3 H3 m3 s3 => q v d Hs3 H3 m3 (s2.trans s3))⟩
theorem we_notV (h : WE K ta m env fun d m1 => ∃ b, d = .bl b ∧ P (.bl (!b)) m1) : WE K (tNotV ta) m env P := fun B Hs H σ r Q q => h B Hs H σ r _ fun v d Hs2 H2 m2 s2 r2 i2 k2 => by
  obtain ⟨b, rfl, k3⟩ := k2
  cases i2
  exact ⟨b, rfl, q _ _ Hs2 H2 m2 s2 r2 (.bl _) k3⟩
/-- a < b < c -/
theorem we_chain {r r' : R2} (h : WE K ta m env fun da m1 => WE K tb m1 env fun db m2 => Op2 K env r da db m2 fun dz m3 => ∃ k, dz = .bl k ∧ (k = true → WE K tc m3 env fun dc m4 => Op2 K env r' db dc m4 P) ∧ (k = false → P (.bl false) m3)) : WE K (tChain r r' ta tb tc) m env P := by
  intro B Hs H σ rp Q q
  refine h B Hs H σ rp _ fun x da Hs1 H1 m1 s1 r1 i1 k1 => ?_
  refine k1 B Hs1 H1 σ r1 _ fun y db Hs2 H2 m2 s2 r2 i2 k2 => ?_
  refine k2 B Hs2 H2 σ x y r2 (i1.to s2) i2 _ fun z dz Hs3 H3 m3 s3 r3 i3 k3 => ?_
  obtain ⟨k, rfl, kt, kf⟩ := k3
  cases i3
  refine ⟨k, rfl, ?_⟩
  cases k with
  | true =>
    refine kt rfl B Hs3 H3 σ r3 _ fun w dw Hs4 H4 m4 s4 r4 i4 k4 => ?_
    exact k4 B Hs4 H4 σ y w r4 (i2.to (s3.trans s4)) i4 _ fun v d Hs5 H5 m5 s5 => q v d Hs5 H5 m5 (s1.trans (s2.trans (s3.trans (s4.trans s5))))
  | false => exact q _ _ Hs3 H3 m3 (s1.trans (s2.trans s3)) r3 (.bl _) (kf rfl)
/-! ### arguments, displays -/
theorem wa_nil (h : PL [] m) : WA K tNil m env PL := fun B Hs H σ r Q q => q [] [] Hs H m (Same.refl _) r .nil h
theorem wa_cons (h : WE K te m env fun d m1 => WA K tl m1 env fun ds m2 => PL (d :: ds) m2) : WA K (tCons te tl) m env PL := fun B Hs H σ r Q q => by
  refine h B Hs H σ r _ fun v d Hs2 H2 m2 s2 r2 i2 k2 => ?_
  exact k2 B Hs2 H2 σ r2 _ fun vs ds Hs3 H3 m3 s3 r3 i3 k3 => q (v :: vs) (d :: ds) Hs3 H3 m3 (s2.trans s3) r3 (.cons (i2.to s3) i3) k3
theorem small_le {n : Nat} (h : n ≤ 1000000) : n ≤ sizeLine := Nat.le_trans h (by decide)
theorem we_tup (h : WA K tl m env fun ds m1 => ds.length ≤ 1000000 ∧ P (.tup ds) m1) : WE K (tTup tl) m env P := fun B Hs H σ r Q q => by
  refine h B Hs H σ r _ fun vs ds Hs2 H2 m2 s2 r2 i2 k2 => ?_
  refine ⟨small_le (by rw [i2.length]; exact k2.1), fun p hp => ?_⟩
  obtain ⟨r3, s3, n3⟩ := r2.newS hp (.tup vs)
  exact q _ _ _ _ m2 (s2.trans s3) r3 (.tup upd_same (i2.to s3)) k2.2
theorem wl_lst (h : WA K tl m env fun ds m1 => ds.length ≤ 1000000 ∧ PL ds m1) : WL K (tLst tl) m env PL := fun B Hs H σ r Q q => by
  refine h B Hs H σ r _ fun vs ds Hs2 H2 m2 s2 r2 i2 k2 => ?_
  refine ⟨small_le (by rw [i2.length]; exact k2.1), fun p hp => ?_⟩
  obtain ⟨w, a⟩ := r2.fresh hp
  exact q p vs ds Hs2 _ m2 s2 (r2.new0 hp _) w a upd_same i2 k2.2
/-- a new list is shared -/
theorem share {B : Bs} {Hs H : Hp} {σ : St} {p : Addr} {xs : List V} (r : Rep K B Hs H σ m env) (w : Own B Hs p) (a : Apart σ env p) (hp : H p = some (.lst xs)) (hx : IsA K Hs xs ds) :
    Rep K B (upd Hs p (.lst xs)) H σ m env ∧ Same Hs (upd Hs p (.lst xs)) ∧ Is K (upd Hs p (.lst xs)) (.ref p) (.lst ds) := by
  have hs : Same Hs (upd Hs p (.lst xs)) := Same.new w.2.1
  have own : ∀ q, q ≠ p → Own B Hs q → Own B (upd Hs p (.lst xs)) q := fun q n w => ⟨w.1, by rw [upd_ne n]; exact w.2.1, w.2.2⟩
  refine ⟨⟨r.base, fun b u e => ?_, fun a h => ?_, r.fb, r.len, fun j oj e => ?_, r.ap, fun s e => ?_⟩, hs, .lst upd_same (hx.to hs)⟩
  · by_cases hb : b = p
    · subst hb; rw [upd_same] at e; rw [hp]; exact e
    · rw [upd_ne hb] at e; exact r.sub b u e
  · by_cases hb : a = p
    · subst hb; exact absurd h w.2.2
    · rw [upd_ne hb]; exact r.fa a h
  · have q := r.sl j oj e
    have ne : ∀ p2, oj.own = true → σ[j]?.getD none = some (.ref p2) → p2 ≠ p := fun p2 h e1 z => by
      subst z
      exact a j oj e h (getD_of e1)
    cases oj with
    | any => trivial
    | sh d => obtain ⟨v, e1, h⟩ := q; exact ⟨v, e1, h.to hs⟩
    | lst ds => obtain ⟨p2, xs, e1, w2, h2, g⟩ := q; exact ⟨p2, xs, e1, own p2 (ne p2 rfl e1) w2, h2, g.to hs⟩
    | dic t => obtain ⟨p2, e1, w2, h2⟩ := q; exact ⟨p2, e1, own p2 (ne p2 rfl e1) w2, h2⟩
    | dik t => obtain ⟨p2, e1, w2, h2⟩ := q; exact ⟨p2, e1, own p2 (ne p2 rfl e1) w2, h2⟩
    | sta => exact q
  · obtain ⟨a, b⟩ := r.stt s e
    exact ⟨a.to hs (fun u z => z) (fun u z => z) (Nat.le_refl _), b⟩
theorem we_wl (h : WL K te m env fun ds m1 => P (.lst ds) m1) : WE K te m env P := fun B Hs H σ r Q q => by
  refine h B Hs H σ r _ fun p xs ds Hs2 H2 m2 s2 r2 w a hp hx k2 => ?_
  obtain ⟨r3, s3, i3⟩ := share r2 w a hp hx
  exact q _ _ _ _ m2 (s2.trans s3) r3 i3 k2
/-! ### + and * of lists, tuples -/
/-- (a list plus a list: a new list) -/
theorem wl_cat (h : WE K ta m env fun da m1 => WE K tb m1 env fun db m2 => ∃ as bs, da = .lst as ∧ db = .lst bs ∧ as.length + bs.length ≤ 1000000 ∧ PL (as ++ bs) m2) : WL K (tOp rCat ta tb) m env PL := fun B Hs H σ rp Q q => by
  refine h B Hs H σ rp _ fun x da Hs1 H1 m1 s1 r1 i1 k1 => ?_
  refine k1 B Hs1 H1 σ r1 _ fun y db Hs2 H2 m2 s2 r2 i2 k2 => ?_
  obtain ⟨as, bs, rfl, rfl, hl, k⟩ := k2
  have i1' := i1.to s2
  cases i1' with
  | lst a1 a2 =>
    cases i2 with
    | lst b1 b2 =>
      refine ⟨_, _, _, _, rfl, rfl, r2.sub _ _ a1, r2.sub _ _ b1, small_le (by rw [a2.length, b2.length]; exact hl), fun p hp => ?_⟩
      obtain ⟨w, a⟩ := r2.fresh hp
      exact q p _ _ Hs2 _ m2 (s1.trans s2) (r2.new0 hp _) w a upd_same (a2.append b2) k
theorem wl_rep (h : WE K ta m env fun da m1 => WE K tb m1 env fun db m2 => ∃ as n, da = .lst as ∧ db = .int n ∧ 0 ≤ n ∧ n ≤ 1000000 ∧ as.length * n.toNat ≤ 1000000 ∧ PL (List.replicate n.toNat as).flatten m2) : WL K (tOp rRep ta tb) m env PL := fun B Hs H σ rp Q q => by
  refine h B Hs H σ rp _ fun x da Hs1 H1 m1 s1 r1 i1 k1 => ?_
  refine k1 B Hs1 H1 σ r1 _ fun y db Hs2 H2 m2 s2 r2 i2 k2 => ?_
  obtain ⟨as, n, rfl, rfl, h0, h1, hl, k⟩ := k2
  have i1' := i1.to s2
  cases i2
  cases i1' with
  | lst a1 a2 =>
    refine ⟨_, _, _, rfl, rfl, r2.sub _ _ a1, by omega, by omega, small_le (by rw [a2.length]; exact hl), fun p hp => ?_⟩
    obtain ⟨w, a⟩ := r2.fresh hp
    have rep : ∀ z : Nat, IsA K Hs2 (List.replicate z _).flatten (List.replicate z as).flatten := fun z => by
      induction z with
      | zero => exact .nil
      | succ z ih =>
        rw [List.replicate_succ, List.replicate_succ, List.flatten_cons, List.flatten_cons]
        exact a2.append ih
    exact q p _ _ Hs2 _ m2 (s1.trans s2) (r2.new0 hp _) w a upd_same (rep _) k
theorem o_catT {as bs : List D} (hl : as.length + bs.length ≤ 1000000) (h : P (.tup (as ++ bs)) m) : Op2 K env (rCatA K) (.tup as) (.tup bs) m P := fun B Hs H σ x y r ix iy Q q => by
  cases ix with
  | tup a1 a2 =>
    cases iy with
    | tup b1 b2 =>
      refine ⟨_, _, _, _, rfl, rfl, SqT.of (r.sub _ _ a1), SqT.of (r.sub _ _ b1), small_le (by rw [a2.length, b2.length]; exact hl), fun e => ?_, fun e1 e2 => ?_, fun e1 e2 p hp => ?_⟩
      · subst e
        cases a2
        exact q _ _ Hs H m (Same.refl _) r (.tup b1 b2) h
      · subst e2
        cases b2
        rw [List.append_nil] at h
        exact q _ _ Hs H m (Same.refl _) r (.tup a1 a2) h
      · obtain ⟨r3, s3, n3⟩ := r.newS hp (.tup _)
        exact q _ _ _ _ m s3 r3 (.tup upd_same ((a2.append b2).to s3)) h
end
end MW
end
section
set_option Elab.async false
set_option linter.all false
set_option maxRecDepth 100000
set_option maxHeartbeats 4000000
namespace MW
open PySem L2

/-! ### tables -/
def tget (t : Tab) (c : List Int) : Option Int := (t.find? fun p => decide (p.1 = c)).map (·.2)
def tput (t : Tab) (c : List Int) (x : Int) : Tab := if (t.any fun p => decide (p.1 = c)) = true then t.map (fun p => if p.1 = c then (p.1, x) else p) else t ++ [(c, x)]
theorem inl_inj : ∀ {a b : List Int}, a.map (Sum.inl : Int → Key) = b.map Sum.inl → a = b
  | [], [], _ => rfl
  | [], _ :: _, h => by cases h
  | _ :: _, [], h => by cases h
  | x :: a, y :: b, h => by
    rw [List.map_cons, List.map_cons] at h
    injection h with h1 h2
    injection h1 with h1
    rw [h1, inl_inj h2]
theorem kV_ints (c : List Int) : (c.map (Sum.inl : Int → Key)).map kV = c.map V.int := by
  rw [List.map_map]
  rfl
theorem emb_get (t : Tab) (c : List Int) : valV (emb t) (c.map Sum.inl) = (tget t c).map V.int := by
  unfold valV tget emb
  induction t with
  | nil => rfl
  | cons p t ih =>
    rw [List.map_cons, List.find?_cons, List.find?_cons]
    by_cases h : p.1 = c
    · have h2 : (p.1.map (Sum.inl : Int → Key)) = c.map Sum.inl := by rw [h]
      simp [h]
    · have h2 : ¬ (p.1.map (Sum.inl : Int → Key)) = c.map Sum.inl := fun z => h (inl_inj z)
      rw [decide_eq_false h, decide_eq_false h2]
      exact ih
theorem emb_any (t : Tab) (c : List Int) : ((emb t).any fun kv => decide (kv.1 = c.map Sum.inl)) = t.any fun p => decide (p.1 = c) := by
  unfold emb
  rw [List.any_map]
  congr 1
  funext p
  show decide (p.1.map Sum.inl = c.map Sum.inl) = decide (p.1 = c)
  by_cases h : p.1 = c
  · rw [decide_eq_true h]; exact decide_eq_true (by rw [h])
  · rw [decide_eq_false h, decide_eq_false fun z => h (inl_inj z)]
theorem emb_put (t : Tab) (c : List Int) (x : Int) : putK (emb t) (c.map Sum.inl) (.int x) = emb (tput t c x) := by
  unfold putK tput
  rw [emb_any]
  split
  · unfold emb
    rw [List.map_map, List.map_map]
    congr 1
    funext p
    show (if p.1.map Sum.inl = c.map Sum.inl then _ else _) = _
    show _ = ((if p.1 = c then (p.1, x) else p).1.map Sum.inl, V.int (if p.1 = c then (p.1, x) else p).2)
    by_cases h : p.1 = c
    · rw [if_pos h, if_pos (by rw [h])]
    · rw [if_neg h, if_neg fun z => h (inl_inj z)]
  · unfold emb
    rw [List.map_append]
    rfl
theorem emb_len (t : Tab) : (emb t).length = t.length := List.length_map _
theorem tput_len (t : Tab) (c : List Int) (x : Int) : (tput t c x).length ≤ t.length + 1 := by
  unfold tput
  split
  · rw [List.length_map]; omega
  · rw [List.length_append]; exact Nat.le_refl _
def iget (t : TabI) (c : Int) : Option Int := (t.find? fun p => decide (p.1 = c)).map (·.2)
def iput (t : TabI) (c : Int) (x : Int) : TabI := if (t.any fun p => decide (p.1 = c)) = true then t.map (fun p => if p.1 = c then (p.1, x) else p) else t ++ [(c, x)]
theorem embI_get (t : TabI) (c : Int) : valV (embI t) (Sum.inl c) = (iget t c).map V.int := by
  unfold valV iget embI
  induction t with
  | nil => rfl
  | cons p t ih =>
    rw [List.map_cons, List.find?_cons, List.find?_cons]
    by_cases h : p.1 = c
    · simp [h]
    · have h2 : ¬ ((Sum.inl p.1 : Key)) = Sum.inl c := fun z => h (Sum.inl.inj z)
      rw [decide_eq_false h, decide_eq_false h2]
      exact ih
theorem embI_put (t : TabI) (c : Int) (x : Int) : putK (embI t) (Sum.inl c) (.int x) = embI (iput t c x) := by
  unfold putK iput
  have ea : ((embI t).any fun kv => decide (kv.1 = Sum.inl c)) = t.any fun p => decide (p.1 = c) := by
    unfold embI
    rw [List.any_map]
    congr 1
    funext p
    show decide ((Sum.inl p.1 : Key) = Sum.inl c) = decide (p.1 = c)
    by_cases h : p.1 = c
    · rw [decide_eq_true h]; exact decide_eq_true (by rw [h])
    · rw [decide_eq_false h, decide_eq_false fun z => h (Sum.inl.inj z)]
  rw [ea]
  split
  · unfold embI
    rw [List.map_map, List.map_map]
    congr 1
    funext p
    show (if (Sum.inl p.1 : Key) = Sum.inl c then _ else _) = _
    show _ = (Sum.inl (if p.1 = c then (p.1, x) else p).1, V.int (if p.1 = c then (p.1, x) else p).2)
    by_cases h : p.1 = c
    · rw [if_pos h, if_pos (by rw [h])]
    · rw [if_neg h, if_neg fun z => h (Sum.inl.inj z)]
  · unfold embI
    rw [List.map_append]
    rfl
theorem embI_len (t : TabI) : (embI t).length = t.length := List.length_map _
theorem iput_len (t : TabI) (c : Int) (x : Int) : (iput t c x).length ≤ t.length + 1 := by
  unfold iput
  split
  · rw [List.length_map]; omega
  · rw [List.length_append]; exact Nat.le_refl _

section
variable {K : PySem.W.Frag} {te ta tb tc tk tv : TE} {tl : TA} {tt tu : TT} {ts tz : TS} {m : Nat} {env : List Sl} {P P' : D → Nat → Prop} {PL : List D → Nat → Prop} {PT' : Bool → Nat → Prop} {PO : Out → Prop} {i j : Nat} {d : D} {ds : List D}

/-! ### statements -/
def Then (K : PySem.W.Frag) (u : TS) (PO : Out → Prop) : Out → Prop
  | .nx m env => WS K u m env PO
  | .rt d m => PO (.rt d m)
  | .bk m env => PO (.bk m env)
  | .ct m env => PO (.ct m env)
theorem ws_seq (h : WS K ts m env (Then K tz PO)) : WS K (tSeq ts tz) m env PO := fun B Hs H σ D r q => by
  refine h B Hs H σ { D with nx := tz D } r fun o ho => ?_
  cases o with
  | nx m1 env1 => exact fun Hs' H' σ' s r' => ho B Hs' H' σ' D r' fun o e => (q o e).to s
  | rt d m1 => exact q _ ho
  | bk m1 env1 => exact q _ ho
  | ct m1 env1 => exact q _ ho
theorem ws_next (h : PO (.nx m env)) : WS K tNext m env PO := fun B Hs H σ D r q => q _ h Hs H σ (Same.refl _) r
theorem ws_break (h : PO (.bk m env)) : WS K tBreak m env PO := fun B Hs H σ D r q => q _ h Hs H σ (Same.refl _) r
theorem ws_never (h : False) : WS K tNever m env PO := h.elim
theorem ws_drop (h : WE K te m env fun _ m1 => PO (.nx m1 env)) : WS K (tDrop te) m env PO := fun B Hs H σ D r q =>
  h B Hs H σ r _ fun v d Hs' H' m' s r' i k => q _ k Hs' H' σ s r'
theorem ws_ret (h : WE K te m env fun d m1 => PO (.rt d m1)) : WS K (tRet te) m env PO := fun B Hs H σ D r q =>
  h B Hs H σ r _ fun v d Hs' H' m' s r' i k => q _ k v Hs' H' s r'.slots i
theorem ws_if (h : WT K tt m env fun b m1 => (b = true → WS K ts m1 env PO) ∧ (b = false → WS K tz m1 env PO)) : WS K (tIfS tt ts tz) m env PO := fun B Hs H σ D r q => h B Hs H σ r _ fun b Hs2 H2 m2 s2 r2 k2 => by
  cases b with
  | true => exact iteT (k2.1 rfl B Hs2 H2 σ D r2 fun o e => (q o e).to s2)
  | false => exact iteF (k2.2 rfl B Hs2 H2 σ D r2 fun o e => (q o e).to s2)
theorem ws_asg (h : WE K te m env fun d m1 => PO (.nx m1 (env.set i (.sh d)))) : WS K (tAsg te (gName i)) m env PO := fun B Hs H σ D r q =>
  h B Hs H σ r _ fun v d Hs' H' m' s r' k e => q _ e Hs' H' _ s (r'.store i v (.sh d) ⟨v, rfl, k⟩ fun z => by cases z)
theorem ws_asgL (h : WL K te m env fun ds m1 => PO (.nx m1 (env.set i (.lst ds)))) : WS K (tAsg te (gName i)) m env PO := fun B Hs H σ D r q =>
  h B Hs H σ r _ fun p xs ds Hs' H' m' s r' w a hp hx e => q _ e Hs' H' _ s (r'.store i (.ref p) (.lst ds) ⟨p, xs, rfl, w, hp, hx⟩ fun _ p' e' => by cases e'; exact a)
theorem ws_asgD (h : PO (.nx m (env.set i (.dic [])))) : WS K (tAsg tDNewT (gName i)) m env PO := fun B Hs H σ D r q p hp => by
  obtain ⟨w, a⟩ := r.fresh hp
  exact q _ h Hs _ _ (Same.refl _) ((r.new0 hp _).store i (.ref p) (.dic []) ⟨p, rfl, w, upd_same⟩ fun _ p' e' => by cases e'; exact a)
theorem ws_asgDK (h : PO (.nx m (env.set i (.dik [])))) : WS K (tAsg tDNewK (gName i)) m env PO := fun B Hs H σ D r q p hp => by
  obtain ⟨w, a⟩ := r.fresh hp
  exact q _ h Hs _ _ (Same.refl _) ((r.new0 hp _).store i (.ref p) (.dik []) ⟨p, rfl, w, upd_same⟩ fun _ p' e' => by cases e'; exact a)
/-- a, b = e1, e2 -/
theorem ws_par {tas : TA} (h : WA K tas m env fun ds m1 => ∃ a b, ds = [a, b] ∧ PO (.nx m1 ((env.set i (.sh a)).set j (.sh b)))) : WS K (tPar i j tas) m env PO := fun B Hs H σ D r q =>
  h B Hs H σ r _ fun vs ds Hs' H' m' s r' k e => by
    obtain ⟨a, b, rfl, e⟩ := e
    cases k with
    | cons k1 k2 =>
      cases k2 with
      | cons k2 k3 =>
        cases k3
        exact ⟨_, _, rfl, q _ e Hs' H' _ s ((r'.store i _ (.sh a) ⟨_, rfl, k1⟩ fun z => by cases z).store j _ (.sh b) ⟨_, rfl, k2⟩ fun z => by cases z)⟩
/-- what is our own is given away: a list, a table, an int table -/
theorem Rep.giveAny {B : Bs} {Hs H : Hp} {σ : St} {sl : Sl} (r : Rep K B Hs H σ m env) (he : env[i]? = some sl) (ho : sl.own = true) : ∃ p d Hs', σ[i]? = some (some (.ref p)) ∧ Same Hs Hs' ∧ Rep K B Hs' H σ m (env.set i (.sh d)) ∧ Is K Hs' (.ref p) d ∧
    (match sl with | .lst ds => d = .lst ds | .dic t => d = .tab t | .dik t => d = .tik t | _ => True) := by
  have q := r.sl i sl he
  cases sl with
  | lst ds =>
    obtain ⟨p, xs, e1, w, h, g⟩ := q
    have hd : Is K (upd Hs p (.lst xs)) (.ref p) (.lst ds) := .lst upd_same (g.to (Same.new w.2.1))
    obtain ⟨r2, s2⟩ := r.give he ho (getD_of e1) h (.lst ds) hd
    exact ⟨p, .lst ds, _, getD_of e1, s2, r2, hd, rfl⟩
  | dic t =>
    obtain ⟨p, e1, w, h⟩ := q
    have hd : Is K (upd Hs p (.dT (emb t))) (.ref p) (.tab t) := .tab (.inl upd_same)
    obtain ⟨r2, s2⟩ := r.give he ho (getD_of e1) h (.tab t) hd
    exact ⟨p, .tab t, _, getD_of e1, s2, r2, hd, rfl⟩
  | dik t =>
    obtain ⟨p, e1, w, h⟩ := q
    have hd : Is K (upd Hs p (.dK (embI t))) (.ref p) (.tik t) := .tik upd_same
    obtain ⟨r2, s2⟩ := r.give he ho (getD_of e1) h (.tik t) hd
    exact ⟨p, .tik t, _, getD_of e1, s2, r2, hd, rfl⟩
  | _ => cases ho
theorem ws_give {sl : Sl} {d : D} (he : env[i]? = some sl) (hd : sl = (match d with | .lst ds => .lst ds | .tab t => .dic t | .tik t => .dik t | _ => .any)) (ho : sl.own = true) (h : WS K ts m (env.set i (.sh d)) PO) : WS K ts m env PO := fun B Hs H σ D r q => by
  obtain ⟨p, d', Hs', e1, s, r2, i2, e2⟩ := Rep.giveAny r he ho
  have ed : d' = d := by
    subst hd
    cases d <;> first | exact e2 | cases ho
  subst ed
  exact h B Hs' H σ D r2 fun o e => (q o e).to s
theorem ws_giveL (he : env[i]? = some (.lst ds)) (h : WS K ts m (env.set i (.sh (.lst ds))) PO) : WS K ts m env PO := ws_give (d := .lst ds) he rfl rfl h
theorem ws_giveD {t : Tab} (he : env[i]? = some (.dic t)) (h : WS K ts m (env.set i (.sh (.tab t))) PO) : WS K ts m env PO := ws_give (d := .tab t) he rfl rfl h
theorem ws_giveI {t : TabI} (he : env[i]? = some (.dik t)) (h : WS K ts m (env.set i (.sh (.tik t))) PO) : WS K ts m env PO := ws_give (d := .tik t) he rfl rfl h
/-- xs.append(e), xs our own -/
theorem ws_append (he : env[i]? = some (.lst ds)) (h : WE K te m env fun d m1 => ds.length < 1000000 ∧ PO (.nx m1 (env.set i (.lst (ds ++ [d]))))) : WS K (tDrop (tBM K "list" rAppend (tVar i) (tCons te tNil))) m env PO := fun B Hs H σ D r q => by
  obtain ⟨p, xs, e1, w, e2, e3⟩ := r.sl i _ he
  refine ⟨_, getD_of e1, .inl ⟨rfl, _, SqL.of e2⟩, h B Hs H σ r _ fun v d Hs' H' m' s r' k e => ?_⟩
  obtain ⟨p', xs', e1', w', e2', e3'⟩ := r'.sl i _ he
  rw [e1] at e1'
  cases e1'
  refine ⟨p, xs', v, rfl, rfl, e2', Nat.lt_of_lt_of_le (by rw [e3'.length]; exact e.1) (small_le (Nat.le_refl _)), ?_⟩
  exact q _ e.2 Hs' _ σ s (r'.write he rfl (getD_of e1) _ (.lst (ds ++ [d])) rfl fun w => ⟨p, _, rfl, w, upd_same, e3'.append (.one k)⟩)
/-- xs[n] = e, xs our own -/
theorem ws_setL (he : env[i]? = some (.lst ds)) (h : WE K tv m env fun d m1 => WE K tk m1 env fun dk m2 => ∃ n k, dk = .int n ∧ ixN ds.length n = some k ∧ PO (.nx m2 (env.set i (.lst (ds.set k d))))) : WS K (tAsg tv (gSub (tVar i) tk rSetL)) m env PO := fun B Hs H σ D r q => by
  refine h B Hs H σ r _ fun v d Hs1 H1 m1 s1 r1 k1 h1 => ?_
  obtain ⟨p, xs, e1, w, e2, e3⟩ := r1.sl i _ he
  refine ⟨_, getD_of e1, h1 B Hs1 H1 σ r1 _ fun y dk Hs2 H2 m2 s2 r2 k2 h2 => ?_⟩
  obtain ⟨n, k, rfl, hk, ho⟩ := h2
  cases k2
  obtain ⟨p', xs', e1', w', e2', e3'⟩ := r2.sl i _ he
  rw [e1] at e1'
  cases e1'
  refine ⟨p, xs', n, k, rfl, rfl, e2', by rw [e3'.length]; exact hk, ?_⟩
  exact q _ ho Hs2 _ σ (s1.trans s2) (r2.write he rfl (getD_of e1) _ (.lst (ds.set k d)) rfl fun w => ⟨p, _, rfl, w, upd_same, e3'.set (k1.to s2) k⟩)
/-! ### tables -/
theorem is_ints {H : Hp} {v : V} {c : List Int} (h : Is K H v (.ints c)) : ∃ b, v = .ref b ∧ H b = some (.tup (c.map V.int)) := by
  cases h with
  | tup h1 h2 => exact ⟨_, rfl, by rw [h1, IsA.of_ints h2]⟩
theorem key_tup {H : Hp} {b : Addr} {c : List Int} (h : H b = some (.tup (c.map V.int))) : H b = some (.tup ((c.map (Sum.inl : Int → Key)).map kV)) := by rw [kV_ints]; exact h
theorem dget_t {H : Hp} {a b : Addr} {t : Tab} {c : List Int} (h : Rd H a (.dT (emb t))) (hb : H b = some (.tup (c.map V.int))) : DGet H a (.ref b) ((tget t c).map V.int) := by
  rw [← emb_get]
  exact .inr ⟨emb t, c.map Sum.inl, b, h, rfl, key_tup hb, rfl⟩
theorem rd_to {Hs H : Hp} {a : Addr} {u : HO} (s : Same Hs H) (h : Rd Hs a u) : Rd H a u := h.elim (fun h => .inl (s _ _ h)) fun ⟨o, h⟩ => .inr ⟨o, s _ _ h⟩
/-- d[k] -/
theorem we_dget (h : WE K ta m env fun da m1 => WE K tk m1 env fun dk m2 => ∃ t c x, da = .tab t ∧ dk = .ints c ∧ tget t c = some x ∧ P (.int x) m2) : WE K (tDGet ta tk) m env P := fun B Hs H σ r Q q => by
  refine h B Hs H σ r _ fun v da Hs1 H1 m1 s1 r1 i1 k1 => ?_
  refine k1 B Hs1 H1 σ r1 _ fun y dk Hs2 H2 m2 s2 r2 i2 k2 => ?_
  obtain ⟨t, c, x, rfl, rfl, hx, k⟩ := k2
  obtain ⟨b, rfl, hb⟩ := is_ints i2
  cases i1 with
  | tab g =>
    refine ⟨_, .int x, rfl, ?_, q _ _ Hs2 H2 m2 (s1.trans s2) r2 (.int x) k⟩
    have := dget_t (rd_to (fun b o e => r2.sub b o (s2 b o e)) g) (r2.sub _ _ hb)
    rw [hx] at this
    exact this
theorem we_dgetI (h : WE K ta m env fun da m1 => WE K tk m1 env fun dk m2 => ∃ t c x, da = .tik t ∧ dk = .int c ∧ iget t c = some x ∧ P (.int x) m2) : WE K (tDGet ta tk) m env P := fun B Hs H σ r Q q => by
  refine h B Hs H σ r _ fun v da Hs1 H1 m1 s1 r1 i1 k1 => ?_
  refine k1 B Hs1 H1 σ r1 _ fun y dk Hs2 H2 m2 s2 r2 i2 k2 => ?_
  obtain ⟨t, c, x, rfl, rfl, hx, k⟩ := k2
  cases i2
  cases i1 with
  | tik g =>
    refine ⟨_, .int x, rfl, ?_, q _ _ Hs2 H2 m2 (s1.trans s2) r2 (.int x) k⟩
    have := DGet.k (H := H2) (k := Sum.inl c) (r2.sub _ _ (s2 _ _ g))
    rw [embI_get, hx] at this
    exact this
theorem getD_int (o : Option Int) (z : Int) : (o.map V.int).getD (.int z) = .int (o.getD z) := by cases o <;> rfl
/-- d.get(k, z): a table that is shared; our own -/
theorem we_dget2 {tx : TE} (h : WE K ta m env fun da m1 => ∃ t, da = .tab t ∧ WE K tk m1 env fun dk m2 => WE K tx m2 env fun dx m3 => ∃ c z, dk = .ints c ∧ dx = .int z ∧ P (.int ((tget t c).getD z)) m3) : WE K (tDGet2 ta tk tx) m env P := fun B Hs H σ r Q q => by
  refine h B Hs H σ r _ fun v da Hs1 H1 m1 s1 r1 i1 k1 => ?_
  obtain ⟨t, rfl, k1⟩ := k1
  cases i1 with
  | tab g =>
    refine ⟨_, rfl, .inr ⟨_, rd_to r1.sub g⟩, k1 B Hs1 H1 σ r1 _ fun y dk Hs2 H2 m2 s2 r2 i2 k2 => ?_⟩
    refine k2 B Hs2 H2 σ r2 _ fun z dx Hs3 H3 m3 s3 r3 i3 k3 => ?_
    obtain ⟨c, z, rfl, rfl, k⟩ := k3
    cases i3
    obtain ⟨b, rfl, hb⟩ := is_ints i2
    refine ⟨_, dget_t (rd_to (fun b o e => r3.sub b o (s3 b o (s2 b o e))) g) (r3.sub _ _ (s3 _ _ hb)), ?_⟩
    rw [getD_int]
    exact q _ _ Hs3 H3 m3 (s1.trans (s2.trans s3)) r3 (.int _) k
theorem we_dget2O {tx : TE} {t : Tab} (he : env[i]? = some (.dic t)) (h : WE K tk m env fun dk m2 => WE K tx m2 env fun dx m3 => ∃ c z, dk = .ints c ∧ dx = .int z ∧ P (.int ((tget t c).getD z)) m3) : WE K (tDGet2 (tVar i) tk tx) m env P := fun B Hs H σ r Q q => by
  obtain ⟨p, e1, w, e2⟩ := r.sl i _ he
  refine ⟨_, getD_of e1, p, rfl, .inr ⟨_, .inl e2⟩, h B Hs H σ r _ fun y dk Hs2 H2 m2 s2 r2 i2 k2 => ?_⟩
  refine k2 B Hs2 H2 σ r2 _ fun z dx Hs3 H3 m3 s3 r3 i3 k3 => ?_
  obtain ⟨c, z, rfl, rfl, k⟩ := k3
  cases i3
  obtain ⟨b, rfl, hb⟩ := is_ints i2
  obtain ⟨p', e1', w', e2'⟩ := r3.sl i _ he
  rw [e1] at e1'
  cases e1'
  refine ⟨_, dget_t (.inl e2') (r3.sub _ _ (s3 _ _ hb)), ?_⟩
  rw [getD_int]
  exact q _ _ Hs3 H3 m3 (s2.trans s3) r3 (.int _) k
theorem we_dget2I {tx : TE} {t : TabI} (he : env[i]? = some (.dik t)) (h : WE K tk m env fun dk m2 => WE K tx m2 env fun dx m3 => ∃ c z, dk = .int c ∧ dx = .int z ∧ P (.int ((iget t c).getD z)) m3) : WE K (tDGet2 (tVar i) tk tx) m env P := fun B Hs H σ r Q q => by
  obtain ⟨p, e1, w, e2⟩ := r.sl i _ he
  refine ⟨_, getD_of e1, p, rfl, .inl ⟨_, .inl e2⟩, h B Hs H σ r _ fun y dk Hs2 H2 m2 s2 r2 i2 k2 => ?_⟩
  refine k2 B Hs2 H2 σ r2 _ fun z dx Hs3 H3 m3 s3 r3 i3 k3 => ?_
  obtain ⟨c, z, rfl, rfl, k⟩ := k3
  cases i3
  cases i2
  obtain ⟨p', e1', w', e2'⟩ := r3.sl i _ he
  rw [e1] at e1'
  cases e1'
  have g := DGet.k (H := H3) (k := Sum.inl c) e2'
  rw [embI_get] at g
  refine ⟨_, g, ?_⟩
  rw [getD_int]
  exact q _ _ Hs3 H3 m3 (s2.trans s3) r3 (.int _) k
/-- d[k] = v, d our own -/
theorem ws_dput {t : Tab} (he : env[i]? = some (.dic t)) (h : WE K tv m env fun dv m1 => WE K tk m1 env fun dk m2 => ∃ c x, dv = .int x ∧ dk = .ints c ∧ t.length < 1000000 ∧ PO (.nx m2 (env.set i (.dic (tput t c x))))) : WS K (sDPut (tVar i) tk tv) m env PO := fun B Hs H σ D r q => by
  refine h B Hs H σ r _ fun v dv Hs1 H1 m1 s1 r1 i1 k1 => ?_
  obtain ⟨p, e1, w, e2⟩ := r1.sl i _ he
  refine ⟨_, getD_of e1, k1 B Hs1 H1 σ r1 _ fun y dk Hs2 H2 m2 s2 r2 i2 k2 => ?_⟩
  obtain ⟨c, x, rfl, rfl, hl, k⟩ := k2
  cases i1
  obtain ⟨b, rfl, hb⟩ := is_ints i2
  obtain ⟨p', e1', w', e2'⟩ := r2.sl i _ he
  rw [e1] at e1'
  cases e1'
  refine ⟨p, _, rfl, DPut.t e2' (key_tup (r2.sub _ _ hb)) (Nat.lt_of_lt_of_le (by rw [emb_len]; exact hl) (small_le (Nat.le_refl _))), ?_⟩
  rw [emb_put]
  exact q _ k Hs2 _ σ (s1.trans s2) (r2.write he rfl (getD_of e1) _ (.dic (tput t c x)) rfl fun w => ⟨p, rfl, w, upd_same⟩)
theorem ws_dputI {t : TabI} (he : env[i]? = some (.dik t)) (h : WE K tv m env fun dv m1 => WE K tk m1 env fun dk m2 => ∃ c x, dv = .int x ∧ dk = .int c ∧ t.length < 1000000 ∧ PO (.nx m2 (env.set i (.dik (iput t c x))))) : WS K (sDPut (tVar i) tk tv) m env PO := fun B Hs H σ D r q => by
  refine h B Hs H σ r _ fun v dv Hs1 H1 m1 s1 r1 i1 k1 => ?_
  obtain ⟨p, e1, w, e2⟩ := r1.sl i _ he
  refine ⟨_, getD_of e1, k1 B Hs1 H1 σ r1 _ fun y dk Hs2 H2 m2 s2 r2 i2 k2 => ?_⟩
  obtain ⟨c, x, rfl, rfl, hl, k⟩ := k2
  cases i1
  cases i2
  obtain ⟨p', e1', w', e2'⟩ := r2.sl i _ he
  rw [e1] at e1'
  cases e1'
  refine ⟨p, _, rfl, DPut.k (k := Sum.inl c) e2' (Nat.lt_of_lt_of_le (by rw [embI_len]; exact hl) (small_le (Nat.le_refl _))), ?_⟩
  rw [embI_put]
  exact q _ k Hs2 _ σ (s1.trans s2) (r2.write he rfl (getD_of e1) _ (.dik (iput t c x)) rfl fun w => ⟨p, rfl, w, upd_same⟩)

/-! ### calls -/
/-- a def over data alone: what it takes, what it may answer -/
abbrev SpecD := List D → (D → Prop) → Prop
def SpP (K : PySem.W.Frag) (sp : SpecD) : Sp := fun vs H Q _ => ∃ (B : Bs) (Hs : Hp) (ds : List D) (R : D → Prop), sp ds R ∧ B.st = none ∧ Rep K B Hs H (vs.map some) 0 (ds.map .sh) ∧
  ∀ v d Hs' H', Same Hs Hs' → Rep K B Hs' H' [] 0 [] → Is K Hs' v d → R d → Q v H'
/-- a def that draws: its first argument is the state -/
abbrev SpecS := Nat → List D → (D → Nat → Prop) → Prop
def SpS (K : PySem.W.Frag) (sp : SpecS) : Sp := fun vs H Q _ => ∃ (B : Bs) (Hs : Hp) (m : Nat) (ds : List D) (R : D → Nat → Prop), sp m ds R ∧ B.st ≠ none ∧ Rep K B Hs H (vs.map some) m (.sta :: ds.map .sh) ∧
  ∀ v d m' Hs' H', Same Hs Hs' → Rep K B Hs' H' [] m' [] → Is K Hs' v d → R d m' → Q v H'
def callB (Hs H : Hp) (st : Option StA) : Bs := ⟨fun a => match st with
  | some s => if a = s.st ∨ a = s.lf then none else H a
  | none => H a, fun a => NoTup (H a) ∧ Hs a = none, st⟩
theorem sls_of {B : Bs} {Hs H : Hp} : ∀ {vs : List V} {ds : List D}, IsA K Hs vs ds → ∀ (i : Nat) (o : Sl), (ds.map Sl.sh)[i]? = some o → SlOk K B Hs H ((vs.map some)[i]?.getD none) o := fun {vs ds} ha i o e => by
  rw [List.getElem?_map] at e
  cases q : ds[i]? with
  | none => rw [q] at e; cases e
  | some d =>
    rw [q] at e
    cases e
    obtain ⟨v, h1, h2⟩ := ha.get q
    rw [List.getElem?_map, h1]
    exact ⟨v, rfl, h2⟩
theorem own_sh {ds : List D} {i : Nat} {o : Sl} (e : (ds.map Sl.sh)[i]? = some o) : o.own = false := by
  rw [List.getElem?_map] at e
  cases q : ds[i]? with
  | none => rw [q] at e; cases e
  | some d => rw [q] at e; cases e; rfl
theorem call_rep {B : Bs} {Hs H : Hp} {σ : St} {vs : List V} (r : Rep K B Hs H σ m env) (ha : IsA K Hs vs ds) : Rep K (callB Hs H none) Hs H (vs.map some) 0 (ds.map .sh) :=
  ⟨fun b o e => e, r.sub, fun a h => h.2, fun a h => h.1, by rw [List.length_map, List.length_map, ha.length], sls_of ha, fun i j p oi oj e1 e2 h1 => (by rw [own_sh e1] at h1; cases h1), fun s e => by cases e⟩
theorem call_back {B : Bs} {Hs H Hs' H' : Hp} {σ : St} (r : Rep K B Hs H σ m env) (s : Same Hs Hs') (r' : Rep K (callB Hs H none) Hs' H' [] 0 []) : Rep K B Hs' H' σ m env :=
  r.ext r'.base s r'.sub fun a h1 h2 => r'.fa a ⟨h1, h2⟩
theorem we_call {sp : SpecD} {E : XK} (h : WA K tl m env fun ds m1 => ∃ R : D → Prop, sp ds R ∧ ∀ d, R d → P d m1) : WE K (tCall (SpP K sp) [] E tl) m env P := fun B Hs H σ r Q q => by
  refine h B Hs H σ r _ fun vs ds Hs1 H1 m1 s1 r1 i1 k1 => ?_
  obtain ⟨R, hs, hR⟩ := k1
  refine ⟨callB Hs1 H1 none, Hs1, ds, R, hs, rfl, ?_, fun v d Hs' H' s r' i k => q v d Hs' H' m1 (s1.trans s) (call_back r1 s r') i (hR d k)⟩
  rw [List.append_nil]
  exact call_rep r1 i1
/-- a call that hands the state on: the state's name stands in slot j -/
theorem we_callS {sp : SpecS} {E : XK} (he : env[j]? = some .sta) (h : WA K tl m env fun ds m1 => ∃ R : D → Nat → Prop, sp m1 ds R ∧ ∀ d m', R d m' → P d m') : WE K (tCall (SpS K sp) [] E (tCons (tVar j) tl)) m env P := fun B Hs H σ r Q q => by
  obtain ⟨s0, eb, ex⟩ := r.sl j _ he
  refine ⟨_, getD_of ex, h B Hs H σ r _ fun vs ds Hs1 H1 m1 s1 r1 i1 k1 => ?_⟩
  obtain ⟨R, hs, hR⟩ := k1
  obtain ⟨hst, z1, z2, f1, f2⟩ := r1.stt s0 eb
  have n1 : Hs1 s0.st = none := r1.fa _ f1
  have n2 : Hs1 s0.lf = none := r1.fa _ f2
  refine ⟨callB Hs1 H1 (some s0), Hs1, m1, ds, R, hs, (fun z => by cases z), ?_, fun v d m' Hs' H' s r' i k => q v d Hs' H' m' (s1.trans s) ?_ i (hR d m' k)⟩
  · rw [List.append_nil]
    refine ⟨fun b o e => ?_, r1.sub, fun a h => h.2, fun a h => h.1, ?_, fun i o e => ?_, fun i j p oi oj e1 e2 h1 => ?_, fun s e => ?_⟩
    · have e : (if b = s0.st ∨ b = s0.lf then none else H1 b) = some o := e
      split at e
      · cases e
      · exact e
    · rw [List.length_map, List.length_cons, List.length_cons, List.length_map, i1.length]
    · cases i with
      | zero => cases e; exact ⟨s0, rfl, rfl⟩
      | succ i => exact sls_of i1 i o e
    · cases i with
      | zero => cases e1; cases h1
      | succ i => rw [own_sh (ds := ds) (i := i) e1] at h1; cases h1
    · cases e
      obtain ⟨c, l, kk, g1, g2, g3, g4⟩ := hst
      have e1 : (callB Hs1 H1 (some s0)).H0 s0.st = none := if_pos (.inl rfl)
      have e2 : (callB Hs1 H1 (some s0)).H0 s0.lf = none := if_pos (.inr rfl)
      exact ⟨⟨c, l, kk, g1, g2, g3, g4⟩, e1, e2, ⟨⟨_, g1, fun _ z => by cases z⟩, n1⟩, ⟨⟨_, g3, fun _ z => by cases z⟩, n2⟩⟩
  · have keep : ∀ a u, a ≠ s0.st → a ≠ s0.lf → H1 a = some u → H' a = some u := fun a u h1 h2 e => r'.base a u (by
      show (if a = s0.st ∨ a = s0.lf then none else H1 a) = some u
      rw [if_neg (fun z => z.elim h1 h2)]
      exact e)
    have own : ∀ a, B.H0 a ≠ none → a ≠ s0.st ∧ a ≠ s0.lf := fun a h => ⟨fun z => h (by rw [z]; exact z1), fun z => h (by rw [z]; exact z2)⟩
    have fno : ∀ p, Own B Hs1 p → p ≠ s0.st ∧ p ≠ s0.lf := fun p w => ⟨fun z => w.2.2 (z ▸ f1), fun z => w.2.2 (z ▸ f2)⟩
    have own' : ∀ p, NoTup (H1 p) → Own B Hs1 p → Own B Hs' p := fun p hp w => ⟨w.1, r'.fa p ⟨hp, w.2.1⟩, w.2.2⟩
    refine ⟨fun b u e => ?_, r'.sub, fun a h => r'.fa a ⟨r1.fb a h, r1.fa a h⟩, fun a h => r'.fb a ⟨r1.fb a h, r1.fa a h⟩, r1.len, fun i o e => ?_, r1.ap, fun s2 e => ?_⟩
    · obtain ⟨g1, g2⟩ := own b (by rw [e]; intro z; cases z)
      exact keep b u g1 g2 (r1.base b u e)
    · have q := r1.sl i o e
      cases o with
      | any => trivial
      | sh d => obtain ⟨v, e1, h⟩ := q; exact ⟨v, e1, h.to s⟩
      | lst ds => obtain ⟨p, xs, e1, w, h, g⟩ := q; exact ⟨p, xs, e1, own' p ⟨_, h, fun _ z => by cases z⟩ w, keep p _ (fno p w).1 (fno p w).2 h, g.to s⟩
      | dic t => obtain ⟨p, e1, w, h⟩ := q; exact ⟨p, e1, own' p ⟨_, h, fun _ z => by cases z⟩ w, keep p _ (fno p w).1 (fno p w).2 h⟩
      | dik t => obtain ⟨p, e1, w, h⟩ := q; exact ⟨p, e1, own' p ⟨_, h, fun _ z => by cases z⟩ w, keep p _ (fno p w).1 (fno p w).2 h⟩
      | sta => exact q
    · rw [eb] at e
      cases e
      exact ⟨(r'.stt s0 rfl).1, z1, z2, f1, f2⟩
/-! ### a def's body -/
def FnPost (R : D → Prop) : Out → Prop
  | .rt d _ => R d
  | .nx _ _ => R .non
  | _ => False
def FnPostS (R : D → Nat → Prop) : Out → Prop
  | .rt d m => R d m
  | .nx m _ => R .non m
  | _ => False
theorem start_rep {B : Bs} {Hs H : Hp} {vs : List V} {es : List Sl} {N : List Str} (r : Rep K B Hs H (vs.map some) m es) (hn : vs.length ≤ N.length) : Rep K B Hs H (L2.start N vs) m (es ++ List.replicate (N.length - es.length) .any) := by
  have hl : vs.length = es.length := by
    have := r.len
    rw [List.length_map] at this
    exact this
  refine ⟨r.base, r.sub, r.fa, r.fb, ?_, fun i o e => ?_, fun i j p oi oj e1 e2 h1 h2 g1 g2 => ?_, r.stt⟩
  · unfold L2.start
    rw [List.length_append, List.length_append, List.length_map, List.length_replicate, List.length_replicate, hl]
  · by_cases hi : i < es.length
    · rw [List.getElem?_append_left hi] at e
      unfold L2.start
      rw [List.getElem?_append_left (by rw [List.length_map, hl]; exact hi)]
      exact r.sl i o e
    · rw [List.getElem?_append_right (by omega), List.getElem?_replicate] at e
      split at e
      · cases e; trivial
      · cases e
  · have low : ∀ (k : Nat) (o : Sl), (es ++ List.replicate (N.length - es.length) Sl.any)[k]? = some o → o.own = true → k < es.length ∧ es[k]? = some o := fun k o e h => by
      by_cases hi : k < es.length
      · rw [List.getElem?_append_left hi] at e
        exact ⟨hi, e⟩
      · rw [List.getElem?_append_right (by omega), List.getElem?_replicate] at e
        split at e
        · cases e; cases h
        · cases e
    obtain ⟨a1, a2⟩ := low i oi e1 h1
    obtain ⟨b1, b2⟩ := low j oj e2 h2
    unfold L2.start at g1 g2
    rw [List.getElem?_append_left (by rw [List.length_map, hl]; omega)] at g1 g2
    exact r.ap i j p oi oj a2 b2 h1 h2 g1 g2
theorem fn_run {sp : SpecD} {N : List Str} {vs : List V} {H : Hp} {Q : VK} {E : XK} {n : Nat} (h : SpP K sp vs H Q E) (hn : ∀ ds R, sp ds R → ds.length = n) (hN : n ≤ N.length)
    (hw : ∀ ds R, sp ds R → WS K ts 0 (ds.map .sh ++ List.replicate (N.length - ds.length) .any) (FnPost R)) : ts { nx := fun _ H' => Q .non H', rt := Q } (L2.start N vs) H := by
  obtain ⟨B, Hs, ds, R, hs, hb, r, q⟩ := h
  have hl : vs.length = ds.length := by
    have := r.len
    rw [List.length_map, List.length_map] at this
    exact this
  have r2 := start_rep (N := N) r (by rw [hl, hn ds R hs]; exact hN)
  rw [List.length_map] at r2
  have any0 : ∀ {Hs' H' : Hp} {m : Nat} {σ : St} {env : List Sl}, Rep K B Hs' H' σ m env → Rep K B Hs' H' [] 0 [] := fun r => ⟨r.base, r.sub, r.fa, r.fb, rfl, fun i o e => by simp at e, fun i j p oi oj e => by simp at e, fun s e => by rw [hb] at e; cases e⟩
  refine hw ds R hs B Hs H _ _ r2 fun o ho => ?_
  cases o with
  | nx m1 env1 => exact fun Hs' H' σ' s r' => q _ _ Hs' H' s (any0 r') .non ho
  | rt d m1 => exact fun v Hs' H' s r' i => q v d Hs' H' s (any0 r') i ho
  | bk m1 env1 => exact ho.elim
  | ct m1 env1 => exact ho.elim
theorem fn_runS {sp : SpecS} {N : List Str} {vs : List V} {H : Hp} {Q : VK} {E : XK} {n : Nat} (h : SpS K sp vs H Q E) (hn : ∀ m ds R, sp m ds R → ds.length + 1 = n) (hN : n ≤ N.length)
    (hw : ∀ m ds R, sp m ds R → WS K ts m (.sta :: ds.map .sh ++ List.replicate (N.length - (ds.length + 1)) .any) (FnPostS R)) : ts { nx := fun _ H' => Q .non H', rt := Q } (L2.start N vs) H := by
  obtain ⟨B, Hs, m, ds, R, hs, hb, r, q⟩ := h
  have hl : vs.length = ds.length + 1 := by
    have := r.len
    rw [List.length_map, List.length_cons, List.length_map] at this
    exact this
  have r2 := start_rep (N := N) r (by rw [hl, hn m ds R hs]; exact hN)
  rw [List.length_cons, List.length_map] at r2
  refine hw m ds R hs B Hs H _ _ r2 fun o ho => ?_
  cases o with
  | nx m1 env1 => exact fun Hs' H' σ' s r' => q _ _ m1 Hs' H' s r'.slots .non ho
  | rt d m1 => exact fun v Hs' H' s r' i => q v d m1 Hs' H' s r' i ho
  | bk m1 env1 => exact ho.elim
  | ct m1 env1 => exact ho.elim
end
end MW
end
section
set_option Elab.async false
set_option linter.all false
set_option maxRecDepth 100000
set_option maxHeartbeats 4000000
namespace MW
open PySem L2

section
variable {K : PySem.W.Frag} {B : Bs} {Hs Hs' H H' H1 : Hp} {σ σ' : St} {te ta tb tc tk tv : TE} {tl : TA} {tt tu : TT} {ts tz : TS} {m m' : Nat} {env env' : List Sl} {P P' : D → Nat → Prop} {PL : List D → Nat → Prop} {PT' : Bool → Nat → Prop} {PO : Out → Prop} {i j : Nat} {d : D} {ds : List D}

/-! ### what is walked -/
structure Walks (K : PySem.W.Frag) (J : It) (ds : List D) (Hs : Hp) : Prop where
  go : ∀ i H, Same Hs H → i < ds.length → J.go i H
  stop : ∀ i H, Same Hs H → ds.length ≤ i → J.stop i H
  yld : ∀ i H x H' d, Same Hs H → J.yld i H x H' → ds[i]? = some d → H' = H ∧ (Is K Hs x d ∨ ∃ q c, x = .ref q ∧ d = .ints c ∧ H q = some (.tup (c.map V.int)))
def Src (K : PySem.W.Frag) (wi : TI) (m : Nat) (env : List Sl) (P : List D → Nat → Prop) : Prop :=
  ∀ (B : Bs) (Hs H : Hp) (σ : St), Rep K B Hs H σ m env → ∀ R : It → Hp → Prop, (∀ J Hs' H' m' ds, Same Hs Hs' → Rep K B Hs' H' σ m' env → P ds m' → Walks K J ds Hs' → R J H') → wi σ H R
theorem walks_list {a : Addr} {xs : List V} (h : Hs a = some (.lst xs)) (hx : IsA K Hs xs ds) : Walks K (Itl K a) ds Hs where
  go := fun i H s hi => ⟨xs, xs[i]'(by rw [hx.length]; exact hi), SqL.of (s _ _ h), List.getElem?_eq_getElem _⟩
  stop := fun i H s hi => ⟨xs, SqL.of (s _ _ h), by rw [hx.length]; exact hi⟩
  yld := fun i H x H' d s hy hd => by
    obtain ⟨e, hy⟩ := hy
    obtain ⟨v, h1, h2⟩ := hx.get hd
    have := hy xs (SqL.of (s _ _ h))
    rw [h1] at this
    cases this
    exact ⟨e, .inl h2⟩
theorem src_list (h : WE K te m env fun d m1 => ∃ ds, d = .lst ds ∧ PL ds m1) : Src K (iList K te) m env PL := fun B Hs H σ r R q => by
  refine h B Hs H σ r _ fun v d Hs1 H1 m1 s1 r1 i1 k1 => ?_
  obtain ⟨ds, rfl, k⟩ := k1
  cases i1 with
  | lst h1 h2 => exact ⟨_, rfl, ⟨_, SqL.of (r1.sub _ _ h1)⟩, q _ Hs1 H1 m1 ds s1 r1 k (walks_list h1 h2)⟩
/-- over a new list -/
theorem src_newL (h : WL K te m env fun ds m1 => PL ds m1) : Src K (iList K te) m env PL := src_list (we_wl (h := fun B Hs H σ r Q q => h B Hs H σ r Q fun p xs ds Hs' H' m' s r' w a hp hx k => q p xs ds Hs' H' m' s r' w a hp hx ⟨ds, rfl, k⟩))
theorem src_tup (h : WE K te m env fun d m1 => ∃ ds, d = .tup ds ∧ PL ds m1) : Src K (iTup K te) m env PL := fun B Hs H σ r R q => by
  refine h B Hs H σ r _ fun v d Hs1 H1 m1 s1 r1 i1 k1 => ?_
  obtain ⟨ds, rfl, k⟩ := k1
  cases i1 with
  | tup h1 hx =>
    refine ⟨_, rfl, ⟨_, SqT.of (r1.sub _ _ h1)⟩, q _ Hs1 H1 m1 ds s1 r1 k ⟨fun i H s hi => ⟨_, _, SqT.of (s _ _ h1), List.getElem?_eq_getElem (by rw [hx.length]; exact hi)⟩, fun i H s hi => ⟨_, SqT.of (s _ _ h1), by rw [hx.length]; exact hi⟩, fun i H x H' d s hy hd => ?_⟩⟩
    obtain ⟨e, hy⟩ := hy
    obtain ⟨v, g1, g2⟩ := hx.get hd
    have := hy _ (SqT.of (s _ _ h1))
    rw [g1] at this
    cases this
    exact ⟨e, .inl g2⟩
theorem src_scr (h : WE K te m env fun d m1 => ∃ ns : List Int, d = .scr ns ∧ PL (ns.map .int) m1) : Src K (iList K te) m env PL := fun B Hs H σ r R q => by
  refine h B Hs H σ r _ fun v d Hs1 H1 m1 s1 r1 i1 k1 => ?_
  obtain ⟨ns, rfl, k⟩ := k1
  cases i1 with
  | scr h1 =>
    have hl : (ns.map D.int).length = (ns.map V.int).length := by rw [List.length_map, List.length_map]
    refine ⟨_, rfl, ⟨_, r1.sub.seq h1⟩, q _ Hs1 H1 m1 _ s1 r1 k ⟨fun i H s hi => ⟨_, _, s.seq h1, List.getElem?_eq_getElem (by rw [← hl]; exact hi)⟩, fun i H s hi => ⟨_, s.seq h1, by rw [← hl]; exact hi⟩, fun i H x H' d s hy hd => ?_⟩⟩
    obtain ⟨e, hy⟩ := hy
    obtain ⟨v, g1, g2⟩ := (IsA.ints (K := K) (H := Hs1) ns).get hd
    have := hy _ (s.seq h1)
    rw [g1] at this
    cases this
    exact ⟨e, .inl g2⟩
def rng (lo hi : Int) : List D := (List.range (hi - lo).toNat).map fun (k : Nat) => D.int (lo + (k : Int))
theorem rng_len (lo hi : Int) : (rng lo hi).length = (hi - lo).toNat := by unfold rng; rw [List.length_map, List.length_range]
theorem rng_get {lo hi : Int} {k : Nat} {d : D} (h : (rng lo hi)[k]? = some d) : d = .int (lo + (k : Int)) ∧ k < (hi - lo).toNat := by
  unfold rng at h
  rw [List.getElem?_map] at h
  cases e : (List.range (hi - lo).toNat)[k]? with
  | none => rw [e] at h; cases h
  | some z =>
    rw [e] at h
    obtain ⟨h1, h2⟩ := List.getElem?_eq_some_iff.mp e
    rw [List.length_range] at h1
    rw [List.getElem_range] at h2
    subst h2
    cases h
    exact ⟨rfl, h1⟩
theorem walks_rng {lo : Int} {n : Nat} {hi : Int} (hn : (hi - lo).toNat = n) : Walks K (Itr lo n) (rng lo hi) Hs where
  go := fun i H s h => by rw [rng_len, hn] at h; exact h
  stop := fun i H s h => by rw [rng_len, hn] at h; exact h
  yld := fun i H x H' d s hy hd => by
    obtain ⟨e, rfl⟩ := hy
    obtain ⟨e2, _⟩ := rng_get hd
    rw [e2]
    exact ⟨e, .inl (.int _)⟩
theorem src_rng1 (h : WE K te m env fun d m1 => ∃ n : Int, d = .int n ∧ n ≤ 1000000 ∧ -1000000 ≤ n ∧ PL (rng 0 n) m1) : Src K (iRng1 (tCons te tNil)) m env PL := fun B Hs H σ r R q => by
  refine h B Hs H σ r _ fun v d Hs1 H1 m1 s1 r1 i1 k1 => ?_
  obtain ⟨n, rfl, h1, h2, k⟩ := k1
  cases i1
  exact ⟨n, rfl, by omega, by omega, q _ Hs1 H1 m1 _ s1 r1 k (walks_rng (by rw [Int.sub_zero]))⟩
theorem src_rng2 (h : WE K ta m env fun da m1 => WE K tb m1 env fun db m2 => ∃ a b : Int, da = .int a ∧ db = .int b ∧ a ≤ 1000000 ∧ -1000000 ≤ a ∧ b ≤ 1000000 ∧ -1000000 ≤ b ∧ PL (rng a b) m2) : Src K (iRng2 (tCons ta (tCons tb tNil))) m env PL := fun B Hs H σ r R q => by
  refine h B Hs H σ r _ fun v d Hs1 H1 m1 s1 r1 i1 k1 => ?_
  refine k1 B Hs1 H1 σ r1 _ fun y db Hs2 H2 m2 s2 r2 i2 k2 => ?_
  obtain ⟨a, b, rfl, rfl, h1, h2, h3, h4, k⟩ := k2
  cases i1
  cases i2
  exact ⟨a, b, rfl, ⟨by omega, by omega, by omega, by omega⟩, q _ Hs2 H2 m2 _ (s1.trans s2) r2 k (walks_rng rfl)⟩
theorem walks_keys {a : Addr} {t : Tab} {o : Obj} (h : Hs a = some (.frz o (.dT (emb t)))) : Walks K (Itkt a o (emb t)) (t.map fun p => D.ints p.1) Hs where
  go := fun i H s hi => ⟨s _ _ h, by rw [emb_len]; rw [List.length_map] at hi; exact hi⟩
  stop := fun i H s hi => ⟨s _ _ h, by rw [emb_len]; rw [List.length_map] at hi; exact hi⟩
  yld := fun i H x H' d s hy hd => by
    obtain ⟨e, k, v, q, h1, h2, h3⟩ := hy
    rw [List.getElem?_map] at hd
    unfold emb at h1
    rw [List.getElem?_map] at h1
    cases ht : t[i]? with
    | none => rw [ht] at hd; cases hd
    | some p =>
      rw [ht] at hd h1
      cases hd
      cases h1
      rw [kV_ints] at h3
      exact ⟨e, .inr ⟨q, p.1, h2, rfl, h3⟩⟩

/-! ### targets -/
def WG (K : PySem.W.Frag) (g : TG) (is : List Nat) (x : D) (m : Nat) (env : List Sl) (P : List Sl → Prop) : Prop :=
  ∀ (B : Bs) (Hs H : Hp) (σ : St) (v : V), Rep K B Hs H σ m env → Is K Hs v x → ∀ Q : St → Hp → Prop, (∀ σ' env', Rep K B Hs H σ' m env' → σ'.length = σ.length → env'.length = env.length → (∀ k, k ∉ is → σ'[k]? = σ[k]? ∧ env'[k]? = env[k]?) → P env' → Q σ' H) → g v σ H Q
theorem wg_name {x : D} {PG' : List Sl → Prop} (h : PG' (env.set i (.sh x))) : WG K (gName i) [i] x m env PG' := fun B Hs H σ v r iv Q q =>
  q _ _ (r.store i v (.sh x) ⟨v, rfl, iv⟩ fun z => by cases z) (List.length_set ..) (List.length_set ..) (fun k hk => by
    have : i ≠ k := fun e => hk (by rw [e]; exact List.mem_singleton.mpr rfl)
    exact ⟨List.getElem?_set_ne this, List.getElem?_set_ne this⟩) h
theorem wg_pair {a b : D} {n : Nat} (hn : n = 2) {PG' : List Sl → Prop} (h : PG' ((env.set i (.sh a)).set j (.sh b))) : WG K (gTup K n (gCons (gName i) (gCons (gName j) gNil))) [i, j] (.tup [a, b]) m env PG' := fun B Hs H σ v r iv Q q => by
  subst hn
  cases iv with
  | tup h1 h2 =>
    cases h2 with
    | cons k1 k2 =>
      cases k2 with
      | cons k2 k3 =>
        cases k3
        refine ⟨_, _, rfl, SqT.of (r.sub _ _ h1), rfl, _, _, rfl, _, _, rfl, rfl, ?_⟩
        refine q _ _ ((r.store i _ (.sh a) ⟨_, rfl, k1⟩ fun z => by cases z).store j _ (.sh b) ⟨_, rfl, k2⟩ fun z => by cases z) (by rw [List.length_set, List.length_set]) (by rw [List.length_set, List.length_set]) (fun k hk => ?_) h
        have n1 : i ≠ k := fun e => hk (by rw [e]; exact List.mem_cons_self)
        have n2 : j ≠ k := fun e => hk (by rw [e]; exact List.mem_cons_of_mem _ (List.mem_singleton.mpr rfl))
        exact ⟨by rw [List.getElem?_set_ne n2, List.getElem?_set_ne n1], by rw [List.getElem?_set_ne n2, List.getElem?_set_ne n1]⟩

/-! ### for -/
def LoopP (N : Nat → List Sl → Prop) (PO : Out → Prop) : Out → Prop
  | .nx m e => N m e
  | .ct m e => N m e
  | .bk m e => PO (.nx m e)
  | .rt d m => PO (.rt d m)
theorem for_core {tb' : TS} {J : It} {g : TG} {is : List Nat} {D : Ends} (r : Rep K B Hs H σ m env) (w : Walks K J ds Hs) (S : Nat → Nat → List Sl → Prop) (h0 : S 0 m env)
    (hs : ∀ i x m2 env2, ds[i]? = some x → S i m2 env2 → WG K g is x m2 env2 fun env3 => WS K tb' m2 env3 (LoopP (S (i + 1)) PO)) (hd : ∀ m2 env2, S ds.length m2 env2 → PO (.nx m2 env2)) (q : ∀ o, PO o → Does K B D Hs o) :
    ∃ W : Nat → Nat → St → Hp → Prop, (∃ n, W 0 n σ H) ∧ ∀ i n σ H, W i n σ H →
      (J.stop i H ∧ D.nx σ H) ∨ (J.go i H ∧ ∃ N : St → Hp → Prop, (∀ σ' H', N σ' H' → ∃ n', n' < n ∧ W (i + 1) n' σ' H') ∧ ∀ x H', J.yld i H x H' → g x σ H' fun σ2 H2 => tb' { D with nx := N, ct := N, bk := D.nx } σ2 H2) := by
  refine ⟨fun i n σ H => n = ds.length - i ∧ i ≤ ds.length ∧ ∃ Hs1 m1 env1, Same Hs Hs1 ∧ Rep K B Hs1 H σ m1 env1 ∧ S i m1 env1, ⟨_, rfl, Nat.zero_le _, Hs, m, env, Same.refl _, r, h0⟩, ?_⟩
  rintro i n σ H ⟨rfl, hi, Hs1, m1, env1, s1, r1, k1⟩
  have s2 : Same Hs H := fun b o e => r1.sub b o (s1 b o e)
  by_cases hlt : i < ds.length
  · refine .inr ⟨w.go i H s2 hlt, fun σ' H' => ∃ Hs2 m2 env2, Same Hs1 Hs2 ∧ Rep K B Hs2 H' σ' m2 env2 ∧ S (i + 1) m2 env2, fun σ' H' ⟨Hs2, m2, env2, a, b, c⟩ => ⟨ds.length - (i + 1), by omega, rfl, hlt, Hs2, m2, env2, s1.trans a, b, c⟩, fun x H' y => ?_⟩
    obtain ⟨d, ed⟩ : ∃ d, ds[i]? = some d := ⟨_, List.getElem?_eq_getElem hlt⟩
    obtain ⟨rfl, hx⟩ := w.yld i H x H' d s2 y ed
    have go : ∀ Hs2, Same Hs1 Hs2 → Rep K B Hs2 H' σ m1 env1 → Is K Hs2 x d → g x σ H' fun σ2 H2 => tb' { D with nx := fun σ' H' => ∃ Hs2 m2 env2, Same Hs1 Hs2 ∧ Rep K B Hs2 H' σ' m2 env2 ∧ S (i + 1) m2 env2, ct := fun σ' H' => ∃ Hs2 m2 env2, Same Hs1 Hs2 ∧ Rep K B Hs2 H' σ' m2 env2 ∧ S (i + 1) m2 env2, bk := D.nx } σ2 H2 := fun Hs2 s3 r2 ix => by
      refine hs i d m1 env1 ed k1 B Hs2 H' σ x r2 ix _ fun σ' env' r3 _ _ _ k3 => ?_
      refine k3 B Hs2 H' σ' _ r3 fun o ho => ?_
      cases o with
      | nx m2 env2 => exact fun Hs3 H3 σ3 s r' => ⟨Hs3, m2, env2, s3.trans s, r', ho⟩
      | ct m2 env2 => exact fun Hs3 H3 σ3 s r' => ⟨Hs3, m2, env2, s3.trans s, r', ho⟩
      | bk m2 env2 => exact fun Hs3 H3 σ3 s r' => (q _ ho) Hs3 H3 σ3 (s1.trans (s3.trans s)) r'
      | rt d2 m2 => exact fun v Hs3 H3 s r' i' => (q _ ho) v Hs3 H3 (s1.trans (s3.trans s)) r' i'
    rcases hx with hx | ⟨q', c, rfl, rfl, hq⟩
    · exact go Hs1 (Same.refl _) r1 (hx.to s1)
    · obtain ⟨Hs2, s3, r2, e2⟩ := r1.addT hq
      exact go Hs2 s3 r2 (.tup e2 (IsA.ints c))
  · have e : i = ds.length := by omega
    subst e
    exact .inl ⟨w.stop _ H s2 (Nat.le_refl _), (q _ (hd m1 env1 k1)) Hs1 H σ s1 r1⟩
theorem ws_for {wi : TI} {g : TG} {tb' : TS} {is : List Nat} (h : Src K wi m env fun ds m1 => ∃ S : Nat → Nat → List Sl → Prop, S 0 m1 env ∧
      (∀ i x m2 env2, ds[i]? = some x → S i m2 env2 → WG K g is x m2 env2 fun env3 => WS K tb' m2 env3 (LoopP (S (i + 1)) PO)) ∧ (∀ m2 env2, S ds.length m2 env2 → PO (.nx m2 env2))) : WS K (tFor wi g tb') m env PO := fun B Hs H σ D r q => by
  refine h B Hs H σ r _ fun J Hs1 H1 m1 ds s1 r1 k1 w => ?_
  obtain ⟨S, a, b, c⟩ := k1
  exact for_core r1 w S a b c fun o e => (q o e).to s1
/-! ### a dict's keys, under a lock (where it is not locked already) -/
def tLk (t : TS) : TS := fun D σ H => tLock t D σ H ∨ t D σ H
theorem ps_lk {X : Cx} {st : Stmt} {t : TS} (h : PS X st t) : PS X st (tLk t) := by
  refine ⟨fun pins s σ H D I q => ?_⟩
  rcases q with q | q
  · exact (ps_lock h).run pins s σ H D I q
  · exact h.run pins s σ H D I q
noncomputable def lockH (H : Hp) (d : Addr) (o : Obj) (u : HO) : Hp := fun a => open Classical in if a = d ∧ H a = some u then some (.frz o u) else H a
theorem lockH_at {H : Hp} {d : Addr} {o : Obj} {u : HO} (h : H d = some u) : lockH H d o u d = some (.frz o u) := by unfold lockH; rw [if_pos ⟨rfl, h⟩]
theorem lockH_ne {H : Hp} {d a : Addr} {o : Obj} {u : HO} (h : a ≠ d) : lockH H d o u a = H a := by unfold lockH; rw [if_neg fun z => h z.1]
theorem lockH_no {H : Hp} {d a : Addr} {o : Obj} {u : HO} (h : H a ≠ some u) : lockH H d o u a = H a := by unfold lockH; rw [if_neg fun z => h z.2]
theorem lockH_upd {H : Hp} {d : Addr} {o : Obj} {u : HO} (h : H d = some u) : lockH H d o u = upd H d (.frz o u) := by
  funext a
  by_cases e : a = d
  · subst e; rw [lockH_at h, upd_same]
  · rw [lockH_ne e, upd_ne e]
theorem lockH_same {H H' : Hp} {d : Addr} {o : Obj} {u : HO} (s : Same H H') (h : H' d = some u) : Same (lockH H d o u) (lockH H' d o u) := fun a w e => by
  by_cases ea : a = d
  · subst ea
    rw [lockH_at h]
    by_cases hu : H a = some u
    · rw [lockH_at hu] at e; exact e
    · rw [lockH_no hu] at e
      have := s a w e
      rw [h] at this
      exact absurd (e.trans this.symm) hu
  · rw [lockH_ne ea] at e ⊢
    exact s a w e
theorem lockH_gx {H : Hp} {d : Addr} {o : Obj} {t : List (List Key × V)} : Gx K H (lockH H d o (.dT t)) where
  tup := fun a xs h => by rw [lockH_no (by rw [h]; intro z; cases z)]; exact h
  lst := fun a xs h => by rw [lockH_no (by rw [h]; intro z; cases z)]; exact h
  tik := fun a xs h => by rw [lockH_no (by rw [h]; intro z; cases z)]; exact h
  tab := fun a t' h => by
    by_cases e : a = d
    · subst e
      rcases h with h | ⟨o', h⟩
      · by_cases hu : H a = some (.dT t)
        · rw [hu] at h
          cases h
          exact .inr ⟨o, lockH_at hu⟩
        · exact .inl (by rw [lockH_no hu]; exact h)
      · exact .inr ⟨o', by rw [lockH_no (by rw [h]; intro z; cases z)]; exact h⟩
    · rcases h with h | ⟨o', h⟩
      · exact .inl (by rw [lockH_ne e]; exact h)
      · exact .inr ⟨o', by rw [lockH_ne e]; exact h⟩
  scr := fun a xs h => by
    rcases h with (h | ⟨o', h⟩) | h
    · exact .inl (.inl (by rw [lockH_no (by rw [h]; intro z; cases z)]; exact h))
    · exact .inl (.inr ⟨o', by rw [lockH_no (by rw [h]; intro z; cases z)]; exact h⟩)
    · exact .inr h
/-- the lock is taken -/
theorem Rep.lock {dd : Addr} {od : Obj} {t : List (List Key × V)} (r : Rep K B Hs H σ m env) (h : Hs dd = some (.dT t)) :
    Rep K ⟨lockH B.H0 dd od (.dT t), B.F, B.st⟩ (lockH Hs dd od (.dT t)) (upd H dd (.frz od (.dT t))) σ m env := by
  have hH := r.sub _ _ h
  have nF : ¬ B.F dd := fun z => by rw [r.fa _ z] at h; cases h
  have own : ∀ p, Own B Hs p → p ≠ dd ∧ Own ⟨lockH B.H0 dd od (.dT t), B.F, B.st⟩ (lockH Hs dd od (.dT t)) p := fun p w => by
    have hp : p ≠ dd := fun z => by
      have q := w.2.1
      rw [z, h] at q; cases q
    exact ⟨hp, by show lockH B.H0 dd od (.dT t) p = none; rw [lockH_ne hp]; exact w.1, by rw [lockH_ne hp]; exact w.2.1, w.2.2⟩
  rw [← lockH_upd (o := od) hH]
  refine ⟨lockH_same r.base hH, lockH_same r.sub hH, fun a z => ?_, fun a z => ?_, r.len, fun i o e => ?_, r.ap, fun s e => ?_⟩
  · have := r.fa a z
    rw [lockH_no (by rw [this]; intro z; cases z)]; exact this
  · have n : a ≠ dd := fun e => nF (e ▸ z)
    rw [lockH_ne n]; exact r.fb a z
  · have q := r.sl i o e
    cases o with
    | any => trivial
    | sh d => obtain ⟨v, e1, h⟩ := q; exact ⟨v, e1, h.mono lockH_gx⟩
    | lst ds => obtain ⟨p, xs, e1, w, h, g⟩ := q; obtain ⟨n, w'⟩ := own p w; exact ⟨p, xs, e1, w', by rw [lockH_ne n]; exact h, g.mono lockH_gx⟩
    | dic t => obtain ⟨p, e1, w, h⟩ := q; obtain ⟨n, w'⟩ := own p w; exact ⟨p, e1, w', by rw [lockH_ne n]; exact h⟩
    | dik t => obtain ⟨p, e1, w, h⟩ := q; obtain ⟨n, w'⟩ := own p w; exact ⟨p, e1, w', by rw [lockH_ne n]; exact h⟩
    | sta => exact q
  · obtain ⟨⟨c, l, k, e1, e2, e3, g⟩, z1, z2, f1, f2⟩ := r.stt s e
    have n1 : s.st ≠ dd := fun z => nF (z ▸ f1)
    have n2 : s.lf ≠ dd := fun z => nF (z ▸ f2)
    refine ⟨⟨c, l, k, ?_, ?_, ?_, g⟩, ?_, ?_, f1, f2⟩
    · rw [lockH_ne n1]; exact e1
    · rw [lockH_no (by rw [e2]; intro z; cases z)]; exact e2
    · rw [lockH_ne n2]; exact e3
    · show lockH B.H0 dd od (.dT t) s.st = none
      rw [lockH_ne n1]; exact z1
    · show lockH B.H0 dd od (.dT t) s.lf = none
      rw [lockH_ne n2]; exact z2
/-- the lock is given back -/
theorem Rep.unlock {dd : Addr} {od : Obj} {t : List (List Key × V)} {Hs0 : Hp} (r : Rep K ⟨lockH B.H0 dd od (.dT t), B.F, B.st⟩ Hs' H' σ m env) (h : Hs0 dd = some (.dT t)) (s : Same (lockH Hs0 dd od (.dT t)) Hs') (hb : ∀ u, B.H0 dd = some u → u = .dT t) :
    H' dd = some (.frz od (.dT t)) ∧ Same Hs0 (upd Hs' dd (.dT t)) ∧ Rep K B (upd Hs' dd (.dT t)) (upd H' dd (.dT t)) σ m env := by
  have h1 : Hs' dd = some (.frz od (.dT t)) := s _ _ (lockH_at h)
  have h2 : H' dd = some (.frz od (.dT t)) := r.sub _ _ h1
  have nF : ¬ B.F dd := fun z => by
    have := r.fa dd z
    rw [h1] at this; cases this
  have gx : Gx K Hs' (upd Hs' dd (.dT t)) := {
    tup := fun a xs h => by rw [upd_ne (fun e => by rw [e, h1] at h; cases h)]; exact h
    lst := fun a xs h => by rw [upd_ne (fun e => by rw [e, h1] at h; cases h)]; exact h
    tik := fun a xs h => by rw [upd_ne (fun e => by rw [e, h1] at h; cases h)]; exact h
    tab := fun a t' hq => by
      by_cases e : a = dd
      · subst e
        rcases hq with hq | ⟨o', hq⟩
        · rw [h1] at hq
          injection (Option.some.inj hq)
        · rw [h1] at hq
          injection (Option.some.inj hq) with _ h4
          injection h4 with h5
          rw [← h5]
          exact .inl upd_same
      · rcases hq with hq | ⟨o', hq⟩
        · exact .inl (by rw [upd_ne e]; exact hq)
        · exact .inr ⟨o', by rw [upd_ne e]; exact hq⟩
    scr := fun a xs h => by
      rcases h with (h | ⟨o', h⟩) | h
      · exact .inl (.inl (by rw [upd_ne (fun e => by rw [e, h1] at h; cases h)]; exact h))
      · exact .inl (.inr ⟨o', by rw [upd_ne (fun e => by rw [e, h1] at h; cases h)]; exact h⟩)
      · exact .inr h }
  have own : ∀ p, Own ⟨lockH B.H0 dd od (.dT t), B.F, B.st⟩ Hs' p → p ≠ dd ∧ Own B (upd Hs' dd (.dT t)) p := fun p w => by
    have hp : p ≠ dd := fun z => by
      have q := w.2.1
      rw [z, h1] at q; cases q
    have w1 : lockH B.H0 dd od (.dT t) p = none := w.1
    rw [lockH_ne hp] at w1
    exact ⟨hp, w1, by rw [upd_ne hp]; exact w.2.1, w.2.2⟩
  refine ⟨h2, fun a u e => ?_, fun a u e => ?_, fun a u e => ?_, fun a z => ?_, fun a z => ?_, r.len, fun i o e => ?_, r.ap, fun s e => ?_⟩
  · by_cases ea : a = dd
    · subst ea; rw [h] at e; rw [upd_same]; exact e
    · rw [upd_ne ea]; exact s a u (by rw [lockH_ne ea]; exact e)
  · by_cases ea : a = dd
    · subst ea; rw [hb u e, upd_same]
    · rw [upd_ne ea]; exact r.base a u (by show lockH B.H0 dd od (.dT t) a = some u; rw [lockH_ne ea]; exact e)
  · by_cases ea : a = dd
    · subst ea; rw [upd_same] at e ⊢; exact e
    · rw [upd_ne ea] at e ⊢; exact r.sub a u e
  · have n : a ≠ dd := fun e => nF (e ▸ z)
    rw [upd_ne n]; exact r.fa a z
  · have n : a ≠ dd := fun e => nF (e ▸ z)
    rw [upd_ne n]; exact r.fb a z
  · have q := r.sl i o e
    cases o with
    | any => trivial
    | sh d => obtain ⟨v, e1, h⟩ := q; exact ⟨v, e1, h.mono gx⟩
    | lst ds => obtain ⟨p, xs, e1, w, h, g⟩ := q; obtain ⟨n, w'⟩ := own p w; exact ⟨p, xs, e1, w', by rw [upd_ne n]; exact h, g.mono gx⟩
    | dic t => obtain ⟨p, e1, w, h⟩ := q; obtain ⟨n, w'⟩ := own p w; exact ⟨p, e1, w', by rw [upd_ne n]; exact h⟩
    | dik t => obtain ⟨p, e1, w, h⟩ := q; obtain ⟨n, w'⟩ := own p w; exact ⟨p, e1, w', by rw [upd_ne n]; exact h⟩
    | sta => exact q
  · obtain ⟨⟨c, l, k, e1, e2, e3, g⟩, z1, z2, f1, f2⟩ := r.stt s e
    have n1 : s.st ≠ dd := fun z => nF (z ▸ f1)
    have n2 : s.lf ≠ dd := fun z => nF (z ▸ f2)
    have z1 : lockH B.H0 dd od (.dT t) s.st = none := z1
    have z2 : lockH B.H0 dd od (.dT t) s.lf = none := z2
    rw [lockH_ne n1] at z1
    rw [lockH_ne n2] at z2
    refine ⟨⟨c, l, k, ?_, ?_, ?_, g⟩, z1, z2, f1, f2⟩
    · rw [upd_ne n1]; exact e1
    · rw [upd_ne (fun e => by rw [e, h1] at e2; cases e2)]; exact e2
    · rw [upd_ne n2]; exact e3
theorem ws_forK {g : TG} {tb' : TS} {is : List Nat} {t : Tab} (he : env[i]? = some (.sh (.tab t))) (S : Nat → Nat → List Sl → Prop) (h0 : S 0 m env)
    (hs : ∀ i x m2 env2, (t.map fun p => MW.D.ints p.1)[i]? = some x → S i m2 env2 → WG K g is x m2 env2 fun env3 => WS K tb' m2 env3 (LoopP (S (i + 1)) PO)) (hd : ∀ m2 env2, S t.length m2 env2 → PO (.nx m2 env2)) : WS K (tLk (tFor (iKeys (tVar i)) g tb')) m env PO := fun B Hs H σ D r q => by
  obtain ⟨v, e1, e2⟩ := r.sl i _ he
  have hl : (t.map fun p => MW.D.ints p.1).length = t.length := List.length_map _
  cases e2 with
  | tab e2 =>
    rename_i a
    rcases e2 with e2 | ⟨o, e2⟩
    · refine .inl ⟨a, .dT (emb t), r.sub _ _ e2, trivial, fun od => ?_⟩
      have hb : ∀ u, B.H0 a = some u → u = .dT (emb t) := fun u e => by
        have := r.base a u e
        rw [r.sub _ _ e2] at this
        cases this; rfl
      have rl := r.lock (od := od) e2
      refine ⟨_, getD_of e1, a, od, rfl, .inr ⟨emb t, upd_same, ?_⟩⟩
      refine for_core rl (walks_keys (lockH_at e2)) S h0 hs (fun m2 env2 h => hd m2 env2 (by rw [hl] at h; exact h)) fun o ho => ?_
      cases o with
      | nx m2 env2 =>
        intro Hs' H' σ' s r'
        obtain ⟨a1, a2, a3⟩ := r'.unlock e2 s hb
        exact ⟨a1, q _ ho _ _ σ' a2 a3⟩
      | ct m2 env2 =>
        intro Hs' H' σ' s r'
        obtain ⟨a1, a2, a3⟩ := r'.unlock e2 s hb
        exact ⟨a1, q _ ho _ _ σ' a2 a3⟩
      | bk m2 env2 =>
        intro Hs' H' σ' s r'
        obtain ⟨a1, a2, a3⟩ := r'.unlock e2 s hb
        exact ⟨a1, q _ ho _ _ σ' a2 a3⟩
      | rt d2 m2 =>
        intro v Hs' H' s r' iv
        obtain ⟨a1, a2, a3⟩ := r'.unlock e2 s hb
        refine ⟨a1, q _ ho v _ _ a2 a3 ?_⟩
        have h1 : Hs' a = some (.frz od (.dT (emb t))) := s _ _ (lockH_at e2)
        refine iv.mono { tup := ?_, lst := ?_, tik := ?_, tab := ?_, scr := ?_ }
        · exact fun b xs h => by rw [upd_ne (fun e => by rw [e, h1] at h; cases h)]; exact h
        · exact fun b xs h => by rw [upd_ne (fun e => by rw [e, h1] at h; cases h)]; exact h
        · exact fun b t' hq => by
            by_cases e : b = a
            · subst e
              rcases hq with hq | ⟨o', hq⟩
              · rw [h1] at hq; cases hq
              · rw [h1] at hq
                injection (Option.some.inj hq) with _ h4
                injection h4 with h5
                rw [← h5]
                exact .inl upd_same
            · rcases hq with hq | ⟨o', hq⟩
              · exact .inl (by rw [upd_ne e]; exact hq)
              · exact .inr ⟨o', by rw [upd_ne e]; exact hq⟩
        · exact fun b xs h => by rw [upd_ne (fun e => by rw [e, h1] at h; cases h)]; exact h
        · exact fun b xs h => by
            rcases h with (h | ⟨o', h⟩) | h
            · exact .inl (.inl (by rw [upd_ne (fun e => by rw [e, h1] at h; cases h)]; exact h))
            · exact .inl (.inr ⟨o', by rw [upd_ne (fun e => by rw [e, h1] at h; cases h)]; exact h⟩)
            · exact .inr h
    · refine .inr ⟨_, getD_of e1, a, o, rfl, .inr ⟨emb t, r.sub _ _ e2, ?_⟩⟩
      exact for_core r (walks_keys e2) S h0 hs (fun m2 env2 h => hd m2 env2 (by rw [hl] at h; exact h)) q
end
end MW
end
section
set_option Elab.async false
set_option linter.all false
set_option maxRecDepth 100000
set_option maxHeartbeats 4000000
namespace MW
open PySem L2

section
variable {K : PySem.W.Frag} {B : Bs} {Hs Hs' H H' H1 : Hp} {σ σ' : St} {te ta tb tc tk tv : TE} {tl : TA} {tt tu : TT} {ts tz : TS} {m m' : Nat} {env env' : List Sl} {P P' : D → Nat → Prop} {PL : List D → Nat → Prop} {PT' : Bool → Nat → Prop} {PO : Out → Prop} {i j : Nat} {d : D} {ds : List D} {p : Addr}

/-! ### comprehensions -/
theorem Rep.resl (r : Rep K B Hs H σ m env) (hl : σ'.length = env'.length) (h : ∀ (i : Nat) (o : Sl), env'[i]? = some o → o ≠ Sl.any → env[i]? = some o ∧ σ'[i]? = σ[i]?) : Rep K B Hs H σ' m env' := by
  have own : ∀ {o : Sl}, o.own = true → o ≠ .any := fun h e => by rw [e] at h; cases h
  refine ⟨r.base, r.sub, r.fa, r.fb, hl, fun i o e => ?_, fun i j p oi oj e1 e2 h1 h2 g1 g2 => ?_, r.stt⟩
  · by_cases ho : o = .any
    · subst ho; trivial
    · obtain ⟨a, b⟩ := h i o e ho
      rw [b]
      exact r.sl i o a
  · obtain ⟨a1, b1⟩ := h i oi e1 (own h1)
    obtain ⟨a2, b2⟩ := h j oj e2 (own h2)
    rw [b1] at g1
    rw [b2] at g2
    exact r.ap i j p oi oj a1 a2 h1 h2 g1 g2
theorem wipe_at {σ : St} {k : Nat} : ∀ {vs : List Nat}, k ∈ vs → (wipe σ vs)[k]? = if k < σ.length then some none else none
  | v :: vs, h => by
    show ((wipe σ vs).set v none)[k]? = _
    by_cases e : v = k
    · subst e
      rw [List.getElem?_set, if_pos rfl, wipe_length]
    · rw [List.getElem?_set_ne e]
      exact wipe_at ((List.mem_cons.mp h).resolve_left fun z => e z.symm)
theorem wipe_congr {σ σ' : St} {vs : List Nat} (hl : σ.length = σ'.length) (h : ∀ k, k ∉ vs → σ[k]? = σ'[k]?) : wipe σ vs = wipe σ' vs := by
  apply List.ext_getElem?
  intro k
  by_cases hk : k ∈ vs
  · rw [wipe_at hk, wipe_at hk, hl]
  · rw [wipe_out hk, wipe_out hk, h k hk]
theorem wipe_wipe {σ : St} {vs : List Nat} : wipe (wipe σ vs) vs = wipe σ vs := wipe_congr (wipe_length σ vs) fun k hk => wipe_out hk
theorem Rep.holdN (r : Rep K B Hs H σ m env) (hs : Hs p = none) (ha : ∀ q, Own B Hs q → q ≠ p) (hst : ∀ s, B.st = some s → s.st ≠ p ∧ s.lf ≠ p) {o2 : HO} (n2 : ∀ xs, o2 ≠ .tup xs) :
    Rep K ⟨upd B.H0 p o2, fun a => B.F a ∨ a = p, B.st⟩ Hs (upd H p o2) σ m env := by
  have own : ∀ q, Own B Hs q → q ≠ p ∧ Own ⟨upd B.H0 p o2, fun a => B.F a ∨ a = p, B.st⟩ Hs q := fun q w => by
    have n := ha q w
    exact ⟨n, by show upd B.H0 p o2 q = none; rw [upd_ne n]; exact w.1, w.2.1, fun z => z.elim w.2.2 n⟩
  refine ⟨fun b u e => ?_, fun b u e => ?_, fun a h => ?_, fun a h => ?_, r.len, fun i o e => ?_, r.ap, fun s e => ?_⟩
  · have e : upd B.H0 p o2 b = some u := e
    by_cases hb : b = p
    · subst hb; rw [upd_same] at e ⊢; exact e
    · rw [upd_ne hb] at e ⊢; exact r.base b u e
  · rw [upd_ne (fun z => by rw [z, hs] at e; cases e)]; exact r.sub b u e
  · rcases h with h | h
    · exact r.fa a h
    · rw [h]; exact hs
  · by_cases hb : a = p
    · subst hb; exact ⟨o2, upd_same, n2⟩
    · rcases h with h | h
      · rw [upd_ne hb]; exact r.fb a h
      · exact absurd h hb
  · have q := r.sl i o e
    cases o with
    | any => trivial
    | sh d => exact q
    | lst ds => obtain ⟨p2, xs, e1, w, h, g⟩ := q; obtain ⟨n, w'⟩ := own p2 w; exact ⟨p2, xs, e1, w', by rw [upd_ne n]; exact h, g⟩
    | dic t => obtain ⟨p2, e1, w, h⟩ := q; obtain ⟨n, w'⟩ := own p2 w; exact ⟨p2, e1, w', by rw [upd_ne n]; exact h⟩
    | dik t => obtain ⟨p2, e1, w, h⟩ := q; obtain ⟨n, w'⟩ := own p2 w; exact ⟨p2, e1, w', by rw [upd_ne n]; exact h⟩
    | sta => exact q
  · obtain ⟨a, z1, z2, f1, f2⟩ := r.stt s e
    obtain ⟨n1, n2⟩ := hst s e
    refine ⟨a.to (Same.refl _) (fun u z => by rw [upd_ne n1]; exact z) (fun u z => by rw [upd_ne n2]; exact z) (Nat.le_refl _), ?_, ?_, .inl f1, .inl f2⟩
    · show upd B.H0 p o2 s.st = none
      rw [upd_ne n1]; exact z1
    · show upd B.H0 p o2 s.lf = none
      rw [upd_ne n2]; exact z2
def holdB (B : Bs) (p : Addr) (o : HO) : Bs := ⟨upd B.H0 p o, fun a => B.F a ∨ a = p, B.st⟩
theorem Rep.grow {o1 o2 : HO} (r : Rep K (holdB B p o1) Hs H σ m env) (n2 : ∀ xs, o2 ≠ .tup xs) : Rep K (holdB B p o2) Hs (upd H p o2) σ m env := by
  have hs : Hs p = none := r.fa p (.inr rfl)
  have q := r.holdN (p := p) hs (fun q w z => by
    have w1 : upd B.H0 p o1 q = none := w.1
    rw [z, upd_same] at w1; cases w1) (fun s e => by
    obtain ⟨_, z1, z2, _⟩ := r.stt s e
    have z1 : upd B.H0 p o1 s.st = none := z1
    have z2 : upd B.H0 p o1 s.lf = none := z2
    exact ⟨fun z => (by rw [z, upd_same] at z1; cases z1), fun z => (by rw [z, upd_same] at z2; cases z2)⟩) n2
  have eB : (⟨upd (holdB B p o1).H0 p o2, fun a => (holdB B p o1).F a ∨ a = p, (holdB B p o1).st⟩ : Bs) = holdB B p o2 := by
    unfold holdB
    simp only [upd_upd, or_assoc, or_self]
  rw [eB] at q
  exact q
theorem Rep.drop {o1 : HO} (r : Rep K (holdB B p o1) Hs H σ m env) (h0 : B.H0 p = none) : Rep K B Hs H σ m env := by
  have own : ∀ q, Own (holdB B p o1) Hs q → Own B Hs q := fun q w => by
    have w1 : upd B.H0 p o1 q = none := w.1
    have n : q ≠ p := fun z => by rw [z, upd_same] at w1; cases w1
    rw [upd_ne n] at w1
    exact ⟨w1, w.2.1, fun z => w.2.2 (.inl z)⟩
  refine ⟨fun b u e => r.base b u (by
    have n : b ≠ p := fun z => by rw [z, h0] at e; cases e
    show upd B.H0 p o1 b = some u
    rw [upd_ne n]; exact e), r.sub, fun a h => r.fa a (.inl h), fun a h => r.fb a (.inl h), r.len, fun i o e => ?_, r.ap, fun s e => ?_⟩
  · have q := r.sl i o e
    cases o with
    | any => trivial
    | sh d => exact q
    | lst ds => obtain ⟨p2, xs, e1, w, h, g⟩ := q; exact ⟨p2, xs, e1, own p2 w, h, g⟩
    | dic t => obtain ⟨p2, e1, w, h⟩ := q; exact ⟨p2, e1, own p2 w, h⟩
    | dik t => obtain ⟨p2, e1, w, h⟩ := q; exact ⟨p2, e1, own p2 w, h⟩
    | sta => exact q
  · obtain ⟨a, z1, z2, f1, f2⟩ := r.stt s e
    have z1 : upd B.H0 p o1 s.st = none := z1
    have z2 : upd B.H0 p o1 s.lf = none := z2
    have n1 : s.st ≠ p := fun z => by rw [z, upd_same] at z1; cases z1
    have n2 : s.lf ≠ p := fun z => by rw [z, upd_same] at z2; cases z2
    rw [upd_ne n1] at z1
    rw [upd_ne n2] at z2
    have g1 : B.F s.st := f1.resolve_right n1
    have g2 : B.F s.lf := f2.resolve_right n2
    exact ⟨a, z1, z2, g1, g2⟩
theorem wl_comp {wi : TI} {g : TG} {vs is : List Nat} (hv : ∀ k ∈ vs, env[k]? = some .any) (hi : ∀ k ∈ is, k ∈ vs) (h : Src K wi m env fun ds m1 => ∃ S : Nat → List D → Prop, S 0 [] ∧ ds.length < 1000000 ∧
      (∀ i x acc, ds[i]? = some x → S i acc → WG K g is x m1 env fun env2 => WT K tt m1 env2 fun b m3 => m3 = m1 ∧ (b = true → WE K te m1 env2 fun y m4 => m4 = m1 ∧ S (i + 1) (acc ++ [y])) ∧ (b = false → S (i + 1) acc)) ∧
      (∀ acc, S ds.length acc → acc.length ≤ ds.length → PL acc m1)) : WL K (tLc wi g tt te vs) m env PL := fun B Hs H σ r Q q => by
  refine h B Hs H σ r _ fun J Hs1 H1 m1 ds s1 r1 k1 w => ?_
  obtain ⟨S, hS0, hlen, hst, hend⟩ := k1
  intro Dl hD
  obtain ⟨⟨f0, f1, f2⟩, f3⟩ := r1.fresh hD
  have any : ∀ {i : Nat} {o : Sl}, env[i]? = some o → o ≠ .any → i ∉ vs := fun e n z => by rw [hv _ z] at e; exact n (Option.some.inj e).symm
  have rw1 : Rep K B Hs1 H1 (wipe σ vs) m1 env := r1.resl (by rw [wipe_length, r1.len]) fun i o e n => ⟨e, wipe_out (any e n)⟩
  have hst1 : ∀ s, B.st = some s → s.st ≠ Dl ∧ s.lf ≠ Dl := fun s e => by
    obtain ⟨⟨c, l, k, e1, e2, e3, _⟩, _⟩ := r1.stt s e
    exact ⟨fun z => (by rw [z, hD] at e1; cases e1), fun z => (by rw [z, hD] at e3; cases e3)⟩
  have rh : Rep K (holdB B Dl (.lst [])) Hs1 (upd H1 Dl (.lst [])) (wipe σ vs) m1 env := by
    -- the owned addresses stand already
    have own : ∀ (i : Nat) (o : Sl), env[i]? = some o → o.own = true → ∀ q, (wipe σ vs)[i]? = some (some (.ref q)) → q ≠ Dl := fun i o e ho q g z => by
      obtain ⟨p', ob, e1, _, h, _⟩ := (rw1.sl i o e).own_at ho
      rw [of_getD g] at e1
      cases e1
      rw [z, hD] at h; cases h
    refine ⟨fun b u e => ?_, fun b u e => ?_, fun a h => ?_, fun a h => ?_, rw1.len, fun i o e => ?_, rw1.ap, fun s e => ?_⟩
    · have e : upd B.H0 Dl (.lst []) b = some u := e
      by_cases hb : b = Dl
      · subst hb; rw [upd_same] at e ⊢; exact e
      · rw [upd_ne hb] at e ⊢; exact rw1.base b u e
    · rw [upd_ne (fun z => by rw [z, f1] at e; cases e)]; exact rw1.sub b u e
    · rcases h with h | h
      · exact rw1.fa a h
      · rw [h]; exact f1
    · by_cases hb : a = Dl
      · subst hb; exact ⟨_, upd_same, fun _ z => by cases z⟩
      · rcases h with h | h
        · rw [upd_ne hb]; exact rw1.fb a h
        · exact absurd h hb
    · have q := rw1.sl i o e
      have ow : ∀ q, Own B Hs1 q → q ≠ Dl → Own (holdB B Dl (.lst [])) Hs1 q := fun q w n => ⟨by show upd B.H0 Dl _ q = none; rw [upd_ne n]; exact w.1, w.2.1, fun z => z.elim w.2.2 n⟩
      cases o with
      | any => trivial
      | sh d => exact q
      | lst ds => obtain ⟨p2, xs, e1, w, h, g⟩ := q; have n := own i _ e rfl p2 (getD_of e1); exact ⟨p2, xs, e1, ow p2 w n, by rw [upd_ne n]; exact h, g⟩
      | dic t => obtain ⟨p2, e1, w, h⟩ := q; have n := own i _ e rfl p2 (getD_of e1); exact ⟨p2, e1, ow p2 w n, by rw [upd_ne n]; exact h⟩
      | dik t => obtain ⟨p2, e1, w, h⟩ := q; have n := own i _ e rfl p2 (getD_of e1); exact ⟨p2, e1, ow p2 w n, by rw [upd_ne n]; exact h⟩
      | sta => exact q
    · obtain ⟨a, z1, z2, g1, g2⟩ := rw1.stt s e
      obtain ⟨n1, n2⟩ := hst1 s e
      refine ⟨a.to (Same.refl _) (fun u z => by rw [upd_ne n1]; exact z) (fun u z => by rw [upd_ne n2]; exact z) (Nat.le_refl _), ?_, ?_, .inl g1, .inl g2⟩
      · show upd B.H0 Dl _ s.st = none
        rw [upd_ne n1]; exact z1
      · show upd B.H0 Dl _ s.lf = none
        rw [upd_ne n2]; exact z2
  refine ⟨fun i n H => n = ds.length - i ∧ i ≤ ds.length ∧ ∃ Hs2 xs acc, Same Hs1 Hs2 ∧ Rep K (holdB B Dl (.lst xs)) Hs2 H (wipe σ vs) m1 env ∧ IsA K Hs2 xs acc ∧ acc.length ≤ i ∧ S i acc, ⟨_, rfl, Nat.zero_le _, Hs1, [], [], Same.refl _, rh, .nil, Nat.le_refl _, hS0⟩, ?_⟩
  rintro i n H ⟨rfl, hi', Hs2, xs, acc, s2, r2, ix, hal, hs⟩
  have s3 : Same Hs1 H := fun b o e => r2.sub b o (s2 b o e)
  by_cases hlt : i < ds.length
  · refine .inr ⟨w.go i H s3 hlt, fun H' => ∃ Hs3 xs acc, Same Hs1 Hs3 ∧ Rep K (holdB B Dl (.lst xs)) Hs3 H' (wipe σ vs) m1 env ∧ IsA K Hs3 xs acc ∧ acc.length ≤ i + 1 ∧ S (i + 1) acc, fun H' p => ⟨ds.length - (i + 1), by omega, rfl, hlt, p⟩, fun x H' y => ?_⟩
    obtain ⟨d, ed⟩ : ∃ d, ds[i]? = some d := ⟨_, List.getElem?_eq_getElem hlt⟩
    obtain ⟨rfl, hx⟩ := w.yld i H x H' d s3 y ed
    have go : ∀ Hs3, Same Hs2 Hs3 → Rep K (holdB B Dl (.lst xs)) Hs3 H' (wipe σ vs) m1 env → Is K Hs3 x d → g x (wipe σ vs) H' fun σ2 H2 => wipe σ2 vs = wipe σ vs ∧ tt σ2 H2 fun b H3 => if b = true then te σ2 H3 fun y H4 => ∃ acc, H4 Dl = some (.lst acc) ∧ acc.length < sizeLine ∧
        (∃ Hs3 xs acc', Same Hs1 Hs3 ∧ Rep K (holdB B Dl (.lst xs)) Hs3 (upd H4 Dl (.lst (acc ++ [y]))) (wipe σ vs) m1 env ∧ IsA K Hs3 xs acc' ∧ acc'.length ≤ i + 1 ∧ S (i + 1) acc') else ∃ Hs3 xs acc, Same Hs1 Hs3 ∧ Rep K (holdB B Dl (.lst xs)) Hs3 H3 (wipe σ vs) m1 env ∧ IsA K Hs3 xs acc ∧ acc.length ≤ i + 1 ∧ S (i + 1) acc := fun Hs3 t3 r3 id => by
      refine hst i d acc ed hs _ Hs3 H' (wipe σ vs) x r3 id _ fun σ2 env2 r4 l1 l2 same k4 => ⟨?_, ?_⟩
      · rw [wipe_congr (σ := σ2) (σ' := wipe σ vs) (vs := vs) l1 fun k hk => (same k fun z => hk (hi k z)).1, wipe_wipe]
      · have back : ∀ {Hs5 H5 : Hp}, Rep K (holdB B Dl (.lst xs)) Hs5 H5 σ2 m1 env2 → Rep K (holdB B Dl (.lst xs)) Hs5 H5 (wipe σ vs) m1 env := fun r5 => r5.resl (by rw [wipe_length, r.len]) fun k o e n => by
          obtain ⟨a, b⟩ := same k fun z => any e n (hi k z)
          exact ⟨b.trans e, a.symm⟩
        refine k4 _ Hs3 H' σ2 r4 _ fun b Hs5 H5 m5 t5 r5 k5 => ?_
        obtain ⟨rfl, kt, kf⟩ := k5
        cases b with
        | true =>
          refine iteT (kt rfl _ Hs5 H5 σ2 r5 _ fun y dy Hs6 H6 m6 t6 r6 iy k6 => ?_)
          obtain ⟨rfl, k6⟩ := k6
          have hD6 : H6 Dl = some (.lst xs) := r6.base Dl _ upd_same
          refine ⟨xs, hD6, Nat.lt_of_lt_of_le (by rw [ix.length]; omega) (small_le (Nat.le_refl 1000000)), Hs6, xs ++ [y], acc ++ [dy], s2.trans (t3.trans (t5.trans t6)), (back r6).grow (fun _ z => by cases z), (ix.to (t3.trans (t5.trans t6))).append (.one iy), ?_, k6⟩
          rw [List.length_append]
          exact Nat.succ_le_succ hal
        | false => exact iteF ⟨Hs5, xs, acc, s2.trans (t3.trans t5), back r5, ix.to (t3.trans t5), by omega, kf rfl⟩
    rcases hx with hx | ⟨q', c, rfl, rfl, hq⟩
    · exact go Hs2 (Same.refl _) r2 (hx.to s2)
    · obtain ⟨Hs3, t3, r3, e3⟩ := r2.addT hq
      exact go Hs3 t3 r3 (.tup e3 (IsA.ints c))
  · have e : i = ds.length := by omega
    subst e
    refine .inl ⟨w.stop _ H s3 (Nat.le_refl _), ?_⟩
    have r5 := r2.drop f0
    have r6 : Rep K B Hs2 H σ m1 env := r5.resl r.len fun k o e n => ⟨e, (wipe_out (any e n)).symm⟩
    exact q Dl xs acc Hs2 H m1 (s1.trans s2) r6 ⟨f0, r2.fa Dl (.inr rfl), f2⟩ f3 (r2.base Dl _ upd_same) ix (hend acc hs hal)
/-- every item is kept, F of it -/
theorem wl_map {wi : TI} {g : TG} {vs is : List Nat} (hv : ∀ k ∈ vs, env[k]? = some .any) (hi : ∀ k ∈ is, k ∈ vs) (h : Src K wi m env fun ds m1 => ∃ F : D → D, ds.length < 1000000 ∧
      (∀ (i : Nat) (x : D), ds[i]? = some x → WG K g is x m1 env fun env2 => WE K te m1 env2 fun y m4 => m4 = m1 ∧ y = F x) ∧ PL (ds.map F) m1) : WL K (tLc wi g tYes te vs) m env PL :=
  wl_comp hv hi (fun B Hs H σ r R q => h B Hs H σ r R fun J Hs' H' m' ds s r' k w => by
    obtain ⟨F, hl, hs, hd⟩ := k
    refine q J Hs' H' m' ds s r' ⟨fun i acc => acc = (ds.take i).map F, by simp, hl, fun i x acc e ea => ?_, fun acc ea _ => ?_⟩ w
    · refine fun B2 Hs2 H2 σ2 v r2 iv Q q => hs i x e B2 Hs2 H2 σ2 v r2 iv Q fun σ3 env3 r3 a b c k => q σ3 env3 r3 a b c ?_
      refine fun B4 Hs4 H4 σ4 r4 Q4 q4 => q4 true Hs4 H4 m' (Same.refl _) r4 ⟨rfl, fun _ => ?_, fun z => by cases z⟩
      refine k.imp fun y m4 ⟨h1, h2⟩ => ⟨h1, ?_⟩
      have ea : acc = (ds.take i).map F := ea
      show acc ++ [y] = (ds.take (i + 1)).map F
      rw [ea, h2, List.take_add_one, e, List.map_append]
      rfl
    · rw [ea, List.take_length]; exact hd)
end
end MW
end
section
set_option Elab.async false
set_option linter.all false
set_option maxRecDepth 100000
set_option maxHeartbeats 4000000
namespace MW
open PySem L2

section
variable {K : PySem.W.Frag} {B : Bs} {Hs Hs' H H' H1 : Hp} {σ σ' : St} {te ta tb tc tk tv : TE} {tl : TA} {tt tu : TT} {ts tz : TS} {m m' : Nat} {env env' : List Sl} {P P' : D → Nat → Prop} {PL : List D → Nat → Prop} {PT' : Bool → Nat → Prop} {PO : Out → Prop} {i j : Nat} {d : D} {ds : List D} {p : Addr}
/-! ### built-ins -/
abbrev rLenS (K : PySem.W.Frag) : List V → Hp → VK → Prop := fun xs H Q => ∃ p ys, xs = [.ref p] ∧ (SqL K H p ys ∨ SqT K H p ys) ∧ Q (.int ys.length) H
abbrev rListS (K : PySem.W.Frag) : List V → Hp → VK → Prop := fun xs H Q => ∃ p ys, xs = [.ref p] ∧ (SqL K H p ys ∨ SqT K H p ys) ∧ ∀ l, H l = none → Q (.ref l) (upd H l (.lst ys))
abbrev rTupS (K : PySem.W.Frag) : List V → Hp → VK → Prop := fun xs H Q => ∃ p ys, xs = [.ref p] ∧ ((SqL K H p ys ∧ ∀ l, H l = none → Q (.ref l) (upd H l (.tup ys))) ∨ (SqT K H p ys ∧ Q (.ref p) H))
theorem we_len (h : WE K ta m env fun da m1 => ∃ ds, (da = .lst ds ∨ da = .tup ds) ∧ P (.int (ds.length : Nat)) m1) : WE K (tCB (rLenS K) (tCons ta tNil)) m env P := fun B Hs H σ r Q q => by
  refine h B Hs H σ r _ fun v d Hs1 H1 m1 s1 r1 i1 k1 => ?_
  obtain ⟨ds, e, k⟩ := k1
  rcases e with rfl | rfl
  · cases i1 with
    | lst h1 h2 => exact ⟨_, _, rfl, .inl (SqL.of (r1.sub _ _ h1)), q _ _ Hs1 H1 m1 s1 r1 (by rw [h2.length]; exact .int _) k⟩
  · cases i1 with
    | tup h1 h2 => exact ⟨_, _, rfl, .inr (SqT.of (r1.sub _ _ h1)), q _ _ Hs1 H1 m1 s1 r1 (by rw [h2.length]; exact .int _) k⟩
theorem we_lenO (e : env[i]? = some (.lst ds)) (h : P (.int (ds.length : Nat)) m) : WE K (tCB (rLenS K) (tCons (tVar i) tNil)) m env P := fun B Hs H σ r Q q => by
  obtain ⟨p, xs, e1, w, e2, e3⟩ := r.sl i _ e
  exact ⟨_, getD_of e1, p, xs, rfl, .inl (SqL.of e2), q _ _ Hs H m (Same.refl _) r (by rw [e3.length]; exact .int _) h⟩
theorem we_int1 {C : Bool → Int} (h : WE K ta m env fun da m1 => ∃ n, da = .int n ∧ P (.int n) m1) : WE K (tCB (fun xs H Q => (∃ i, xs = [.int i] ∧ Q (.int i) H) ∨ ∃ k, xs = [.bl k] ∧ Q (.int (C k)) H) (tCons ta tNil)) m env P := fun B Hs H σ r Q q => by
  refine h B Hs H σ r _ fun v d Hs1 H1 m1 s1 r1 i1 k1 => ?_
  obtain ⟨n, rfl, k⟩ := k1
  cases i1
  exact .inl ⟨n, rfl, q _ _ Hs1 H1 m1 s1 r1 (.int _) k⟩
theorem wl_listOf (h : WE K ta m env fun da m1 => ∃ ds, (da = .lst ds ∨ da = .tup ds) ∧ PL ds m1) : WL K (tCB (rListS K) (tCons ta tNil)) m env PL := fun B Hs H σ r Q q => by
  refine h B Hs H σ r _ fun v d Hs1 H1 m1 s1 r1 i1 k1 => ?_
  obtain ⟨ds, e, k⟩ := k1
  rcases e with rfl | rfl
  · cases i1 with
    | lst h1 h2 =>
      refine ⟨_, _, rfl, .inl (SqL.of (r1.sub _ _ h1)), fun l hl => ?_⟩
      obtain ⟨w, a⟩ := r1.fresh hl
      exact q l _ _ Hs1 _ m1 s1 (r1.new0 hl _) w a upd_same h2 k
  · cases i1 with
    | tup h1 h2 =>
      refine ⟨_, _, rfl, .inr (SqT.of (r1.sub _ _ h1)), fun l hl => ?_⟩
      obtain ⟨w, a⟩ := r1.fresh hl
      exact q l _ _ Hs1 _ m1 s1 (r1.new0 hl _) w a upd_same h2 k
theorem wl_listOfO (e : env[i]? = some (.lst ds)) (h : PL ds m) : WL K (tCB (rListS K) (tCons (tVar i) tNil)) m env PL := fun B Hs H σ r Q q => by
  obtain ⟨p, xs, e1, w, e2, e3⟩ := r.sl i _ e
  refine ⟨_, getD_of e1, p, xs, rfl, .inl (SqL.of e2), fun l hl => ?_⟩
  obtain ⟨w, a⟩ := r.fresh hl
  exact q l _ _ Hs _ m (Same.refl _) (r.new0 hl _) w a upd_same e3 h
theorem wl_listScr (h : WE K ta m env fun da m1 => ∃ ns : List Int, da = .scr ns ∧ PL (ns.map .int) m1) : WL K (tCB (rListS K) (tCons ta tNil)) m env PL := fun B Hs H σ r Q q => by
  refine h B Hs H σ r _ fun v d Hs1 H1 m1 s1 r1 i1 k1 => ?_
  obtain ⟨ns, rfl, k⟩ := k1
  cases i1 with
  | scr h1 =>
    refine ⟨_, _, rfl, .inl (r1.sub.seq h1), fun l hl => ?_⟩
    obtain ⟨w, a⟩ := r1.fresh hl
    exact q l _ _ Hs1 _ m1 s1 (r1.new0 hl _) w a upd_same (IsA.ints ns) k
theorem we_tupOf (h : WE K ta m env fun da m1 => ∃ ds, (da = .lst ds ∨ da = .tup ds) ∧ P (.tup ds) m1) : WE K (tCB (rTupS K) (tCons ta tNil)) m env P := fun B Hs H σ r Q q => by
  refine h B Hs H σ r _ fun v d Hs1 H1 m1 s1 r1 i1 k1 => ?_
  obtain ⟨ds, e, k⟩ := k1
  rcases e with rfl | rfl
  · cases i1 with
    | lst h1 h2 =>
      refine ⟨_, _, rfl, .inl ⟨SqL.of (r1.sub _ _ h1), fun l hl => ?_⟩⟩
      obtain ⟨r3, s3, n3⟩ := r1.newS hl (.tup _)
      exact q _ _ _ _ m1 (s1.trans s3) r3 (.tup upd_same (h2.to s3)) k
  · cases i1 with
    | tup h1 h2 => exact ⟨_, _, rfl, .inr ⟨SqT.of (r1.sub _ _ h1), q _ _ Hs1 H1 m1 s1 r1 (.tup h1 h2) k⟩⟩
theorem we_tupOfO (e : env[i]? = some (.lst ds)) (h : P (.tup ds) m) : WE K (tCB (rTupS K) (tCons (tVar i) tNil)) m env P := fun B Hs H σ r Q q => by
  obtain ⟨p, xs, e1, w, e2, e3⟩ := r.sl i _ e
  refine ⟨_, getD_of e1, p, xs, rfl, .inl ⟨SqL.of e2, fun l hl => ?_⟩⟩
  obtain ⟨r3, s3, n3⟩ := r.newS hl (.tup _)
  exact q _ _ _ _ m s3 r3 (.tup upd_same (e3.to s3)) h
/-- tuple([..]): the list is new -/
theorem we_tupNew (h : WL K ta m env fun ds m1 => P (.tup ds) m1) : WE K (tCB (rTupS K) (tCons ta tNil)) m env P := we_tupOf (we_wl (h := fun B Hs H σ r Q q => h B Hs H σ r Q fun p xs ds Hs' H' m' s r' w a hp hx k => q p xs ds Hs' H' m' s r' w a hp hx ⟨ds, .inl rfl, k⟩))
theorem rg_is (a b : Int) : IsA K H (rgV a b) (rng a b) := by
  unfold rgV rng
  generalize List.range (b - a).toNat = l
  induction l with
  | nil => exact .nil
  | cons x l ih => exact .cons (.int _) ih
theorem wl_listRg1 (h : WE K ta m env fun da m1 => ∃ n : Int, da = .int n ∧ n ≤ 1000000 ∧ 0 ≤ n ∧ PL (rng 0 n) m1) : WL K (tLstRg (tRg1 ta)) m env PL := fun B Hs H σ r Q q => by
  refine h B Hs H σ r _ fun v d Hs1 H1 m1 s1 r1 i1 k1 => ?_
  obtain ⟨n, rfl, h1, h2, k⟩ := k1
  cases i1
  refine ⟨n, rfl, RgOk.of_le (by omega) (by omega) (by omega) h2, fun l hl => ?_⟩
  obtain ⟨w, a⟩ := r1.fresh hl
  exact q l _ _ Hs1 _ m1 s1 (r1.new0 hl _) w a upd_same (rg_is _ _) k
theorem we_max2 (h : WE K ta m env fun da m1 => WE K tb m1 env fun db m2 => ∃ a b : Int, da = .int a ∧ db = .int b ∧ P (.int (if b > a then b else a)) m2) : WE K (tCB (fun xs H Q => ∃ i j : Int, xs = [.int i, .int j] ∧ Q (.int (if j > i then j else i)) H) (tCons ta (tCons tb tNil))) m env P := fun B Hs H σ r Q q => by
  refine h B Hs H σ r _ fun v d Hs1 H1 m1 s1 r1 i1 k1 => ?_
  refine k1 B Hs1 H1 σ r1 _ fun y db Hs2 H2 m2 s2 r2 i2 k2 => ?_
  obtain ⟨a, b, rfl, rfl, k⟩ := k2
  cases i1
  cases i2
  exact ⟨a, b, rfl, q _ _ Hs2 H2 m2 (s1.trans s2) r2 (.int _) k⟩
theorem we_max (h : WE K ta m env fun da m1 => ∃ ns : List Int, da = .lst (ns.map .int) ∧ 0 < ns.length ∧ ∀ x, x ∈ ns → (∀ y ∈ ns, y ≤ x) → P (.int x) m1) : WE K (tCB (rMax K) (tCons ta tNil)) m env P := fun B Hs H σ r Q q => by
  refine h B Hs H σ r _ fun v d Hs1 H1 m1 s1 r1 i1 k1 => ?_
  obtain ⟨ns, rfl, h0, k⟩ := k1
  cases i1 with
  | lst h1 h2 => exact ⟨_, ns, rfl, SqL.of (by rw [← IsA.of_ints h2]; exact r1.sub _ _ h1), h0, fun x hx hy => q _ _ Hs1 H1 m1 s1 r1 (.int _) (k x hx hy)⟩
theorem we_sum (h : WE K ta m env fun da m1 => ∃ ns : List Int, da = .lst (ns.map .int) ∧ P (.int ns.sum) m1) : WE K (tCB (rSum K) (tCons ta tNil)) m env P := fun B Hs H σ r Q q => by
  refine h B Hs H σ r _ fun v d Hs1 H1 m1 s1 r1 i1 k1 => ?_
  obtain ⟨ns, rfl, k⟩ := k1
  cases i1 with
  | lst h1 h2 => exact ⟨_, ns, rfl, SqL.of (by rw [← IsA.of_ints h2]; exact r1.sub _ _ h1), q _ _ Hs1 H1 m1 s1 r1 (.int _) k⟩
theorem we_divmod (h : WE K ta m env fun da m1 => WE K tb m1 env fun db m2 => ∃ a b : Int, da = .int a ∧ db = .int b ∧ CDiv a b ∧ P (.ints [a / b, a % b]) m2) : WE K (tCB (fun xs H Q => ∃ i j, xs = [.int i, .int j] ∧ CDiv i j ∧ ∀ p, H p = none → Q (.ref p) (upd H p (.tup [.int (i / j), .int (i % j)]))) (tCons ta (tCons tb tNil))) m env P := fun B Hs H σ r Q q => by
  refine h B Hs H σ r _ fun v d Hs1 H1 m1 s1 r1 i1 k1 => ?_
  refine k1 B Hs1 H1 σ r1 _ fun y db Hs2 H2 m2 s2 r2 i2 k2 => ?_
  obtain ⟨a, b, rfl, rfl, hc, k⟩ := k2
  cases i1
  cases i2
  refine ⟨a, b, rfl, hc, fun l hl => ?_⟩
  obtain ⟨r3, s3, n3⟩ := r2.newS hl (.tup _)
  exact q _ _ _ _ m2 (s1.trans (s2.trans s3)) r3 (.tup upd_same (.cons (.int _) (.cons (.int _) .nil))) k
/-- isinstance(x, T), T built in -/
def isT (T : String) : D → Bool
  | .int _ => T == "int"
  | .bl _ => T == "int" || T == "bool"
  | .str _ => T == "str"
  | .tup _ => T == "tuple"
  | _ => false
theorem we_isi {T : String} (hT : T = "int" ∨ T = "bool" ∨ T = "str" ∨ T = "tuple") (h : WE K ta m env fun da m1 => ((∃ n, da = .int n) ∨ (∃ x, da = .str x) ∨ (∃ l, da = .tup l)) ∧ P (.bl (isT T da)) m1) : WE K (tCB (rIsi K) (tCons ta (tCons (tC (.ty T)) tNil))) m env P := fun B Hs H σ r Q q => by
  refine h B Hs H σ r _ fun v d Hs1 H1 m1 s1 r1 i1 k1 => ?_
  obtain ⟨hd, k⟩ := k1
  have fin : ∀ (t : String) (b : Bool), TyX K H1 v (.type t) → kitB t T = some b → isT T d = b → rIsi K [v, .ty T] H1 Q := fun t b h1 h2 h3 => ⟨v, .ty T, _, _, b, rfl, .ty T, h1, kit_ty h2, q _ _ Hs1 H1 m1 s1 r1 (by rw [h3]; exact .bl b) k⟩
  rcases hd with ⟨n, rfl⟩ | ⟨x, rfl⟩ | ⟨l, rfl⟩
  · cases i1
    have ht : TyX K H1 (.int n) (.type "int") := .base (by constructor)
    rcases hT with rfl | rfl | rfl | rfl
    · exact fin "int" true ht (by decide +kernel) rfl
    · exact fin "int" false ht (by decide +kernel) rfl
    · exact fin "int" false ht (by decide +kernel) rfl
    · exact fin "int" false ht (by decide +kernel) rfl
  · cases i1
    have ht : TyX K H1 (.str x) (.type "str") := .base (by constructor)
    rcases hT with rfl | rfl | rfl | rfl
    · exact fin "str" false ht (by decide +kernel) rfl
    · exact fin "str" false ht (by decide +kernel) rfl
    · exact fin "str" true ht (by decide +kernel) rfl
    · exact fin "str" false ht (by decide +kernel) rfl
  · cases i1 with
    | tup h1 h2 =>
      have ht : TyX K H1 (.ref _) (.type "tuple") := .base (by
        have := r1.sub _ _ h1
        constructor <;> assumption)
      rcases hT with rfl | rfl | rfl | rfl
      · exact fin "tuple" false ht (by decide +kernel) rfl
      · exact fin "tuple" false ht (by decide +kernel) rfl
      · exact fin "tuple" false ht (by decide +kernel) rfl
      · exact fin "tuple" true ht (by decide +kernel) rfl
/-! ### the keys of a table -/
theorem addTs {kvs : List (List Key × V)} {bs : List Addr} (h : IsKeys H kvs bs) : ∀ {Hs : Hp}, Rep K B Hs H σ m env → ∃ Hs', Same Hs Hs' ∧ Rep K B Hs' H σ m env ∧ IsKeys Hs' kvs bs := by
  unfold IsKeys at h ⊢
  induction h with
  | nil => exact fun r => ⟨_, Same.refl _, r, .nil⟩
  | cons h1 h2 ih =>
    intro Hs r
    obtain ⟨Hs1, s1, r1, e1⟩ := r.addT h1
    obtain ⟨Hs2, s2, r2, e2⟩ := ih r1
    exact ⟨Hs2, s1.trans s2, r2, .cons (s2 _ _ e1) e2⟩
theorem keys_is : ∀ {t : Tab} {bs : List Addr}, IsKeys H (emb t) bs → IsA K H (bs.map V.ref) (t.map fun p => .ints p.1)
  | [], _, h => by cases h; exact .nil
  | p :: t, _, h => by
    cases h with
    | cons h1 h2 =>
      have h1 : H _ = some (.tup ((p.1.map (Sum.inl : Int → Key)).map kV)) := h1
      rw [kV_ints] at h1
      exact .cons (.tup h1 (IsA.ints p.1)) (keys_is h2)
theorem wl_listTab (h : WE K ta m env fun da m1 => ∃ t, da = .tab t ∧ PL (t.map fun p => .ints p.1) m1) : WL K (tCB (fun xs H Q => ∃ d kvs, xs = [V.ref d] ∧ Rd H d (.dT kvs) ∧ ∀ p bs, H p = none → IsKeys H kvs bs → Q (.ref p) (upd H p (.lst (bs.map V.ref)))) (tCons ta tNil)) m env PL := fun B Hs H σ r Q q => by
  refine h B Hs H σ r _ fun v d Hs1 H1 m1 s1 r1 i1 k1 => ?_
  obtain ⟨t, rfl, k⟩ := k1
  cases i1 with
  | tab g =>
    refine ⟨_, emb t, rfl, rd_to r1.sub g, fun l bs hl hk => ?_⟩
    obtain ⟨Hs2, s2, r2, hk2⟩ := addTs hk r1
    obtain ⟨w, a⟩ := r2.fresh hl
    exact q l _ _ Hs2 _ m1 (s1.trans s2) (r2.new0 hl _) w a upd_same (keys_is hk2) k
theorem wl_listTik (h : WE K ta m env fun da m1 => ∃ t : TabI, da = .tik t ∧ PL (t.map fun p => .int p.1) m1) : WL K (tCB rListD (tCons ta tNil)) m env PL := fun B Hs H σ r Q q => by
  refine h B Hs H σ r _ fun v d Hs1 H1 m1 s1 r1 i1 k1 => ?_
  obtain ⟨t, rfl, k⟩ := k1
  cases i1 with
  | tik g =>
    refine ⟨_, embI t, rfl, r1.sub _ _ g, fun l hl => ?_⟩
    obtain ⟨w, a⟩ := r1.fresh hl
    refine q l _ _ Hs1 _ m1 s1 (r1.new0 hl _) w a upd_same ?_ k
    unfold embI
    rw [List.map_map]
    have all : ∀ t : TabI, IsA K Hs1 (t.map ((fun kv : Key × V => kV kv.1) ∘ fun p => (Sum.inl p.1, V.int p.2))) (t.map fun p => D.int p.1) := fun t => by
      induction t with
      | nil => exact .nil
      | cons p t ih => exact .cons (.int _) ih
    exact all t
/-! ### slices, parts -/
theorem ws_forget (i : Nat) (h : WS K ts m (env.set i .any) PO) : WS K ts m env PO := fun B Hs H σ D r q => h B Hs H σ D (r.resl (by rw [r.len, List.length_set]) fun k o e n => by
  rw [List.getElem?_set] at e
  by_cases hk : i = k
  · rw [if_pos hk] at e
    split at e
    · cases e; exact absurd rfl n
    · cases e
  · rw [if_neg hk] at e
    exact ⟨e, rfl⟩) q
end
end MW
end
section
set_option Elab.async false
set_option linter.all false
set_option maxRecDepth 100000
set_option maxHeartbeats 4000000
namespace MW
open PySem L2
/-- the first knows no more than the second -/
inductive Le : List Sl → List Sl → Prop where
  | nil : Le [] []
  | eq {a : Sl} {l r : List Sl} : Le l r → Le (a :: l) (a :: r)
  | any {a : Sl} {l r : List Sl} : Le l r → Le (.any :: l) (a :: r)
theorem Le.refl : ∀ l : List Sl, Le l l
  | [] => .nil
  | _ :: l => .eq (Le.refl l)
theorem Le.trans : ∀ {a b c : List Sl}, Le a b → Le b c → Le a c
  | _, _, _, .nil, .nil => .nil
  | _, _, _, .eq h, .eq h' => .eq (h.trans h')
  | _, _, _, .eq h, .any h' => .any (h.trans h')
  | _, _, _, .any h, .eq h' => .any (h.trans h')
  | _, _, _, .any h, .any h' => .any (h.trans h')
theorem Le.len : ∀ {a b : List Sl}, Le a b → a.length = b.length
  | _, _, .nil => rfl
  | _, _, .eq h => congrArg Nat.succ h.len
  | _, _, .any h => congrArg Nat.succ h.len
theorem Le.at' : ∀ {a b : List Sl} {i : Nat} {o : Sl}, Le a b → a[i]? = some o → o ≠ Sl.any → b[i]? = some o
  | _, _, _, _, .nil, e, _ => by simp at e
  | _, _, 0, _, .eq h, e, _ => e
  | _, _, i + 1, _, .eq h, e, n => by simpa using Le.at' h (by simpa using e) n
  | _, _, 0, _, .any h, e, n => by simp at e; exact absurd e.symm n
  | _, _, i + 1, _, .any h, e, n => by simpa using Le.at' h (by simpa using e) n
theorem Le.set : ∀ {a b : List Sl} (i : Nat) (o : Sl), Le a b → Le (a.set i o) (b.set i o)
  | _, _, _, _, .nil => .nil
  | _, _, 0, _, .eq h => .eq h
  | _, _, i + 1, o, .eq h => .eq (Le.set i o h)
  | _, _, 0, _, .any h => .eq h
  | _, _, i + 1, o, .any h => .any (Le.set i o h)
def iter {α : Type} (f : Nat → α → α) : Nat → α → α
  | 0, a => a
  | n + 1, a => f n (iter f n a)
theorem foldl_take {α β : Type} {f : β → α → β} {b : β} {l : List α} {k : Nat} {x : α} (h : l[k]? = some x) : (l.take (k + 1)).foldl f b = f ((l.take k).foldl f b) x := by
  rw [List.take_add_one, h, List.foldl_append]
  rfl
section
variable {K : PySem.W.Frag} {te ta tb tc tk tv : TE} {tl : TA} {tt tu : TT} {ts tz : TS} {m m' : Nat} {env env' : List Sl} {P P' : D → Nat → Prop} {PL : List D → Nat → Prop} {PT' : Bool → Nat → Prop} {PO : Out → Prop} {i j : Nat} {d : D} {ds : List D}
theorem ws_le (h : WS K ts m env PO) (l : Le env env') : WS K ts m env' PO := fun B Hs H σ D r q => h B Hs H σ D (r.resl (by rw [r.len, l.len]) fun i o e n => ⟨l.at' e n, rfl⟩) q
def MonoP (PO : Out → Prop) : Prop := ∀ m e e', Le e e' → PO (.nx m e) → PO (.nx m e')
def LeP (m : Nat) (E : List Sl) : Nat → List Sl → Prop := fun m2 e2 => m2 = m ∧ Le E e2
theorem mono_then : MonoP (Then K ts PO) := fun _ _ _ l h => ws_le h l
theorem mono_fn {R : D → Prop} : MonoP (FnPost R) := fun _ _ _ _ h => h
theorem mono_fnS {R : D → Nat → Prop} : MonoP (FnPostS R) := fun _ _ _ _ h => h
theorem mono_loop {E : List Sl} : MonoP (LoopP (LeP m E) PO) := fun _ _ _ l h => ⟨h.1, h.2.trans l⟩
theorem we_cl {sp : SpecD} {E : XK} (h : WA K tl m env fun ds m1 => sp ds fun d => P d m1) : WE K (tCall (SpP K sp) [] E tl) m env P := we_call (h := fun B Hs H σ r Q q => h B Hs H σ r Q fun vs ds Hs' H' m' s r' i k => q vs ds Hs' H' m' s r' i ⟨_, k, fun d e => e⟩)
theorem we_clS {sp : SpecS} {E : XK} (he : env[j]? = some .sta) (h : WA K tl m env fun ds m1 => sp m1 ds fun d m2 => P d m2) : WE K (tCall (SpS K sp) [] E (tCons (tVar j) tl)) m env P := we_callS he (h := fun B Hs H σ r Q q => h B Hs H σ r Q fun vs ds Hs' H' m' s r' i k => q vs ds Hs' H' m' s r' i ⟨_, k, fun d m e => e⟩)
theorem we_newT (h : P (.tab []) m) : WE K tDNewT m env P := fun B Hs H σ r Q q p hp => by
  obtain ⟨r2, s2, n2⟩ := r.newS hp (.dT [])
  exact q _ _ _ _ m s2 r2 (.tab (t := []) (.inl upd_same)) h
theorem we_ifI {x y : Int} (h : WT K tt m env fun b m1 => WE K ta m1 env (fun d m2 => d = .int x ∧ m2 = m1) ∧ WE K tb m1 env (fun d m2 => d = .int y ∧ m2 = m1) ∧ P (.int (if b = true then x else y)) m1) : WE K (tIf tt ta tb) m env P := fun B Hs H σ r Q q => h B Hs H σ r _ fun b Hs2 H2 m2 s2 r2 k2 => by
  obtain ⟨k3, k4, k5⟩ := k2
  cases b with
  | true => exact iteT (k3 B Hs2 H2 σ r2 _ fun v d Hs3 H3 m3 s3 r3 i3 e => q v d Hs3 H3 m3 (s2.trans s3) r3 i3 (by rw [e.1, e.2]; exact k5))
  | false => exact iteF (k4 B Hs2 H2 σ r2 _ fun v d Hs3 H3 m3 s3 r3 i3 e => q v d Hs3 H3 m3 (s2.trans s3) r3 i3 (by rw [e.1, e.2]; exact k5))
theorem o_inT {neg : Bool} {da : D} {x : V} {xs : List V} (hx : flat da = some x) (hs : flats ds = some xs) (h : P (.bl (if neg then !inV x xs else inV x xs)) m) : Op2 K env (rIn K neg) da (.tup ds) m P := o_in hx (.inl rfl) hs h
theorem o_inL {neg : Bool} {da : D} {x : V} {xs : List V} (hx : flat da = some x) (hs : flats ds = some xs) (h : P (.bl (if neg then !inV x xs else inV x xs)) m) : Op2 K env (rIn K neg) da (.lst ds) m P := o_in hx (.inr rfl) hs h
/-! ### loops by the state at each turn -/
theorem for_any {wi : TI} {tb' : TS} (hm : MonoP PO) (h : Src K wi m env fun ds m1 => ∃ E : Nat → List Sl, Le (E 0) env ∧
      (∀ (k : Nat) (x : D), ds[k]? = some x → WS K tb' m1 ((E k).set j (.sh x)) (LoopP (LeP m1 (E (k + 1))) PO)) ∧ PO (.nx m1 (E ds.length))) : WS K (tFor wi (gName j) tb') m env PO :=
  ws_for (is := [j]) fun B Hs H σ r R q => h B Hs H σ r R fun J Hs' H' m' ds s r' k w => by
    obtain ⟨E, h0, hs, hd⟩ := k
    refine q J Hs' H' m' ds s r' ⟨fun i m2 e2 => m2 = m' ∧ Le (E i) e2, ⟨rfl, h0⟩, fun i x m2 e2 hx hE => wg_name ?_, fun m2 e2 hE => ?_⟩ w
    · obtain ⟨rfl, hE⟩ := hE
      exact ws_le (hs i x hx) (hE.set j _)
    · obtain ⟨rfl, hE⟩ := hE
      exact hm _ _ _ hE hd
theorem ws_rng1 {tb' : TS} (hm : MonoP PO) (h : WE K te m env fun d m1 => ∃ n : Int, d = .int n ∧ n ≤ 1000000 ∧ -1000000 ≤ n ∧ ∃ E : Nat → List Sl, Le (E 0) env ∧
      (∀ k : Nat, k < n.toNat → WS K tb' m1 ((E k).set j (.sh (.int (k : Int)))) (LoopP (LeP m1 (E (k + 1))) PO)) ∧ PO (.nx m1 (E n.toNat))) : WS K (tFor (iRng1 (tCons te tNil)) (gName j) tb') m env PO :=
  for_any hm (src_rng1 (h.imp fun d m1 ⟨n, e, h1, h2, E, h3, h4, h5⟩ => ⟨n, e, h1, h2, E, h3, fun k x hx => by
    obtain ⟨rfl, hk⟩ := rng_get hx
    rw [Int.zero_add]
    exact h4 k (by omega), by rw [rng_len, Int.sub_zero]; exact h5⟩))
theorem ws_rng2 {tb' : TS} (hm : MonoP PO) (h : WE K ta m env fun da m1 => WE K tb m1 env fun db m2 => ∃ a b : Int, da = .int a ∧ db = .int b ∧ a ≤ 1000000 ∧ -1000000 ≤ a ∧ b ≤ 1000000 ∧ -1000000 ≤ b ∧ ∃ E : Nat → List Sl, Le (E 0) env ∧
      (∀ k : Nat, k < (b - a).toNat → WS K tb' m2 ((E k).set j (.sh (.int (a + (k : Int))))) (LoopP (LeP m2 (E (k + 1))) PO)) ∧ PO (.nx m2 (E (b - a).toNat))) : WS K (tFor (iRng2 (tCons ta (tCons tb tNil))) (gName j) tb') m env PO :=
  for_any hm (src_rng2 (h.imp fun d m1 h => h.imp fun db m2 ⟨a, b, e, e2, h1, h2, h3, h4, E, h5, h6, h7⟩ => ⟨a, b, e, e2, h1, h2, h3, h4, E, h5, fun k x hx => by
    obtain ⟨rfl, hk⟩ := rng_get hx
    exact h6 k hk, by rw [rng_len]; exact h7⟩))
theorem ws_lst {tb' : TS} (hm : MonoP PO) (h : WE K te m env fun d m1 => ∃ ds, d = .lst ds ∧ ∃ E : Nat → List Sl, Le (E 0) env ∧
      (∀ (k : Nat) (x : D), ds[k]? = some x → WS K tb' m1 ((E k).set j (.sh x)) (LoopP (LeP m1 (E (k + 1))) PO)) ∧ PO (.nx m1 (E ds.length))) : WS K (tFor (iList K te) (gName j) tb') m env PO := for_any hm (src_list h)
theorem ws_lstN {tb' : TS} (hm : MonoP PO) (h : WL K te m env fun ds m1 => ∃ E : Nat → List Sl, Le (E 0) env ∧
      (∀ (k : Nat) (x : D), ds[k]? = some x → WS K tb' m1 ((E k).set j (.sh x)) (LoopP (LeP m1 (E (k + 1))) PO)) ∧ PO (.nx m1 (E ds.length))) : WS K (tFor (iList K te) (gName j) tb') m env PO := for_any hm (src_newL h)
theorem ws_tupf {tb' : TS} (hm : MonoP PO) (h : WE K te m env fun d m1 => ∃ ds, d = .tup ds ∧ ∃ E : Nat → List Sl, Le (E 0) env ∧
      (∀ (k : Nat) (x : D), ds[k]? = some x → WS K tb' m1 ((E k).set j (.sh x)) (LoopP (LeP m1 (E (k + 1))) PO)) ∧ PO (.nx m1 (E ds.length))) : WS K (tFor (iTup K te) (gName j) tb') m env PO := for_any hm (src_tup h)
/-- a loop over pairs -/
theorem for_two {wi : TI} {tb' : TS} {n : Nat} (hn : n = 2) (hm : MonoP PO) (h : Src K wi m env fun ds m1 => ∃ E : Nat → List Sl, Le (E 0) env ∧
      (∀ (k : Nat) (x : D), ds[k]? = some x → ∃ a b, x = .tup [a, b] ∧ WS K tb' m1 (((E k).set i (.sh a)).set j (.sh b)) (LoopP (LeP m1 (E (k + 1))) PO)) ∧ PO (.nx m1 (E ds.length))) : WS K (tFor wi (gTup K n (gCons (gName i) (gCons (gName j) gNil))) tb') m env PO :=
  ws_for (is := [i, j]) fun B Hs H σ r R q => h B Hs H σ r R fun J Hs' H' m' ds s r' k w => by
    obtain ⟨E, h0, hs, hd⟩ := k
    refine q J Hs' H' m' ds s r' ⟨fun i m2 e2 => m2 = m' ∧ Le (E i) e2, ⟨rfl, h0⟩, fun l x m2 e2 hx hE => ?_, fun m2 e2 hE => ?_⟩ w
    · obtain ⟨a, b, rfl, hb⟩ := hs l x hx
      obtain ⟨rfl, hE⟩ := hE
      exact wg_pair hn (ws_le hb ((hE.set i _).set j _))
    · obtain ⟨rfl, hE⟩ := hE
      exact hm _ _ _ hE hd
theorem ws_keys {tb' : TS} {t : Tab} (hm : MonoP PO) (he : env[i]? = some (.sh (.tab t))) (E : Nat → List Sl) (h0 : Le (E 0) env)
    (hs : ∀ (k : Nat) (c : List Int) (x : Int), t[k]? = some (c, x) → WS K tb' m ((E k).set j (.sh (.ints c))) (LoopP (LeP m (E (k + 1))) PO)) (hd : PO (.nx m (E t.length))) : WS K (tLk (tFor (iKeys (tVar i)) (gName j) tb')) m env PO :=
  ws_forK (is := [j]) he (fun k m2 e2 => m2 = m ∧ Le (E k) e2) ⟨rfl, h0⟩ (fun k x m2 e2 hx hE => wg_name (by
    obtain ⟨rfl, hE⟩ := hE
    rw [List.getElem?_map] at hx
    cases e : t[k]? with
    | none => rw [e] at hx; cases hx
    | some p =>
      rw [e] at hx
      cases hx
      exact ws_le (hs k p.1 p.2 e) (hE.set j _))) fun m2 e2 hE => by
    obtain ⟨rfl, hE⟩ := hE
    exact hm _ _ _ hE hd
/-- the turns one by one -/
def Unr (K : PySem.W.Frag) (tb' : TS) (j : Nat) (PO : Out → Prop) : List D → Nat → List Sl → Prop
  | [], m, env => PO (.nx m env)
  | x :: xs, m, env => WS K tb' m (env.set j (.sh x)) (LoopP (fun m2 e2 => Unr K tb' j PO xs m2 e2) PO)
theorem ws_unroll {wi : TI} {tb' : TS} (h : Src K wi m env fun ds m1 => Unr K tb' j PO ds m1 env) : WS K (tFor wi (gName j) tb') m env PO :=
  ws_for (is := [j]) fun B Hs H σ r R q => h B Hs H σ r R fun J Hs' H' m' ds s r' k w => by
    refine q J Hs' H' m' ds s r' ⟨fun i m2 e2 => Unr K tb' j PO (ds.drop i) m2 e2, k, fun i x m2 e2 hx hE => wg_name ?_, fun m2 e2 hE => ?_⟩ w
    · have hE : Unr K tb' j PO (ds.drop i) m2 e2 := hE
      obtain ⟨hi, e⟩ := List.getElem?_eq_some_iff.mp hx
      rw [List.drop_eq_getElem_cons hi, e] at hE
      exact hE
    · have hE : Unr K tb' j PO (ds.drop ds.length) m2 e2 := hE
      rw [List.drop_length] at hE
      exact hE
theorem ws_unrollT {tb' : TS} (h : WE K te m env fun d m1 => ∃ ds, d = .tup ds ∧ Unr K tb' j PO ds m1 env) : WS K (tFor (iTup K te) (gName j) tb') m env PO := ws_unroll (src_tup h)
theorem ws_unrollL {tb' : TS} (h : WE K te m env fun d m1 => ∃ ds, d = .lst ds ∧ Unr K tb' j PO ds m1 env) : WS K (tFor (iList K te) (gName j) tb') m env PO := ws_unroll (src_list h)
theorem br_t {b : Bool} {A B : Prop} (h : b = true) (hA : A) : (b = true → A) ∧ (b = false → B) := ⟨fun _ => hA, fun e => by rw [h] at e; cases e⟩
theorem br_f {b : Bool} {A B : Prop} (h : b = false) (hB : B) : (b = true → A) ∧ (b = false → B) := ⟨fun e => (by rw [h] at e; cases e), fun _ => hB⟩
theorem o_isN {x : D} (hx : ∀ z, flat x = some z → z ≠ .non) (h : P (.bl false) m) : Op2 K env (fun x y H Q => y = .non ∧ Q (.bl (decide (x = .non))) H) x .non m P := fun B Hs H σ x' y' r ix iy Q q => by
  cases iy
  refine ⟨rfl, ?_⟩
  have : x' ≠ .non := fun e => by
    subst e
    cases ix
    exact hx .non rfl rfl
  rw [decide_eq_false this]
  exact q _ _ Hs H m (Same.refl _) r (.bl _) h
theorem o_isNT {l : List D} (h : P (.bl false) m) : Op2 K env (fun x y H Q => y = .non ∧ Q (.bl (decide (x = .non))) H) (.tup l) .non m P := o_isN (fun z e => by cases e) h
/-! ### comprehensions in short -/
theorem any_of {vs : List Nat} (h : vs.all (fun k => match env[k]? with | some .any => true | _ => false) = true) : ∀ k ∈ vs, env[k]? = some .any := fun k hk => by
  have := List.all_eq_true.mp h k hk
  split at this
  · assumption
  · cases this
theorem wl_mapL {vs : List Nat} (hv : ∀ k ∈ vs, env[k]? = some .any) (hi : j ∈ vs) (h : WE K ta m env fun d m1 => ∃ ds, d = .lst ds ∧ ∃ F : D → D, ds.length < 1000000 ∧
      (∀ (k : Nat) (x : D), ds[k]? = some x → WE K te m1 (env.set j (.sh x)) fun y m4 => m4 = m1 ∧ y = F x) ∧ PL (ds.map F) m1) : WL K (tLc (iList K ta) (gName j) tYes te vs) m env PL :=
  wl_map (is := [j]) hv (fun k hk => by rw [List.mem_singleton.mp hk]; exact hi) (src_list (h.imp fun d m1 ⟨ds, e, F, h1, h2, h3⟩ => ⟨ds, e, F, h1, fun k x hx => wg_name (h2 k x hx), h3⟩))
theorem wl_mapN {vs : List Nat} (hv : ∀ k ∈ vs, env[k]? = some .any) (hi : j ∈ vs) (h : WL K ta m env fun ds m1 => ∃ F : D → D, ds.length < 1000000 ∧
      (∀ (k : Nat) (x : D), ds[k]? = some x → WE K te m1 (env.set j (.sh x)) fun y m4 => m4 = m1 ∧ y = F x) ∧ PL (ds.map F) m1) : WL K (tLc (iList K ta) (gName j) tYes te vs) m env PL :=
  wl_map (is := [j]) hv (fun k hk => by rw [List.mem_singleton.mp hk]; exact hi) (src_newL (fun B Hs H σ r Q q => h B Hs H σ r Q fun p xs ds Hs' H' m' s r' w a hp hx ⟨F, h1, h2, h3⟩ => q p xs ds Hs' H' m' s r' w a hp hx ⟨F, h1, fun k x hx => wg_name (h2 k x hx), h3⟩))
theorem wl_mapR1 {vs : List Nat} (hv : ∀ k ∈ vs, env[k]? = some .any) (hi : j ∈ vs) (h : WE K ta m env fun d m1 => ∃ n : Int, d = .int n ∧ n < 1000000 ∧ -1000000 ≤ n ∧ ∃ F : Nat → D,
      (∀ k : Nat, k < n.toNat → WE K te m1 (env.set j (.sh (.int (k : Int)))) fun y m4 => m4 = m1 ∧ y = F k) ∧ PL ((List.range n.toNat).map F) m1) : WL K (tLc (iRng1 (tCons ta tNil)) (gName j) tYes te vs) m env PL :=
  wl_map (is := [j]) hv (fun k hk => by rw [List.mem_singleton.mp hk]; exact hi) (src_rng1 (h.imp fun d m1 ⟨n, e, h1, h2, F, h3, h4⟩ => ⟨n, e, by omega, h2, fun d => match d with | .int z => F z.toNat | _ => .non, by rw [rng_len]; omega, fun k x hx => by
    obtain ⟨rfl, hk⟩ := rng_get hx
    rw [Int.zero_add]
    refine wg_name ((h3 k (by omega)).imp fun y m4 ⟨e1, e2⟩ => ⟨e1, ?_⟩)
    rw [e2]
    show F k = F ((k : Int)).toNat
    rw [Int.toNat_natCast], by
    have : (rng 0 n).map (fun d => match d with | .int z => F z.toNat | _ => D.non) = (List.range n.toNat).map F := by
      unfold rng
      rw [List.map_map, Int.sub_zero]
      congr 1
      funext k
      show F (0 + (k : Int)).toNat = F k
      rw [Int.zero_add, Int.toNat_natCast]
    rw [this]
    exact h4⟩))
theorem wl_mapR2 {vs : List Nat} (hv : ∀ k ∈ vs, env[k]? = some .any) (hi : j ∈ vs) (h : WE K ta m env fun da m1 => WE K tb m1 env fun db m2 => ∃ a b : Int, da = .int a ∧ db = .int b ∧ a ≤ 1000000 ∧ -400000 ≤ a ∧ b ≤ 400000 ∧ -400000 ≤ b ∧ ∃ F : D → D,
      (∀ k : Nat, k < (b - a).toNat → WE K te m2 (env.set j (.sh (.int (a + (k : Int))))) fun y m4 => m4 = m2 ∧ y = F (.int (a + (k : Int)))) ∧ PL ((rng a b).map F) m2) : WL K (tLc (iRng2 (tCons ta (tCons tb tNil))) (gName j) tYes te vs) m env PL :=
  wl_map (is := [j]) hv (fun k hk => by rw [List.mem_singleton.mp hk]; exact hi) (src_rng2 (h.imp fun d m1 h => h.imp fun db m2 ⟨a, b, e, e2, h1, h2, h3, h4, F, h5, h6⟩ => ⟨a, b, e, e2, h1, by omega, by omega, by omega, F, by rw [rng_len]; omega, fun k x hx => by
    obtain ⟨rfl, hk⟩ := rng_get hx
    exact wg_name (h5 k hk), h6⟩))
/-- with a test -/
theorem wl_filtL {vs : List Nat} (hv : ∀ k ∈ vs, env[k]? = some .any) (hi : j ∈ vs) (h : WE K ta m env fun d m1 => ∃ ds, d = .lst ds ∧ ∃ (c : D → Bool) (F : D → D), ds.length < 1000000 ∧
      (∀ (k : Nat) (x : D), ds[k]? = some x → WT K tt m1 (env.set j (.sh x)) fun b m3 => m3 = m1 ∧ b = c x) ∧
      (∀ (k : Nat) (x : D), ds[k]? = some x → c x = true → WE K te m1 (env.set j (.sh x)) fun y m4 => m4 = m1 ∧ y = F x) ∧ PL ((ds.filter c).map F) m1) : WL K (tLc (iList K ta) (gName j) tt te vs) m env PL :=
  wl_comp (is := [j]) hv (fun k hk => by rw [List.mem_singleton.mp hk]; exact hi) (src_list (h.imp fun d m1 ⟨ds, e, c, F, h1, h2, h3, h4⟩ => ⟨ds, e, fun i acc => acc = ((ds.take i).filter c).map F, by simp, h1, fun i x acc hx ea => wg_name fun B Hs H σ r Q q => h2 i x hx B Hs H σ r Q fun b Hs' H' m' s r' ⟨k1, k2⟩ => q b Hs' H' m' s r' ⟨k1, fun hb => by
      subst k1
      refine (h3 i x hx (k2 ▸ hb)).imp fun y m4 ⟨g1, g2⟩ => ⟨g1, ?_⟩
      show acc ++ [y] = ((ds.take (i + 1)).filter c).map F
      rw [ea, g2, List.take_add_one, hx, List.filter_append, List.map_append]
      congr 1
      show [F x] = (List.filter c [x]).map F
      rw [List.filter_cons, if_pos (k2 ▸ hb)]
      rfl, fun hb => by
      show acc = ((ds.take (i + 1)).filter c).map F
      rw [ea, List.take_add_one, hx, List.filter_append, List.map_append]
      show _ = _ ++ (List.filter c [x]).map F
      rw [List.filter_cons, if_neg (by rw [← k2, hb]; exact Bool.false_ne_true)]
      exact (List.append_nil _).symm⟩, fun acc ea _ => by rw [ea, List.take_length]; exact h4⟩))
end
end MW
end
section
set_option Elab.async false
set_option linter.all false
set_option maxRecDepth 100000
set_option maxHeartbeats 4000000
/-! What every def of the text may lean on: where the defs stand, which built-ins are still built in. -/
namespace ME
open PySem L2 MW
structure Tx (K : PySem.W.Frag) (mg : Str → Option Value) (h : Heap) : Prop where
  X : K.In h
  G : h.Ns mainGlobals mg
  c : He.SaysD fa fn K
/-- a def that keeps its promise by k calls -/
structure Ok (P : Program) (w : World) (K : PySem.W.Frag) (mg : Str → Option Value) (base : Heap) (x : Str) (ps : List Str) (k : Nat) (sp : Sp) : Prop where
  ex : ∃ fd, FnOk P w K mg base CX0 k (He.ga K x) fd ps sp ∧ Binds K fd ps []
  kp : PySem.W.keepIn K (.ref (He.ga K x)) = true
  mg : mg x = some (.ref (He.ga K x))
theorem Ok.mono {P : Program} {w : World} {K : PySem.W.Frag} {mg : Str → Option Value} {base : Heap} {x : Str} {ps : List Str} {j k : Nat} {sp : Sp} (o : Ok P w K mg base x ps j sp) (h : j ≤ k) : Ok P w K mg base x ps k sp :=
  ⟨let ⟨fd, F, b⟩ := o.ex; ⟨fd, F.mono h, b⟩, o.kp, o.mg⟩
section
variable {X : Cx} {x : Str} {ps : List Str} {k : Nat} {sp : Sp} {e : Expr} {es : List Expr} {p pos : Pos} {t : TA}
theorem pe_cl (o : Ok X.prog X.w X.K X.mg X.base x ps k sp) (hr : Room k X.A) (hg : Gl X x) (ha : PA X (e :: es) t) (hdb : (x == ("__debug__" : Str)) = false := by decide)
    (he : starEach (e :: es) X.env = (false, eval e X.env) :: starEach es X.env := by rfl) (hpl : (backTo pos (starEach es X.env)).any (·.1) = false := by rfl) : PE X (.Call (.Name x p) (e :: es) [] pos) (tCall sp [] E0 t) := by
  obtain ⟨fd, F, b⟩ := o.ex
  exact pe_call F hr hg o.mg o.kp b .nil pass0 ha hdb he hpl
theorem pe_gi {i : Int} {pos : Pos} (hg : Gl X x) (hm : ∃ t, X.mg x = some (.int i t)) (hd : (x == ("__debug__" : Str)) = false := by decide) : PE X (.Name x pos) (tC (.int i)) := by
  obtain ⟨t, hm⟩ := hm
  exact pe_glob hg hm ⟨t, rfl⟩ hd
end
theorem Ok.of {P : Program} {w : World} {K : PySem.W.Frag} {mg : Str → Option Value} {base : Heap} {x : Str} {st : Stmt} {ps : List Str} {k : Nat} {sp : Sp} {fd : FuncData} (F : FnP K x st (He.ga K x) fd) (m : mg x = some (.ref (He.ga K x))) (b : Binds K fd ps [])
    (o : FnOk P w K mg base CX0 k (He.ga K x) fd ps sp) : Ok P w K mg base x ps k sp := ⟨⟨fd, o, b⟩, F.kp, m⟩
theorem lenP {K : PySem.W.Frag} {sp : SpecD} {vs : List V} {H : Hp} {Q : VK} {E : XK} {n : Nat} (h : SpP K sp vs H Q E) (hn : ∀ ds R, sp ds R → ds.length = n) : vs.length = n := by
  obtain ⟨B, Hs, ds, R, hs, hb, r, q⟩ := h
  have := r.len
  rw [List.length_map, List.length_map] at this
  rw [this]
  exact hn ds R hs
theorem lenS {K : PySem.W.Frag} {sp : SpecS} {vs : List V} {H : Hp} {Q : VK} {E : XK} {n : Nat} (h : SpS K sp vs H Q E) (hn : ∀ m ds R, sp m ds R → ds.length + 1 = n) : vs.length = n := by
  obtain ⟨B, Hs, m, ds, R, hs, hb, r, q⟩ := h
  have := r.len
  rw [List.length_map, List.length_cons, List.length_map] at this
  rw [this]
  exact hn m ds R hs
section
variable {K : PySem.W.Frag} {mg : Str → Option Value} {h : Heap} (T : Tx K mg h)
include T
theorem Tx.MOST_DEEP : ∃ t, mg "MOST_DEEP" = some (.int 10 t) := He.int_ok T.X T.G (T.c.fact 61 (f := .int "MOST_DEEP" 10) rfl)
theorem Tx.MOST_PARTS : ∃ t, mg "MOST_PARTS" = some (.int 60 t) := He.int_ok T.X T.G (T.c.fact 62 (f := .int "MOST_PARTS" 60) rfl)
theorem Tx.MOST_MARKS : ∃ t, mg "MOST_MARKS" = some (.int 12 t) := He.int_ok T.X T.G (T.c.fact 63 (f := .int "MOST_MARKS" 12) rfl)
theorem Tx.MOST_WIDTH : ∃ t, mg "MOST_WIDTH" = some (.int 40 t) := He.int_ok T.X T.G (T.c.fact 64 (f := .int "MOST_WIDTH" 40) rfl)
theorem Tx.MOST_MEMBERS : ∃ t, mg "MOST_MEMBERS" = some (.int 1000000000000000000000000000000 t) := He.int_ok T.X T.G (T.c.fact 65 (f := .int "MOST_MEMBERS" 1000000000000000000000000000000) rfl)
theorem Tx.MOST_NUMBER : ∃ t, mg "MOST_NUMBER" = some (.int 12 t) := He.int_ok T.X T.G (T.c.fact 66 (f := .int "MOST_NUMBER" 12) rfl)
theorem Tx.MOST_OF_A_NAME : ∃ t, mg "MOST_OF_A_NAME" = some (.int 24 t) := He.int_ok T.X T.G (T.c.fact 67 (f := .int "MOST_OF_A_NAME" 24) rfl)
theorem Tx.bool_ : mg "bool" = none := He.free_ok T.X T.G (T.c.fact 68 (f := .free "bool") rfl)
theorem Tx.divmod_ : mg "divmod" = none := He.free_ok T.X T.G (T.c.fact 69 (f := .free "divmod") rfl)
theorem Tx.int_ : mg "int" = none := He.free_ok T.X T.G (T.c.fact 70 (f := .free "int") rfl)
theorem Tx.isinstance_ : mg "isinstance" = none := He.free_ok T.X T.G (T.c.fact 71 (f := .free "isinstance") rfl)
theorem Tx.len_ : mg "len" = none := He.free_ok T.X T.G (T.c.fact 72 (f := .free "len") rfl)
theorem Tx.list_ : mg "list" = none := He.free_ok T.X T.G (T.c.fact 73 (f := .free "list") rfl)
theorem Tx.max_ : mg "max" = none := He.free_ok T.X T.G (T.c.fact 74 (f := .free "max") rfl)
theorem Tx.range_ : mg "range" = none := He.free_ok T.X T.G (T.c.fact 75 (f := .free "range") rfl)
theorem Tx.repr_ : mg "repr" = none := He.free_ok T.X T.G (T.c.fact 76 (f := .free "repr") rfl)
theorem Tx.sorted_ : mg "sorted" = none := He.free_ok T.X T.G (T.c.fact 77 (f := .free "sorted") rfl)
theorem Tx.str_ : mg "str" = none := He.free_ok T.X T.G (T.c.fact 78 (f := .free "str") rfl)
theorem Tx.sum_ : mg "sum" = none := He.free_ok T.X T.G (T.c.fact 79 (f := .free "sum") rfl)
theorem Tx.tuple_ : mg "tuple" = none := He.free_ok T.X T.G (T.c.fact 80 (f := .free "tuple") rfl)
end
end ME
namespace ME
open PySem L2 MW
theorem Ok.none {P : Program} {w : World} {K : PySem.W.Frag} {mg : Str → Option Value} {base : Heap} {x : Str} {st : Stmt} {ps : List Str} {k : Nat} {sp : SpecD} {fd : FuncData} (F : FnP K x st (He.ga K x) fd) (m : mg x = some (.ref (He.ga K x))) (b : Binds K fd ps [])
    (no : ∀ ds R, ¬ sp ds R) : Ok P w K mg base x ps k (SpP K sp) :=
  have no2 : ∀ vs H Q E, ¬ SpP K sp vs H Q E := fun vs H Q E h => by
    obtain ⟨B, Hs, ds, R, hs, _⟩ := h
    exact no ds R hs
  ⟨⟨fd, ⟨fun vs H Q E h => absurd h (no2 vs H Q E), fun A outer s H args us vs Q E _ _ _ _ h => absurd h (no2 vs H Q E)⟩, b⟩, F.kp, m⟩
theorem Ok.noneS {P : Program} {w : World} {K : PySem.W.Frag} {mg : Str → Option Value} {base : Heap} {x : Str} {st : Stmt} {ps : List Str} {k : Nat} {sp : SpecS} {fd : FuncData} (F : FnP K x st (He.ga K x) fd) (m : mg x = some (.ref (He.ga K x))) (b : Binds K fd ps [])
    (no : ∀ m ds R, ¬ sp m ds R) : Ok P w K mg base x ps k (SpS K sp) :=
  have no2 : ∀ vs H Q E, ¬ SpS K sp vs H Q E := fun vs H Q E h => by
    obtain ⟨B, Hs, m, ds, R, hs, _⟩ := h
    exact no m ds R hs
  ⟨⟨fd, ⟨fun vs H Q E h => absurd h (no2 vs H Q E), fun A outer s H args us vs Q E _ _ _ _ h => absurd h (no2 vs H Q E)⟩, b⟩, F.kp, m⟩
end ME
end
section
set_option Elab.async false
set_option linter.all false
set_option maxRecDepth 100000
set_option maxHeartbeats 4000000
/-! Rules that the layer lacks: a tuple times 0 or 1, a display whose keys are tuples, sum of a tuple. -/
namespace MW
open PySem L2
section
variable (l : Addr) (items : Array Value) (n : Nat) (dd : Option Addr) (sl : Array (Option Value))
theorem tmul0 (u : Tok) (hne : items.isEmpty = false) : Meets (Builtin.«tuple.__mul__» ⟨[.ref l, .int 0 u], []⟩) (fun _ R s => s.heap.get? l = some { cls := .type "tuple", dict := dd, data := .seq items n, slots := sl } ∧
      R (.ok (.ret (Value.ref s.heap.objs.size))) { s with heap := s.heap.push { cls := Value.type "tuple", data := Data.seq #[] }, toks := s.toks }) :=
  .of_wp fun prog w A R s h => by
    obtain ⟨hp, g, d, tk, os⟩ := s
    obtain ⟨hl, h⟩ := h
    have f1 := AutoSeq1.idx_int
    wp_walk using wpAny_loadPart' hl
    repeat (first
      | (refine wpAny_ite_false (decide_eq_false (by rw [hne]; exact Bool.false_ne_true)) ?_; wp_walk using wpAny_loadPart' hl)
      | (refine wpAny_ite_true (decide_eq_true (by rfl)) ?_; wp_walk using wpAny_loadPart' hl))
    exact ⟨_, rfl, h⟩
theorem tmul1 (u : Tok) : Meets (Builtin.«tuple.__mul__» ⟨[.ref l, .int 1 u], []⟩) (fun _ R s => s.heap.get? l = some { cls := .type "tuple", dict := dd, data := .seq items n, slots := sl } ∧
      R (.ok (.ret (Value.ref l))) s) :=
  .of_wp fun prog w A R s h => by
    obtain ⟨hp, g, d, tk, os⟩ := s
    obtain ⟨hl, h⟩ := h
    have f1 := AutoSeq1.idx_int
    have hl2 : hp.get? l = some { cls := .type "tuple", dict := dd, data := .seq items n, slots := sl } := hl
    wp_walk using wpAny_loadPart' hl
    repeat (first
      | (refine wpAny_ite_false (decide_eq_false (by rw [Bool.or_eq_true]; intro z; rcases z with z | z <;> exact Bool.noConfusion z)) ?_; wp_walk using wpAny_loadPart' hl)
      | (refine wpAny_ite_true (decide_eq_true (by rw [Bool.or_eq_true]; exact .inr rfl)) ?_; wp_walk using wpAny_loadPart' hl))
    exact ⟨_, rfl, h⟩
end
section
variable {X : Cx}
/-- t * k, k not negative -/
def rRepA (K : PySem.W.Frag) : R2 := fun x y H Q => ∃ l k xs, x = .ref l ∧ y = .int k ∧ H l = some (.tup xs) ∧ xs ≠ [] ∧ 0 ≤ k ∧ k ≤ 1000 ∧ xs.length ≤ 1000 ∧
  (k = 0 → ∀ p, H p = none → Q (.ref p) (upd H p (.tup []))) ∧ (k = 1 → Q (.ref l) H) ∧ (2 ≤ k → ∀ p, H p = none → Q (.ref p) (upd H p (.tup (List.replicate k.toNat xs).flatten)))
theorem op_repTA : OpR X (binaryOp .Mult) (rRepA X.K) := by
  intro pins s σ H x y v u Q I rx ry h
  obtain ⟨l, k, xs, rfl, rfl, hT, hne, h0, h1, hz, q0, q1, q2⟩ := h
  by_cases h2 : 2 ≤ k
  · exact op_repT pins s σ H _ _ v u Q I rx ry ⟨l, k, xs, rfl, rfl, SqT.of hT, hne, h2, h1, hz, q2 h2⟩
  cases rx
  obtain ⟨t, rfl⟩ := ry
  obtain ⟨its, r, ⟨⟨cls, dd, data, sl⟩, ho, hc, n, hd⟩, hs⟩ := I.tuple (SqT.of (K := X.K) hT)
  simp only at hc hd
  subst hc hd
  have hn : its.toArray.isEmpty = false := by
    cases its with
    | nil =>
      cases r
      exact absurd rfl hne
    | cons a b => rfl
  have h3 : k = 0 ∨ k = 1 := by omega
  rcases h3 with rfl | rfl
  · refine wpAny_binaryOp_repeat_ref (T := "tuple") (U := "int") (by decide) ⟨_, ho, rfl⟩ (fun s' => typeIs_int s' 0 t) noFill_tuple_mul F.fills_int_mul F.slot_int_rmul repeat_tuple F.slot_int_index.lookup
      (call_meets F.slot_int_rmul (typeIs_int s 0 t) F.entry_int_rmul (F.args_int_rmul_2 _ _) (int_rmul_tuple 0 t l its.toArray n dd sl)
        ⟨ho, rfl, ⟨_, ho, rfl⟩, call_meets F.slot_tuple_mul ⟨_, ho, rfl⟩ F.entry_tuple_mul (F.args_tuple_mul_2 _ _) (tmul0 l its.toArray n dd sl t hn) ⟨ho, ?_⟩⟩)
    refine ⟨.ref s.heap.objs.size, _, I.laid (t' := s.toks) (o := .tup []) (fun b ob q => Heap.get?_push_of_some _ q) (Nat.le_refl _) ⟨Nat.zero_le _, [], .nil, PyProof.Rows.IsTup.new _ _⟩, rfl, q0 rfl _ (I.hok.fresh (Nat.le_refl _))⟩
  · refine wpAny_binaryOp_repeat_ref (T := "tuple") (U := "int") (by decide) ⟨_, ho, rfl⟩ (fun s' => typeIs_int s' 1 t) noFill_tuple_mul F.fills_int_mul F.slot_int_rmul repeat_tuple F.slot_int_index.lookup
      (call_meets F.slot_int_rmul (typeIs_int s 1 t) F.entry_int_rmul (F.args_int_rmul_2 _ _) (int_rmul_tuple 1 t l its.toArray n dd sl)
        ⟨ho, rfl, ⟨_, ho, rfl⟩, call_meets F.slot_tuple_mul ⟨_, ho, rfl⟩ F.entry_tuple_mul (F.args_tuple_mul_2 _ _) (tmul1 l its.toArray n dd sl t) ⟨ho, ?_⟩⟩)
    exact ⟨.ref l, H, I, rfl, q1 rfl⟩
/-- sum of a tuple of ints -/
def rSumT (K : PySem.W.Frag) : List V → Hp → VK → Prop := fun vs H Q => ∃ (a : Addr) (ns : List Int), vs = [V.ref a] ∧ H a = some (.tup (ns.map V.int)) ∧ Q (.int ns.sum) H
theorem ints_of : ∀ {ns : List Int} {us : List Value}, Vals (ns.map V.int) us → ∃ ps : List (Int × Tok), us = ps.map (fun p => Value.int p.1 p.2) ∧ ps.map (·.1) = ns
  | [], us, h => by cases h; exact ⟨[], rfl, rfl⟩
  | n :: ns, us, h => by
    cases h with
    | cons r t =>
      obtain ⟨tk, rfl⟩ := r
      obtain ⟨ps, e1, e2⟩ := ints_of t
      exact ⟨(n, tk) :: ps, by rw [e1]; rfl, by rw [List.map_cons, e2]⟩
theorem cr_sumT (hc : X.calm = true) : CallR X (.builtin "sum") (rSumT X.K) := by
  intro pins s σ H vs us Q I r h
  obtain ⟨a, ns, rfl, hs, q⟩ := h
  obtain ⟨its, rv, ht, _⟩ := I.tuple (SqT.of (K := X.K) hs)
  obtain ⟨u, rfl, ru⟩ := vals1 r
  cases ru
  obtain ⟨ps, e1, e2⟩ := ints_of rv
  have et : its.toArray = PySem.intItems ps.toArray := by
    rw [e1]
    simp [PySem.intItems]
  have es : PySem.preSum (PySem.numAt ps.toArray) ps.toArray.size = ns.sum := by
    rw [PySem.preSum_eq, ← e2]
    show ((ps.map (·.1)).take ps.length).sum = (ps.map (·.1)).sum
    rw [List.take_of_length_le (by rw [List.length_map]; exact Nat.le_refl _)]
  rw [et] at ht
  refine PySem.W.ktm_sumG (I.ok.hd hc) ht fun h' tk t' hk => ?_
  rw [es]
  exact ⟨.int _, H, I.kept hk, ⟨_, rfl⟩, q⟩
/-- {t1: v1, ..}, the keys tuples -/
def mergeT (kvs more : List (List Key × V)) : List (List Key × V) := more.foldl (fun acc kv => putK acc kv.1 kv.2) kvs
def tDispT (trs : List (TE × TE)) : TE := fun σ H Q => ∀ p, H p = none → tPairs trs σ (upd H p (.dT [])) fun ps H2 => H2 p = some (.dT []) ∧
  ∃ kvs : List (List Key × Addr × V), ps = kvs.map (fun kv => (V.ref kv.2.1, kv.2.2)) ∧ (∀ kv ∈ kvs, H2 kv.2.1 = some (.tup (kv.1.map kV))) ∧ kvs.length ≤ 15 ∧ Q (.ref p) (upd H2 p (.dT (mergeT [] (kvs.map fun kv => (kv.1, kv.2.2)))))
theorem carriesT {P : Program} {w : World} {H : Hp} {h : Heap} (ok : HOk P w H h) : ∀ {kvs : List (List Key × Addr × V)} {ws : List (Value × Value)}, (∀ kv ∈ kvs, H kv.2.1 = some (.tup (kv.1.map kV))) → VV (kvs.map fun kv => (V.ref kv.2.1, kv.2.2)) ws →
    ∃ ps : List (List Key × Addr × Value), CarriesH (tupleKind (mixKind P w)) h ws ps ∧ Paired (fun (p : List Key × Addr × V) (q : List Key × Addr × Value) => p.1 = q.1 ∧ p.2.1 = q.2.1 ∧ RelV p.2.2 q.2.2) kvs ps
  | [], ws, _, r => by cases r; exact ⟨[], trivial, .nil⟩
  | kv :: kvs, ws, hk, r => by
    cases r with
    | cons r1 r2 =>
      rename_i u us
      obtain ⟨ps, c, p⟩ := carriesT ok (fun z hz => hk z (List.mem_cons_of_mem _ hz)) r2
      obtain ⟨u1, u2⟩ := u
      have e1 : u1 = Value.ref kv.2.1 := r1.1
      subst e1
      exact ⟨(kv.1, kv.2.1, u2) :: ps, ⟨rfl, rfl, key_of ok (hk kv List.mem_cons_self), c⟩, .cons ⟨rfl, rfl, r1.2⟩ p⟩
theorem storedKT {H : Hp} {kvs : List (List Key × Addr × V)} {ps : List (List Key × Addr × Value)} (r : Paired (fun (p : List Key × Addr × V) (q : List Key × Addr × Value) => p.1 = q.1 ∧ p.2.1 = q.2.1 ∧ RelV p.2.2 q.2.2) kvs ps) :
    ∀ {acc : List (List Key × Addr × Value)} {a : List (List Key × V)}, (∀ kv ∈ kvs, H kv.2.1 = some (.tup (kv.1.map kV))) → KT H a acc → KT H (mergeT a (kvs.map fun kv => (kv.1, kv.2.2))) (storedAllH acc ps) := by
  induction r with
  | nil => exact fun _ k => k
  | @cons kv q kvs ps r t ih =>
    intro acc a hk k
    obtain ⟨k1, k2, k3⟩ := q
    obtain ⟨e1, e2, e3⟩ := r
    have e1 : kv.1 = k1 := e1
    have e2 : kv.2.1 = k2 := e2
    subst e1 e2
    exact ih (fun z hz => hk z (List.mem_cons_of_mem _ hz)) (k.put kv.1 (hk kv List.mem_cons_self) e3)
theorem length_mergeT : ∀ (more kvs : List (List Key × V)), (mergeT kvs more).length ≤ kvs.length + more.length
  | [], kvs => Nat.le_refl _
  | kv :: more, kvs => by
    have h1 := length_mergeT more (putK kvs kv.1 kv.2)
    have h2 := length_putK kvs kv.1 kv.2
    show (mergeT (putK kvs kv.1 kv.2) more).length ≤ kvs.length + (more.length + 1)
    omega
theorem pe_dispT {X : Cx} {pos : Pos} {keys : List (Option Expr)} {values : List Expr} {trs : List (TE × TE)} (hu : X.A.units + 1 < cLine) (h : PPs X pos keys values trs) (hall : keys.all (·.isSome) = true) (hl : keys.length = values.length) (h0 : keys ≠ [])
    (h15 : keys.length ≤ 15) : PE X (.Dict keys values pos) (tDispT trs) := by
  refine ⟨fun pins s σ H Q I q => ?_⟩
  have hn := I.hok.fresh (Nat.le_refl s.heap.objs.size)
  have I1 := I.laid (a := s.heap.objs.size) (o := .dT []) (h' := s.heap.push { cls := .type "dict", data := .dict #[] }) (t' := s.toks) (fun _ _ q => Heap.get?_push_of_some _ q) (Nat.le_refl _) (dt_empty s.heap I.big)
  have hlen := pairTrees_length keys values X.env pos hall hl
  have hne : pairTrees keys values X.env pos ≠ [] := fun e => by
    rw [e] at hlen
    exact h0 (List.length_eq_zero_iff.mp hlen.symm)
  rw [arm_eval_Dict, zip_pairTrees keys values X.env pos hall hl, dictDisplay_pairs _ hne (by omega)]
  refine wpAny_bind (wpAny_standAt (wpAny_bind (wpAny_subDictH (knd := tupleKind (mixKind X.prog X.w)) (Q := fun d s' => wpAny (model X.prog X.w) X.A (pure (Value.ref d)) (EP X pins σ Q) X.xe s') (show X.A.units < cLine by omega) (by omega) ?_)))
  refine thn (h.run pins _ σ _ _ I1 (q _ hn)) fun ws s2 ⟨ps, H2, I2, rel, e, kvs, ep, hk, lk, q2⟩ => ?_
  subst ep
  obtain ⟨rs, c, rk⟩ := carriesT I2.hok hk rel
  obtain ⟨z, hd, xs0, r0, dd⟩ := dt_of I2.hok e
  cases r0
  refine ⟨rs, c, dd, fun h' tk dd' hs => wpAny_pure ⟨.ref s.heap.objs.size, _, ?_, rfl, q2⟩⟩
  have hz : (mergeT [] (kvs.map fun kv => (kv.1, kv.2.2))).length ≤ sizeLine := by
    have h1 := length_mergeT (kvs.map fun kv => (kv.1, kv.2.2)) []
    rw [List.length_nil, List.length_map] at h1
    rw [sizeLine_eq]; omega
  have kt := storedKT rk hk (H := H2) (acc := []) (a := []) .nil
  obtain ⟨ob, es, ep, hq, h2, h3, h4, _, h5⟩ := dd'
  refine d_write I2 (by rw [e]; exact True.intro) hs ⟨ob, hq⟩ ⟨hz, hd, _, kt.keeps fun b ys eb => ?_, ob, es, ep, hq, h2, h3, h4, h5⟩
  rw [upd_ne (ne_of eb e (fun z => nomatch z))]
  exact eb
end
end MW
end
section
set_option Elab.async false
set_option linter.all false
set_option maxRecDepth 100000
set_option maxHeartbeats 4000000
namespace MW
open PySem L2
section
variable {K : PySem.W.Frag} {B : Bs} {Hs Hs' H H' H1 : Hp} {σ σ' : St} {te ta tb tc tk tv tk2 tv2 : TE} {tl : TA} {tt tu : TT} {ts tz : TS} {m m' : Nat} {env env' : List Sl} {P P' : D → Nat → Prop} {PL : List D → Nat → Prop} {PT' : Bool → Nat → Prop} {PO : Out → Prop} {i j : Nat} {d : D} {ds : List D} {p : Addr}
theorem Rep.hold (r : Rep K B Hs H σ m env) (hp : H p = none) {o2 : HO} (n2 : ∀ xs, o2 ≠ .tup xs) : Rep K (holdB B p o2) Hs (upd H p o2) σ m env := by
  obtain ⟨⟨f0, f1, f2⟩, f3⟩ := r.fresh hp
  have own : ∀ (i : Nat) (o : Sl), env[i]? = some o → o.own = true → ∀ q, σ[i]? = some (some (.ref q)) → q ≠ p := fun i o e ho q g z => f3 i o e ho (z ▸ g)
  have ow : ∀ q, Own B Hs q → q ≠ p → Own (holdB B p o2) Hs q := fun q w n => ⟨by show upd B.H0 p _ q = none; rw [upd_ne n]; exact w.1, w.2.1, fun z => z.elim w.2.2 n⟩
  refine ⟨fun b u e => ?_, fun b u e => ?_, fun a h => ?_, fun a h => ?_, r.len, fun i o e => ?_, r.ap, fun s e => ?_⟩
  · have e : upd B.H0 p o2 b = some u := e
    by_cases hb : b = p
    · subst hb; rw [upd_same] at e ⊢; exact e
    · rw [upd_ne hb] at e ⊢; exact r.base b u e
  · rw [upd_ne (fun z => by rw [z, f1] at e; cases e)]; exact r.sub b u e
  · rcases h with h | h
    · exact r.fa a h
    · rw [h]; exact f1
  · by_cases hb : a = p
    · subst hb; exact ⟨_, upd_same, n2⟩
    · rcases h with h | h
      · rw [upd_ne hb]; exact r.fb a h
      · exact absurd h hb
  · have q := r.sl i o e
    cases o with
    | any => trivial
    | sh d => exact q
    | lst ds => obtain ⟨p2, xs, e1, w, h, g⟩ := q; have n := own i _ e rfl p2 (getD_of e1); exact ⟨p2, xs, e1, ow p2 w n, by rw [upd_ne n]; exact h, g⟩
    | dic t => obtain ⟨p2, e1, w, h⟩ := q; have n := own i _ e rfl p2 (getD_of e1); exact ⟨p2, e1, ow p2 w n, by rw [upd_ne n]; exact h⟩
    | dik t => obtain ⟨p2, e1, w, h⟩ := q; have n := own i _ e rfl p2 (getD_of e1); exact ⟨p2, e1, ow p2 w n, by rw [upd_ne n]; exact h⟩
    | sta => exact q
  · obtain ⟨a, z1, z2, g1, g2⟩ := r.stt s e
    have n1 : s.st ≠ p := fun z => f2 (z ▸ g1)
    have n3 : s.lf ≠ p := fun z => f2 (z ▸ g2)
    refine ⟨a.to (Same.refl _) (fun u z => by rw [upd_ne n1]; exact z) (fun u z => by rw [upd_ne n3]; exact z) (Nat.le_refl _), ?_, ?_, .inl g1, .inl g2⟩
    · show upd B.H0 p _ s.st = none
      rw [upd_ne n1]; exact z1
    · show upd B.H0 p _ s.lf = none
      rw [upd_ne n3]; exact z2
/-- what was held is let go, shared -/
theorem Rep.holdEnd {o1 o2 : HO} (r : Rep K (holdB B p o1) Hs H σ m env) (h0 : B.H0 p = none) (n2 : ∀ xs, o2 ≠ .tup xs) (hF : ¬ B.F p) : Rep K B (upd Hs p o2) (upd H p o2) σ m env ∧ Same Hs (upd Hs p o2) := by
  have hs : Hs p = none := r.fa p (.inr rfl)
  have r2 := (r.grow (o2 := o2) n2).drop h0
  have ss : Same Hs (upd Hs p o2) := Same.new hs
  have sub2 : Same (upd Hs p o2) (upd H p o2) := fun b u e => by
    by_cases hb : b = p
    · subst hb; rw [upd_same] at e ⊢; exact e
    · rw [upd_ne hb] at e ⊢; exact r.sub b u e
  have ap : ∀ q, Own (holdB B p o1) Hs q → q ≠ p := fun q w z => by
    have w1 : upd B.H0 p o1 q = none := w.1
    rw [z, upd_same] at w1; cases w1
  have own : ∀ q, q ≠ p → Own B Hs q → Own B (upd Hs p o2) q := fun q n w => ⟨w.1, by rw [upd_ne n]; exact w.2.1, w.2.2⟩
  refine ⟨⟨r2.base, sub2, fun a h => ?_, r2.fb, r2.len, fun i o e => ?_, r2.ap, fun s e => ?_⟩, ss⟩
  · have n : a ≠ p := fun z => hF (z ▸ h)
    rw [upd_ne n]; exact r2.fa a h
  · have q := r2.sl i o e
    have q0 := r.sl i o e
    cases o with
    | any => trivial
    | sh d => obtain ⟨v, e1, h⟩ := q; exact ⟨v, e1, h.to ss⟩
    | lst ds =>
      obtain ⟨p2, xs, e1, w, h, g⟩ := q
      obtain ⟨p3, xs3, e3, w3, _⟩ := q0
      have e4 : p3 = p2 := V.ref.inj (Option.some.inj (e3.symm.trans e1))
      exact ⟨p2, xs, e1, own p2 (ap p2 (e4 ▸ w3)) w, h, g.to ss⟩
    | dic t =>
      obtain ⟨p2, e1, w, h⟩ := q
      obtain ⟨p3, e3, w3, _⟩ := q0
      have e4 : p3 = p2 := V.ref.inj (Option.some.inj (e3.symm.trans e1))
      exact ⟨p2, e1, own p2 (ap p2 (e4 ▸ w3)) w, h⟩
    | dik t =>
      obtain ⟨p2, e1, w, h⟩ := q
      obtain ⟨p3, e3, w3, _⟩ := q0
      have e4 : p3 = p2 := V.ref.inj (Option.some.inj (e3.symm.trans e1))
      exact ⟨p2, e1, own p2 (ap p2 (e4 ▸ w3)) w, h⟩
    | sta => exact q
  · obtain ⟨a, z⟩ := r2.stt s e
    exact ⟨a.to ss (fun _ z => z) (fun _ z => z) (Nat.le_refl _), z⟩
theorem we_dispT1 (h : WE K tk m env fun dk m1 => WE K tv m1 env fun dv m2 => ∃ c x, dk = .ints c ∧ dv = .int x ∧ P (.tab [(c, x)]) m2) : WE K (tDispT [(tk, tv)]) m env P := fun B Hs H σ r Q q p hp => by
  obtain ⟨⟨f0, f1, f2⟩, _⟩ := r.fresh hp
  have rh := r.hold hp (o2 := .dT []) (fun _ z => by cases z)
  refine h _ Hs _ σ rh _ fun v dk Hs1 H1 m1 s1 r1 i1 k1 => ?_
  refine k1 _ Hs1 H1 σ r1 _ fun v2 dv Hs2 H2 m2 s2 r2 i2 k2 => ?_
  obtain ⟨c, x, rfl, rfl, k⟩ := k2
  obtain ⟨b, rfl, hb⟩ := is_ints i1
  cases i2
  have hD : H2 p = some (.dT []) := r2.base p _ upd_same
  obtain ⟨r3, s3⟩ := r2.holdEnd (o2 := .dT (emb [(c, x)])) f0 (fun _ z => by cases z) f2
  refine ⟨hD, [(c.map Sum.inl, b, .int x)], rfl, fun kv hk => ?_, by simp, ?_⟩
  · rw [List.mem_singleton.mp hk]
    exact key_tup (r2.sub _ _ (s2 _ _ hb))
  · exact q _ _ _ _ m2 (s1.trans (s2.trans s3)) r3 (.tab (t := [(c, x)]) (.inl upd_same)) k
theorem we_dispT2 (h : WE K tk m env fun dk m1 => WE K tv m1 env fun dv m2 => WE K tk2 m2 env fun dk2 m3 => WE K tv2 m3 env fun dv2 m4 => ∃ c x c2 x2, dk = .ints c ∧ dv = .int x ∧ dk2 = .ints c2 ∧ dv2 = .int x2 ∧ P (.tab (tput [(c, x)] c2 x2)) m4) : WE K (tDispT [(tk, tv), (tk2, tv2)]) m env P := fun B Hs H σ r Q q p hp => by
  obtain ⟨⟨f0, f1, f2⟩, _⟩ := r.fresh hp
  have rh := r.hold hp (o2 := .dT []) (fun _ z => by cases z)
  refine h _ Hs _ σ rh _ fun v dk Hs1 H1 m1 s1 r1 i1 k1 => ?_
  refine k1 _ Hs1 H1 σ r1 _ fun v2 dv Hs2 H2 m2 s2 r2 i2 k2 => ?_
  refine k2 _ Hs2 H2 σ r2 _ fun v3 dk2 Hs3 H3 m3 s3 r3 i3 k3 => ?_
  refine k3 _ Hs3 H3 σ r3 _ fun v4 dv2 Hs4 H4 m4 s4 r4 i4 k4 => ?_
  obtain ⟨c, x, c2, x2, rfl, rfl, rfl, rfl, k⟩ := k4
  obtain ⟨b, rfl, hb⟩ := is_ints i1
  obtain ⟨b2, rfl, hb2⟩ := is_ints i3
  cases i2
  cases i4
  have hD : H4 p = some (.dT []) := r4.base p _ upd_same
  obtain ⟨r5, s5⟩ := r4.holdEnd (o2 := .dT (emb (tput [(c, x)] c2 x2))) f0 (fun _ z => by cases z) f2
  refine ⟨hD, [(c.map Sum.inl, b, .int x), (c2.map Sum.inl, b2, .int x2)], rfl, fun kv hk => ?_, by simp, ?_⟩
  · rcases List.mem_cons.mp hk with e | hk
    · rw [e]
      exact key_tup (r4.sub _ _ (s4 _ _ (s3 _ _ (s2 _ _ hb))))
    · rw [List.mem_singleton.mp hk]
      exact key_tup (r4.sub _ _ (s4 _ _ hb2))
  · have e : mergeT [] [(c.map Sum.inl, V.int x), (c2.map Sum.inl, V.int x2)] = emb (tput [(c, x)] c2 x2) := by
      rw [← emb_put]
      rfl
    show Q (.ref p) (upd H4 p (.dT (mergeT [] [(c.map Sum.inl, V.int x), (c2.map Sum.inl, V.int x2)])))
    rw [e]
    exact q _ _ _ _ m4 (s1.trans (s2.trans (s3.trans (s4.trans s5)))) r5 (.tab (.inl upd_same)) k
theorem o_repTA {as : List D} {n : Int} (hne : as ≠ []) (h0 : 0 ≤ n) (h1 : n ≤ 1000) (hl : as.length ≤ 1000) (h : P (.tup (List.replicate n.toNat as).flatten) m) : Op2 K env (rRepA K) (.tup as) (.int n) m P := fun B Hs H σ x y r ix iy Q q => by
  cases iy
  cases ix with
  | tup a1 a2 =>
    have rep : ∀ z : Nat, IsA K Hs (List.replicate z _).flatten (List.replicate z as).flatten := fun z => by
      induction z with
      | zero => exact .nil
      | succ z ih =>
        rw [List.replicate_succ, List.replicate_succ, List.flatten_cons, List.flatten_cons]
        exact a2.append ih
    refine ⟨_, n, _, rfl, rfl, r.sub _ _ a1, fun e => ?_, h0, h1, by rw [a2.length]; exact hl, fun e p hp => ?_, fun e => ?_, fun e p hp => ?_⟩
    · subst e
      cases a2
      exact hne rfl
    · subst e
      obtain ⟨r3, s3, n3⟩ := r.newS hp (.tup [])
      exact q _ _ _ _ m s3 r3 (.tup upd_same .nil) h
    · subst e
      have h : P (.tup ([as].flatten)) m := h
      rw [List.flatten_cons, List.flatten_nil, List.append_nil] at h
      exact q _ _ Hs H m (Same.refl _) r (.tup a1 a2) h
    · obtain ⟨r3, s3, n3⟩ := r.newS hp (.tup _)
      exact q _ _ _ _ m s3 r3 (.tup upd_same ((rep _).to s3)) h
theorem we_sumT (h : WE K ta m env fun da m1 => ∃ ns : List Int, da = .ints ns ∧ P (.int ns.sum) m1) : WE K (tCB (rSumT K) (tCons ta tNil)) m env P := fun B Hs H σ r Q q => by
  refine h B Hs H σ r _ fun v d Hs1 H1 m1 s1 r1 i1 k1 => ?_
  obtain ⟨ns, rfl, k⟩ := k1
  obtain ⟨b, rfl, hb⟩ := is_ints i1
  exact ⟨b, ns, rfl, r1.sub _ _ hb, q _ _ Hs1 H1 m1 s1 r1 (.int _) k⟩
end
end MW
end
section
set_option Elab.async false
set_option linter.all false
set_option maxRecDepth 100000
set_option maxHeartbeats 4000000
/-! more rules -/
namespace MW
open PySem L2
section
variable {K : PySem.W.Frag} {B : Bs} {Hs Hs' H H' H1 : Hp} {σ σ' : St} {te ta tb tc tk tv tk2 tv2 : TE} {tl : TA} {tt tu : TT} {ts tz : TS} {m m' : Nat} {env env' : List Sl} {P P' : D → Nat → Prop} {PL : List D → Nat → Prop} {PT' : Bool → Nat → Prop} {PO : Out → Prop} {i j : Nat} {d : D} {ds : List D} {p : Addr}
theorem rep_ints (z : Int) : ∀ k : Nat, (List.replicate k [D.int z]).flatten = (List.replicate k z).map D.int
  | 0 => rfl
  | k + 1 => by rw [List.replicate_succ, List.flatten_cons, rep_ints z k, List.replicate_succ]; rfl
theorem o_repTI {z n : Int} (h0 : 0 ≤ n) (h1 : n ≤ 1000) (h : P (.ints (List.replicate n.toNat z)) m) : Op2 K env (rRepA K) (.tup [.int z]) (.int n) m P :=
  o_repTA (fun e => by cases e) h0 h1 (by simp only [List.length_cons, List.length_nil]; omega) (by rw [rep_ints]; exact h)
/-- a, b = a pair -/
theorem ws_asg2 {n : Nat} (hn : n = 2) (h : WE K te m env fun d m1 => ∃ a b, d = .tup [a, b] ∧ PO (.nx m1 ((env.set i (.sh a)).set j (.sh b)))) : WS K (tAsg te (gTup K n (gCons (gName i) (gCons (gName j) gNil)))) m env PO := fun B Hs H σ D r q =>
  h B Hs H σ r _ fun v d Hs' H' m' s r' iv k => by
    obtain ⟨a, b, rfl, k⟩ := k
    exact (wg_pair (m := m') (env := env) hn (PG' := fun e => PO (.nx m' e)) k) B Hs' H' σ v r' iv _ fun σ' env' r2 _ _ _ e => q _ e Hs' H' σ' s r2
end
end MW
end
section
set_option Elab.async false
set_option linter.all false
set_option maxRecDepth 100000
set_option maxHeartbeats 4000000
/-! a list of dicts of our own, by the addresses; the dicts are held while the def walks -/
namespace MW
open PySem L2
def hM (B : Bs) (M : Hp) : Bs := ⟨fun a => match M a with
  | some o => some o
  | none => B.H0 a, fun a => B.F a ∨ M a ≠ none, B.st⟩
structure Held (q : Addr) (ps : List Addr) (Ts : List Tab) (M : Hp) : Prop where
  top : M q = some (.lst (ps.map V.ref))
  at' : ∀ (i : Nat) (p : Addr) (t : Tab), ps[i]? = some p → Ts[i]? = some t → M p = some (.dT (emb t))
  len : ps.length = Ts.length
  nd : (q :: ps).Nodup
  sup : ∀ a, M a ≠ none → a ∈ q :: ps
def Fr (B : Bs) (q : Addr) (ps : List Addr) : Prop := ∀ a ∈ q :: ps, B.H0 a = none ∧ ¬ B.F a
section
variable {K : PySem.W.Frag} {B : Bs} {Hs Hs' H H' H1 M M' : Hp} {σ σ' : St} {te ta tb tc tk tv tk2 tv2 tx : TE} {tl : TA} {tt tu : TT} {ts tz : TS} {m m' : Nat} {env env' : List Sl} {P P' : D → Nat → Prop} {PL : List D → Nat → Prop} {PT' : Bool → Nat → Prop} {PO : Out → Prop} {i j l : Nat} {d : D} {ds : List D} {p q : Addr} {ps : List Addr} {Ts : List Tab} {t : Tab}
theorem hM_at {o : HO} (h : M p = some o) : (hM B M).H0 p = some o := by
  show (match M p with | some o => some o | none => B.H0 p) = _
  rw [h]
theorem hM_no (h : M p = none) : (hM B M).H0 p = B.H0 p := by
  show (match M p with | some o => some o | none => B.H0 p) = _
  rw [h]
theorem holdB_hM (o : HO) : holdB (hM B M) p o = hM B (upd M p o) := by
  unfold holdB hM
  congr 1
  · funext a
    by_cases h : a = p
    · subst h
      simp only [upd_same]
    · simp only [upd_ne h]
  · funext a
    by_cases h : a = p
    · subst h
      simp only [upd_same, or_true, ne_eq, reduceCtorEq, not_false_eq_true]
    · simp only [upd_ne h, h, or_false]
theorem Rep.growM {o : HO} (r : Rep K (hM B M) Hs H σ m env) (h : M p ≠ none) (n2 : ∀ xs, o ≠ .tup xs) : Rep K (hM B (upd M p o)) Hs (upd H p o) σ m env := by
  obtain ⟨o1, h1⟩ : ∃ o1, M p = some o1 := Option.ne_none_iff_exists'.mp h
  have g := r.holdN (p := p) (o2 := o) (r.fa p (.inr h)) (fun a w z => by
    have := w.1
    rw [z, hM_at h1] at this
    cases this) (fun s e => by
    obtain ⟨_, z1, z2, _⟩ := r.stt s e
    exact ⟨fun z => (by rw [z, hM_at h1] at z1; cases z1), fun z => (by rw [z, hM_at h1] at z2; cases z2)⟩) n2
  rw [← holdB_hM]
  exact g
theorem nd_ne {ps : List Addr} {i j : Nat} {p p' : Addr} (nd : ps.Nodup) (hi : ps[i]? = some p) (hj : ps[j]? = some p') (h : i ≠ j) : p ≠ p' := fun e => by
  have a := (List.getElem?_eq_some_iff.mp hi).1
  exact h ((List.getElem?_inj a nd).mp (by rw [hi, hj, e]))
theorem Held.set (h : Held q ps Ts M) (hp : ps[i]? = some p) (t : Tab) : Held q ps (Ts.set i t) (upd M p (.dT (emb t))) := by
  obtain ⟨n1, n2⟩ := List.nodup_cons.mp h.nd
  have hpm : p ∈ ps := List.mem_of_getElem? hp
  refine ⟨?_, fun k p' t' h1 h2 => ?_, by rw [List.length_set]; exact h.len, h.nd, fun a ha => ?_⟩
  · rw [upd_ne (fun e => n1 (by rw [e]; exact hpm))]; exact h.top
  · by_cases hk : i = k
    · subst hk
      rw [hp] at h1
      cases h1
      rw [List.getElem?_set] at h2
      rw [if_pos rfl] at h2
      split at h2
      · cases h2; rw [upd_same]
      · cases h2
    · rw [List.getElem?_set_ne hk] at h2
      rw [upd_ne (fun e => nd_ne n2 hp h1 hk e.symm)]
      exact h.at' k p' t' h1 h2
  · by_cases e : a = p
    · rw [e]; exact List.mem_cons_of_mem _ hpm
    · rw [upd_ne e] at ha; exact h.sup a ha
theorem Held.push (h : Held q ps Ts M) (hp : M p = none) (t : Tab) : Held q (ps ++ [p]) (Ts ++ [t]) (upd (upd M p (.dT (emb t))) q (.lst ((ps ++ [p]).map V.ref))) := by
  obtain ⟨n1, n2⟩ := List.nodup_cons.mp h.nd
  have pq : p ≠ q := fun e => by rw [e, h.top] at hp; cases hp
  have mm : ∀ a ∈ ps, M a ≠ none := fun a ha z => by
    obtain ⟨k, hk⟩ := List.getElem?_of_mem ha
    have hl : k < Ts.length := by rw [← h.len]; exact (List.getElem?_eq_some_iff.mp hk).1
    have := h.at' k a _ hk (List.getElem?_eq_getElem hl)
    rw [z] at this; cases this
  have pn : p ∉ ps := fun z => mm p z hp
  refine ⟨upd_same, fun k p' t' h1 h2 => ?_, by rw [List.length_append, List.length_append, h.len]; rfl, ?_, fun a ha => ?_⟩
  · have hin : p' ∈ ps ++ [p] := List.mem_of_getElem? h1
    have n3 : p' ≠ q := fun e => by
      rcases List.mem_append.mp hin with z | z
      · exact n1 (e ▸ z)
      · exact pq ((List.mem_singleton.mp z).symm.trans e)
    rw [upd_ne n3]
    by_cases hk : k < ps.length
    · rw [List.getElem?_append_left hk] at h1
      rw [List.getElem?_append_left (by rw [← h.len]; exact hk)] at h2
      rw [upd_ne (fun e => pn (by rw [← e]; exact List.mem_of_getElem? h1))]
      exact h.at' k p' t' h1 h2
    · rw [List.getElem?_append_right (by omega)] at h1
      rw [List.getElem?_append_right (by rw [← h.len]; omega)] at h2
      obtain ⟨z1, z2⟩ := List.getElem?_eq_some_iff.mp h1
      have z3 : k - ps.length = 0 := by simp only [List.length_cons, List.length_nil] at z1; omega
      rw [z3] at h1
      have z4 : k - Ts.length = 0 := by rw [← h.len]; exact z3
      rw [z4] at h2
      cases h1
      cases h2
      rw [upd_same]
  · refine List.nodup_cons.mpr ⟨fun z => ?_, List.nodup_append.mpr ⟨n2, by simp, fun a ha b hb e => ?_⟩⟩
    · rcases List.mem_append.mp z with z | z
      · exact n1 z
      · exact pq (List.mem_singleton.mp z).symm
    · rw [List.mem_singleton.mp hb] at e
      exact pn (e ▸ ha)
  · by_cases e : a = q
    · rw [e]; exact List.mem_cons_self
    · rw [upd_ne e] at ha
      by_cases e2 : a = p
      · rw [e2]; exact List.mem_cons_of_mem _ (List.mem_append_right _ (List.mem_singleton.mpr rfl))
      · rw [upd_ne e2] at ha
        rcases List.mem_cons.mp (h.sup a ha) with z | z
        · exact absurd z e
        · exact List.mem_cons_of_mem _ (List.mem_append_left _ z)
theorem lockH_congr {H H' : Hp} {a d : Addr} {o : Obj} {u : HO} (h : H a = H' a) : lockH H d o u a = lockH H' d o u a := by unfold lockH; rw [h]
def WM (K : PySem.W.Frag) (q : Addr) (ps : List Addr) (ts : TS) (m : Nat) (env : List Sl) (Ts : List Tab) (PM : Nat → List Sl → List Tab → Prop) : Prop :=
  ∀ (B : Bs) (M Hs H : Hp) (σ : St) (D : Ends), Held q ps Ts M → Rep K (hM B M) Hs H σ m env →
    (∀ m' env' Ts', PM m' env' Ts' → ∀ M' Hs' H' σ', Held q ps Ts' M' → Same Hs Hs' → Rep K (hM B M') Hs' H' σ' m' env' → D.nx σ' H') → ts D σ H
variable {PM : Nat → List Sl → List Tab → Prop}
theorem wm_lift (h : WS K ts m env fun o => ∃ m' e', o = .nx m' e' ∧ PM m' e' Ts) : WM K q ps ts m env Ts PM := fun B M Hs H σ D hh r qq => h _ Hs H σ D r fun o ho => by
  obtain ⟨m', e', rfl, k⟩ := ho
  exact fun Hs' H' σ' s r' => qq m' e' Ts k M Hs' H' σ' hh s r'
theorem wm_seq (h : WM K q ps ts m env Ts fun m1 e1 T1 => WM K q ps tz m1 e1 T1 PM) : WM K q ps (tSeq ts tz) m env Ts PM := fun B M Hs H σ D hh r qq =>
  h B M Hs H σ { D with nx := tz D } hh r fun m1 e1 T1 k M1 Hs1 H1 σ1 h1 s1 r1 => k B M1 Hs1 H1 σ1 D h1 r1 fun m' e' T' k' M' Hs' H' σ' h' s' r' => qq m' e' T' k' M' Hs' H' σ' h' (s1.trans s') r'
theorem wm_if (h : WT K tt m env fun b m1 => (b = true → WM K q ps ts m1 env Ts PM) ∧ (b = false → WM K q ps tz m1 env Ts PM)) : WM K q ps (tIfS tt ts tz) m env Ts PM := fun B M Hs H σ D hh r qq => h _ Hs H σ r _ fun b Hs2 H2 m2 s2 r2 k2 => by
  have k : ∀ {u : TS}, WM K q ps u m2 env Ts PM → u D σ H2 := fun w => w B M Hs2 H2 σ D hh r2 fun m' e' T' k' M' Hs' H' σ' h' s' r' => qq m' e' T' k' M' Hs' H' σ' h' (s2.trans s') r'
  cases b with
  | true => exact iteT (k (k2.1 rfl))
  | false => exact iteF (k (k2.2 rfl))
theorem wm_next (h : PM m env Ts) : WM K q ps tNext m env Ts PM := fun B M Hs H σ D hh r qq => qq m env Ts h M Hs H σ hh (Same.refl _) r
theorem wm_imp {PM' : Nat → List Sl → List Tab → Prop} (h : WM K q ps ts m env Ts PM) (f : ∀ m e T, PM m e T → PM' m e T) : WM K q ps ts m env Ts PM' := fun B M Hs H σ D hh r qq => h B M Hs H σ D hh r fun m' e' T' k => qq m' e' T' (f _ _ _ k)
theorem wm_le (h : WM K q ps ts m env Ts PM) (l : Le env env') : WM K q ps ts m env' Ts PM := fun B M Hs H σ D hh r qq => h B M Hs H σ D hh (r.resl (by rw [r.len, l.len]) fun i o e n => ⟨l.at' e n, rfl⟩) qq
/-- one of the dicts is named -/
theorem wm_pick {ti : TE} (he : env[i]? = some (.sh (.adr q))) (h : WE K ti m env fun d m1 => ∃ n : Nat, d = .int n ∧ n < Ts.length ∧ ∀ p, ps[n]? = some p → PM m1 (env.set j (.sh (.adr p))) Ts) : WM K q ps (tAsg (tOp (rIxL K) (tVar i) ti) (gName j)) m env Ts PM := fun B M Hs H σ D hh r qq => by
  obtain ⟨v, e1, e2⟩ := r.sl i _ he
  cases e2
  refine ⟨_, getD_of e1, ?_⟩
  refine h _ Hs H σ r _ fun v d Hs1 H1 m1 s1 r1 i1 k1 => ?_
  obtain ⟨n, rfl, hn, k⟩ := k1
  cases i1
  have hn2 : n < ps.length := by rw [hh.len]; exact hn
  have hp : ps[n]? = some ps[n] := List.getElem?_eq_getElem hn2
  refine ⟨q, ps.map V.ref, n, .ref ps[n], rfl, rfl, SqL.of (r1.base _ _ (hM_at hh.top)), atI_nat (by rw [List.getElem?_map, hp]; rfl), ?_⟩
  exact qq _ _ _ (k _ hp) M Hs1 H1 _ hh s1 (r1.store j _ (.sh (.adr ps[n])) ⟨_, rfl, .adr _⟩ fun z => by cases z)
/-- d[k] = d.get(k, x) + y -/
theorem wm_put (he : env[i]? = some (.sh (.adr p))) (hp : ps[l]? = some p) (ht : Ts[l]? = some t) (hl : t.length < 1000000)
    (h : WE K tk m env fun dk m1 => WE K tx m1 env fun dx m2 => ∃ c z, dk = .ints c ∧ dx = .int z ∧ WE K te m2 env fun dy m3 => ∃ y, dy = .int y ∧ WE K tk2 m3 env fun dk2 m4 => dk2 = .ints c ∧ PM m4 env (Ts.set l (tput t c ((tget t c).getD z + y)))) :
    WM K q ps (sDPut (tVar i) tk2 (tOp (rI0 fun i j => .int (i + j)) (tDGet2 (tVar i) tk tx) te)) m env Ts PM := fun B M Hs H σ D hh r qq => by
  have hMp : M p = some (.dT (emb t)) := hh.at' l p t hp ht
  obtain ⟨v, e1, e2⟩ := r.sl i _ he
  cases e2
  have hb : ∀ {Hs1 H1 : Hp} {m1 : Nat}, Rep K (hM B M) Hs1 H1 σ m1 env → H1 p = some (.dT (emb t)) := fun r1 => r1.base _ _ (hM_at hMp)
  refine ⟨_, getD_of e1, p, rfl, .inr ⟨_, .inl (hb r)⟩, ?_⟩
  refine h _ Hs H σ r _ fun vk dk Hs1 H1 m1 s1 r1 i1 k1 => ?_
  refine k1 _ Hs1 H1 σ r1 _ fun vx dx Hs2 H2 m2 s2 r2 i2 k2 => ?_
  obtain ⟨c, z, rfl, rfl, k2⟩ := k2
  cases i2
  obtain ⟨b, rfl, hb1⟩ := is_ints i1
  refine ⟨_, dget_t (.inl (hb r2)) (r2.sub _ _ (s2 _ _ hb1)), ?_⟩
  rw [getD_int]
  refine k2 _ Hs2 H2 σ r2 _ fun vy dy Hs3 H3 m3 s3 r3 i3 k3 => ?_
  obtain ⟨y, rfl, k3⟩ := k3
  cases i3
  refine ⟨_, _, rfl, rfl, _, getD_of e1, ?_⟩
  refine k3 _ Hs3 H3 σ r3 _ fun v4 d4 Hs4 H4 m4 s4 r4 i4 k4 => ?_
  obtain ⟨rfl, k⟩ := k4
  obtain ⟨b2, rfl, hb2⟩ := is_ints i4
  refine ⟨p, _, rfl, DPut.t (hb r4) (key_tup (r4.sub _ _ hb2)) (Nat.lt_of_lt_of_le (by rw [emb_len]; exact hl) (small_le (Nat.le_refl _))), ?_⟩
  rw [emb_put]
  exact qq _ _ _ k _ Hs4 _ σ (hh.set hp _) (s1.trans (s2.trans (s3.trans s4))) (r4.growM (by rw [hMp]; intro z; cases z) (fun _ z => by cases z))
/-! ### loops -/
theorem forM_core {tb' : TS} {J : It} {g : TG} {is : List Nat} {D : Ends} (hh : Held q ps Ts M) (r : Rep K (hM B M) Hs H σ m env) (w : Walks K J ds Hs) (S : Nat → List Sl → List Tab → Prop) (h0 : S 0 env Ts)
    (hs : ∀ i x env2 T2, ds[i]? = some x → S i env2 T2 → WG K g is x m env2 fun env3 => WM K q ps tb' m env3 T2 fun m' e' T' => m' = m ∧ S (i + 1) e' T')
    (hd : ∀ M' Hs' H' σ' env' T', S ds.length env' T' → Held q ps T' M' → Same Hs Hs' → Rep K (hM B M') Hs' H' σ' m env' → D.nx σ' H') :
    ∃ W : Nat → Nat → St → Hp → Prop, (∃ n, W 0 n σ H) ∧ ∀ i n σ H, W i n σ H →
      (J.stop i H ∧ D.nx σ H) ∨ (J.go i H ∧ ∃ N : St → Hp → Prop, (∀ σ' H', N σ' H' → ∃ n', n' < n ∧ W (i + 1) n' σ' H') ∧ ∀ x H', J.yld i H x H' → g x σ H' fun σ2 H2 => tb' { D with nx := N, ct := N, bk := D.nx } σ2 H2) := by
  refine ⟨fun i n σ H => n = ds.length - i ∧ i ≤ ds.length ∧ ∃ Hs1 env1 T1 M1, Held q ps T1 M1 ∧ Same Hs Hs1 ∧ Rep K (hM B M1) Hs1 H σ m env1 ∧ S i env1 T1, ⟨_, rfl, Nat.zero_le _, Hs, env, Ts, M, hh, Same.refl _, r, h0⟩, ?_⟩
  rintro i n σ H ⟨rfl, hi, Hs1, env1, T1, M1, h1, s1, r1, k1⟩
  have s2 : Same Hs H := fun b o e => r1.sub b o (s1 b o e)
  by_cases hlt : i < ds.length
  · refine .inr ⟨w.go i H s2 hlt, fun σ' H' => ∃ Hs2 env2 T2 M2, Held q ps T2 M2 ∧ Same Hs1 Hs2 ∧ Rep K (hM B M2) Hs2 H' σ' m env2 ∧ S (i + 1) env2 T2, fun σ' H' ⟨Hs2, env2, T2, M2, h2, a, b, c⟩ => ⟨ds.length - (i + 1), by omega, rfl, hlt, Hs2, env2, T2, M2, h2, s1.trans a, b, c⟩, fun x H' y => ?_⟩
    obtain ⟨d, ed⟩ : ∃ d, ds[i]? = some d := ⟨_, List.getElem?_eq_getElem hlt⟩
    obtain ⟨rfl, hx⟩ := w.yld i H x H' d s2 y ed
    have go : ∀ Hs2, Same Hs1 Hs2 → Rep K (hM B M1) Hs2 H' σ m env1 → Is K Hs2 x d → g x σ H' fun σ2 H2 => tb' { D with nx := fun σ' H' => ∃ Hs2 env2 T2 M2, Held q ps T2 M2 ∧ Same Hs1 Hs2 ∧ Rep K (hM B M2) Hs2 H' σ' m env2 ∧ S (i + 1) env2 T2, ct := fun σ' H' => ∃ Hs2 env2 T2 M2, Held q ps T2 M2 ∧ Same Hs1 Hs2 ∧ Rep K (hM B M2) Hs2 H' σ' m env2 ∧ S (i + 1) env2 T2, bk := D.nx } σ2 H2 := fun Hs2 s3 r2 ix => by
      refine hs i d env1 T1 ed k1 _ Hs2 H' σ x r2 ix _ fun σ' env' r3 _ _ _ k3 => ?_
      refine k3 B M1 Hs2 H' σ' _ h1 r3 fun m4 env4 T4 k4 M4 Hs4 H4 σ4 h4 s4 r4 => ?_
      obtain ⟨rfl, k4⟩ := k4
      exact ⟨Hs4, env4, T4, M4, h4, s3.trans s4, r4, k4⟩
    rcases hx with hx | ⟨q', c, rfl, rfl, hq⟩
    · exact go Hs1 (Same.refl _) r1 (hx.to s1)
    · obtain ⟨Hs2, s3, r2, e2⟩ := r1.addT hq
      exact go Hs2 s3 r2 (.tup e2 (IsA.ints c))
  · have e : i = ds.length := by omega
    subst e
    exact .inl ⟨w.stop _ H s2 (Nat.le_refl _), hd M1 Hs1 H σ env1 T1 k1 h1 s1 r1⟩
theorem wm_rng1 {tb' : TS} (h : WE K te m env fun d m1 => ∃ n : Int, d = .int n ∧ n ≤ 1000000 ∧ -1000000 ≤ n ∧ ∃ (E : Nat → List Sl) (T : Nat → List Tab), Le (E 0) env ∧ T 0 = Ts ∧
      (∀ k : Nat, k < n.toNat → WM K q ps tb' m1 ((E k).set j (.sh (.int (k : Int)))) (T k) fun m' e' T' => m' = m1 ∧ Le (E (k + 1)) e' ∧ T' = T (k + 1)) ∧ (∀ e', Le (E n.toNat) e' → PM m1 e' (T n.toNat))) : WM K q ps (tFor (iRng1 (tCons te tNil)) (gName j) tb') m env Ts PM := fun B M Hs H σ D hh r qq => by
  refine h _ Hs H σ r _ fun v d Hs1 H1 m1 s1 r1 i1 k1 => ?_
  obtain ⟨n, rfl, a1, a2, E, T, b1, rfl, b3, b4⟩ := k1
  cases i1
  refine ⟨n, rfl, by omega, by omega, ?_⟩
  refine forM_core (is := [j]) hh r1 (walks_rng (lo := 0) (hi := n) (by rw [Int.sub_zero])) (fun i e' T' => Le (E i) e' ∧ T' = T i) ⟨b1, rfl⟩ (fun i x env2 T2 hx hS => ?_) (fun M' Hs' H' σ' env' T' hS h' s' r' => ?_)
  · obtain ⟨l, rfl⟩ := hS
    obtain ⟨rfl, hk⟩ := rng_get hx
    rw [Int.zero_add]
    exact wg_name (wm_le (b3 i (by omega)) (l.set j _))
  · rw [rng_len, Int.sub_zero] at hS
    obtain ⟨l, rfl⟩ := hS
    exact qq _ _ _ (b4 env' l) M' Hs' H' σ' h' (s1.trans s') r'
/-- the keys of one of a shared list of dicts -/
theorem wm_keysL {tb' : TS} {n : Nat} (he : env[i]? = some (.sh (.lst ds))) (hn : env[l]? = some (.sh (.int (n : Int)))) (hd : ds[n]? = some (.tab t)) (E : Nat → List Sl) (T : Nat → List Tab) (h0 : Le (E 0) env) (hT : T 0 = Ts)
    (hs : ∀ (k : Nat) (c : List Int) (x : Int), t[k]? = some (c, x) → WM K q ps tb' m ((E k).set j (.sh (.ints c))) (T k) fun m' e' T' => m' = m ∧ Le (E (k + 1)) e' ∧ T' = T (k + 1)) (hend : ∀ e', Le (E t.length) e' → PM m e' (T t.length)) :
    WM K q ps (tLk (tFor (iKeys (tOp (rIxL K) (tVar i) (tVar l))) (gName j) tb')) m env Ts PM := fun B M Hs H σ D hh r qq => by
  subst hT
  obtain ⟨v, e1, e2⟩ := r.sl i _ he
  obtain ⟨v2, e3, e4⟩ := r.sl l _ hn
  cases e4
  have hlen : (t.map fun p => MW.D.ints p.1).length = t.length := List.length_map _
  cases e2 with
  | lst g1 g2 =>
    rename_i a0 xs
    obtain ⟨w, gw, iw⟩ := g2.get hd
    cases iw with
    | tab g3 =>
      rename_i a
      have step : ∀ (i : Nat) (x : MW.D) (env2 : List Sl) (T2 : List Tab), (t.map fun p => MW.D.ints p.1)[i]? = some x → Le (E i) env2 ∧ T2 = T i → WG K (gName j) [j] x m env2 fun env3 => WM K q ps tb' m env3 T2 fun m' e' T' => m' = m ∧ (Le (E (i + 1)) e' ∧ T' = T (i + 1)) := fun i x env2 T2 hx hE => wg_name (by
        obtain ⟨lE, rfl⟩ := hE
        rw [List.getElem?_map] at hx
        cases e : t[i]? with
        | none => rw [e] at hx; cases hx
        | some pp =>
          rw [e] at hx
          cases hx
          exact wm_le (hs i pp.1 pp.2 e) (lE.set j _))
      rcases g3 with g3 | ⟨o, g3⟩
      · refine .inl ⟨a, .dT (emb t), r.sub _ _ g3, trivial, fun od => ?_⟩
        have nM : ∀ {M' : Hp} {T' : List Tab}, Held q ps T' M' → M' a = none := fun {M' T'} h' => by
          have nF : ¬ (hM B M).F a := fun z => by rw [r.fa _ z] at g3; cases g3
          cases q1 : M' a with
          | none => rfl
          | some u =>
            have m1 := h'.sup a (by rw [q1]; intro z; cases z)
            refine absurd (.inr ?_) nF
            rcases List.mem_cons.mp m1 with z | z
            · rw [z, hh.top]; intro y; cases y
            · obtain ⟨k, hk⟩ := List.getElem?_of_mem z
              have hl : k < (T 0).length := by rw [← hh.len]; exact (List.getElem?_eq_some_iff.mp hk).1
              rw [hh.at' k a _ hk (List.getElem?_eq_getElem hl)]
              intro y; cases y
        have eqB : ∀ {M' : Hp} {T' : List Tab}, Held q ps T' M' → (⟨lockH (hM B M').H0 a od (.dT (emb t)), (hM B M').F, (hM B M').st⟩ : Bs) = hM ⟨lockH B.H0 a od (.dT (emb t)), B.F, B.st⟩ M' := fun {M' T'} h' => by
          have nm := nM h'
          unfold hM
          congr 1
          funext b
          by_cases eb : b = a
          · subst eb
            have e0 : (match M' b with | some o => some o | none => B.H0 b) = B.H0 b := by rw [nm]
            show lockH (fun b => match M' b with | some o => some o | none => B.H0 b) b od (.dT (emb t)) b = match M' b with | some o => some o | none => lockH B.H0 b od (.dT (emb t)) b
            rw [nm]
            exact lockH_congr e0
          · show lockH (fun b => match M' b with | some o => some o | none => B.H0 b) a od (.dT (emb t)) b = match M' b with | some o => some o | none => lockH B.H0 a od (.dT (emb t)) b
            rw [lockH_ne eb, lockH_ne eb]
        have hb : ∀ {M' : Hp} {T' : List Tab}, Held q ps T' M' → ∀ u, (hM B M').H0 a = some u → u = .dT (emb t) := fun {M' T'} h' u e => by
          rw [hM_no (nM h')] at e
          have e' : (hM B M).H0 a = some u := by rw [hM_no (nM hh)]; exact e
          have := r.base a u e'
          rw [r.sub _ _ g3] at this
          cases this; rfl
        have rl := r.lock (od := od) g3
        rw [eqB hh] at rl
        have lk1 : lockH Hs a od (.dT (emb t)) a0 = some (.lst xs) := by rw [lockH_no (by rw [g1]; intro z; cases z)]; exact g1
        refine ⟨_, getD_of e1, _, getD_of e3, a0, xs, n, .ref a, rfl, rfl, SqL.of (rl.sub _ _ lk1), atI_nat gw, a, od, rfl, .inr ⟨emb t, upd_same, ?_⟩⟩
        refine forM_core (is := [j]) hh rl (walks_keys (lockH_at g3)) (fun i e' T' => Le (E i) e' ∧ T' = T i) ⟨h0, rfl⟩ step (fun M' Hs' H' σ' env' T' hS h' s' r' => ?_)
        rw [hlen] at hS
        obtain ⟨lE, rfl⟩ := hS
        rw [← eqB h'] at r'
        obtain ⟨a1, a2, a3⟩ := r'.unlock g3 s' (hb h')
        exact ⟨a1, qq _ _ _ (hend env' lE) M' _ _ σ' h' a2 a3⟩
      · refine .inr ⟨_, getD_of e1, _, getD_of e3, a0, xs, n, .ref a, rfl, rfl, SqL.of (r.sub _ _ g1), atI_nat gw, a, o, rfl, .inr ⟨emb t, r.sub _ _ g3, ?_⟩⟩
        refine forM_core (is := [j]) hh r (walks_keys g3) (fun i e' T' => Le (E i) e' ∧ T' = T i) ⟨h0, rfl⟩ step (fun M' Hs' H' σ' env' T' hS h' s' r' => ?_)
        rw [hlen] at hS
        obtain ⟨lE, rfl⟩ := hS
        exact qq _ _ _ (hend env' lE) M' Hs' H' σ' h' s' r'
/-! ### the beginning and the end -/
theorem is_tabs {H : Hp} : ∀ {ps : List Addr} {Ts : List Tab}, (∀ (i : Nat) (p : Addr) (t : Tab), ps[i]? = some p → Ts[i]? = some t → H p = some (.dT (emb t))) → ps.length = Ts.length → IsA K H (ps.map V.ref) (Ts.map MW.D.tab)
  | [], [], _, _ => .nil
  | [], _ :: _, _, h => by cases h
  | _ :: _, [], _, h => by cases h
  | p :: ps, t :: Ts, h, hl => .cons (.tab (.inl (h 0 p t rfl rfl))) (is_tabs (fun i p' t' h1 h2 => h (i + 1) p' t' h1 h2) (Nat.succ.inj hl))
theorem Rep.endM (r : Rep K (hM B M) Hs H σ m env) (hh : Held q ps Ts M) (fr : Fr B q ps) : ∃ Hs', Same Hs Hs' ∧ Rep K B Hs' H [] m [] ∧ Is K Hs' (.ref q) (.lst (Ts.map MW.D.tab)) := by
  have hno : ∀ a, M a ≠ none → Hs a = none := fun a h => r.fa a (.inr h)
  have hat : ∀ a o, M a = some o → (match M a with | some o => some o | none => Hs a) = some o := fun a o h => by rw [h]
  have hnn : ∀ a, M a = none → (match M a with | some o => some o | none => Hs a) = Hs a := fun a h => by rw [h]
  have mn : ∀ a, B.H0 a ≠ none ∨ B.F a → M a = none := fun a h => by
    cases e : M a with
    | none => rfl
    | some o =>
      have := fr a (hh.sup a (by rw [e]; intro z; cases z))
      exact absurd this (fun z => h.elim (fun y => y z.1) (fun y => z.2 y))
  refine ⟨fun a => match M a with | some o => some o | none => Hs a, fun a u e => ?_, ⟨fun a u e => ?_, fun a u e => ?_, fun a h => ?_, fun a h => r.fb a (.inl h), rfl, fun i o e => by simp at e, fun i j p oi oj e => by simp at e, fun s e => ?_⟩, .lst (hat q _ hh.top) (is_tabs (fun i p t h1 h2 => hat p _ (hh.at' i p t h1 h2)) hh.len)⟩
  · show (match M a with | some o => some o | none => Hs a) = some u
    cases e1 : M a with
    | none => exact e
    | some o => rw [hno a (by rw [e1]; intro z; cases z)] at e; cases e
  · exact r.base a u (by rw [hM_no (mn a (.inl (by rw [e]; intro z; cases z)))]; exact e)
  · cases e1 : M a with
    | none => rw [hnn a e1] at e; exact r.sub a u e
    | some o => rw [hat a o e1] at e; cases e; exact r.base a _ (hM_at e1)
  · rw [hnn a (mn a (.inr h))]
    exact r.fa a (.inl h)
  · obtain ⟨x1, x2, x3, x4, x5⟩ := r.stt s e
    have y : ∀ a, (hM B M).H0 a = none → M a = none := fun a h => by
      cases e1 : M a with
      | none => rfl
      | some o => rw [hM_at e1] at h; cases h
    have y1 := y _ x2
    have y2 := y _ x3
    rw [hM_no y1] at x2
    rw [hM_no y2] at x3
    refine ⟨x1.to (fun a u e => ?_) (fun _ z => z) (fun _ z => z) (Nat.le_refl _), x2, x3, x4.resolve_right (fun z => z y1), x5.resolve_right (fun z => z y2)⟩
    show (match M a with | some o => some o | none => Hs a) = some u
    cases e1 : M a with
    | none => exact e
    | some o => rw [hno a (by rw [e1]; intro z; cases z)] at e; cases e
theorem ws_held {ti : TE} {rest : TS} {vs : List Nat} (hv : ∀ k ∈ vs, env[k]? = some .any) (hj : j ∈ vs) (hlt : i < env.length) (h : WE K ti m env fun d m1 => ∃ n : Int, d = .int n ∧ 0 ≤ n ∧ n < 1000000 ∧
      ∀ q ps, WM K q ps rest m1 (env.set i (.sh (.adr q))) (List.replicate n.toNat []) fun m' e' T' => e'[i]? = some (.sh (.adr q)) ∧ PO (.rt (.lst (T'.map MW.D.tab)) m')) :
    WS K (tSeq (tAsg (tLc (iRng1 (tCons ti tNil)) (gName j) tYes tDNewT vs) (gName i)) (tSeq rest (tRet (tVar i)))) m env PO := fun B Hs H σ D r qq => by
  refine h B Hs H σ r _ fun v d Hs1 H1 m1 s1 r1 i1 k1 => ?_
  obtain ⟨n, rfl, a1, a2, k⟩ := k1
  cases i1
  refine ⟨n, rfl, by omega, by omega, ?_⟩
  intro Dl hD
  have fD := r1.fresh hD
  have any : ∀ {i : Nat} {o : Sl}, env[i]? = some o → o ≠ .any → i ∉ vs := fun e n z => by rw [hv _ z] at e; exact n (Option.some.inj e).symm
  have rw1 : Rep K B Hs1 H1 (wipe σ vs) m1 env := r1.resl (by rw [wipe_length, r1.len]) fun i o e n => ⟨e, wipe_out (any e n)⟩
  have e0 : holdB B Dl (.lst []) = hM B (upd (fun _ => none) Dl (.lst [])) := by
    have e1 : hM B (fun _ => none) = B := by
      unfold hM
      obtain ⟨a, b, c⟩ := B
      congr 1
      funext x
      exact propext ⟨fun h => h.elim id fun z => absurd rfl z, .inl⟩
    rw [← holdB_hM, e1]
  have rh := rw1.hold hD (o2 := .lst []) (fun _ z => by cases z)
  rw [e0] at rh
  have held0 : Held Dl [] [] (upd (fun _ => none) Dl (.lst [])) := ⟨upd_same, fun i p t h => by simp at h, rfl, by simp, fun a ha => by
    by_cases e : a = Dl
    · rw [e]; exact List.mem_cons_self
    · rw [upd_ne e] at ha; exact absurd rfl ha⟩
  have fr0 : Fr B Dl [] := fun a ha => by
    rw [List.mem_singleton.mp ha]
    exact ⟨fD.1.1, fD.1.2.2⟩
  refine ⟨fun i k H => k = n.toNat - i ∧ i ≤ n.toNat ∧ ∃ Hs2 M ps, Held Dl ps (List.replicate i []) M ∧ Fr B Dl ps ∧ Same Hs1 Hs2 ∧ Rep K (hM B M) Hs2 H (wipe σ vs) m1 env, ⟨_, rfl, Nat.zero_le _, Hs1, _, [], held0, fr0, Same.refl _, rh⟩, ?_⟩
  rintro k' _ H2 ⟨rfl, hi', Hs2, M, ps, hh, fr, s2, r2⟩
  by_cases hlt' : k' < n.toNat
  · refine .inr ⟨hlt', fun H' => ∃ Hs3 M' ps', Held Dl ps' (List.replicate (k' + 1) []) M' ∧ Fr B Dl ps' ∧ Same Hs1 Hs3 ∧ Rep K (hM B M') Hs3 H' (wipe σ vs) m1 env, fun H' p => ⟨n.toNat - (k' + 1), by omega, rfl, hlt', p⟩, fun x H' y => ?_⟩
    obtain ⟨rfl, rfl⟩ := y
    show wipe ((wipe σ vs).set j (some _)) vs = wipe σ vs ∧ _
    refine ⟨?_, ?_⟩
    · rw [wipe_congr (σ := (wipe σ vs).set j (some _)) (σ' := wipe σ vs) (vs := vs) (List.length_set ..) (fun k hk => List.getElem?_set_ne (fun e => hk (by rw [← e]; exact hj))), wipe_wipe]
    · dsimp only [tYes, tDNewT]
      rw [if_pos rfl]
      intro p hp
      have hq : H' Dl = some (.lst (ps.map V.ref)) := r2.base _ _ (hM_at hh.top)
      have pq : Dl ≠ p := fun e => by rw [e, hp] at hq; cases hq
      have hMp : M p = none := by
        cases e : M p with
        | none => rfl
        | some o => rw [r2.base _ _ (hM_at e)] at hp; cases hp
      have fp := r2.fresh hp
      have r3 := r2.hold hp (o2 := .dT []) (fun _ z => by cases z)
      rw [holdB_hM] at r3
      have r4 := r3.growM (p := Dl) (o := .lst ((ps ++ [p]).map V.ref)) (by rw [upd_ne pq, hh.top]; intro z; cases z) (fun _ z => by cases z)
      refine ⟨ps.map V.ref, by rw [upd_ne pq]; exact hq, Nat.lt_of_lt_of_le (by rw [List.length_map, hh.len, List.length_replicate]; omega) (small_le (Nat.le_refl 1000000)), Hs2, upd (upd M p (.dT (emb []))) Dl (.lst ((ps ++ [p]).map V.ref)), ps ++ [p], ?_, ?_, s2, ?_⟩
      · have := hh.push hMp []
        rw [List.replicate_succ']
        exact this
      · intro a ha
        rcases List.mem_cons.mp ha with e | ha
        · exact fr a (by rw [e]; exact List.mem_cons_self)
        · rcases List.mem_append.mp ha with ha | ha
          · exact fr a (List.mem_cons_of_mem _ ha)
          · rw [List.mem_singleton.mp ha]
            have z1 := fp.1.1
            rw [hM_no hMp] at z1
            exact ⟨z1, fun z => fp.1.2.2 (.inl z)⟩
      · have e4 : List.map V.ref ps ++ [V.ref p] = List.map V.ref (ps ++ [p]) := by rw [List.map_append]; rfl
        rw [e4]
        exact r4
  · have e : k' = n.toNat := by omega
    subst e
    refine .inl ⟨Nat.le_refl _, ?_⟩
    have r6 : Rep K (hM B M) Hs2 H2 σ m1 env := r2.resl r.len fun k o e n => ⟨e, (wipe_out (any e n)).symm⟩
    have r7 := r6.store i (.ref Dl) (.sh (.adr Dl)) ⟨_, rfl, .adr _⟩ (fun z => by cases z)
    refine k Dl ps B M Hs2 H2 _ _ hh r7 fun m' env' Ts' hP M' Hs' H' σ' h' s' r' => ?_
    obtain ⟨he, hP⟩ := hP
    obtain ⟨v, e1, e2⟩ := r'.sl i _ he
    cases e2
    obtain ⟨Hs4, s4, r4, i4⟩ := r'.endM h' fr
    exact ⟨_, getD_of e1, qq _ hP _ _ _ (s1.trans (s2.trans (s'.trans s4))) r4 i4⟩
end
end MW
end
section
set_option Elab.async false
set_option linter.all false
set_option maxRecDepth 100000
set_option maxHeartbeats 4000000
/-! == and != of tuples of ints, lists -/
namespace MW
open PySem L2
def pI (c : List Int) : PyData := .tuple (c.map .int)
section
variable {K : PySem.W.Frag} {B : Bs} {Hs Hs' H H' H1 : Hp} {σ σ' : St} {te ta tb tc tk tv tk2 tv2 : TE} {tl : TA} {tt tu : TT} {ts tz : TS} {m m' : Nat} {env env' : List Sl} {P P' : D → Nat → Prop} {PL : List D → Nat → Prop} {PT' : Bool → Nat → Prop} {PO : Out → Prop} {i j : Nat} {d : D} {ds : List D} {p : Addr} {v : V}
theorem dp_ints (H : Hp) : ∀ c : List Int, DpAll K H (c.map V.int) (c.map PyData.int)
  | [] => .nil
  | i :: c => .cons (.int i) (dp_ints H c)
theorem dp_pI {c : List Int} (h : Is K H v (.ints c)) : Dp K H v (pI c) := by
  obtain ⟨b, rfl, hb⟩ := is_ints h
  exact .tup (SqT.of hb) (dp_ints H c)
theorem dp_pIs : ∀ {cs : List (List Int)} {xs : List V}, IsA K H xs (cs.map D.ints) → DpAll K H xs (cs.map pI)
  | [], _, h => by cases h; exact .nil
  | c :: cs, _, h => by
    cases h with
    | cons h1 h2 => exact .cons (dp_pI h1) (dp_pIs h2)
theorem lay_ints : ∀ c : List Int, PyData.canLayAll0 (c.map PyData.int) = true
  | [] => rfl
  | i :: c => by
    show (PyData.canLay0 (.int i) && PyData.canLayAll0 (c.map PyData.int)) = true
    rw [lay_ints c]; rfl
theorem depth_ints : ∀ c : List Int, PyData.depthAll (c.map PyData.int) ≤ 2
  | [] => by decide
  | i :: c => by
    have := depth_ints c
    have e : PyData.depthAll ((i :: c).map PyData.int) = max (PyData.depth (.int i)) (PyData.depthAll (c.map PyData.int)) := by
      rw [List.map_cons, PyData.depthAll]
    rw [e]
    have : PyData.depth (.int i) ≤ 2 := by simp [PyData.depth]
    omega
theorem lay_pIs : ∀ cs : List (List Int), PyData.canLayAll0 (cs.map pI) = true
  | [] => rfl
  | c :: cs => by
    show (PyData.canLay0 (pI c) && PyData.canLayAll0 (cs.map pI)) = true
    rw [lay_pIs cs]
    show (PyData.canLayAll0 (c.map PyData.int) && true) = true
    rw [lay_ints c]; rfl
theorem depth_pI (c : List Int) : PyData.depth (pI c) ≤ 4 := by
  unfold pI
  have := depth_ints c
  simp only [PyData.depth]
  omega
theorem depth_pIs : ∀ cs : List (List Int), PyData.depthAll (cs.map pI) ≤ 4
  | [] => by decide
  | c :: cs => by
    have h1 := depth_pIs cs
    have h2 := depth_pI c
    have e : PyData.depthAll ((c :: cs).map pI) = max (PyData.depth (pI c)) (PyData.depthAll (cs.map pI)) := by
      rw [List.map_cons, PyData.depthAll]
    rw [e]
    omega
theorem shp (d : PyData) (h1 : d.canLay0 = true) (h2 : d.depth ≤ 64) : SeqAt.shaped d = true := by
  unfold SeqAt.shaped
  rw [h1, decide_eq_true h2]
  rfl
theorem shp_pI (c : List Int) : SeqAt.shaped (pI c) = true := shp _ (lay_ints c) (by have := depth_pI c; omega)
theorem shp_L (c : List Int) : SeqAt.shaped (.list (c.map .int)) = true := shp _ (lay_ints c) (by have := depth_ints c; simp only [PyData.depth]; omega)
theorem shp_LL (cs : List (List Int)) : SeqAt.shaped (.list (cs.map pI)) = true := shp _ (lay_pIs cs) (by have := depth_pIs cs; simp only [PyData.depth]; omega)
theorem eqv_ints : ∀ c d : List Int, PyData.eqvAll (c.map .int) (d.map .int) = decide (c = d)
  | [], [] => rfl
  | [], _ :: _ => rfl
  | _ :: _, [] => rfl
  | i :: c, j :: d => by
    show ((i == j) && PyData.eqvAll (c.map .int) (d.map .int)) = _
    rw [eqv_ints c d, Bool.eq_iff_iff]
    simp
theorem eqv_nil (cs : List PyData) : PyData.eqvAll cs [] = cs.isEmpty := by cases cs <;> rfl
theorem o_eqTT {c d : List Int} (h : P (.bl (decide (c = d))) m) : Op2 K env (rEqD K) (.ints c) (.ints d) m P := fun B Hs H σ x y r ix iy Q q =>
  ⟨_, _, dp_pI (ix.to r.sub), dp_pI (iy.to r.sub), shp_pI c, shp_pI d, by
    show Q (.bl (PyData.eqvAll (c.map .int) (d.map .int))) H
    rw [eqv_ints]
    exact q _ _ Hs H m (Same.refl _) r (.bl _) h⟩
theorem o_eqT0 {c : List Int} (h : P (.bl (decide (c = []))) m) : Op2 K env (rEqD K) (.ints c) (.tup []) m P := o_eqTT (d := []) h
theorem dp_L {c : List Int} (h : Is K H v (.lst (c.map .int))) : Dp K H v (.list (c.map .int)) := by
  cases h with
  | lst h1 h2 =>
    rw [IsA.of_ints h2] at h1
    exact .lst (SqL.of h1) (dp_ints H c)
theorem dp_LL {cs : List (List Int)} (h : Is K H v (.lst (cs.map .ints))) : Dp K H v (.list (cs.map pI)) := by
  cases h with
  | lst h1 h2 => exact .lst (SqL.of h1) (dp_pIs h2)
theorem dp_scr {c : List Int} (h : Is K H v (.scr c)) : Dp K H v (.list (c.map .int)) := by
  cases h with
  | scr h1 => exact .lst h1 (dp_ints H c)
theorem o_eqL0 {c : List Int} (h : P (.bl c.isEmpty) m) : Op2 K env (rEqD K) (.lst (c.map .int)) (.lst []) m P := fun B Hs H σ x y r ix iy Q q =>
  ⟨_, _, dp_L (ix.to r.sub), dp_L (c := []) (iy.to r.sub), shp_L c, shp_L [], by
    show Q (.bl (PyData.eqvAll (c.map .int) [])) H
    rw [eqv_nil, List.isEmpty_map]
    exact q _ _ Hs H m (Same.refl _) r (.bl _) h⟩
theorem o_neLL0 {cs : List (List Int)} (h : P (.bl (!cs.isEmpty)) m) : Op2 K env (rNeD K) (.lst (cs.map .ints)) (.lst []) m P := fun B Hs H σ x y r ix iy Q q =>
  ⟨_, _, dp_LL (ix.to r.sub), dp_LL (cs := []) (iy.to r.sub), shp_LL cs, shp_LL [], by
    show Q (.bl (!PyData.eqvAll (cs.map pI) [])) H
    rw [eqv_nil, List.isEmpty_map]
    exact q _ _ Hs H m (Same.refl _) r (.bl _) h⟩
theorem o_neS0 {c : List Int} (h : P (.bl (!c.isEmpty)) m) : Op2 K env (rNeD K) (.scr c) (.lst []) m P := fun B Hs H σ x y r ix iy Q q =>
  ⟨_, _, dp_scr (ix.to r.sub), dp_L (c := []) (iy.to r.sub), shp_L c, shp_L [], by
    show Q (.bl (!PyData.eqvAll (c.map .int) [])) H
    rw [eqv_nil, List.isEmpty_map]
    exact q _ _ Hs H m (Same.refl _) r (.bl _) h⟩
theorem flats_ints : ∀ c : List Int, flats (c.map D.int) = some (c.map V.int)
  | [] => rfl
  | i :: c => by
    show (match flat (.int i), flats (c.map D.int) with | some x, some xs => some (x :: xs) | _, _ => none) = _
    rw [flats_ints c]
    rfl
/-! ### over a list or a tuple -/
def iSeq (K : PySem.W.Frag) (tl : TE) : TI := fun σ H R => iList K tl σ H R ∨ iTup K tl σ H R
theorem pi_seq {X : Cx} {tg l : Expr} {tl : TE} (hl : PE X l tl) : PI X tg l (iSeq X.K tl) := ⟨fun pins s σ H R I q => q.elim (fun q => (pi_list hl).run pins s σ H R I q) fun q => (pi_tup hl).run pins s σ H R I q⟩
theorem ws_seqv {tb' : TS} {i : Nat} {src : D} {xs : List D} (hm : MonoP PO) (he : env[i]? = some (.sh src)) (hs : src = .lst xs ∨ src = .tup xs) (h : ∃ E : Nat → List Sl, Le (E 0) env ∧
      (∀ (k : Nat) (x : D), xs[k]? = some x → WS K tb' m ((E k).set j (.sh x)) (LoopP (LeP m (E (k + 1))) PO)) ∧ PO (.nx m (E xs.length))) : WS K (tFor (iSeq K (tVar i)) (gName j) tb') m env PO := by
  rcases hs with rfl | rfl
  · exact for_any hm fun B Hs H σ r R q => .inl (src_list (we_var he ⟨xs, rfl, h⟩) B Hs H σ r R q)
  · exact for_any hm fun B Hs H σ r R q => .inr (src_tup (we_var he ⟨xs, rfl, h⟩) B Hs H σ r R q)
theorem wl_mapT {vs : List Nat} (hv : ∀ k ∈ vs, env[k]? = some .any) (hi : j ∈ vs) (h : WE K ta m env fun d m1 => ∃ ds, d = .tup ds ∧ ∃ F : D → D, ds.length < 1000000 ∧
      (∀ (k : Nat) (x : D), ds[k]? = some x → WE K te m1 (env.set j (.sh x)) fun y m4 => m4 = m1 ∧ y = F x) ∧ PL (ds.map F) m1) : WL K (tLc (iTup K ta) (gName j) tYes te vs) m env PL :=
  wl_map (is := [j]) hv (fun k hk => by rw [List.mem_singleton.mp hk]; exact hi) (src_tup (h.imp fun d m1 ⟨ds, e, F, h1, h2, h3⟩ => ⟨ds, e, F, h1, fun k x hx => wg_name (h2 k x hx), h3⟩))
theorem wl_filtT {vs : List Nat} (hv : ∀ k ∈ vs, env[k]? = some .any) (hi : j ∈ vs) (h : WE K ta m env fun d m1 => ∃ ds, d = .tup ds ∧ ∃ (c : D → Bool) (F : D → D), ds.length < 1000000 ∧
      (∀ (k : Nat) (x : D), ds[k]? = some x → WT K tt m1 (env.set j (.sh x)) fun b m3 => m3 = m1 ∧ b = c x) ∧
      (∀ (k : Nat) (x : D), ds[k]? = some x → c x = true → WE K te m1 (env.set j (.sh x)) fun y m4 => m4 = m1 ∧ y = F x) ∧ PL ((ds.filter c).map F) m1) : WL K (tLc (iTup K ta) (gName j) tt te vs) m env PL :=
  wl_comp (is := [j]) hv (fun k hk => by rw [List.mem_singleton.mp hk]; exact hi) (src_tup (h.imp fun d m1 ⟨ds, e, c, F, h1, h2, h3, h4⟩ => ⟨ds, e, fun i acc => acc = ((ds.take i).filter c).map F, by simp, h1, fun i x acc hx ea => wg_name fun B Hs H σ r Q q => h2 i x hx B Hs H σ r Q fun b Hs' H' m' s r' ⟨k1, k2⟩ => q b Hs' H' m' s r' ⟨k1, fun hb => by
      subst k1
      refine (h3 i x hx (k2 ▸ hb)).imp fun y m4 ⟨g1, g2⟩ => ⟨g1, ?_⟩
      show acc ++ [y] = ((ds.take (i + 1)).filter c).map F
      rw [ea, g2, List.take_add_one, hx, List.filter_append, List.map_append]
      congr 1
      show [F x] = (List.filter c [x]).map F
      rw [List.filter_cons, if_pos (k2 ▸ hb)]
      rfl, fun hb => by
      show acc = ((ds.take (i + 1)).filter c).map F
      rw [ea, List.take_add_one, hx, List.filter_append, List.map_append]
      show _ = _ ++ (List.filter c [x]).map F
      rw [List.filter_cons, if_neg (by rw [← k2, hb]; exact Bool.false_ne_true)]
      exact (List.append_nil _).symm⟩, fun acc ea _ => by rw [ea, List.take_length]; exact h4⟩))
/-! ### rules over a given K (inside a comprehension) -/
section
variable {X : Cx} {K : PySem.W.Frag} {tg l : Expr} {t1 : TE} {es : List Expr} {kk n : Nat} {tt1 : TGs} {pos : Pos}
theorem ix_listK (h : X.K = K) : IxR X (rIxL K) := by subst h; exact ix_list
theorem ix_tupK (h : X.K = K) : IxR X (rIxT K) := by subst h; exact ix_tup
theorem call_tuple_ofK (h : X.K = K) : CallR X (.type "tuple") (rTupS K) := by subst h; exact call_tuple_of
theorem call_list_ofK (h : X.K = K) : CallR X (.type "list") (rListS K) := by subst h; exact call_list_of
theorem call_len_seqK (h : X.K = K) : CallR X (.builtin "len") (rLenS K) := by subst h; exact call_len_seq
theorem op_in_seqK (h : X.K = K) : OpR X (compareOp .In) (rIn K false) := by subst h; exact op_in_seq
theorem call_isiK (h : X.K = K) : CallR X (.builtin "isinstance") (rIsi K) := by subst h; exact call_isi
theorem op_catAK (h : X.K = K) : OpR X (binaryOp .Add) (rCatA K) := by subst h; exact op_catA
theorem cr_sumTK (h : X.K = K) (hc : X.calm = true) : CallR X (.builtin "sum") (rSumT K) := by subst h; exact cr_sumT hc
theorem op_eqDK (h : X.K = K) (hu : X.A.units + 64 < cLine) : OpR X (compareOp .Eq) (rEqD K) := by subst h; exact op_eqD hu
theorem pi_listK (h : X.K = K) (hl : PE X l t1) : PI X tg l (iList K t1) := by subst h; exact pi_list hl
theorem pi_tupK (h : X.K = K) (hl : PE X l t1) : PI X tg l (iTup K t1) := by subst h; exact pi_tup hl
theorem pg_tupK (h : X.K = K) (hc : X.calm = true) (h1 : PGs X es tt1) (hn : (assignEach es X.env).length = n := by rfl) (hst : (assignEach es X.env).findIdx? (·.1) = none := by rfl) : PG X (.Tuple es kk pos) (gTup K n tt1) := by subst h; exact pg_tup hc h1 hn hst
end
end
end MW
end
section
set_option Elab.async false
set_option linter.all false
set_option maxRecDepth 100000
set_option maxHeartbeats 4000000
/-! list.remove of a tuple of ints, two new lists at once, pop and append -/
namespace MW
open PySem L2
def rRemD (K : PySem.W.Frag) : V → List V → Hp → VK → Prop := fun x xs H Q => ∃ (l : Addr) (ys : List V) (y : V) (ds : List PyData) (d : PyData) (j : Nat), x = .ref l ∧ xs = [y] ∧ H l = some (.lst ys) ∧ DpAll K H ys ds ∧ Dp K H y d ∧ PyData.plainAll ds = true ∧ d.plain = true ∧ PyData.depthAll ds ≤ 32 ∧ SeqAt.dataPlace ds d = some j ∧ Q .non (upd H l (.lst (ys.eraseIdx j)))
theorem mt_removeD {X : Cx} (hu : X.A.units + 64 < cLine) : MtM X "list.remove" (rRemD X.K) := by
  intro pins s σ H x xs v us Q I rx rxs h
  obtain ⟨l, ys, y, ds, d, j, rfl, rfl, hH, ha, hy, h1, h2, h3, hp, q⟩ := h
  cases rx
  obtain ⟨u, rfl, ru⟩ := rxs.one
  obtain ⟨z, its, n, r, hl, e⟩ := I.lstM hH
  obtain ⟨as, ra⟩ := Dp.readsAll I ds _ its ha r
  obtain ⟨bs, rb⟩ := Dp.reads I d _ u hy ru
  refine SeqAt.remove_list_data (vs := its.toArray) ⟨_, e, rfl, n, rfl⟩ ra rb h1 h2 (by omega) hp (by rw [List.size_toArray]; omega) ?_
  refine ⟨.non, _, I.lset (its' := its.eraseIdx j) (t' := s.toks) hH e ?_ (r.eraseIdx j) ?_, rfl, q⟩
  · show its.toArray.eraseIdxIfInBounds j = (its.eraseIdx j).toArray
    rw [List.eraseIdxIfInBounds_toArray]
  · have := len_erase ys j
    omega
theorem mt_removeDK {X : Cx} {K : PySem.W.Frag} (h : X.K = K) (hu : X.A.units + 64 < cLine) : MtM X "list.remove" (rRemD K) := by subst h; exact mt_removeD hu
section
variable {K : PySem.W.Frag} {B : Bs} {Hs Hs' H H' H1 : Hp} {σ σ' : St} {te ta tb tc tk tv tk2 tv2 : TE} {tl : TA} {tt tu : TT} {ts tz : TS} {m m' : Nat} {env env' : List Sl} {P P' : D → Nat → Prop} {PL : List D → Nat → Prop} {PT' : Bool → Nat → Prop} {PO : Out → Prop} {i j : Nat} {d : D} {ds es : List D} {p : Addr} {v : V}
theorem plain_ints : ∀ c : List Int, PyData.plainAll (c.map PyData.int) = true
  | [] => rfl
  | i :: c => by
    show (PyData.plain (.int i) && PyData.plainAll (c.map PyData.int)) = true
    rw [plain_ints c]; rfl
theorem plain_pIs : ∀ cs : List (List Int), PyData.plainAll (cs.map pI) = true
  | [] => rfl
  | c :: cs => by
    show (PyData.plainAll (c.map PyData.int) && PyData.plainAll (cs.map pI)) = true
    rw [plain_pIs cs, plain_ints c]; rfl
theorem place_pI {c : List Int} : ∀ {cs : List (List Int)}, c ∈ cs → ∃ j, SeqAt.dataPlace (cs.map pI) (pI c) = some j ∧ cs.erase c = cs.eraseIdx j
  | [], h => by cases h
  | x :: cs, h => by
    have e : PyData.eqv (pI x) (pI c) = decide (x = c) := eqv_ints x c
    by_cases hx : x = c
    · refine ⟨0, ?_, ?_⟩
      · unfold SeqAt.dataPlace
        rw [List.map_cons, List.findIdx?_cons, e, decide_eq_true hx]
        rfl
      · rw [hx, List.erase_cons_head]
        rfl
    · obtain ⟨j, h1, h2⟩ := place_pI (cs := cs) ((List.mem_cons.mp h).resolve_left fun z => hx z.symm)
      refine ⟨j + 1, ?_, ?_⟩
      · unfold SeqAt.dataPlace at h1 ⊢
        rw [List.map_cons, List.findIdx?_cons, e, decide_eq_false hx, h1]
        rfl
      · rw [List.erase_cons_tail (by simpa using hx), h2]
        rfl
theorem erase_map {α β : Type} {f : α → β} : ∀ (l : List α) (j : Nat), (l.eraseIdx j).map f = (l.map f).eraseIdx j
  | [], j => by simp
  | a :: l, 0 => rfl
  | a :: l, j + 1 => by
    show f a :: (l.eraseIdx j).map f = f a :: (l.map f).eraseIdx j
    rw [erase_map l j]
theorem ws_remove {cs : List (List Int)} (he : env[i]? = some (.lst (cs.map D.ints))) (h : WE K te m env fun d m1 => ∃ c, d = .ints c ∧ c ∈ cs ∧ PO (.nx m1 (env.set i (.lst ((cs.erase c).map D.ints))))) : WS K (tDrop (tBM K "list" (rRemD K) (tVar i) (tCons te tNil))) m env PO := fun B Hs H σ D r q => by
  obtain ⟨p, xs, e1, w, e2, e3⟩ := r.sl i _ he
  refine ⟨_, getD_of e1, .inl ⟨rfl, _, SqL.of e2⟩, h B Hs H σ r _ fun v d Hs' H' m' s r' k e => ?_⟩
  obtain ⟨c, rfl, hc, ho⟩ := e
  obtain ⟨p', xs', e1', w', e2', e3'⟩ := r'.sl i _ he
  rw [e1] at e1'
  cases e1'
  obtain ⟨j, hj1, hj2⟩ := place_pI hc
  refine ⟨p, xs', v, _, _, j, rfl, rfl, e2', dp_pIs (e3'.to r'.sub), dp_pI (k.to r'.sub), plain_pIs cs, plain_ints c, by have := depth_pIs cs; omega, hj1, ?_⟩
  have e4 : (cs.erase c).map MW.D.ints = (cs.map MW.D.ints).eraseIdx j := by rw [hj2]; exact erase_map _ j
  rw [e4] at ho
  exact q _ ho Hs' _ σ s (r'.write he rfl (getD_of e1) _ (.lst ((cs.map MW.D.ints).eraseIdx j)) rfl fun w => ⟨p, _, rfl, w, upd_same, e3'.eraseIdx j⟩)
/-- a, b = a new list, [] -/
theorem ws_par2L (hij : i ≠ j) (h : WL K ta m env fun ds m1 => PO (.nx m1 ((env.set i (.lst ds)).set j (.lst [])))) : WS K (tPar i j (tCons ta (tCons (tLst tNil) tNil))) m env PO := fun B Hs H σ D r q =>
  h B Hs H σ r _ fun p xs ds Hs' H' m' s r' w a hp hx e => by
    refine ⟨small_le (by decide), fun p2 hp2 => ⟨_, _, rfl, ?_⟩⟩
    obtain ⟨w2, a2⟩ := r'.fresh hp2
    have ne : p ≠ p2 := fun z => by rw [z, hp2] at hp; cases hp
    have r2 := r'.new0 hp2 (.lst [])
    have r3 := r2.store i (.ref p) (.lst ds) ⟨p, xs, rfl, w, by rw [upd_ne ne]; exact hp, hx⟩ fun _ p' e' => by cases e'; exact a
    refine q _ e Hs' _ _ s (r3.store j (.ref p2) (.lst []) ⟨p2, [], rfl, w2, upd_same, .nil⟩ fun _ p' e' => ?_)
    cases e'
    intro k o e1 ho z
    by_cases hk : i = k
    · subst hk
      rw [List.getElem?_set] at z
      rw [if_pos rfl] at z
      split at z
      · cases z; exact ne rfl
      · cases z
    · rw [List.getElem?_set_ne hk] at e1 z
      exact a2 k o e1 ho z
/-! ### a comprehension over a list of our own -/
theorem wl_compO {i0 : Nat} {g : TG} {vs is : List Nat} (hv : ∀ k ∈ vs, env[k]? = some .any) (hi : ∀ k ∈ is, k ∈ vs) (he : env[i0]? = some (.lst ds)) (h : ∃ S : Nat → List D → Prop, S 0 [] ∧ ds.length < 1000000 ∧
      (∀ i x acc, ds[i]? = some x → S i acc → WG K g is x m env fun env2 => WT K tt m env2 fun b m3 => m3 = m ∧ (b = true → WE K te m env2 fun y m4 => m4 = m ∧ S (i + 1) (acc ++ [y])) ∧ (b = false → S (i + 1) acc)) ∧
      (∀ acc, S ds.length acc → acc.length ≤ ds.length → PL acc m)) : WL K (tLc (iList K (tVar i0)) g tt te vs) m env PL := fun B Hs H σ r Q q => by
  obtain ⟨p0, xs0, e10, w0, e20, e30⟩ := r.sl i0 _ he
  refine ⟨_, getD_of e10, p0, rfl, ⟨xs0, SqL.of e20⟩, ?_⟩
  have r1 := r
  have s1 : Same Hs Hs := Same.refl _
  obtain ⟨S, hS0, hlen, hst, hend⟩ := h
  intro Dl hD
  obtain ⟨⟨f0, f1, f2⟩, f3⟩ := r1.fresh hD
  have any : ∀ {i : Nat} {o : Sl}, env[i]? = some o → o ≠ .any → i ∉ vs := fun e n z => by rw [hv _ z] at e; exact n (Option.some.inj e).symm
  have rw1 : Rep K B Hs H (wipe σ vs) m env := r1.resl (by rw [wipe_length, r1.len]) fun i o e n => ⟨e, wipe_out (any e n)⟩
  have hst1 : ∀ s, B.st = some s → s.st ≠ Dl ∧ s.lf ≠ Dl := fun s e => by
    obtain ⟨⟨c, l, k, e1, e2, e3, _⟩, _⟩ := r1.stt s e
    exact ⟨fun z => (by rw [z, hD] at e1; cases e1), fun z => (by rw [z, hD] at e3; cases e3)⟩
  have rh : Rep K (holdB B Dl (.lst [])) Hs (upd H Dl (.lst [])) (wipe σ vs) m env := by
    -- the owned addresses stand already
    have own : ∀ (i : Nat) (o : Sl), env[i]? = some o → o.own = true → ∀ q, (wipe σ vs)[i]? = some (some (.ref q)) → q ≠ Dl := fun i o e ho q g z => by
      obtain ⟨p', ob, e1, _, h, _⟩ := (rw1.sl i o e).own_at ho
      rw [of_getD g] at e1
      cases e1
      rw [z, hD] at h; cases h
    refine ⟨fun b u e => ?_, fun b u e => ?_, fun a h => ?_, fun a h => ?_, rw1.len, fun i o e => ?_, rw1.ap, fun s e => ?_⟩
    · have e : upd B.H0 Dl (.lst []) b = some u := e
      by_cases hb : b = Dl
      · subst hb; rw [upd_same] at e ⊢; exact e
      · rw [upd_ne hb] at e ⊢; exact rw1.base b u e
    · rw [upd_ne (fun z => by rw [z, f1] at e; cases e)]; exact rw1.sub b u e
    · rcases h with h | h
      · exact rw1.fa a h
      · rw [h]; exact f1
    · by_cases hb : a = Dl
      · subst hb; exact ⟨_, upd_same, fun _ z => by cases z⟩
      · rcases h with h | h
        · rw [upd_ne hb]; exact rw1.fb a h
        · exact absurd h hb
    · have q := rw1.sl i o e
      have ow : ∀ q, Own B Hs q → q ≠ Dl → Own (holdB B Dl (.lst [])) Hs q := fun q w n => ⟨by show upd B.H0 Dl _ q = none; rw [upd_ne n]; exact w.1, w.2.1, fun z => z.elim w.2.2 n⟩
      cases o with
      | any => trivial
      | sh d => exact q
      | lst ds => obtain ⟨p2, xs, e1, w, h, g⟩ := q; have n := own i _ e rfl p2 (getD_of e1); exact ⟨p2, xs, e1, ow p2 w n, by rw [upd_ne n]; exact h, g⟩
      | dic t => obtain ⟨p2, e1, w, h⟩ := q; have n := own i _ e rfl p2 (getD_of e1); exact ⟨p2, e1, ow p2 w n, by rw [upd_ne n]; exact h⟩
      | dik t => obtain ⟨p2, e1, w, h⟩ := q; have n := own i _ e rfl p2 (getD_of e1); exact ⟨p2, e1, ow p2 w n, by rw [upd_ne n]; exact h⟩
      | sta => exact q
    · obtain ⟨a, z1, z2, g1, g2⟩ := rw1.stt s e
      obtain ⟨n1, n2⟩ := hst1 s e
      refine ⟨a.to (Same.refl _) (fun u z => by rw [upd_ne n1]; exact z) (fun u z => by rw [upd_ne n2]; exact z) (Nat.le_refl _), ?_, ?_, .inl g1, .inl g2⟩
      · show upd B.H0 Dl _ s.st = none
        rw [upd_ne n1]; exact z1
      · show upd B.H0 Dl _ s.lf = none
        rw [upd_ne n2]; exact z2
  refine ⟨fun i n H => n = ds.length - i ∧ i ≤ ds.length ∧ ∃ Hs2 xs acc, Same Hs Hs2 ∧ Rep K (holdB B Dl (.lst xs)) Hs2 H (wipe σ vs) m env ∧ IsA K Hs2 xs acc ∧ acc.length ≤ i ∧ S i acc, ⟨_, rfl, Nat.zero_le _, Hs, [], [], Same.refl _, rh, .nil, Nat.le_refl _, hS0⟩, ?_⟩
  rintro i n H ⟨rfl, hi', Hs2, xs, acc, s2, r2, ix, hal, hs⟩
  have n0 : i0 ∉ vs := any he (fun z => by cases z)
  obtain ⟨p1, xs1, e11, w1, e21, e31⟩ := r2.sl i0 _ he
  rw [wipe_out n0, e10] at e11
  cases e11
  have hl1 : xs1.length = ds.length := e31.length
  have s3 : Same Hs H := fun b o e => r2.sub b o (s2 b o e)
  by_cases hlt : i < ds.length
  · refine .inr ⟨⟨xs1, xs1[i]'(by rw [hl1]; exact hlt), SqL.of e21, List.getElem?_eq_getElem _⟩, fun H' => ∃ Hs3 xs acc, Same Hs Hs3 ∧ Rep K (holdB B Dl (.lst xs)) Hs3 H' (wipe σ vs) m env ∧ IsA K Hs3 xs acc ∧ acc.length ≤ i + 1 ∧ S (i + 1) acc, fun H' p => ⟨ds.length - (i + 1), by omega, rfl, hlt, p⟩, fun x H' y => ?_⟩
    obtain ⟨d, ed⟩ : ∃ d, ds[i]? = some d := ⟨_, List.getElem?_eq_getElem hlt⟩
    obtain ⟨rfl, hy⟩ := y
    have hx : Is K Hs2 x d := by
      obtain ⟨v, h1, h2⟩ := e31.get ed
      have := hy xs1 (SqL.of e21)
      rw [h1] at this
      cases this
      exact h2
    have go : ∀ Hs3, Same Hs2 Hs3 → Rep K (holdB B Dl (.lst xs)) Hs3 H' (wipe σ vs) m env → Is K Hs3 x d → g x (wipe σ vs) H' fun σ2 H2 => wipe σ2 vs = wipe σ vs ∧ tt σ2 H2 fun b H3 => if b = true then te σ2 H3 fun y H4 => ∃ acc, H4 Dl = some (.lst acc) ∧ acc.length < sizeLine ∧
        (∃ Hs3 xs acc', Same Hs Hs3 ∧ Rep K (holdB B Dl (.lst xs)) Hs3 (upd H4 Dl (.lst (acc ++ [y]))) (wipe σ vs) m env ∧ IsA K Hs3 xs acc' ∧ acc'.length ≤ i + 1 ∧ S (i + 1) acc') else ∃ Hs3 xs acc, Same Hs Hs3 ∧ Rep K (holdB B Dl (.lst xs)) Hs3 H3 (wipe σ vs) m env ∧ IsA K Hs3 xs acc ∧ acc.length ≤ i + 1 ∧ S (i + 1) acc := fun Hs3 t3 r3 id => by
      refine hst i d acc ed hs _ Hs3 H' (wipe σ vs) x r3 id _ fun σ2 env2 r4 l1 l2 same k4 => ⟨?_, ?_⟩
      · rw [wipe_congr (σ := σ2) (σ' := wipe σ vs) (vs := vs) l1 fun k hk => (same k fun z => hk (hi k z)).1, wipe_wipe]
      · have back : ∀ {Hs5 H5 : Hp}, Rep K (holdB B Dl (.lst xs)) Hs5 H5 σ2 m env2 → Rep K (holdB B Dl (.lst xs)) Hs5 H5 (wipe σ vs) m env := fun r5 => r5.resl (by rw [wipe_length, r.len]) fun k o e n => by
          obtain ⟨a, b⟩ := same k fun z => any e n (hi k z)
          exact ⟨b.trans e, a.symm⟩
        refine k4 _ Hs3 H' σ2 r4 _ fun b Hs5 H5 m5 t5 r5 k5 => ?_
        obtain ⟨rfl, kt, kf⟩ := k5
        cases b with
        | true =>
          refine iteT (kt rfl _ Hs5 H5 σ2 r5 _ fun y dy Hs6 H6 m6 t6 r6 iy k6 => ?_)
          obtain ⟨rfl, k6⟩ := k6
          have hD6 : H6 Dl = some (.lst xs) := r6.base Dl _ upd_same
          refine ⟨xs, hD6, Nat.lt_of_lt_of_le (by rw [ix.length]; omega) (small_le (Nat.le_refl 1000000)), Hs6, xs ++ [y], acc ++ [dy], s2.trans (t3.trans (t5.trans t6)), (back r6).grow (fun _ z => by cases z), (ix.to (t3.trans (t5.trans t6))).append (.one iy), ?_, k6⟩
          rw [List.length_append]
          exact Nat.succ_le_succ hal
        | false => exact iteF ⟨Hs5, xs, acc, s2.trans (t3.trans t5), back r5, ix.to (t3.trans t5), by omega, kf rfl⟩
    exact go Hs2 (Same.refl _) r2 hx
  · have e : i = ds.length := by omega
    subst e
    refine .inl ⟨⟨xs1, SqL.of e21, by rw [hl1]; exact Nat.le_refl _⟩, ?_⟩
    have r5 := r2.drop f0
    have r6 : Rep K B Hs2 H σ m env := r5.resl r.len fun k o e n => ⟨e, (wipe_out (any e n)).symm⟩
    exact q Dl xs acc Hs2 H m (s1.trans s2) r6 ⟨f0, r2.fa Dl (.inr rfl), f2⟩ f3 (r2.base Dl _ upd_same) ix (hend acc hs hal)
theorem wl_filtO {i0 : Nat} {vs : List Nat} (hv : ∀ k ∈ vs, env[k]? = some .any) (hi : j ∈ vs) (he : env[i0]? = some (.lst ds)) (h : ∃ (c : D → Bool) (F : D → D), ds.length < 1000000 ∧
      (∀ (k : Nat) (x : D), ds[k]? = some x → WT K tt m (env.set j (.sh x)) fun b m3 => m3 = m ∧ b = c x) ∧
      (∀ (k : Nat) (x : D), ds[k]? = some x → c x = true → WE K te m (env.set j (.sh x)) fun y m4 => m4 = m ∧ y = F x) ∧ PL ((ds.filter c).map F) m) : WL K (tLc (iList K (tVar i0)) (gName j) tt te vs) m env PL := by
  obtain ⟨c, F, h1, h2, h3, h4⟩ := h
  refine wl_compO (is := [j]) hv (fun k hk => by rw [List.mem_singleton.mp hk]; exact hi) he ⟨fun i acc => acc = ((ds.take i).filter c).map F, by simp, h1, fun i x acc hx ea => wg_name fun B Hs H σ r Q q => h2 i x hx B Hs H σ r Q fun b Hs' H' m' s r' ⟨k1, k2⟩ => q b Hs' H' m' s r' ⟨k1, fun hb => ?_, fun hb => ?_⟩, fun acc ea _ => by rw [ea, List.take_length]; exact h4⟩
  · subst k1
    refine (h3 i x hx (k2 ▸ hb)).imp fun y m4 ⟨g1, g2⟩ => ⟨g1, ?_⟩
    show acc ++ [y] = ((ds.take (i + 1)).filter c).map F
    rw [ea, g2, List.take_add_one, hx, List.filter_append, List.map_append]
    congr 1
    show [F x] = (List.filter c [x]).map F
    rw [List.filter_cons, if_pos (k2 ▸ hb)]
    rfl
  · show acc = ((ds.take (i + 1)).filter c).map F
    rw [ea, List.take_add_one, hx, List.filter_append, List.map_append]
    show _ = _ ++ (List.filter c [x]).map F
    rw [List.filter_cons, if_neg (by rw [← k2, hb]; exact Bool.false_ne_true)]
    exact (List.append_nil _).symm
/-- a loop that may break: what is known of the turns behind us -/
theorem ws_rng1B {tb' : TS} {Qp : Nat → Prop} {E : List Sl} (hm : MonoP PO) (h : WE K te m env fun d m1 => ∃ n : Int, d = .int n ∧ n ≤ 1000000 ∧ -1000000 ≤ n ∧ Le E env ∧ Qp 0 ∧
      (∀ k : Nat, k < n.toNat → Qp k → WS K tb' m1 (E.set j (.sh (.int (k : Int)))) (LoopP (fun m2 e2 => m2 = m1 ∧ Qp (k + 1) ∧ Le E e2) PO)) ∧ (Qp n.toNat → PO (.nx m1 E))) : WS K (tFor (iRng1 (tCons te tNil)) (gName j) tb') m env PO :=
  ws_for (is := [j]) (src_rng1 (h.imp fun d m1 ⟨n, e, h1, h2, l0, q0, hs, hd⟩ => ⟨n, e, h1, h2, fun i m2 e2 => m2 = m1 ∧ Qp i ∧ Le E e2, ⟨rfl, q0, l0⟩, fun i x m2 e2 hx ⟨a, b, c⟩ => by
    subst a
    obtain ⟨rfl, hk⟩ := rng_get hx
    rw [Int.zero_add]
    exact wg_name (ws_le (hs i (by omega) b) (c.set j _)), fun m2 e2 ⟨a, b, c⟩ => by
    subst a
    rw [rng_len, Int.sub_zero] at b
    exact hm _ _ _ c (hd b)⟩))
end
end MW
end
section
set_option Elab.async false
set_option linter.all false
set_option maxRecDepth 100000
set_option maxHeartbeats 4000000
/-! sorted: tuples of ints, ints -/
namespace MW
open PySem L2
def rSortAny (K : PySem.W.Frag) : List V → Hp → VK → Prop := fun vs H Q => ∃ (d : Nat) (B : Int), 1 ≤ d ∧ rSortU K d B vs H Q
theorem cr_sortTs {X : Cx} : CallR X (.builtin "sorted") (rSortAny X.K) := by
  intro pins s σ H vs us Q I r h
  obtain ⟨d, B, hd, h⟩ := h
  exact cr_sortT hd pins s σ H vs us Q I r h
section
variable {K : PySem.W.Frag} {Hs : Hp} {te ta : TE} {m : Nat} {env : List Sl} {P : D → Nat → Prop} {PL : List D → Nat → Prop}
theorem isI_perm {xs ys : List V} (h : xs.Perm ys) : ∀ cs : List (List Int), IsA K Hs xs (cs.map D.ints) → ∃ cs' : List (List Int), cs'.Perm cs ∧ IsA K Hs ys (cs'.map D.ints) := by
  induction h with
  | nil => exact fun cs h => ⟨cs, List.Perm.refl _, h⟩
  | cons x _ ih =>
    intro cs h
    match cs, h with
    | c :: cs, .cons h1 h2 =>
      obtain ⟨cs', p, q⟩ := ih cs h2
      exact ⟨c :: cs', p.cons c, .cons h1 q⟩
  | swap x y l =>
    intro cs h
    match cs, h with
    | c :: d :: cs, .cons h1 (.cons h2 h3) => exact ⟨d :: c :: cs, List.Perm.swap c d cs, .cons h2 (.cons h1 h3)⟩
  | trans _ _ ih1 ih2 =>
    intro cs h
    obtain ⟨c1, p1, q1⟩ := ih1 cs h
    obtain ⟨c2, p2, q2⟩ := ih2 c1 q1
    exact ⟨c2, p2.trans p1, q2⟩
theorem wl_sortTs (h : WE K ta m env fun da m1 => ∃ (cs : List (List Int)) (d : Nat) (B : Int), da = .lst (cs.map D.ints) ∧ cs.length < 64 ∧ 1 ≤ d ∧ (∀ c ∈ cs, c.length = d ∧ TS.Bd B c) ∧ ∀ cs' : List (List Int), cs'.Perm cs → PL (cs'.map D.ints) m1) : WL K (tCB (rSortAny K) (tCons ta tNil)) m env PL := fun B Hs H σ r Q q => by
  refine h B Hs H σ r _ fun v d Hs1 H1 m1 s1 r1 i1 k1 => ?_
  obtain ⟨cs, dd, BB, rfl, h64, hd, hc, k⟩ := k1
  cases i1 with
  | lst e1 e2 =>
    rename_i a xs
    refine ⟨dd, BB, hd, a, xs, rfl, SqL.of (r1.sub _ _ e1), by rw [e2.length, List.length_map]; exact h64, fun x hx => ?_, fun ys p hp _ hn => ?_⟩
    · obtain ⟨j, hj⟩ := List.getElem?_of_mem hx
      obtain ⟨dx, h1, h2⟩ := e2.getV hj
      rw [List.getElem?_map] at h1
      cases e : cs[j]? with
      | none => rw [e] at h1; cases h1
      | some c =>
        rw [e] at h1
        cases h1
        obtain ⟨b, rfl, hb⟩ := is_ints h2
        obtain ⟨c1, c2⟩ := hc c (List.mem_of_getElem? e)
        exact ⟨c, ⟨b, rfl, SqT.of (r1.sub _ _ hb)⟩, c1, c2⟩
    · obtain ⟨cs', p1, q1⟩ := isI_perm hp.symm cs e2
      obtain ⟨w, ap⟩ := r1.fresh hn
      exact q p ys _ Hs1 _ m1 s1 (r1.new0 hn _) w ap upd_same q1 (k cs' p1)
theorem wl_sortI (h : WE K ta m env fun da m1 => ∃ ns : List Int, da = .lst (ns.map D.int) ∧ ∀ ns' : List Int, ns'.Perm ns → PL (ns'.map D.int) m1) : WL K (tCB (rSortedI K) (tCons ta tNil)) m env PL := fun B Hs H σ r Q q => by
  refine h B Hs H σ r _ fun v d Hs1 H1 m1 s1 r1 i1 k1 => ?_
  obtain ⟨ns, rfl, k⟩ := k1
  cases i1 with
  | lst e1 e2 =>
    rename_i a xs
    have e3 := IsA.of_ints e2
    subst e3
    refine ⟨a, ns, rfl, SqL.of (r1.sub _ _ e1), fun ns' p hp _ hn => ?_⟩
    obtain ⟨w, ap⟩ := r1.fresh hn
    exact q p _ _ Hs1 _ m1 s1 (r1.new0 hn _) w ap upd_same (IsA.ints ns') (k ns' hp)
end
end MW
end
section
set_option Elab.async false
set_option linter.all false
set_option maxRecDepth 100000
set_option maxHeartbeats 4000000
/-! the state of the draws: m is 64 times the number of draws so far, and the number of cells -/
namespace MW
open PySem L2
section
variable {K : PySem.W.Frag} {B : Bs} {Hs Hs' H H' H1 : Hp} {σ σ' : St} {te ta tb tc tk tv ti : TE} {tl : TA} {tt tu : TT} {ts tz : TS} {m m' : Nat} {env env' : List Sl} {P P' : D → Nat → Prop} {PL : List D → Nat → Prop} {PT' : Bool → Nat → Prop} {PO : Out → Prop} {i j : Nat} {d : D} {ds es : List D} {p : Addr} {o : HO}
theorem Rep.stW (r : Rep K B Hs H σ m env) (hF : B.F p) (h0 : B.H0 p = none) (no : ∀ xs, o ≠ .tup xs) (hst : ∀ s, B.st = some s → StOk Hs (upd H p o) s m') : Rep K B Hs (upd H p o) σ m' env := by
  have ne : ∀ q, Own B Hs q → q ≠ p := fun q w z => w.2.2 (z ▸ hF)
  refine ⟨Same.mut r.base h0, Same.mut r.sub (r.fa p hF), r.fa, fun a h => ?_, r.len, fun i o2 e => ?_, r.ap, fun s e => ⟨hst s e, (r.stt s e).2⟩⟩
  · by_cases hb : a = p
    · subst hb; exact ⟨o, upd_same, no⟩
    · rw [upd_ne hb]; exact r.fb a h
  · have q := r.sl i o2 e
    cases o2 with
    | any => trivial
    | sh d => exact q
    | lst ds => obtain ⟨p2, xs, e1, w, h, g⟩ := q; exact ⟨p2, xs, e1, w, by rw [upd_ne (ne p2 w)]; exact h, g⟩
    | dic t => obtain ⟨p2, e1, w, h⟩ := q; exact ⟨p2, e1, w, by rw [upd_ne (ne p2 w)]; exact h⟩
    | dik t => obtain ⟨p2, e1, w, h⟩ := q; exact ⟨p2, e1, w, by rw [upd_ne (ne p2 w)]; exact h⟩
    | sta => exact q
/-- state["at"] -/
theorem we_stAt (he : env[j]? = some .sta) (h : P (.int ((m / 64 : Nat) : Int)) m) : WE K (tDGet (tVar j) (tC (.str "at"))) m env P := fun B Hs H σ r Q q => by
  obtain ⟨s0, eb, ex⟩ := r.sl j _ he
  obtain ⟨⟨c, l, k, e1, e2, e3, a, b, b2, c1, c2, c3⟩, z1, z2, f1, f2⟩ := r.stt s0 eb
  have g := DGet.k (k := Sum.inr "at") e1
  refine ⟨_, getD_of ex, _, .int k, rfl, g, q _ _ Hs H m (Same.refl _) r (by rw [c3]; exact .int _) h⟩
/-- state["cells"] -/
theorem we_stCells (he : env[j]? = some .sta) (h : ∀ c : List Int, c.length = m % 64 → 0 < m % 64 → P (.lst (c.map .int)) m) : WE K (tDGet (tVar j) (tC (.str "cells"))) m env P := fun B Hs H σ r Q q => by
  obtain ⟨s0, eb, ex⟩ := r.sl j _ he
  obtain ⟨⟨c, l, k, e1, e2, e3, a, b, b2, c1, c2, c3⟩, z1, z2, f1, f2⟩ := r.stt s0 eb
  have g := DGet.k (k := Sum.inr "cells") e1
  refine ⟨_, getD_of ex, _, .ref s0.cs, rfl, g, q _ _ Hs H m (Same.refl _) r (.lst e2 (IsA.ints c)) (h c (by omega) (by omega))⟩
/-- state["lefts"][i] -/
theorem we_stLeft (he : env[j]? = some .sta) (h : WE K ti m env fun d m1 => ∃ n : Nat, d = .int n ∧ n < m1 % 64 ∧ ∀ x : Int, 0 ≤ x → P (.int x) m1) : WE K (tOp (rIxL K) (tDGet (tVar j) (tC (.str "lefts"))) ti) m env P := fun B Hs H σ r Q q => by
  obtain ⟨s0, eb, ex⟩ := r.sl j _ he
  obtain ⟨⟨c, l, k, e1, e2, e3, a, b, b2, c1, c2, c3⟩, z1, z2, f1, f2⟩ := r.stt s0 eb
  have g := DGet.k (k := Sum.inr "lefts") e1
  refine ⟨_, getD_of ex, _, .ref s0.lf, rfl, g, h B Hs H σ r _ fun y dk Hs2 H2 m2 s2 r2 i2 k2 => ?_⟩
  obtain ⟨n, rfl, hn, kk⟩ := k2
  cases i2
  obtain ⟨⟨c', l', k', e1', e2', e3', a', b', b2', c1', c2', c3'⟩, _⟩ := r2.stt s0 eb
  have hl : n < l'.length := by omega
  refine ⟨s0.lf, _, n, .int l'[n], rfl, rfl, SqL.of e3', atI_nat (by rw [List.getElem?_map, List.getElem?_eq_getElem hl]; rfl), q _ _ Hs2 H2 m2 s2 r2 (.int _) (kk _ (c1' _ (List.getElem_mem _)))⟩
theorem st_ne {s : StA} (h : StOk Hs H s m) : s.st ≠ s.lf := fun z => by
  obtain ⟨c, l, k, e1, e2, e3, _⟩ := h
  rw [z, e3] at e1
  cases e1
/-- state["at"] = n -/
theorem ws_stAt (he : env[j]? = some .sta) (h : WE K tv m env fun d m1 => d = .int ((m1 / 64 : Nat) + 1) ∧ PO (.nx (m1 + 64) env)) : WS K (sDPut (tVar j) (tC (.str "at")) tv) m env PO := fun B Hs H σ D r q => by
  refine h B Hs H σ r _ fun v dv Hs1 H1 m1 s1 r1 i1 k1 => ?_
  obtain ⟨rfl, k⟩ := k1
  cases i1
  obtain ⟨s0, eb, ex⟩ := r1.sl j _ he
  obtain ⟨hst, z1, z2, f1, f2⟩ := r1.stt s0 eb
  have ne := st_ne hst
  obtain ⟨c, l, k', e1, e2, e3, a, b, b2, c1, c2, c3⟩ := hst
  have g := DPut.k (k := Sum.inr "at") (v := .int ((m1 / 64 : Nat) + 1)) e1 (by rw [sizeLine_eq]; exact (by decide : (3 : Nat) < 16777216))
  refine ⟨_, getD_of ex, s0.st, _, rfl, g, ?_⟩
  refine q _ k Hs1 _ σ s1 (r1.stW f1 z1 (fun xs z => by cases z) fun s e => ?_)
  rw [eb] at e
  cases e
  refine ⟨c, l, ((m1 / 64 : Nat) : Int) + 1, ?_, e2, ?_, a, b, b2, c1, by omega, ?_⟩
  · rw [upd_same]; rfl
  · rw [upd_ne ne.symm]; exact e3
  · have : (m1 + 64) / 64 = m1 / 64 + 1 := by omega
    rw [this, Int.natCast_add]
    rfl
/-- state["lefts"][i] = n -/
theorem ws_stLeft (he : env[j]? = some .sta) (h : WE K tv m env fun d m1 => ∃ x : Int, d = .int x ∧ 0 ≤ x ∧ WE K ti m1 env fun di m2 => ∃ n : Nat, di = .int n ∧ n < m2 % 64 ∧ PO (.nx m2 env)) : WS K (tAsg tv (gSub (tDGet (tVar j) (tC (.str "lefts"))) ti rSetL)) m env PO := fun B Hs H σ D r q => by
  refine h B Hs H σ r _ fun v dv Hs1 H1 m1 s1 r1 i1 k1 => ?_
  obtain ⟨x, rfl, hx, k1⟩ := k1
  cases i1
  obtain ⟨s0, eb, ex⟩ := r1.sl j _ he
  obtain ⟨⟨c, l, k', e1, e2, e3, a, b, b2, c1, c2, c3⟩, z1, z2, f1, f2⟩ := r1.stt s0 eb
  have g := DGet.k (k := Sum.inr "lefts") e1
  refine ⟨_, getD_of ex, _, .ref s0.lf, rfl, g, k1 B Hs1 H1 σ r1 _ fun y dk Hs2 H2 m2 s2 r2 i2 k2 => ?_⟩
  obtain ⟨n, rfl, hn, kk⟩ := k2
  cases i2
  obtain ⟨hst, z1', z2', f1', f2'⟩ := r2.stt s0 eb
  have ne := st_ne hst
  obtain ⟨c', l', k'', e1', e2', e3', a', b', b2', c1', c2', c3'⟩ := hst
  have hl : n < l'.length := by omega
  refine ⟨s0.lf, _, n, n, rfl, rfl, e3', ?_, ?_⟩
  · unfold ixN
    rw [if_pos (Int.natCast_nonneg n), if_pos (by rw [List.length_map]; exact Int.ofNat_lt.mpr hl), Int.toNat_natCast]
  · refine q _ kk Hs2 _ σ (s1.trans s2) (r2.stW f2' z2' (fun xs z => by cases z) fun s e => ?_)
    rw [eb] at e
    cases e
    refine ⟨c', l'.set n x, k'', ?_, e2', ?_, by rw [List.length_set]; exact a', by rw [List.length_set]; exact b', by rw [List.length_set]; exact b2', fun z hz => ?_, by rw [List.length_set]; exact c2', c3'⟩
    · rw [upd_ne ne]; exact e1'
    · rw [upd_same, List.map_set]
    · rcases List.mem_or_eq_of_mem_set hz with hz | hz
      · exact c1' z hz
      · rw [hz]; exact hx
/-- found.append(left.pop(n)) -/
theorem ws_appPop (ne : i ≠ j) (hi : env[i]? = some (.lst ds)) (hj : env[j]? = some (.lst es)) (h : WE K te m env fun d m1 => ∃ (n : Nat) (x : D), d = .int n ∧ es[n]? = some x ∧ n < 1000000 ∧ ds.length < 1000000 ∧ PO (.nx m1 ((env.set j (.lst (es.eraseIdx n))).set i (.lst (ds ++ [x]))))) :
    WS K (tDrop (tBM K "list" rAppend (tVar i) (tCons (tBM K "list" rPopAt (tVar j) (tCons te tNil)) tNil))) m env PO := fun B Hs H σ D r q => by
  obtain ⟨p, xs, e1, w, e2, e3⟩ := r.sl i _ hi
  obtain ⟨p2, ys, g1, w2, g2, g3⟩ := r.sl j _ hj
  refine ⟨_, getD_of e1, .inl ⟨rfl, _, SqL.of e2⟩, _, getD_of g1, .inl ⟨rfl, _, SqL.of g2⟩, h B Hs H σ r _ fun v d Hs' H' m' s r' k e => ?_⟩
  obtain ⟨n, x, rfl, hn, hn2, hl, ho⟩ := e
  cases k
  obtain ⟨p', xs', e1', w', e2', e3'⟩ := r'.sl i _ hi
  obtain ⟨p2', ys', g1', w2', g2', g3'⟩ := r'.sl j _ hj
  rw [e1] at e1'
  cases e1'
  rw [g1] at g1'
  cases g1'
  obtain ⟨y, hy, iy⟩ := g3'.get hn
  have hlt : n < ys'.length := (List.getElem?_eq_some_iff.mp hy).1
  have r2 := r'.write hj rfl (getD_of g1) (.lst (ys'.eraseIdx n)) (.lst (es.eraseIdx n)) rfl fun w => ⟨p2, _, rfl, w, upd_same, g3'.eraseIdx n⟩
  have hi2 : (env.set j (.lst (es.eraseIdx n)))[i]? = some (.lst ds) := by rw [List.getElem?_set_ne (Ne.symm ne)]; exact hi
  obtain ⟨p3, xs3, e13, w3, e23, e33⟩ := r2.sl i _ hi2
  rw [e1] at e13
  cases e13
  refine ⟨p2, ys', n, n, y, rfl, rfl, g2', by omega, by omega, ?_, hy, ?_⟩
  · have h1 : ¬ ((n : Int) < 0) := by omega
    unfold seqIndex?
    dsimp only
    rw [if_neg h1, decide_eq_true (Int.natCast_nonneg n), decide_eq_true (Int.ofNat_lt.mpr hlt)]
    rfl
  · refine ⟨p, xs3, y, rfl, rfl, e23, Nat.lt_of_lt_of_le (by rw [e33.length]; exact hl) (small_le (Nat.le_refl _)), ?_⟩
    exact q _ ho Hs' _ σ s (r2.write hi2 rfl (getD_of e1) _ (.lst (ds ++ [x])) rfl fun w => ⟨p, _, rfl, w, upd_same, e33.append (.one iy)⟩)
/-- ds[:n] -/
theorem wl_cut {n : Int} (h : WE K te m env fun d m1 => ∃ ds, d = .lst ds ∧ ∀ ds' : List D, (∀ x ∈ ds', x ∈ ds) → ds'.length ≤ ds.length → PL ds' m1) : WL K (tSl (rSlL K) te tNoPart (tPart (tC (.int n)))) m env PL := fun B Hs H σ r Q q => by
  refine h B Hs H σ r _ fun v d Hs1 H1 m1 s1 r1 i1 k1 => ?_
  obtain ⟨ds, rfl, k⟩ := k1
  cases i1 with
  | lst h1 h2 =>
    refine ⟨n, rfl, _, _, rfl, SqL.of (r1.sub _ _ h1), fun p hp => ?_⟩
    obtain ⟨w, a⟩ := r1.fresh hp
    refine q p _ _ Hs1 _ m1 s1 (r1.new0 hp _) w a upd_same ((h2.drop _).take _) (k _ (fun x hx => List.mem_of_mem_drop (List.mem_of_mem_take hx)) ?_)
    rw [List.length_take, List.length_drop]
    omega
end
end MW
end
section
set_option Elab.async false
set_option linter.all false
set_option maxRecDepth 100000
set_option maxHeartbeats 4000000
/-! repr of tuples wants to know that no repr runs around it: defs that are called where no guard stands -/
namespace ME
open PySem PySem.Spec PyProof.Rows L2 MW
structure FnG (P : Program) (w : World) (K : PySem.W.Frag) (mg : Str → Option Value) (base : Heap) (k : Nat) (f : Addr) (fd : FuncData) (ps : List Str) (sp : Sp) : Prop where
  ln : ∀ vs H Q E, sp vs H Q E → vs.length = ps.length
  go : ∀ (A : Around) (fs : List Env) (s : Shared) (H : Hp) (args : Args) (us : List Value) (vs : List V) (Q : VK) (E : XK), Room k A → A.guards = some [] → Env0 P w K mg base A fs s H → BindsTo s fd args (ps.zip us) → Vals vs us → sp vs H Q E →
    codeAny (model P w) A (.call (.ref f) args) (CR CX0 fs P w H s Q E) s
theorem FnG.mono {P : Program} {w : World} {K : PySem.W.Frag} {mg : Str → Option Value} {base : Heap} {j k : Nat} {f : Addr} {fd : FuncData} {ps : List Str} {sp : Sp} (F : FnG P w K mg base j f fd ps sp) (h : j ≤ k) : FnG P w K mg base k f fd ps sp :=
  ⟨F.ln, fun A fs s H args us vs Q E hr => F.go A fs s H args us vs Q E (hr.mono h)⟩
section
variable {P : Program} {w : World} {K : PySem.W.Frag} {mg : Str → Option Value} {base : Heap} {x qual : Str} {params : Arguments} {body : List Stmt} {scope : Scope} {dvs : List V} {kws : List (Str × V)} {f : Addr} {fd : FuncData}
theorem FnG.of {N ps : List Str} {k : Nat} {sp : Sp} (F : FunD K x qual params body scope dvs kws f fd) (S : FnScope N ps scope) (ln : ∀ vs H Q E, sp vs H Q E → vs.length = ps.length)
    (bd : ∀ (cdv : Value) (A : Around) (fs : List Env) (s : Shared) (H : Hp) (vs : List V) (Q : VK) (E : XK), Room k (A.deeper (envOfC qual scope s.heap.objs.size f cdv)) → (A.deeper (envOfC qual scope s.heap.objs.size f cdv)).guards = some [] → sp vs H Q E →
      ∃ t, PSs (cxOf CX0 P w K mg base N qual scope f cdv A fs s H E) body t ∧ t { nx := fun _ H' => Q .non H', rt := Q } (start N vs) H) : FnG P w K mg base (k + 1) f fd ps sp := by
  obtain ⟨oc, od, dV, kV, doc, pm, an, cdv, ct, osl, rfl, lk, hcd, _, _⟩ := F.ex
  constructor
  · exact ln
  intro A fs s H args us vs Q E hr hg e0 hb rv hsp
  have kin := e0.mod.kin.keeps (h' := s.heap) fun b o e => (e0.bs b o e).1
  have kinds : ∀ y ∈ ps.zip us, scope.names.lookup y.1 = some .local ∨ (scope.names.lookup y.1 = some .cell ∧ ((cellsFrom (s.heap.objs.size + 1) scope.names []).lookup y.1).isSome = true) := by
    rintro ⟨z, u⟩ hy
    rcases S.par z (List.of_mem_zip hy).1 with q | q
    · left; exact q
    · right; exact ⟨q, PySem.W.cellsFrom_some _ _ _ (.inl q)⟩
  apply codeAny_call_function hr.depth (kin _ _ lk) rfl S.co S.gen rfl (PySem.W.codeRec_of kin hcd)
  apply hb
  apply wpAny_newFunctionEnv_cells S.kind kinds
  intro env he s1 ic
  subst he
  constructor
  · exact (e0.mod.nolimit.keeps fun b o e => (e0.bs b o e).1).keeps ic.toInCall.keep
  apply codeAny_func
  obtain ⟨t, pt, qt⟩ := bd cdv A fs s H vs Q E (hr.deeper _) hg hsp
  have I0 := inv_start (CX := CX0) (cd := cdv) (E := E) S hr.hd e0 (ln _ _ _ _ hsp) rv ic
  have out : ∀ {s' : Shared} {σ' : L2.St} {H' : Hp} {v : V} {u : Value}, Inv (cxOf CX0 P w K mg base N qual scope f cdv A fs s H E) [] σ' H' s' → RelV v u → Q v H' → CE fs P w H s Q u s' := fun {s' σ' H' v u} J r q => ⟨v, H', J.os, J.bare, J.base, J.hok, r, q⟩
  apply wpAny_mono (pt.run [] s1 (start N vs) H _ I0 qt)
  · intro fl s' hs
    cases fl with
    | ret u =>
      obtain ⟨v, σ', H', J, r, q⟩ := hs
      exact out J r q
    | next =>
      obtain ⟨σ', H', J, q⟩ := hs
      exact out (v := .non) J rfl q
    | brk => exact hs.elim fun _ h => h.elim fun _ h => False.elim h.2
    | cont => exact hs.elim fun _ h => h.elim fun _ h => False.elim h.2
  · intro e s' hs
    exact hs
end
/-- a def that keeps its promise so -/
structure OkG (P : Program) (w : World) (K : PySem.W.Frag) (mg : Str → Option Value) (base : Heap) (x : Str) (ps : List Str) (k : Nat) (sp : Sp) : Prop where
  ex : ∃ fd, FnG P w K mg base k (He.ga K x) fd ps sp ∧ Binds K fd ps [] ∧ ∃ oc od osl, K.lookup (He.ga K x) = some ⟨oc, od, .func fd, osl⟩
  kp : PySem.W.keepIn K (.ref (He.ga K x)) = true
  mg : mg x = some (.ref (He.ga K x))
theorem OkG.of {P : Program} {w : World} {K : PySem.W.Frag} {mg : Str → Option Value} {base : Heap} {x : Str} {st : Stmt} {ps : List Str} {k : Nat} {sp : Sp} {fd : FuncData} (F : FnP K x st (He.ga K x) fd) (m : mg x = some (.ref (He.ga K x))) (b : Binds K fd ps [])
    (o : FnG P w K mg base k (He.ga K x) fd ps sp) : OkG P w K mg base x ps k sp := ⟨⟨fd, o, b, by obtain ⟨oc, od, dV, kV, doc, pm, an, cdv, ct, osl, e, lk, _⟩ := F.ex; exact ⟨oc, od, osl, lk⟩⟩, F.kp, m⟩
section
variable {X : Cx} {x : Str} {ps : List Str} {k : Nat} {sp : Sp} {e : Expr} {es : List Expr} {p pos : Pos} {t : TA}
theorem pe_clG (o : OkG X.prog X.w X.K X.mg X.base x ps k sp) (hr : Room k X.A) (hgu : X.A.guards = some []) (hg : Gl X x) (ha : PA X (e :: es) t) (hdb : (x == ("__debug__" : Str)) = false := by decide)
    (he : starEach (e :: es) X.env = (false, eval e X.env) :: starEach es X.env := by rfl) (hpl : (backTo pos (starEach es X.env)).any (·.1) = false := by rfl) : PE X (.Call (.Name x p) (e :: es) [] pos) (tCall sp [] E0 t) := by
  obtain ⟨fd, F, b, _⟩ := o.ex
  constructor
  intro pins s σ H Q I h
  apply wpAny_Call_Name_kw
  apply ld_glob I hg o.mg ?_ hdb
  apply PySem.W.callWith_K (h₀ := X.base) I.ok.mod.kin o.kp ?_ he hpl
  apply thn (ha.run pos pins s σ H _ I h)
  rintro us s1 ⟨vs, H1, I1, r, q⟩
  refine ⟨I1.kIn, wpAny_call ?_⟩
  have q : sp (vs ++ []) H1 Q E0 := q
  rw [List.append_nil] at q
  have hl : us.length = ps.length := by rw [← r.length]; exact F.ln _ _ _ _ q
  have bs := b s1 us I1.kIn (by rw [List.append_nil]; exact hl)
  rw [List.append_nil] at bs
  apply codeAny_mono (F.go X.A X.stack s1 H1 ⟨us, []⟩ us vs Q E0 hr hgu I1.env0 bs r q)
  intro z s' hz
  match z, hz with
  | .ok (.ret u), hz => exact I1.after hz
  | .ok .next, hz => exact hz.elim
  | .ok .brk, hz => exact hz.elim
  | .ok .cont, hz => exact hz.elim
  | .error _, hz => exact hz.elim
end
/-! ### repr -/
def rRepr (K : PySem.W.Frag) : List V → Hp → VK → Prop := fun xs H Q => (∃ i : Int, xs = [.int i] ∧ i.natAbs.log2 < 1920 ∧ Q (.str (toString i)) H) ∨
  ∃ (a : Addr) (ns : List Int), xs = [.ref a] ∧ H a = some (.tup (ns.map V.int)) ∧ ns.length ≤ 100 ∧ (∀ z ∈ ns, 0 ≤ z ∧ z ≤ 1000) ∧ Q (.str (pI ns).shown) H
theorem shw_ints : ∀ ns : List Int, (∀ z ∈ ns, 0 ≤ z ∧ z ≤ 1000) → PyData.showableAll (ns.map .int) = true ∧ PyData.intsShortAll 13 (ns.map .int) = true ∧ PyData.weightAll (ns.map .int) ≤ ns.length * 12
  | [], _ => ⟨rfl, rfl, Nat.le_refl _⟩
  | z :: ns, h => by
    obtain ⟨h1, h2, h3⟩ := shw_ints ns fun y hy => h y (List.mem_cons_of_mem _ hy)
    obtain ⟨a, b⟩ := h z List.mem_cons_self
    have l10 : z.natAbs.log2 ≤ 9 := by
      rcases Nat.eq_zero_or_pos z.natAbs with e | e
      · rw [e]; decide
      · have : z.natAbs.log2 < 10 := (Nat.log2_lt (by omega)).mpr (by omega)
        omega
    refine ⟨?_, ?_, ?_⟩
    · show (decide (z.natAbs.log2 < 1920) && PyData.showableAll (ns.map .int)) = true
      rw [h1, decide_eq_true (by omega)]; rfl
    · show (decide ((PyData.shown (.int z)).length ≤ 13) && PyData.intsShortAll 13 (ns.map .int)) = true
      have : (PyData.shown (.int z)).length ≤ 13 := by
        have q := int_text_length_le10 (a := z) (k := 4) (by decide) (by omega)
        have e : (PyData.shown (.int z)).length = (toString z).length := by
          simp only [PyData.shown]
          exact PySem.ofString_length _
        omega
      rw [h2, decide_eq_true this]; rfl
    · show PyData.weight (.int z) + 1 + PyData.weightAll (ns.map .int) ≤ _
      have : PyData.weight (.int z) ≤ 11 := by
        show (if z == 0 then 0 else z.natAbs.log2 + 1) ≤ 11
        split <;> omega
      rw [List.length_cons, Nat.succ_mul]
      omega
theorem cr_repr {X : Cx} (hg : X.A.guards = some []) (hu : X.A.units + 64 < cLine) : CallR X (.builtin "repr") (rRepr X.K) := by
  intro pins s σ H xs us Q I r h
  rcases h with ⟨i, rfl, hz, q⟩ | ⟨a, ns, rfl, hH, hl, hb, q⟩
  · obtain ⟨u, rfl, t, rfl⟩ := vals1 r
    exact PySem.P.repr_of_int hz ⟨.str _, H, I.tok _, ⟨_, rfl⟩, q⟩
  · obtain ⟨u, rfl, ru⟩ := vals1 r
    cases ru
    have dp : Dp X.K H (.ref a) (pI ns) := .tup (SqT.of hH) (dp_ints H ns)
    obtain ⟨as, rd⟩ := Dp.reads I (pI ns) (.ref a) (.ref a) dp rfl
    obtain ⟨g1, g2, g3⟩ := shw_ints ns hb
    have dd := depth_pI ns
    have nd : (pI ns).hasDict = false := PyData.hasDict_of_canLay _ (lay_ints ns)
    have lay : PyData.layable0 (pI ns) = true := by
      show (PyData.canLay0 (pI ns) && decide (PyData.depth (pI ns) ≤ 64) && decide (PyData.weight (pI ns) ≤ 2 ^ 20)) = true
      have e1 : PyData.canLay0 (pI ns) = true := lay_ints ns
      have e2 : PyData.weight (pI ns) ≤ 2 ^ 20 := by
        show PyData.weightAll (ns.map .int) ≤ _
        have : (2 : Nat) ^ 20 = 1048576 := by decide
        omega
      rw [e1, decide_eq_true (by omega), decide_eq_true e2]; rfl
    have sz : (pI ns).shown.length ≤ sizeLine := by
      have := shown_le13 lay g2
      rw [sizeLine_eq]
      omega
    exact repr_of_reads' rd g1 (PyData.noDict_hsm nd) hg (by omega) (fun b o e => e) (fun h' u tk hk => ⟨.str _, H, I.kept hk, ⟨u, rfl⟩, q⟩) sz
section
variable {K : PySem.W.Frag} {ta : TE} {m : Nat} {env : List Sl} {P : D → Nat → Prop}
/-- what repr is asked of here -/
def Shw : D → Prop
  | .int i => i.natAbs.log2 < 1920
  | .tup l => ∃ ns : List Int, l = ns.map D.int ∧ ns.length ≤ 100 ∧ ∀ z ∈ ns, 0 ≤ z ∧ z ≤ 1000
  | _ => False
noncomputable def txt : D → Str
  | .int i => toString i
  | .tup l => (pI (l.map fun d => match d with | .int i => i | _ => 0)).shown
  | _ => "x"
theorem we_repr (h : WE K ta m env fun d m1 => Shw d ∧ P (.str (txt d)) m1) : WE K (tCB (rRepr K) (tCons ta tNil)) m env P := fun B Hs H σ r Q q => by
  refine h B Hs H σ r _ fun v d Hs1 H1 m1 s1 r1 i1 k1 => ?_
  obtain ⟨hs, k⟩ := k1
  match d, hs with
  | .int i, hs =>
    cases i1
    exact .inl ⟨i, rfl, hs, q _ _ Hs1 H1 m1 s1 r1 (.str _) k⟩
  | .tup l, ⟨ns, e, hl, hb⟩ =>
    subst e
    obtain ⟨b, rfl, hB⟩ := is_ints i1
    have et : txt (.tup (ns.map D.int)) = (pI ns).shown := by
      show (pI ((ns.map D.int).map _)).shown = _
      rw [List.map_map]
      have : (ns.map ((fun d => match d with | .int i => i | _ => 0) ∘ D.int)) = ns := List.map_id' ns
      rw [this]
    rw [et] at k
    exact .inr ⟨b, ns, rfl, r1.sub _ _ hB, hl, hb, q _ _ Hs1 H1 m1 s1 r1 (.str _) k⟩
end
end ME
end
section
set_option Elab.async false
set_option linter.all false
set_option maxRecDepth 100000
set_option maxHeartbeats 4000000
/-! sorts as a datum, and what the program says of them -/
namespace ME
open PySem L2 MW
inductive S where
  | none | one | sub (k : Nat) | bag (k : Nat) | ei (a b : S) | pr (a b : S) | li (m : Nat) (a : S) | fam (m : Nat) (a : S) | heap (m : Nat) (a : S) | rounds (m : Nat) | trees | rooted
def S.d : S → D
  | .none => .tup [.str "none"]
  | .one => .tup [.str "one"]
  | .sub k => .tup [.str "subset", .int k]
  | .bag k => .tup [.str "bag", .int k]
  | .ei a b => .tup [.str "either", a.d, b.d]
  | .pr a b => .tup [.str "pair", a.d, b.d]
  | .li m a => .tup [.str "list", .int m, a.d]
  | .fam m a => .tup [.str "family", .int m, a.d]
  | .heap m a => .tup [.str "heap", .int m, a.d]
  | .rounds m => .tup [.str "rounds", .int m]
  | .trees => .tup [.str "trees"]
  | .rooted => .tup [.str "rooted"]
def S.depth : S → Nat
  | .ei a b => max a.depth b.depth + 1
  | .pr a b => max a.depth b.depth + 1
  | .li _ a => a.depth + 1
  | .fam _ a => a.depth + 1
  | .heap _ a => a.depth + 1
  | _ => 1
def S.parts : S → Nat
  | .ei a b => a.parts + b.parts + 1
  | .pr a b => a.parts + b.parts + 1
  | .li _ a => a.parts + 1
  | .fam _ a => a.parts + 1
  | .heap _ a => a.parts + 1
  | _ => 1
def S.single : S → Bool
  | .none => true
  | .one => true
  | .sub _ => true
  | .ei a b => a.single && b.single
  | _ => false
def S.ok : S → Bool
  | .sub k => k ≤ 12
  | .bag k => k ≤ 12
  | .ei a b => a.ok && b.ok
  | .pr a b => a.ok && b.ok
  | .li m a => (m ≤ 12 : Bool) && a.ok
  | .fam m a => (m ≤ 12 : Bool) && a.ok && a.single
  | .heap m a => (m ≤ 12 : Bool) && a.ok && a.single
  | .rounds m => (1 ≤ m : Bool) && (m ≤ 2 : Bool)
  | _ => true
def S.places : S → List D
  | .ei _ _ => [.int 1, .int 2]
  | .pr _ _ => [.int 1, .int 2]
  | .li _ _ => [.int 2]
  | .fam _ _ => [.int 2]
  | .heap _ _ => [.int 2]
  | _ => []
def ipow (b : Int) : Nat → Int
  | 0 => 1
  | n + 1 => ipow b n * b
def chs (first : Int) : Nat → Int
  | 0 => 1
  | k + 1 => if chs first k * (first - k) / (k + 1) ≤ 0 then 0 else chs first k * (first - k) / (k + 1)
def S.marks (n : Nat) : S → Int
  | .none => 0
  | .one => 1
  | .sub k => k
  | .bag k => k
  | .ei a b => if b.marks n > a.marks n then b.marks n else a.marks n
  | .pr a b => a.marks n + b.marks n
  | .li m a => m * a.marks n
  | .fam m a => m * a.marks n
  | .heap m a => m * a.marks n
  | .rounds m => m * n * (n - 1) / 2
  | .trees => 2 * (n - 1)
  | .rooted => n - 1
def S.width : S → Int
  | .ei a b => if b.width > a.width then b.width else a.width
  | .pr a b => a.width + b.width
  | .li m a => m * a.width
  | .fam m a => m * a.width
  | .heap m a => m * a.width
  | _ => 1
def S.size (n : Nat) : S → Int
  | .none => 0
  | .one => n
  | .sub k => chs n k
  | .bag k => chs (n + k - 1) k
  | .ei a b => a.size n + b.size n
  | .pr a b => a.size n * b.size n
  | .li m a => ipow (a.size n) m
  | .fam m a => chs (a.size n) m
  | .heap m a => chs (a.size n + m - 1) m
  | .rounds m => ipow 2 (m * n * (n - 1) / 2 : Int).toNat
  | .trees => ipow n (n - 2)
  | .rooted => ipow n (n - 1)
/-- it and its parts are not too great -/
def S.small (n : Nat) : S → Prop
  | .ei a b => a.small n ∧ b.small n ∧ 0 ≤ a.size n ∧ a.size n ≤ 1000000 ∧ 0 ≤ b.size n ∧ b.size n ≤ 1000000
  | .pr a b => a.small n ∧ b.small n ∧ 0 ≤ a.size n ∧ a.size n ≤ 1000000 ∧ 0 ≤ b.size n ∧ b.size n ≤ 1000000
  | .li m a => a.small n ∧ 0 ≤ a.size n ∧ a.size n ≤ 1000000 ∧ ipow (a.size n) m ≤ 10 ^ 30
  | .fam m a => a.small n ∧ 0 ≤ a.size n ∧ a.size n ≤ 1000000 ∧ chs (a.size n) m ≤ 10 ^ 30
  | .heap m a => a.small n ∧ 0 ≤ a.size n ∧ a.size n ≤ 1000000 ∧ chs (a.size n + m - 1) m ≤ 10 ^ 30
  | s => s.size n ≤ 10 ^ 30
theorem S.depth_pos : ∀ s : S, 1 ≤ s.depth := fun s => by cases s <;> simp [S.depth]
theorem S.parts_pos : ∀ s : S, 1 ≤ s.parts := fun s => by cases s <;> simp [S.parts]
theorem chs_zero {first : Int} {k : Nat} (h : chs first k = 0) : ∀ j : Nat, chs first (k + j) = 0
  | 0 => h
  | j + 1 => by
    show (if chs first (k + j) * (first - (k + j : Nat)) / ((k + j : Nat) + 1) ≤ 0 then 0 else chs first (k + j) * (first - (k + j : Nat)) / ((k + j : Nat) + 1)) = 0
    rw [chs_zero h j, Int.zero_mul, Int.zero_ediv]
    rfl
theorem chs_nn (first : Int) : ∀ k : Nat, 0 ≤ chs first k
  | 0 => by show (0 : Int) ≤ 1; decide
  | k + 1 => by
    show 0 ≤ (if chs first k * (first - k) / (k + 1) ≤ 0 then 0 else chs first k * (first - k) / (k + 1))
    split <;> omega
end ME
end
section
set_option Elab.async false
set_option linter.all false
set_option maxRecDepth 100000
set_option maxHeartbeats 4000000
/-! tables of contents: what the program does with them -/
namespace ME
open PySem L2 MW
abbrev Ct := List Int
def zeroV (n : Nat) : Ct := List.replicate n 0
def unitV (n i : Nat) : Ct := List.replicate i 0 ++ [1] ++ List.replicate (n - 1 - i) 0
def vadd (c d : Ct) : Ct := List.zipWith (· + ·) c d
def zeroT (n : Nat) : Tab := [(zeroV n, 1)]
def nameT (n : Nat) : Tab := iter (fun i t => tput t (unitV n i) 1) n []
def addT (f s : Tab) : Tab := s.foldl (fun acc p => tput acc p.1 ((tget acc p.1).getD 0 + (tget s p.1).getD 0)) (f.foldl (fun acc p => tput acc p.1 ((tget f p.1).getD 0)) [])
def mulIn (v : Int) (s : Tab) (c : Ct) (acc : Tab) (l : Tab) : Tab := l.foldl (fun acc q => tput acc (vadd c q.1) ((tget acc (vadd c q.1)).getD 0 + v * (tget s q.1).getD 0)) acc
def mulT (f s : Tab) : Tab := f.foldl (fun acc p => mulIn ((tget f p.1).getD 0) s p.1 acc s) []
def powT (n : Nat) (t : Tab) (k : Nat) : Tab := iter (fun _ f => mulT f t) k (zeroT n)
def binom (total : Int) (k : Nat) : Int := iter (fun step found => found * (total - step) / (step + 1)) k 1
def waysOf (number : Int) (size : Nat) (again : Bool) : Int := if again = true ∧ 0 < size then binom (number + size - 1) size else binom number size
/-- one content, so many things of it: what is laid -/
def layOne (c : Ct) (v number : Int) (again : Bool) (taken : Nat) (more : Nat) (x : List Tab × Ct) : List Tab × Ct :=
  (if 0 < waysOf number more again then x.1.set (taken + more) (tput (x.1.getD (taken + more) []) x.2 ((tget (x.1.getD (taken + more) []) x.2).getD 0 + v * waysOf number more again)) else x.1, vadd x.2 c)
def layHave (layers : List Tab) (c : Ct) (number : Int) (again : Bool) (taken : Nat) (fresh : List Tab) (p : Ct) : List Tab :=
  (iter (layOne c ((tget (layers.getD taken []) p).getD 0) number again taken) (layers.length - 1 - taken + 1) (fresh, p)).1
def layTaken (layers : List Tab) (c : Ct) (number : Int) (again : Bool) (taken : Nat) (fresh : List Tab) : List Tab :=
  (layers.getD taken []).foldl (fun acc p => layHave layers c number again taken acc p.1) fresh
def further (layers : List Tab) (c : Ct) (number : Int) (again : Bool) : List Tab := iter (layTaken layers c number again) layers.length (List.replicate layers.length [])
def pickL (n : Nat) (t : Tab) (times : Nat) (again : Bool) : List Tab := t.foldl (fun ls p => further ls p.1 ((tget t p.1).getD 0) again) (zeroT n :: List.replicate times [])
def pickT (n : Nat) (t : Tab) (times : Nat) (again : Bool) : Tab := (pickL n t times again).getD times []
def pairT (n low high : Nat) : Tab := tput [(unitV n low, 1)] (unitV n high) 1
def roundIn (n games low : Nat) (acc : Tab) (high : Nat) : Tab := iter (fun _ f => mulT f (pairT n low high)) games acc
def roundT (n games : Nat) : Tab := iter (fun low acc => (List.range (n - (low + 1))).foldl (fun acc k => roundIn n games low acc (low + 1 + k)) acc) n (zeroT n)
def S.table (n : Nat) : S → Tab
  | .none => []
  | .one => pickT n (nameT n) 1 false
  | .sub k => pickT n (nameT n) k false
  | .bag k => pickT n (nameT n) k true
  | .ei a b => addT (a.table n) (b.table n)
  | .pr a b => mulT (a.table n) (b.table n)
  | .li m a => if m = 0 then zeroT n else powT n (a.table n) m
  | .fam m a => if m = 0 then zeroT n else pickT n (a.table n) m false
  | .heap m a => if m = 0 then zeroT n else pickT n (a.table n) m true
  | .rounds m => roundT n m
  | .trees => mulT [(List.replicate n 1, 1)] (powT n (nameT n) (n - 2))
  | .rooted => powT n (nameT n) (n - 1)
/-! ### what a table is -/
structure TabOk (n M : Nat) (t : Tab) : Prop where
  nd : (t.map (·.1)).Nodup
  len : ∀ p ∈ t, p.1.length = n
  bd : ∀ p ∈ t, ∀ x ∈ p.1, 0 ≤ x ∧ x ≤ (M : Int)
theorem le_of_nodup : ∀ (N : Nat) (l : List Nat), l.Nodup → (∀ x ∈ l, x < N) → l.length ≤ N
  | 0, [], _, _ => Nat.le_refl _
  | 0, x :: l, _, h => absurd (h x List.mem_cons_self) (Nat.not_lt_zero _)
  | N + 1, l, nd, h => by
    by_cases hm : N ∈ l
    · have h1 := le_of_nodup N (l.erase N) (nd.erase N) fun x hx => by
        have h2 := (List.Nodup.mem_erase_iff nd).mp hx
        have := h x h2.2
        have := h2.1
        omega
      rw [List.length_erase_of_mem hm] at h1
      omega
    · have h1 := le_of_nodup N l nd fun x hx => by
        have h2 := h x hx
        have : x ≠ N := fun e => hm (e ▸ hx)
        omega
      omega
def code (M : Nat) : Ct → Nat
  | [] => 0
  | x :: c => x.toNat + (M + 1) * code M c
theorem code_lt (M : Nat) : ∀ c : Ct, (∀ x ∈ c, 0 ≤ x ∧ x ≤ M) → code M c < (M + 1) ^ c.length
  | [], _ => Nat.zero_lt_one
  | x :: c, h => by
    have h1 := code_lt M c fun y hy => h y (List.mem_cons_of_mem _ hy)
    obtain ⟨h2, h3⟩ := h x List.mem_cons_self
    show x.toNat + (M + 1) * code M c < (M + 1) ^ (c.length + 1)
    rw [Nat.pow_succ, Nat.mul_comm ((M + 1) ^ c.length)]
    have h4 : (M + 1) * (code M c + 1) ≤ (M + 1) * (M + 1) ^ c.length := Nat.mul_le_mul_left _ h1
    rw [Nat.mul_add] at h4
    omega
theorem code_inj (M : Nat) : ∀ c d : Ct, c.length = d.length → (∀ x ∈ c, 0 ≤ x ∧ x ≤ M) → (∀ x ∈ d, 0 ≤ x ∧ x ≤ M) → code M c = code M d → c = d
  | [], [], _, _, _, _ => rfl
  | [], _ :: _, h, _, _, _ => by cases h
  | _ :: _, [], h, _, _, _ => by cases h
  | x :: c, y :: d, hl, hc, hd, e => by
    obtain ⟨a1, a2⟩ := hc x List.mem_cons_self
    obtain ⟨b1, b2⟩ := hd y List.mem_cons_self
    have e : x.toNat + (M + 1) * code M c = y.toNat + (M + 1) * code M d := e
    have hx : x.toNat < M + 1 := by omega
    have hy : y.toNat < M + 1 := by omega
    have e1 := congrArg (· % (M + 1)) e
    simp only [Nat.add_mul_mod_self_left, Nat.mod_eq_of_lt hx, Nat.mod_eq_of_lt hy] at e1
    have e2 := congrArg (· / (M + 1)) e
    simp only [Nat.add_mul_div_left _ _ (Nat.succ_pos M), Nat.div_eq_of_lt hx, Nat.div_eq_of_lt hy, Nat.zero_add] at e2
    have e3 := code_inj M c d (Nat.succ.inj hl) (fun z hz => hc z (List.mem_cons_of_mem _ hz)) (fun z hz => hd z (List.mem_cons_of_mem _ hz)) e2
    have e4 : x = y := by omega
    rw [e3, e4]
theorem nodup_map_of {α β : Type} {f : α → β} : ∀ {l : List α}, l.Nodup → (∀ x ∈ l, ∀ y ∈ l, f x = f y → x = y) → (l.map f).Nodup
  | [], _, _ => List.nodup_nil
  | a :: l, nd, h => by
    obtain ⟨n1, n2⟩ := List.nodup_cons.mp nd
    rw [List.map_cons]
    refine List.nodup_cons.mpr ⟨fun hm => ?_, nodup_map_of n2 fun x hx y hy => h x (List.mem_cons_of_mem _ hx) y (List.mem_cons_of_mem _ hy)⟩
    obtain ⟨b, hb, e⟩ := List.mem_map.mp hm
    exact n1 (h b (List.mem_cons_of_mem _ hb) a List.mem_cons_self e ▸ hb)
theorem TabOk.small {n M : Nat} {t : Tab} (h : TabOk n M t) (hn : n ≤ 5) (hM : M ≤ 12) : t.length ≤ 371293 := by
  have h1 : ((t.map (·.1)).map (code M)).length ≤ (M + 1) ^ n := le_of_nodup _ _ (nodup_map_of h.nd fun c hc d hd e => by
    obtain ⟨p, hp, rfl⟩ := List.mem_map.mp hc
    obtain ⟨q, hq, rfl⟩ := List.mem_map.mp hd
    exact code_inj M _ _ ((h.len p hp).trans (h.len q hq).symm) (h.bd p hp) (h.bd q hq) e) fun x hx => by
    obtain ⟨c, hc, rfl⟩ := List.mem_map.mp hx
    obtain ⟨p, hp, rfl⟩ := List.mem_map.mp hc
    have := code_lt M p.1 (h.bd p hp)
    rw [h.len p hp] at this
    exact this
  rw [List.length_map, List.length_map] at h1
  have h2 : (M + 1) ^ n ≤ 13 ^ n := Nat.pow_le_pow_left (by omega) n
  have h3 : 13 ^ n ≤ 13 ^ 5 := Nat.pow_le_pow_right (by decide) hn
  have h4 : (13 : Nat) ^ 5 = 371293 := by decide
  omega
theorem TabOk.nil (n M : Nat) : TabOk n M [] := ⟨List.nodup_nil, fun p h => (by cases h), fun p h => (by cases h)⟩
theorem tput_keys (t : Tab) (c : Ct) (x : Int) : (tput t c x).map (·.1) = if (t.any fun p => decide (p.1 = c)) = true then t.map (·.1) else t.map (·.1) ++ [c] := by
  unfold tput
  split
  · rw [List.map_map]
    apply List.map_congr_left
    intro p _
    show (if p.1 = c then (p.1, x) else p).1 = p.1
    split <;> rfl
  · rw [List.map_append]
    rfl
theorem tput_mem {t : Tab} {c : Ct} {x : Int} {k : Ct} (h : k ∈ (tput t c x).map (·.1)) : k = c ∨ k ∈ t.map (·.1) := by
  rw [tput_keys] at h
  split at h
  · exact .inr h
  · rcases List.mem_append.mp h with h | h
    · exact .inr h
    · exact .inl (List.mem_singleton.mp h)
theorem tput_ok {n M : Nat} {t : Tab} {c : Ct} {x : Int} (h : TabOk n M t) (hl : c.length = n) (hb : ∀ z ∈ c, 0 ≤ z ∧ z ≤ (M : Int)) : TabOk n M (tput t c x) := by
  have all : ∀ k : Ct, k ∈ (tput t c x).map (·.1) → k.length = n ∧ ∀ z : Int, z ∈ k → 0 ≤ z ∧ z ≤ (M : Int) := fun k hk => by
    rcases tput_mem hk with e | hk
    · rw [e]; exact ⟨hl, hb⟩
    · obtain ⟨p, hp, rfl⟩ := List.mem_map.mp hk
      exact ⟨h.len p hp, h.bd p hp⟩
  refine ⟨?_, fun p hp => (all _ (List.mem_map.mpr ⟨p, hp, rfl⟩)).1, fun p hp => (all _ (List.mem_map.mpr ⟨p, hp, rfl⟩)).2⟩
  rw [tput_keys]
  split
  · exact h.nd
  · rename_i hn
    refine List.nodup_append.mpr ⟨h.nd, by simp, fun a ha b hb e => ?_⟩
    rw [List.mem_singleton.mp hb] at e
    subst e
    obtain ⟨p, hp, e⟩ := List.mem_map.mp ha
    exact hn (List.any_eq_true.mpr ⟨p, hp, decide_eq_true e⟩)
theorem tget_mem {t : Tab} {c : Ct} (h : c ∈ t.map (·.1)) : ∃ x, tget t c = some x := by
  obtain ⟨p, hp, e⟩ := List.mem_map.mp h
  unfold tget
  cases q : t.find? fun p => decide (p.1 = c) with
  | none =>
    have := List.find?_eq_none.mp q p hp
    rw [decide_eq_true e] at this
    exact absurd rfl this
  | some r => exact ⟨r.2, rfl⟩
theorem tget_get {t : Tab} {k : Nat} {c : Ct} {x : Int} (h : t[k]? = some (c, x)) : ∃ y, tget t c = some y := tget_mem (List.mem_map.mpr ⟨(c, x), List.mem_of_getElem? h, rfl⟩)
theorem vadd_len {c d : Ct} {n : Nat} (h1 : c.length = n) (h2 : d.length = n) : (vadd c d).length = n := by
  unfold vadd
  rw [List.length_zipWith, h1, h2, Nat.min_self]
theorem vadd_bd : ∀ {c d : Ct} {a b : Nat}, (∀ z ∈ c, 0 ≤ z ∧ z ≤ (a : Int)) → (∀ z ∈ d, 0 ≤ z ∧ z ≤ (b : Int)) → ∀ z ∈ vadd c d, 0 ≤ z ∧ z ≤ ((a + b : Nat) : Int)
  | [], _, _, _, _, _, z, hz => by cases hz
  | _ :: _, [], _, _, _, _, z, hz => by cases hz
  | x :: c, y :: d, a, b, h1, h2, z, hz => by
    rcases List.mem_cons.mp (show z ∈ (x + y) :: vadd c d from hz) with e | hz
    · have := h1 x List.mem_cons_self
      have := h2 y List.mem_cons_self
      rw [e]
      omega
    · exact vadd_bd (fun z hz => h1 z (List.mem_cons_of_mem _ hz)) (fun z hz => h2 z (List.mem_cons_of_mem _ hz)) z hz
/-! ### what is kept -/
theorem TabOk.mono {n a b : Nat} {t : Tab} (h : TabOk n a t) (l : a ≤ b) : TabOk n b t := ⟨h.nd, h.len, fun p hp x hx => by
  have := h.bd p hp x hx
  omega⟩
theorem TabOk.lt {n M : Nat} {t : Tab} (h : TabOk n M t) (hn : n ≤ 5) (hM : M ≤ 12) : t.length < 1000000 := by
  have := h.small hn hM
  omega
theorem fold_ok {n M : Nat} {β : Type} {F : Tab → β → Tab} : ∀ {l : List β}, (∀ x ∈ l, ∀ acc, TabOk n M acc → TabOk n M (F acc x)) → ∀ acc, TabOk n M acc → TabOk n M (l.foldl F acc)
  | [], _, _, h => h
  | x :: l, hf, acc, h => fold_ok (l := l) (fun y hy => hf y (List.mem_cons_of_mem _ hy)) _ (hf x List.mem_cons_self acc h)
theorem take_sub {α : Type} {l : List α} {k : Nat} {x : α} (h : x ∈ l.take k) : x ∈ l := List.mem_of_mem_take h
theorem iter_ok {n M : Nat} {F : Nat → Tab → Tab} (hf : ∀ i acc, TabOk n M acc → TabOk n M (F i acc)) {t : Tab} (h : TabOk n M t) : ∀ k, TabOk n M (iter F k t)
  | 0 => h
  | k + 1 => hf k _ (iter_ok hf h k)
theorem zeroV_ok (n M : Nat) : (zeroV n).length = n ∧ ∀ z ∈ zeroV n, 0 ≤ z ∧ z ≤ (M : Int) := ⟨List.length_replicate, fun z hz => by
  rw [(List.mem_replicate.mp hz).2]
  omega⟩
theorem unitV_ok {n i : Nat} (h : i < n) : (unitV n i).length = n ∧ ∀ z ∈ unitV n i, 0 ≤ z ∧ z ≤ ((1 : Nat) : Int) := by
  unfold unitV
  refine ⟨by simp only [List.length_append, List.length_replicate, List.length_cons, List.length_nil]; omega, fun z hz => ?_⟩
  rcases List.mem_append.mp hz with hz | hz
  · rcases List.mem_append.mp hz with hz | hz
    · rw [(List.mem_replicate.mp hz).2]; decide
    · rw [List.mem_singleton.mp hz]; decide
  · rw [(List.mem_replicate.mp hz).2]; decide
theorem zeroT_ok (n M : Nat) : TabOk n M (zeroT n) := ⟨by simp [zeroT], fun p hp => by rw [List.mem_singleton.mp hp]; exact (zeroV_ok n M).1, fun p hp => by rw [List.mem_singleton.mp hp]; exact (zeroV_ok n M).2⟩
theorem nameT_ok (n : Nat) : ∀ k, k ≤ n → TabOk n 1 (iter (fun i t => tput t (unitV n i) 1) k [])
  | 0, _ => TabOk.nil n 1
  | k + 1, h => tput_ok (nameT_ok n k (by omega)) (unitV_ok (by omega)).1 (unitV_ok (by omega)).2
def addF1 (f : Tab) (acc : Tab) (p : Ct × Int) : Tab := tput acc p.1 ((tget f p.1).getD 0)
def addF2 (s : Tab) (acc : Tab) (p : Ct × Int) : Tab := tput acc p.1 ((tget acc p.1).getD 0 + (tget s p.1).getD 0)
theorem add1_ok {n M : Nat} {f g : Tab} (h : TabOk n M f) {l : Tab} (hl : ∀ p ∈ l, p ∈ f) (hg : TabOk n M g) : TabOk n M (l.foldl (addF1 f) g) := fold_ok (fun p hp acc ha => tput_ok ha (h.len p (hl p hp)) (h.bd p (hl p hp))) g hg
theorem add2_ok {n M : Nat} {f g : Tab} (h : TabOk n M f) {l : Tab} (hl : ∀ p ∈ l, p ∈ f) (hg : TabOk n M g) : TabOk n M (l.foldl (addF2 f) g) := fold_ok (fun p hp acc ha => tput_ok ha (h.len p (hl p hp)) (h.bd p (hl p hp))) g hg
theorem addT_eq (f s : Tab) : addT f s = s.foldl (addF2 s) (f.foldl (addF1 f) []) := rfl
theorem addT_ok {n M : Nat} {f s : Tab} (hf : TabOk n M f) (hs : TabOk n M s) : TabOk n M (addT f s) := add2_ok hs (fun _ h => h) (add1_ok hf (fun _ h => h) (TabOk.nil n M))
def mulF (f s : Tab) (acc : Tab) (p : Ct × Int) : Tab := mulIn ((tget f p.1).getD 0) s p.1 acc s
theorem mulT_eq (f s : Tab) : mulT f s = f.foldl (mulF f s) [] := rfl
theorem mulIn_ok {n a b : Nat} {s : Tab} {v : Int} {c : Ct} (hl : c.length = n) (hb : ∀ z ∈ c, 0 ≤ z ∧ z ≤ (a : Int)) (hs : TabOk n b s) {l : Tab} (hsub : ∀ p ∈ l, p ∈ s) {acc : Tab} (h : TabOk n (a + b) acc) : TabOk n (a + b) (mulIn v s c acc l) :=
  fold_ok (fun p hp acc ha => tput_ok ha (vadd_len hl (hs.len p (hsub p hp))) (vadd_bd hb (hs.bd p (hsub p hp)))) acc h
theorem mulF_ok {n a b : Nat} {f s : Tab} (hf : TabOk n a f) (hs : TabOk n b s) {l : Tab} (hsub : ∀ p ∈ l, p ∈ f) {acc : Tab} (h : TabOk n (a + b) acc) : TabOk n (a + b) (l.foldl (mulF f s) acc) :=
  fold_ok (fun p hp acc ha => mulIn_ok (hf.len p (hsub p hp)) (hf.bd p (hsub p hp)) hs (fun _ h => h) ha) acc h
theorem mulT_ok {n a b : Nat} {f s : Tab} (hf : TabOk n a f) (hs : TabOk n b s) : TabOk n (a + b) (mulT f s) := mulF_ok hf hs (fun _ h => h) (TabOk.nil n _)
theorem powT_ok {n a : Nat} {t : Tab} (h : TabOk n a t) : ∀ k, TabOk n (k * a) (powT n t k)
  | 0 => zeroT_ok n _
  | k + 1 => (mulT_ok (powT_ok h k) h).mono (by rw [Nat.succ_mul]; exact Nat.le_refl _)
/-- small values -/
def Bd (t : Tab) : Prop := ∀ p ∈ t, 0 ≤ p.2 ∧ p.2 ≤ 1000000000
theorem tget_in {t : Tab} {c : Ct} {x : Int} (h : tget t c = some x) : ∃ p ∈ t, p.1 = c ∧ p.2 = x := by
  unfold tget at h
  cases q : t.find? fun p => decide (p.1 = c) with
  | none => rw [q] at h; cases h
  | some r =>
    rw [q] at h
    cases h
    exact ⟨r, List.mem_of_find?_eq_some q, of_decide_eq_true (List.find?_some (p := fun p : Ct × Int => decide (p.1 = c)) q), rfl⟩
theorem Bd.get {t : Tab} (h : Bd t) {c : Ct} {x : Int} (e : tget t c = some x) : 0 ≤ x ∧ x ≤ 1000000000 := by
  obtain ⟨p, hp, _, rfl⟩ := tget_in e
  exact h p hp
theorem mem_get {t : Tab} {k : Nat} {c : Ct} {x : Int} (h : t[k]? = some (c, x)) : (c, x) ∈ t := List.mem_of_getElem? h
theorem TabOk.gl {n M : Nat} {t : Tab} (h : TabOk n M t) {k : Nat} {c : Ct} {x : Int} (e : t[k]? = some (c, x)) : c.length = n := h.len _ (mem_get e)
theorem TabOk.gb {n M : Nat} {t : Tab} (h : TabOk n M t) {k : Nat} {c : Ct} {x : Int} (e : t[k]? = some (c, x)) : ∀ z ∈ c, 0 ≤ z ∧ z ≤ (M : Int) := h.bd _ (mem_get e)
theorem vadd_get {c d : Ct} {k : Nat} (h : k < c.length) (e : c.length = d.length) : ∃ x y, c[k]? = some x ∧ d[k]? = some y ∧ (vadd c d)[k]? = some (x + y) := by
  have h2 : k < d.length := by omega
  refine ⟨c[k], d[k], List.getElem?_eq_getElem h, List.getElem?_eq_getElem h2, ?_⟩
  unfold vadd
  rw [List.getElem?_zipWith, List.getElem?_eq_getElem h, List.getElem?_eq_getElem h2]
theorem take_get {α : Type} {l : List α} {k : Nat} {x : α} (h : l[k]? = some x) : l.take (k + 1) = l.take k ++ [x] := by
  rw [List.take_add_one, h]
  rfl
theorem at_int {c : Ct} {k : Nat} {x : Int} (h : c[k]? = some x) : atI (c.map D.int) (k : Int) = some (.int x) := atI_nat (by rw [List.getElem?_map, h]; rfl)
theorem unit_ints (N k : Nat) : (D.ints (List.replicate k 0 ++ [1] ++ List.replicate (N - 1 - k) 0)) = .ints (unitV N k) := rfl
/-! ### the layers -/
structure LayOk (n M L : Nat) (Ts : List Tab) : Prop where
  len : Ts.length = L
  ok : ∀ (i : Nat) (t : Tab), Ts[i]? = some t → TabOk n (i * M) t
theorem LayOk.get {n M L i : Nat} {Ts : List Tab} (h : LayOk n M L Ts) (hi : i < L) : Ts[i]? = some (Ts.getD i []) ∧ TabOk n (i * M) (Ts.getD i []) := by
  have e : Ts[i]? = some (Ts.getD i []) := by
    rw [List.getD_eq_getElem?_getD, List.getElem?_eq_getElem (by rw [h.len]; exact hi)]
    rfl
  exact ⟨e, h.ok i _ e⟩
theorem LayOk.set {n M L i : Nat} {Ts : List Tab} {t : Tab} (h : LayOk n M L Ts) (ht : TabOk n (i * M) t) : LayOk n M L (Ts.set i t) := ⟨by rw [List.length_set]; exact h.len, fun j u e => by
  by_cases hij : i = j
  · subst hij
    rw [List.getElem?_set, if_pos rfl] at e
    split at e
    · cases e; exact ht
    · cases e
  · rw [List.getElem?_set_ne hij] at e
    exact h.ok j u e⟩
theorem LayOk.nil (n M L : Nat) : LayOk n M L (List.replicate L []) := ⟨List.length_replicate, fun i t e => by
  have := List.mem_replicate.mp (List.mem_of_getElem? e)
  rw [this.2]
  exact TabOk.nil n _⟩
def BothOk (n k M : Nat) (c : Ct) : Prop := c.length = n ∧ ∀ z ∈ c, 0 ≤ z ∧ z ≤ ((k * M : Nat) : Int)
theorem layOne_ok {n M L taken more : Nat} {c : Ct} {v number : Int} {again : Bool} (hc : c.length = n) (hcb : ∀ z ∈ c, 0 ≤ z ∧ z ≤ (M : Int)) {x : List Tab × Ct} (h : LayOk n M L x.1) (hb : BothOk n (taken + more) M x.2) (hm : taken + more < L) :
    LayOk n M L (layOne c v number again taken more x).1 ∧ BothOk n (taken + (more + 1)) M (layOne c v number again taken more x).2 := by
  refine ⟨?_, vadd_len hb.1 hc, ?_⟩
  · unfold layOne
    dsimp only
    split
    · exact h.set (tput_ok (h.get hm).2 hb.1 hb.2)
    · exact h
  · have e : (taken + (more + 1)) * M = (taken + more) * M + M := by rw [← Nat.add_assoc, Nat.succ_mul]
    rw [e]
    exact vadd_bd hb.2 hcb
theorem lay_ok {n M L taken : Nat} {c : Ct} {v number : Int} {again : Bool} (hc : c.length = n) (hcb : ∀ z ∈ c, 0 ≤ z ∧ z ≤ (M : Int)) {fresh : List Tab} {p : Ct} (h : LayOk n M L fresh) (hb : BothOk n taken M p) :
    ∀ k, taken + k ≤ L → LayOk n M L (iter (layOne c v number again taken) k (fresh, p)).1 ∧ BothOk n (taken + k) M (iter (layOne c v number again taken) k (fresh, p)).2
  | 0, _ => ⟨h, hb⟩
  | k + 1, hk => by
    obtain ⟨h1, h2⟩ := lay_ok hc hcb h hb k (by omega)
    exact layOne_ok hc hcb h1 h2 (by omega)
theorem layHave_ok {n M L taken : Nat} {c : Ct} {number : Int} {again : Bool} {layers : List Tab} (hL : layers.length = L) (hc : c.length = n) (hcb : ∀ z ∈ c, 0 ≤ z ∧ z ≤ (M : Int)) {fresh : List Tab} {p : Ct} (h : LayOk n M L fresh) (hb : BothOk n taken M p) (ht : taken < L) :
    LayOk n M L (layHave layers c number again taken fresh p) := (lay_ok hc hcb h hb _ (by rw [hL]; omega)).1
theorem layFold_ok {n M L taken : Nat} {c : Ct} {number : Int} {again : Bool} {layers : List Tab} (hL : layers.length = L) (hc : c.length = n) (hcb : ∀ z ∈ c, 0 ≤ z ∧ z ≤ (M : Int)) (ht : taken < L) :
    ∀ (l : Tab), (∀ p ∈ l, BothOk n taken M p.1) → ∀ fresh, LayOk n M L fresh → LayOk n M L (l.foldl (fun acc p => layHave layers c number again taken acc p.1) fresh)
  | [], _, _, h => h
  | p :: l, hl, fresh, h => layFold_ok hL hc hcb ht l (fun p hp => hl p (List.mem_cons_of_mem _ hp)) _ (layHave_ok hL hc hcb h (hl p List.mem_cons_self) ht)
theorem further_ok {n M L : Nat} {c : Ct} {number : Int} {again : Bool} {layers : List Tab} (hL : LayOk n M L layers) (hc : c.length = n) (hcb : ∀ z ∈ c, 0 ≤ z ∧ z ≤ (M : Int)) :
    ∀ k, k ≤ L → LayOk n M L (iter (layTaken layers c number again) k (List.replicate L []))
  | 0, _ => LayOk.nil n M L
  | k + 1, hk => layFold_ok hL.len hc hcb (by omega) _ (fun p hp => ⟨((hL.get (i := k) (by omega)).2).len p hp, ((hL.get (i := k) (by omega)).2).bd p hp⟩) _ (further_ok hL hc hcb k (by omega))
theorem pickTake_ok {n M times : Nat} {t : Tab} {again : Bool} (ht : TabOk n M t) (k : Nat) : LayOk n M (times + 1) ((t.take k).foldl (fun ls p => further ls p.1 ((tget t p.1).getD 0) again) (zeroT n :: List.replicate times [])) := by
  have h0 : LayOk n M (times + 1) (zeroT n :: List.replicate times []) := ⟨by rw [List.length_cons, List.length_replicate], fun i u e => by
    rcases List.mem_cons.mp (List.mem_of_getElem? e) with e | e
    · rw [e]; exact zeroT_ok n _
    · rw [(List.mem_replicate.mp e).2]; exact TabOk.nil n _⟩
  have go : ∀ (l : Tab), (∀ p ∈ l, p ∈ t) → ∀ Ls, LayOk n M (times + 1) Ls → LayOk n M (times + 1) (l.foldl (fun ls p => further ls p.1 ((tget t p.1).getD 0) again) Ls) := fun l => by
    induction l with
    | nil => exact fun _ _ h => h
    | cons p l ih =>
      exact fun hl Ls h => ih (fun q hq => hl q (List.mem_cons_of_mem _ hq)) _ (by
        have := further_ok (number := (tget t p.1).getD 0) (again := again) h (ht.len p (hl p List.mem_cons_self)) (ht.bd p (hl p List.mem_cons_self)) (times + 1) (Nat.le_refl _)
        unfold further
        dsimp only
        rw [h.len]
        exact this)
  exact go _ (fun _ h => take_sub h) _ h0
theorem pickT_ok {n M times : Nat} {t : Tab} {again : Bool} (ht : TabOk n M t) : TabOk n (times * M) (pickT n t times again) := ((by have := pickTake_ok (again := again) (times := times) ht t.length; rw [List.take_length] at this; exact this : LayOk n M (times + 1) (pickL n t times again)).get (i := times) (by omega)).2
theorem binom_bd : ∀ t : Nat, t < 61 → ∀ k : Nat, k < 13 → 0 ≤ binom (t : Int) k ∧ binom (t : Int) k < 18446744073709551616 := by decide +kernel
theorem ways_bd {number : Int} {k : Nat} {again : Bool} (h0 : 0 ≤ number) (h1 : number ≤ 40) (hk : k ≤ 12) : 0 ≤ waysOf number k again ∧ waysOf number k again < 18446744073709551616 := by
  unfold waysOf
  split
  · rename_i h
    have := binom_bd (number + k - 1).toNat (by omega) k (by omega)
    rwa [Int.toNat_of_nonneg (by omega)] at this
  · have := binom_bd number.toNat (by omega) k (by omega)
    rwa [Int.toNat_of_nonneg (by omega)] at this
end ME
end
section
set_option Elab.async false
set_option linter.all false
set_option maxRecDepth 100000
set_option maxHeartbeats 4000000
/-! tables of sorts: their sizes -/
namespace ME
open PySem L2 MW
def tri (N : Nat) : Nat → Nat
  | 0 => 0
  | low + 1 => tri N low + (N - (low + 1))
theorem tri_mono (N : Nat) {a : Nat} : ∀ {b : Nat}, a ≤ b → tri N a ≤ tri N b
  | 0, h => by rw [Nat.le_zero.mp h]; exact Nat.le_refl _
  | b + 1, h => by
    rcases Nat.lt_or_ge b a with h1 | h1
    · rw [Nat.le_antisymm h h1]; exact Nat.le_refl _
    · have := tri_mono N h1
      show tri N a ≤ tri N b + (N - (b + 1))
      omega
theorem pairT_ok {n low high : Nat} (h1 : low < n) (h2 : high < n) : TabOk n 1 (pairT n low high) := by
  refine tput_ok ?_ (unitV_ok h2).1 (unitV_ok h2).2
  exact ⟨by simp, fun p hp => by rw [List.mem_singleton.mp hp]; exact (unitV_ok h1).1, fun p hp => by rw [List.mem_singleton.mp hp]; exact (unitV_ok h1).2⟩
theorem tput_bd {t : Tab} {c : Ct} {x : Int} (h : Bd t) (hx : 0 ≤ x ∧ x ≤ 1000000000) : Bd (tput t c x) := fun p hp => by
  unfold tput at hp
  split at hp
  · obtain ⟨q, hq, e⟩ := List.mem_map.mp hp
    split at e
    · rw [← e]; exact hx
    · rw [← e]; exact h q hq
  · rcases List.mem_append.mp hp with hp | hp
    · exact h p hp
    · rw [List.mem_singleton.mp hp]; exact hx
theorem pairT_bd (n low high : Nat) : Bd (pairT n low high) := tput_bd (fun p hp => by rw [List.mem_singleton.mp hp]; exact ⟨(by decide : (0 : Int) ≤ 1), (by decide : (1 : Int) ≤ 1000000000)⟩) ⟨by decide, by decide⟩
def inR (n games low : Nat) (acc : Tab) (k : Nat) : Tab := (List.range k).foldl (fun acc k => roundIn n games low acc (low + 1 + k)) acc
theorem inR_succ (n games low : Nat) (acc : Tab) (k : Nat) : inR n games low acc (k + 1) = roundIn n games low (inR n games low acc k) (low + 1 + k) := by
  unfold inR
  rw [List.range_succ, List.foldl_append]
  rfl
def outR (n games : Nat) (low : Nat) : Tab := iter (fun low acc => inR n games low acc (n - (low + 1))) low (zeroT n)
theorem roundT_eq (n games : Nat) : roundT n games = outR n games n := rfl
theorem game_ok {n a low high : Nat} {f : Tab} (h1 : low < n) (h2 : high < n) (hf : TabOk n a f) : ∀ g, TabOk n (a + g) (iter (fun _ f => mulT f (pairT n low high)) g f)
  | 0 => hf
  | g + 1 => mulT_ok (a := a + g) (b := 1) (game_ok h1 h2 hf g) (pairT_ok h1 h2)
theorem inR_ok {n games low a : Nat} {f : Tab} (h1 : low < n) (hf : TabOk n a f) : ∀ k, k ≤ n - (low + 1) → TabOk n (a + games * k) (inR n games low f k)
  | 0, _ => hf
  | k + 1, hk => by
    rw [inR_succ]
    have := game_ok (high := low + 1 + k) h1 (by omega) (inR_ok (games := games) h1 hf k (by omega)) games
    rw [Nat.mul_succ, ← Nat.add_assoc]
    exact this
theorem outR_ok {n games : Nat} : ∀ low, low ≤ n → TabOk n (games * tri n low) (outR n games low)
  | 0, _ => zeroT_ok n _
  | low + 1, h => by
    have := inR_ok (games := games) (low := low) (by omega) (outR_ok (games := games) low (by omega)) (n - (low + 1)) (Nat.le_refl _)
    show TabOk n (games * (tri n low + (n - (low + 1)))) _
    rw [Nat.mul_add]
    exact this
theorem tri_marks : ∀ n : Nat, n < 6 → ∀ g : Nat, g < 3 → ((g * tri n n : Nat) : Int) = (g : Int) * n * (n - 1) / 2 := by decide
theorem nameT_list : ∀ n : Nat, n < 6 → (nameT n).map (·.1) = (List.range n).map (unitV n) := by decide +kernel
theorem nameT_bd (n : Nat) : Bd (nameT n) := by
  have : ∀ k, Bd (iter (fun i t => tput t (unitV n i) 1) k []) := fun k => by
    induction k with
    | zero => exact fun p hp => by cases hp
    | succ k ih => exact tput_bd ih ⟨by decide, by decide⟩
  exact this n
/-! ### what is worked out stays small -/
def Bd4 (t : Tab) : Prop := ∀ p ∈ t, 0 ≤ p.2 ∧ p.2 ≤ 40
theorem Bd4.get {t : Tab} (h : Bd4 t) {c : Ct} {x : Int} (e : tget t c = some x) : 0 ≤ x ∧ x ≤ 40 := by
  obtain ⟨p, hp, _, rfl⟩ := tget_in e
  exact h p hp
def S.reach (N : Nat) : S → Prop
  | .ei a b => a.reach N ∧ b.reach N
  | .pr a b => a.reach N ∧ b.reach N ∧ Bd (b.table N)
  | .li m a => m = 0 ∨ (a.reach N ∧ Bd (a.table N))
  | .fam m a => m = 0 ∨ (a.reach N ∧ Bd4 (a.table N))
  | .heap m a => m = 0 ∨ (a.reach N ∧ Bd4 (a.table N))
  | .trees => Bd (powT N (nameT N) (N - 2))
  | _ => True
theorem S.marks_nn {N : Nat} (h2 : 2 ≤ N) (h5 : N ≤ 5) : ∀ s : S, s.ok = true → 0 ≤ s.marks N
  | .none, _ => Int.le_refl _
  | .one, _ => by show (0 : Int) ≤ 1; decide
  | .sub k, _ => Int.natCast_nonneg k
  | .bag k, _ => Int.natCast_nonneg k
  | .ei a b, h => by
    have h : (a.ok && b.ok) = true := h
    rw [Bool.and_eq_true] at h
    have := S.marks_nn h2 h5 a h.1
    have := S.marks_nn h2 h5 b h.2
    show 0 ≤ if b.marks N > a.marks N then b.marks N else a.marks N
    split <;> omega
  | .pr a b, h => by
    have h : (a.ok && b.ok) = true := h
    rw [Bool.and_eq_true] at h
    have := S.marks_nn h2 h5 a h.1
    have := S.marks_nn h2 h5 b h.2
    show 0 ≤ a.marks N + b.marks N
    omega
  | .li m a, h => by
    simp only [S.ok, Bool.and_eq_true] at h
    exact Int.mul_nonneg (Int.natCast_nonneg m) (S.marks_nn h2 h5 a h.2)
  | .fam m a, h => by
    simp only [S.ok, Bool.and_eq_true] at h
    exact Int.mul_nonneg (Int.natCast_nonneg m) (S.marks_nn h2 h5 a h.1.2)
  | .heap m a, h => by
    simp only [S.ok, Bool.and_eq_true] at h
    exact Int.mul_nonneg (Int.natCast_nonneg m) (S.marks_nn h2 h5 a h.1.2)
  | .rounds m, h => by
    simp only [S.ok, Bool.and_eq_true, decide_eq_true_eq] at h
    have := tri_marks N (by omega) m (by omega)
    show 0 ≤ (m : Int) * N * (N - 1) / 2
    rw [← this]
    exact Int.natCast_nonneg _
  | .trees, _ => by show (0 : Int) ≤ 2 * ((N : Int) - 1); omega
  | .rooted, _ => by show (0 : Int) ≤ (N : Int) - 1; omega
theorem mul_toNat {m : Nat} {x : Int} (h : 0 ≤ x) : ((m : Int) * x).toNat = m * x.toNat := by
  obtain ⟨k, rfl⟩ := Int.eq_ofNat_of_zero_le h
  rw [← Int.natCast_mul]
  rfl
theorem ones_ok (n : Nat) : TabOk n 1 [(List.replicate n 1, 1)] := ⟨by simp, fun p hp => by rw [List.mem_singleton.mp hp]; exact List.length_replicate, fun p hp => by
  rw [List.mem_singleton.mp hp]
  intro z hz
  rw [(List.mem_replicate.mp hz).2]
  exact ⟨by decide, by decide⟩⟩
theorem names_ok (n : Nat) : TabOk n 1 (nameT n) := nameT_ok n n (Nat.le_refl _)
theorem S.table_ok {N : Nat} (h2 : 2 ≤ N) (h5 : N ≤ 5) : ∀ s : S, s.ok = true → TabOk N (s.marks N).toNat (s.table N)
  | .none, _ => TabOk.nil N _
  | .one, _ => pickT_ok (times := 1) (names_ok N)
  | .sub k, _ => (pickT_ok (times := k) (names_ok N)).mono (by show k * 1 ≤ (k : Int).toNat; omega)
  | .bag k, _ => (pickT_ok (times := k) (names_ok N)).mono (by show k * 1 ≤ (k : Int).toNat; omega)
  | .ei a b, h => by
    have h : (a.ok && b.ok) = true := h
    rw [Bool.and_eq_true] at h
    have ha := S.table_ok h2 h5 a h.1
    have hb := S.table_ok h2 h5 b h.2
    have e : (S.ei a b).marks N = if b.marks N > a.marks N then b.marks N else a.marks N := rfl
    rw [e]
    split
    · exact addT_ok (ha.mono (by omega)) hb
    · exact addT_ok ha (hb.mono (by omega))
  | .pr a b, h => by
    have h : (a.ok && b.ok) = true := h
    rw [Bool.and_eq_true] at h
    have ha := S.table_ok h2 h5 a h.1
    have hb := S.table_ok h2 h5 b h.2
    have na := S.marks_nn h2 h5 a h.1
    have nb := S.marks_nn h2 h5 b h.2
    have e : (S.pr a b).marks N = a.marks N + b.marks N := rfl
    rw [e, Int.toNat_add na nb]
    exact mulT_ok ha hb
  | .li m a, h => by
    simp only [S.ok, Bool.and_eq_true] at h
    have ha := S.table_ok h2 h5 a h.2
    have e : (S.li m a).marks N = m * a.marks N := rfl
    rw [e, mul_toNat (S.marks_nn h2 h5 a h.2)]
    show TabOk N _ (if m = 0 then zeroT N else powT N (a.table N) m)
    split
    · exact zeroT_ok N _
    · exact powT_ok ha m
  | .fam m a, h => by
    simp only [S.ok, Bool.and_eq_true] at h
    have ha := S.table_ok h2 h5 a h.1.2
    have e : (S.fam m a).marks N = m * a.marks N := rfl
    rw [e, mul_toNat (S.marks_nn h2 h5 a h.1.2)]
    show TabOk N _ (if m = 0 then zeroT N else pickT N (a.table N) m false)
    split
    · exact zeroT_ok N _
    · exact pickT_ok ha
  | .heap m a, h => by
    simp only [S.ok, Bool.and_eq_true] at h
    have ha := S.table_ok h2 h5 a h.1.2
    have e : (S.heap m a).marks N = m * a.marks N := rfl
    rw [e, mul_toNat (S.marks_nn h2 h5 a h.1.2)]
    show TabOk N _ (if m = 0 then zeroT N else pickT N (a.table N) m true)
    split
    · exact zeroT_ok N _
    · exact pickT_ok ha
  | .rounds m, h => by
    simp only [S.ok, Bool.and_eq_true, decide_eq_true_eq] at h
    have e := tri_marks N (by omega) m (by omega)
    have e2 : (S.rounds m).marks N = (m : Int) * N * (N - 1) / 2 := rfl
    rw [e2, ← e, Int.toNat_natCast]
    exact outR_ok N (Nat.le_refl _)
  | .trees, _ => (mulT_ok (ones_ok N) (powT_ok (names_ok N) (N - 2))).mono (by show 1 + (N - 2) * 1 ≤ (2 * ((N : Int) - 1)).toNat; omega)
  | .rooted, _ => (powT_ok (names_ok N) (N - 1)).mono (by show (N - 1) * 1 ≤ ((N : Int) - 1).toNat; omega)
theorem tput_b4 {t : Tab} {c : Ct} {x : Int} (h : Bd4 t) (hx : 0 ≤ x ∧ x ≤ 40) : Bd4 (tput t c x) := fun p hp => by
  unfold tput at hp
  split at hp
  · obtain ⟨q, hq, e⟩ := List.mem_map.mp hp
    split at e
    · rw [← e]; exact hx
    · rw [← e]; exact h q hq
  · rcases List.mem_append.mp hp with hp | hp
    · exact h p hp
    · rw [List.mem_singleton.mp hp]; exact hx
theorem nameT_b4 (n : Nat) : Bd4 (nameT n) := by
  have : ∀ k, Bd4 (iter (fun i t => tput t (unitV n i) 1) k []) := fun k => by
    induction k with
    | zero => exact fun p hp => by cases hp
    | succ k ih => exact tput_b4 ih ⟨by decide, by decide⟩
  exact this n
end ME
end
section
set_option Elab.async false
set_option linter.all false
set_option maxRecDepth 100000
set_option maxHeartbeats 4000000
/-! what the law's own helpers work out -/
namespace ME
open PySem L2 MW
def mixV (c k : Int) : Int := (c % 2147483647 * (48271 + 2 * k * k) + 69621 * k + 11) % 2147483647 * 69621 % 2147483629
def wys (limit : Int) (k : Nat) : Int := iter (fun i f => f * (if limit - (i : Int) > 0 then limit - i else 0) / (i + 1)) k 1
def facts (top : Nat) : Int := iter (fun i f => f * (i + 1)) top 1
def listings (c : Ct) : Int := c.foldl (fun f x => f / facts x.toNat) (facts c.sum.toNat)
def evenRow (n total : Nat) : Ct := iter (fun step row => row.set (step % n) (row.getD (step % n) 0 + 1)) total (List.replicate n 0)
def leastOf (again : Bool) (one : Ct) : Int := if one = [] then 0 else one.getLastD 0 + (if again = true then 0 else 1)
def nextT (limit : Nat) (again : Bool) (one : Ct) : List Ct := (List.range ((limit : Int) - leastOf again one).toNat).map fun (k : Nat) => one ++ [leastOf again one + (k : Int)]
def tuplesL (limit size : Nat) (again : Bool) : List Ct := iter (fun _ found => found.flatMap (nextT limit again)) size [[]]
def nextR (some : List D) (one : List D) : List (List D) := some.map fun x => one ++ [x]
def rowsL (some : List D) (size : Nat) : List (List D) := iter (fun _ found => found.flatMap (nextR some)) size [[]]
def meetRow (n low : Nat) : List Ct := (List.range (n - (low + 1))).map fun (k : Nat) => [(low : Int), (low : Int) + 1 + (k : Int)]
def meetsL (n : Nat) : List Ct := iter (fun low found => found ++ meetRow n low) n []
def joinOne (lot : Ct) (a b : Int) : Ct := if a ∈ lot ∧ b ∉ lot then lot ++ [b] else if b ∈ lot ∧ a ∉ lot then lot ++ [a] else lot
def joinAll (ties : List Ct) (lot : Ct) : Ct := ties.foldl (fun lot t => joinOne lot (t.getD 0 0) (t.getD 1 0)) lot
def joinLot (n : Nat) (ties : List Ct) : Ct := iter (fun _ lot => joinAll ties lot) n [0]
def joinedB (n : Nat) (ties : List Ct) : Bool := decide ((joinLot n ties).length = n)
def pickL1 {α : Type} (some : List α) (x : α) (lot : Ct) : List α := lot.map fun k => some.getD k.toNat x
def treesL (n : Nat) : List (List Ct) := ((tuplesL (meetsL n).length (n - 1) false).map (pickL1 (meetsL n) [])).filter (joinedB n)
def tiesD (ties : List Ct) : D := .tup (ties.map D.ints)
def roundStep (m : Nat) (pair : Ct) (one : List D) : List (List D) := (rowsL (pair.map D.int) m).map fun won => one ++ [D.tup won]
def roundsL (n m : Nat) : List (List D) := (meetsL n).foldl (fun found pair => found.flatMap (roundStep m pair)) [[]]
def S.mem (n : Nat) : S → List D
  | .none => []
  | .one => (List.range n).map fun (i : Nat) => D.int i
  | .sub k => (tuplesL n k false).map D.ints
  | .bag k => (tuplesL n k true).map D.ints
  | .ei a b => (a.mem n).map (fun x => D.tup [.int 0, x]) ++ (b.mem n).map (fun x => D.tup [.int 1, x])
  | .pr a b => (a.mem n).flatMap fun x => (b.mem n).map fun y => D.tup [x, y]
  | .li m a => (rowsL (a.mem n) m).map D.tup
  | .fam m a => (tuplesL (a.mem n).length m false).map fun lot => D.tup (pickL1 (a.mem n) .non lot)
  | .heap m a => (tuplesL (a.mem n).length m true).map fun lot => D.tup (pickL1 (a.mem n) .non lot)
  | .rounds m => (roundsL n m).map D.tup
  | .trees => (treesL n).map tiesD
  | .rooted => (List.range n).flatMap fun (root : Nat) => (treesL n).map fun t => D.tup [.int root, tiesD t]
/-! ### the names that a member holds -/
def asInt : D → Int
  | .int i => i
  | _ => 0
def asInts : D → Ct
  | .tup l => l.map asInt
  | _ => []
def kids : D → List D
  | .tup l => l
  | _ => []
def near (left : List Ct) (item : Int) : List Ct := left.filter fun t => decide (item ∈ t)
/-- one step of the letters: the first name that hangs by one tie and is not the root -/
def lettStep (n : Nat) (root : Int) (x : List Ct × Ct) : List Ct × Ct :=
  match (List.range n).find? fun (i : Nat) => decide ((i : Int) ≠ root ∧ (near x.1 i).length = 1) with
  | some i => (x.1.erase ((near x.1 i).headD []), x.2 ++ [((near x.1 i).headD []).getD 0 0 + ((near x.1 i).headD []).getD 1 0 - (i : Int)])
  | none => x
def letters (n : Nat) (ties : List Ct) (root : Int) (size : Nat) : Ct := (iter (fun _ x => lettStep n root x) size (ties, [])).2
def S.names (n : Nat) : S → D → Ct
  | .none, _ => []
  | .one, d => [asInt d]
  | .sub _, d => asInts d
  | .bag _, d => asInts d
  | .ei a b, d => if asInt ((kids d).getD 0 .non) = 0 then a.names n ((kids d).getD 1 .non) else b.names n ((kids d).getD 1 .non)
  | .pr a b, d => a.names n ((kids d).getD 0 .non) ++ b.names n ((kids d).getD 1 .non)
  | .li _ a, d => (kids d).flatMap (a.names n)
  | .fam _ a, d => (kids d).flatMap (a.names n)
  | .heap _ a, d => (kids d).flatMap (a.names n)
  | .rounds _, d => (kids d).flatMap asInts
  | .trees, d => (kids d).flatMap asInts
  | .rooted, d => letters n ((kids ((kids d).getD 1 .non)).map asInts) (asInt ((kids d).getD 0 .non)) (n - 1)
def marksOf (n : Nat) (names : Ct) : Ct := (List.range n).map fun (i : Nat) => ((names.filter fun x => decide (x = (i : Int))).length : Int)
def S.cont (n : Nat) (s : S) (d : D) : Ct := marksOf n (s.names n d)
def S.every (n : Nat) (s : S) : List Ct := (s.mem n).map (s.cont n)
/-! ### sizes, as the law works them out -/
def S.lsize (n : Nat) : S → Int
  | .none => 0
  | .one => n
  | .sub k => wys n k
  | .bag k => wys (n + k - 1) k
  | .ei a b => a.lsize n + b.lsize n
  | .pr a b => a.lsize n * b.lsize n
  | .li m a => ipow (a.lsize n) m
  | .fam m a => wys (a.lsize n) m
  | .heap m a => wys (a.lsize n + m - 1) m
  | .rounds m => ipow 2 (m * n * (n - 1) / 2 : Int).toNat
  | .trees => ipow n (n - 2)
  | .rooted => ipow n (n - 1)
/-- the parts' sizes stay below a bound -/
def S.upto (n : Nat) (b : Int) : S → Prop
  | .ei x y => x.upto n b ∧ y.upto n b ∧ 0 ≤ x.lsize n ∧ x.lsize n ≤ b ∧ 0 ≤ y.lsize n ∧ y.lsize n ≤ b
  | .pr x y => x.upto n b ∧ y.upto n b ∧ 0 ≤ x.lsize n ∧ x.lsize n ≤ b ∧ 0 ≤ y.lsize n ∧ y.lsize n ≤ b
  | .li _ x => x.upto n b ∧ 0 ≤ x.lsize n ∧ x.lsize n ≤ b
  | .fam _ x => x.upto n b ∧ 0 ≤ x.lsize n ∧ x.lsize n ≤ b
  | .heap _ x => x.upto n b ∧ 0 ≤ x.lsize n ∧ x.lsize n ≤ b
  | _ => True
end ME
end
section
set_option Elab.async false
set_option linter.all false
set_option maxRecDepth 100000
set_option maxHeartbeats 4000000
/-! lengths, for the walks -/
namespace ME
open PySem L2 MW
theorem fm_take {α β : Type} {g : α → List β} {l : List α} {k : Nat} {x : α} (h : l[k]? = some x) : (l.take (k + 1)).flatMap g = (l.take k).flatMap g ++ g x := by
  rw [take_get h, List.flatMap_append]
  simp
theorem fm_len {α β : Type} {g : α → List β} {b : Nat} : ∀ {l : List α}, (∀ x ∈ l, (g x).length ≤ b) → (l.flatMap g).length ≤ l.length * b
  | [], _ => by simp
  | x :: l, h => by
    have h1 := fm_len (l := l) fun y hy => h y (List.mem_cons_of_mem _ hy)
    have h2 := h x List.mem_cons_self
    rw [List.flatMap_cons, List.length_append, List.length_cons, Nat.succ_mul]
    omega
theorem pow_le {b k n : Nat} (h : k ≤ n) : (b + 1) ^ k ≤ (b + 1) ^ n := Nat.pow_le_pow_right (Nat.succ_pos b) h
theorem mem_map_get {α β : Type} {f : α → β} {l : List α} {k : Nat} {y : β} (h : (l.map f)[k]? = some y) : ∃ x, l[k]? = some x ∧ y = f x := by
  rw [List.getElem?_map] at h
  cases e : l[k]? with
  | none => rw [e] at h; cases h
  | some x => rw [e] at h; cases h; exact ⟨x, rfl, rfl⟩
def EntOk (limit : Nat) (c : Ct) : Prop := ∀ z ∈ c, 0 ≤ z ∧ z < (limit : Int)
theorem last_in : ∀ {c : Ct}, c ≠ [] → c.getLastD 0 ∈ c := fun {c} h => by
  rw [List.getLastD_eq_getLast?, List.getLast?_eq_some_getLast h]
  exact List.getLast_mem h
theorem least_ok {limit : Nat} {again : Bool} {c : Ct} (h : EntOk limit c) : 0 ≤ leastOf again c ∧ leastOf again c ≤ (limit : Int) := by
  unfold leastOf
  split
  · omega
  · rename_i hc
    have := h _ (last_in hc)
    split <;> omega
theorem nextT_len {limit : Nat} {again : Bool} {c : Ct} (h : EntOk limit c) : (nextT limit again c).length ≤ limit := by
  unfold nextT
  rw [List.length_map, List.length_range]
  have := least_ok (again := again) h
  omega
theorem nextT_ok {limit : Nat} {again : Bool} {c x : Ct} (h : EntOk limit c) (hx : x ∈ nextT limit again c) : EntOk limit x := by
  unfold nextT at hx
  obtain ⟨k, hk, rfl⟩ := List.mem_map.mp hx
  have hk := List.mem_range.mp hk
  have := least_ok (again := again) h
  intro z hz
  rcases List.mem_append.mp hz with hz | hz
  · exact h z hz
  · rw [List.mem_singleton.mp hz]; omega
theorem tuples_ok (limit : Nat) (again : Bool) : ∀ k, (∀ c ∈ tuplesL limit k again, EntOk limit c) ∧ (tuplesL limit k again).length ≤ (limit + 1) ^ k
  | 0 => ⟨fun c hc => (by rw [List.mem_singleton.mp hc]; intro z hz; cases hz), (by show 1 ≤ 1; exact Nat.le_refl _)⟩
  | k + 1 => by
    obtain ⟨h1, h2⟩ := tuples_ok limit again k
    refine ⟨fun c hc => ?_, ?_⟩
    · obtain ⟨x, hx, hc⟩ := List.mem_flatMap.mp (show c ∈ (tuplesL limit k again).flatMap (nextT limit again) from hc)
      exact nextT_ok (h1 x hx) hc
    · show ((tuplesL limit k again).flatMap (nextT limit again)).length ≤ _
      have h3 := fm_len (g := nextT limit again) (b := limit) fun x hx => nextT_len (h1 x hx)
      have h4 : (tuplesL limit k again).length * limit ≤ (limit + 1) ^ k * (limit + 1) := Nat.mul_le_mul h2 (by omega)
      rw [Nat.pow_succ]
      omega
theorem rows_len (some : List D) : ∀ k, (rowsL some k).length ≤ (some.length + 1) ^ k
  | 0 => by show 1 ≤ 1; exact Nat.le_refl _
  | k + 1 => by
    have h2 := rows_len some k
    show ((rowsL some k).flatMap (nextR some)).length ≤ _
    have h3 := fm_len (g := nextR some) (b := some.length) (l := rowsL some k) fun x _ => by unfold nextR; rw [List.length_map]; exact Nat.le_refl _
    have h4 : (rowsL some k).length * some.length ≤ (some.length + 1) ^ k * (some.length + 1) := Nat.mul_le_mul h2 (by omega)
    rw [Nat.pow_succ]
    omega
theorem rows_item (some : List D) : ∀ k, ∀ r ∈ rowsL some k, r.length = k
  | 0, r, h => by rw [List.mem_singleton.mp h]; rfl
  | k + 1, r, h => by
    obtain ⟨x, hx, hr⟩ := List.mem_flatMap.mp (show r ∈ (rowsL some k).flatMap (nextR some) from h)
    unfold nextR at hr
    obtain ⟨y, _, rfl⟩ := List.mem_map.mp hr
    rw [List.length_append, rows_item some k x hx]
    rfl
theorem tuples_item (limit : Nat) (again : Bool) : ∀ k, ∀ r ∈ tuplesL limit k again, r.length = k
  | 0, r, h => by rw [List.mem_singleton.mp h]; rfl
  | k + 1, r, h => by
    obtain ⟨x, hx, hr⟩ := List.mem_flatMap.mp (show r ∈ (tuplesL limit k again).flatMap (nextT limit again) from h)
    unfold nextT at hr
    obtain ⟨y, _, rfl⟩ := List.mem_map.mp hr
    rw [List.length_append, tuples_item limit again k x hx]
    rfl
theorem in_ints (x : Int) : ∀ c : Ct, inV (V.int x) (c.map V.int) = decide (x ∈ c)
  | [] => rfl
  | y :: c => by
    show ((y == x) || inV (V.int x) (c.map V.int)) = _
    rw [in_ints x c, Bool.eq_iff_iff, Bool.or_eq_true, beq_iff_eq, decide_eq_true_iff, decide_eq_true_iff, List.mem_cons]
    exact ⟨fun h => h.imp Eq.symm id, fun h => h.imp Eq.symm id⟩
theorem facts_bd : ∀ t : Nat, t < 13 → 0 < facts t ∧ facts t < 1073741824 := by decide
theorem ixN_at {n j : Nat} (hj : j < n) : ixN n (j : Int) = some j := by
  unfold ixN
  rw [if_pos (Int.natCast_nonneg j), if_pos (Int.ofNat_lt.mpr hj), Int.toNat_natCast]
theorem asInts_ints (c : Ct) : asInts (.ints c) = c := by
  show (c.map D.int).map asInt = c
  rw [List.map_map]
  exact List.map_id' c
theorem kids_ties (ties : List Ct) : (kids (tiesD ties)).map asInts = ties := by
  show (ties.map D.ints).map asInts = ties
  rw [List.map_map]
  have : (asInts ∘ D.ints) = id := funext asInts_ints
  rw [this, List.map_id]
theorem meets_len : ∀ n : Nat, n < 5 → (meetsL n).length ≤ 6 := by decide
theorem meets_two : ∀ n : Nat, n < 5 → ∀ c ∈ meetsL n, c.length = 2 := by decide
theorem trees_pow : ∀ n : Nat, n < 5 → ((meetsL n).length + 1) ^ (n - 1) ≤ 100000 := by decide
theorem at_pick {α β : Type} {L : List α} {f : α → β} {z : Int} {x : α} (h0 : 0 ≤ z) (h1 : z < (L.length : Int)) : atI (L.map f) z = some (f (L.getD z.toNat x)) := by
  obtain ⟨k, rfl⟩ := Int.eq_ofNat_of_zero_le h0
  refine atI_nat ?_
  have hk : k < L.length := by omega
  rw [List.getElem?_map, List.getD_eq_getElem?_getD, Int.toNat_natCast, List.getElem?_eq_getElem hk]
  rfl
def S.lenOk (N : Nat) : S → Prop
  | .sub k => (N + 1) ^ k ≤ 100000
  | .bag k => (N + 1) ^ k ≤ 100000
  | .ei a b => a.lenOk N ∧ b.lenOk N ∧ (a.mem N).length ≤ 1000 ∧ (b.mem N).length ≤ 1000
  | .pr a b => a.lenOk N ∧ b.lenOk N ∧ (a.mem N).length ≤ 1000 ∧ (b.mem N).length ≤ 1000
  | .li m a => a.lenOk N ∧ (a.mem N).length ≤ 1000 ∧ ((a.mem N).length + 1) ^ m ≤ 100000
  | .fam m a => a.lenOk N ∧ (a.mem N).length ≤ 1000 ∧ ((a.mem N).length + 1) ^ m ≤ 100000
  | .heap m a => a.lenOk N ∧ (a.mem N).length ≤ 1000 ∧ ((a.mem N).length + 1) ^ m ≤ 100000
  | _ => True
theorem step_len {m : Nat} {pair : Ct} {one : List D} (hm : m ≤ 2) (hp : pair.length = 2) : (roundStep m pair one).length ≤ 9 := by
  unfold roundStep
  have h := rows_len (pair.map D.int) m
  rw [List.length_map, hp] at h
  rw [List.length_map]
  have : (2 + 1) ^ m ≤ (2 + 1) ^ 2 := Nat.pow_le_pow_right (by omega) hm
  omega
theorem rounds_len {m : Nat} (hm : m ≤ 2) : ∀ (l : List Ct) (found : List (List D)), (∀ c ∈ l, c.length = 2) → (l.foldl (fun found pair => found.flatMap (roundStep m pair)) found).length ≤ found.length * 9 ^ l.length
  | [], found, _ => by simp
  | c :: l, found, h => by
    have h1 := rounds_len hm l (found.flatMap (roundStep m c)) fun x hx => h x (List.mem_cons_of_mem _ hx)
    have h2 := fm_len (g := roundStep m c) (b := 9) (l := found) fun x _ => step_len hm (h c List.mem_cons_self)
    have h3 : (found.flatMap (roundStep m c)).length * 9 ^ l.length ≤ found.length * 9 * 9 ^ l.length := Nat.mul_le_mul_right _ h2
    rw [List.length_cons, Nat.pow_succ, Nat.mul_comm (9 ^ l.length) 9, ← Nat.mul_assoc]
    exact Nat.le_trans h1 h3
theorem treesL_len : ∀ n : Nat, n < 5 → (treesL n).length ≤ 16 := by decide +kernel
theorem rounds_item {m : Nat} : ∀ (l : List Ct) (found : List (List D)) (b : Nat), (∀ r ∈ found, r.length ≤ b) → ∀ r ∈ l.foldl (fun found pair => found.flatMap (roundStep m pair)) found, r.length ≤ b + l.length
  | [], _, _, h => h
  | c :: l, found, b, h => fun r hr => by
    have := rounds_item l (found.flatMap (roundStep m c)) (b + 1) (fun x hx => by
      obtain ⟨y, hy, hx⟩ := List.mem_flatMap.mp hx
      unfold roundStep at hx
      obtain ⟨z, _, rfl⟩ := List.mem_map.mp hx
      have := h y hy
      rw [List.length_append]
      show y.length + 1 ≤ b + 1
      omega) r hr
    rw [List.length_cons]
    omega
theorem rounds_q : ∀ n : Nat, n < 6 → ∀ m : Nat, m < 3 → 0 ≤ (m : Int) * n * (n - 1) / 2 ∧ (m : Int) * n * (n - 1) / 2 ≤ 20 := by decide
/-! ### the shapes of members -/
def S.shape (N : Nat) : S → D → Prop
  | .none, _ => False
  | .one, d => ∃ i : Int, d = .int i
  | .sub _, d => ∃ c : Ct, d = .ints c
  | .bag _, d => ∃ c : Ct, d = .ints c
  | .ei a b, d => (∃ x, d = .tup [.int 0, x] ∧ a.shape N x) ∨ (∃ x, d = .tup [.int 1, x] ∧ b.shape N x)
  | .pr a b, d => ∃ x y, d = .tup [x, y] ∧ a.shape N x ∧ b.shape N y
  | .li _ a, d => ∃ xs, d = .tup xs ∧ ∀ x ∈ xs, a.shape N x
  | .fam _ a, d => ∃ xs, d = .tup xs ∧ ∀ x ∈ xs, a.shape N x
  | .heap _ a, d => ∃ xs, d = .tup xs ∧ ∀ x ∈ xs, a.shape N x
  | .rounds _, d => ∃ cs : List Ct, d = .tup (cs.map D.ints)
  | .trees, d => ∃ cs : List Ct, d = .tup (cs.map D.ints)
  | .rooted, d => ∃ (root : Int) (cs : List Ct), d = .tup [.int root, tiesD cs] ∧ cs.length ≤ 100 ∧ ∀ c ∈ cs, c.length = 2
def sp_letters : SpecD := fun ds R => ∃ (n : Nat) (ties : List Ct) (root : Int) (size : Nat), ds = [.int n, tiesD ties, .int root, .int size] ∧ n ≤ 5 ∧ size ≤ 5 ∧ ties.length ≤ 100 ∧ (∀ c ∈ ties, c.length = 2) ∧ R (.lst ((letters n ties root size).map D.int))
theorem fm_part {α β : Type} {g : α → List β} {l : List α} {k : Nat} {x : α} (h : l[k]? = some x) : ((l.take k).flatMap g).length + (g x).length ≤ (l.flatMap g).length := by
  have e : l = l.take (k + 1) ++ l.drop (k + 1) := (List.take_append_drop (k + 1) l).symm
  conv => rhs; rw [e]
  rw [List.flatMap_append, List.length_append, fm_take h, List.length_append]
  omega
/-! ### does it fit -/
def S.kids : S → List S
  | .ei a b => [a, b]
  | .pr a b => [a, b]
  | .li _ a => [a]
  | .fam _ a => [a]
  | .heap _ a => [a]
  | _ => []
def S.fitB (N : Nat) (b : Int) : S → Bool
  | .ei x y => decide ((S.ei x y).lsize N ≤ b) && (x.fitB N b && y.fitB N b)
  | .pr x y => decide ((S.pr x y).lsize N ≤ b) && (x.fitB N b && y.fitB N b)
  | .li m x => decide ((S.li m x).lsize N ≤ b) && x.fitB N b
  | .fam m x => decide ((S.fam m x).lsize N ≤ b) && x.fitB N b
  | .heap m x => decide ((S.heap m x).lsize N ≤ b) && x.fitB N b
  | s => decide (s.lsize N ≤ b)
theorem S.fitB_eq (N : Nat) (b : Int) (s : S) : s.fitB N b = (decide (s.lsize N ≤ b) && s.kids.all (S.fitB N b)) := by
  cases s <;> simp [S.fitB, S.kids]
theorem S.d_kids (s : S) : ∃ L : List D, s.d = .tup L ∧ L.filter (isT "tuple") = s.kids.map S.d ∧ L.length ≤ 3 ∧ ∀ x ∈ L, (∃ n, x = .int n) ∨ (∃ z, x = .str z) ∨ ∃ l, x = .tup l := by
  have t : ∀ a : S, ∃ l, a.d = .tup l := fun a => by cases a <;> exact ⟨_, rfl⟩
  cases s with
  | ei a b =>
    obtain ⟨la, ea⟩ := t a
    obtain ⟨lb, eb⟩ := t b
    refine ⟨_, rfl, by rw [ea, eb]; show _ = [a.d, b.d]; rw [ea, eb]; rfl, by simp, fun x hx => ?_⟩
    simp only [List.mem_cons, List.not_mem_nil, or_false] at hx
    rcases hx with rfl | rfl | rfl
    · exact .inr (.inl ⟨_, rfl⟩)
    · exact .inr (.inr ⟨_, ea⟩)
    · exact .inr (.inr ⟨_, eb⟩)
  | pr a b =>
    obtain ⟨la, ea⟩ := t a
    obtain ⟨lb, eb⟩ := t b
    refine ⟨_, rfl, by rw [ea, eb]; show _ = [a.d, b.d]; rw [ea, eb]; rfl, by simp, fun x hx => ?_⟩
    simp only [List.mem_cons, List.not_mem_nil, or_false] at hx
    rcases hx with rfl | rfl | rfl
    · exact .inr (.inl ⟨_, rfl⟩)
    · exact .inr (.inr ⟨_, ea⟩)
    · exact .inr (.inr ⟨_, eb⟩)
  | li m a =>
    obtain ⟨la, ea⟩ := t a
    refine ⟨_, rfl, by rw [ea]; show _ = [a.d]; rw [ea]; rfl, by simp, fun x hx => ?_⟩
    simp only [List.mem_cons, List.not_mem_nil, or_false] at hx
    rcases hx with rfl | rfl | rfl
    · exact .inr (.inl ⟨_, rfl⟩)
    · exact .inl ⟨_, rfl⟩
    · exact .inr (.inr ⟨_, ea⟩)
  | fam m a =>
    obtain ⟨la, ea⟩ := t a
    refine ⟨_, rfl, by rw [ea]; show _ = [a.d]; rw [ea]; rfl, by simp, fun x hx => ?_⟩
    simp only [List.mem_cons, List.not_mem_nil, or_false] at hx
    rcases hx with rfl | rfl | rfl
    · exact .inr (.inl ⟨_, rfl⟩)
    · exact .inl ⟨_, rfl⟩
    · exact .inr (.inr ⟨_, ea⟩)
  | heap m a =>
    obtain ⟨la, ea⟩ := t a
    refine ⟨_, rfl, by rw [ea]; show _ = [a.d]; rw [ea]; rfl, by simp, fun x hx => ?_⟩
    simp only [List.mem_cons, List.not_mem_nil, or_false] at hx
    rcases hx with rfl | rfl | rfl
    · exact .inr (.inl ⟨_, rfl⟩)
    · exact .inl ⟨_, rfl⟩
    · exact .inr (.inr ⟨_, ea⟩)
  | _ =>
    refine ⟨_, rfl, rfl, by simp, fun x hx => ?_⟩
    simp only [List.mem_cons, List.not_mem_nil, or_false] at hx
    first
      | (rcases hx with rfl | rfl <;> first | exact .inr (.inl ⟨_, rfl⟩) | exact .inl ⟨_, rfl⟩)
      | (subst hx; exact .inr (.inl ⟨_, rfl⟩))
theorem S.kid_of {N n : Nat} {b : Int} (s : S) (hd : s.depth ≤ n + 1) (hk : s.ok = true) (hu : s.upto N b) : ∀ k ∈ s.kids, k.depth ≤ n ∧ k.ok = true ∧ k.upto N b := by
  cases s with
  | ei x y =>
    simp only [S.depth, S.ok, Bool.and_eq_true] at hd hk
    intro k h
    simp only [S.kids, List.mem_cons, List.not_mem_nil, or_false] at h
    rcases h with rfl | rfl
    · exact ⟨by omega, hk.1, hu.1⟩
    · exact ⟨by omega, hk.2, hu.2.1⟩
  | pr x y =>
    simp only [S.depth, S.ok, Bool.and_eq_true] at hd hk
    intro k h
    simp only [S.kids, List.mem_cons, List.not_mem_nil, or_false] at h
    rcases h with rfl | rfl
    · exact ⟨by omega, hk.1, hu.1⟩
    · exact ⟨by omega, hk.2, hu.2.1⟩
  | li m x =>
    simp only [S.depth, S.ok, Bool.and_eq_true] at hd hk
    intro k h
    rw [List.mem_singleton.mp h]
    exact ⟨by omega, hk.2, hu.1⟩
  | fam m x =>
    simp only [S.depth, S.ok, Bool.and_eq_true] at hd hk
    intro k h
    rw [List.mem_singleton.mp h]
    exact ⟨by omega, hk.1.2, hu.1⟩
  | heap m x =>
    simp only [S.depth, S.ok, Bool.and_eq_true] at hd hk
    intro k h
    rw [List.mem_singleton.mp h]
    exact ⟨by omega, hk.1.2, hu.1⟩
  | _ => intro k h; cases h
/-! ### gathered -/
def gatherF (t : Tab) (c : Ct) : Tab := tput t c ((tget t c).getD 0 + 1)
def gatherT (cs : List Ct) : Tab := cs.foldl gatherF []
theorem gather_ok {n M : Nat} (cs : List Ct) (h : ∀ c ∈ cs, c.length = n ∧ ∀ z ∈ c, 0 ≤ z ∧ z ≤ (M : Int)) : TabOk n M (gatherT cs) := fold_ok (fun c hc acc ha => tput_ok ha (h c hc).1 (h c hc).2) [] (TabOk.nil n M)
theorem gather_len : ∀ (cs : List Ct) (t : Tab), (cs.foldl gatherF t).length ≤ t.length + cs.length
  | [], t => Nat.le_refl _
  | c :: cs, t => by
    have h1 := gather_len cs (gatherF t c)
    have h2 := tput_len t c ((tget t c).getD 0 + 1)
    have h3 : (gatherF t c).length ≤ t.length + 1 := h2
    rw [List.foldl_cons, List.length_cons]
    omega
theorem tget_nodup : ∀ {t : Tab}, (t.map (·.1)).Nodup → ∀ p ∈ t, tget t p.1 = some p.2
  | [], _, p, hp => by cases hp
  | q :: t, nd, p, hp => by
    rw [List.map_cons] at nd
    obtain ⟨n1, n2⟩ := List.nodup_cons.mp nd
    rcases List.mem_cons.mp hp with e | hp
    · rw [e]
      unfold tget
      rw [List.find?_cons, decide_eq_true rfl]
      rfl
    · have ne : ¬ q.1 = p.1 := fun e => n1 (by rw [e]; exact List.mem_map.mpr ⟨p, hp, rfl⟩)
      have := tget_nodup n2 p hp
      unfold tget at this ⊢
      rw [List.find?_cons, decide_eq_false ne]
      exact this
theorem keys_back {t : Tab} (nd : (t.map (·.1)).Nodup) : (t.map (·.1)).map (fun c => (c, (tget t c).getD 0)) = t := by
  rw [List.map_map]
  conv => rhs; rw [← List.map_id t]
  apply List.map_congr_left
  intro p hp
  show (p.1, (tget t p.1).getD 0) = p
  rw [tget_nodup nd p hp]
  rfl
end ME
end
section
set_option Elab.async false
set_option linter.all false
set_option maxRecDepth 100000
set_option maxHeartbeats 4000000
/-! sums, moves of marks, evenness: no program in sight -/
namespace ME
open PySem L2 MW
def sm {α : Type} (L : List α) (h : α → Int) : Int := (L.map h).sum
theorem sm_nil {α : Type} (h : α → Int) : sm [] h = 0 := rfl
theorem sm_cons {α : Type} (a : α) (L : List α) (h : α → Int) : sm (a :: L) h = h a + sm L h := by unfold sm; rw [List.map_cons, List.sum_cons]
theorem sm_append {α : Type} (A B : List α) (h : α → Int) : sm (A ++ B) h = sm A h + sm B h := by
  induction A with
  | nil => rw [List.nil_append, sm_nil, Int.zero_add]
  | cons a A ih => rw [List.cons_append, sm_cons, sm_cons, ih, Int.add_assoc]
theorem sm_perm {α : Type} {A B : List α} (p : A.Perm B) (h : α → Int) : sm A h = sm B h := by
  induction p with
  | nil => rfl
  | cons x _ ih => rw [sm_cons, sm_cons, ih]
  | swap x y l => rw [sm_cons, sm_cons, sm_cons, sm_cons]; omega
  | trans _ _ a b => rw [a, b]
theorem sm_congr {α : Type} {A : List α} {h g : α → Int} (e : ∀ x ∈ A, h x = g x) : sm A h = sm A g := by unfold sm; rw [List.map_congr_left e]
theorem sm_add {α : Type} (A : List α) (h g : α → Int) : sm A (fun x => h x + g x) = sm A h + sm A g := by
  induction A with
  | nil => rfl
  | cons a A ih => rw [sm_cons, sm_cons, sm_cons, ih]; omega
theorem sm_sub {α : Type} (A : List α) (h g : α → Int) : sm A (fun x => h x - g x) = sm A h - sm A g := by
  induction A with
  | nil => rfl
  | cons a A ih => rw [sm_cons, sm_cons, sm_cons, ih]; omega
theorem sm_neg {α : Type} (A : List α) (h : α → Int) : sm A (fun x => - h x) = - sm A h := by
  induction A with
  | nil => rfl
  | cons a A ih => rw [sm_cons, sm_cons, ih]; omega
theorem sm_mul {α : Type} (A : List α) (a : Int) (h : α → Int) : sm A (fun x => a * h x) = a * sm A h := by
  induction A with
  | nil => rw [sm_nil, sm_nil, Int.mul_zero]
  | cons x A ih => rw [sm_cons, sm_cons, ih, Int.mul_add]
theorem sm_zero {α : Type} (A : List α) : sm A (fun _ => 0) = 0 := by
  induction A with
  | nil => rfl
  | cons x A ih => rw [sm_cons, ih]; rfl
theorem sm_map {α β : Type} (A : List α) (f : α → β) (h : β → Int) : sm (A.map f) h = sm A fun x => h (f x) := by unfold sm; rw [List.map_map]; rfl
theorem sm_flatMap {α β : Type} (A : List α) (g : α → List β) (h : β → Int) : sm (A.flatMap g) h = sm A fun x => sm (g x) h := by
  induction A with
  | nil => rfl
  | cons a A ih => rw [List.flatMap_cons, sm_append, ih, sm_cons]
theorem sm_swap {α β : Type} (A : List α) (B : List β) (h : α → β → Int) : sm A (fun x => sm B (h x)) = sm B fun y => sm A fun x => h x y := by
  induction A with
  | nil => rw [sm_nil]; exact (sm_zero B).symm
  | cons a A ih =>
    rw [sm_cons, ih, ← sm_add]
    exact sm_congr fun y _ => (sm_cons a A fun x => h x y).symm
theorem sm_nn {α : Type} {A : List α} {h : α → Int} (p : ∀ x ∈ A, 0 ≤ h x) : 0 ≤ sm A h := by
  induction A with
  | nil => exact Int.le_refl _
  | cons a A ih =>
    have h1 := p a List.mem_cons_self
    have h2 := ih fun x hx => p x (List.mem_cons_of_mem _ hx)
    rw [sm_cons]
    omega
def cnt (L : List Ct) (c : Ct) : Int := (L.count c : Int)
theorem cnt_eq (L : List Ct) (c : Ct) : cnt L c = sm L fun x => if x = c then 1 else 0 := by
  induction L with
  | nil => rfl
  | cons a L ih =>
    rw [sm_cons, ← ih]
    unfold cnt
    rw [List.count_cons]
    by_cases h : a = c
    · rw [if_pos h, if_pos (beq_iff_eq.mpr h)]; omega
    · rw [if_neg h, if_neg (fun z => h (beq_iff_eq.mp z))]; omega
theorem cnt_nn (L : List Ct) (c : Ct) : 0 ≤ cnt L c := Int.natCast_nonneg _
theorem cnt_le (L : List Ct) (c : Ct) : cnt L c ≤ L.length := Int.ofNat_le.mpr List.count_le_length
theorem cnt_pos {L : List Ct} {c : Ct} : 0 < cnt L c ↔ c ∈ L := by
  unfold cnt
  rw [← List.count_pos_iff]
  omega
theorem cnt_zero {L : List Ct} {c : Ct} (h : c ∉ L) : cnt L c = 0 := by
  have := cnt_nn L c
  have : ¬ 0 < cnt L c := fun z => h (cnt_pos.mp z)
  omega
theorem cnt_append (A B : List Ct) (c : Ct) : cnt (A ++ B) c = cnt A c + cnt B c := by rw [cnt_eq, cnt_eq, cnt_eq, sm_append]
theorem sm_le {h : Ct → Int} : ∀ (A B : List Ct), (∀ z, A.count z ≤ B.count z) → (∀ z ∈ B, 0 ≤ h z) → sm A h ≤ sm B h
  | [], B, _, hB => sm_nn hB
  | z :: A, B, hc, hB => by
    have hz : z ∈ B := List.count_pos_iff.mp (by have := hc z; rw [List.count_cons_self] at this; omega)
    have p := List.perm_cons_erase hz
    rw [sm_perm p, sm_cons, sm_cons]
    have ih := sm_le A (B.erase z) (fun w => by
      have h1 := hc w
      rw [p.count_eq, List.count_cons, List.count_cons] at h1
      omega) fun w hw => hB w (List.mem_of_mem_erase hw)
    omega
theorem count_map_inv {n : Nat} {τ : Ct → Ct} (tt : ∀ x, x.length = n → τ (τ x) = x) {z : Ct} (hz : z.length = n) : ∀ {A : List Ct}, (∀ x ∈ A, x.length = n) → (A.map τ).count z = A.count (τ z)
  | [], _ => rfl
  | a :: A, hA => by
    have ih := count_map_inv tt hz (A := A) fun x hx => hA x (List.mem_cons_of_mem _ hx)
    have ha := hA a List.mem_cons_self
    rw [List.map_cons, List.count_cons, List.count_cons, ih]
    have : (τ a == z) = (a == τ z) := by
      rw [Bool.eq_iff_iff, beq_iff_eq, beq_iff_eq]
      exact ⟨fun e => by rw [← e, tt a ha], fun e => by rw [e, tt z hz]⟩
    rw [this]
theorem sm_split (A : List Ct) (h : Ct → Int) : sm A h = sm (A.filter fun x => decide (0 < h x)) h + sm (A.filter fun x => decide (h x < 0)) h := by
  induction A with
  | nil => rfl
  | cons a A ih =>
    rw [List.filter_cons, List.filter_cons, sm_cons, ih]
    by_cases h1 : 0 < h a
    · rw [if_pos (decide_eq_true h1), if_neg (by rw [decide_eq_false (by omega)]; exact Bool.false_ne_true), sm_cons]; omega
    · rw [if_neg (by rw [decide_eq_false h1]; exact Bool.false_ne_true)]
      by_cases h2 : h a < 0
      · rw [if_pos (decide_eq_true h2), sm_cons]; omega
      · rw [if_neg (by rw [decide_eq_false h2]; exact Bool.false_ne_true)]; omega
theorem sm_pair {n : Nat} {A : List Ct} {h : Ct → Int} {τ : Ct → Ct} (hA : ∀ x ∈ A, x.length = n) (tl : ∀ x, x.length = n → (τ x).length = n) (tt : ∀ x, x.length = n → τ (τ x) = x)
    (ht : ∀ x, x.length = n → h (τ x) = - h x) (hc : ∀ x, x.length = n → 0 < h x → A.count (τ x) ≤ A.count x) : 0 ≤ sm A h := by
  have h0 : ∀ x ∈ A.filter (fun x => decide (h x < 0)), x.length = n ∧ h x < 0 := fun x hx => by
    obtain ⟨a, b⟩ := List.mem_filter.mp hx
    exact ⟨hA x a, of_decide_eq_true b⟩
  have e1 : sm (A.filter fun x => decide (h x < 0)) h = - sm ((A.filter fun x => decide (h x < 0)).map τ) h := by
    rw [sm_map, ← sm_neg]
    refine sm_congr fun x hx => ?_
    rw [ht x (h0 x hx).1, Int.neg_neg]
  rw [sm_split, e1]
  have := sm_le (h := h) ((A.filter fun x => decide (h x < 0)).map τ) (A.filter fun x => decide (0 < h x)) (fun z => ?_) fun z hz => Int.le_of_lt (of_decide_eq_true (List.mem_filter.mp hz).2)
  · omega
  · by_cases hz : z ∈ (A.filter fun x => decide (h x < 0)).map τ
    · obtain ⟨x, hx, rfl⟩ := List.mem_map.mp hz
      obtain ⟨l, n0⟩ := h0 x hx
      have hp : 0 < h (τ x) := by rw [ht x l]; omega
      rw [count_map_inv tt (tl x l) fun y hy => (h0 y hy).1, List.count_filter (p := fun x => decide (0 < h x)) (decide_eq_true hp)]
      exact Nat.le_trans (List.filter_sublist.count_le _) (hc (τ x) (tl x l) hp)
    · rw [List.count_eq_zero.mpr hz]; exact Nat.zero_le _
/-! ### contents by places -/
def mk (n : Nat) (f : Nat → Int) : Ct := (List.range n).map f
theorem mk_len (n : Nat) (f : Nat → Int) : (mk n f).length = n := by unfold mk; rw [List.length_map, List.length_range]
theorem mk_get {n : Nat} {f : Nat → Int} {k : Nat} (h : k < n) : (mk n f).getD k 0 = f k := by
  unfold mk
  rw [List.getD_eq_getElem?_getD, List.getElem?_map, List.getElem?_range h]
  rfl
theorem ext_g {n : Nat} {c d : Ct} (hc : c.length = n) (hd : d.length = n) (h : ∀ k, k < n → c.getD k 0 = d.getD k 0) : c = d := by
  apply List.ext_getElem (hc.trans hd.symm)
  intro k h1 h2
  have := h k (hc ▸ h1)
  rw [List.getD_eq_getElem?_getD, List.getD_eq_getElem?_getD, List.getElem?_eq_getElem h1, List.getElem?_eq_getElem h2] at this
  exact this
def vsub (c d : Ct) : Ct := List.zipWith (· - ·) c d
theorem vsub_len {c d : Ct} {n : Nat} (h1 : c.length = n) (h2 : d.length = n) : (vsub c d).length = n := by
  unfold vsub
  rw [List.length_zipWith, h1, h2, Nat.min_self]
theorem g_sub {c d : Ct} {n k : Nat} (h1 : c.length = n) (h2 : d.length = n) (hk : k < n) : (vsub c d).getD k 0 = c.getD k 0 - d.getD k 0 := by
  unfold vsub
  rw [List.getD_eq_getElem?_getD, List.getD_eq_getElem?_getD, List.getD_eq_getElem?_getD, List.getElem?_zipWith, List.getElem?_eq_getElem (h1 ▸ hk), List.getElem?_eq_getElem (h2 ▸ hk)]
  rfl
theorem g_add {c d : Ct} {n k : Nat} (h1 : c.length = n) (h2 : d.length = n) (hk : k < n) : (vadd c d).getD k 0 = c.getD k 0 + d.getD k 0 := by
  unfold vadd
  rw [List.getD_eq_getElem?_getD, List.getD_eq_getElem?_getD, List.getD_eq_getElem?_getD, List.getElem?_zipWith, List.getElem?_eq_getElem (h1 ▸ hk), List.getElem?_eq_getElem (h2 ▸ hk)]
  rfl
theorem add_iff {n : Nat} {c x y : Ct} (hc : c.length = n) (hx : x.length = n) (hy : y.length = n) : vadd x y = c ↔ y = vsub c x := by
  refine ⟨fun e => ext_g hy (vsub_len hc hx) fun k hk => ?_, fun e => ext_g (vadd_len hx hy) hc fun k hk => ?_⟩
  · rw [← e, g_sub (vadd_len hx hy) hx hk, g_add hx hy hk]; omega
  · rw [e, g_add hx (vsub_len hc hx) hk, g_sub hc hx hk]; omega
def mv (n i j : Nat) (d : Int) (c : Ct) : Ct := mk n fun k => if k = i then c.getD i 0 - d else if k = j then c.getD j 0 + d else c.getD k 0
def tw (n i j : Nat) (d : Int) (c : Ct) : Ct := mk n fun k => if k = i then c.getD j 0 + d else if k = j then c.getD i 0 - d else c.getD k 0
theorem mv_len (n i j : Nat) (d : Int) (c : Ct) : (mv n i j d c).length = n := mk_len _ _
theorem tw_len (n i j : Nat) (d : Int) (c : Ct) : (tw n i j d c).length = n := mk_len _ _
/-- the more even, the more: symmetric, and unimodal along every exchange -/
def SU (n : Nat) (f : Ct → Int) : Prop := ∀ i j : Nat, i < n → j < n → i ≠ j → ∀ x : Ct, x.length = n → ∀ d : Int, 0 ≤ d → d ≤ x.getD i 0 - x.getD j 0 → f x ≤ f (mv n i j d x)
section
variable {n i j : Nat} {f : Ct → Int} {x c : Ct}
theorem g_mv {k : Nat} {d : Int} (hk : k < n) : (mv n i j d x).getD k 0 = if k = i then x.getD i 0 - d else if k = j then x.getD j 0 + d else x.getD k 0 := mk_get hk
theorem g_tw {k : Nat} {d : Int} (hk : k < n) : (tw n i j d x).getD k 0 = if k = i then x.getD j 0 + d else if k = j then x.getD i 0 - d else x.getD k 0 := mk_get hk
theorem mv_i {d : Int} (hi : i < n) : (mv n i j d x).getD i 0 = x.getD i 0 - d := by rw [g_mv hi, if_pos rfl]
theorem mv_j {d : Int} (hj : j < n) (ne : i ≠ j) : (mv n i j d x).getD j 0 = x.getD j 0 + d := by rw [g_mv hj, if_neg (Ne.symm ne), if_pos rfl]
theorem tw_i {d : Int} (hi : i < n) : (tw n i j d x).getD i 0 = x.getD j 0 + d := by rw [g_tw hi, if_pos rfl]
theorem tw_j {d : Int} (hj : j < n) (ne : i ≠ j) : (tw n i j d x).getD j 0 = x.getD i 0 - d := by rw [g_tw hj, if_neg (Ne.symm ne), if_pos rfl]
theorem mv_tw {d D : Int} (hi : i < n) (hj : j < n) (ne : i ≠ j) (hx : x.length = n) (e : d = D + x.getD j 0 - x.getD i 0) : mv n i j d (tw n i j D x) = x := by
  refine ext_g (mv_len ..) hx fun k hk => ?_
  rw [g_mv hk, tw_i hi, tw_j hj ne, g_tw hk]
  by_cases h1 : k = i
  · rw [if_pos h1, h1]; omega
  · rw [if_neg h1, if_neg h1]
    by_cases h2 : k = j
    · rw [if_pos h2, h2]; omega
    · rw [if_neg h2, if_neg h2]
theorem tw_tw {D : Int} (hi : i < n) (hj : j < n) (ne : i ≠ j) (hx : x.length = n) : tw n i j D (tw n i j D x) = x := by
  refine ext_g (tw_len ..) hx fun k hk => ?_
  rw [g_tw hk, tw_i hi, tw_j hj ne, g_tw hk]
  by_cases h1 : k = i
  · rw [if_pos h1, h1]; omega
  · rw [if_neg h1, if_neg h1]
    by_cases h2 : k = j
    · rw [if_pos h2, h2]; omega
    · rw [if_neg h2, if_neg h2]
theorem mv_is_sw (hi : i < n) (hj : j < n) (ne : i ≠ j) (hx : x.length = n) : mv n i j (x.getD i 0 - x.getD j 0) x = tw n i j 0 x := by
  refine ext_g (mv_len ..) (tw_len ..) fun k hk => ?_
  rw [g_mv hk, g_tw hk]
  by_cases h1 : k = i
  · rw [if_pos h1, if_pos h1]; omega
  · rw [if_neg h1, if_neg h1]
    by_cases h2 : k = j
    · rw [if_pos h2, if_pos h2]; omega
    · rw [if_neg h2, if_neg h2]
theorem tw_comm (hi : i < n) (hj : j < n) (ne : i ≠ j) : tw n i j 0 x = tw n j i 0 x := by
  refine ext_g (tw_len ..) (tw_len ..) fun k hk => ?_
  rw [g_tw hk, g_tw hk]
  by_cases h1 : k = i
  · rw [if_pos h1, if_neg (fun z => ne (h1.symm.trans z)), if_pos h1]; omega
  · rw [if_neg h1]
    by_cases h2 : k = j
    · rw [if_pos h2, if_pos h2]; omega
    · rw [if_neg h2, if_neg h2, if_neg h1]
theorem SU.sw (s : SU n f) (hi : i < n) (hj : j < n) (ne : i ≠ j) (hx : x.length = n) : f (tw n i j 0 x) = f x := by
  have le : ∀ i j : Nat, i < n → j < n → i ≠ j → ∀ x : Ct, x.length = n → x.getD j 0 ≤ x.getD i 0 → f (tw n i j 0 x) = f x := fun i j hi hj ne x hx h => by
    have h1 := s i j hi hj ne x hx (x.getD i 0 - x.getD j 0) (by omega) (Int.le_refl _)
    rw [mv_is_sw hi hj ne hx] at h1
    have h2 := s j i hj hi ne.symm (tw n i j 0 x) (tw_len ..) (x.getD i 0 - x.getD j 0) (by omega) (by rw [tw_i hi, tw_j hj ne]; omega)
    rw [tw_comm hi hj ne, mv_tw hj hi ne.symm hx (by omega), tw_comm hj hi ne.symm] at h2
    omega
  rcases Int.le_total (x.getD j 0) (x.getD i 0) with h | h
  · exact le i j hi hj ne x hx h
  · rw [tw_comm hi hj ne]; exact le j i hj hi ne.symm x hx h
/-! ### sums of two -/
def conv (A B : List Ct) : List Ct := A.flatMap fun x => B.map (vadd x)
theorem conv_len {A B : List Ct} (hA : ∀ x ∈ A, x.length = n) (hB : ∀ x ∈ B, x.length = n) : ∀ x ∈ conv A B, x.length = n := fun z hz => by
  obtain ⟨x, hx, hz⟩ := List.mem_flatMap.mp hz
  obtain ⟨y, hy, rfl⟩ := List.mem_map.mp hz
  exact vadd_len (hA x hx) (hB y hy)
theorem cnt_conv {A B : List Ct} (hA : ∀ x ∈ A, x.length = n) (hB : ∀ x ∈ B, x.length = n) (hc : c.length = n) : cnt (conv A B) c = sm A fun x => cnt B (vsub c x) := by
  rw [cnt_eq]
  unfold conv
  rw [sm_flatMap]
  refine sm_congr fun x hx => ?_
  rw [sm_map, cnt_eq]
  refine sm_congr fun y hy => ?_
  by_cases h : vadd x y = c
  · rw [if_pos h, if_pos ((add_iff hc (hA x hx) (hB y hy)).mp h)]
  · rw [if_neg h, if_neg fun z => h ((add_iff hc (hA x hx) (hB y hy)).mpr z)]
theorem su_conv {A B : List Ct} (hA : ∀ x ∈ A, x.length = n) (hB : ∀ x ∈ B, x.length = n) (sA : SU n (cnt A)) (sB : SU n (cnt B)) : SU n (cnt (conv A B)) := by
  intro i j hi hj ne c hc e he0 he1
  have e0 : cnt (conv A B) (mv n i j e c) - cnt (conv A B) c = sm A fun x => cnt B (mv n i j e (vsub c x)) - cnt B (vsub c x) := by
    rw [cnt_conv hA hB (mv_len ..), cnt_conv hA hB hc, ← sm_sub]
    refine sm_congr fun x hx => ?_
    congr 2
    refine ext_g (vsub_len (mv_len ..) (hA x hx)) (mv_len ..) fun k hk => ?_
    rw [g_sub (mv_len ..) (hA x hx) hk, g_mv hk, g_mv hk, g_sub hc (hA x hx) hi, g_sub hc (hA x hx) hj, g_sub hc (hA x hx) hk]
    by_cases h1 : k = i
    · rw [if_pos h1, if_pos h1, h1]; omega
    · rw [if_neg h1, if_neg h1]
      by_cases h2 : k = j
      · rw [if_pos h2, if_pos h2, h2]; omega
      · rw [if_neg h2, if_neg h2]
  suffices h : 0 ≤ sm A fun x => cnt B (mv n i j e (vsub c x)) - cnt B (vsub c x) by omega
  generalize hD : c.getD i 0 - c.getD j 0 - e = D
  have p1 : ∀ x, x.length = n → mv n i j e (vsub c (tw n i j D x)) = tw n i j 0 (vsub c x) := fun x hx => by
    refine ext_g (mv_len ..) (tw_len ..) fun k hk => ?_
    rw [g_mv hk, g_tw hk, g_sub hc (tw_len ..) hi, g_sub hc (tw_len ..) hj, g_sub hc (tw_len ..) hk, g_sub hc hx hi, g_sub hc hx hj, g_sub hc hx hk, tw_i hi, tw_j hj ne, g_tw hk]
    by_cases h1 : k = i
    · rw [if_pos h1, if_pos h1]; omega
    · rw [if_neg h1, if_neg h1]
      by_cases h2 : k = j
      · rw [if_pos h2, if_pos h2]; omega
      · rw [if_neg h2, if_neg h2, if_neg h1, if_neg h2]
  have p2 : ∀ x, x.length = n → vsub c (tw n i j D x) = tw n i j 0 (mv n i j e (vsub c x)) := fun x hx => by
    refine ext_g (vsub_len hc (tw_len ..)) (tw_len ..) fun k hk => ?_
    rw [g_tw hk, mv_i hi, mv_j hj ne, g_mv hk, g_sub hc (tw_len ..) hk, g_sub hc hx hi, g_sub hc hx hj, g_sub hc hx hk, g_tw hk]
    by_cases h1 : k = i
    · rw [if_pos h1, if_pos h1, h1]; omega
    · rw [if_neg h1, if_neg h1]
      by_cases h2 : k = j
      · rw [if_pos h2, if_pos h2, h2]; omega
      · rw [if_neg h2, if_neg h2, if_neg h1, if_neg h2]
  refine sm_pair (n := n) (τ := tw n i j D) hA (fun x _ => tw_len ..) (fun x hx => tw_tw hi hj ne hx) (fun x hx => ?_) fun x hx h => ?_
  · rw [p1 x hx, p2 x hx, sB.sw hi hj ne (vsub_len hc hx), sB.sw hi hj ne (mv_len ..)]
    omega
  · have g1 := g_sub hc hx hi
    have g2 := g_sub hc hx hj
    by_cases hy : e ≤ (vsub c x).getD i 0 - (vsub c x).getD j 0
    · have := sA i j hi hj ne (tw n i j D x) (tw_len ..) (D + x.getD j 0 - x.getD i 0) (by omega) (by rw [tw_i hi, tw_j hj ne]; omega)
      rw [mv_tw hi hj ne hx rfl] at this
      exact Int.ofNat_le.mp this
    · exfalso
      have := sB i j hi hj ne (vsub c (tw n i j D x)) (vsub_len hc (tw_len ..)) e he0 (by rw [g_sub hc (tw_len ..) hi, g_sub hc (tw_len ..) hj, tw_i hi, tw_j hj ne]; omega)
      rw [p1 x hx, p2 x hx, sB.sw hi hj ne (vsub_len hc hx), sB.sw hi hj ne (mv_len ..)] at this
      omega
theorem su_append {A B : List Ct} (sA : SU n (cnt A)) (sB : SU n (cnt B)) : SU n (cnt (A ++ B)) := fun i j hi hj ne x hx d h0 h1 => by
  have := sA i j hi hj ne x hx d h0 h1
  have := sB i j hi hj ne x hx d h0 h1
  rw [cnt_append, cnt_append]
  omega
end
end ME
end
section
set_option Elab.async false
set_option linter.all false
set_option maxRecDepth 100000
set_option maxHeartbeats 4000000
namespace ME
open PySem L2 MW
/-! ### the most even content has the most; the order does not count -/
def dist : Ct → Ct → Nat
  | x :: c, y :: d => (x - y).natAbs + dist c d
  | _, _ => 0
theorem dist_get : ∀ (c d : Ct), c.length = d.length → (∀ k, k < c.length → c.getD k 0 ≤ d.getD k 0) → c.sum = d.sum → c = d := by
  have le : ∀ (c d : Ct), c.length = d.length → (∀ k, k < c.length → c.getD k 0 ≤ d.getD k 0) → c.sum ≤ d.sum := fun c => by
    induction c with
    | nil => intro d h _; cases d with
      | nil => exact Int.le_refl _
      | cons => cases h
    | cons x c ih =>
      intro d h hk
      cases d with
      | nil => cases h
      | cons y d =>
        have h0 := hk 0 (by simp)
        have h1 := ih d (by simpa using h) fun k hl => by
          have := hk (k + 1) (by simpa using hl)
          simpa using this
        simp only [List.getD_cons_zero] at h0
        rw [List.sum_cons, List.sum_cons]
        omega
  intro c
  induction c with
  | nil => intro d h _ _; cases d with
    | nil => rfl
    | cons => cases h
  | cons x c ih =>
    intro d h hk hs
    cases d with
    | nil => cases h
    | cons y d =>
      have h0 := hk 0 (by simp)
      have hk' : ∀ k, k < c.length → c.getD k 0 ≤ d.getD k 0 := fun k hl => by
        have := hk (k + 1) (by simpa using hl)
        simpa using this
      have hl : c.length = d.length := by simpa using h
      have h1 := le c d hl hk'
      simp only [List.getD_cons_zero] at h0
      rw [List.sum_cons, List.sum_cons] at hs
      have e : x = y := by omega
      rw [e, ih d hl hk' (by omega)]
theorem ex_over {n : Nat} {c d : Ct} (hc : c.length = n) (hd : d.length = n) (hs : c.sum = d.sum) (ne : c ≠ d) : ∃ i, i < n ∧ d.getD i 0 < c.getD i 0 := by
  apply Classical.byContradiction
  intro h
  refine ne (dist_get c d (hc.trans hd.symm) (fun k hk => ?_) hs)
  apply Int.not_lt.mp
  intro hl
  exact h ⟨k, hc ▸ hk, hl⟩
def dst (n : Nat) (c d : Ct) : Nat := ((List.range n).map fun k => (c.getD k 0 - d.getD k 0).natAbs).sum
theorem sum_lt {g h : Nat → Nat} : ∀ {L : List Nat}, (∀ k ∈ L, g k ≤ h k) → ∀ i ∈ L, g i < h i → (L.map g).sum < (L.map h).sum
  | [], _, i, hi, _ => by cases hi
  | a :: L, hk, i, hi, hl => by
    rw [List.map_cons, List.map_cons, List.sum_cons, List.sum_cons]
    have h0 := hk a List.mem_cons_self
    have le : (L.map g).sum ≤ (L.map h).sum := by
      have hk := fun k hk2 => hk k (List.mem_cons_of_mem _ hk2)
      clear hi hl h0
      induction L with
      | nil => exact Nat.le_refl _
      | cons b L ih =>
        rw [List.map_cons, List.map_cons, List.sum_cons, List.sum_cons]
        have := ih (fun k hk2 => by rcases List.mem_cons.mp hk2 with e | e; (rw [e]; exact (by assumption : ∀ k ∈ a :: b :: L, g k ≤ h k) a List.mem_cons_self); exact hk k (List.mem_cons_of_mem _ e)) fun k hk2 => hk k (List.mem_cons_of_mem _ hk2)
        have := hk b List.mem_cons_self
        omega
    rcases List.mem_cons.mp hi with e | e
    · rw [e] at hl; omega
    · have := sum_lt (fun k hk2 => hk k (List.mem_cons_of_mem _ hk2)) i e hl
      omega
theorem mv_sum {n i j : Nat} {d : Int} {x : Ct} (hi : i < n) (hj : j < n) (ne : i ≠ j) (hx : x.length = n) : (mv n i j d x).sum = x.sum := by
  have one : ∀ (L : List Nat) (f : Nat → Int) (i : Nat) (v : Int), L.Nodup → i ∈ L → (L.map fun k => if k = i then f k + v else f k).sum = (L.map f).sum + v := fun L f i v => by
    induction L with
    | nil => intro _ h; cases h
    | cons a L ih =>
      intro nd h
      obtain ⟨n1, n2⟩ := List.nodup_cons.mp nd
      rw [List.map_cons, List.map_cons, List.sum_cons, List.sum_cons]
      rcases List.mem_cons.mp h with e | e
      · have : (L.map fun k => if k = i then f k + v else f k) = L.map f := List.map_congr_left fun k hk => if_neg fun (z : k = i) => n1 (by rw [← e, ← z]; exact hk)
        rw [this, if_pos e.symm]; omega
      · rw [ih n2 e, if_neg fun (z : a = i) => n1 (by rw [z]; exact e)]; omega
  have hx2 : x = mk n fun k => x.getD k 0 := ext_g hx (mk_len ..) fun k hk => (mk_get (f := fun k => x.getD k 0) hk).symm
  have nd : (List.range n).Nodup := List.nodup_range
  have e1 : (mv n i j d x).sum = ((List.range n).map fun k => if k = i then (fun k => if k = j then x.getD k 0 + d else x.getD k 0) k + (-d) else (fun k => if k = j then x.getD k 0 + d else x.getD k 0) k).sum := by
    unfold mv mk
    congr 1
    apply List.map_congr_left
    intro k _
    by_cases h1 : k = i
    · rw [if_pos h1, if_pos h1, h1]
      show _ = (if i = j then _ else _) + _
      rw [if_neg ne]; omega
    · rw [if_neg h1, if_neg h1]
      by_cases h2 : k = j
      · rw [if_pos h2, h2]
        show _ = (if j = j then _ else _)
        rw [if_pos rfl]
      · rw [if_neg h2]
        show _ = (if k = j then _ else _)
        rw [if_neg h2]
  rw [e1, one _ _ i _ nd (List.mem_range.mpr hi), one _ _ j _ nd (List.mem_range.mpr hj)]
  conv => rhs; rw [hx2]
  unfold mk
  omega
theorem SU.max {n : Nat} {f : Ct → Int} (s : SU n f) {T : Ct} (hT : T.length = n) (ev : ∀ i j, i < n → j < n → T.getD i 0 ≤ T.getD j 0 + 1) : ∀ (m : Nat) (c : Ct), c.length = n → c.sum = T.sum → dst n c T ≤ m → f c ≤ f T
  | m, c, hc, hs, hm => by
    by_cases e : c = T
    · rw [e]; exact Int.le_refl _
    · obtain ⟨i, hi, h1⟩ := ex_over hc hT hs e
      obtain ⟨j, hj, h2⟩ := ex_over hT hc hs.symm (Ne.symm e)
      have ne : i ≠ j := fun z => by rw [z] at h1; omega
      have h3 := ev j i hj hi
      have g := s i j hi hj ne c hc 1 (by omega) (by omega)
      have lt : dst n (mv n i j 1 c) T < dst n c T := by
        refine sum_lt (fun k hk => ?_) i (List.mem_range.mpr hi) ?_
        · have hk := List.mem_range.mp hk
          rw [g_mv hk]
          by_cases h4 : k = i
          · rw [if_pos h4, h4]; omega
          · rw [if_neg h4]
            by_cases h5 : k = j
            · rw [if_pos h5, h5]; omega
            · rw [if_neg h5]; exact Nat.le_refl _
        · rw [mv_i hi]; omega
      match m with
      | 0 => omega
      | m + 1 =>
        have h9 : dst n (mv n i j 1 c) T ≤ m := Nat.le_of_lt_succ (Nat.lt_of_lt_of_le lt hm)
        have := SU.max s hT ev m (mv n i j 1 c) (mv_len ..) ((mv_sum hi hj ne hc).trans hs) h9
        omega
theorem g_mid (pre l : Ct) (x y : Int) (k : Nat) : (pre ++ x :: y :: l).getD k 0 = if k = pre.length then x else if k = pre.length + 1 then y else if k < pre.length then pre.getD k 0 else l.getD (k - pre.length - 2) 0 := by
  rw [List.getD_eq_getElem?_getD]
  by_cases h1 : k = pre.length
  · rw [if_pos h1, List.getElem?_append_right (by omega), h1, Nat.sub_self]; rfl
  · rw [if_neg h1]
    by_cases h2 : k = pre.length + 1
    · rw [if_pos h2, List.getElem?_append_right (by omega), h2]
      have : pre.length + 1 - pre.length = 1 := by omega
      rw [this]; rfl
    · rw [if_neg h2]
      by_cases h3 : k < pre.length
      · rw [if_pos h3, List.getElem?_append_left h3, List.getD_eq_getElem?_getD]
      · rw [if_neg h3, List.getElem?_append_right (by omega)]
        have : k - pre.length = (k - pre.length - 2) + 1 + 1 := by omega
        rw [this, List.getElem?_cons_succ, List.getElem?_cons_succ, List.getD_eq_getElem?_getD]
        congr 2
theorem SU.perm {n : Nat} {f : Ct → Int} (s : SU n f) {c d : Ct} (p : c.Perm d) : ∀ pre : Ct, (pre ++ c).length = n → f (pre ++ c) = f (pre ++ d) := by
  induction p with
  | nil => intro pre _; rfl
  | cons x _ ih =>
    intro pre h
    have := ih (pre ++ [x]) (by simpa using h)
    simpa using this
  | swap x y l =>
    intro pre h
    have hi : pre.length < n := by rw [← h, List.length_append]; simp
    have hj : pre.length + 1 < n := by rw [← h, List.length_append]; simp
    have hl : (pre ++ x :: y :: l).length = n := by rw [← h]; simp
    have e : tw n pre.length (pre.length + 1) 0 (pre ++ x :: y :: l) = pre ++ y :: x :: l := by
      refine ext_g (tw_len ..) h fun k hk => ?_
      rw [g_tw hk, g_mid, g_mid, g_mid, g_mid]
      by_cases h1 : k = pre.length
      · rw [if_pos h1, if_pos h1, if_neg (by omega), if_pos rfl]; omega
      · rw [if_neg h1, if_neg h1]
        by_cases h2 : k = pre.length + 1
        · rw [if_pos h2, if_pos h2, if_pos rfl]; omega
        · rw [if_neg h2, if_neg h2, if_neg h1, if_neg h2]
    rw [← e]
    exact s.sw hi hj (by omega) hl
  | trans p1 _ ih1 ih2 =>
    intro pre h
    rw [ih1 pre h, ih2 pre (by rw [← h, List.length_append, List.length_append, p1.length_eq])]
/-! ### tables that count lists -/
structure TabRep (t : Tab) (L : List Ct) : Prop where
  nd : (t.map (·.1)).Nodup
  get : ∀ c, (tget t c).getD 0 = cnt L c
section
variable {t f s : Tab} {L A B : List Ct} {c : Ct}
theorem TabRep.key (h : TabRep t L) (hc : c ∈ L) : c ∈ t.map (·.1) := by
  have h1 := h.get c
  have h2 := cnt_pos.mpr hc
  cases e : tget t c with
  | none => rw [e] at h1; simp at h1; omega
  | some x =>
    obtain ⟨p, hp, e1, _⟩ := tget_in e
    exact List.mem_map.mpr ⟨p, hp, e1⟩
theorem TabRep.val (h : TabRep t L) {p : Ct × Int} (hp : p ∈ t) : p.2 = cnt L p.1 := by
  rw [← h.get, tget_nodup h.nd p hp]
  rfl
theorem sm_tab (h : TabRep t L) (g : Ct → Int) : sm t (fun p => p.2 * g p.1) = sm L g := by
  have all : ∀ (ks : List Ct), ks.Nodup → ∀ L : List Ct, (∀ x ∈ L, x ∈ ks) → sm ks (fun k => cnt L k * g k) = sm L g := fun ks nd L => by
    induction L with
    | nil =>
      intro _
      rw [sm_congr (g := fun _ => 0) fun k _ => by rw [show cnt [] k = 0 from rfl, Int.zero_mul], sm_zero]
      rfl
    | cons a L ih =>
      intro hk
      rw [sm_cons, ← ih fun x hx => hk x (List.mem_cons_of_mem _ hx)]
      have one : ∀ ks : List Ct, ks.Nodup → a ∈ ks → sm ks (fun k => if a = k then g k else 0) = g a := fun ks => by
        induction ks with
        | nil => intro _ h; cases h
        | cons b ks ih2 =>
          intro nd h
          obtain ⟨n1, n2⟩ := List.nodup_cons.mp nd
          rw [sm_cons]
          rcases List.mem_cons.mp h with e | e
          · rw [if_pos e, sm_congr (g := fun _ => 0) fun k hk => if_neg fun z => n1 (by rw [← e, z]; exact hk), sm_zero, e]; omega
          · rw [if_neg fun (z : a = b) => n1 (by rw [← z]; exact e), ih2 n2 e]; omega
      rw [← one ks nd (hk a List.mem_cons_self), ← sm_add]
      refine sm_congr fun k _ => ?_
      unfold cnt
      rw [List.count_cons]
      by_cases e : a = k
      · rw [if_pos e, if_pos (beq_iff_eq.mpr e), Int.natCast_add, Int.add_mul, Int.add_comm]
        congr 1
        omega
      · rw [if_neg e, if_neg (fun z => e (beq_iff_eq.mp z))]
        simp
  have e : sm t (fun p => p.2 * g p.1) = sm (t.map (·.1)) (fun k => cnt L k * g k) := by
    rw [sm_map]
    exact sm_congr fun p hp => by rw [h.val hp]
  rw [e]
  exact all _ h.nd L fun x hx => h.key hx
theorem tget_put (t : Tab) (k : Ct) (x : Int) (c : Ct) : tget (tput t k x) c = if c = k then some x else tget t c := by
  unfold tput
  split
  · rename_i ha
    induction t with
    | nil => exact absurd ha Bool.false_ne_true
    | cons p t ih =>
      rw [List.map_cons]
      unfold tget
      rw [List.find?_cons, List.find?_cons]
      by_cases h1 : p.1 = k
      · rw [if_pos h1]
        by_cases h2 : c = k
        · rw [if_pos h2]
          rw [decide_eq_true (h1.trans h2.symm)]
          rfl
        · have h4 : decide (p.1 = c) = false := decide_eq_false fun z => h2 (z.symm.trans h1)
          rw [if_neg h2, h4]
          dsimp only
          by_cases ha2 : (t.any fun p => decide (p.1 = k)) = true
          · have := ih ha2
            rw [if_neg h2] at this
            exact this
          · have : (t.map fun p => if p.1 = k then (p.1, x) else p) = t := by
              conv => rhs; rw [← List.map_id t]
              refine List.map_congr_left fun q hq => if_neg fun z => ha2 (List.any_eq_true.mpr ⟨q, hq, decide_eq_true z⟩)
            rw [this]
      · rw [if_neg h1]
        have ha2 : (t.any fun p => decide (p.1 = k)) = true := by
          rw [List.any_cons, decide_eq_false h1, Bool.false_or] at ha
          exact ha
        by_cases h3 : p.1 = c
        · have h2 : ¬ c = k := fun z => h1 (h3.trans z)
          rw [if_neg h2, decide_eq_true h3]
        · rw [decide_eq_false h3]
          exact ih ha2
  · rename_i ha
    unfold tget
    rw [List.find?_append]
    by_cases h2 : c = k
    · rw [if_pos h2]
      have : (t.find? fun p => decide (p.1 = c)) = none := by
        rw [List.find?_eq_none]
        intro p hp z
        exact ha (List.any_eq_true.mpr ⟨p, hp, by rw [← h2]; exact z⟩)
      rw [this, List.find?_cons, decide_eq_true h2.symm]
      rfl
    · rw [if_neg h2, List.find?_cons, decide_eq_false (Ne.symm h2)]
      cases (t.find? fun p => decide (p.1 = c)) <;> rfl
theorem put_get (t : Tab) (k : Ct) (x : Int) (c : Ct) : (tget (tput t k x) c).getD 0 = if c = k then x else (tget t c).getD 0 := by
  rw [tget_put]
  split <;> rfl
theorem tput_nd {k : Ct} {x : Int} (h : (t.map (·.1)).Nodup) : ((tput t k x).map (·.1)).Nodup := by
  rw [tput_keys]
  split
  · exact h
  · rename_i hn
    refine List.nodup_append.mpr ⟨h, by simp, fun a ha b hb e => ?_⟩
    rw [List.mem_singleton.mp hb] at e
    subst e
    obtain ⟨p, hp, e⟩ := List.mem_map.mp ha
    exact hn (List.any_eq_true.mpr ⟨p, hp, decide_eq_true e⟩)
theorem fold_nd {β : Type} {F : Tab → β → Tab} (hf : ∀ a x, (a.map (·.1)).Nodup → ((F a x).map (·.1)).Nodup) : ∀ (l : List β) (a : Tab), (a.map (·.1)).Nodup → ((l.foldl F a).map (·.1)).Nodup
  | [], _, h => h
  | x :: l, a, h => fold_nd hf l _ (hf a x h)
/-- one after the other, something is added at a place -/
theorem fold_add {β : Type} {F : Tab → β → Tab} {k : β → Ct} {v : β → Int} (hF : ∀ a x c, (tget (F a x) c).getD 0 = (tget a c).getD 0 + if c = k x then v x else 0) : ∀ (l : List β) (a : Tab) (c : Ct), (tget (l.foldl F a) c).getD 0 = (tget a c).getD 0 + sm l fun x => if c = k x then v x else 0
  | [], a, c => by rw [sm_nil, Int.add_zero]; rfl
  | x :: l, a, c => by
    rw [List.foldl_cons, fold_add hF l, hF, sm_cons, Int.add_assoc]
theorem add_put (a : Tab) (k : Ct) (v : Int) (c : Ct) : (tget (tput a k ((tget a k).getD 0 + v)) c).getD 0 = (tget a c).getD 0 + if c = k then v else 0 := by
  rw [put_get]
  by_cases h : c = k
  · rw [if_pos h, if_pos h, h]
  · rw [if_neg h, if_neg h, Int.add_zero]
theorem rep_zero (n : Nat) : TabRep (zeroT n) [zeroV n] := ⟨by simp [zeroT], fun c => by
  rw [cnt_eq, sm_cons, sm_nil, Int.add_zero]
  unfold zeroT tget
  rw [List.find?_cons]
  by_cases h : zeroV n = c
  · rw [decide_eq_true h, if_pos h]; rfl
  · rw [decide_eq_false h, if_neg h]; rfl⟩
theorem rep_nil : TabRep [] [] := ⟨List.nodup_nil, fun c => rfl⟩
theorem rep_gather (cs : List Ct) : TabRep (gatherT cs) cs := ⟨fold_nd (fun a x h => tput_nd h) cs [] List.nodup_nil, fun c => by
  have := fold_add (F := gatherF) (k := id) (v := fun _ => 1) (fun a x c => add_put a x 1 c) cs [] c
  unfold gatherT
  rw [this, cnt_eq]
  show (0 : Int) + _ = _
  rw [Int.zero_add]
  exact sm_congr fun x _ => by
    show (if c = x then (1 : Int) else 0) = _
    by_cases h : c = x
    · rw [if_pos h, if_pos h.symm]
    · rw [if_neg h, if_neg (Ne.symm h)]⟩
theorem rep_add (hf : TabRep f A) (hs : TabRep s B) : TabRep (addT f s) (A ++ B) := by
  rw [addT_eq]
  refine ⟨fold_nd (fun a x h => tput_nd h) _ _ (fold_nd (fun a x h => tput_nd h) _ _ List.nodup_nil), fun c => ?_⟩
  rw [fold_add (F := addF2 s) (k := fun p => p.1) (v := fun p => (tget s p.1).getD 0) (fun a x c => add_put a _ _ c), cnt_append]
  have h2 : sm s (fun p => if c = p.1 then (tget s p.1).getD 0 else 0) = cnt B c := by
    rw [cnt_eq, ← sm_tab hs fun x => if x = c then 1 else 0]
    refine sm_congr fun p hp => ?_
    by_cases h : c = p.1
    · rw [if_pos h, if_pos h.symm, hs.get, hs.val hp]; omega
    · rw [if_neg h, if_neg (Ne.symm h)]; omega
  rw [h2]
  congr 1
  have h1 : ∀ (l : Tab) (a : Tab), (∀ c, (tget a c).getD 0 = 0 ∨ (tget a c).getD 0 = (tget f c).getD 0) → (∀ p ∈ l, p ∈ f) → (∀ c, (tget (l.foldl (addF1 f) a) c).getD 0 = if c ∈ l.map (·.1) then (tget f c).getD 0 else (tget a c).getD 0) := fun l => by
    induction l with
    | nil => intro a _ _ c; rw [if_neg (fun z => by cases z)]; rfl
    | cons p l ih =>
      intro a ha hl c
      rw [List.foldl_cons, ih (addF1 f a p) (fun c => by
        unfold addF1
        rw [put_get]
        by_cases h : c = p.1
        · rw [if_pos h, h]; exact .inr rfl
        · rw [if_neg h]; exact ha c) fun q hq => hl q (List.mem_cons_of_mem _ hq)]
      rw [List.map_cons]
      by_cases h : c ∈ l.map (·.1)
      · rw [if_pos h, if_pos (List.mem_cons_of_mem _ h)]
      · rw [if_neg h]
        unfold addF1
        rw [put_get]
        by_cases h2 : c = p.1
        · rw [if_pos h2, if_pos (by rw [h2]; exact List.mem_cons_self), h2]
        · rw [if_neg h2, if_neg (fun z => (List.mem_cons.mp z).elim h2 h)]
  rw [h1 f [] (fun c => .inl rfl) (fun _ h => h) c]
  by_cases h : c ∈ f.map (·.1)
  · rw [if_pos h, hf.get]
  · rw [if_neg h, cnt_zero fun z => h (hf.key z)]
    rfl
theorem rep_mul (hf : TabRep f A) (hs : TabRep s B) : TabRep (mulT f s) (conv A B) := by
  rw [mulT_eq]
  refine ⟨fold_nd (fun a x h => fold_nd (fun a x h => tput_nd h) _ _ h) _ _ List.nodup_nil, fun c => ?_⟩
  have hin : ∀ (v : Int) (k : Ct) (acc : Tab) (c : Ct), (tget (mulIn v s k acc s) c).getD 0 = (tget acc c).getD 0 + v * sm B fun y => if vadd k y = c then 1 else 0 := fun v k acc c => by
    unfold mulIn
    rw [fold_add (β := Ct × Int) (F := fun acc q => tput acc (vadd k q.1) ((tget acc (vadd k q.1)).getD 0 + v * (tget s q.1).getD 0)) (k := fun q => vadd k q.1) (v := fun q => v * (tget s q.1).getD 0) (fun a x c => add_put a _ _ c), ← sm_tab hs, ← sm_mul]
    congr 1
    refine sm_congr fun q hq => ?_
    by_cases h : c = vadd k q.1
    · rw [if_pos h, if_pos h.symm, hs.get, hs.val hq, Int.mul_one]
    · rw [if_neg h, if_neg (Ne.symm h), Int.mul_zero, Int.mul_zero]
  have hout : ∀ (l : Tab) (acc : Tab), (∀ p ∈ l, p ∈ f) → (tget (l.foldl (mulF f s) acc) c).getD 0 = (tget acc c).getD 0 + sm l fun p => p.2 * sm B fun y => if vadd p.1 y = c then 1 else 0 := fun l => by
    induction l with
    | nil => intro acc _; rw [sm_nil, Int.add_zero]; rfl
    | cons p l ih =>
      intro acc hl
      rw [List.foldl_cons, ih _ fun q hq => hl q (List.mem_cons_of_mem _ hq), sm_cons]
      unfold mulF
      rw [hin, hf.get, ← hf.val (hl p List.mem_cons_self), Int.add_assoc]
  rw [hout f [] (fun _ h => h), sm_tab hf (fun z => sm B fun y => if vadd z y = c then 1 else 0), cnt_eq]
  unfold conv
  rw [sm_flatMap]
  show (0 : Int) + _ = _
  rw [Int.zero_add]
  exact sm_congr fun x _ => (sm_map B (vadd x) fun z => if z = c then 1 else 0).symm
/-- powers -/
def powC (n : Nat) (A : List Ct) (k : Nat) : List Ct := iter (fun _ L => conv L A) k [zeroV n]
theorem rep_pow {n : Nat} (h : TabRep t A) : ∀ k, TabRep (powT n t k) (powC n A k)
  | 0 => rep_zero n
  | k + 1 => rep_mul (rep_pow h k) h
theorem pow_len {n : Nat} (h : ∀ x ∈ A, x.length = n) : ∀ k, ∀ x ∈ powC n A k, x.length = n
  | 0, x, hx => by rw [List.mem_singleton.mp hx]; exact List.length_replicate
  | k + 1, x, hx => conv_len (pow_len h k) h x hx
theorem su_zero (n : Nat) : SU n (cnt [zeroV n]) := fun i j hi hj ne x hx d h0 h1 => by
  by_cases h : x = zeroV n
  · have z : ∀ k, k < n → x.getD k 0 = 0 := fun k hk => by
      rw [h, List.getD_eq_getElem?_getD]
      unfold zeroV
      rw [List.getElem?_replicate, if_pos hk]
      rfl
    have : mv n i j d x = x := ext_g (mv_len ..) hx fun k hk => by
      rw [g_mv hk]
      have := z i hi
      have := z j hj
      by_cases h2 : k = i
      · rw [if_pos h2, h2]; omega
      · rw [if_neg h2]
        by_cases h3 : k = j
        · rw [if_pos h3, h3]; omega
        · rw [if_neg h3]
    rw [this]
    exact Int.le_refl _
  · rw [cnt_zero fun z => h (List.mem_singleton.mp z)]
    exact cnt_nn _ _
theorem su_pow {n : Nat} (h : ∀ x ∈ A, x.length = n) (s : SU n (cnt A)) : ∀ k, SU n (cnt (powC n A k))
  | 0 => su_zero n
  | k + 1 => su_conv (pow_len h k) h (su_pow h s k) s
end
end ME
end
section
set_option Elab.async false
set_option linter.all false
set_option maxRecDepth 100000
set_option maxHeartbeats 4000000
namespace ME
open PySem L2 MW
local macro_rules | `(tactic| walk_at "norm1") => `(tactic| dsimp only [Then, LoopP, FnPost, FnPostS])
local macro_rules | `(tactic| walk_at "mul") => `(tactic| (first
  | exact Or.inl ⟨by omega, by omega⟩
  | exact Or.inr ⟨by omega, by omega⟩))
local macro_rules | `(tactic| walk_at "we") => `(tactic| (first
  | ((with_reducible refine we_var (d := ?d) ?he ?_); (case he => exact rfl))
  | with_reducible refine we_int ?_
  | with_reducible refine we_str ?_
  | with_reducible refine we_op ?_
  | with_reducible refine we_cl ?_
  | with_reducible refine we_tup ?_
  | with_reducible refine we_bl ?_
  | with_reducible refine we_non ?_
  | with_reducible refine we_if ?_
  | ((with_reducible refine we_lenO (ds := ?ds) ?he ?_); (case he => exact rfl))
  | with_reducible refine we_len ?_
  | with_reducible refine we_int1 ?_
  | with_reducible refine we_andV ?_
  | with_reducible refine we_orV ?_
  | with_reducible refine we_notV ?_
  | with_reducible refine we_neg ?_
  | with_reducible refine we_chain ?_
  | with_reducible refine we_dget ?_
  | ((with_reducible refine we_dget2O (t := ?t) ?he ?_); (case he => exact rfl))
  | ((with_reducible refine we_dget2I (t := ?t) ?he ?_); (case he => exact rfl))
  | with_reducible refine we_dget2 ?_
  | ((with_reducible refine we_isi ?ht ?_); (case ht => first | exact .inl rfl | exact .inr (.inl rfl) | exact .inr (.inr (.inl rfl)) | exact .inr (.inr (.inr rfl))))
  | ((with_reducible refine we_clS ?he ?_); (case he => exact rfl))
  | with_reducible refine we_max2 ?_))
local macro_rules | `(tactic| walk_at "op2") => `(tactic| (first
  | ((with_reducible refine o_ixT (d := ?d) ?he ?_); (case he => exact rfl))
  | with_reducible refine o_eqS ?_
  | with_reducible refine o_eqI ?_
  | with_reducible refine o_add ?_
  | with_reducible refine o_sub ?_
  | ((with_reducible refine o_inT (x := ?x) (xs := ?xs) ?hx ?hs ?_); (case hx => exact rfl); (case hs => exact rfl))
  | ((with_reducible refine o_mul ?hc ?_); (case hc => walk_at "mul"))
  | ((with_reducible refine o_mod ?hc ?_); (case hc => omega))
  | ((with_reducible refine o_div ?hc ?_); (case hc => exact ⟨by omega, by omega⟩))
  | with_reducible refine o_lt ?_
  | with_reducible refine o_le ?_
  | with_reducible refine o_gt ?_
  | with_reducible refine o_ge ?_
  | with_reducible refine o_neI ?_
  | ((with_reducible refine o_ixL (d := ?d) ?he ?_); (case he => exact rfl))
  | ((with_reducible refine o_inL (x := ?x) (xs := ?xs) ?hx ?hs ?_); (case hx => exact rfl); (case hs => exact rfl))
  | ((with_reducible refine o_catT ?hl ?_); (case hl => (simp only [List.length_cons, List.length_nil]; omega)))
  | with_reducible refine o_isNT ?_))
local macro_rules | `(tactic| walk_at "wt") => `(tactic| (first
  | with_reducible refine wt_test ?_
  | with_reducible refine wt_B ?_
  | with_reducible refine wt_not ?_
  | with_reducible refine wt_and ?_
  | with_reducible refine wt_or ?_))
local macro_rules | `(tactic| walk_at "ws") => `(tactic| (first
  | with_reducible refine ws_seq ?_
  | with_reducible refine ws_asg ?_
  | with_reducible refine ws_if ?_
  | with_reducible refine ws_ret ?_
  | with_reducible refine ws_next ?_
  | with_reducible refine ws_drop ?_
  | with_reducible refine ws_par ?_))
local macro_rules | `(tactic| walk_at "no") => `(tactic| first
  | (intro hb; exact Bool.noConfusion (show (true : Bool) = false from hb))
  | (intro hb; exact Bool.noConfusion (show (false : Bool) = true from hb)))
local macro_rules | `(tactic| walk_at "br") => `(tactic| first
  | (refine ⟨?_, ?no⟩; (case no => walk_at "no"); (intro _))
  | (refine ⟨?no, ?_⟩; (case no => walk_at "no"); (intro _)))
local macro_rules | `(tactic| walk_at "ex") => `(tactic| first
  | (refine ⟨_, rfl, ?_⟩)
  | (refine ⟨_, _, rfl, rfl, ?_⟩)
  | (refine ⟨_, _, rfl, ?_⟩)
  | (refine ⟨_, _, _, rfl, ?_⟩)
  | (refine ⟨_, _, _, _, rfl, ?_⟩)
  | (refine ⟨_, .inr rfl, ?_⟩)
  | (refine ⟨_, .inl rfl, ?_⟩))
local macro_rules | `(tactic| walk_at "r") => `(tactic| repeat (first
  | ((with_reducible show MW.WE _ _ _ _ _); walk_at "we")
  | ((with_reducible show MW.Op2 _ _ _ _ _ _ _); walk_at "op2")
  | ((with_reducible show MW.WS _ _ _ _ _); walk_at "ws")
  | ((with_reducible show MW.WA _ _ _ _ _); first | with_reducible refine wa_cons ?_ | with_reducible refine wa_nil ?_)
  | ((with_reducible show MW.WT _ _ _ _ _); walk_at "wt")
  | ((with_reducible show Exists _); walk_at "ex")
  | ((with_reducible show And _ _); first | walk_at "br" | (refine ⟨by decide, ?_⟩) | (refine ⟨.inl ⟨_, rfl⟩, ?_⟩) | (refine ⟨.inr (.inl ⟨_, rfl⟩), ?_⟩) | (refine ⟨.inr (.inr ⟨_, rfl⟩), ?_⟩))
  | walk_at "norm1"
  | walk_at "ex"))
local macro_rules | `(tactic| walk_at "le") => `(tactic| ((try refine ⟨rfl, ?_⟩); repeat (first | exact Le.nil | refine Le.eq ?_ | refine Le.any ?_)))

theorem sc_p_is_from : FnScope ["value", "least", "most"] ["value", "least", "most"] (defScope s_p_is_from) := ⟨rfl, rfl, rfl, by decide +kernel, rfl, by decide +kernel, by decide +kernel⟩
def sp_p_is_from : SpecD := fun ds R => ∃ (v a b : Int), ds = [.int v, .int a, .int b] ∧ R (.bl (decide (a ≤ v ∧ v ≤ b)))
theorem ok_p_is_from {P : Program} {w : World} {K : PySem.W.Frag} {mg : Str → Option Value} {base h : Heap} (T : Tx K mg h)  :
    Ok P w K mg base "is_from" ["value", "least", "most"] 1 (SpP K sp_p_is_from) := by
  obtain ⟨fd, F⟩ := T.c.def_ 0 (d := d_p_is_from) rfl
  have F : FnP K "is_from" s_p_is_from (He.ga K "is_from") fd := F
  have len : ∀ ds R, sp_p_is_from ds R → ds.length = 3 := (fun ds R h => by obtain ⟨_, _, _, rfl, _⟩ := h; rfl)
  refine Ok.of F (He.glo_ok T.X T.G (T.c.fact 0 (f := .glo "is_from") rfl)) (FunD.bindsN F fun _ _ _ _ _ _ us hl => match us, hl with | [_, _, _], _ => rfl)
    (FunD.ok F sc_p_is_from (fun vs H Q E h => lenP (n := 3) h len) (fun cdv A outer s H vs Q E hr hq => ⟨_, PSs.nox (pss_one (ps_ret (pe_and (pe_callB call_isi (by rfl) T.isinstance_ (by decide +kernel) (pa_cons (pv 0) (pa_cons (pe_bltn (v := .ty "int") (by rfl) T.int_ (by decide +kernel) rfl) pa_nil))) (pe_and (pe_not (pe_callB call_isi (by rfl) T.isinstance_ (by decide +kernel) (pa_cons (pv 0) (pa_cons (pe_bltn (v := .ty "bool") (by rfl) T.bool_ (by decide +kernel) rfl) pa_nil)))) (pe_one (pe_chain op_le op_le (pv 1) (pv 0) (pv 2))))))), ?_⟩))
  refine fn_run (n := 3) hq len (by decide) fun ds R hs => ?_
  try dsimp only [cxOf]
  obtain ⟨v, a, b, rfl, hR⟩ := hs
  show WS K _ 0 [.sh (.int v), .sh (.int a), .sh (.int b)] _
  walk_at "r"
  refine ⟨fun h1 => ?_, fun h1 => ?_⟩
  · walk_at "r"
    rw [Bool.decide_and, h1, Bool.true_and] at hR
    exact hR
  · walk_at "r"
    rw [Bool.decide_and, h1, Bool.false_and] at hR
    exact hR
theorem sc_p_need_many : FnScope ["value"] ["value"] (defScope s_p_need_many) := ⟨rfl, rfl, rfl, by decide +kernel, rfl, by decide +kernel, by decide +kernel⟩
def sp_p_need_many : SpecD := fun ds R => ∃ (n : Int), ds = [.int n] ∧ 2 ≤ n ∧ n ≤ 5 ∧ R (.int n)
theorem ok_p_need_many {P : Program} {w : World} {K : PySem.W.Frag} {mg : Str → Option Value} {base h : Heap} (T : Tx K mg h) (o_p_is_from : Ok P w K mg base "is_from" ["value", "least", "most"] 1 (SpP K sp_p_is_from)) :
    Ok P w K mg base "need_many" ["value"] 2 (SpP K sp_p_need_many) := by
  obtain ⟨fd, F⟩ := T.c.def_ 1 (d := d_p_need_many) rfl
  have F : FnP K "need_many" s_p_need_many (He.ga K "need_many") fd := F
  have len : ∀ ds R, sp_p_need_many ds R → ds.length = 1 := (fun ds R h => by obtain ⟨_, rfl, _⟩ := h; rfl)
  refine Ok.of F (He.glo_ok T.X T.G (T.c.fact 1 (f := .glo "need_many") rfl)) (FunD.bindsN F fun _ _ _ _ _ _ us hl => match us, hl with | [_], _ => rfl)
    (FunD.ok F sc_p_need_many (fun vs H Q E h => lenP (n := 1) h len) (fun cdv A outer s H vs Q E hr hq => ⟨_, PSs.nox (pss_cons (ps_if (pt_not (pt_val (pe_cl o_p_is_from (hr.mono (by omega)) (by rfl) (pa_cons (pv 0) (pa_cons pe_int (pa_cons pe_int pa_nil)))))) (pss_one ps_never) pss_nil)
    (pss_one (ps_ret (pv 0)))), ?_⟩))
  refine fn_run (n := 1) hq len (by decide) fun ds R hs => ?_
  try dsimp only [cxOf]
  obtain ⟨n, rfl, h1, h2, hR⟩ := hs
  show WS K _ 0 [.sh (.int n)] _
  walk_at "r"
  rw [decide_eq_true (⟨h1, h2⟩ : 2 ≤ n ∧ n ≤ 5)]
  walk_at "r"
  exact hR
theorem sc_p_power : FnScope ["base", "times", "found", "step"] ["base", "times"] (defScope s_p_power) := ⟨rfl, rfl, rfl, by decide +kernel, rfl, by decide +kernel, by decide +kernel⟩
def sp_p_power : SpecD := fun ds R => ∃ (b : Int) (t : Int), ds = [.int b, .int t] ∧ 0 ≤ t ∧ t ≤ 1000 ∧ 0 ≤ b ∧ b ≤ 1000000 ∧ R (.int (ipow b t.toNat))
theorem ok_p_power {P : Program} {w : World} {K : PySem.W.Frag} {mg : Str → Option Value} {base h : Heap} (T : Tx K mg h)  :
    Ok P w K mg base "power" ["base", "times"] 1 (SpP K sp_p_power) := by
  obtain ⟨fd, F⟩ := T.c.def_ 7 (d := d_p_power) rfl
  have F : FnP K "power" s_p_power (He.ga K "power") fd := F
  have len : ∀ ds R, sp_p_power ds R → ds.length = 2 := (fun ds R h => by obtain ⟨_, _, rfl, _⟩ := h; rfl)
  refine Ok.of F (He.glo_ok T.X T.G (T.c.fact 7 (f := .glo "power") rfl)) (FunD.bindsN F fun _ _ _ _ _ _ us hl => match us, hl with | [_, _], _ => rfl)
    (FunD.ok F sc_p_power (fun vs H Q E h => lenP (n := 2) h len) (fun cdv A outer s H vs Q E hr hq => ⟨_, PSs.nox (pss_cons (ps_set (i := 2) sc_p_power.nd rfl (by first | exact .inl rfl | exact .inr rfl) pe_int)
    (pss_cons (ps_for PassesOwn.never (by rfl) (pi_range1 (by rfl) T.range_ (pa_cons (pv 1) pa_nil)) (pg_name (i := 3) sc_p_power.nd rfl (by first | exact .inl rfl | exact .inr rfl)) (pss_one (ps_set (i := 2) sc_p_power.nd rfl (by first | exact .inl rfl | exact .inr rfl) (pe_op op_mul (pv 2) (pv 0)))))
    (pss_one (ps_ret (pv 2))))), ?_⟩))
  refine fn_run (n := 2) hq len (by decide) fun ds R hs => ?_
  try dsimp only [cxOf]
  obtain ⟨b, t, rfl, h0, h1, h2, h3, hR⟩ := hs
  show WS K _ 0 [.sh (.int b), .sh (.int t), .any, .any] _
  walk_at "r"
  refine ws_rng1 mono_then ?_
  walk_at "r"
  refine ⟨by omega, by omega, fun k => [.sh (.int b), .sh (.int t), .sh (.int (ipow b k)), .any], by walk_at "le", fun k hk => ?_, ?_⟩
  · walk_at "r"
    walk_at "le"
  · walk_at "r"
    exact hR
theorem sc_p_choices : FnScope ["number", "times", "again", "found", "first", "step"] ["number", "times", "again"] (defScope s_p_choices) := ⟨rfl, rfl, rfl, by decide +kernel, rfl, by decide +kernel, by decide +kernel⟩
def sp_p_choices : SpecD := fun ds R => ∃ (n : Int) (t : Nat) (again : Bool), ds = [.int n, .int t, .bl again] ∧ t ≤ 12 ∧ 0 ≤ n ∧ n ≤ 1000000 ∧ R (.int (chs (if again then n + t - 1 else n) t))
theorem ok_p_choices {P : Program} {w : World} {K : PySem.W.Frag} {mg : Str → Option Value} {base h : Heap} (T : Tx K mg h)  :
    Ok P w K mg base "choices" ["number", "times", "again"] 1 (SpP K sp_p_choices) := by
  obtain ⟨fd, F⟩ := T.c.def_ 8 (d := d_p_choices) rfl
  have F : FnP K "choices" s_p_choices (He.ga K "choices") fd := F
  have len : ∀ ds R, sp_p_choices ds R → ds.length = 3 := (fun ds R h => by obtain ⟨_, _, _, rfl, _⟩ := h; rfl)
  refine Ok.of F (He.glo_ok T.X T.G (T.c.fact 8 (f := .glo "choices") rfl)) (FunD.bindsN F fun _ _ _ _ _ _ us hl => match us, hl with | [_, _, _], _ => rfl)
    (FunD.ok F sc_p_choices (fun vs H Q E h => lenP (n := 3) h len) (fun cdv A outer s H vs Q E hr hq => ⟨_, PSs.nox (pss_cons (ps_set (i := 3) sc_p_choices.nd rfl (by first | exact .inl rfl | exact .inr rfl) pe_int)
    (pss_cons (ps_set (i := 4) sc_p_choices.nd rfl (by first | exact .inl rfl | exact .inr rfl) (pe_ifExp (pt_val (pv 2)) (pe_op op_sub (pe_op op_add (pv 0) (pv 1)) pe_int) (pv 0)))
    (pss_cons (ps_for PassesOwn.never (by rfl) (pi_range1 (by rfl) T.range_ (pa_cons (pv 1) pa_nil)) (pg_name (i := 5) sc_p_choices.nd rfl (by first | exact .inl rfl | exact .inr rfl)) (pss_cons (ps_set (i := 3) sc_p_choices.nd rfl (by first | exact .inl rfl | exact .inr rfl) (pe_op op_fdiv (pe_op op_mul (pv 3) (pe_op op_sub (pv 4) (pv 5))) (pe_op op_add (pv 5) pe_int)))
    (pss_one (ps_if (pt_cmpR op_le (pv 3) pe_int (by rfl)) (pss_one (ps_ret pe_int)) pss_nil))))
    (pss_one (ps_ret (pv 3)))))), ?_⟩))
  refine fn_run (n := 3) hq len (by decide) fun ds R hs => ?_
  try dsimp only [cxOf]
  obtain ⟨n, t, again, rfl, h1, h2, h3, hR⟩ := hs
  show WS K _ 0 [.sh (.int n), .sh (.int t), .sh (.bl again), .any, .any, .any] _
  refine ws_seq (ws_asg (we_int (ws_seq (ws_asg (we_ifI (x := n + t - 1) (y := n) ?_)))))
  walk_at "r"
  refine ⟨?_, ?_, ?_⟩
  · walk_at "r"
    exact ⟨rfl, rfl⟩
  · walk_at "r"
    exact ⟨rfl, rfl⟩
  generalize hf : (if again then n + t - 1 else n) = first at hR ⊢
  have hb : -20 ≤ first ∧ first ≤ 1000100 := by
    cases again
    · rw [if_neg Bool.false_ne_true] at hf; omega
    · rw [if_pos rfl] at hf; omega
  walk_at "r"
  refine ws_rng1 mono_then ?_
  walk_at "r"
  refine ⟨by omega, by omega, fun k => [.sh (.int n), .sh (.int t), .sh (.bl again), .sh (.int (chs first k)), .sh (.int first), .any], by walk_at "le", fun k hk => ?_, ?_⟩
  · walk_at "r"
    refine ⟨fun hb => ?_, fun hb => ?_⟩
    · walk_at "r"
      have e : chs first (k + 1) = 0 := if_pos (of_decide_eq_true hb)
      have e2 := chs_zero e (t - (k + 1))
      have e3 : k + 1 + (t - (k + 1)) = t := by omega
      rw [e3] at e2
      rw [e2] at hR
      exact hR
    · walk_at "r"
      have e : chs first (k + 1) = chs first k * (first - k) / (k + 1) := if_neg (of_decide_eq_false hb)
      rw [e]
      walk_at "le"
  · walk_at "r"
    exact hR
end ME
end
section
set_option Elab.async false
set_option linter.all false
set_option maxRecDepth 100000
set_option maxHeartbeats 4000000
namespace ME
open PySem L2 MW
local macro_rules | `(tactic| walk_at "norm1") => `(tactic| dsimp only [Then, LoopP, FnPost, FnPostS])
local macro_rules | `(tactic| walk_at "mul") => `(tactic| (first
  | exact Or.inl ⟨by omega, by omega⟩
  | exact Or.inr ⟨by omega, by omega⟩))
local macro_rules | `(tactic| walk_at "we") => `(tactic| (first
  | ((with_reducible refine we_var (d := ?d) ?he ?_); (case he => exact rfl))
  | with_reducible refine we_int ?_
  | with_reducible refine we_str ?_
  | with_reducible refine we_op ?_
  | with_reducible refine we_cl ?_
  | with_reducible refine we_tup ?_
  | with_reducible refine we_bl ?_
  | with_reducible refine we_non ?_
  | with_reducible refine we_if ?_
  | ((with_reducible refine we_lenO (ds := ?ds) ?he ?_); (case he => exact rfl))
  | with_reducible refine we_len ?_
  | with_reducible refine we_int1 ?_
  | with_reducible refine we_andV ?_
  | with_reducible refine we_orV ?_
  | with_reducible refine we_notV ?_
  | with_reducible refine we_neg ?_
  | with_reducible refine we_chain ?_
  | with_reducible refine we_dget ?_
  | ((with_reducible refine we_dget2O (t := ?t) ?he ?_); (case he => exact rfl))
  | ((with_reducible refine we_dget2I (t := ?t) ?he ?_); (case he => exact rfl))
  | with_reducible refine we_dget2 ?_
  | ((with_reducible refine we_isi ?ht ?_); (case ht => first | exact .inl rfl | exact .inr (.inl rfl) | exact .inr (.inr (.inl rfl)) | exact .inr (.inr (.inr rfl))))
  | ((with_reducible refine we_clS ?he ?_); (case he => exact rfl))
  | with_reducible refine we_max2 ?_))
local macro_rules | `(tactic| walk_at "op2") => `(tactic| (first
  | ((with_reducible refine o_ixT (d := ?d) ?he ?_); (case he => exact rfl))
  | with_reducible refine o_eqS ?_
  | with_reducible refine o_eqI ?_
  | with_reducible refine o_add ?_
  | with_reducible refine o_sub ?_
  | ((with_reducible refine o_inT (x := ?x) (xs := ?xs) ?hx ?hs ?_); (case hx => exact rfl); (case hs => exact rfl))
  | ((with_reducible refine o_mul ?hc ?_); (case hc => walk_at "mul"))
  | ((with_reducible refine o_mod ?hc ?_); (case hc => omega))
  | ((with_reducible refine o_div ?hc ?_); (case hc => exact ⟨by omega, by omega⟩))
  | with_reducible refine o_lt ?_
  | with_reducible refine o_le ?_
  | with_reducible refine o_gt ?_
  | with_reducible refine o_ge ?_
  | with_reducible refine o_neI ?_
  | ((with_reducible refine o_ixL (d := ?d) ?he ?_); (case he => exact rfl))
  | ((with_reducible refine o_inL (x := ?x) (xs := ?xs) ?hx ?hs ?_); (case hx => exact rfl); (case hs => exact rfl))
  | ((with_reducible refine o_catT ?hl ?_); (case hl => (simp only [List.length_cons, List.length_nil]; omega)))
  | with_reducible refine o_isNT ?_))
local macro_rules | `(tactic| walk_at "wt") => `(tactic| (first
  | with_reducible refine wt_test ?_
  | with_reducible refine wt_B ?_
  | with_reducible refine wt_not ?_
  | with_reducible refine wt_and ?_
  | with_reducible refine wt_or ?_))
local macro_rules | `(tactic| walk_at "ws") => `(tactic| (first
  | with_reducible refine ws_seq ?_
  | with_reducible refine ws_asg ?_
  | with_reducible refine ws_if ?_
  | with_reducible refine ws_ret ?_
  | with_reducible refine ws_next ?_
  | with_reducible refine ws_drop ?_
  | with_reducible refine ws_par ?_))
local macro_rules | `(tactic| walk_at "no") => `(tactic| first
  | (intro hb; exact Bool.noConfusion (show (true : Bool) = false from hb))
  | (intro hb; exact Bool.noConfusion (show (false : Bool) = true from hb)))
local macro_rules | `(tactic| walk_at "br") => `(tactic| first
  | (refine ⟨?_, ?no⟩; (case no => walk_at "no"); (intro _))
  | (refine ⟨?no, ?_⟩; (case no => walk_at "no"); (intro _)))
local macro_rules | `(tactic| walk_at "ex") => `(tactic| first
  | (refine ⟨_, rfl, ?_⟩)
  | (refine ⟨_, _, rfl, rfl, ?_⟩)
  | (refine ⟨_, _, rfl, ?_⟩)
  | (refine ⟨_, _, _, rfl, ?_⟩)
  | (refine ⟨_, _, _, _, rfl, ?_⟩)
  | (refine ⟨_, .inr rfl, ?_⟩)
  | (refine ⟨_, .inl rfl, ?_⟩))
local macro_rules | `(tactic| walk_at "r") => `(tactic| repeat (first
  | ((with_reducible show MW.WE _ _ _ _ _); walk_at "we")
  | ((with_reducible show MW.Op2 _ _ _ _ _ _ _); walk_at "op2")
  | ((with_reducible show MW.WS _ _ _ _ _); walk_at "ws")
  | ((with_reducible show MW.WA _ _ _ _ _); first | with_reducible refine wa_cons ?_ | with_reducible refine wa_nil ?_)
  | ((with_reducible show MW.WT _ _ _ _ _); walk_at "wt")
  | ((with_reducible show Exists _); walk_at "ex")
  | ((with_reducible show And _ _); first | walk_at "br" | (refine ⟨by decide, ?_⟩) | (refine ⟨.inl ⟨_, rfl⟩, ?_⟩) | (refine ⟨.inr (.inl ⟨_, rfl⟩), ?_⟩) | (refine ⟨.inr (.inr ⟨_, rfl⟩), ?_⟩))
  | walk_at "norm1"
  | walk_at "ex"))
local macro_rules | `(tactic| walk_at "le") => `(tactic| ((try refine ⟨rfl, ?_⟩); repeat (first | exact Le.nil | refine Le.eq ?_ | refine Le.any ?_)))

theorem sc_p_single : FnScope ["sort"] ["sort"] (defScope s_p_single) := ⟨rfl, rfl, rfl, by decide +kernel, rfl, by decide +kernel, by decide +kernel⟩
def sp_p_single (n : Nat) : SpecD := fun ds R => ∃ (s : S), ds = [s.d] ∧ s.depth ≤ n ∧ R (.bl s.single)
theorem ok_p_single {P : Program} {w : World} {K : PySem.W.Frag} {mg : Str → Option Value} {base h : Heap} (T : Tx K mg h) {n : Nat} (o_p_single : Ok P w K mg base "single" ["sort"] (n + 1) (SpP K (sp_p_single n))) :
    Ok P w K mg base "single" ["sort"] ((n + 1) + 1) (SpP K (sp_p_single (n + 1))) := by
  obtain ⟨fd, F⟩ := T.c.def_ 3 (d := d_p_single) rfl
  have F : FnP K "single" s_p_single (He.ga K "single") fd := F
  have len : ∀ ds R, sp_p_single (n + 1) ds R → ds.length = 1 := (fun ds R h => by obtain ⟨_, rfl, _⟩ := h; rfl)
  refine Ok.of F (He.glo_ok T.X T.G (T.c.fact 3 (f := .glo "single") rfl)) (FunD.bindsN F fun _ _ _ _ _ _ us hl => match us, hl with | [_], _ => rfl)
    (FunD.ok F sc_p_single (fun vs H Q E h => lenP (n := 1) h len) (fun cdv A outer s H vs Q E hr hq => ⟨_, PSs.nox (pss_cons (ps_if (pt_cmpR op_eq (pe_ix ix_tup (pv 0) pe_int (fun _ _ => rfl)) pe_str (by rfl)) (pss_one (ps_ret (pe_and (pe_cl o_p_single (hr.mono (by omega)) (by rfl) (pa_cons (pe_ix ix_tup (pv 0) pe_int (fun _ _ => rfl)) pa_nil)) (pe_one (pe_cl o_p_single (hr.mono (by omega)) (by rfl) (pa_cons (pe_ix ix_tup (pv 0) pe_int (fun _ _ => rfl)) pa_nil)))))) pss_nil)
    (pss_one (ps_ret (pe_cmpR op_in_seq (pe_ix ix_tup (pv 0) pe_int (fun _ _ => rfl)) (pe_tup (pa_cons pe_str (pa_cons pe_str (pa_cons pe_str pa_nil)))) (by rfl))))), ?_⟩))
  refine fn_run (n := 1) hq len (by decide) fun ds R hs => ?_
  try dsimp only [cxOf]
  obtain ⟨s, rfl, hd, hR⟩ := hs
  cases s with
  | ei a b =>
    show WS K _ 0 [.sh (.tup [.str "either", a.d, b.d])] _
    have h1 : a.depth ≤ n ∧ b.depth ≤ n := by simp only [S.depth] at hd; omega
    walk_at "r"
    refine ⟨h1.1, _, rfl, fun hb => ?_, fun hb => ?_⟩
    · walk_at "r"
      refine ⟨h1.2, ?_⟩
      simp only [S.single, hb, Bool.true_and] at hR
      exact hR
    · simp only [S.single, hb, Bool.false_and] at hR
      exact hR
  | _ =>
    show WS K _ 0 [.sh (.tup _)] _
    walk_at "r"
    exact hR
theorem all_p_single {P : Program} {w : World} {K : PySem.W.Frag} {mg : Str → Option Value} {base h : Heap} (T : Tx K mg h)  : ∀ n : Nat, Ok P w K mg base "single" ["sort"] (n + 1) (SpP K (sp_p_single n))
  | 0 => by
    obtain ⟨fd, F⟩ := T.c.def_ 3 (d := d_p_single) rfl
    have F : FnP K "single" s_p_single (He.ga K "single") fd := F
    refine Ok.none F (He.glo_ok T.X T.G (T.c.fact 3 (f := .glo "single") rfl)) (FunD.bindsN F fun _ _ _ _ _ _ us hl => match us, hl with | [_], _ => rfl) (fun ds R h => by
      obtain ⟨s, rfl, hd, _⟩ := h
      have := s.depth_pos
      omega)
  | n + 1 => ok_p_single T  (all_p_single T  n)
end ME
end
section
set_option Elab.async false
set_option linter.all false
set_option maxRecDepth 100000
set_option maxHeartbeats 4000000
namespace ME
open PySem L2 MW
local macro_rules | `(tactic| walk_at "norm1") => `(tactic| dsimp only [Then, LoopP, FnPost, FnPostS])
local macro_rules | `(tactic| walk_at "mul") => `(tactic| (first
  | exact Or.inl ⟨by omega, by omega⟩
  | exact Or.inr ⟨by omega, by omega⟩))
local macro_rules | `(tactic| walk_at "we") => `(tactic| (first
  | ((with_reducible refine we_var (d := ?d) ?he ?_); (case he => exact rfl))
  | with_reducible refine we_int ?_
  | with_reducible refine we_str ?_
  | with_reducible refine we_op ?_
  | with_reducible refine we_cl ?_
  | with_reducible refine we_tup ?_
  | with_reducible refine we_bl ?_
  | with_reducible refine we_non ?_
  | with_reducible refine we_if ?_
  | ((with_reducible refine we_lenO (ds := ?ds) ?he ?_); (case he => exact rfl))
  | with_reducible refine we_len ?_
  | with_reducible refine we_int1 ?_
  | with_reducible refine we_andV ?_
  | with_reducible refine we_orV ?_
  | with_reducible refine we_notV ?_
  | with_reducible refine we_neg ?_
  | with_reducible refine we_chain ?_
  | with_reducible refine we_dget ?_
  | ((with_reducible refine we_dget2O (t := ?t) ?he ?_); (case he => exact rfl))
  | ((with_reducible refine we_dget2I (t := ?t) ?he ?_); (case he => exact rfl))
  | with_reducible refine we_dget2 ?_
  | ((with_reducible refine we_isi ?ht ?_); (case ht => first | exact .inl rfl | exact .inr (.inl rfl) | exact .inr (.inr (.inl rfl)) | exact .inr (.inr (.inr rfl))))
  | ((with_reducible refine we_clS ?he ?_); (case he => exact rfl))
  | with_reducible refine we_max2 ?_))
local macro_rules | `(tactic| walk_at "op2") => `(tactic| (first
  | ((with_reducible refine o_ixT (d := ?d) ?he ?_); (case he => exact rfl))
  | with_reducible refine o_eqS ?_
  | with_reducible refine o_eqI ?_
  | with_reducible refine o_add ?_
  | with_reducible refine o_sub ?_
  | ((with_reducible refine o_inT (x := ?x) (xs := ?xs) ?hx ?hs ?_); (case hx => exact rfl); (case hs => exact rfl))
  | ((with_reducible refine o_mul ?hc ?_); (case hc => walk_at "mul"))
  | ((with_reducible refine o_mod ?hc ?_); (case hc => omega))
  | ((with_reducible refine o_div ?hc ?_); (case hc => exact ⟨by omega, by omega⟩))
  | with_reducible refine o_lt ?_
  | with_reducible refine o_le ?_
  | with_reducible refine o_gt ?_
  | with_reducible refine o_ge ?_
  | with_reducible refine o_neI ?_
  | ((with_reducible refine o_ixL (d := ?d) ?he ?_); (case he => exact rfl))
  | ((with_reducible refine o_inL (x := ?x) (xs := ?xs) ?hx ?hs ?_); (case hx => exact rfl); (case hs => exact rfl))
  | ((with_reducible refine o_catT ?hl ?_); (case hl => (simp only [List.length_cons, List.length_nil]; omega)))
  | with_reducible refine o_isNT ?_))
local macro_rules | `(tactic| walk_at "wt") => `(tactic| (first
  | with_reducible refine wt_test ?_
  | with_reducible refine wt_B ?_
  | with_reducible refine wt_not ?_
  | with_reducible refine wt_and ?_
  | with_reducible refine wt_or ?_))
local macro_rules | `(tactic| walk_at "ws") => `(tactic| (first
  | with_reducible refine ws_seq ?_
  | with_reducible refine ws_asg ?_
  | with_reducible refine ws_if ?_
  | with_reducible refine ws_ret ?_
  | with_reducible refine ws_next ?_
  | with_reducible refine ws_drop ?_
  | with_reducible refine ws_par ?_))
local macro_rules | `(tactic| walk_at "no") => `(tactic| first
  | (intro hb; exact Bool.noConfusion (show (true : Bool) = false from hb))
  | (intro hb; exact Bool.noConfusion (show (false : Bool) = true from hb)))
local macro_rules | `(tactic| walk_at "br") => `(tactic| first
  | (refine ⟨?_, ?no⟩; (case no => walk_at "no"); (intro _))
  | (refine ⟨?no, ?_⟩; (case no => walk_at "no"); (intro _)))
local macro_rules | `(tactic| walk_at "ex") => `(tactic| first
  | (refine ⟨_, rfl, ?_⟩)
  | (refine ⟨_, _, rfl, rfl, ?_⟩)
  | (refine ⟨_, _, rfl, ?_⟩)
  | (refine ⟨_, _, _, rfl, ?_⟩)
  | (refine ⟨_, _, _, _, rfl, ?_⟩)
  | (refine ⟨_, .inr rfl, ?_⟩)
  | (refine ⟨_, .inl rfl, ?_⟩))
local macro_rules | `(tactic| walk_at "r") => `(tactic| repeat (first
  | ((with_reducible show MW.WE _ _ _ _ _); walk_at "we")
  | ((with_reducible show MW.Op2 _ _ _ _ _ _ _); walk_at "op2")
  | ((with_reducible show MW.WS _ _ _ _ _); walk_at "ws")
  | ((with_reducible show MW.WA _ _ _ _ _); first | with_reducible refine wa_cons ?_ | with_reducible refine wa_nil ?_)
  | ((with_reducible show MW.WT _ _ _ _ _); walk_at "wt")
  | ((with_reducible show Exists _); walk_at "ex")
  | ((with_reducible show And _ _); first | walk_at "br" | (refine ⟨by decide, ?_⟩) | (refine ⟨.inl ⟨_, rfl⟩, ?_⟩) | (refine ⟨.inr (.inl ⟨_, rfl⟩), ?_⟩) | (refine ⟨.inr (.inr ⟨_, rfl⟩), ?_⟩))
  | walk_at "norm1"
  | walk_at "ex"))
local macro_rules | `(tactic| walk_at "le") => `(tactic| ((try refine ⟨rfl, ?_⟩); repeat (first | exact Le.nil | refine Le.eq ?_ | refine Le.any ?_)))

theorem sc_p_part_places : FnScope ["value", "word"] ["value"] (defScope s_p_part_places) := ⟨rfl, rfl, rfl, by decide +kernel, rfl, by decide +kernel, by decide +kernel⟩
def sp_p_part_places : SpecD := fun ds R => ∃ (s : S), ds = [s.d] ∧ s.ok = true ∧ R (.tup s.places)
theorem ok_p_part_places {P : Program} {w : World} {K : PySem.W.Frag} {mg : Str → Option Value} {base h : Heap} (T : Tx K mg h) (o_p_is_from : Ok P w K mg base "is_from" ["value", "least", "most"] 1 (SpP K sp_p_is_from)) :
    Ok P w K mg base "part_places" ["value"] 2 (SpP K sp_p_part_places) := by
  obtain ⟨fd, F⟩ := T.c.def_ 2 (d := d_p_part_places) rfl
  have F : FnP K "part_places" s_p_part_places (He.ga K "part_places") fd := F
  have len : ∀ ds R, sp_p_part_places ds R → ds.length = 1 := (fun ds R h => by obtain ⟨_, rfl, _⟩ := h; rfl)
  refine Ok.of F (He.glo_ok T.X T.G (T.c.fact 2 (f := .glo "part_places") rfl)) (FunD.bindsN F fun _ _ _ _ _ _ us hl => match us, hl with | [_], _ => rfl)
    (FunD.ok F sc_p_part_places (fun vs H Q E h => lenP (n := 1) h len) (fun cdv A outer s H vs Q E hr hq => ⟨_, PSs.nox (pss_cons (ps_if (PW.pt (pw_or (pt_not (pt_val (pe_callB call_isi (by rfl) T.isinstance_ (by decide +kernel) (pa_cons (pv 0) (pa_cons (pe_bltn (v := .ty "tuple") (by rfl) T.tuple_ (by decide +kernel) rfl) pa_nil))))) (pw_or (pt_cmpR op_eq (pe_callB call_len_seq (by rfl) T.len_ PySem.boot_len (pa_cons (pv 0) pa_nil)) pe_int (by rfl)) (pw_or1 (pt_not (pt_val (pe_callB call_isi (by rfl) T.isinstance_ (by decide +kernel) (pa_cons (pe_ix ix_tup (pv 0) pe_int (fun _ _ => rfl)) (pa_cons (pe_bltn (v := .ty "str") (by rfl) T.str_ (by decide +kernel) rfl) pa_nil))))))))) (pss_one (ps_ret pe_non)) pss_nil)
    (pss_cons (ps_set (i := 1) sc_p_part_places.nd rfl (by first | exact .inl rfl | exact .inr rfl) (pe_ix ix_tup (pv 0) pe_int (fun _ _ => rfl)))
    (pss_cons (ps_if (pt_cmpR op_in_seq (pv 1) (pe_tup (pa_cons pe_str (pa_cons pe_str (pa_cons pe_str (pa_cons pe_str pa_nil))))) (by rfl)) (pss_one (ps_ret (pe_ifExp (pt_cmpR op_eq (pe_callB call_len_seq (by rfl) T.len_ PySem.boot_len (pa_cons (pv 0) pa_nil)) pe_int (by rfl)) (pe_tup pa_nil) pe_non))) pss_nil)
    (pss_cons (ps_if (pt_cmpR op_in_seq (pv 1) (pe_tup (pa_cons pe_str (pa_cons pe_str pa_nil))) (by rfl)) (pss_one (ps_ret (pe_ifExp (PW.pt (pw_and (pt_cmpR op_eq (pe_callB call_len_seq (by rfl) T.len_ PySem.boot_len (pa_cons (pv 0) pa_nil)) pe_int (by rfl)) (pw_and1 (pt_val (pe_cl o_p_is_from (hr.mono (by omega)) (by rfl) (pa_cons (pe_ix ix_tup (pv 0) pe_int (fun _ _ => rfl)) (pa_cons pe_int (pa_cons (pe_gi (by rfl) T.MOST_NUMBER) pa_nil)))))))) (pe_tup pa_nil) pe_non))) pss_nil)
    (pss_cons (ps_if (pt_cmpR op_eq (pv 1) pe_str (by rfl)) (pss_one (ps_ret (pe_ifExp (PW.pt (pw_and (pt_cmpR op_eq (pe_callB call_len_seq (by rfl) T.len_ PySem.boot_len (pa_cons (pv 0) pa_nil)) pe_int (by rfl)) (pw_and1 (pt_val (pe_cl o_p_is_from (hr.mono (by omega)) (by rfl) (pa_cons (pe_ix ix_tup (pv 0) pe_int (fun _ _ => rfl)) (pa_cons pe_int (pa_cons pe_int pa_nil)))))))) (pe_tup pa_nil) pe_non))) pss_nil)
    (pss_cons (ps_if (pt_cmpR op_in_seq (pv 1) (pe_tup (pa_cons pe_str (pa_cons pe_str pa_nil))) (by rfl)) (pss_one (ps_ret (pe_ifExp (pt_cmpR op_eq (pe_callB call_len_seq (by rfl) T.len_ PySem.boot_len (pa_cons (pv 0) pa_nil)) pe_int (by rfl)) (pe_tup (pa_cons pe_int (pa_cons pe_int pa_nil))) pe_non))) pss_nil)
    (pss_cons (ps_if (pt_cmpR op_in_seq (pv 1) (pe_tup (pa_cons pe_str (pa_cons pe_str (pa_cons pe_str pa_nil)))) (by rfl)) (pss_one (ps_ret (pe_ifExp (PW.pt (pw_and (pt_cmpR op_eq (pe_callB call_len_seq (by rfl) T.len_ PySem.boot_len (pa_cons (pv 0) pa_nil)) pe_int (by rfl)) (pw_and1 (pt_val (pe_cl o_p_is_from (hr.mono (by omega)) (by rfl) (pa_cons (pe_ix ix_tup (pv 0) pe_int (fun _ _ => rfl)) (pa_cons pe_int (pa_cons (pe_gi (by rfl) T.MOST_NUMBER) pa_nil)))))))) (pe_tup (pa_cons pe_int pa_nil)) pe_non))) pss_nil)
    (pss_one (ps_ret pe_non))))))))), ?_⟩))
  refine fn_run (n := 1) hq len (by decide) fun ds R hs => ?_
  try dsimp only [cxOf]
  obtain ⟨s, rfl, hk, hR⟩ := hs
  cases s with
  | sub k =>
    show WS K _ 0 [.sh (.tup _), .any] _
    have h1 : k ≤ 12 := of_decide_eq_true hk
    walk_at "r"
    refine br_t (decide_eq_true ⟨by omega, by omega⟩) ?_
    walk_at "r"
    exact hR
  | bag k =>
    show WS K _ 0 [.sh (.tup _), .any] _
    have h1 : k ≤ 12 := of_decide_eq_true hk
    walk_at "r"
    refine br_t (decide_eq_true ⟨by omega, by omega⟩) ?_
    walk_at "r"
    exact hR
  | rounds k =>
    show WS K _ 0 [.sh (.tup _), .any] _
    have h1 : 1 ≤ k ∧ k ≤ 2 := by simp only [S.ok, Bool.and_eq_true, decide_eq_true_eq] at hk; exact hk
    walk_at "r"
    refine br_t (decide_eq_true ⟨by omega, by omega⟩) ?_
    walk_at "r"
    exact hR
  | li k a =>
    show WS K _ 0 [.sh (.tup _), .any] _
    have h1 : k ≤ 12 := by simp only [S.ok, Bool.and_eq_true, decide_eq_true_eq] at hk; exact hk.1
    walk_at "r"
    refine br_t (decide_eq_true ⟨by omega, by omega⟩) ?_
    walk_at "r"
    exact hR
  | fam k a =>
    show WS K _ 0 [.sh (.tup _), .any] _
    have h1 : k ≤ 12 := by simp only [S.ok, Bool.and_eq_true, decide_eq_true_eq] at hk; exact hk.1.1
    walk_at "r"
    refine br_t (decide_eq_true ⟨by omega, by omega⟩) ?_
    walk_at "r"
    exact hR
  | heap k a =>
    show WS K _ 0 [.sh (.tup _), .any] _
    have h1 : k ≤ 12 := by simp only [S.ok, Bool.and_eq_true, decide_eq_true_eq] at hk; exact hk.1.1
    walk_at "r"
    refine br_t (decide_eq_true ⟨by omega, by omega⟩) ?_
    walk_at "r"
    exact hR
  | _ =>
    show WS K _ 0 [.sh (.tup _), .any] _
    walk_at "r"
    exact hR
end ME
end
section
set_option Elab.async false
set_option linter.all false
set_option maxRecDepth 100000
set_option maxHeartbeats 4000000
namespace ME
open PySem L2 MW
local macro_rules | `(tactic| walk_at "norm1") => `(tactic| dsimp only [Then, LoopP, FnPost, FnPostS])
local macro_rules | `(tactic| walk_at "mul") => `(tactic| (first
  | exact Or.inl ⟨by omega, by omega⟩
  | exact Or.inr ⟨by omega, by omega⟩))
local macro_rules | `(tactic| walk_at "we") => `(tactic| (first
  | ((with_reducible refine we_var (d := ?d) ?he ?_); (case he => exact rfl))
  | with_reducible refine we_int ?_
  | with_reducible refine we_str ?_
  | with_reducible refine we_op ?_
  | with_reducible refine we_cl ?_
  | with_reducible refine we_tup ?_
  | with_reducible refine we_bl ?_
  | with_reducible refine we_non ?_
  | with_reducible refine we_if ?_
  | ((with_reducible refine we_lenO (ds := ?ds) ?he ?_); (case he => exact rfl))
  | with_reducible refine we_len ?_
  | with_reducible refine we_int1 ?_
  | with_reducible refine we_andV ?_
  | with_reducible refine we_orV ?_
  | with_reducible refine we_notV ?_
  | with_reducible refine we_neg ?_
  | with_reducible refine we_chain ?_
  | with_reducible refine we_dget ?_
  | ((with_reducible refine we_dget2O (t := ?t) ?he ?_); (case he => exact rfl))
  | ((with_reducible refine we_dget2I (t := ?t) ?he ?_); (case he => exact rfl))
  | with_reducible refine we_dget2 ?_
  | ((with_reducible refine we_isi ?ht ?_); (case ht => first | exact .inl rfl | exact .inr (.inl rfl) | exact .inr (.inr (.inl rfl)) | exact .inr (.inr (.inr rfl))))
  | ((with_reducible refine we_clS ?he ?_); (case he => exact rfl))
  | with_reducible refine we_max2 ?_))
local macro_rules | `(tactic| walk_at "op2") => `(tactic| (first
  | ((with_reducible refine o_ixT (d := ?d) ?he ?_); (case he => exact rfl))
  | with_reducible refine o_eqS ?_
  | with_reducible refine o_eqI ?_
  | with_reducible refine o_add ?_
  | with_reducible refine o_sub ?_
  | ((with_reducible refine o_inT (x := ?x) (xs := ?xs) ?hx ?hs ?_); (case hx => exact rfl); (case hs => exact rfl))
  | ((with_reducible refine o_mul ?hc ?_); (case hc => walk_at "mul"))
  | ((with_reducible refine o_mod ?hc ?_); (case hc => omega))
  | ((with_reducible refine o_div ?hc ?_); (case hc => exact ⟨by omega, by omega⟩))
  | with_reducible refine o_lt ?_
  | with_reducible refine o_le ?_
  | with_reducible refine o_gt ?_
  | with_reducible refine o_ge ?_
  | with_reducible refine o_neI ?_
  | ((with_reducible refine o_ixL (d := ?d) ?he ?_); (case he => exact rfl))
  | ((with_reducible refine o_inL (x := ?x) (xs := ?xs) ?hx ?hs ?_); (case hx => exact rfl); (case hs => exact rfl))
  | ((with_reducible refine o_catT ?hl ?_); (case hl => (simp only [List.length_cons, List.length_nil]; omega)))
  | with_reducible refine o_isNT ?_))
local macro_rules | `(tactic| walk_at "wt") => `(tactic| (first
  | with_reducible refine wt_test ?_
  | with_reducible refine wt_B ?_
  | with_reducible refine wt_not ?_
  | with_reducible refine wt_and ?_
  | with_reducible refine wt_or ?_))
local macro_rules | `(tactic| walk_at "ws") => `(tactic| (first
  | with_reducible refine ws_seq ?_
  | with_reducible refine ws_asg ?_
  | with_reducible refine ws_if ?_
  | with_reducible refine ws_ret ?_
  | with_reducible refine ws_next ?_
  | with_reducible refine ws_drop ?_
  | with_reducible refine ws_par ?_))
local macro_rules | `(tactic| walk_at "no") => `(tactic| first
  | (intro hb; exact Bool.noConfusion (show (true : Bool) = false from hb))
  | (intro hb; exact Bool.noConfusion (show (false : Bool) = true from hb)))
local macro_rules | `(tactic| walk_at "br") => `(tactic| first
  | (refine ⟨?_, ?no⟩; (case no => walk_at "no"); (intro _))
  | (refine ⟨?no, ?_⟩; (case no => walk_at "no"); (intro _)))
local macro_rules | `(tactic| walk_at "ex") => `(tactic| first
  | (refine ⟨_, rfl, ?_⟩)
  | (refine ⟨_, _, rfl, rfl, ?_⟩)
  | (refine ⟨_, _, rfl, ?_⟩)
  | (refine ⟨_, _, _, rfl, ?_⟩)
  | (refine ⟨_, _, _, _, rfl, ?_⟩)
  | (refine ⟨_, .inr rfl, ?_⟩)
  | (refine ⟨_, .inl rfl, ?_⟩))
local macro_rules | `(tactic| walk_at "r") => `(tactic| repeat (first
  | ((with_reducible show MW.WE _ _ _ _ _); walk_at "we")
  | ((with_reducible show MW.Op2 _ _ _ _ _ _ _); walk_at "op2")
  | ((with_reducible show MW.WS _ _ _ _ _); walk_at "ws")
  | ((with_reducible show MW.WA _ _ _ _ _); first | with_reducible refine wa_cons ?_ | with_reducible refine wa_nil ?_)
  | ((with_reducible show MW.WT _ _ _ _ _); walk_at "wt")
  | ((with_reducible show Exists _); walk_at "ex")
  | ((with_reducible show And _ _); first | walk_at "br" | (refine ⟨by decide, ?_⟩) | (refine ⟨.inl ⟨_, rfl⟩, ?_⟩) | (refine ⟨.inr (.inl ⟨_, rfl⟩), ?_⟩) | (refine ⟨.inr (.inr ⟨_, rfl⟩), ?_⟩))
  | walk_at "norm1"
  | walk_at "ex"))
local macro_rules | `(tactic| walk_at "le") => `(tactic| ((try refine ⟨rfl, ?_⟩); repeat (first | exact Le.nil | refine Le.eq ?_ | refine Le.any ?_)))

theorem sc_p_walked : FnScope ["value", "path", "deep", "met", "places", "number", "place"] ["value", "path", "deep", "met"] (defScope s_p_walked) := ⟨rfl, rfl, rfl, by decide +kernel, rfl, by decide +kernel, by decide +kernel⟩
def sp_p_walked (n : Nat) : SpecD := fun ds R => ∃ (s : S) (path : List D) (deep met : Nat), ds = [s.d, .tup path, .int deep, .int met] ∧ s.depth ≤ n ∧ s.ok = true ∧ path.length + s.depth ≤ 100 ∧ deep + s.depth ≤ 11 ∧ met + s.parts ≤ 60 ∧ R (.int (met + s.parts : Nat))
theorem ok_p_walked {P : Program} {w : World} {K : PySem.W.Frag} {mg : Str → Option Value} {base h : Heap} (T : Tx K mg h) {n : Nat} (o_p_single : Ok P w K mg base "single" ["sort"] (n + 1) (SpP K (sp_p_single n))) (o_p_part_places : Ok P w K mg base "part_places" ["value"] 2 (SpP K sp_p_part_places)) (o_p_walked : Ok P w K mg base "walked" ["value", "path", "deep", "met"] (n + 4) (SpP K (sp_p_walked n))) :
    Ok P w K mg base "walked" ["value", "path", "deep", "met"] ((n + 1) + 4) (SpP K (sp_p_walked (n + 1))) := by
  obtain ⟨fd, F⟩ := T.c.def_ 4 (d := d_p_walked) rfl
  have F : FnP K "walked" s_p_walked (He.ga K "walked") fd := F
  have len : ∀ ds R, sp_p_walked (n + 1) ds R → ds.length = 4 := (fun ds R h => by obtain ⟨_, _, _, _, rfl, _⟩ := h; rfl)
  refine Ok.of F (He.glo_ok T.X T.G (T.c.fact 4 (f := .glo "walked") rfl)) (FunD.bindsN F fun _ _ _ _ _ _ us hl => match us, hl with | [_, _, _, _], _ => rfl)
    (FunD.ok F sc_p_walked (fun vs H Q E h => lenP (n := 4) h len) (fun cdv A outer s H vs Q E hr hq => ⟨_, PSs.nox (pss_cons (ps_if (pt_cmpR op_gt (pv 2) (pe_gi (by rfl) T.MOST_DEEP) (by rfl)) (pss_one ps_never) pss_nil)
    (pss_cons (ps_if (pt_cmpR op_eq (pv 3) (pe_gi (by rfl) T.MOST_PARTS) (by rfl)) (pss_one ps_never) pss_nil)
    (pss_cons (ps_set (i := 4) sc_p_walked.nd rfl (by first | exact .inl rfl | exact .inr rfl) (pe_cl o_p_part_places (hr.mono (by omega)) (by rfl) (pa_cons (pv 0) pa_nil)))
    (pss_cons (ps_if (pt_cmpR op_isN (pv 4) pe_non (by rfl)) (pss_one ps_never) pss_nil)
    (pss_cons (ps_set (i := 5) sc_p_walked.nd rfl (by first | exact .inl rfl | exact .inr rfl) (pe_op op_add (pv 3) pe_int))
    (pss_cons (ps_for PassesOwn.never (by rfl) (pi_tup (pv 4)) (pg_name (i := 6) sc_p_walked.nd rfl (by first | exact .inl rfl | exact .inr rfl)) (pss_cons (ps_set (i := 5) sc_p_walked.nd rfl (by first | exact .inl rfl | exact .inr rfl) (pe_cl o_p_walked (hr.mono (by omega)) (by rfl) (pa_cons (pe_ix ix_tup (pv 0) (pv 6) (fun _ _ => rfl)) (pa_cons (pe_op op_catA (pv 1) (pe_tup (pa_cons (pv 6) pa_nil))) (pa_cons (pe_op op_add (pv 2) pe_int) (pa_cons (pv 5) pa_nil))))))
    (pss_one (ps_if (PW.pt (pw_and (pt_cmpR op_in_seq (pe_ix ix_tup (pv 0) pe_int (fun _ _ => rfl)) (pe_tup (pa_cons pe_str (pa_cons pe_str pa_nil))) (by rfl)) (pw_and1 (pt_not (pt_val (pe_cl o_p_single (hr.mono (by omega)) (by rfl) (pa_cons (pe_ix ix_tup (pv 0) pe_int (fun _ _ => rfl)) pa_nil))))))) (pss_one ps_never) pss_nil))))
    (pss_one (ps_ret (pv 5))))))))), ?_⟩))
  refine fn_run (n := 4) hq len (by decide) fun ds R hs => ?_
  try dsimp only [cxOf]
  obtain ⟨s, path, deep, met, rfl, hd, hk, hp, hdd, hm, hR⟩ := hs
  have hd1 := s.depth_pos
  have hp1 := s.parts_pos
  show WS K _ 0 [.sh s.d, .sh _, .sh _, .sh _, .any, .any, .any] _
  refine ws_seq ?_
  walk_at "r"
  refine br_f (decide_eq_false (by omega)) ?_
  walk_at "r"
  refine br_f (decide_eq_false (by omega)) ?_
  walk_at "r"
  refine ⟨hk, ?_⟩
  walk_at "r"
  refine ws_unrollT ?_
  walk_at "r"
  cases s with
  | ei a b =>
    simp only [S.depth] at hd hp hdd
    simp only [S.parts] at hm hR
    have hk2 : a.ok = true ∧ b.ok = true := by simp only [S.ok, Bool.and_eq_true] at hk; exact hk
    have ha := a.parts_pos
    have hb := b.parts_pos
    dsimp only [S.places, S.d, Unr]
    walk_at "r"
    refine ⟨by omega, hk2.1, by simp only [List.length_append, List.length_cons, List.length_nil]; omega, by omega, by omega, ?_⟩
    walk_at "r"
    walk_at "r"
    refine ⟨by omega, hk2.2, by simp only [List.length_append, List.length_cons, List.length_nil]; omega, by omega, by omega, ?_⟩
    walk_at "r"
    walk_at "r"
    have e : ((met + 1 + a.parts + b.parts : Nat) : Int) = ((met + (a.parts + b.parts + 1) : Nat) : Int) := by omega
    rw [e]
    exact hR
  | pr a b =>
    simp only [S.depth] at hd hp hdd
    simp only [S.parts] at hm hR
    have hk2 : a.ok = true ∧ b.ok = true := by simp only [S.ok, Bool.and_eq_true] at hk; exact hk
    have ha := a.parts_pos
    have hb := b.parts_pos
    dsimp only [S.places, S.d, Unr]
    walk_at "r"
    refine ⟨by omega, hk2.1, by simp only [List.length_append, List.length_cons, List.length_nil]; omega, by omega, by omega, ?_⟩
    walk_at "r"
    walk_at "r"
    refine ⟨by omega, hk2.2, by simp only [List.length_append, List.length_cons, List.length_nil]; omega, by omega, by omega, ?_⟩
    walk_at "r"
    walk_at "r"
    have e : ((met + 1 + a.parts + b.parts : Nat) : Int) = ((met + (a.parts + b.parts + 1) : Nat) : Int) := by omega
    rw [e]
    exact hR
  | li k a =>
    simp only [S.depth] at hd hp hdd
    simp only [S.parts] at hm hR
    have hk2 : a.ok = true := by simp only [S.ok, Bool.and_eq_true] at hk; exact hk.2
    have ha := a.parts_pos
    dsimp only [S.places, S.d, Unr]
    walk_at "r"
    refine ⟨by omega, hk2, by simp only [List.length_append, List.length_cons, List.length_nil]; omega, by omega, by omega, ?_⟩
    walk_at "r"
    walk_at "r"
    have e : ((met + 1 + a.parts : Nat) : Int) = ((met + (a.parts + 1) : Nat) : Int) := by omega
    rw [e]
    exact hR
  | fam k a =>
    simp only [S.depth] at hd hp hdd
    simp only [S.parts] at hm hR
    have hk2 : a.ok = true := by simp only [S.ok, Bool.and_eq_true] at hk; exact hk.1.2
    have ha := a.parts_pos
    dsimp only [S.places, S.d, Unr]
    walk_at "r"
    refine ⟨by omega, hk2, by simp only [List.length_append, List.length_cons, List.length_nil]; omega, by omega, by omega, ?_⟩
    walk_at "r"
    refine ⟨by omega, ?_⟩
    have hs1 : a.single = true := by simp only [S.ok, Bool.and_eq_true] at hk; exact hk.2
    refine ⟨_, rfl, ?_⟩
    refine br_f (by rw [hs1]; rfl) ?_
    walk_at "r"
    walk_at "r"
    have e : ((met + 1 + a.parts : Nat) : Int) = ((met + (a.parts + 1) : Nat) : Int) := by omega
    rw [e]
    exact hR
  | heap k a =>
    simp only [S.depth] at hd hp hdd
    simp only [S.parts] at hm hR
    have hk2 : a.ok = true := by simp only [S.ok, Bool.and_eq_true] at hk; exact hk.1.2
    have ha := a.parts_pos
    dsimp only [S.places, S.d, Unr]
    walk_at "r"
    refine ⟨by omega, hk2, by simp only [List.length_append, List.length_cons, List.length_nil]; omega, by omega, by omega, ?_⟩
    walk_at "r"
    refine ⟨by omega, ?_⟩
    have hs1 : a.single = true := by simp only [S.ok, Bool.and_eq_true] at hk; exact hk.2
    refine ⟨_, rfl, ?_⟩
    refine br_f (by rw [hs1]; rfl) ?_
    walk_at "r"
    walk_at "r"
    have e : ((met + 1 + a.parts : Nat) : Int) = ((met + (a.parts + 1) : Nat) : Int) := by omega
    rw [e]
    exact hR
  | none =>
    dsimp only [S.places, S.d, Unr]
    walk_at "r"
    exact hR
  | one =>
    dsimp only [S.places, S.d, Unr]
    walk_at "r"
    exact hR
  | sub k =>
    dsimp only [S.places, S.d, Unr]
    walk_at "r"
    exact hR
  | bag k =>
    dsimp only [S.places, S.d, Unr]
    walk_at "r"
    exact hR
  | rounds k =>
    dsimp only [S.places, S.d, Unr]
    walk_at "r"
    exact hR
  | trees =>
    dsimp only [S.places, S.d, Unr]
    walk_at "r"
    exact hR
  | rooted =>
    dsimp only [S.places, S.d, Unr]
    walk_at "r"
    exact hR
theorem all_p_walked {P : Program} {w : World} {K : PySem.W.Frag} {mg : Str → Option Value} {base h : Heap} (T : Tx K mg h) (o_p_single : ∀ n : Nat, Ok P w K mg base "single" ["sort"] (n + 1) (SpP K (sp_p_single n))) (o_p_part_places : Ok P w K mg base "part_places" ["value"] 2 (SpP K sp_p_part_places)) : ∀ n : Nat, Ok P w K mg base "walked" ["value", "path", "deep", "met"] (n + 4) (SpP K (sp_p_walked n))
  | 0 => by
    obtain ⟨fd, F⟩ := T.c.def_ 4 (d := d_p_walked) rfl
    have F : FnP K "walked" s_p_walked (He.ga K "walked") fd := F
    refine Ok.none F (He.glo_ok T.X T.G (T.c.fact 4 (f := .glo "walked") rfl)) (FunD.bindsN F fun _ _ _ _ _ _ us hl => match us, hl with | [_, _, _, _], _ => rfl) (fun ds R h => by
      obtain ⟨s, _, _, _, rfl, hd, _⟩ := h
      have := s.depth_pos
      omega)
  | n + 1 => ok_p_walked T (o_p_single n) o_p_part_places (all_p_walked T o_p_single o_p_part_places n)
end ME
end
section
set_option Elab.async false
set_option linter.all false
set_option maxRecDepth 100000
set_option maxHeartbeats 4000000
namespace ME
open PySem L2 MW
local macro_rules | `(tactic| walk_at "norm1") => `(tactic| dsimp only [Then, LoopP, FnPost, FnPostS])
local macro_rules | `(tactic| walk_at "mul") => `(tactic| (first
  | exact Or.inl ⟨by omega, by omega⟩
  | exact Or.inr ⟨by omega, by omega⟩))
local macro_rules | `(tactic| walk_at "we") => `(tactic| (first
  | ((with_reducible refine we_var (d := ?d) ?he ?_); (case he => exact rfl))
  | with_reducible refine we_int ?_
  | with_reducible refine we_str ?_
  | with_reducible refine we_op ?_
  | with_reducible refine we_cl ?_
  | with_reducible refine we_tup ?_
  | with_reducible refine we_bl ?_
  | with_reducible refine we_non ?_
  | with_reducible refine we_if ?_
  | ((with_reducible refine we_lenO (ds := ?ds) ?he ?_); (case he => exact rfl))
  | with_reducible refine we_len ?_
  | with_reducible refine we_int1 ?_
  | with_reducible refine we_andV ?_
  | with_reducible refine we_orV ?_
  | with_reducible refine we_notV ?_
  | with_reducible refine we_neg ?_
  | with_reducible refine we_chain ?_
  | with_reducible refine we_dget ?_
  | ((with_reducible refine we_dget2O (t := ?t) ?he ?_); (case he => exact rfl))
  | ((with_reducible refine we_dget2I (t := ?t) ?he ?_); (case he => exact rfl))
  | with_reducible refine we_dget2 ?_
  | ((with_reducible refine we_isi ?ht ?_); (case ht => first | exact .inl rfl | exact .inr (.inl rfl) | exact .inr (.inr (.inl rfl)) | exact .inr (.inr (.inr rfl))))
  | ((with_reducible refine we_clS ?he ?_); (case he => exact rfl))
  | with_reducible refine we_max2 ?_))
local macro_rules | `(tactic| walk_at "op2") => `(tactic| (first
  | ((with_reducible refine o_ixT (d := ?d) ?he ?_); (case he => exact rfl))
  | with_reducible refine o_eqS ?_
  | with_reducible refine o_eqI ?_
  | with_reducible refine o_add ?_
  | with_reducible refine o_sub ?_
  | ((with_reducible refine o_inT (x := ?x) (xs := ?xs) ?hx ?hs ?_); (case hx => exact rfl); (case hs => exact rfl))
  | ((with_reducible refine o_mul ?hc ?_); (case hc => walk_at "mul"))
  | ((with_reducible refine o_mod ?hc ?_); (case hc => omega))
  | ((with_reducible refine o_div ?hc ?_); (case hc => exact ⟨by omega, by omega⟩))
  | with_reducible refine o_lt ?_
  | with_reducible refine o_le ?_
  | with_reducible refine o_gt ?_
  | with_reducible refine o_ge ?_
  | with_reducible refine o_neI ?_
  | ((with_reducible refine o_ixL (d := ?d) ?he ?_); (case he => exact rfl))
  | ((with_reducible refine o_inL (x := ?x) (xs := ?xs) ?hx ?hs ?_); (case hx => exact rfl); (case hs => exact rfl))
  | ((with_reducible refine o_catT ?hl ?_); (case hl => (simp only [List.length_cons, List.length_nil]; omega)))
  | with_reducible refine o_isNT ?_))
local macro_rules | `(tactic| walk_at "wt") => `(tactic| (first
  | with_reducible refine wt_test ?_
  | with_reducible refine wt_B ?_
  | with_reducible refine wt_not ?_
  | with_reducible refine wt_and ?_
  | with_reducible refine wt_or ?_))
local macro_rules | `(tactic| walk_at "ws") => `(tactic| (first
  | with_reducible refine ws_seq ?_
  | with_reducible refine ws_asg ?_
  | with_reducible refine ws_if ?_
  | with_reducible refine ws_ret ?_
  | with_reducible refine ws_next ?_
  | with_reducible refine ws_drop ?_
  | with_reducible refine ws_par ?_))
local macro_rules | `(tactic| walk_at "no") => `(tactic| first
  | (intro hb; exact Bool.noConfusion (show (true : Bool) = false from hb))
  | (intro hb; exact Bool.noConfusion (show (false : Bool) = true from hb)))
local macro_rules | `(tactic| walk_at "br") => `(tactic| first
  | (refine ⟨?_, ?no⟩; (case no => walk_at "no"); (intro _))
  | (refine ⟨?no, ?_⟩; (case no => walk_at "no"); (intro _)))
local macro_rules | `(tactic| walk_at "ex") => `(tactic| first
  | (refine ⟨_, rfl, ?_⟩)
  | (refine ⟨_, _, rfl, rfl, ?_⟩)
  | (refine ⟨_, _, rfl, ?_⟩)
  | (refine ⟨_, _, _, rfl, ?_⟩)
  | (refine ⟨_, _, _, _, rfl, ?_⟩)
  | (refine ⟨_, .inr rfl, ?_⟩)
  | (refine ⟨_, .inl rfl, ?_⟩))
local macro_rules | `(tactic| walk_at "r") => `(tactic| repeat (first
  | ((with_reducible show MW.WE _ _ _ _ _); walk_at "we")
  | ((with_reducible show MW.Op2 _ _ _ _ _ _ _); walk_at "op2")
  | ((with_reducible show MW.WS _ _ _ _ _); walk_at "ws")
  | ((with_reducible show MW.WA _ _ _ _ _); first | with_reducible refine wa_cons ?_ | with_reducible refine wa_nil ?_)
  | ((with_reducible show MW.WT _ _ _ _ _); walk_at "wt")
  | ((with_reducible show Exists _); walk_at "ex")
  | ((with_reducible show And _ _); first | walk_at "br" | (refine ⟨by decide, ?_⟩) | (refine ⟨.inl ⟨_, rfl⟩, ?_⟩) | (refine ⟨.inr (.inl ⟨_, rfl⟩), ?_⟩) | (refine ⟨.inr (.inr ⟨_, rfl⟩), ?_⟩))
  | walk_at "norm1"
  | walk_at "ex"))
local macro_rules | `(tactic| walk_at "le") => `(tactic| repeat (first | exact Le.nil | refine Le.eq ?_ | refine Le.any ?_))

theorem sc_p_marks_of : FnScope ["many", "sort", "word", "first", "second"] ["many", "sort"] (defScope s_p_marks_of) := ⟨rfl, rfl, rfl, by decide +kernel, rfl, by decide +kernel, by decide +kernel⟩
def sp_p_marks_of (n : Nat) : SpecD := fun ds R => ∃ (s : S) (N : Nat), ds = [.int N, s.d] ∧ s.depth ≤ n ∧ s.ok = true ∧ N ≤ 5 ∧ R (.int (s.marks N))
theorem ok_p_marks_of {P : Program} {w : World} {K : PySem.W.Frag} {mg : Str → Option Value} {base h : Heap} (T : Tx K mg h) {n : Nat} (o_p_marks_of : Ok P w K mg base "marks_of" ["many", "sort"] (n + 1) (SpP K (sp_p_marks_of n))) :
    Ok P w K mg base "marks_of" ["many", "sort"] ((n + 1) + 1) (SpP K (sp_p_marks_of (n + 1))) := by
  obtain ⟨fd, F⟩ := T.c.def_ 5 (d := d_p_marks_of) rfl
  have F : FnP K "marks_of" s_p_marks_of (He.ga K "marks_of") fd := F
  have len : ∀ ds R, sp_p_marks_of (n + 1) ds R → ds.length = 2 := (fun ds R h => by obtain ⟨_, _, rfl, _⟩ := h; rfl)
  refine Ok.of F (He.glo_ok T.X T.G (T.c.fact 5 (f := .glo "marks_of") rfl)) (FunD.bindsN F fun _ _ _ _ _ _ us hl => match us, hl with | [_, _], _ => rfl)
    (FunD.ok F sc_p_marks_of (fun vs H Q E h => lenP (n := 2) h len) (fun cdv A outer s H vs Q E hr hq => ⟨_, PSs.nox (pss_cons (ps_set (i := 2) sc_p_marks_of.nd rfl (by first | exact .inl rfl | exact .inr rfl) (pe_ix ix_tup (pv 1) pe_int (fun _ _ => rfl)))
    (pss_cons (ps_if (pt_cmpR op_in_seq (pv 2) (pe_tup (pa_cons pe_str (pa_cons pe_str pa_nil))) (by rfl)) (pss_one (ps_ret (pe_ix ix_tup (pv 1) pe_int (fun _ _ => rfl)))) pss_nil)
    (pss_cons (ps_if (pt_cmpR op_in_seq (pv 2) (pe_tup (pa_cons pe_str (pa_cons pe_str pa_nil))) (by rfl)) (pss_cons (ps_par (i := 3) (j := 4) (by rfl) sc_p_marks_of.nd rfl rfl (by decide) rfl rfl (pa_cons (pe_cl o_p_marks_of (hr.mono (by omega)) (by rfl) (pa_cons (pv 0) (pa_cons (pe_ix ix_tup (pv 1) pe_int (fun _ _ => rfl)) pa_nil))) (pa_cons (pe_cl o_p_marks_of (hr.mono (by omega)) (by rfl) (pa_cons (pv 0) (pa_cons (pe_ix ix_tup (pv 1) pe_int (fun _ _ => rfl)) pa_nil))) pa_nil)) (by rfl))
    (pss_one (ps_ret (pe_ifExp (pt_cmpR op_eq (pv 2) pe_str (by rfl)) (pe_callB (call_max2 (by rfl)) (by rfl) T.max_ (by decide +kernel) (pa_cons (pv 3) (pa_cons (pv 4) pa_nil))) (pe_op op_add (pv 3) (pv 4)))))) pss_nil)
    (pss_cons (ps_if (pt_cmpR op_in_seq (pv 2) (pe_tup (pa_cons pe_str (pa_cons pe_str (pa_cons pe_str pa_nil)))) (by rfl)) (pss_one (ps_ret (pe_op op_mul (pe_ix ix_tup (pv 1) pe_int (fun _ _ => rfl)) (pe_cl o_p_marks_of (hr.mono (by omega)) (by rfl) (pa_cons (pv 0) (pa_cons (pe_ix ix_tup (pv 1) pe_int (fun _ _ => rfl)) pa_nil)))))) pss_nil)
    (pss_cons (ps_if (pt_cmpR op_eq (pv 2) pe_str (by rfl)) (pss_one (ps_ret (pe_op op_fdiv (pe_op op_mul (pe_op op_mul (pe_ix ix_tup (pv 1) pe_int (fun _ _ => rfl)) (pv 0)) (pe_op op_sub (pv 0) pe_int)) pe_int))) pss_nil)
    (pss_cons (ps_if (pt_cmpR op_eq (pv 2) pe_str (by rfl)) (pss_one (ps_ret (pe_op op_mul pe_int (pe_op op_sub (pv 0) pe_int)))) pss_nil)
    (pss_cons (ps_if (pt_cmpR op_eq (pv 2) pe_str (by rfl)) (pss_one (ps_ret (pe_op op_sub (pv 0) pe_int))) pss_nil)
    (pss_one (ps_ret (pe_ifExp (pt_cmpR op_eq (pv 2) pe_str (by rfl)) pe_int pe_int)))))))))), ?_⟩))
  refine fn_run (n := 2) hq len (by decide) fun ds R hs => ?_
  try dsimp only [cxOf]
  obtain ⟨s, N, rfl, hd, hk, hN, hR⟩ := hs
  cases s with
  | ei a b =>
    simp only [S.depth] at hd
    have hk2 : a.ok = true ∧ b.ok = true := by simp only [S.ok, Bool.and_eq_true] at hk; exact hk
    show WS K _ 0 [.sh _, .sh (.tup _), .any, .any, .any] _
    walk_at "r"
    refine ⟨by omega, hk2.1, hN, ?_⟩
    walk_at "r"
    refine ⟨by omega, hk2.2, hN, ?_⟩
    walk_at "r"
    exact hR
  | pr a b =>
    simp only [S.depth] at hd
    have hk2 : a.ok = true ∧ b.ok = true := by simp only [S.ok, Bool.and_eq_true] at hk; exact hk
    show WS K _ 0 [.sh _, .sh (.tup _), .any, .any, .any] _
    walk_at "r"
    refine ⟨by omega, hk2.1, hN, ?_⟩
    walk_at "r"
    refine ⟨by omega, hk2.2, hN, ?_⟩
    walk_at "r"
    exact hR
  | li k a =>
    simp only [S.depth] at hd
    have hk2 : k ≤ 12 ∧ a.ok = true := by simp only [S.ok, Bool.and_eq_true, decide_eq_true_eq] at hk; exact hk
    show WS K _ 0 [.sh _, .sh (.tup _), .any, .any, .any] _
    walk_at "r"
    refine ⟨by omega, hk2.2, hN, ?_⟩
    walk_at "r"
    exact hR
  | fam k a =>
    simp only [S.depth] at hd
    have hk2 : k ≤ 12 ∧ a.ok = true := by simp only [S.ok, Bool.and_eq_true, decide_eq_true_eq] at hk; exact hk.1
    show WS K _ 0 [.sh _, .sh (.tup _), .any, .any, .any] _
    walk_at "r"
    refine ⟨by omega, hk2.2, hN, ?_⟩
    walk_at "r"
    exact hR
  | heap k a =>
    simp only [S.depth] at hd
    have hk2 : k ≤ 12 ∧ a.ok = true := by simp only [S.ok, Bool.and_eq_true, decide_eq_true_eq] at hk; exact hk.1
    show WS K _ 0 [.sh _, .sh (.tup _), .any, .any, .any] _
    walk_at "r"
    refine ⟨by omega, hk2.2, hN, ?_⟩
    walk_at "r"
    exact hR
  | sub k =>
    show WS K _ 0 [.sh _, .sh (.tup _), .any, .any, .any] _
    walk_at "r"
    exact hR
  | bag k =>
    show WS K _ 0 [.sh _, .sh (.tup _), .any, .any, .any] _
    walk_at "r"
    exact hR
  | none =>
    show WS K _ 0 [.sh _, .sh (.tup _), .any, .any, .any] _
    walk_at "r"
    exact hR
  | one =>
    show WS K _ 0 [.sh _, .sh (.tup _), .any, .any, .any] _
    walk_at "r"
    exact hR
  | trees =>
    show WS K _ 0 [.sh _, .sh (.tup _), .any, .any, .any] _
    walk_at "r"
    exact hR
  | rooted =>
    show WS K _ 0 [.sh _, .sh (.tup _), .any, .any, .any] _
    walk_at "r"
    exact hR
  | rounds k =>
    have hk2 : 1 ≤ k ∧ k ≤ 2 := by simp only [S.ok, Bool.and_eq_true, decide_eq_true_eq] at hk; exact hk
    show WS K _ 0 [.sh _, .sh (.tup _), .any, .any, .any] _
    walk_at "r"
    exact hR
theorem all_p_marks_of {P : Program} {w : World} {K : PySem.W.Frag} {mg : Str → Option Value} {base h : Heap} (T : Tx K mg h)  : ∀ n : Nat, Ok P w K mg base "marks_of" ["many", "sort"] (n + 1) (SpP K (sp_p_marks_of n))
  | 0 => by
    obtain ⟨fd, F⟩ := T.c.def_ 5 (d := d_p_marks_of) rfl
    have F : FnP K "marks_of" s_p_marks_of (He.ga K "marks_of") fd := F
    refine Ok.none F (He.glo_ok T.X T.G (T.c.fact 5 (f := .glo "marks_of") rfl)) (FunD.bindsN F fun _ _ _ _ _ _ us hl => match us, hl with | [_, _], _ => rfl) (fun ds R h => by
      obtain ⟨s, _, rfl, hd, _⟩ := h
      have := s.depth_pos
      omega)
  | n + 1 => ok_p_marks_of T  (all_p_marks_of T  n)
theorem sc_p_width_of : FnScope ["sort", "word", "first", "second"] ["sort"] (defScope s_p_width_of) := ⟨rfl, rfl, rfl, by decide +kernel, rfl, by decide +kernel, by decide +kernel⟩
def sp_p_width_of (n : Nat) : SpecD := fun ds R => ∃ (s : S), ds = [s.d] ∧ s.depth ≤ n ∧ s.ok = true ∧ R (.int s.width)
theorem ok_p_width_of {P : Program} {w : World} {K : PySem.W.Frag} {mg : Str → Option Value} {base h : Heap} (T : Tx K mg h) {n : Nat} (o_p_width_of : Ok P w K mg base "width_of" ["sort"] (n + 1) (SpP K (sp_p_width_of n))) :
    Ok P w K mg base "width_of" ["sort"] ((n + 1) + 1) (SpP K (sp_p_width_of (n + 1))) := by
  obtain ⟨fd, F⟩ := T.c.def_ 6 (d := d_p_width_of) rfl
  have F : FnP K "width_of" s_p_width_of (He.ga K "width_of") fd := F
  have len : ∀ ds R, sp_p_width_of (n + 1) ds R → ds.length = 1 := (fun ds R h => by obtain ⟨_, rfl, _⟩ := h; rfl)
  refine Ok.of F (He.glo_ok T.X T.G (T.c.fact 6 (f := .glo "width_of") rfl)) (FunD.bindsN F fun _ _ _ _ _ _ us hl => match us, hl with | [_], _ => rfl)
    (FunD.ok F sc_p_width_of (fun vs H Q E h => lenP (n := 1) h len) (fun cdv A outer s H vs Q E hr hq => ⟨_, PSs.nox (pss_cons (ps_set (i := 1) sc_p_width_of.nd rfl (by first | exact .inl rfl | exact .inr rfl) (pe_ix ix_tup (pv 0) pe_int (fun _ _ => rfl)))
    (pss_cons (ps_if (pt_cmpR op_in_seq (pv 1) (pe_tup (pa_cons pe_str (pa_cons pe_str pa_nil))) (by rfl)) (pss_cons (ps_par (i := 2) (j := 3) (by rfl) sc_p_width_of.nd rfl rfl (by decide) rfl rfl (pa_cons (pe_cl o_p_width_of (hr.mono (by omega)) (by rfl) (pa_cons (pe_ix ix_tup (pv 0) pe_int (fun _ _ => rfl)) pa_nil)) (pa_cons (pe_cl o_p_width_of (hr.mono (by omega)) (by rfl) (pa_cons (pe_ix ix_tup (pv 0) pe_int (fun _ _ => rfl)) pa_nil)) pa_nil)) (by rfl))
    (pss_one (ps_ret (pe_ifExp (pt_cmpR op_eq (pv 1) pe_str (by rfl)) (pe_callB (call_max2 (by rfl)) (by rfl) T.max_ (by decide +kernel) (pa_cons (pv 2) (pa_cons (pv 3) pa_nil))) (pe_op op_add (pv 2) (pv 3)))))) pss_nil)
    (pss_cons (ps_if (pt_cmpR op_in_seq (pv 1) (pe_tup (pa_cons pe_str (pa_cons pe_str (pa_cons pe_str pa_nil)))) (by rfl)) (pss_one (ps_ret (pe_op op_mul (pe_ix ix_tup (pv 0) pe_int (fun _ _ => rfl)) (pe_cl o_p_width_of (hr.mono (by omega)) (by rfl) (pa_cons (pe_ix ix_tup (pv 0) pe_int (fun _ _ => rfl)) pa_nil))))) pss_nil)
    (pss_one (ps_ret pe_int))))), ?_⟩))
  refine fn_run (n := 1) hq len (by decide) fun ds R hs => ?_
  try dsimp only [cxOf]
  obtain ⟨s, rfl, hd, hk, hR⟩ := hs
  cases s with
  | ei a b =>
    simp only [S.depth] at hd
    have hk2 : a.ok = true ∧ b.ok = true := by simp only [S.ok, Bool.and_eq_true] at hk; exact hk
    show WS K _ 0 [.sh (.tup _), .any, .any, .any] _
    walk_at "r"
    refine ⟨by omega, hk2.1, ?_⟩
    walk_at "r"
    refine ⟨by omega, hk2.2, ?_⟩
    walk_at "r"
    exact hR
  | pr a b =>
    simp only [S.depth] at hd
    have hk2 : a.ok = true ∧ b.ok = true := by simp only [S.ok, Bool.and_eq_true] at hk; exact hk
    show WS K _ 0 [.sh (.tup _), .any, .any, .any] _
    walk_at "r"
    refine ⟨by omega, hk2.1, ?_⟩
    walk_at "r"
    refine ⟨by omega, hk2.2, ?_⟩
    walk_at "r"
    exact hR
  | li k a =>
    simp only [S.depth] at hd
    have hk2 : k ≤ 12 ∧ a.ok = true := by simp only [S.ok, Bool.and_eq_true, decide_eq_true_eq] at hk; exact hk
    show WS K _ 0 [.sh (.tup _), .any, .any, .any] _
    walk_at "r"
    refine ⟨by omega, hk2.2, ?_⟩
    walk_at "r"
    exact hR
  | fam k a =>
    simp only [S.depth] at hd
    have hk2 : k ≤ 12 ∧ a.ok = true := by simp only [S.ok, Bool.and_eq_true, decide_eq_true_eq] at hk; exact hk.1
    show WS K _ 0 [.sh (.tup _), .any, .any, .any] _
    walk_at "r"
    refine ⟨by omega, hk2.2, ?_⟩
    walk_at "r"
    exact hR
  | heap k a =>
    simp only [S.depth] at hd
    have hk2 : k ≤ 12 ∧ a.ok = true := by simp only [S.ok, Bool.and_eq_true, decide_eq_true_eq] at hk; exact hk.1
    show WS K _ 0 [.sh (.tup _), .any, .any, .any] _
    walk_at "r"
    refine ⟨by omega, hk2.2, ?_⟩
    walk_at "r"
    exact hR
  | _ =>
    show WS K _ 0 [.sh (.tup _), .any, .any, .any] _
    walk_at "r"
    exact hR
theorem all_p_width_of {P : Program} {w : World} {K : PySem.W.Frag} {mg : Str → Option Value} {base h : Heap} (T : Tx K mg h)  : ∀ n : Nat, Ok P w K mg base "width_of" ["sort"] (n + 1) (SpP K (sp_p_width_of n))
  | 0 => by
    obtain ⟨fd, F⟩ := T.c.def_ 6 (d := d_p_width_of) rfl
    have F : FnP K "width_of" s_p_width_of (He.ga K "width_of") fd := F
    refine Ok.none F (He.glo_ok T.X T.G (T.c.fact 6 (f := .glo "width_of") rfl)) (FunD.bindsN F fun _ _ _ _ _ _ us hl => match us, hl with | [_], _ => rfl) (fun ds R h => by
      obtain ⟨s, rfl, hd, _⟩ := h
      have := s.depth_pos
      omega)
  | n + 1 => ok_p_width_of T  (all_p_width_of T  n)
end ME
end
section
set_option Elab.async false
set_option linter.all false
set_option maxRecDepth 100000
set_option maxHeartbeats 4000000
namespace ME
open PySem L2 MW
local macro_rules | `(tactic| walk_at "norm1") => `(tactic| dsimp only [Then, LoopP, FnPost, FnPostS])
local macro_rules | `(tactic| walk_at "mul") => `(tactic| (first
  | exact Or.inl ⟨by omega, by omega⟩
  | exact Or.inr ⟨by omega, by omega⟩))
local macro_rules | `(tactic| walk_at "we") => `(tactic| (first
  | ((with_reducible refine we_var (d := ?d) ?he ?_); (case he => exact rfl))
  | with_reducible refine we_int ?_
  | with_reducible refine we_str ?_
  | with_reducible refine we_op ?_
  | with_reducible refine we_cl ?_
  | with_reducible refine we_tup ?_
  | with_reducible refine we_bl ?_
  | with_reducible refine we_non ?_
  | with_reducible refine we_if ?_
  | ((with_reducible refine we_lenO (ds := ?ds) ?he ?_); (case he => exact rfl))
  | with_reducible refine we_len ?_
  | with_reducible refine we_int1 ?_
  | with_reducible refine we_andV ?_
  | with_reducible refine we_orV ?_
  | with_reducible refine we_notV ?_
  | with_reducible refine we_neg ?_
  | with_reducible refine we_chain ?_
  | with_reducible refine we_dget ?_
  | ((with_reducible refine we_dget2O (t := ?t) ?he ?_); (case he => exact rfl))
  | ((with_reducible refine we_dget2I (t := ?t) ?he ?_); (case he => exact rfl))
  | with_reducible refine we_dget2 ?_
  | ((with_reducible refine we_isi ?ht ?_); (case ht => first | exact .inl rfl | exact .inr (.inl rfl) | exact .inr (.inr (.inl rfl)) | exact .inr (.inr (.inr rfl))))
  | ((with_reducible refine we_clS ?he ?_); (case he => exact rfl))
  | with_reducible refine we_max2 ?_))
local macro_rules | `(tactic| walk_at "op2") => `(tactic| (first
  | ((with_reducible refine o_ixT (d := ?d) ?he ?_); (case he => exact rfl))
  | with_reducible refine o_eqS ?_
  | with_reducible refine o_eqI ?_
  | with_reducible refine o_add ?_
  | with_reducible refine o_sub ?_
  | ((with_reducible refine o_inT (x := ?x) (xs := ?xs) ?hx ?hs ?_); (case hx => exact rfl); (case hs => exact rfl))
  | ((with_reducible refine o_mul ?hc ?_); (case hc => walk_at "mul"))
  | ((with_reducible refine o_mod ?hc ?_); (case hc => omega))
  | ((with_reducible refine o_div ?hc ?_); (case hc => exact ⟨by omega, by omega⟩))
  | with_reducible refine o_lt ?_
  | with_reducible refine o_le ?_
  | with_reducible refine o_gt ?_
  | with_reducible refine o_ge ?_
  | with_reducible refine o_neI ?_
  | ((with_reducible refine o_ixL (d := ?d) ?he ?_); (case he => exact rfl))
  | ((with_reducible refine o_inL (x := ?x) (xs := ?xs) ?hx ?hs ?_); (case hx => exact rfl); (case hs => exact rfl))
  | ((with_reducible refine o_catT ?hl ?_); (case hl => (simp only [List.length_cons, List.length_nil]; omega)))
  | with_reducible refine o_isNT ?_))
local macro_rules | `(tactic| walk_at "wt") => `(tactic| (first
  | with_reducible refine wt_test ?_
  | with_reducible refine wt_B ?_
  | with_reducible refine wt_not ?_
  | with_reducible refine wt_and ?_
  | with_reducible refine wt_or ?_))
local macro_rules | `(tactic| walk_at "ws") => `(tactic| (first
  | with_reducible refine ws_seq ?_
  | with_reducible refine ws_asg ?_
  | with_reducible refine ws_if ?_
  | with_reducible refine ws_ret ?_
  | with_reducible refine ws_next ?_
  | with_reducible refine ws_drop ?_
  | with_reducible refine ws_par ?_))
local macro_rules | `(tactic| walk_at "no") => `(tactic| first
  | (intro hb; exact Bool.noConfusion (show (true : Bool) = false from hb))
  | (intro hb; exact Bool.noConfusion (show (false : Bool) = true from hb)))
local macro_rules | `(tactic| walk_at "br") => `(tactic| first
  | (refine ⟨?_, ?no⟩; (case no => walk_at "no"); (intro _))
  | (refine ⟨?no, ?_⟩; (case no => walk_at "no"); (intro _)))
local macro_rules | `(tactic| walk_at "ex") => `(tactic| first
  | (refine ⟨_, rfl, ?_⟩)
  | (refine ⟨_, _, rfl, rfl, ?_⟩)
  | (refine ⟨_, _, rfl, ?_⟩)
  | (refine ⟨_, _, _, rfl, ?_⟩)
  | (refine ⟨_, _, _, _, rfl, ?_⟩)
  | (refine ⟨_, .inr rfl, ?_⟩)
  | (refine ⟨_, .inl rfl, ?_⟩))
local macro_rules | `(tactic| walk_at "r") => `(tactic| repeat (first
  | ((with_reducible show MW.WE _ _ _ _ _); walk_at "we")
  | ((with_reducible show MW.Op2 _ _ _ _ _ _ _); walk_at "op2")
  | ((with_reducible show MW.WS _ _ _ _ _); walk_at "ws")
  | ((with_reducible show MW.WA _ _ _ _ _); first | with_reducible refine wa_cons ?_ | with_reducible refine wa_nil ?_)
  | ((with_reducible show MW.WT _ _ _ _ _); walk_at "wt")
  | ((with_reducible show Exists _); walk_at "ex")
  | ((with_reducible show And _ _); first | walk_at "br" | (refine ⟨by decide, ?_⟩) | (refine ⟨.inl ⟨_, rfl⟩, ?_⟩) | (refine ⟨.inr (.inl ⟨_, rfl⟩), ?_⟩) | (refine ⟨.inr (.inr ⟨_, rfl⟩), ?_⟩))
  | walk_at "norm1"
  | walk_at "ex"))
local macro_rules | `(tactic| walk_at "le") => `(tactic| ((try refine ⟨rfl, ?_⟩); repeat (first | exact Le.nil | refine Le.eq ?_ | refine Le.any ?_)))

theorem sc_p_bare_size : FnScope ["many", "sort", "word"] ["many", "sort"] (defScope s_p_bare_size) := ⟨rfl, rfl, rfl, by decide +kernel, rfl, by decide +kernel, by decide +kernel⟩
def sp_p_bare_size : SpecD := fun ds R => ∃ (s : S) (N : Nat), ds = [.int N, s.d] ∧ s.depth = 1 ∧ s.ok = true ∧ 2 ≤ N ∧ N ≤ 5 ∧ R (.int (s.size N))
theorem ok_p_bare_size {P : Program} {w : World} {K : PySem.W.Frag} {mg : Str → Option Value} {base h : Heap} (T : Tx K mg h) (o_p_power : Ok P w K mg base "power" ["base", "times"] 1 (SpP K sp_p_power)) (o_p_choices : Ok P w K mg base "choices" ["number", "times", "again"] 1 (SpP K sp_p_choices)) :
    Ok P w K mg base "bare_size" ["many", "sort"] 2 (SpP K sp_p_bare_size) := by
  obtain ⟨fd, F⟩ := T.c.def_ 9 (d := d_p_bare_size) rfl
  have F : FnP K "bare_size" s_p_bare_size (He.ga K "bare_size") fd := F
  have len : ∀ ds R, sp_p_bare_size ds R → ds.length = 2 := (fun ds R h => by obtain ⟨_, _, rfl, _⟩ := h; rfl)
  refine Ok.of F (He.glo_ok T.X T.G (T.c.fact 9 (f := .glo "bare_size") rfl)) (FunD.bindsN F fun _ _ _ _ _ _ us hl => match us, hl with | [_, _], _ => rfl)
    (FunD.ok F sc_p_bare_size (fun vs H Q E h => lenP (n := 2) h len) (fun cdv A outer s H vs Q E hr hq => ⟨_, PSs.nox (pss_cons (ps_set (i := 2) sc_p_bare_size.nd rfl (by first | exact .inl rfl | exact .inr rfl) (pe_ix ix_tup (pv 1) pe_int (fun _ _ => rfl)))
    (pss_cons (ps_if (pt_cmpR op_eq (pv 2) pe_str (by rfl)) (pss_one (ps_ret pe_int)) pss_nil)
    (pss_cons (ps_if (pt_cmpR op_eq (pv 2) pe_str (by rfl)) (pss_one (ps_ret (pv 0))) pss_nil)
    (pss_cons (ps_if (pt_cmpR op_in_seq (pv 2) (pe_tup (pa_cons pe_str (pa_cons pe_str pa_nil))) (by rfl)) (pss_one (ps_ret (pe_cl o_p_choices (hr.mono (by omega)) (by rfl) (pa_cons (pv 0) (pa_cons (pe_ix ix_tup (pv 1) pe_int (fun _ _ => rfl)) (pa_cons (pe_cmpR op_eq (pv 2) pe_str (by rfl)) pa_nil)))))) pss_nil)
    (pss_cons (ps_if (pt_cmpR op_eq (pv 2) pe_str (by rfl)) (pss_one (ps_ret (pe_cl o_p_power (hr.mono (by omega)) (by rfl) (pa_cons pe_int (pa_cons (pe_op op_fdiv (pe_op op_mul (pe_op op_mul (pe_ix ix_tup (pv 1) pe_int (fun _ _ => rfl)) (pv 0)) (pe_op op_sub (pv 0) pe_int)) pe_int) pa_nil))))) pss_nil)
    (pss_one (ps_ret (pe_cl o_p_power (hr.mono (by omega)) (by rfl) (pa_cons (pv 0) (pa_cons (pe_ifExp (pt_cmpR op_eq (pv 2) pe_str (by rfl)) (pe_op op_sub (pv 0) pe_int) (pe_op op_sub (pv 0) pe_int)) pa_nil)))))))))), ?_⟩))
  refine fn_run (n := 2) hq len (by decide) fun ds R hs => ?_
  try dsimp only [cxOf]
  obtain ⟨s, N, rfl, hd, hk, h2, hN, hR⟩ := hs
  cases s with
  | ei a b => have := a.depth_pos; simp only [S.depth] at hd; omega
  | pr a b => have := a.depth_pos; simp only [S.depth] at hd; omega
  | li k a => have := a.depth_pos; simp only [S.depth] at hd; omega
  | fam k a => have := a.depth_pos; simp only [S.depth] at hd; omega
  | heap k a => have := a.depth_pos; simp only [S.depth] at hd; omega
  | none =>
    show WS K _ 0 [.sh _, .sh (.tup _), .any] _
    walk_at "r"
    exact hR
  | one =>
    show WS K _ 0 [.sh _, .sh (.tup _), .any] _
    walk_at "r"
    exact hR
  | sub k =>
    have hk2 : k ≤ 12 := of_decide_eq_true hk
    show WS K _ 0 [.sh _, .sh (.tup _), .any] _
    walk_at "r"
    refine ⟨hk2, by omega, by omega, ?_⟩
    walk_at "r"
    exact hR
  | bag k =>
    have hk2 : k ≤ 12 := of_decide_eq_true hk
    show WS K _ 0 [.sh _, .sh (.tup _), .any] _
    walk_at "r"
    refine ⟨hk2, by omega, by omega, ?_⟩
    walk_at "r"
    exact hR
  | rounds k =>
    have hk2 : 1 ≤ k ∧ k ≤ 2 := by simp only [S.ok, Bool.and_eq_true, decide_eq_true_eq] at hk; exact hk
    have hb : 0 ≤ (k * N * (N - 1) / 2 : Int) ∧ (k * N * (N - 1) / 2 : Int) ≤ 1000 := by
      have h3 : N = 2 ∨ N = 3 ∨ N = 4 ∨ N = 5 := by omega
      rcases h3 with rfl | rfl | rfl | rfl <;> omega
    show WS K _ 0 [.sh _, .sh (.tup _), .any] _
    walk_at "r"
    refine ⟨hb.1, hb.2, by omega, ?_⟩
    walk_at "r"
    exact hR
  | trees =>
    show WS K _ 0 [.sh _, .sh (.tup _), .any] _
    walk_at "r"
    refine ⟨by omega, by omega, by omega, by omega, ?_⟩
    have e : ((N : Int) - 2).toNat = N - 2 := by omega
    rw [e]
    walk_at "r"
    exact hR
  | rooted =>
    show WS K _ 0 [.sh _, .sh (.tup _), .any] _
    walk_at "r"
    refine ⟨by omega, by omega, by omega, by omega, ?_⟩
    have e : ((N : Int) - 1).toNat = N - 1 := by omega
    rw [e]
    walk_at "r"
    exact hR
theorem sc_p_size_of : FnScope ["many", "sort", "word", "first", "second", "number"] ["many", "sort"] (defScope s_p_size_of) := ⟨rfl, rfl, rfl, by decide +kernel, rfl, by decide +kernel, by decide +kernel⟩
def sp_p_size_of (n : Nat) : SpecD := fun ds R => ∃ (s : S) (N : Nat), ds = [.int N, s.d] ∧ s.depth ≤ n ∧ s.ok = true ∧ 2 ≤ N ∧ N ≤ 5 ∧ s.small N ∧ R (.int (s.size N))
theorem ok_p_size_of {P : Program} {w : World} {K : PySem.W.Frag} {mg : Str → Option Value} {base h : Heap} (T : Tx K mg h) {n : Nat} (o_p_power : Ok P w K mg base "power" ["base", "times"] 1 (SpP K sp_p_power)) (o_p_choices : Ok P w K mg base "choices" ["number", "times", "again"] 1 (SpP K sp_p_choices)) (o_p_bare_size : Ok P w K mg base "bare_size" ["many", "sort"] 2 (SpP K sp_p_bare_size)) (o_p_size_of : Ok P w K mg base "size_of" ["many", "sort"] (n + 3) (SpP K (sp_p_size_of n))) :
    Ok P w K mg base "size_of" ["many", "sort"] ((n + 1) + 3) (SpP K (sp_p_size_of (n + 1))) := by
  obtain ⟨fd, F⟩ := T.c.def_ 10 (d := d_p_size_of) rfl
  have F : FnP K "size_of" s_p_size_of (He.ga K "size_of") fd := F
  have len : ∀ ds R, sp_p_size_of (n + 1) ds R → ds.length = 2 := (fun ds R h => by obtain ⟨_, _, rfl, _⟩ := h; rfl)
  refine Ok.of F (He.glo_ok T.X T.G (T.c.fact 10 (f := .glo "size_of") rfl)) (FunD.bindsN F fun _ _ _ _ _ _ us hl => match us, hl with | [_, _], _ => rfl)
    (FunD.ok F sc_p_size_of (fun vs H Q E h => lenP (n := 2) h len) (fun cdv A outer s H vs Q E hr hq => ⟨_, PSs.nox (pss_cons (ps_set (i := 2) sc_p_size_of.nd rfl (by first | exact .inl rfl | exact .inr rfl) (pe_ix ix_tup (pv 1) pe_int (fun _ _ => rfl)))
    (pss_cons (ps_if (pt_cmpR op_in_seq (pv 2) (pe_tup (pa_cons pe_str (pa_cons pe_str pa_nil))) (by rfl)) (pss_cons (ps_par (i := 3) (j := 4) (by rfl) sc_p_size_of.nd rfl rfl (by decide) rfl rfl (pa_cons (pe_cl o_p_size_of (hr.mono (by omega)) (by rfl) (pa_cons (pv 0) (pa_cons (pe_ix ix_tup (pv 1) pe_int (fun _ _ => rfl)) pa_nil))) (pa_cons (pe_cl o_p_size_of (hr.mono (by omega)) (by rfl) (pa_cons (pv 0) (pa_cons (pe_ix ix_tup (pv 1) pe_int (fun _ _ => rfl)) pa_nil))) pa_nil)) (by rfl))
    (pss_one (ps_set (i := 5) sc_p_size_of.nd rfl (by first | exact .inl rfl | exact .inr rfl) (pe_ifExp (pt_cmpR op_eq (pv 2) pe_str (by rfl)) (pe_op op_add (pv 3) (pv 4)) (pe_op op_mul (pv 3) (pv 4)))))) (pss_one (ps_if (pt_cmpR op_eq (pv 2) pe_str (by rfl)) (pss_one (ps_set (i := 5) sc_p_size_of.nd rfl (by first | exact .inl rfl | exact .inr rfl) (pe_cl o_p_power (hr.mono (by omega)) (by rfl) (pa_cons (pe_cl o_p_size_of (hr.mono (by omega)) (by rfl) (pa_cons (pv 0) (pa_cons (pe_ix ix_tup (pv 1) pe_int (fun _ _ => rfl)) pa_nil))) (pa_cons (pe_ix ix_tup (pv 1) pe_int (fun _ _ => rfl)) pa_nil))))) (pss_one (ps_if (pt_cmpR op_in_seq (pv 2) (pe_tup (pa_cons pe_str (pa_cons pe_str pa_nil))) (by rfl)) (pss_one (ps_set (i := 5) sc_p_size_of.nd rfl (by first | exact .inl rfl | exact .inr rfl) (pe_cl o_p_choices (hr.mono (by omega)) (by rfl) (pa_cons (pe_cl o_p_size_of (hr.mono (by omega)) (by rfl) (pa_cons (pv 0) (pa_cons (pe_ix ix_tup (pv 1) pe_int (fun _ _ => rfl)) pa_nil))) (pa_cons (pe_ix ix_tup (pv 1) pe_int (fun _ _ => rfl)) (pa_cons (pe_cmpR op_eq (pv 2) pe_str (by rfl)) pa_nil)))))) (pss_one (ps_set (i := 5) sc_p_size_of.nd rfl (by first | exact .inl rfl | exact .inr rfl) (pe_cl o_p_bare_size (hr.mono (by omega)) (by rfl) (pa_cons (pv 0) (pa_cons (pv 1) pa_nil))))))))))
    (pss_cons (ps_if (pt_cmpR op_gt (pv 5) (pe_gi (by rfl) T.MOST_MEMBERS) (by rfl)) (pss_one ps_never) pss_nil)
    (pss_one (ps_ret (pv 5)))))), ?_⟩))
  refine fn_run (n := 2) hq len (by decide) fun ds R hs => ?_
  try dsimp only [cxOf]
  obtain ⟨s, N, rfl, hd, hk, h2, hN, hsm, hR⟩ := hs
  cases s with
  | ei a b =>
    simp only [S.depth] at hd
    have hk2 : a.ok = true ∧ b.ok = true := by simp only [S.ok, Bool.and_eq_true] at hk; exact hk
    obtain ⟨q1, q2, q3, q4, q5, q6⟩ := hsm
    show WS K _ 0 [.sh _, .sh (.tup _), .any, .any, .any, .any] _
    walk_at "r"
    refine ⟨by omega, hk2.1, h2, hN, q1, ?_⟩
    walk_at "r"
    refine ⟨by omega, hk2.2, h2, hN, q2, ?_⟩
    walk_at "r"
    refine br_f (decide_eq_false ?_) ?_
    · omega
    walk_at "r"
    exact hR
  | pr a b =>
    simp only [S.depth] at hd
    have hk2 : a.ok = true ∧ b.ok = true := by simp only [S.ok, Bool.and_eq_true] at hk; exact hk
    obtain ⟨q1, q2, q3, q4, q5, q6⟩ := hsm
    show WS K _ 0 [.sh _, .sh (.tup _), .any, .any, .any, .any] _
    walk_at "r"
    refine ⟨by omega, hk2.1, h2, hN, q1, ?_⟩
    walk_at "r"
    refine ⟨by omega, hk2.2, h2, hN, q2, ?_⟩
    walk_at "r"
    refine br_f (decide_eq_false ?_) ?_
    · have := Int.mul_le_mul q4 q6 q5 (by decide); omega
    walk_at "r"
    exact hR
  | li k a =>
    simp only [S.depth] at hd
    have hk2 : k ≤ 12 ∧ a.ok = true := by simp only [S.ok, Bool.and_eq_true, decide_eq_true_eq] at hk; exact hk
    obtain ⟨q1, q2, q3, q4⟩ := hsm
    show WS K _ 0 [.sh _, .sh (.tup _), .any, .any, .any, .any] _
    walk_at "r"
    refine ⟨by omega, hk2.2, h2, hN, q1, ?_⟩
    walk_at "r"
    refine ⟨by omega, by omega, q2, q3, ?_⟩
    walk_at "r"
    refine br_f (decide_eq_false (Int.not_lt.mpr q4)) ?_
    walk_at "r"
    exact hR
  | fam k a =>
    simp only [S.depth] at hd
    have hk2 : k ≤ 12 ∧ a.ok = true := by simp only [S.ok, Bool.and_eq_true, decide_eq_true_eq] at hk; exact hk.1
    obtain ⟨q1, q2, q3, q4⟩ := hsm
    show WS K _ 0 [.sh _, .sh (.tup _), .any, .any, .any, .any] _
    walk_at "r"
    refine ⟨by omega, hk2.2, h2, hN, q1, ?_⟩
    walk_at "r"
    refine ⟨hk2.1, q2, q3, ?_⟩
    walk_at "r"
    refine br_f (decide_eq_false (Int.not_lt.mpr q4)) ?_
    walk_at "r"
    exact hR
  | heap k a =>
    simp only [S.depth] at hd
    have hk2 : k ≤ 12 ∧ a.ok = true := by simp only [S.ok, Bool.and_eq_true, decide_eq_true_eq] at hk; exact hk.1
    obtain ⟨q1, q2, q3, q4⟩ := hsm
    show WS K _ 0 [.sh _, .sh (.tup _), .any, .any, .any, .any] _
    walk_at "r"
    refine ⟨by omega, hk2.2, h2, hN, q1, ?_⟩
    walk_at "r"
    refine ⟨hk2.1, q2, q3, ?_⟩
    walk_at "r"
    refine br_f (decide_eq_false (Int.not_lt.mpr q4)) ?_
    walk_at "r"
    exact hR
  | none =>
    have q4 : (S.none).size N ≤ 10 ^ 30 := hsm
    show WS K _ 0 [.sh _, .sh (.tup _), .any, .any, .any, .any] _
    walk_at "r"
    refine ⟨.none, N, rfl, rfl, hk, h2, hN, ?_⟩
    walk_at "r"
    exact hR
  | one =>
    have q4 : (S.one).size N ≤ 10 ^ 30 := hsm
    show WS K _ 0 [.sh _, .sh (.tup _), .any, .any, .any, .any] _
    walk_at "r"
    refine ⟨.one, N, rfl, rfl, hk, h2, hN, ?_⟩
    walk_at "r"
    refine br_f (decide_eq_false (Int.not_lt.mpr q4)) ?_
    walk_at "r"
    exact hR
  | sub k =>
    have q4 : (S.sub k).size N ≤ 10 ^ 30 := hsm
    show WS K _ 0 [.sh _, .sh (.tup _), .any, .any, .any, .any] _
    walk_at "r"
    refine ⟨.sub k, N, rfl, rfl, hk, h2, hN, ?_⟩
    walk_at "r"
    refine br_f (decide_eq_false (Int.not_lt.mpr q4)) ?_
    walk_at "r"
    exact hR
  | bag k =>
    have q4 : (S.bag k).size N ≤ 10 ^ 30 := hsm
    show WS K _ 0 [.sh _, .sh (.tup _), .any, .any, .any, .any] _
    walk_at "r"
    refine ⟨.bag k, N, rfl, rfl, hk, h2, hN, ?_⟩
    walk_at "r"
    refine br_f (decide_eq_false (Int.not_lt.mpr q4)) ?_
    walk_at "r"
    exact hR
  | rounds k =>
    have q4 : (S.rounds k).size N ≤ 10 ^ 30 := hsm
    show WS K _ 0 [.sh _, .sh (.tup _), .any, .any, .any, .any] _
    walk_at "r"
    refine ⟨.rounds k, N, rfl, rfl, hk, h2, hN, ?_⟩
    walk_at "r"
    refine br_f (decide_eq_false (Int.not_lt.mpr q4)) ?_
    walk_at "r"
    exact hR
  | trees =>
    have q4 : (S.trees).size N ≤ 10 ^ 30 := hsm
    show WS K _ 0 [.sh _, .sh (.tup _), .any, .any, .any, .any] _
    walk_at "r"
    refine ⟨.trees, N, rfl, rfl, hk, h2, hN, ?_⟩
    walk_at "r"
    refine br_f (decide_eq_false (Int.not_lt.mpr q4)) ?_
    walk_at "r"
    exact hR
  | rooted =>
    have q4 : (S.rooted).size N ≤ 10 ^ 30 := hsm
    show WS K _ 0 [.sh _, .sh (.tup _), .any, .any, .any, .any] _
    walk_at "r"
    refine ⟨.rooted, N, rfl, rfl, hk, h2, hN, ?_⟩
    walk_at "r"
    refine br_f (decide_eq_false (Int.not_lt.mpr q4)) ?_
    walk_at "r"
    exact hR
theorem all_p_size_of {P : Program} {w : World} {K : PySem.W.Frag} {mg : Str → Option Value} {base h : Heap} (T : Tx K mg h) (o_p_power : Ok P w K mg base "power" ["base", "times"] 1 (SpP K sp_p_power)) (o_p_choices : Ok P w K mg base "choices" ["number", "times", "again"] 1 (SpP K sp_p_choices)) (o_p_bare_size : Ok P w K mg base "bare_size" ["many", "sort"] 2 (SpP K sp_p_bare_size)) : ∀ n : Nat, Ok P w K mg base "size_of" ["many", "sort"] (n + 3) (SpP K (sp_p_size_of n))
  | 0 => by
    obtain ⟨fd, F⟩ := T.c.def_ 10 (d := d_p_size_of) rfl
    have F : FnP K "size_of" s_p_size_of (He.ga K "size_of") fd := F
    refine Ok.none F (He.glo_ok T.X T.G (T.c.fact 10 (f := .glo "size_of") rfl)) (FunD.bindsN F fun _ _ _ _ _ _ us hl => match us, hl with | [_, _], _ => rfl) (fun ds R h => by
      obtain ⟨s, _, rfl, hd, _⟩ := h
      have := s.depth_pos
      omega)
  | n + 1 => ok_p_size_of T o_p_power o_p_choices o_p_bare_size (all_p_size_of T o_p_power o_p_choices o_p_bare_size n)
theorem sc_p_need_sort : FnScope ["many", "value"] ["many", "value"] (defScope s_p_need_sort) := ⟨rfl, rfl, rfl, by decide +kernel, rfl, by decide +kernel, by decide +kernel⟩
/-- what the program takes for a sort, and works out without a complaint -/
structure S.good (N : Nat) (s : S) : Prop where
  n2 : 2 ≤ N
  n5 : N ≤ 5
  ok : s.ok = true
  depth : s.depth ≤ 10
  parts : s.parts ≤ 60
  marks : s.marks N ≤ 12
  width : s.width ≤ 40
  small : s.small N
def sp_p_need_sort : SpecD := fun ds R => ∃ (s : S) (N : Nat), ds = [.int N, s.d] ∧ s.good N ∧ R s.d
theorem ok_p_need_sort {P : Program} {w : World} {K : PySem.W.Frag} {mg : Str → Option Value} {base h : Heap} (T : Tx K mg h) (o_p_size_of : Ok P w K mg base "size_of" ["many", "sort"] (10 + 3) (SpP K (sp_p_size_of 10))) (o_p_width_of : Ok P w K mg base "width_of" ["sort"] (10 + 1) (SpP K (sp_p_width_of 10))) (o_p_marks_of : Ok P w K mg base "marks_of" ["many", "sort"] (10 + 1) (SpP K (sp_p_marks_of 10))) (o_p_walked : Ok P w K mg base "walked" ["value", "path", "deep", "met"] (10 + 4) (SpP K (sp_p_walked 10))) (o_p_need_many : Ok P w K mg base "need_many" ["value"] 2 (SpP K sp_p_need_many)) :
    Ok P w K mg base "need_sort" ["many", "value"] 20 (SpP K sp_p_need_sort) := by
  obtain ⟨fd, F⟩ := T.c.def_ 11 (d := d_p_need_sort) rfl
  have F : FnP K "need_sort" s_p_need_sort (He.ga K "need_sort") fd := F
  have len : ∀ ds R, sp_p_need_sort ds R → ds.length = 2 := (fun ds R h => by obtain ⟨_, _, rfl, _⟩ := h; rfl)
  refine Ok.of F (He.glo_ok T.X T.G (T.c.fact 11 (f := .glo "need_sort") rfl)) (FunD.bindsN F fun _ _ _ _ _ _ us hl => match us, hl with | [_, _], _ => rfl)
    (FunD.ok F sc_p_need_sort (fun vs H Q E h => lenP (n := 2) h len) (fun cdv A outer s H vs Q E hr hq => ⟨_, PSs.nox (pss_cons (ps_expr (pe_cl o_p_need_many (hr.mono (by omega)) (by rfl) (pa_cons (pv 0) pa_nil)))
    (pss_cons (ps_expr (pe_cl o_p_walked (hr.mono (by omega)) (by rfl) (pa_cons (pv 1) (pa_cons (pe_tup pa_nil) (pa_cons pe_int (pa_cons pe_int pa_nil))))))
    (pss_cons (ps_if (pt_cmpR op_gt (pe_cl o_p_marks_of (hr.mono (by omega)) (by rfl) (pa_cons (pv 0) (pa_cons (pv 1) pa_nil))) (pe_gi (by rfl) T.MOST_MARKS) (by rfl)) (pss_one ps_never) pss_nil)
    (pss_cons (ps_if (pt_cmpR op_gt (pe_cl o_p_width_of (hr.mono (by omega)) (by rfl) (pa_cons (pv 1) pa_nil)) (pe_gi (by rfl) T.MOST_WIDTH) (by rfl)) (pss_one ps_never) pss_nil)
    (pss_cons (ps_expr (pe_cl o_p_size_of (hr.mono (by omega)) (by rfl) (pa_cons (pv 0) (pa_cons (pv 1) pa_nil))))
    (pss_one (ps_ret (pv 1)))))))), ?_⟩))
  refine fn_run (n := 2) hq len (by decide) fun ds R hs => ?_
  try dsimp only [cxOf]
  obtain ⟨s, N, rfl, g, hR⟩ := hs
  show WS K _ 0 [.sh _, .sh s.d] _
  have g1 := g.n2
  have g2 := g.n5
  have g3 := g.depth
  have g4 := g.parts
  walk_at "r"
  refine ⟨by omega, by omega, ?_⟩
  walk_at "r"
  refine ⟨g.depth, g.ok, by simp only [List.length_nil]; omega, by omega, by omega, ?_⟩
  walk_at "r"
  refine ⟨g.depth, g.ok, g.n5, ?_⟩
  walk_at "r"
  refine br_f (decide_eq_false (Int.not_lt.mpr g.marks)) ?_
  walk_at "r"
  refine ⟨g.depth, g.ok, ?_⟩
  walk_at "r"
  refine br_f (decide_eq_false (Int.not_lt.mpr g.width)) ?_
  walk_at "r"
  refine ⟨g.depth, g.ok, g.n2, g.n5, g.small, ?_⟩
  walk_at "r"
  exact hR
theorem sc_p_is_content : FnScope ["many", "value", "number"] ["many", "value"] (defScope s_p_is_content) := ⟨rfl, rfl, rfl, by decide +kernel, rfl, by decide +kernel, by decide +kernel⟩
def sp_p_is_content : SpecD := fun ds R => ∃ (N : Nat) (c : List Int), ds = [.int N, .ints c] ∧ 2 ≤ N ∧ N ≤ 5 ∧ c.length = N ∧ (∀ x ∈ c, 0 ≤ x ∧ x ≤ 24) ∧ R (.bl true)
theorem ok_p_is_content {P : Program} {w : World} {K : PySem.W.Frag} {mg : Str → Option Value} {base h : Heap} (T : Tx K mg h) (o_p_is_from : Ok P w K mg base "is_from" ["value", "least", "most"] 1 (SpP K sp_p_is_from)) (o_p_need_many : Ok P w K mg base "need_many" ["value"] 2 (SpP K sp_p_need_many)) :
    Ok P w K mg base "is_content" ["many", "value"] 3 (SpP K sp_p_is_content) := by
  obtain ⟨fd, F⟩ := T.c.def_ 12 (d := d_p_is_content) rfl
  have F : FnP K "is_content" s_p_is_content (He.ga K "is_content") fd := F
  have len : ∀ ds R, sp_p_is_content ds R → ds.length = 2 := (fun ds R h => by obtain ⟨_, _, rfl, _⟩ := h; rfl)
  refine Ok.of F (He.glo_ok T.X T.G (T.c.fact 12 (f := .glo "is_content") rfl)) (FunD.bindsN F fun _ _ _ _ _ _ us hl => match us, hl with | [_, _], _ => rfl)
    (FunD.ok F sc_p_is_content (fun vs H Q E h => lenP (n := 2) h len) (fun cdv A outer s H vs Q E hr hq => ⟨_, PSs.nox (pss_cons (ps_expr (pe_cl o_p_need_many (hr.mono (by omega)) (by rfl) (pa_cons (pv 0) pa_nil)))
    (pss_cons (ps_if (PW.pt (pw_or (pt_not (pt_val (pe_callB call_isi (by rfl) T.isinstance_ (by decide +kernel) (pa_cons (pv 1) (pa_cons (pe_bltn (v := .ty "tuple") (by rfl) T.tuple_ (by decide +kernel) rfl) pa_nil))))) (pw_or1 (pt_cmpR op_ne (pe_callB call_len_seq (by rfl) T.len_ PySem.boot_len (pa_cons (pv 1) pa_nil)) (pv 0) (by rfl))))) (pss_one (ps_ret pe_bl)) pss_nil)
    (pss_cons (ps_for PassesOwn.never (by rfl) (pi_tup (pv 1)) (pg_name (i := 2) sc_p_is_content.nd rfl (by first | exact .inl rfl | exact .inr rfl)) (pss_one (ps_if (pt_not (pt_val (pe_cl o_p_is_from (hr.mono (by omega)) (by rfl) (pa_cons (pv 2) (pa_cons pe_int (pa_cons (pe_gi (by rfl) T.MOST_OF_A_NAME) pa_nil)))))) (pss_one (ps_ret pe_bl)) pss_nil)))
    (pss_one (ps_ret pe_bl))))), ?_⟩))
  refine fn_run (n := 2) hq len (by decide) fun ds R hs => ?_
  try dsimp only [cxOf]
  obtain ⟨N, c, rfl, h1, h2, hl, hc, hR⟩ := hs
  show WS K _ 0 [.sh _, .sh (.ints c), .any] _
  walk_at "r"
  refine ⟨by omega, by omega, ?_⟩
  walk_at "r"
  refine br_f (by rw [List.length_map, hl, decide_eq_true rfl]; rfl) ?_
  walk_at "r"
  refine ws_tupf mono_then ?_
  walk_at "r"
  refine ⟨fun k => [.sh (.int N), .sh (.ints c), .any], by walk_at "le", fun k x hx => ?_, ?_⟩
  · rw [List.getElem?_map] at hx
    cases e : c[k]? with
    | none => rw [e] at hx; cases hx
    | some y =>
      rw [e] at hx
      cases hx
      have hy := hc y (List.mem_of_getElem? e)
      walk_at "r"
      refine br_f (by rw [decide_eq_true hy]; rfl) ?_
      walk_at "r"
      walk_at "le"
  · walk_at "r"
    exact hR
theorem sc_p_need_content : FnScope ["many", "value"] ["many", "value"] (defScope s_p_need_content) := ⟨rfl, rfl, rfl, by decide +kernel, rfl, by decide +kernel, by decide +kernel⟩
def sp_p_need_content : SpecD := fun ds R => ∃ (N : Nat) (c : List Int), ds = [.int N, .ints c] ∧ 2 ≤ N ∧ N ≤ 5 ∧ c.length = N ∧ (∀ x ∈ c, 0 ≤ x ∧ x ≤ 24) ∧ R (.ints c)
theorem ok_p_need_content {P : Program} {w : World} {K : PySem.W.Frag} {mg : Str → Option Value} {base h : Heap} (T : Tx K mg h) (o_p_is_content : Ok P w K mg base "is_content" ["many", "value"] 3 (SpP K sp_p_is_content)) :
    Ok P w K mg base "need_content" ["many", "value"] 4 (SpP K sp_p_need_content) := by
  obtain ⟨fd, F⟩ := T.c.def_ 13 (d := d_p_need_content) rfl
  have F : FnP K "need_content" s_p_need_content (He.ga K "need_content") fd := F
  have len : ∀ ds R, sp_p_need_content ds R → ds.length = 2 := (fun ds R h => by obtain ⟨_, _, rfl, _⟩ := h; rfl)
  refine Ok.of F (He.glo_ok T.X T.G (T.c.fact 13 (f := .glo "need_content") rfl)) (FunD.bindsN F fun _ _ _ _ _ _ us hl => match us, hl with | [_, _], _ => rfl)
    (FunD.ok F sc_p_need_content (fun vs H Q E h => lenP (n := 2) h len) (fun cdv A outer s H vs Q E hr hq => ⟨_, PSs.nox (pss_cons (ps_if (pt_not (pt_val (pe_cl o_p_is_content (hr.mono (by omega)) (by rfl) (pa_cons (pv 0) (pa_cons (pv 1) pa_nil))))) (pss_one ps_never) pss_nil)
    (pss_one (ps_ret (pv 1)))), ?_⟩))
  refine fn_run (n := 2) hq len (by decide) fun ds R hs => ?_
  try dsimp only [cxOf]
  obtain ⟨N, c, rfl, h1, h2, hl, hc, hR⟩ := hs
  show WS K _ 0 [.sh _, .sh (.ints c)] _
  walk_at "r"
  refine ⟨h1, h2, hl, hc, ?_⟩
  walk_at "r"
  exact hR
end ME
end
section
set_option Elab.async false
set_option linter.all false
set_option maxRecDepth 100000
set_option maxHeartbeats 4000000
namespace ME
open PySem L2 MW
local macro_rules | `(tactic| walk_at "norm1") => `(tactic| dsimp only [Then, LoopP, FnPost, FnPostS])
local macro_rules | `(tactic| walk_at "mul") => `(tactic| (first
  | exact Or.inl ⟨by omega, by omega⟩
  | exact Or.inr ⟨by omega, by omega⟩))
local macro_rules | `(tactic| walk_at "we") => `(tactic| (first
  | ((with_reducible refine we_var (d := ?d) ?he ?_); (case he => exact rfl))
  | with_reducible refine we_int ?_
  | with_reducible refine we_str ?_
  | with_reducible refine we_op ?_
  | with_reducible refine we_cl ?_
  | with_reducible refine we_tup ?_
  | with_reducible refine we_bl ?_
  | with_reducible refine we_non ?_
  | with_reducible refine we_if ?_
  | ((with_reducible refine we_lenO (ds := ?ds) ?he ?_); (case he => exact rfl))
  | with_reducible refine we_len ?_
  | with_reducible refine we_int1 ?_
  | with_reducible refine we_andV ?_
  | with_reducible refine we_orV ?_
  | with_reducible refine we_notV ?_
  | with_reducible refine we_neg ?_
  | with_reducible refine we_chain ?_
  | with_reducible refine we_dget ?_
  | ((with_reducible refine we_dget2O (t := ?t) ?he ?_); (case he => exact rfl))
  | ((with_reducible refine we_dget2I (t := ?t) ?he ?_); (case he => exact rfl))
  | with_reducible refine we_dget2 ?_
  | ((with_reducible refine we_isi ?ht ?_); (case ht => first | exact .inl rfl | exact .inr (.inl rfl) | exact .inr (.inr (.inl rfl)) | exact .inr (.inr (.inr rfl))))
  | ((with_reducible refine we_clS ?he ?_); (case he => exact rfl))
  | with_reducible refine we_max2 ?_
  | with_reducible refine we_dispT1 ?_
  | with_reducible refine we_dispT2 ?_
  | ((with_reducible refine we_tupOfO (ds := ?ds) ?he ?_); (case he => exact rfl))
  | with_reducible refine we_sumT ?_
  | with_reducible refine we_divmod ?_
  | with_reducible refine we_newT ?_))
local macro_rules | `(tactic| walk_at "op2") => `(tactic| (first
  | ((with_reducible refine o_ixT (d := ?d) ?he ?_); (case he => exact rfl))
  | with_reducible refine o_eqS ?_
  | with_reducible refine o_eqI ?_
  | with_reducible refine o_add ?_
  | with_reducible refine o_sub ?_
  | ((with_reducible refine o_inT (x := ?x) (xs := ?xs) ?hx ?hs ?_); (case hx => exact rfl); (case hs => exact rfl))
  | ((with_reducible refine o_mul ?hc ?_); (case hc => walk_at "mul"))
  | ((with_reducible refine o_mod ?hc ?_); (case hc => omega))
  | ((with_reducible refine o_div ?hc ?_); (case hc => exact ⟨by omega, by omega⟩))
  | with_reducible refine o_lt ?_
  | with_reducible refine o_le ?_
  | with_reducible refine o_gt ?_
  | with_reducible refine o_ge ?_
  | with_reducible refine o_neI ?_
  | ((with_reducible refine o_ixL (d := ?d) ?he ?_); (case he => exact rfl))
  | ((with_reducible refine o_inL (x := ?x) (xs := ?xs) ?hx ?hs ?_); (case hx => exact rfl); (case hs => exact rfl))
  | ((with_reducible refine o_catT ?hl ?_); (case hl => (simp only [List.length_cons, List.length_nil, List.length_append, List.length_map, List.length_replicate]; omega)))
  | ((with_reducible refine o_repTI ?h0 ?h1 ?_); (case h0 => omega); (case h1 => omega))
  | with_reducible refine o_isNT ?_))
local macro_rules | `(tactic| walk_at "wt") => `(tactic| (first
  | with_reducible refine wt_test ?_
  | with_reducible refine wt_B ?_
  | with_reducible refine wt_not ?_
  | with_reducible refine wt_and ?_
  | with_reducible refine wt_or ?_))
local macro_rules | `(tactic| walk_at "ws") => `(tactic| (first
  | with_reducible refine ws_seq ?_
  | with_reducible refine ws_asg ?_
  | with_reducible refine ws_if ?_
  | with_reducible refine ws_ret ?_
  | with_reducible refine ws_next ?_
  | with_reducible refine ws_drop ?_
  | with_reducible refine ws_par ?_
  | ((with_reducible refine ws_asg2 ?hn ?_); (case hn => rfl))))
local macro_rules | `(tactic| walk_at "no") => `(tactic| first
  | (intro hb; exact Bool.noConfusion (show (true : Bool) = false from hb))
  | (intro hb; exact Bool.noConfusion (show (false : Bool) = true from hb)))
local macro_rules | `(tactic| walk_at "br") => `(tactic| first
  | (refine ⟨?_, ?no⟩; (case no => walk_at "no"); (intro _))
  | (refine ⟨?no, ?_⟩; (case no => walk_at "no"); (intro _)))
local macro_rules | `(tactic| walk_at "ex") => `(tactic| first
  | (refine ⟨_, rfl, ?_⟩)
  | (refine ⟨_, _, rfl, rfl, ?_⟩)
  | (refine ⟨_, _, rfl, ?_⟩)
  | (refine ⟨_, _, _, rfl, ?_⟩)
  | (refine ⟨_, _, _, _, rfl, ?_⟩)
  | (refine ⟨_, .inr rfl, ?_⟩)
  | (refine ⟨_, .inl rfl, ?_⟩))
local macro_rules | `(tactic| walk_at "r") => `(tactic| repeat (first
  | ((with_reducible show MW.WE _ _ _ _ _); walk_at "we")
  | ((with_reducible show MW.Op2 _ _ _ _ _ _ _); walk_at "op2")
  | ((with_reducible show MW.WS _ _ _ _ _); walk_at "ws")
  | ((with_reducible show MW.WA _ _ _ _ _); first | with_reducible refine wa_cons ?_ | with_reducible refine wa_nil ?_)
  | ((with_reducible show MW.WT _ _ _ _ _); walk_at "wt")
  | ((with_reducible show Exists _); walk_at "ex")
  | ((with_reducible show And _ _); first | walk_at "br" | (refine ⟨by decide, ?_⟩) | (refine ⟨.inl ⟨_, rfl⟩, ?_⟩) | (refine ⟨.inr (.inl ⟨_, rfl⟩), ?_⟩) | (refine ⟨.inr (.inr ⟨_, rfl⟩), ?_⟩))
  | walk_at "norm1"
  | walk_at "ex"))
local macro_rules | `(tactic| walk_at "le") => `(tactic| ((try refine ⟨rfl, ?_⟩); repeat (first | exact Le.nil | refine Le.eq ?_ | refine Le.any ?_)))

theorem sc_p_zero_table : FnScope ["many"] ["many"] (defScope s_p_zero_table) := ⟨rfl, rfl, rfl, by decide +kernel, rfl, by decide +kernel, by decide +kernel⟩
def sp_p_zero_table : SpecD := fun ds R => ∃ (N : Nat), ds = [.int N] ∧ N ≤ 5 ∧ R (.tab (zeroT N))
theorem ok_p_zero_table {P : Program} {w : World} {K : PySem.W.Frag} {mg : Str → Option Value} {base h : Heap} (T : Tx K mg h)  :
    Ok P w K mg base "zero_table" ["many"] 1 (SpP K sp_p_zero_table) := by
  obtain ⟨fd, F⟩ := T.c.def_ 14 (d := d_p_zero_table) rfl
  have F : FnP K "zero_table" s_p_zero_table (He.ga K "zero_table") fd := F
  have len : ∀ ds R, sp_p_zero_table ds R → ds.length = 1 := (fun ds R h => by obtain ⟨_, rfl, _⟩ := h; rfl)
  refine Ok.of F (He.glo_ok T.X T.G (T.c.fact 14 (f := .glo "zero_table") rfl)) (FunD.bindsN F fun _ _ _ _ _ _ us hl => match us, hl with | [_], _ => rfl)
    (FunD.ok F sc_p_zero_table (fun vs H Q E h => lenP (n := 1) h len) (fun cdv A outer s H vs Q E hr hq => ⟨_, PSs.nox (pss_one (ps_ret (pe_dispT (hu_of hr) (pps_cons (pe_op op_repTA (pe_tup (pa_cons pe_int pa_nil)) (pv 0)) pe_int pps_nil) (by rfl) (by rfl) (fun z => by cases z) (by decide)))), ?_⟩))
  refine fn_run (n := 1) hq len (by decide) fun ds R hs => ?_
  try dsimp only [cxOf]
  obtain ⟨N, rfl, hN, hR⟩ := hs
  show WS K _ 0 [.sh (.int N)] _
  walk_at "r"
  exact hR
theorem sc_p_name_table : FnScope ["many", "found", "name"] ["many"] (defScope s_p_name_table) := ⟨rfl, rfl, rfl, by decide +kernel, rfl, by decide +kernel, by decide +kernel⟩
def sp_p_name_table : SpecD := fun ds R => ∃ (N : Nat), ds = [.int N] ∧ N ≤ 5 ∧ R (.tab (nameT N))
theorem ok_p_name_table {P : Program} {w : World} {K : PySem.W.Frag} {mg : Str → Option Value} {base h : Heap} (T : Tx K mg h)  :
    Ok P w K mg base "name_table" ["many"] 1 (SpP K sp_p_name_table) := by
  obtain ⟨fd, F⟩ := T.c.def_ 15 (d := d_p_name_table) rfl
  have F : FnP K "name_table" s_p_name_table (He.ga K "name_table") fd := F
  have len : ∀ ds R, sp_p_name_table ds R → ds.length = 1 := (fun ds R h => by obtain ⟨_, rfl, _⟩ := h; rfl)
  refine Ok.of F (He.glo_ok T.X T.G (T.c.fact 15 (f := .glo "name_table") rfl)) (FunD.bindsN F fun _ _ _ _ _ _ us hl => match us, hl with | [_], _ => rfl)
    (FunD.ok F sc_p_name_table (fun vs H Q E h => lenP (n := 1) h len) (fun cdv A outer s H vs Q E hr hq => ⟨_, PSs.nox (pss_cons (ps_set (i := 1) sc_p_name_table.nd rfl (by first | exact .inl rfl | exact .inr rfl) pe_dnewT)
    (pss_cons (ps_for PassesOwn.never (by rfl) (pi_range1 (by rfl) T.range_ (pa_cons (pv 0) pa_nil)) (pg_name (i := 2) sc_p_name_table.nd rfl (by first | exact .inl rfl | exact .inr rfl)) (pss_one (ps_dput (hu_of hr) (pv 1) (pe_op op_catA (pe_op op_catA (pe_op op_repTA (pe_tup (pa_cons pe_int pa_nil)) (pv 2)) (pe_tup (pa_cons pe_int pa_nil))) (pe_op op_repTA (pe_tup (pa_cons pe_int pa_nil)) (pe_op op_sub (pe_op op_sub (pv 0) pe_int) (pv 2)))) pe_int rfl)))
    (pss_one (ps_ret (pv 1))))), ?_⟩))
  refine fn_run (n := 1) hq len (by decide) fun ds R hs => ?_
  try dsimp only [cxOf]
  obtain ⟨N, rfl, hN, hR⟩ := hs
  show WS K _ 0 [.sh (.int N), .any, .any] _
  refine ws_seq (ws_asgD ?_)
  walk_at "r"
  refine ws_rng1 mono_then ?_
  walk_at "r"
  refine ⟨by omega, by omega, fun k => [.sh (.int N), .dic (iter (fun i t => tput t (unitV N i) 1) k []), .any], by walk_at "le", fun k hk => ?_, ?_⟩
  · refine ws_dput rfl ?_
    walk_at "r"
    refine ⟨unitV N k, 1, rfl, ?_, (nameT_ok N k (by omega)).lt hN (by omega), ?_⟩
    · have e : (((N : Nat) : Int) - 1 - (k : Int)).toNat = N - 1 - k := by omega
      rw [Int.toNat_natCast, e]
      show _ = D.tup ((unitV N k).map D.int)
      unfold unitV
      rw [List.map_append, List.map_append]
      rfl
    · walk_at "r"
      walk_at "le"
  · dsimp only [Then]
    rw [Int.toNat_natCast]
    refine ws_giveD (i := 1) rfl ?_
    walk_at "r"
    exact hR
theorem sc_p_joined_contents : FnScope ["content", "more", "both", "place"] ["content", "more"] (defScope s_p_joined_contents) := ⟨rfl, rfl, rfl, by decide +kernel, rfl, by decide +kernel, by decide +kernel⟩
def sp_p_joined_contents : SpecD := fun ds R => ∃ (c d : Ct), ds = [.ints c, .ints d] ∧ c.length = d.length ∧ c.length ≤ 1000 ∧ R (.ints (vadd c d))
theorem ok_p_joined_contents {P : Program} {w : World} {K : PySem.W.Frag} {mg : Str → Option Value} {base h : Heap} (T : Tx K mg h)  :
    Ok P w K mg base "joined_contents" ["content", "more"] 1 (SpP K sp_p_joined_contents) := by
  obtain ⟨fd, F⟩ := T.c.def_ 17 (d := d_p_joined_contents) rfl
  have F : FnP K "joined_contents" s_p_joined_contents (He.ga K "joined_contents") fd := F
  have len : ∀ ds R, sp_p_joined_contents ds R → ds.length = 2 := (fun ds R h => by obtain ⟨_, _, rfl, _⟩ := h; rfl)
  refine Ok.of F (He.glo_ok T.X T.G (T.c.fact 17 (f := .glo "joined_contents") rfl)) (FunD.bindsN F fun _ _ _ _ _ _ us hl => match us, hl with | [_, _], _ => rfl)
    (FunD.ok F sc_p_joined_contents (fun vs H Q E h => lenP (n := 2) h len) (fun cdv A outer s H vs Q E hr hq => ⟨_, PSs.nox (pss_cons (ps_set (i := 2) sc_p_joined_contents.nd rfl (by first | exact .inl rfl | exact .inr rfl) (pe_lst pa_nil))
    (pss_cons (ps_for PassesOwn.never (by rfl) (pi_range1 (by rfl) T.range_ (pa_cons (pe_callB call_len_seq (by rfl) T.len_ PySem.boot_len (pa_cons (pv 0) pa_nil)) pa_nil)) (pg_name (i := 3) sc_p_joined_contents.nd rfl (by first | exact .inl rfl | exact .inr rfl)) (pss_one (ps_expr (pe_bm PySem.F.plainAttrs_list PySem.F.slot_list_append PySem.F.type_list_append mt_append (pv 2) (pa_cons (pe_op op_add (pe_ix ix_tup (pv 0) (pv 3) (fun _ _ => rfl)) (pe_ix ix_tup (pv 1) (pv 3) (fun _ _ => rfl))) pa_nil)))))
    (pss_one (ps_ret (pe_callTy call_tuple_of (by rfl) T.tuple_ (by decide +kernel) (pa_cons (pv 2) pa_nil)))))), ?_⟩))
  refine fn_run (n := 2) hq len (by decide) fun ds R hs => ?_
  try dsimp only [cxOf]
  obtain ⟨c, d, rfl, hl, h2, hR⟩ := hs
  have hv : (vadd c d).length = c.length := by unfold vadd; rw [List.length_zipWith, hl, Nat.min_self]
  show WS K _ 0 [.sh (.ints c), .sh (.ints d), .any, .any] _
  refine ws_seq (ws_asgL (wl_lst (wa_nil ⟨by decide, ?_⟩)))
  walk_at "r"
  refine ws_rng1 mono_then ?_
  walk_at "r"
  rw [List.length_map]
  refine ⟨by omega, by omega, fun k => [.sh (.ints c), .sh (.ints d), .lst (((vadd c d).take k).map D.int), .any], by walk_at "le", fun k hk => ?_, ?_⟩
  · obtain ⟨x, y, e1, e2, e3⟩ := vadd_get (c := c) (d := d) (k := k) (by omega) hl
    refine ws_append rfl ?_
    refine we_op ?_
    walk_at "r"
    refine o_ixT (at_int e1) ?_
    walk_at "r"
    refine o_ixT (at_int e2) ?_
    walk_at "r"
    refine ⟨by rw [List.length_map, List.length_take]; omega, ?_⟩
    walk_at "r"
    rw [take_get e3, List.map_append]
    walk_at "le"
  · dsimp only [Then]
    rw [Int.toNat_natCast, List.take_of_length_le (by omega)]
    walk_at "r"
    exact hR
theorem sc_p_added_tables : FnScope ["first", "second", "found", "content"] ["first", "second"] (defScope s_p_added_tables) := ⟨rfl, rfl, rfl, by decide +kernel, rfl, by decide +kernel, by decide +kernel⟩
def sp_p_added_tables : SpecD := fun ds R => ∃ (f s : Tab) (n M : Nat), ds = [.tab f, .tab s] ∧ n ≤ 5 ∧ M ≤ 12 ∧ TabOk n M f ∧ TabOk n M s ∧ R (.tab (addT f s))
theorem ok_p_added_tables {P : Program} {w : World} {K : PySem.W.Frag} {mg : Str → Option Value} {base h : Heap} (T : Tx K mg h)  :
    Ok P w K mg base "added_tables" ["first", "second"] 1 (SpP K sp_p_added_tables) := by
  obtain ⟨fd, F⟩ := T.c.def_ 16 (d := d_p_added_tables) rfl
  have F : FnP K "added_tables" s_p_added_tables (He.ga K "added_tables") fd := F
  have len : ∀ ds R, sp_p_added_tables ds R → ds.length = 2 := (fun ds R h => by obtain ⟨_, _, _, _, rfl, _⟩ := h; rfl)
  refine Ok.of F (He.glo_ok T.X T.G (T.c.fact 16 (f := .glo "added_tables") rfl)) (FunD.bindsN F fun _ _ _ _ _ _ us hl => match us, hl with | [_, _], _ => rfl)
    (FunD.ok F sc_p_added_tables (fun vs H Q E h => lenP (n := 2) h len) (fun cdv A outer s H vs Q E hr hq => ⟨_, PSs.nox (pss_cons (ps_set (i := 2) sc_p_added_tables.nd rfl (by first | exact .inl rfl | exact .inr rfl) pe_dnewT)
    (pss_cons (ps_lk (ps_for PassesOwn.never (by rfl) (pi_keys (pv 0)) (pg_name (i := 3) sc_p_added_tables.nd rfl (by first | exact .inl rfl | exact .inr rfl)) (pss_one (ps_dput (hu_of hr) (pv 2) (pv 3) (pe_dget (hu_of hr) (pv 0) (pv 3) (fun _ _ => rfl)) rfl))))
    (pss_cons (ps_lk (ps_for PassesOwn.never (by rfl) (pi_keys (pv 1)) (pg_name (i := 3) sc_p_added_tables.nd rfl (by first | exact .inl rfl | exact .inr rfl)) (pss_one (ps_dput (hu_of hr) (pv 2) (pv 3) (pe_op op_add (pe_dget2 (hu_of hr) (pv 2) (pv 3) pe_int ⟨by rfl, by rfl, by rfl, by rfl⟩) (pe_dget (hu_of hr) (pv 1) (pv 3) (fun _ _ => rfl))) rfl))))
    (pss_one (ps_ret (pv 2)))))), ?_⟩))
  refine fn_run (n := 2) hq len (by decide) fun ds R hs => ?_
  try dsimp only [cxOf]
  obtain ⟨f, s, n, M, rfl, hn, hM, hf, hs, hR⟩ := hs
  show WS K _ 0 [.sh (.tab f), .sh (.tab s), .any, .any] _
  refine ws_seq (ws_asgD ?_)
  walk_at "r"
  refine ws_keys (t := f) mono_then rfl (fun k => [.sh (.tab f), .sh (.tab s), .dic ((f.take k).foldl (addF1 f) []), .any]) (by walk_at "le") (fun k c x hk => ?_) ?_
  · obtain ⟨y, hy⟩ := tget_get hk
    refine ws_dput rfl ?_
    walk_at "r"
    refine ⟨f, c, y, rfl, rfl, hy, ?_⟩
    walk_at "r"
    refine ⟨(add1_ok hf (fun _ h => take_sub h) (TabOk.nil n M)).lt hn hM, ?_⟩
    rw [foldl_take hk]
    walk_at "r"
    show LeP _ _ _ _
    unfold addF1
    dsimp only
    rw [hy]
    walk_at "le"
  · rw [List.take_length]
    walk_at "r"
    refine ws_keys (t := s) mono_then rfl (fun k => [.sh (.tab f), .sh (.tab s), .dic ((s.take k).foldl (addF2 s) (f.foldl (addF1 f) [])), .any]) (by walk_at "le") (fun k c x hk => ?_) ?_
    · obtain ⟨y, hy⟩ := tget_get hk
      refine ws_dput rfl ?_
      walk_at "r"
      refine ⟨s, c, y, rfl, rfl, hy, ?_⟩
      walk_at "r"
      refine ⟨(add2_ok hs (fun _ h => take_sub h) (add1_ok hf (fun _ h => h) (TabOk.nil n M))).lt hn hM, ?_⟩
      rw [foldl_take hk]
      walk_at "r"
      show LeP _ _ _ _
      conv => arg 2; unfold addF2
      dsimp only
      rw [hy]
      walk_at "le"
    · rw [List.take_length]
      dsimp only [Then]
      refine ws_giveD (i := 2) rfl ?_
      walk_at "r"
      exact hR
end ME
end
section
set_option Elab.async false
set_option linter.all false
set_option maxRecDepth 100000
set_option maxHeartbeats 4000000
namespace ME
open PySem L2 MW
local macro_rules | `(tactic| walk_at "norm1") => `(tactic| dsimp only [Then, LoopP, FnPost, FnPostS])
local macro_rules | `(tactic| walk_at "mul") => `(tactic| (first
  | exact Or.inl ⟨by omega, by omega⟩
  | exact Or.inr ⟨by omega, by omega⟩))
local macro_rules | `(tactic| walk_at "we") => `(tactic| (first
  | ((with_reducible refine we_var (d := ?d) ?he ?_); (case he => exact rfl))
  | with_reducible refine we_int ?_
  | with_reducible refine we_str ?_
  | with_reducible refine we_op ?_
  | with_reducible refine we_cl ?_
  | with_reducible refine we_tup ?_
  | with_reducible refine we_bl ?_
  | with_reducible refine we_non ?_
  | with_reducible refine we_if ?_
  | ((with_reducible refine we_lenO (ds := ?ds) ?he ?_); (case he => exact rfl))
  | with_reducible refine we_len ?_
  | with_reducible refine we_int1 ?_
  | with_reducible refine we_andV ?_
  | with_reducible refine we_orV ?_
  | with_reducible refine we_notV ?_
  | with_reducible refine we_neg ?_
  | with_reducible refine we_chain ?_
  | with_reducible refine we_dget ?_
  | ((with_reducible refine we_dget2O (t := ?t) ?he ?_); (case he => exact rfl))
  | ((with_reducible refine we_dget2I (t := ?t) ?he ?_); (case he => exact rfl))
  | with_reducible refine we_dget2 ?_
  | ((with_reducible refine we_isi ?ht ?_); (case ht => first | exact .inl rfl | exact .inr (.inl rfl) | exact .inr (.inr (.inl rfl)) | exact .inr (.inr (.inr rfl))))
  | ((with_reducible refine we_clS ?he ?_); (case he => exact rfl))
  | with_reducible refine we_max2 ?_
  | with_reducible refine we_dispT1 ?_
  | with_reducible refine we_dispT2 ?_
  | ((with_reducible refine we_tupOfO (ds := ?ds) ?he ?_); (case he => exact rfl))
  | with_reducible refine we_sumT ?_
  | with_reducible refine we_divmod ?_
  | with_reducible refine we_newT ?_))
local macro_rules | `(tactic| walk_at "op2") => `(tactic| (first
  | ((with_reducible refine o_ixT (d := ?d) ?he ?_); (case he => exact rfl))
  | with_reducible refine o_eqS ?_
  | with_reducible refine o_eqI ?_
  | with_reducible refine o_add ?_
  | with_reducible refine o_sub ?_
  | ((with_reducible refine o_inT (x := ?x) (xs := ?xs) ?hx ?hs ?_); (case hx => exact rfl); (case hs => exact rfl))
  | ((with_reducible refine o_mul ?hc ?_); (case hc => walk_at "mul"))
  | ((with_reducible refine o_mod ?hc ?_); (case hc => omega))
  | ((with_reducible refine o_div ?hc ?_); (case hc => exact ⟨by omega, by omega⟩))
  | with_reducible refine o_lt ?_
  | with_reducible refine o_le ?_
  | with_reducible refine o_gt ?_
  | with_reducible refine o_ge ?_
  | with_reducible refine o_neI ?_
  | ((with_reducible refine o_ixL (d := ?d) ?he ?_); (case he => exact rfl))
  | ((with_reducible refine o_inL (x := ?x) (xs := ?xs) ?hx ?hs ?_); (case hx => exact rfl); (case hs => exact rfl))
  | ((with_reducible refine o_catT ?hl ?_); (case hl => (simp only [List.length_cons, List.length_nil, List.length_append, List.length_map, List.length_replicate]; omega)))
  | ((with_reducible refine o_repTI ?h0 ?h1 ?_); (case h0 => omega); (case h1 => omega))
  | with_reducible refine o_isNT ?_))
local macro_rules | `(tactic| walk_at "wt") => `(tactic| (first
  | with_reducible refine wt_test ?_
  | with_reducible refine wt_B ?_
  | with_reducible refine wt_not ?_
  | with_reducible refine wt_and ?_
  | with_reducible refine wt_or ?_))
local macro_rules | `(tactic| walk_at "ws") => `(tactic| (first
  | with_reducible refine ws_seq ?_
  | with_reducible refine ws_asg ?_
  | with_reducible refine ws_if ?_
  | with_reducible refine ws_ret ?_
  | with_reducible refine ws_next ?_
  | with_reducible refine ws_drop ?_
  | with_reducible refine ws_par ?_
  | ((with_reducible refine ws_asg2 ?hn ?_); (case hn => rfl))))
local macro_rules | `(tactic| walk_at "no") => `(tactic| first
  | (intro hb; exact Bool.noConfusion (show (true : Bool) = false from hb))
  | (intro hb; exact Bool.noConfusion (show (false : Bool) = true from hb)))
local macro_rules | `(tactic| walk_at "br") => `(tactic| first
  | (refine ⟨?_, ?no⟩; (case no => walk_at "no"); (intro _))
  | (refine ⟨?no, ?_⟩; (case no => walk_at "no"); (intro _)))
local macro_rules | `(tactic| walk_at "ex") => `(tactic| first
  | (refine ⟨_, rfl, ?_⟩)
  | (refine ⟨_, _, rfl, rfl, ?_⟩)
  | (refine ⟨_, _, rfl, ?_⟩)
  | (refine ⟨_, _, _, rfl, ?_⟩)
  | (refine ⟨_, _, _, _, rfl, ?_⟩)
  | (refine ⟨_, .inr rfl, ?_⟩)
  | (refine ⟨_, .inl rfl, ?_⟩))
local macro_rules | `(tactic| walk_at "r") => `(tactic| repeat (first
  | ((with_reducible show MW.WE _ _ _ _ _); walk_at "we")
  | ((with_reducible show MW.Op2 _ _ _ _ _ _ _); walk_at "op2")
  | ((with_reducible show MW.WS _ _ _ _ _); walk_at "ws")
  | ((with_reducible show MW.WA _ _ _ _ _); first | with_reducible refine wa_cons ?_ | with_reducible refine wa_nil ?_)
  | ((with_reducible show MW.WT _ _ _ _ _); walk_at "wt")
  | ((with_reducible show Exists _); walk_at "ex")
  | ((with_reducible show And _ _); first | walk_at "br" | (refine ⟨by decide, ?_⟩) | (refine ⟨.inl ⟨_, rfl⟩, ?_⟩) | (refine ⟨.inr (.inl ⟨_, rfl⟩), ?_⟩) | (refine ⟨.inr (.inr ⟨_, rfl⟩), ?_⟩))
  | walk_at "norm1"
  | walk_at "ex"))
local macro_rules | `(tactic| walk_at "le") => `(tactic| ((try refine ⟨rfl, ?_⟩); repeat (first | exact Le.nil | refine Le.eq ?_ | refine Le.any ?_)))

theorem sc_p_multiplied_tables : FnScope ["first", "second", "found", "content", "more", "both"] ["first", "second"] (defScope s_p_multiplied_tables) := ⟨rfl, rfl, rfl, by decide +kernel, rfl, by decide +kernel, by decide +kernel⟩
def sp_p_multiplied_tables : SpecD := fun ds R => ∃ (f s : Tab) (n a b : Nat), ds = [.tab f, .tab s] ∧ n ≤ 5 ∧ a + b ≤ 12 ∧ TabOk n a f ∧ TabOk n b s ∧ Bd s ∧ R (.tab (mulT f s))
theorem ok_p_multiplied_tables {P : Program} {w : World} {K : PySem.W.Frag} {mg : Str → Option Value} {base h : Heap} (T : Tx K mg h) (o_p_joined_contents : Ok P w K mg base "joined_contents" ["content", "more"] 1 (SpP K sp_p_joined_contents)) :
    Ok P w K mg base "multiplied_tables" ["first", "second"] 2 (SpP K sp_p_multiplied_tables) := by
  obtain ⟨fd, F⟩ := T.c.def_ 18 (d := d_p_multiplied_tables) rfl
  have F : FnP K "multiplied_tables" s_p_multiplied_tables (He.ga K "multiplied_tables") fd := F
  have len : ∀ ds R, sp_p_multiplied_tables ds R → ds.length = 2 := (fun ds R h => by obtain ⟨_, _, _, _, _, rfl, _⟩ := h; rfl)
  refine Ok.of F (He.glo_ok T.X T.G (T.c.fact 18 (f := .glo "multiplied_tables") rfl)) (FunD.bindsN F fun _ _ _ _ _ _ us hl => match us, hl with | [_, _], _ => rfl)
    (FunD.ok F sc_p_multiplied_tables (fun vs H Q E h => lenP (n := 2) h len) (fun cdv A outer s H vs Q E hr hq => ⟨_, PSs.nox (pss_cons (ps_set (i := 2) sc_p_multiplied_tables.nd rfl (by first | exact .inl rfl | exact .inr rfl) pe_dnewT)
    (pss_cons (ps_lk (ps_for PassesOwn.never (by rfl) (pi_keys (pv 0)) (pg_name (i := 3) sc_p_multiplied_tables.nd rfl (by first | exact .inl rfl | exact .inr rfl)) (pss_one (ps_lk (ps_for PassesOwn.never (by rfl) (pi_keys (pv 1)) (pg_name (i := 4) sc_p_multiplied_tables.nd rfl (by first | exact .inl rfl | exact .inr rfl)) (pss_cons (ps_set (i := 5) sc_p_multiplied_tables.nd rfl (by first | exact .inl rfl | exact .inr rfl) (pe_cl o_p_joined_contents (hr.mono (by omega)) (by rfl) (pa_cons (pv 3) (pa_cons (pv 4) pa_nil))))
    (pss_one (ps_dput (hu_of hr) (pv 2) (pv 5) (pe_op op_add (pe_dget2 (hu_of hr) (pv 2) (pv 5) pe_int ⟨by rfl, by rfl, by rfl, by rfl⟩) (pe_op op_mul (pe_dget (hu_of hr) (pv 0) (pv 3) (fun _ _ => rfl)) (pe_dget (hu_of hr) (pv 1) (pv 4) (fun _ _ => rfl)))) rfl))))))))
    (pss_one (ps_ret (pv 2))))), ?_⟩))
  refine fn_run (n := 2) hq len (by decide) fun ds R hs => ?_
  try dsimp only [cxOf]
  obtain ⟨f, s, n, a, b, rfl, hn, hM, hf, hs, hB, hR⟩ := hs
  show WS K _ 0 [.sh (.tab f), .sh (.tab s), .any, .any, .any, .any] _
  refine ws_seq (ws_asgD ?_)
  walk_at "r"
  refine ws_keys (t := f) mono_then rfl (fun k => [.sh (.tab f), .sh (.tab s), .dic ((f.take k).foldl (mulF f s) []), .any, .any, .any]) (by walk_at "le") (fun k c x hk => ?_) ?_
  · obtain ⟨y, hy⟩ := tget_get hk
    rw [foldl_take hk]
    have h0 : TabOk n (a + b) ((f.take k).foldl (mulF f s) []) := mulF_ok hf hs (fun _ h => take_sub h) (TabOk.nil n _)
    generalize (f.take k).foldl (mulF f s) [] = acc at h0 ⊢
    refine ws_keys (t := s) mono_loop rfl (fun j => [.sh (.tab f), .sh (.tab s), .dic (mulIn y s c acc (s.take j)), .sh (.ints c), .any, .any]) (by walk_at "le") (fun j c2 x2 hj => ?_) ?_
    · obtain ⟨y2, hy2⟩ := tget_get hj
      have hb2 := hB.get hy2
      walk_at "r"
      refine ⟨by rw [hf.gl hk, hs.gl hj], by rw [hf.gl hk]; omega, ?_⟩
      walk_at "r"
      refine ws_dput rfl ?_
      walk_at "r"
      refine ⟨f, c, y, rfl, rfl, hy, ?_⟩
      walk_at "r"
      refine ⟨s, c2, y2, rfl, rfl, hy2, ?_⟩
      walk_at "r"
      refine ⟨(mulIn_ok (hf.gl hk) (hf.gb hk) hs (fun _ h => take_sub h) h0).lt hn hM, ?_⟩
      walk_at "r"
      have e : mulIn y s c acc (s.take (j + 1)) = tput (mulIn y s c acc (s.take j)) (vadd c c2) ((tget (mulIn y s c acc (s.take j)) (vadd c c2)).getD 0 + y * y2) := by
        unfold mulIn
        rw [foldl_take hj]
        dsimp only
        rw [hy2]
        rfl
      rw [e]
      walk_at "le"
    · rw [List.take_length]
      have e : mulF f s acc (c, x) = mulIn y s c acc s := by
        unfold mulF
        dsimp only
        rw [hy]
        rfl
      rw [e]
      walk_at "r"
      walk_at "le"
  · rw [List.take_length]
    dsimp only [Then]
    refine ws_giveD (i := 2) rfl ?_
    walk_at "r"
    exact hR
theorem sc_p_powered_table : FnScope ["many", "table", "times", "found", "step"] ["many", "table", "times"] (defScope s_p_powered_table) := ⟨rfl, rfl, rfl, by decide +kernel, rfl, by decide +kernel, by decide +kernel⟩
def sp_p_powered_table : SpecD := fun ds R => ∃ (N : Nat) (t : Tab) (k a : Nat), ds = [.int N, .tab t, .int k] ∧ N ≤ 5 ∧ k ≤ 12 ∧ (k * a ≤ 12) ∧ TabOk N a t ∧ Bd t ∧ R (.tab (powT N t k))
theorem ok_p_powered_table {P : Program} {w : World} {K : PySem.W.Frag} {mg : Str → Option Value} {base h : Heap} (T : Tx K mg h) (o_p_multiplied_tables : Ok P w K mg base "multiplied_tables" ["first", "second"] 2 (SpP K sp_p_multiplied_tables)) (o_p_zero_table : Ok P w K mg base "zero_table" ["many"] 1 (SpP K sp_p_zero_table)) :
    Ok P w K mg base "powered_table" ["many", "table", "times"] 3 (SpP K sp_p_powered_table) := by
  obtain ⟨fd, F⟩ := T.c.def_ 19 (d := d_p_powered_table) rfl
  have F : FnP K "powered_table" s_p_powered_table (He.ga K "powered_table") fd := F
  have len : ∀ ds R, sp_p_powered_table ds R → ds.length = 3 := (fun ds R h => by obtain ⟨_, _, _, _, rfl, _⟩ := h; rfl)
  refine Ok.of F (He.glo_ok T.X T.G (T.c.fact 19 (f := .glo "powered_table") rfl)) (FunD.bindsN F fun _ _ _ _ _ _ us hl => match us, hl with | [_, _, _], _ => rfl)
    (FunD.ok F sc_p_powered_table (fun vs H Q E h => lenP (n := 3) h len) (fun cdv A outer s H vs Q E hr hq => ⟨_, PSs.nox (pss_cons (ps_set (i := 3) sc_p_powered_table.nd rfl (by first | exact .inl rfl | exact .inr rfl) (pe_cl o_p_zero_table (hr.mono (by omega)) (by rfl) (pa_cons (pv 0) pa_nil)))
    (pss_cons (ps_for PassesOwn.never (by rfl) (pi_range1 (by rfl) T.range_ (pa_cons (pv 2) pa_nil)) (pg_name (i := 4) sc_p_powered_table.nd rfl (by first | exact .inl rfl | exact .inr rfl)) (pss_one (ps_set (i := 3) sc_p_powered_table.nd rfl (by first | exact .inl rfl | exact .inr rfl) (pe_cl o_p_multiplied_tables (hr.mono (by omega)) (by rfl) (pa_cons (pv 3) (pa_cons (pv 1) pa_nil))))))
    (pss_one (ps_ret (pv 3))))), ?_⟩))
  refine fn_run (n := 3) hq len (by decide) fun ds R hs => ?_
  try dsimp only [cxOf]
  obtain ⟨N, t, k, a, rfl, hN, hk, hM, ht, hB, hR⟩ := hs
  show WS K _ 0 [.sh (.int N), .sh (.tab t), .sh (.int k), .any, .any] _
  walk_at "r"
  refine ⟨hN, ?_⟩
  walk_at "r"
  refine ws_rng1 mono_then ?_
  walk_at "r"
  refine ⟨by omega, by omega, fun j => [.sh (.int N), .sh (.tab t), .sh (.int k), .sh (.tab (powT N t j)), .any], by walk_at "le", fun j hj => ?_, ?_⟩
  · walk_at "r"
    refine ⟨_, _, N, j * a, a, rfl, hN, ?_, powT_ok ht j, ht, hB, ?_⟩
    · have h1 : (j + 1) * a ≤ k * a := Nat.mul_le_mul_right a (by omega)
      rw [Nat.succ_mul] at h1
      omega
    walk_at "r"
    walk_at "le"
  · walk_at "r"
    exact hR
theorem sc_p_binomial : FnScope ["total", "size", "found", "step"] ["total", "size"] (defScope s_p_binomial) := ⟨rfl, rfl, rfl, by decide +kernel, rfl, by decide +kernel, by decide +kernel⟩
def sp_p_binomial : SpecD := fun ds R => ∃ (t : Int) (k : Nat), ds = [.int t, .int k] ∧ k ≤ 12 ∧ 0 ≤ t ∧ t ≤ 2000000000 ∧ R (.int (binom t k))
theorem ok_p_binomial {P : Program} {w : World} {K : PySem.W.Frag} {mg : Str → Option Value} {base h : Heap} (T : Tx K mg h)  :
    Ok P w K mg base "binomial" ["total", "size"] 1 (SpP K sp_p_binomial) := by
  obtain ⟨fd, F⟩ := T.c.def_ 20 (d := d_p_binomial) rfl
  have F : FnP K "binomial" s_p_binomial (He.ga K "binomial") fd := F
  have len : ∀ ds R, sp_p_binomial ds R → ds.length = 2 := (fun ds R h => by obtain ⟨_, _, rfl, _⟩ := h; rfl)
  refine Ok.of F (He.glo_ok T.X T.G (T.c.fact 20 (f := .glo "binomial") rfl)) (FunD.bindsN F fun _ _ _ _ _ _ us hl => match us, hl with | [_, _], _ => rfl)
    (FunD.ok F sc_p_binomial (fun vs H Q E h => lenP (n := 2) h len) (fun cdv A outer s H vs Q E hr hq => ⟨_, PSs.nox (pss_cons (ps_set (i := 2) sc_p_binomial.nd rfl (by first | exact .inl rfl | exact .inr rfl) pe_int)
    (pss_cons (ps_for PassesOwn.never (by rfl) (pi_range1 (by rfl) T.range_ (pa_cons (pv 1) pa_nil)) (pg_name (i := 3) sc_p_binomial.nd rfl (by first | exact .inl rfl | exact .inr rfl)) (pss_one (ps_set (i := 2) sc_p_binomial.nd rfl (by first | exact .inl rfl | exact .inr rfl) (pe_op op_fdiv (pe_op op_mul (pv 2) (pe_op op_sub (pv 0) (pv 3))) (pe_op op_add (pv 3) pe_int)))))
    (pss_one (ps_ret (pv 2))))), ?_⟩))
  refine fn_run (n := 2) hq len (by decide) fun ds R hs => ?_
  try dsimp only [cxOf]
  obtain ⟨t, k, rfl, hk, h0, h1, hR⟩ := hs
  show WS K _ 0 [.sh (.int t), .sh (.int k), .any, .any] _
  walk_at "r"
  refine ws_rng1 mono_then ?_
  walk_at "r"
  refine ⟨by omega, by omega, fun j => [.sh (.int t), .sh (.int k), .sh (.int (binom t j)), .any], by walk_at "le", fun j hj => ?_, ?_⟩
  · walk_at "r"
    walk_at "le"
  · walk_at "r"
    exact hR
theorem sc_p_ways_to_take : FnScope ["number", "size", "again"] ["number", "size", "again"] (defScope s_p_ways_to_take) := ⟨rfl, rfl, rfl, by decide +kernel, rfl, by decide +kernel, by decide +kernel⟩
def sp_p_ways_to_take : SpecD := fun ds R => ∃ (t : Int) (k : Nat) (again : Bool), ds = [.int t, .int k, .bl again] ∧ k ≤ 12 ∧ 0 ≤ t ∧ t ≤ 1000000000 ∧ R (.int (waysOf t k again))
theorem ok_p_ways_to_take {P : Program} {w : World} {K : PySem.W.Frag} {mg : Str → Option Value} {base h : Heap} (T : Tx K mg h) (o_p_binomial : Ok P w K mg base "binomial" ["total", "size"] 1 (SpP K sp_p_binomial)) :
    Ok P w K mg base "ways_to_take" ["number", "size", "again"] 2 (SpP K sp_p_ways_to_take) := by
  obtain ⟨fd, F⟩ := T.c.def_ 21 (d := d_p_ways_to_take) rfl
  have F : FnP K "ways_to_take" s_p_ways_to_take (He.ga K "ways_to_take") fd := F
  have len : ∀ ds R, sp_p_ways_to_take ds R → ds.length = 3 := (fun ds R h => by obtain ⟨_, _, _, rfl, _⟩ := h; rfl)
  refine Ok.of F (He.glo_ok T.X T.G (T.c.fact 21 (f := .glo "ways_to_take") rfl)) (FunD.bindsN F fun _ _ _ _ _ _ us hl => match us, hl with | [_, _, _], _ => rfl)
    (FunD.ok F sc_p_ways_to_take (fun vs H Q E h => lenP (n := 3) h len) (fun cdv A outer s H vs Q E hr hq => ⟨_, PSs.nox (pss_cons (ps_if (PW.pt (pw_and (pt_val (pv 2)) (pw_and1 (pt_cmpR op_gt (pv 1) pe_int (by rfl))))) (pss_one (ps_ret (pe_cl o_p_binomial (hr.mono (by omega)) (by rfl) (pa_cons (pe_op op_sub (pe_op op_add (pv 0) (pv 1)) pe_int) (pa_cons (pv 1) pa_nil))))) pss_nil)
    (pss_one (ps_ret (pe_cl o_p_binomial (hr.mono (by omega)) (by rfl) (pa_cons (pv 0) (pa_cons (pv 1) pa_nil)))))), ?_⟩))
  refine fn_run (n := 3) hq len (by decide) fun ds R hs => ?_
  try dsimp only [cxOf]
  obtain ⟨t, k, again, rfl, hk, h0, h1, hR⟩ := hs
  show WS K _ 0 [.sh (.int t), .sh (.int k), .sh (.bl again)] _
  walk_at "r"
  refine ⟨fun ha => ?_, fun ha => ?_⟩
  · walk_at "r"
    refine ⟨fun hb => ?_, fun hb => ?_⟩
    · have hb := of_decide_eq_true hb
      walk_at "r"
      refine ⟨by omega, by omega, by omega, ?_⟩
      have e : waysOf t k again = binom (t + k - 1) k := if_pos ⟨ha, by omega⟩
      rw [e] at hR
      walk_at "r"
      exact hR
    · have hb := of_decide_eq_false hb
      walk_at "r"
      refine ⟨by omega, by omega, by omega, ?_⟩
      have e : waysOf t k again = binom t k := if_neg (fun z => hb (by omega))
      rw [e] at hR
      walk_at "r"
      exact hR
  · walk_at "r"
    refine ⟨by omega, by omega, by omega, ?_⟩
    have e : waysOf t k again = binom t k := if_neg (fun z => by rw [ha] at z; cases z.1)
    rw [e] at hR
    walk_at "r"
    exact hR
end ME
end
section
set_option Elab.async false
set_option linter.all false
set_option maxRecDepth 100000
set_option maxHeartbeats 4000000
namespace ME
open PySem L2 MW
local macro_rules | `(tactic| walk_at "norm1") => `(tactic| dsimp only [Then, LoopP, FnPost, FnPostS])
local macro_rules | `(tactic| walk_at "mul") => `(tactic| (first
  | exact Or.inl ⟨by omega, by omega⟩
  | exact Or.inr ⟨by omega, by omega⟩))
local macro_rules | `(tactic| walk_at "we") => `(tactic| (first
  | ((with_reducible refine we_var (d := ?d) ?he ?_); (case he => exact rfl))
  | with_reducible refine we_int ?_
  | with_reducible refine we_str ?_
  | with_reducible refine we_op ?_
  | with_reducible refine we_cl ?_
  | with_reducible refine we_tup ?_
  | with_reducible refine we_bl ?_
  | with_reducible refine we_non ?_
  | with_reducible refine we_if ?_
  | ((with_reducible refine we_lenO (ds := ?ds) ?he ?_); (case he => exact rfl))
  | with_reducible refine we_len ?_
  | with_reducible refine we_int1 ?_
  | with_reducible refine we_andV ?_
  | with_reducible refine we_orV ?_
  | with_reducible refine we_notV ?_
  | with_reducible refine we_neg ?_
  | with_reducible refine we_chain ?_
  | with_reducible refine we_dget ?_
  | ((with_reducible refine we_dget2O (t := ?t) ?he ?_); (case he => exact rfl))
  | ((with_reducible refine we_dget2I (t := ?t) ?he ?_); (case he => exact rfl))
  | with_reducible refine we_dget2 ?_
  | ((with_reducible refine we_isi ?ht ?_); (case ht => first | exact .inl rfl | exact .inr (.inl rfl) | exact .inr (.inr (.inl rfl)) | exact .inr (.inr (.inr rfl))))
  | ((with_reducible refine we_clS ?he ?_); (case he => exact rfl))
  | with_reducible refine we_max2 ?_
  | with_reducible refine we_dispT1 ?_
  | with_reducible refine we_dispT2 ?_
  | ((with_reducible refine we_tupOfO (ds := ?ds) ?he ?_); (case he => exact rfl))
  | with_reducible refine we_sumT ?_
  | with_reducible refine we_divmod ?_
  | with_reducible refine we_newT ?_))
local macro_rules | `(tactic| walk_at "op2") => `(tactic| (first
  | ((with_reducible refine o_ixT (d := ?d) ?he ?_); (case he => exact rfl))
  | with_reducible refine o_eqS ?_
  | with_reducible refine o_eqI ?_
  | with_reducible refine o_add ?_
  | with_reducible refine o_sub ?_
  | ((with_reducible refine o_inT (x := ?x) (xs := ?xs) ?hx ?hs ?_); (case hx => exact rfl); (case hs => exact rfl))
  | ((with_reducible refine o_mul ?hc ?_); (case hc => walk_at "mul"))
  | ((with_reducible refine o_mod ?hc ?_); (case hc => omega))
  | ((with_reducible refine o_div ?hc ?_); (case hc => exact ⟨by omega, by omega⟩))
  | with_reducible refine o_lt ?_
  | with_reducible refine o_le ?_
  | with_reducible refine o_gt ?_
  | with_reducible refine o_ge ?_
  | with_reducible refine o_neI ?_
  | ((with_reducible refine o_ixL (d := ?d) ?he ?_); (case he => exact rfl))
  | ((with_reducible refine o_inL (x := ?x) (xs := ?xs) ?hx ?hs ?_); (case hx => exact rfl); (case hs => exact rfl))
  | ((with_reducible refine o_catT ?hl ?_); (case hl => (simp only [List.length_cons, List.length_nil, List.length_append, List.length_map, List.length_replicate]; omega)))
  | ((with_reducible refine o_repTI ?h0 ?h1 ?_); (case h0 => omega); (case h1 => omega))
  | with_reducible refine o_isNT ?_))
local macro_rules | `(tactic| walk_at "wt") => `(tactic| (first
  | with_reducible refine wt_test ?_
  | with_reducible refine wt_B ?_
  | with_reducible refine wt_not ?_
  | with_reducible refine wt_and ?_
  | with_reducible refine wt_or ?_))
local macro_rules | `(tactic| walk_at "ws") => `(tactic| (first
  | with_reducible refine ws_seq ?_
  | with_reducible refine ws_asg ?_
  | with_reducible refine ws_if ?_
  | with_reducible refine ws_ret ?_
  | with_reducible refine ws_next ?_
  | with_reducible refine ws_drop ?_
  | with_reducible refine ws_par ?_
  | ((with_reducible refine ws_asg2 ?hn ?_); (case hn => rfl))))
local macro_rules | `(tactic| walk_at "no") => `(tactic| first
  | (intro hb; exact Bool.noConfusion (show (true : Bool) = false from hb))
  | (intro hb; exact Bool.noConfusion (show (false : Bool) = true from hb)))
local macro_rules | `(tactic| walk_at "br") => `(tactic| first
  | (refine ⟨?_, ?no⟩; (case no => walk_at "no"); (intro _))
  | (refine ⟨?no, ?_⟩; (case no => walk_at "no"); (intro _)))
local macro_rules | `(tactic| walk_at "ex") => `(tactic| first
  | (refine ⟨_, rfl, ?_⟩)
  | (refine ⟨_, _, rfl, rfl, ?_⟩)
  | (refine ⟨_, _, rfl, ?_⟩)
  | (refine ⟨_, _, _, rfl, ?_⟩)
  | (refine ⟨_, _, _, _, rfl, ?_⟩)
  | (refine ⟨_, .inr rfl, ?_⟩)
  | (refine ⟨_, .inl rfl, ?_⟩))
local macro_rules | `(tactic| walk_at "r") => `(tactic| repeat (first
  | ((with_reducible show MW.WE _ _ _ _ _); walk_at "we")
  | ((with_reducible show MW.Op2 _ _ _ _ _ _ _); walk_at "op2")
  | ((with_reducible show MW.WS _ _ _ _ _); walk_at "ws")
  | ((with_reducible show MW.WA _ _ _ _ _); first | with_reducible refine wa_cons ?_ | with_reducible refine wa_nil ?_)
  | ((with_reducible show MW.WT _ _ _ _ _); walk_at "wt")
  | ((with_reducible show Exists _); walk_at "ex")
  | ((with_reducible show And _ _); first | walk_at "br" | (refine ⟨by decide, ?_⟩) | (refine ⟨.inl ⟨_, rfl⟩, ?_⟩) | (refine ⟨.inr (.inl ⟨_, rfl⟩), ?_⟩) | (refine ⟨.inr (.inr ⟨_, rfl⟩), ?_⟩))
  | walk_at "norm1"
  | walk_at "ex"))
local macro_rules | `(tactic| walk_at "le") => `(tactic| ((try refine ⟨rfl, ?_⟩); repeat (first | exact Le.nil | refine Le.eq ?_ | refine Le.any ?_)))

theorem sc_p_taken_further : FnScope ["layers", "content", "number", "again", "last", "fresh", "taken", "have", "both", "more", "ways", "layer", "step"] ["layers", "content", "number", "again"] (defScope s_p_taken_further) := ⟨rfl, rfl, rfl, by decide +kernel, rfl, by decide +kernel, by decide +kernel⟩
def sp_p_taken_further : SpecD := fun ds R => ∃ (Ls : List Tab) (c : Ct) (number : Int) (again : Bool) (n M : Nat), ds = [.lst (Ls.map .tab), .ints c, .int number, .bl again] ∧ n ≤ 5 ∧ 0 < Ls.length ∧ Ls.length ≤ 13 ∧ (Ls.length - 1) * M ≤ 12 ∧ LayOk n M Ls.length Ls ∧ c.length = n ∧ (∀ z ∈ c, 0 ≤ z ∧ z ≤ (M : Int)) ∧ 0 ≤ number ∧ number ≤ 40 ∧ R (.lst ((further Ls c number again).map .tab))
theorem ok_p_taken_further {P : Program} {w : World} {K : PySem.W.Frag} {mg : Str → Option Value} {base h : Heap} (T : Tx K mg h) (o_p_joined_contents : Ok P w K mg base "joined_contents" ["content", "more"] 1 (SpP K sp_p_joined_contents)) (o_p_ways_to_take : Ok P w K mg base "ways_to_take" ["number", "size", "again"] 2 (SpP K sp_p_ways_to_take)) :
    Ok P w K mg base "taken_further" ["layers", "content", "number", "again"] 3 (SpP K sp_p_taken_further) := by
  obtain ⟨fd, F⟩ := T.c.def_ 22 (d := d_p_taken_further) rfl
  have F : FnP K "taken_further" s_p_taken_further (He.ga K "taken_further") fd := F
  have len : ∀ ds R, sp_p_taken_further ds R → ds.length = 4 := (fun ds R h => by obtain ⟨_, _, _, _, _, _, rfl, _⟩ := h; rfl)
  refine Ok.of F (He.glo_ok T.X T.G (T.c.fact 22 (f := .glo "taken_further") rfl)) (FunD.bindsN F fun _ _ _ _ _ _ us hl => match us, hl with | [_, _, _, _], _ => rfl)
    (FunD.ok F sc_p_taken_further (fun vs H Q E h => lenP (n := 4) h len) (fun cdv A outer s H vs Q E hr hq => ⟨_, PSs.nox (pss_cons (ps_set (i := 4) sc_p_taken_further.nd rfl (by first | exact .inl rfl | exact .inr rfl) (pe_op op_sub (pe_callB call_len_seq (by rfl) T.len_ PySem.boot_len (pa_cons (pv 0) pa_nil)) pe_int))
    (pss_cons (ps_setLc (i := 5) (own := [("step", 12)]) (by rfl) sc_p_taken_further.nd rfl rfl (sw_true rfl rfl rfl (by decide +kernel)) (pi_range1 (by rfl) T.range_ (pa_cons (pe_op op_add (pv 4) pe_int) pa_nil)) (blkOk_by (own := [("step", 12)]) (by rfl)) (fun _ _ _ _ _ => (pg_name (i := 12) sc_p_taken_further.nd rfl (by first | exact .inl rfl | exact .inr rfl))) (fun _ _ _ _ _ => pts_nil) (fun _ _ _ _ _ => pe_dnewT))
    (pss_cons (ps_for PassesOwn.never (by rfl) (pi_range1 (by rfl) T.range_ (pa_cons (pe_op op_add (pv 4) pe_int) pa_nil)) (pg_name (i := 6) sc_p_taken_further.nd rfl (by first | exact .inl rfl | exact .inr rfl)) (pss_one (ps_lk (ps_for PassesOwn.never (by rfl) (pi_keys (pe_ix ix_list (pv 0) (pv 6) (fun _ _ => rfl))) (pg_name (i := 7) sc_p_taken_further.nd rfl (by first | exact .inl rfl | exact .inr rfl)) (pss_cons (ps_set (i := 8) sc_p_taken_further.nd rfl (by first | exact .inl rfl | exact .inr rfl) (pv 7))
    (pss_one (ps_for PassesOwn.never (by rfl) (pi_range1 (by rfl) T.range_ (pa_cons (pe_op op_add (pe_op op_sub (pv 4) (pv 6)) pe_int) pa_nil)) (pg_name (i := 9) sc_p_taken_further.nd rfl (by first | exact .inl rfl | exact .inr rfl)) (pss_cons (ps_set (i := 10) sc_p_taken_further.nd rfl (by first | exact .inl rfl | exact .inr rfl) (pe_cl o_p_ways_to_take (hr.mono (by omega)) (by rfl) (pa_cons (pv 2) (pa_cons (pv 9) (pa_cons (pv 3) pa_nil)))))
    (pss_cons (ps_if (pt_cmpR op_gt (pv 10) pe_int (by rfl)) (pss_cons (ps_set (i := 11) sc_p_taken_further.nd rfl (by first | exact .inl rfl | exact .inr rfl) (pe_ix ix_list (pv 5) (pe_op op_add (pv 6) (pv 9)) (fun _ _ => rfl)))
    (pss_one (ps_dput (hu_of hr) (pv 11) (pv 8) (pe_op op_add (pe_dget2 (hu_of hr) (pv 11) (pv 8) pe_int ⟨by rfl, by rfl, by rfl, by rfl⟩) (pe_op op_mul (pe_dget (hu_of hr) (pe_ix ix_list (pv 0) (pv 6) (fun _ _ => rfl)) (pv 7) (fun _ _ => rfl)) (pv 10))) rfl))) pss_nil)
    (pss_one (ps_set (i := 8) sc_p_taken_further.nd rfl (by first | exact .inl rfl | exact .inr rfl) (pe_cl o_p_joined_contents (hr.mono (by omega)) (by rfl) (pa_cons (pv 8) (pa_cons (pv 1) pa_nil))))))))))))))
    (pss_one (ps_ret (pv 5)))))), ?_⟩))
  refine fn_run (n := 4) hq len (by decide) fun ds R hs => ?_
  try dsimp only [cxOf]
  obtain ⟨Ls, c, number, again, n, M, rfl, hn, hL0, hL1, hLM, hL, hc, hcb, hx0, hx1, hR⟩ := hs
  generalize eL : Ls.length = L at *
  show WS K _ 0 [.sh (.lst (Ls.map .tab)), .sh (.ints c), .sh (.int number), .sh (.bl again), .any, .any, .any, .any, .any, .any, .any, .any, .any] _
  refine ws_seq (ws_asg (we_op (we_len (we_var (d := .lst (Ls.map .tab)) rfl ⟨_, .inl rfl, we_int (o_sub ?_)⟩))))
  dsimp only [Then]
  rw [List.length_map, eL]
  have iM : ∀ i, i < L → i * M ≤ 12 := fun i hi => Nat.le_trans (Nat.mul_le_mul_right M (by omega)) hLM
  refine ws_held (j := 12) ?hv ?hj ?hl ?_
  case hv => exact any_of (by rfl)
  case hj => decide
  case hl => (show 5 < 13; decide)
  walk_at "r"
  refine ⟨by omega, by omega, fun q ps => ?_⟩
  have e0 : ((L : Int) - 1 + 1).toNat = L := by omega
  rw [e0]
  refine wm_rng1 ?_
  walk_at "r"
  refine ⟨by omega, by omega, fun _ => [.sh (.lst (Ls.map .tab)), .sh (.ints c), .sh (.int number), .sh (.bl again), .sh (.int ((L : Int) - 1)), .sh (.adr q), .any, .any, .any, .any, .any, .any, .any], fun k => iter (layTaken Ls c number again) k (List.replicate L []), by walk_at "le", rfl, fun a ha => ?_, fun e' he => ?_⟩
  · dsimp only
    rw [e0] at ha
    obtain ⟨g1, g2⟩ := hL.get ha
    generalize et : Ls.getD a [] = t at g1 g2
    have hf := further_ok (number := number) (again := again) hL hc hcb a (by omega)
    generalize ef : iter (layTaken Ls c number again) a (List.replicate L []) = fresh at hf
    have eN : iter (layTaken Ls c number again) (a + 1) (List.replicate L []) = t.foldl (fun acc p => layHave Ls c number again a acc p.1) fresh := by
      show layTaken Ls c number again a (iter (layTaken Ls c number again) a (List.replicate L [])) = _
      rw [ef]
      unfold layTaken
      rw [et]
    rw [eN]
    refine wm_keysL (i := 0) (l := 6) (n := a) (t := t) rfl rfl (by rw [List.getElem?_map, g1]; rfl) (fun _ => [.sh (.lst (Ls.map .tab)), .sh (.ints c), .sh (.int number), .sh (.bl again), .sh (.int ((L : Int) - 1)), .sh (.adr q), .sh (.int a), .any, .any, .any, .any, .any, .any]) (fun j => (t.take j).foldl (fun acc p => layHave Ls c number again a acc p.1) fresh) (by walk_at "le") rfl (fun j p x hj => ?_) (fun e' he => ?_)
    · try dsimp only
      rw [foldl_take hj]
      have hacc := layFold_ok (number := number) (again := again) eL hc hcb ha (t.take j) (fun r hr => ⟨g2.len r (take_sub hr), g2.bd r (take_sub hr)⟩) _ hf
      generalize eacc : (t.take j).foldl (fun acc p => layHave Ls c number again a acc p.1) fresh = acc at hacc
      obtain ⟨v, hv⟩ := tget_get hj
      have hp : BothOk n a M p := ⟨g2.gl hj, g2.gb hj⟩
      refine wm_seq (wm_lift ?_)
      walk_at "r"
      refine wm_rng1 ?_
      walk_at "r"
      have e1 : ((L : Int) - 1 - (a : Int) + 1).toNat = L - a := by omega
      have e2 : layHave Ls c number again a acc p = (iter (layOne c v number again a) (L - a) (acc, p)).1 := by
        unfold layHave
        rw [eL, et, hv]
        have : L - 1 - a + 1 = L - a := by omega
        rw [this]
        rfl
      rw [e1]
      refine ⟨by omega, by omega, fun k => [.sh (.lst (Ls.map .tab)), .sh (.ints c), .sh (.int number), .sh (.bl again), .sh (.int ((L : Int) - 1)), .sh (.adr q), .sh (.int a), .sh (.ints p), .sh (.ints (iter (layOne c v number again a) k (acc, p)).2), .any, .any, .any, .any], fun k => (iter (layOne c v number again a) k (acc, p)).1, by walk_at "le", rfl, fun k hk => ?_, fun e' he => ?_⟩
      · dsimp only
        obtain ⟨hk1, hk2⟩ := lay_ok (v := v) (number := number) (again := again) hc hcb hacc hp k (by omega)
        have eS : iter (layOne c v number again a) (k + 1) (acc, p) = layOne c v number again a k (iter (layOne c v number again a) k (acc, p)) := rfl
        rw [eS]
        generalize iter (layOne c v number again a) k (acc, p) = st at hk1 hk2
        obtain ⟨lays, both⟩ := st
        obtain ⟨w0, w1⟩ := ways_bd (again := again) (k := k) hx0 hx1 (by omega)
        refine wm_seq (wm_lift ?_)
        walk_at "r"
        refine ⟨by omega, by omega, by omega, ?_⟩
        walk_at "r"
        generalize hw : waysOf number (k : Nat) again = ways at w0 w1
        have tail : ∀ (lays' : List Tab) (lay : Sl), WM K q ps (tAsg (tCall (SpP K sp_p_joined_contents) [] E0 (tCons (tVar 8) (tCons (tVar 1) tNil))) (gName 8)) 0 [.sh (.lst (Ls.map .tab)), .sh (.ints c), .sh (.int number), .sh (.bl again), .sh (.int ((L : Int) - 1)), .sh (.adr q), .sh (.int a), .sh (.ints p), .sh (.ints both), .sh (.int k), .sh (.int ways), lay, .any] lays' fun m' e' T' => m' = 0 ∧ Le [.sh (.lst (Ls.map .tab)), .sh (.ints c), .sh (.int number), .sh (.bl again), .sh (.int ((L : Int) - 1)), .sh (.adr q), .sh (.int a), .sh (.ints p), .sh (.ints (vadd both c)), .any, .any, .any, .any] e' ∧ T' = lays' := fun lays' lay => by
          refine wm_lift ?_
          walk_at "r"
          refine ⟨by rw [hk2.1, hc], by rw [hk2.1]; omega, ?_⟩
          walk_at "r"
          exact ⟨by walk_at "le", rfl⟩
        refine wm_seq (wm_if ?_)
        walk_at "r"
        refine ⟨fun hb => ?_, fun hb => ?_⟩
        · have hb := of_decide_eq_true hb
          obtain ⟨f1, f2⟩ := hk1.get (i := a + k) (by omega)
          generalize ely : lays.getD (a + k) [] = ly at f1 f2
          refine wm_seq (wm_pick (i := 5) rfl ?_)
          walk_at "r"
          refine ⟨by rw [hk1.len]; omega, fun pp hpp => ?_⟩
          refine wm_put (i := 11) (l := a + k) (t := ly) rfl hpp f1 (f2.lt hn (iM _ (by omega))) ?_
          walk_at "r"
          refine o_ixL (atI_nat (by rw [List.getElem?_map, g1]; rfl)) ?_
          walk_at "r"
          refine ⟨t, p, v, rfl, rfl, hv, ?_⟩
          walk_at "r"
          have e3 : layOne c v number again a k (lays, both) = (lays.set (a + k) (tput ly both ((tget ly both).getD 0 + v * ways)), vadd both c) := by
            unfold layOne
            dsimp only
            rw [hw, ely, if_pos hb]
          rw [e3]
          exact ⟨rfl, tail _ _⟩
        · have hb := of_decide_eq_false hb
          walk_at "r"
          refine wm_next ?_
          have e3 : layOne c v number again a k (lays, both) = (lays, vadd both c) := by
            unfold layOne
            dsimp only
            rw [hw, if_neg hb]
          rw [e3]
          exact tail _ _
      · try dsimp only at he ⊢
        rw [e2]
        refine ⟨rfl, ?_, rfl⟩
        exact Le.trans (by walk_at "le") he
    · try dsimp only at he ⊢
      rw [List.take_length]
      exact ⟨rfl, Le.trans (by walk_at "le") he, rfl⟩
  · try dsimp only at he ⊢
    rw [e0]
    refine ⟨he.at' (i := 5) rfl (fun z => by cases z), ?_⟩
    unfold further at hR
    rw [eL] at hR
    exact hR
end ME
end
section
set_option Elab.async false
set_option linter.all false
set_option maxRecDepth 100000
set_option maxHeartbeats 4000000
namespace ME
open PySem L2 MW
local macro_rules | `(tactic| walk_at "norm1") => `(tactic| dsimp only [Then, LoopP, FnPost, FnPostS])
local macro_rules | `(tactic| walk_at "mul") => `(tactic| (first
  | exact Or.inl ⟨by omega, by omega⟩
  | exact Or.inr ⟨by omega, by omega⟩))
local macro_rules | `(tactic| walk_at "we") => `(tactic| (first
  | ((with_reducible refine we_var (d := ?d) ?he ?_); (case he => exact rfl))
  | with_reducible refine we_int ?_
  | with_reducible refine we_str ?_
  | with_reducible refine we_op ?_
  | with_reducible refine we_cl ?_
  | with_reducible refine we_tup ?_
  | with_reducible refine we_bl ?_
  | with_reducible refine we_non ?_
  | with_reducible refine we_if ?_
  | ((with_reducible refine we_lenO (ds := ?ds) ?he ?_); (case he => exact rfl))
  | with_reducible refine we_len ?_
  | with_reducible refine we_int1 ?_
  | with_reducible refine we_andV ?_
  | with_reducible refine we_orV ?_
  | with_reducible refine we_notV ?_
  | with_reducible refine we_neg ?_
  | with_reducible refine we_chain ?_
  | with_reducible refine we_dget ?_
  | ((with_reducible refine we_dget2O (t := ?t) ?he ?_); (case he => exact rfl))
  | ((with_reducible refine we_dget2I (t := ?t) ?he ?_); (case he => exact rfl))
  | with_reducible refine we_dget2 ?_
  | ((with_reducible refine we_isi ?ht ?_); (case ht => first | exact .inl rfl | exact .inr (.inl rfl) | exact .inr (.inr (.inl rfl)) | exact .inr (.inr (.inr rfl))))
  | ((with_reducible refine we_clS ?he ?_); (case he => exact rfl))
  | with_reducible refine we_max2 ?_
  | with_reducible refine we_dispT1 ?_
  | with_reducible refine we_dispT2 ?_
  | ((with_reducible refine we_tupOfO (ds := ?ds) ?he ?_); (case he => exact rfl))
  | with_reducible refine we_sumT ?_
  | with_reducible refine we_divmod ?_
  | with_reducible refine we_newT ?_))
local macro_rules | `(tactic| walk_at "op2") => `(tactic| (first
  | ((with_reducible refine o_ixT (d := ?d) ?he ?_); (case he => exact rfl))
  | with_reducible refine o_eqS ?_
  | with_reducible refine o_eqI ?_
  | with_reducible refine o_add ?_
  | with_reducible refine o_sub ?_
  | ((with_reducible refine o_inT (x := ?x) (xs := ?xs) ?hx ?hs ?_); (case hx => exact rfl); (case hs => exact rfl))
  | ((with_reducible refine o_mul ?hc ?_); (case hc => walk_at "mul"))
  | ((with_reducible refine o_mod ?hc ?_); (case hc => omega))
  | ((with_reducible refine o_div ?hc ?_); (case hc => exact ⟨by omega, by omega⟩))
  | with_reducible refine o_lt ?_
  | with_reducible refine o_le ?_
  | with_reducible refine o_gt ?_
  | with_reducible refine o_ge ?_
  | with_reducible refine o_neI ?_
  | ((with_reducible refine o_ixL (d := ?d) ?he ?_); (case he => exact rfl))
  | ((with_reducible refine o_inL (x := ?x) (xs := ?xs) ?hx ?hs ?_); (case hx => exact rfl); (case hs => exact rfl))
  | ((with_reducible refine o_catT ?hl ?_); (case hl => (simp only [List.length_cons, List.length_nil, List.length_append, List.length_map, List.length_replicate]; omega)))
  | ((with_reducible refine o_repTI ?h0 ?h1 ?_); (case h0 => omega); (case h1 => omega))
  | with_reducible refine o_isNT ?_))
local macro_rules | `(tactic| walk_at "wt") => `(tactic| (first
  | with_reducible refine wt_test ?_
  | with_reducible refine wt_B ?_
  | with_reducible refine wt_not ?_
  | with_reducible refine wt_and ?_
  | with_reducible refine wt_or ?_))
local macro_rules | `(tactic| walk_at "ws") => `(tactic| (first
  | with_reducible refine ws_seq ?_
  | with_reducible refine ws_asg ?_
  | with_reducible refine ws_if ?_
  | with_reducible refine ws_ret ?_
  | with_reducible refine ws_next ?_
  | with_reducible refine ws_drop ?_
  | with_reducible refine ws_par ?_
  | ((with_reducible refine ws_asg2 ?hn ?_); (case hn => rfl))))
local macro_rules | `(tactic| walk_at "no") => `(tactic| first
  | (intro hb; exact Bool.noConfusion (show (true : Bool) = false from hb))
  | (intro hb; exact Bool.noConfusion (show (false : Bool) = true from hb)))
local macro_rules | `(tactic| walk_at "br") => `(tactic| first
  | (refine ⟨?_, ?no⟩; (case no => walk_at "no"); (intro _))
  | (refine ⟨?no, ?_⟩; (case no => walk_at "no"); (intro _)))
local macro_rules | `(tactic| walk_at "ex") => `(tactic| first
  | (refine ⟨_, rfl, ?_⟩)
  | (refine ⟨_, _, rfl, rfl, ?_⟩)
  | (refine ⟨_, _, rfl, ?_⟩)
  | (refine ⟨_, _, _, rfl, ?_⟩)
  | (refine ⟨_, _, _, _, rfl, ?_⟩)
  | (refine ⟨_, .inr rfl, ?_⟩)
  | (refine ⟨_, .inl rfl, ?_⟩))
local macro_rules | `(tactic| walk_at "r") => `(tactic| repeat (first
  | ((with_reducible show MW.WE _ _ _ _ _); walk_at "we")
  | ((with_reducible show MW.Op2 _ _ _ _ _ _ _); walk_at "op2")
  | ((with_reducible show MW.WS _ _ _ _ _); walk_at "ws")
  | ((with_reducible show MW.WA _ _ _ _ _); first | with_reducible refine wa_cons ?_ | with_reducible refine wa_nil ?_)
  | ((with_reducible show MW.WT _ _ _ _ _); walk_at "wt")
  | ((with_reducible show Exists _); walk_at "ex")
  | ((with_reducible show And _ _); first | walk_at "br" | (refine ⟨by decide, ?_⟩) | (refine ⟨.inl ⟨_, rfl⟩, ?_⟩) | (refine ⟨.inr (.inl ⟨_, rfl⟩), ?_⟩) | (refine ⟨.inr (.inr ⟨_, rfl⟩), ?_⟩))
  | walk_at "norm1"
  | walk_at "ex"))
local macro_rules | `(tactic| walk_at "le") => `(tactic| ((try refine ⟨rfl, ?_⟩); repeat (first | exact Le.nil | refine Le.eq ?_ | refine Le.any ?_)))

theorem sc_p_picked_table : FnScope ["many", "table", "times", "again", "layers", "content", "step"] ["many", "table", "times", "again"] (defScope s_p_picked_table) := ⟨rfl, rfl, rfl, by decide +kernel, rfl, by decide +kernel, by decide +kernel⟩
def sp_p_picked_table : SpecD := fun ds R => ∃ (N : Nat) (t : Tab) (times : Nat) (again : Bool) (M : Nat), ds = [.int N, .tab t, .int times, .bl again] ∧ N ≤ 5 ∧ times ≤ 12 ∧ times * M ≤ 12 ∧ TabOk N M t ∧ Bd4 t ∧ R (.tab (pickT N t times again))
theorem ok_p_picked_table {P : Program} {w : World} {K : PySem.W.Frag} {mg : Str → Option Value} {base h : Heap} (T : Tx K mg h) (o_p_taken_further : Ok P w K mg base "taken_further" ["layers", "content", "number", "again"] 3 (SpP K sp_p_taken_further)) (o_p_zero_table : Ok P w K mg base "zero_table" ["many"] 1 (SpP K sp_p_zero_table)) :
    Ok P w K mg base "picked_table" ["many", "table", "times", "again"] 4 (SpP K sp_p_picked_table) := by
  obtain ⟨fd, F⟩ := T.c.def_ 23 (d := d_p_picked_table) rfl
  have F : FnP K "picked_table" s_p_picked_table (He.ga K "picked_table") fd := F
  have len : ∀ ds R, sp_p_picked_table ds R → ds.length = 4 := (fun ds R h => by obtain ⟨_, _, _, _, _, rfl, _⟩ := h; rfl)
  refine Ok.of F (He.glo_ok T.X T.G (T.c.fact 23 (f := .glo "picked_table") rfl)) (FunD.bindsN F fun _ _ _ _ _ _ us hl => match us, hl with | [_, _, _, _], _ => rfl)
    (FunD.ok F sc_p_picked_table (fun vs H Q E h => lenP (n := 4) h len) (fun cdv A outer s H vs Q E hr hq => ⟨_, PSs.nox (pss_cons (ps_set (i := 4) sc_p_picked_table.nd rfl (by first | exact .inl rfl | exact .inr rfl) (pe_op op_cat (pe_lst (pa_cons (pe_cl o_p_zero_table (hr.mono (by omega)) (by rfl) (pa_cons (pv 0) pa_nil)) pa_nil)) (pe_lc (own := [("step", 6)]) (by rfl) sc_p_picked_table.nd (pi_range1 (by rfl) T.range_ (pa_cons (pv 2) pa_nil)) (blkOk_by (own := [("step", 6)]) (by rfl)) (fun _ _ _ _ _ => (pg_name (i := 6) sc_p_picked_table.nd rfl (by first | exact .inl rfl | exact .inr rfl))) (fun _ _ _ _ _ => pts_nil) (fun _ _ _ _ _ => pe_dnewT))))
    (pss_cons (ps_lk (ps_for PassesOwn.never (by rfl) (pi_keys (pv 1)) (pg_name (i := 5) sc_p_picked_table.nd rfl (by first | exact .inl rfl | exact .inr rfl)) (pss_one (ps_set (i := 4) sc_p_picked_table.nd rfl (by first | exact .inl rfl | exact .inr rfl) (pe_cl o_p_taken_further (hr.mono (by omega)) (by rfl) (pa_cons (pv 4) (pa_cons (pv 5) (pa_cons (pe_dget (hu_of hr) (pv 1) (pv 5) (fun _ _ => rfl)) (pa_cons (pv 3) pa_nil)))))))))
    (pss_one (ps_ret (pe_ix ix_list (pv 4) (pv 2) (fun _ _ => rfl)))))), ?_⟩))
  refine fn_run (n := 4) hq len (by decide) fun ds R hs => ?_
  try dsimp only [cxOf]
  obtain ⟨N, t, times, again, M, rfl, hN, hT, hM, ht, hB, hR⟩ := hs
  show WS K _ 0 [.sh (.int N), .sh (.tab t), .sh (.int times), .sh (.bl again), .any, .any, .any] _
  refine ws_seq (ws_asg (we_wl (wl_cat (we_wl (wl_lst ?_)))))
  walk_at "r"
  refine ⟨hN, ?_⟩
  walk_at "r"
  refine ⟨by simp, ?_⟩
  refine we_wl (wl_mapR1 ?hv ?hj ?_)
  case hv => exact any_of (by rfl)
  case hj => decide
  walk_at "r"
  refine ⟨by omega, by omega, fun _ => .tab [], fun k hk => ?_, ?_⟩
  · walk_at "r"
  refine ⟨_, _, rfl, rfl, by simp only [List.length_cons, List.length_nil, List.length_map, List.length_range]; omega, ?_⟩
  have e0 : [D.tab (zeroT N)] ++ (List.range ((times : Nat) : Int).toNat).map (fun _ => D.tab []) = (zeroT N :: List.replicate times []).map D.tab := by
    rw [Int.toNat_natCast, List.map_cons, List.map_replicate, List.map_const']
    simp
  rw [e0]
  try dsimp only [Then]
  refine ws_seq ?_
  have hok := fun k => pickTake_ok (again := again) (times := times) ht k
  refine ws_keys (t := t) mono_then rfl (fun k => [.sh (.int N), .sh (.tab t), .sh (.int times), .sh (.bl again), .sh (.lst (((t.take k).foldl (fun ls p => further ls p.1 ((tget t p.1).getD 0) again) (zeroT N :: List.replicate times [])).map D.tab)), .any, .any]) (by walk_at "le") (fun k c x hk => ?_) ?_
  · have h1 := hok k
    rw [foldl_take hk]
    generalize (t.take k).foldl (fun ls p => further ls p.1 ((tget t p.1).getD 0) again) (zeroT N :: List.replicate times []) = Ls at h1
    obtain ⟨y, hy⟩ := tget_get hk
    obtain ⟨b0, b1⟩ := hB.get hy
    have hl := h1.len
    walk_at "r"
    refine ⟨t, c, y, rfl, rfl, hy, ?_⟩
    walk_at "r"
    refine ⟨Ls, c, y, again, N, M, rfl, hN, by omega, by omega, by rw [hl]; exact hM, by rw [hl]; exact h1, ht.gl hk, ht.gb hk, b0, b1, ?_⟩
    walk_at "r"
    rw [hy]
    walk_at "le"
  · have h1 := hok t.length
    rw [List.take_length] at h1 ⊢
    dsimp only [Then]
    obtain ⟨g1, g2⟩ := h1.get (i := times) (by omega)
    refine ws_ret (we_op (we_var (d := .lst _) rfl (we_var (d := .int times) rfl (o_ixL (d := .tab (pickT N t times again)) (atI_nat ?_) ?_))))
    · rw [List.getElem?_map, g1]
      rfl
    · exact hR
theorem sc_p_rounds_table : FnScope ["many", "games", "names", "found", "low", "high", "game"] ["many", "games"] (defScope s_p_rounds_table) := ⟨rfl, rfl, rfl, by decide +kernel, rfl, by decide +kernel, by decide +kernel⟩
def sp_p_rounds_table : SpecD := fun ds R => ∃ (N : Nat) (games : Nat), ds = [.int N, .int games] ∧ N ≤ 5 ∧ games ≤ 2 ∧ games * tri N N ≤ 12 ∧ R (.tab (roundT N games))
theorem ok_p_rounds_table {P : Program} {w : World} {K : PySem.W.Frag} {mg : Str → Option Value} {base h : Heap} (T : Tx K mg h) (o_p_multiplied_tables : Ok P w K mg base "multiplied_tables" ["first", "second"] 2 (SpP K sp_p_multiplied_tables)) (o_p_zero_table : Ok P w K mg base "zero_table" ["many"] 1 (SpP K sp_p_zero_table)) (o_p_name_table : Ok P w K mg base "name_table" ["many"] 1 (SpP K sp_p_name_table)) :
    Ok P w K mg base "rounds_table" ["many", "games"] 3 (SpP K sp_p_rounds_table) := by
  obtain ⟨fd, F⟩ := T.c.def_ 24 (d := d_p_rounds_table) rfl
  have F : FnP K "rounds_table" s_p_rounds_table (He.ga K "rounds_table") fd := F
  have len : ∀ ds R, sp_p_rounds_table ds R → ds.length = 2 := (fun ds R h => by obtain ⟨_, _, rfl, _⟩ := h; rfl)
  refine Ok.of F (He.glo_ok T.X T.G (T.c.fact 24 (f := .glo "rounds_table") rfl)) (FunD.bindsN F fun _ _ _ _ _ _ us hl => match us, hl with | [_, _], _ => rfl)
    (FunD.ok F sc_p_rounds_table (fun vs H Q E h => lenP (n := 2) h len) (fun cdv A outer s H vs Q E hr hq => ⟨_, PSs.nox (pss_cons (ps_set (i := 2) sc_p_rounds_table.nd rfl (by first | exact .inl rfl | exact .inr rfl) (pe_callTy (call_list_dT (by rfl)) (by rfl) T.list_ (by decide +kernel) (pa_cons (pe_cl o_p_name_table (hr.mono (by omega)) (by rfl) (pa_cons (pv 0) pa_nil)) pa_nil)))
    (pss_cons (ps_set (i := 3) sc_p_rounds_table.nd rfl (by first | exact .inl rfl | exact .inr rfl) (pe_cl o_p_zero_table (hr.mono (by omega)) (by rfl) (pa_cons (pv 0) pa_nil)))
    (pss_cons (ps_for PassesOwn.never (by rfl) (pi_range1 (by rfl) T.range_ (pa_cons (pv 0) pa_nil)) (pg_name (i := 4) sc_p_rounds_table.nd rfl (by first | exact .inl rfl | exact .inr rfl)) (pss_one (ps_for PassesOwn.never (by rfl) (pi_range2 (by rfl) T.range_ (pa_cons (pe_op op_add (pv 4) pe_int) (pa_cons (pv 0) pa_nil))) (pg_name (i := 5) sc_p_rounds_table.nd rfl (by first | exact .inl rfl | exact .inr rfl)) (pss_one (ps_for PassesOwn.never (by rfl) (pi_range1 (by rfl) T.range_ (pa_cons (pv 1) pa_nil)) (pg_name (i := 6) sc_p_rounds_table.nd rfl (by first | exact .inl rfl | exact .inr rfl)) (pss_one (ps_set (i := 3) sc_p_rounds_table.nd rfl (by first | exact .inl rfl | exact .inr rfl) (pe_cl o_p_multiplied_tables (hr.mono (by omega)) (by rfl) (pa_cons (pv 3) (pa_cons (pe_dispT (hu_of hr) (pps_cons (pe_ix ix_list (pv 2) (pv 4) (fun _ _ => rfl)) pe_int (pps_cons (pe_ix ix_list (pv 2) (pv 5) (fun _ _ => rfl)) pe_int pps_nil)) (by rfl) (by rfl) (fun z => by cases z) (by decide)) pa_nil))))))))))
    (pss_one (ps_ret (pv 3)))))), ?_⟩))
  refine fn_run (n := 2) hq len (by decide) fun ds R hs => ?_
  try dsimp only [cxOf]
  obtain ⟨N, games, rfl, hN, hg, hM, hR⟩ := hs
  show WS K _ 0 [.sh (.int N), .sh (.int games), .any, .any, .any, .any, .any] _
  refine ws_seq (ws_asg (we_wl (wl_listTab ?_)))
  walk_at "r"
  refine ⟨hN, ?_⟩
  walk_at "r"
  have e0 : (nameT N).map (fun p => D.ints p.1) = (List.range N).map (fun i => D.ints (unitV N i)) := by
    have := congrArg (List.map D.ints) (nameT_list N (by omega))
    rw [List.map_map, List.map_map] at this
    exact this
  rw [e0]
  walk_at "r"
  refine ⟨hN, ?_⟩
  walk_at "r"
  refine ws_rng1 mono_then ?_
  walk_at "r"
  refine ⟨by omega, by omega, fun low => [.sh (.int N), .sh (.int games), .sh (.lst ((List.range N).map (fun i => D.ints (unitV N i)))), .sh (.tab (outR N games low)), .any, .any, .any], by walk_at "le", fun low hlow => ?_, ?_⟩
  · rw [Int.toNat_natCast] at hlow
    have h1 := outR_ok (n := N) (games := games) low (by omega)
    have hS : outR N games (low + 1) = inR N games low (outR N games low) (N - (low + 1)) := rfl
    dsimp only
    rw [hS]
    have m1 : tri N low + (N - (low + 1)) ≤ tri N N := tri_mono N (a := low + 1) (b := N) (by omega)
    have m2 : games * (tri N low + (N - (low + 1))) ≤ games * tri N N := Nat.mul_le_mul_left games m1
    rw [Nat.mul_add] at m2
    generalize outR N games low = f0 at h1
    generalize games * tri N low = a0 at h1 m2
    refine ws_rng2 mono_loop ?_
    walk_at "r"
    refine ⟨by omega, by omega, by omega, by omega, fun k => [.sh (.int N), .sh (.int games), .sh (.lst ((List.range N).map (fun i => D.ints (unitV N i)))), .sh (.tab (inR N games low f0 k)), .sh (.int low), .any, .any], by walk_at "le", fun k hk => ?_, ?_⟩
    · have h2 := inR_ok (games := games) (k := k) (by omega) h1 (by omega)
      dsimp only
      rw [inR_succ]
      have m3 : games * (k + 1) ≤ games * (N - (low + 1)) := Nat.mul_le_mul_left games (by omega)
      rw [Nat.mul_succ] at m3
      generalize inR N games low f0 k = f1 at h2
      generalize ha1 : a0 + games * k = a1 at h2
      refine ws_rng1 mono_loop ?_
      walk_at "r"
      have eH : ((low : Int) + 1 + (k : Int)) = ((low + 1 + k : Nat) : Int) := by omega
      rw [eH]
      refine ⟨by omega, by omega, fun g => [.sh (.int N), .sh (.int games), .sh (.lst ((List.range N).map (fun i => D.ints (unitV N i)))), .sh (.tab (iter (fun _ f => mulT f (pairT N low (low + 1 + k))) g f1)), .sh (.int low), .sh (.int ((low + 1 + k : Nat) : Int)), .any], by walk_at "le", fun g hg' => ?_, ?_⟩
      · have h3 := game_ok (low := low) (high := low + 1 + k) (by omega) (by omega) h2 g
        walk_at "r"
        refine o_ixL (d := .ints (unitV N low)) (atI_nat (by rw [List.getElem?_map, List.getElem?_range hlow]; rfl)) ?_
        walk_at "r"
        refine o_ixL (d := .ints (unitV N (low + 1 + k))) (atI_nat (by rw [List.getElem?_map, List.getElem?_range (by omega)]; rfl)) ?_
        walk_at "r"
        refine ⟨_, _, _, _, rfl, rfl, rfl, rfl, ?_⟩
        walk_at "r"
        refine ⟨_, pairT N low (low + 1 + k), N, a1 + g, 1, rfl, hN, by omega, h3, pairT_ok (by omega) (by omega), pairT_bd _ _ _, ?_⟩
        walk_at "r"
        walk_at "le"
      · rw [Int.toNat_natCast]
        walk_at "r"
        unfold roundIn
        walk_at "le"
    · have e2 : ((N : Int) - ((low : Int) + 1)).toNat = N - (low + 1) := by omega
      rw [e2]
      walk_at "r"
      walk_at "le"
  · dsimp only
    rw [Int.toNat_natCast, ← roundT_eq]
    walk_at "r"
    exact hR
end ME
end
section
set_option Elab.async false
set_option linter.all false
set_option maxRecDepth 100000
set_option maxHeartbeats 4000000
namespace ME
open PySem L2 MW
local macro_rules | `(tactic| walk_at "norm1") => `(tactic| dsimp only [Then, LoopP, FnPost, FnPostS])
local macro_rules | `(tactic| walk_at "mul") => `(tactic| (first
  | exact Or.inl ⟨by omega, by omega⟩
  | exact Or.inr ⟨by omega, by omega⟩))
local macro_rules | `(tactic| walk_at "we") => `(tactic| (first
  | ((with_reducible refine we_var (d := ?d) ?he ?_); (case he => exact rfl))
  | with_reducible refine we_int ?_
  | with_reducible refine we_str ?_
  | with_reducible refine we_op ?_
  | with_reducible refine we_cl ?_
  | with_reducible refine we_tup ?_
  | with_reducible refine we_bl ?_
  | with_reducible refine we_non ?_
  | with_reducible refine we_if ?_
  | ((with_reducible refine we_lenO (ds := ?ds) ?he ?_); (case he => exact rfl))
  | with_reducible refine we_len ?_
  | with_reducible refine we_int1 ?_
  | with_reducible refine we_andV ?_
  | with_reducible refine we_orV ?_
  | with_reducible refine we_notV ?_
  | with_reducible refine we_neg ?_
  | with_reducible refine we_chain ?_
  | with_reducible refine we_dget ?_
  | ((with_reducible refine we_dget2O (t := ?t) ?he ?_); (case he => exact rfl))
  | ((with_reducible refine we_dget2I (t := ?t) ?he ?_); (case he => exact rfl))
  | with_reducible refine we_dget2 ?_
  | ((with_reducible refine we_isi ?ht ?_); (case ht => first | exact .inl rfl | exact .inr (.inl rfl) | exact .inr (.inr (.inl rfl)) | exact .inr (.inr (.inr rfl))))
  | ((with_reducible refine we_clS ?he ?_); (case he => exact rfl))
  | with_reducible refine we_max2 ?_
  | with_reducible refine we_dispT1 ?_
  | with_reducible refine we_dispT2 ?_
  | ((with_reducible refine we_tupOfO (ds := ?ds) ?he ?_); (case he => exact rfl))
  | with_reducible refine we_sumT ?_
  | with_reducible refine we_divmod ?_
  | with_reducible refine we_newT ?_))
local macro_rules | `(tactic| walk_at "op2") => `(tactic| (first
  | ((with_reducible refine o_ixT (d := ?d) ?he ?_); (case he => exact rfl))
  | with_reducible refine o_eqS ?_
  | with_reducible refine o_eqI ?_
  | with_reducible refine o_add ?_
  | with_reducible refine o_sub ?_
  | ((with_reducible refine o_inT (x := ?x) (xs := ?xs) ?hx ?hs ?_); (case hx => exact rfl); (case hs => exact rfl))
  | ((with_reducible refine o_mul ?hc ?_); (case hc => walk_at "mul"))
  | ((with_reducible refine o_mod ?hc ?_); (case hc => omega))
  | ((with_reducible refine o_div ?hc ?_); (case hc => exact ⟨by omega, by omega⟩))
  | with_reducible refine o_lt ?_
  | with_reducible refine o_le ?_
  | with_reducible refine o_gt ?_
  | with_reducible refine o_ge ?_
  | with_reducible refine o_neI ?_
  | ((with_reducible refine o_ixL (d := ?d) ?he ?_); (case he => exact rfl))
  | ((with_reducible refine o_inL (x := ?x) (xs := ?xs) ?hx ?hs ?_); (case hx => exact rfl); (case hs => exact rfl))
  | ((with_reducible refine o_catT ?hl ?_); (case hl => (simp only [List.length_cons, List.length_nil, List.length_append, List.length_map, List.length_replicate]; omega)))
  | ((with_reducible refine o_repTI ?h0 ?h1 ?_); (case h0 => omega); (case h1 => omega))
  | with_reducible refine o_isNT ?_))
local macro_rules | `(tactic| walk_at "wt") => `(tactic| (first
  | with_reducible refine wt_test ?_
  | with_reducible refine wt_B ?_
  | with_reducible refine wt_not ?_
  | with_reducible refine wt_and ?_
  | with_reducible refine wt_or ?_))
local macro_rules | `(tactic| walk_at "ws") => `(tactic| (first
  | with_reducible refine ws_seq ?_
  | with_reducible refine ws_asg ?_
  | with_reducible refine ws_if ?_
  | with_reducible refine ws_ret ?_
  | with_reducible refine ws_next ?_
  | with_reducible refine ws_drop ?_
  | with_reducible refine ws_par ?_
  | ((with_reducible refine ws_asg2 ?hn ?_); (case hn => rfl))))
local macro_rules | `(tactic| walk_at "no") => `(tactic| first
  | (intro hb; exact Bool.noConfusion (show (true : Bool) = false from hb))
  | (intro hb; exact Bool.noConfusion (show (false : Bool) = true from hb)))
local macro_rules | `(tactic| walk_at "br") => `(tactic| first
  | (refine ⟨?_, ?no⟩; (case no => walk_at "no"); (intro _))
  | (refine ⟨?no, ?_⟩; (case no => walk_at "no"); (intro _)))
local macro_rules | `(tactic| walk_at "ex") => `(tactic| first
  | (refine ⟨_, rfl, ?_⟩)
  | (refine ⟨_, _, rfl, rfl, ?_⟩)
  | (refine ⟨_, _, rfl, ?_⟩)
  | (refine ⟨_, _, _, rfl, ?_⟩)
  | (refine ⟨_, _, _, _, rfl, ?_⟩)
  | (refine ⟨_, .inr rfl, ?_⟩)
  | (refine ⟨_, .inl rfl, ?_⟩))
local macro_rules | `(tactic| walk_at "r") => `(tactic| repeat (first
  | ((with_reducible show MW.WE _ _ _ _ _); walk_at "we")
  | ((with_reducible show MW.Op2 _ _ _ _ _ _ _); walk_at "op2")
  | ((with_reducible show MW.WS _ _ _ _ _); walk_at "ws")
  | ((with_reducible show MW.WA _ _ _ _ _); first | with_reducible refine wa_cons ?_ | with_reducible refine wa_nil ?_)
  | ((with_reducible show MW.WT _ _ _ _ _); walk_at "wt")
  | ((with_reducible show Exists _); walk_at "ex")
  | ((with_reducible show And _ _); first | walk_at "br" | (refine ⟨by decide, ?_⟩) | (refine ⟨Nat.le_of_ble_eq_true rfl, ?_⟩) | (refine ⟨.inl ⟨_, rfl⟩, ?_⟩) | (refine ⟨.inr (.inl ⟨_, rfl⟩), ?_⟩) | (refine ⟨.inr (.inr ⟨_, rfl⟩), ?_⟩))
  | walk_at "norm1"
  | walk_at "ex"))
local macro_rules | `(tactic| walk_at "le") => `(tactic| ((try refine ⟨rfl, ?_⟩); repeat (first | exact Le.nil | refine Le.eq ?_ | refine Le.any ?_)))

theorem sc_p_table_of : FnScope ["many", "sort", "word"] ["many", "sort"] (defScope s_p_table_of) := ⟨rfl, rfl, rfl, by decide +kernel, rfl, by decide +kernel, by decide +kernel⟩
def sp_p_table_of (n : Nat) : SpecD := fun ds R => ∃ (s : S) (N : Nat), ds = [.int N, s.d] ∧ s.depth ≤ n ∧ s.ok = true ∧ 2 ≤ N ∧ N ≤ 5 ∧ s.marks N ≤ 12 ∧ s.reach N ∧ R (.tab (s.table N))
theorem ok_p_table_of {P : Program} {w : World} {K : PySem.W.Frag} {mg : Str → Option Value} {base h : Heap} (T : Tx K mg h) {n : Nat} (o_p_multiplied_tables : Ok P w K mg base "multiplied_tables" ["first", "second"] 2 (SpP K sp_p_multiplied_tables)) (o_p_powered_table : Ok P w K mg base "powered_table" ["many", "table", "times"] 3 (SpP K sp_p_powered_table)) (o_p_name_table : Ok P w K mg base "name_table" ["many"] 1 (SpP K sp_p_name_table)) (o_p_rounds_table : Ok P w K mg base "rounds_table" ["many", "games"] 3 (SpP K sp_p_rounds_table)) (o_p_picked_table : Ok P w K mg base "picked_table" ["many", "table", "times", "again"] 4 (SpP K sp_p_picked_table)) (o_p_zero_table : Ok P w K mg base "zero_table" ["many"] 1 (SpP K sp_p_zero_table)) (o_p_added_tables : Ok P w K mg base "added_tables" ["first", "second"] 1 (SpP K sp_p_added_tables)) (o_p_table_of : Ok P w K mg base "table_of" ["many", "sort"] (n + 5) (SpP K (sp_p_table_of n))) :
    Ok P w K mg base "table_of" ["many", "sort"] ((n + 1) + 5) (SpP K (sp_p_table_of (n + 1))) := by
  obtain ⟨fd, F⟩ := T.c.def_ 25 (d := d_p_table_of) rfl
  have F : FnP K "table_of" s_p_table_of (He.ga K "table_of") fd := F
  have len : ∀ ds R, sp_p_table_of (n + 1) ds R → ds.length = 2 := (fun ds R h => by obtain ⟨_, _, rfl, _⟩ := h; rfl)
  refine Ok.of F (He.glo_ok T.X T.G (T.c.fact 25 (f := .glo "table_of") rfl)) (FunD.bindsN F fun _ _ _ _ _ _ us hl => match us, hl with | [_, _], _ => rfl)
    (FunD.ok F sc_p_table_of (fun vs H Q E h => lenP (n := 2) h len) (fun cdv A outer s H vs Q E hr hq => ⟨_, PSs.nox (pss_cons (ps_set (i := 2) sc_p_table_of.nd rfl (by first | exact .inl rfl | exact .inr rfl) (pe_ix ix_tup (pv 1) pe_int (fun _ _ => rfl)))
    (pss_cons (ps_if (pt_cmpR op_eq (pv 2) pe_str (by rfl)) (pss_one (ps_ret pe_dnewT)) pss_nil)
    (pss_cons (ps_if (pt_cmpR op_in_seq (pv 2) (pe_tup (pa_cons pe_str (pa_cons pe_str (pa_cons pe_str pa_nil)))) (by rfl)) (pss_one (ps_ret (pe_cl o_p_picked_table (hr.mono (by omega)) (by rfl) (pa_cons (pv 0) (pa_cons (pe_cl o_p_name_table (hr.mono (by omega)) (by rfl) (pa_cons (pv 0) pa_nil)) (pa_cons (pe_ifExp (pt_cmpR op_eq (pv 2) pe_str (by rfl)) pe_int (pe_ix ix_tup (pv 1) pe_int (fun _ _ => rfl))) (pa_cons (pe_cmpR op_eq (pv 2) pe_str (by rfl)) pa_nil))))))) pss_nil)
    (pss_cons (ps_if (pt_cmpR op_eq (pv 2) pe_str (by rfl)) (pss_one (ps_ret (pe_cl o_p_added_tables (hr.mono (by omega)) (by rfl) (pa_cons (pe_cl o_p_table_of (hr.mono (by omega)) (by rfl) (pa_cons (pv 0) (pa_cons (pe_ix ix_tup (pv 1) pe_int (fun _ _ => rfl)) pa_nil))) (pa_cons (pe_cl o_p_table_of (hr.mono (by omega)) (by rfl) (pa_cons (pv 0) (pa_cons (pe_ix ix_tup (pv 1) pe_int (fun _ _ => rfl)) pa_nil))) pa_nil))))) pss_nil)
    (pss_cons (ps_if (pt_cmpR op_eq (pv 2) pe_str (by rfl)) (pss_one (ps_ret (pe_cl o_p_multiplied_tables (hr.mono (by omega)) (by rfl) (pa_cons (pe_cl o_p_table_of (hr.mono (by omega)) (by rfl) (pa_cons (pv 0) (pa_cons (pe_ix ix_tup (pv 1) pe_int (fun _ _ => rfl)) pa_nil))) (pa_cons (pe_cl o_p_table_of (hr.mono (by omega)) (by rfl) (pa_cons (pv 0) (pa_cons (pe_ix ix_tup (pv 1) pe_int (fun _ _ => rfl)) pa_nil))) pa_nil))))) pss_nil)
    (pss_cons (ps_if (PW.pt (pw_and (pt_cmpR op_in_seq (pv 2) (pe_tup (pa_cons pe_str (pa_cons pe_str (pa_cons pe_str pa_nil)))) (by rfl)) (pw_and1 (pt_cmpR op_eq (pe_ix ix_tup (pv 1) pe_int (fun _ _ => rfl)) pe_int (by rfl))))) (pss_one (ps_ret (pe_cl o_p_zero_table (hr.mono (by omega)) (by rfl) (pa_cons (pv 0) pa_nil)))) pss_nil)
    (pss_cons (ps_if (pt_cmpR op_eq (pv 2) pe_str (by rfl)) (pss_one (ps_ret (pe_cl o_p_powered_table (hr.mono (by omega)) (by rfl) (pa_cons (pv 0) (pa_cons (pe_cl o_p_table_of (hr.mono (by omega)) (by rfl) (pa_cons (pv 0) (pa_cons (pe_ix ix_tup (pv 1) pe_int (fun _ _ => rfl)) pa_nil))) (pa_cons (pe_ix ix_tup (pv 1) pe_int (fun _ _ => rfl)) pa_nil)))))) pss_nil)
    (pss_cons (ps_if (pt_cmpR op_in_seq (pv 2) (pe_tup (pa_cons pe_str (pa_cons pe_str pa_nil))) (by rfl)) (pss_one (ps_ret (pe_cl o_p_picked_table (hr.mono (by omega)) (by rfl) (pa_cons (pv 0) (pa_cons (pe_cl o_p_table_of (hr.mono (by omega)) (by rfl) (pa_cons (pv 0) (pa_cons (pe_ix ix_tup (pv 1) pe_int (fun _ _ => rfl)) pa_nil))) (pa_cons (pe_ix ix_tup (pv 1) pe_int (fun _ _ => rfl)) (pa_cons (pe_cmpR op_eq (pv 2) pe_str (by rfl)) pa_nil))))))) pss_nil)
    (pss_cons (ps_if (pt_cmpR op_eq (pv 2) pe_str (by rfl)) (pss_one (ps_ret (pe_cl o_p_rounds_table (hr.mono (by omega)) (by rfl) (pa_cons (pv 0) (pa_cons (pe_ix ix_tup (pv 1) pe_int (fun _ _ => rfl)) pa_nil))))) pss_nil)
    (pss_cons (ps_if (pt_cmpR op_eq (pv 2) pe_str (by rfl)) (pss_one (ps_ret (pe_cl o_p_powered_table (hr.mono (by omega)) (by rfl) (pa_cons (pv 0) (pa_cons (pe_cl o_p_name_table (hr.mono (by omega)) (by rfl) (pa_cons (pv 0) pa_nil)) (pa_cons (pe_op op_sub (pv 0) pe_int) pa_nil)))))) pss_nil)
    (pss_one (ps_ret (pe_cl o_p_multiplied_tables (hr.mono (by omega)) (by rfl) (pa_cons (pe_dispT (hu_of hr) (pps_cons (pe_op op_repTA (pe_tup (pa_cons pe_int pa_nil)) (pv 0)) pe_int pps_nil) (by rfl) (by rfl) (fun z => by cases z) (by decide)) (pa_cons (pe_cl o_p_powered_table (hr.mono (by omega)) (by rfl) (pa_cons (pv 0) (pa_cons (pe_cl o_p_name_table (hr.mono (by omega)) (by rfl) (pa_cons (pv 0) pa_nil)) (pa_cons (pe_op op_sub (pv 0) pe_int) pa_nil)))) pa_nil))))))))))))))), ?_⟩))
  refine fn_run (n := 2) hq len (by decide) fun ds R hs => ?_
  try dsimp only [cxOf]
  obtain ⟨s, N, rfl, hd, hk, h2, hN, hM, hr2, hR⟩ := hs
  cases s with
  | none =>
    show WS K _ 0 [.sh _, .sh (.tup _), .any] _
    walk_at "r"
    exact hR
  | one =>
    show WS K _ 0 [.sh _, .sh (.tup _), .any] _
    walk_at "r"
    refine ⟨hN, ?_⟩
    walk_at "r"
    refine ⟨N, nameT N, 1, false, 1, rfl, hN, by omega, by omega, names_ok N, nameT_b4 N, ?_⟩
    walk_at "r"
    exact hR
  | sub k =>
    have hk2 : k ≤ 12 := of_decide_eq_true hk
    show WS K _ 0 [.sh _, .sh (.tup _), .any] _
    walk_at "r"
    refine ⟨hN, ?_⟩
    walk_at "r"
    refine ⟨N, nameT N, k, false, 1, rfl, hN, hk2, by omega, names_ok N, nameT_b4 N, ?_⟩
    walk_at "r"
    exact hR
  | bag k =>
    have hk2 : k ≤ 12 := of_decide_eq_true hk
    show WS K _ 0 [.sh _, .sh (.tup _), .any] _
    walk_at "r"
    refine ⟨hN, ?_⟩
    walk_at "r"
    refine ⟨N, nameT N, k, true, 1, rfl, hN, hk2, by omega, names_ok N, nameT_b4 N, ?_⟩
    walk_at "r"
    exact hR
  | ei a b =>
    simp only [S.depth] at hd
    have hk2 : a.ok = true ∧ b.ok = true := by simp only [S.ok, Bool.and_eq_true] at hk; exact hk
    have na := S.marks_nn h2 hN a hk2.1
    have nb := S.marks_nn h2 hN b hk2.2
    have ta := S.table_ok h2 hN a hk2.1
    have tb := S.table_ok h2 hN b hk2.2
    have hM2 : (if b.marks N > a.marks N then b.marks N else a.marks N) ≤ 12 := hM
    have m1 : a.marks N ≤ 12 ∧ b.marks N ≤ 12 := by split at hM2 <;> omega
    show WS K _ 0 [.sh _, .sh (.tup _), .any] _
    walk_at "r"
    refine ⟨by omega, hk2.1, h2, hN, m1.1, hr2.1, ?_⟩
    walk_at "r"
    refine ⟨by omega, hk2.2, h2, hN, m1.2, hr2.2, ?_⟩
    walk_at "r"
    refine ⟨_, _, N, 12, rfl, hN, by omega, ta.mono (by omega), tb.mono (by omega), ?_⟩
    walk_at "r"
    exact hR
  | pr a b =>
    simp only [S.depth] at hd
    have hk2 : a.ok = true ∧ b.ok = true := by simp only [S.ok, Bool.and_eq_true] at hk; exact hk
    have na := S.marks_nn h2 hN a hk2.1
    have nb := S.marks_nn h2 hN b hk2.2
    have ta := S.table_ok h2 hN a hk2.1
    have tb := S.table_ok h2 hN b hk2.2
    have hM2 : a.marks N + b.marks N ≤ 12 := hM
    show WS K _ 0 [.sh _, .sh (.tup _), .any] _
    walk_at "r"
    refine ⟨by omega, hk2.1, h2, hN, by omega, hr2.1, ?_⟩
    walk_at "r"
    refine ⟨by omega, hk2.2, h2, hN, by omega, hr2.2.1, ?_⟩
    walk_at "r"
    refine ⟨_, _, N, _, _, rfl, hN, ?_, ta, tb, hr2.2.2, ?_⟩
    · omega
    walk_at "r"
    exact hR
  | li m a =>
    simp only [S.depth] at hd
    have hk2 : m ≤ 12 ∧ a.ok = true := by simp only [S.ok, Bool.and_eq_true, decide_eq_true_eq] at hk; exact hk
    have na := S.marks_nn h2 hN a hk2.2
    have ta := S.table_ok h2 hN a hk2.2
    have hM2 : (m : Int) * a.marks N ≤ 12 := hM
    show WS K _ 0 [.sh _, .sh (.tup _), .any] _
    walk_at "r"
    refine ⟨fun hb => ?_, fun hb => ?_⟩
    · have hb : m = 0 := by have := of_decide_eq_true hb; omega
      subst hb
      walk_at "r"
      refine ⟨hN, ?_⟩
      walk_at "r"
      exact hR
    · have hb : m ≠ 0 := by have := of_decide_eq_false hb; omega
      have hr3 := hr2.resolve_left hb
      have m2 : m * (a.marks N).toNat ≤ 12 := by rw [← mul_toNat na]; omega
      have m3 : 1 * (a.marks N).toNat ≤ m * (a.marks N).toNat := Nat.mul_le_mul_right _ (by omega)
      have eT : (S.li m a).table N = powT N (a.table N) m := if_neg hb
      rw [eT] at hR
      walk_at "r"
      refine ⟨by omega, hk2.2, h2, hN, by omega, hr3.1, ?_⟩
      walk_at "r"
      refine ⟨N, _, m, _, rfl, hN, hk2.1, m2, ta, hr3.2, ?_⟩
      walk_at "r"
      exact hR
  | fam m a =>
    simp only [S.depth] at hd
    have hk2 : m ≤ 12 ∧ a.ok = true := by simp only [S.ok, Bool.and_eq_true, decide_eq_true_eq] at hk; exact hk.1
    have na := S.marks_nn h2 hN a hk2.2
    have ta := S.table_ok h2 hN a hk2.2
    have hM2 : (m : Int) * a.marks N ≤ 12 := hM
    show WS K _ 0 [.sh _, .sh (.tup _), .any] _
    walk_at "r"
    refine ⟨fun hb => ?_, fun hb => ?_⟩
    · have hb : m = 0 := by have := of_decide_eq_true hb; omega
      subst hb
      walk_at "r"
      refine ⟨hN, ?_⟩
      walk_at "r"
      exact hR
    · have hb : m ≠ 0 := by have := of_decide_eq_false hb; omega
      have hr3 := hr2.resolve_left hb
      have m2 : m * (a.marks N).toNat ≤ 12 := by rw [← mul_toNat na]; omega
      have m3 : 1 * (a.marks N).toNat ≤ m * (a.marks N).toNat := Nat.mul_le_mul_right _ (by omega)
      have eT : (S.fam m a).table N = pickT N (a.table N) m false := if_neg hb
      rw [eT] at hR
      walk_at "r"
      refine ⟨by omega, hk2.2, h2, hN, by omega, hr3.1, ?_⟩
      walk_at "r"
      refine ⟨N, _, m, false, _, rfl, hN, hk2.1, m2, ta, hr3.2, ?_⟩
      walk_at "r"
      exact hR
  | heap m a =>
    simp only [S.depth] at hd
    have hk2 : m ≤ 12 ∧ a.ok = true := by simp only [S.ok, Bool.and_eq_true, decide_eq_true_eq] at hk; exact hk.1
    have na := S.marks_nn h2 hN a hk2.2
    have ta := S.table_ok h2 hN a hk2.2
    have hM2 : (m : Int) * a.marks N ≤ 12 := hM
    show WS K _ 0 [.sh _, .sh (.tup _), .any] _
    walk_at "r"
    refine ⟨fun hb => ?_, fun hb => ?_⟩
    · have hb : m = 0 := by have := of_decide_eq_true hb; omega
      subst hb
      walk_at "r"
      refine ⟨hN, ?_⟩
      walk_at "r"
      exact hR
    · have hb : m ≠ 0 := by have := of_decide_eq_false hb; omega
      have hr3 := hr2.resolve_left hb
      have m2 : m * (a.marks N).toNat ≤ 12 := by rw [← mul_toNat na]; omega
      have m3 : 1 * (a.marks N).toNat ≤ m * (a.marks N).toNat := Nat.mul_le_mul_right _ (by omega)
      have eT : (S.heap m a).table N = pickT N (a.table N) m true := if_neg hb
      rw [eT] at hR
      walk_at "r"
      refine ⟨by omega, hk2.2, h2, hN, by omega, hr3.1, ?_⟩
      walk_at "r"
      refine ⟨N, _, m, true, _, rfl, hN, hk2.1, m2, ta, hr3.2, ?_⟩
      walk_at "r"
      exact hR
  | rounds m =>
    have hk2 : 1 ≤ m ∧ m ≤ 2 := by simp only [S.ok, Bool.and_eq_true, decide_eq_true_eq] at hk; exact hk
    have e1 := tri_marks N (by omega) m (by omega)
    have hM2 : (m : Int) * N * (N - 1) / 2 ≤ 12 := hM
    show WS K _ 0 [.sh _, .sh (.tup _), .any] _
    walk_at "r"
    refine ⟨hN, hk2.2, by omega, ?_⟩
    walk_at "r"
    exact hR
  | rooted =>
    show WS K _ 0 [.sh _, .sh (.tup _), .any] _
    walk_at "r"
    refine ⟨hN, ?_⟩
    walk_at "r"
    refine ⟨N, _, N - 1, 1, by rw [Int.natCast_sub (by omega)]; rfl, hN, by omega, by omega, names_ok N, nameT_bd N, ?_⟩
    walk_at "r"
    exact hR
  | trees =>
    show WS K _ 0 [.sh _, .sh (.tup _), .any] _
    walk_at "r"
    refine ⟨hN, ?_⟩
    walk_at "r"
    refine ⟨N, _, N - 2, 1, by rw [Int.natCast_sub (by omega)]; rfl, hN, by omega, by omega, names_ok N, nameT_bd N, ?_⟩
    walk_at "r"
    refine ⟨_, _, N, 1, (N - 2) * 1, rfl, hN, by omega, ones_ok N, powT_ok (names_ok N) (N - 2), hr2, ?_⟩
    walk_at "r"
    exact hR
theorem all_p_table_of {P : Program} {w : World} {K : PySem.W.Frag} {mg : Str → Option Value} {base h : Heap} (T : Tx K mg h) (o_p_multiplied_tables : Ok P w K mg base "multiplied_tables" ["first", "second"] 2 (SpP K sp_p_multiplied_tables)) (o_p_powered_table : Ok P w K mg base "powered_table" ["many", "table", "times"] 3 (SpP K sp_p_powered_table)) (o_p_name_table : Ok P w K mg base "name_table" ["many"] 1 (SpP K sp_p_name_table)) (o_p_rounds_table : Ok P w K mg base "rounds_table" ["many", "games"] 3 (SpP K sp_p_rounds_table)) (o_p_picked_table : Ok P w K mg base "picked_table" ["many", "table", "times", "again"] 4 (SpP K sp_p_picked_table)) (o_p_zero_table : Ok P w K mg base "zero_table" ["many"] 1 (SpP K sp_p_zero_table)) (o_p_added_tables : Ok P w K mg base "added_tables" ["first", "second"] 1 (SpP K sp_p_added_tables)) : ∀ n : Nat, Ok P w K mg base "table_of" ["many", "sort"] (n + 5) (SpP K (sp_p_table_of n))
  | 0 => by
    obtain ⟨fd, F⟩ := T.c.def_ 25 (d := d_p_table_of) rfl
    have F : FnP K "table_of" s_p_table_of (He.ga K "table_of") fd := F
    refine Ok.none F (He.glo_ok T.X T.G (T.c.fact 25 (f := .glo "table_of") rfl)) (FunD.bindsN F fun _ _ _ _ _ _ us hl => match us, hl with | [_, _], _ => rfl) (fun ds R h => by
      obtain ⟨s, _, rfl, hd, _⟩ := h
      have := s.depth_pos
      omega)
  | n + 1 => ok_p_table_of T o_p_multiplied_tables o_p_powered_table o_p_name_table o_p_rounds_table o_p_picked_table o_p_zero_table o_p_added_tables (all_p_table_of T o_p_multiplied_tables o_p_powered_table o_p_name_table o_p_rounds_table o_p_picked_table o_p_zero_table o_p_added_tables n)
theorem sc_p_count_at : FnScope ["many", "sort", "content"] ["many", "sort", "content"] (defScope s_p_count_at) := ⟨rfl, rfl, rfl, by decide +kernel, rfl, by decide +kernel, by decide +kernel⟩
def sp_p_count_at : SpecD := fun ds R => ∃ (s : S) (N : Nat) (c : Ct), ds = [.int N, s.d, .ints c] ∧ s.good N ∧ s.reach N ∧ c.length = N ∧ (∀ x ∈ c, 0 ≤ x ∧ x ≤ 24) ∧ R (.int ((tget (s.table N) c).getD 0))
theorem ok_p_count_at {P : Program} {w : World} {K : PySem.W.Frag} {mg : Str → Option Value} {base h : Heap} (T : Tx K mg h) (o_p_table_of : Ok P w K mg base "table_of" ["many", "sort"] (10 + 5) (SpP K (sp_p_table_of 10))) (o_p_need_content : Ok P w K mg base "need_content" ["many", "value"] 4 (SpP K sp_p_need_content)) (o_p_need_sort : Ok P w K mg base "need_sort" ["many", "value"] 20 (SpP K sp_p_need_sort)) :
    Ok P w K mg base "count_at" ["many", "sort", "content"] 21 (SpP K sp_p_count_at) := by
  obtain ⟨fd, F⟩ := T.c.def_ 26 (d := d_p_count_at) rfl
  have F : FnP K "count_at" s_p_count_at (He.ga K "count_at") fd := F
  have len : ∀ ds R, sp_p_count_at ds R → ds.length = 3 := (fun ds R h => by obtain ⟨_, _, _, rfl, _⟩ := h; rfl)
  refine Ok.of F (He.glo_ok T.X T.G (T.c.fact 26 (f := .glo "count_at") rfl)) (FunD.bindsN F fun _ _ _ _ _ _ us hl => match us, hl with | [_, _, _], _ => rfl)
    (FunD.ok F sc_p_count_at (fun vs H Q E h => lenP (n := 3) h len) (fun cdv A outer s H vs Q E hr hq => ⟨_, PSs.nox (pss_cons (ps_expr (pe_cl o_p_need_sort (hr.mono (by omega)) (by rfl) (pa_cons (pv 0) (pa_cons (pv 1) pa_nil))))
    (pss_cons (ps_expr (pe_cl o_p_need_content (hr.mono (by omega)) (by rfl) (pa_cons (pv 0) (pa_cons (pv 2) pa_nil))))
    (pss_one (ps_ret (pe_dget2 (hu_of hr) (pe_cl o_p_table_of (hr.mono (by omega)) (by rfl) (pa_cons (pv 0) (pa_cons (pv 1) pa_nil))) (pv 2) pe_int ⟨by rfl, by rfl, by rfl, by rfl⟩))))), ?_⟩))
  refine fn_run (n := 3) hq len (by decide) fun ds R hs => ?_
  try dsimp only [cxOf]
  obtain ⟨s, N, c, rfl, g, hr2, hl, hc, hR⟩ := hs
  show WS K _ 0 [.sh _, .sh s.d, .sh _] _
  have g1 := g.n2
  have g2 := g.n5
  walk_at "r"
  refine ⟨g, ?_⟩
  walk_at "r"
  refine ⟨g1, g2, hl, hc, ?_⟩
  walk_at "r"
  refine ⟨g.depth, g.ok, g1, g2, g.marks, hr2, ?_⟩
  walk_at "r"
  exact hR
theorem sc_p_need_total : FnScope ["many", "total"] ["many", "total"] (defScope s_p_need_total) := ⟨rfl, rfl, rfl, by decide +kernel, rfl, by decide +kernel, by decide +kernel⟩
def sp_p_need_total : SpecD := fun ds R => ∃ (N t : Nat), ds = [.int N, .int t] ∧ N ≤ 5 ∧ t ≤ 24 * N ∧ R .non
theorem ok_p_need_total {P : Program} {w : World} {K : PySem.W.Frag} {mg : Str → Option Value} {base h : Heap} (T : Tx K mg h)  :
    Ok P w K mg base "need_total" ["many", "total"] 1 (SpP K sp_p_need_total) := by
  obtain ⟨fd, F⟩ := T.c.def_ 27 (d := d_p_need_total) rfl
  have F : FnP K "need_total" s_p_need_total (He.ga K "need_total") fd := F
  have len : ∀ ds R, sp_p_need_total ds R → ds.length = 2 := (fun ds R h => by obtain ⟨_, _, rfl, _⟩ := h; rfl)
  refine Ok.of F (He.glo_ok T.X T.G (T.c.fact 27 (f := .glo "need_total") rfl)) (FunD.bindsN F fun _ _ _ _ _ _ us hl => match us, hl with | [_, _], _ => rfl)
    (FunD.ok F sc_p_need_total (fun vs H Q E h => lenP (n := 2) h len) (fun cdv A outer s H vs Q E hr hq => ⟨_, PSs.nox (pss_one (ps_if (PW.pt (pw_or (pt_not (pt_val (pe_callB call_isi (by rfl) T.isinstance_ (by decide +kernel) (pa_cons (pv 1) (pa_cons (pe_bltn (v := .ty "int") (by rfl) T.int_ (by decide +kernel) rfl) pa_nil))))) (pw_or (pt_val (pe_callB call_isi (by rfl) T.isinstance_ (by decide +kernel) (pa_cons (pv 1) (pa_cons (pe_bltn (v := .ty "bool") (by rfl) T.bool_ (by decide +kernel) rfl) pa_nil)))) (pw_or (pt_cmpR op_lt (pv 1) pe_int (by rfl)) (pw_or1 (pt_cmpR op_gt (pv 1) (pe_op op_mul pe_int (pv 0)) (by rfl))))))) (pss_one ps_never) pss_nil)), ?_⟩))
  refine fn_run (n := 2) hq len (by decide) fun ds R hs => ?_
  try dsimp only [cxOf]
  obtain ⟨N, t, rfl, h1, h2, hR⟩ := hs
  show WS K _ 0 [.sh _, .sh _] _
  walk_at "r"
  refine br_f (decide_eq_false (by omega)) ?_
  walk_at "r"
  exact hR
theorem sc_p_most_even : FnScope ["many", "total", "low", "more"] ["many", "total"] (defScope s_p_most_even) := ⟨rfl, rfl, rfl, by decide +kernel, rfl, by decide +kernel, by decide +kernel⟩
def evenV (N t : Nat) : Ct := List.replicate (t % N) (((t / N : Nat) : Int) + 1) ++ List.replicate (N - t % N) ((t / N : Nat) : Int)
def sp_p_most_even : SpecD := fun ds R => ∃ (N t : Nat), ds = [.int N, .int t] ∧ 2 ≤ N ∧ N ≤ 5 ∧ t ≤ 24 * N ∧ R (.ints (evenV N t))
theorem ok_p_most_even {P : Program} {w : World} {K : PySem.W.Frag} {mg : Str → Option Value} {base h : Heap} (T : Tx K mg h) (o_p_need_total : Ok P w K mg base "need_total" ["many", "total"] 1 (SpP K sp_p_need_total)) (o_p_need_many : Ok P w K mg base "need_many" ["value"] 2 (SpP K sp_p_need_many)) :
    Ok P w K mg base "most_even" ["many", "total"] 3 (SpP K sp_p_most_even) := by
  obtain ⟨fd, F⟩ := T.c.def_ 28 (d := d_p_most_even) rfl
  have F : FnP K "most_even" s_p_most_even (He.ga K "most_even") fd := F
  have len : ∀ ds R, sp_p_most_even ds R → ds.length = 2 := (fun ds R h => by obtain ⟨_, _, rfl, _⟩ := h; rfl)
  refine Ok.of F (He.glo_ok T.X T.G (T.c.fact 28 (f := .glo "most_even") rfl)) (FunD.bindsN F fun _ _ _ _ _ _ us hl => match us, hl with | [_, _], _ => rfl)
    (FunD.ok F sc_p_most_even (fun vs H Q E h => lenP (n := 2) h len) (fun cdv A outer s H vs Q E hr hq => ⟨_, PSs.nox (pss_cons (ps_expr (pe_cl o_p_need_many (hr.mono (by omega)) (by rfl) (pa_cons (pv 0) pa_nil)))
    (pss_cons (ps_expr (pe_cl o_p_need_total (hr.mono (by omega)) (by rfl) (pa_cons (pv 0) (pa_cons (pv 1) pa_nil))))
    (pss_cons (ps_asg (pe_callB call_divmod (by rfl) T.divmod_ (by decide +kernel) (pa_cons (pv 1) (pa_cons (pv 0) pa_nil))) (pg_tup (by rfl) (pgs_cons (pg_name (i := 2) sc_p_most_even.nd rfl (by first | exact .inl rfl | exact .inr rfl)) (pgs_cons (pg_name (i := 3) sc_p_most_even.nd rfl (by first | exact .inl rfl | exact .inr rfl)) pgs_nil))))
    (pss_one (ps_ret (pe_op op_catA (pe_op op_repTA (pe_tup (pa_cons (pe_op op_add (pv 2) pe_int) pa_nil)) (pv 3)) (pe_op op_repTA (pe_tup (pa_cons (pv 2) pa_nil)) (pe_op op_sub (pv 0) (pv 3))))))))), ?_⟩))
  refine fn_run (n := 2) hq len (by decide) fun ds R hs => ?_
  try dsimp only [cxOf]
  obtain ⟨N, t, rfl, h0, h1, h2, hR⟩ := hs
  show WS K _ 0 [.sh _, .sh _, .any, .any] _
  have hm : t % N < N := Nat.mod_lt _ (by omega)
  walk_at "r"
  refine ⟨by omega, by omega, ?_⟩
  walk_at "r"
  refine ⟨h1, h2, ?_⟩
  walk_at "r"
  refine ⟨⟨by omega, by omega⟩, _, _, rfl, ?_⟩
  rw [← Int.natCast_ediv, ← Int.natCast_emod]
  walk_at "r"
  have e : (((N : Nat) : Int) - ((t % N : Nat) : Int)).toNat = N - t % N := by omega
  rw [Int.toNat_natCast, e, ← List.map_append]
  exact hR
theorem sc_p_greatest_count : FnScope ["many", "sort", "total"] ["many", "sort", "total"] (defScope s_p_greatest_count) := ⟨rfl, rfl, rfl, by decide +kernel, rfl, by decide +kernel, by decide +kernel⟩
def sp_p_greatest_count : SpecD := fun ds R => ∃ (s : S) (N t : Nat), ds = [.int N, s.d, .int t] ∧ s.good N ∧ s.reach N ∧ t ≤ 24 * N ∧ R (.int ((tget (s.table N) (evenV N t)).getD 0))
theorem ok_p_greatest_count {P : Program} {w : World} {K : PySem.W.Frag} {mg : Str → Option Value} {base h : Heap} (T : Tx K mg h) (o_p_table_of : Ok P w K mg base "table_of" ["many", "sort"] (10 + 5) (SpP K (sp_p_table_of 10))) (o_p_most_even : Ok P w K mg base "most_even" ["many", "total"] 3 (SpP K sp_p_most_even)) (o_p_need_total : Ok P w K mg base "need_total" ["many", "total"] 1 (SpP K sp_p_need_total)) (o_p_need_sort : Ok P w K mg base "need_sort" ["many", "value"] 20 (SpP K sp_p_need_sort)) :
    Ok P w K mg base "greatest_count" ["many", "sort", "total"] 21 (SpP K sp_p_greatest_count) := by
  obtain ⟨fd, F⟩ := T.c.def_ 29 (d := d_p_greatest_count) rfl
  have F : FnP K "greatest_count" s_p_greatest_count (He.ga K "greatest_count") fd := F
  have len : ∀ ds R, sp_p_greatest_count ds R → ds.length = 3 := (fun ds R h => by obtain ⟨_, _, _, rfl, _⟩ := h; rfl)
  refine Ok.of F (He.glo_ok T.X T.G (T.c.fact 29 (f := .glo "greatest_count") rfl)) (FunD.bindsN F fun _ _ _ _ _ _ us hl => match us, hl with | [_, _, _], _ => rfl)
    (FunD.ok F sc_p_greatest_count (fun vs H Q E h => lenP (n := 3) h len) (fun cdv A outer s H vs Q E hr hq => ⟨_, PSs.nox (pss_cons (ps_expr (pe_cl o_p_need_sort (hr.mono (by omega)) (by rfl) (pa_cons (pv 0) (pa_cons (pv 1) pa_nil))))
    (pss_cons (ps_expr (pe_cl o_p_need_total (hr.mono (by omega)) (by rfl) (pa_cons (pv 0) (pa_cons (pv 2) pa_nil))))
    (pss_one (ps_ret (pe_dget2 (hu_of hr) (pe_cl o_p_table_of (hr.mono (by omega)) (by rfl) (pa_cons (pv 0) (pa_cons (pv 1) pa_nil))) (pe_cl o_p_most_even (hr.mono (by omega)) (by rfl) (pa_cons (pv 0) (pa_cons (pv 2) pa_nil))) pe_int ⟨by rfl, by rfl, by rfl, by rfl⟩))))), ?_⟩))
  refine fn_run (n := 3) hq len (by decide) fun ds R hs => ?_
  try dsimp only [cxOf]
  obtain ⟨s, N, t, rfl, g, hr2, ht, hR⟩ := hs
  show WS K _ 0 [.sh _, .sh s.d, .sh _] _
  have g1 := g.n2
  have g2 := g.n5
  walk_at "r"
  refine ⟨g, ?_⟩
  walk_at "r"
  refine ⟨g2, ht, ?_⟩
  walk_at "r"
  refine ⟨g.depth, g.ok, g1, g2, g.marks, hr2, ?_⟩
  walk_at "r"
  refine ⟨g1, g2, ht, ?_⟩
  walk_at "r"
  exact hR
end ME
end
section
set_option Elab.async false
set_option linter.all false
set_option maxRecDepth 100000
set_option maxHeartbeats 4000000
namespace ME
open PySem L2 MW
/-! ### great ones, by factorials -/
def units (n : Nat) : List Ct := (List.range n).map (unitV n)
def fz : Ct → Int
  | [] => 1
  | x :: c => facts x.toNat * fz c
theorem facts_succ (k : Nat) : facts (k + 1) = facts k * ((k : Int) + 1) := rfl
theorem facts_pos : ∀ k : Nat, 0 < facts k
  | 0 => by show (0 : Int) < 1; decide
  | k + 1 => by rw [facts_succ]; exact Int.mul_pos (facts_pos k) (by omega)
theorem fz_set : ∀ (c : Ct) (i : Nat), i < c.length → 1 ≤ c.getD i 0 → c.getD i 0 * fz (c.set i (c.getD i 0 - 1)) = fz c
  | [], i, h, _ => by cases h
  | x :: c, 0, _, h1 => by
    have h1 : 1 ≤ x := h1
    show x * (facts (x - 1).toNat * fz c) = facts x.toNat * fz c
    obtain ⟨m, rfl⟩ : ∃ m : Nat, x = (m : Int) + 1 := ⟨(x - 1).toNat, by omega⟩
    have e1 : ((m : Int) + 1 - 1).toNat = m := by omega
    have e2 : ((m : Int) + 1).toNat = m + 1 := by omega
    rw [e1, e2, facts_succ, ← Int.mul_assoc, Int.mul_comm ((m : Int) + 1)]
  | x :: c, i + 1, hi, h1 => by
    have ih := fz_set c i (by simpa using hi) (by simpa using h1)
    have e : (x :: c).getD (i + 1) 0 = c.getD i 0 := by simp
    rw [e]
    show c.getD i 0 * (facts x.toNat * fz (c.set i (c.getD i 0 - 1))) = facts x.toNat * fz c
    rw [← ih, ← Int.mul_assoc, ← Int.mul_assoc, Int.mul_comm (c.getD i 0)]
theorem fold_div : ∀ (c : Ct) (m : Int), c.foldl (fun f x => f / facts x.toNat) (m * fz c) = m
  | [], m => by show m * 1 = m; exact Int.mul_one m
  | x :: c, m => by
    have e : m * fz (x :: c) / facts x.toNat = m * fz c := by
      show m * (facts x.toNat * fz c) / facts x.toNat = m * fz c
      rw [Int.mul_comm (facts x.toNat), ← Int.mul_assoc]
      exact Int.mul_ediv_cancel _ (Int.ne_of_gt (facts_pos _))
    rw [List.foldl_cons, e]
    exact fold_div c m
theorem unitV_get {n i k : Nat} (hi : i < n) (hk : k < n) : (unitV n i).getD k 0 = if k = i then 1 else 0 := by
  unfold unitV
  rw [List.getD_eq_getElem?_getD]
  by_cases h1 : k < i
  · rw [if_neg (by omega), List.append_assoc, List.getElem?_append_left (by rw [List.length_replicate]; exact h1), List.getElem?_replicate, if_pos h1]; rfl
  · rw [List.append_assoc, List.getElem?_append_right (by rw [List.length_replicate]; omega), List.length_replicate]
    by_cases h2 : k = i
    · rw [if_pos h2, h2, Nat.sub_self]; rfl
    · rw [if_neg h2]
      have : k - i = (k - i - 1) + 1 := by omega
      rw [this]
      show ((List.replicate (n - 1 - i) (0 : Int))[k - i - 1]?).getD 0 = 0
      rw [List.getElem?_replicate]
      split <;> rfl
theorem units_len (n : Nat) : ∀ x ∈ units n, x.length = n := fun x hx => by
  obtain ⟨i, hi, rfl⟩ := List.mem_map.mp hx
  exact (unitV_ok (List.mem_range.mp hi)).1
theorem sub_unit {n i : Nat} {c : Ct} (hc : c.length = n) (hi : i < n) : vsub c (unitV n i) = c.set i (c.getD i 0 - 1) := by
  have hu := (unitV_ok hi).1
  refine ext_g (vsub_len hc hu) (by rw [List.length_set]; exact hc) fun k hk => ?_
  rw [g_sub hc hu hk, unitV_get hi hk]
  by_cases h : k = i
  · rw [if_pos h, h, List.getD_eq_getElem?_getD (l := c.set i _), List.getElem?_set_self (hc ▸ hi)]; rfl
  · rw [if_neg h, List.getD_eq_getElem?_getD (l := c.set i _), List.getElem?_set_ne (Ne.symm h), ← List.getD_eq_getElem?_getD]; omega
theorem sum_mk {n : Nat} {c : Ct} (hc : c.length = n) : sm (List.range n) (fun i => c.getD i 0) = c.sum := by
  have : c = mk n fun k => c.getD k 0 := ext_g hc (mk_len ..) fun k hk => (mk_get (f := fun k => c.getD k 0) hk).symm
  conv => rhs; rw [this]
  rfl
theorem pow_nn (n : Nat) : ∀ k, ∀ x ∈ powC n (units n) k, ∀ z ∈ x, 0 ≤ z
  | 0, x, hx, z, hz => by
    rw [List.mem_singleton.mp hx] at hz
    rw [(List.mem_replicate.mp hz).2]
    exact Int.le_refl _
  | k + 1, x, hx, z, hz => by
    obtain ⟨y, hy, hx⟩ := List.mem_flatMap.mp hx
    obtain ⟨u, hu, rfl⟩ := List.mem_map.mp hx
    obtain ⟨i, hi, rfl⟩ := List.mem_map.mp hu
    have h1 := pow_nn n k y hy
    have h2 := (unitV_ok (List.mem_range.mp hi)).2
    unfold vadd at hz
    obtain ⟨j, hj⟩ := List.getElem?_of_mem hz
    rw [List.getElem?_zipWith] at hj
    cases e1 : y[j]? with
    | none => rw [e1] at hj; cases hj
    | some a =>
      cases e2 : (unitV n i)[j]? with
      | none => rw [e1, e2] at hj; cases hj
      | some b =>
        rw [e1, e2] at hj
        cases hj
        have := h1 a (List.mem_of_getElem? e1)
        have := h2 b (List.mem_of_getElem? e2)
        omega
theorem multi {n : Nat} : ∀ (k : Nat) (c : Ct), c.length = n → (∀ z ∈ c, 0 ≤ z) → c.sum = (k : Int) → cnt (powC n (units n) k) c * fz c = facts k
  | 0, c, hc, h0, hs => by
    have e : c = zeroV n := by
      refine (dist_get (zeroV n) c (by rw [hc]; exact List.length_replicate) (fun i hi => ?_) ?_).symm
      · have hi : i < n := by simpa [zeroV] using hi
        have e1 : (zeroV n).getD i 0 = 0 := by
          rw [List.getD_eq_getElem?_getD]
          unfold zeroV
          rw [List.getElem?_replicate, if_pos hi]
          rfl
        rw [e1, List.getD_eq_getElem?_getD, List.getElem?_eq_getElem (hc ▸ hi)]
        exact h0 _ (List.getElem_mem _)
      · rw [hs]
        show (List.replicate n (0 : Int)).sum = 0
        clear hc hs h0
        induction n with
        | zero => rfl
        | succ n ih => rw [List.replicate_succ, List.sum_cons, ih]; rfl
    have f : ∀ n : Nat, fz (zeroV n) = 1 := fun n => by
      induction n with
      | zero => rfl
      | succ n ih =>
        show facts 0 * fz (zeroV n) = 1
        rw [ih]; rfl
    rw [e, f]
    show cnt [zeroV n] (zeroV n) * 1 = 1
    rw [cnt_eq, sm_cons, if_pos rfl]
    rfl
  | k + 1, c, hc, h0, hs => by
    have hu := units_len n
    have hU := pow_len (n := n) hu k
    have e1 : cnt (powC n (units n) (k + 1)) c = sm (List.range n) fun i => cnt (powC n (units n) k) (vsub c (unitV n i)) := by
      show cnt (conv (powC n (units n) k) (units n)) c = _
      rw [cnt_conv hU hu hc]
      have : ∀ x ∈ powC n (units n) k, cnt (units n) (vsub c x) = sm (List.range n) fun i => if x = vsub c (unitV n i) then 1 else 0 := fun x hx => by
        rw [cnt_eq]
        unfold units
        rw [sm_map]
        refine sm_congr fun i hi => ?_
        have hul := (unitV_ok (List.mem_range.mp hi)).1
        have key : unitV n i = vsub c x ↔ x = vsub c (unitV n i) := by
          rw [← add_iff hc (hU x hx) hul, ← add_iff hc hul (hU x hx)]
          have : vadd x (unitV n i) = vadd (unitV n i) x := ext_g (vadd_len (hU x hx) hul) (vadd_len hul (hU x hx)) fun k hk => by
            rw [g_add (hU x hx) hul hk, g_add hul (hU x hx) hk, Int.add_comm]
          rw [this]
        by_cases h : unitV n i = vsub c x
        · rw [if_pos h, if_pos (key.mp h)]
        · rw [if_neg h, if_neg fun z => h (key.mpr z)]
      rw [sm_congr this, sm_swap]
      exact sm_congr fun i _ => (cnt_eq _ _).symm
    have e2 : ∀ i ∈ List.range n, fz c * cnt (powC n (units n) k) (vsub c (unitV n i)) = facts k * c.getD i 0 := fun i hi => by
      have hi := List.mem_range.mp hi
      have hg : c.getD i 0 ∈ c := by
        rw [List.getD_eq_getElem?_getD, List.getElem?_eq_getElem (hc ▸ hi)]
        exact List.getElem_mem _
      have hn := h0 _ hg
      rw [sub_unit hc hi]
      by_cases h : c.getD i 0 = 0
      · rw [h, Int.mul_zero, cnt_zero, Int.mul_zero]
        intro z
        have := pow_nn n k _ z (0 - 1) (List.mem_iff_getElem?.mpr ⟨i, List.getElem?_set_self (hc ▸ hi)⟩)
        omega
      · have h1 : 1 ≤ c.getD i 0 := by omega
        have ih := multi (n := n) k (c.set i (c.getD i 0 - 1)) (by rw [List.length_set]; exact hc) (fun z hz => by
          rcases List.mem_or_eq_of_mem_set hz with hz | hz
          · exact h0 z hz
          · rw [hz]; omega) (by
          have : (c.set i (c.getD i 0 - 1)).sum = c.sum - 1 := by
            have go : ∀ (c : Ct) (i : Nat), i < c.length → (c.set i (c.getD i 0 - 1)).sum = c.sum - 1 := fun c => by
              induction c with
              | nil => intro i h; cases h
              | cons x c ih =>
                intro i hi
                cases i with
                | zero => show (x - 1) + c.sum = (x :: c).sum - 1; rw [List.sum_cons]; omega
                | succ i =>
                  have := ih i (by simpa using hi)
                  have e : (x :: c).getD (i + 1) 0 = c.getD i 0 := by simp
                  rw [e]
                  show (x :: c.set i (c.getD i 0 - 1)).sum = _
                  rw [List.sum_cons, List.sum_cons, this]; omega
            exact go c i (hc ▸ hi)
          rw [this, hs]; omega)
        rw [← fz_set c i (hc ▸ hi) h1, Int.mul_assoc, Int.mul_comm (fz _), ih, Int.mul_comm]
    rw [e1, Int.mul_comm, ← sm_mul, sm_congr e2, sm_mul, sum_mk hc, hs, facts_succ]
    rfl
theorem multi_listings {n k : Nat} {c : Ct} (hc : c.length = n) (h0 : ∀ z ∈ c, 0 ≤ z) (hs : c.sum = (k : Int)) : cnt (powC n (units n) k) c = listings c := by
  unfold listings
  rw [hs, Int.toNat_natCast, ← multi k c hc h0 hs]
  exact (fold_div c _).symm
/-! ### the row dealt in turn -/
theorem even_row : ∀ n : Nat, n < 6 → n < 2 ∨ ∀ t : Nat, t < 24 * n + 1 → evenRow n t = evenV n t := by decide +kernel
theorem even_len {n t : Nat} (hn : 2 ≤ n) : (evenV n t).length = n := by
  unfold evenV
  have := Nat.mod_lt t (show 0 < n by omega)
  rw [List.length_append, List.length_replicate, List.length_replicate]
  omega
theorem sum_rep (k : Nat) (x : Int) : (List.replicate k x).sum = k * x := by
  induction k with
  | zero => simp
  | succ k ih => rw [List.replicate_succ, List.sum_cons, ih, Int.natCast_succ, Int.add_mul, Int.one_mul, Int.add_comm]
theorem even_sum {n t : Nat} (hn : 2 ≤ n) : (evenV n t).sum = (t : Int) := by
  unfold evenV
  have h1 := Nat.mod_lt t (show 0 < n by omega)
  have h2 := Nat.mod_add_div t n
  rw [List.sum_append, sum_rep, sum_rep, Int.natCast_sub (by omega)]
  generalize t % n = r at h1 h2
  generalize t / n = q at h2
  rw [← h2, Int.natCast_add, Int.natCast_mul, Int.mul_add, Int.sub_mul, Int.mul_one]
  omega
theorem even_get {n t k : Nat} (hn : 2 ≤ n) (hk : k < n) : (evenV n t).getD k 0 = if k < t % n then ((t / n : Nat) : Int) + 1 else ((t / n : Nat) : Int) := by
  unfold evenV
  have h1 := Nat.mod_lt t (show 0 < n by omega)
  rw [List.getD_eq_getElem?_getD]
  by_cases h : k < t % n
  · rw [if_pos h, List.getElem?_append_left (by rw [List.length_replicate]; exact h), List.getElem?_replicate, if_pos h]; rfl
  · rw [if_neg h, List.getElem?_append_right (by rw [List.length_replicate]; omega), List.length_replicate, List.getElem?_replicate, if_pos (by omega)]; rfl
theorem even_24 {n t : Nat} (hn : 2 ≤ n) (ht : t ≤ 24 * n) : ∀ z ∈ evenV n t, 0 ≤ z ∧ z ≤ 24 := fun z hz => by
  have h2 := Nat.mod_add_div t n
  have h3 : t / n ≤ 24 := by
    apply Nat.le_of_lt_succ
    apply (Nat.div_lt_iff_lt_mul (by omega)).mpr
    omega
  unfold evenV at hz
  generalize t / n = q at h2 h3 hz
  rcases List.mem_append.mp hz with hz | hz
  · obtain ⟨a, b⟩ := List.mem_replicate.mp hz
    have : q < 24 := by
      apply Nat.lt_of_le_of_ne h3
      intro e
      rw [e] at h2
      omega
    rw [b]
    omega
  · rw [(List.mem_replicate.mp hz).2]; omega
/-- the greatest count: the most even content has it -/
theorem most {n : Nat} {f : Ct → Int} (s : SU n f) (hn : 2 ≤ n) {c : Ct} (hc : c.length = n) {t : Nat} (hs : c.sum = (t : Int)) : f c ≤ f (evenV n t) :=
  s.max (even_len hn) (fun i j hi hj => by
    rw [even_get hn hi, even_get hn hj]
    split <;> split <;> omega) _ c hc (hs.trans (even_sum hn).symm) (Nat.le_refl _)
end ME
end
section
set_option Elab.async false
set_option linter.all false
set_option maxRecDepth 100000
set_option maxHeartbeats 4000000
namespace ME
open PySem L2 MW
/-! ### the sorts that are drawn; the small ones by computation -/
def singles (n : Nat) : List S := .one :: ((List.range (n + 1)).map S.sub ++ ((List.range (n + 1)).map fun k => S.ei (.sub k) .one) ++ [.ei .one (.sub 2)])
def leafs (n : Nat) : List S := [.one, .rounds 1, .trees, .rooted, .none] ++ (List.range (n + 1)).map S.sub ++ (List.range 4).map S.bag ++ if n < 4 then [.rounds 2] else []
def fams (n : Nat) : List S := (singles n).flatMap fun a => (List.range 4).map (fun m => S.fam m a) ++ (List.range 4).map fun m => S.heap m a
instance S.decLen (N : Nat) : ∀ s : S, Decidable (s.lenOk N)
  | .none => inferInstanceAs (Decidable True)
  | .one => inferInstanceAs (Decidable True)
  | .sub k => inferInstanceAs (Decidable ((N + 1) ^ k ≤ 100000))
  | .bag k => inferInstanceAs (Decidable ((N + 1) ^ k ≤ 100000))
  | .ei a b => @instDecidableAnd _ _ (S.decLen N a) (@instDecidableAnd _ _ (S.decLen N b) inferInstance)
  | .pr a b => @instDecidableAnd _ _ (S.decLen N a) (@instDecidableAnd _ _ (S.decLen N b) inferInstance)
  | .li m a => @instDecidableAnd _ _ (S.decLen N a) inferInstance
  | .fam m a => @instDecidableAnd _ _ (S.decLen N a) inferInstance
  | .heap m a => @instDecidableAnd _ _ (S.decLen N a) inferInstance
  | .rounds _ => inferInstanceAs (Decidable True)
  | .trees => inferInstanceAs (Decidable True)
  | .rooted => inferInstanceAs (Decidable True)
instance S.decSmall (N : Nat) : ∀ s : S, Decidable (s.small N)
  | .none => inferInstanceAs (Decidable (S.none.size N ≤ 10 ^ 30))
  | .one => inferInstanceAs (Decidable (S.one.size N ≤ 10 ^ 30))
  | .sub k => inferInstanceAs (Decidable ((S.sub k).size N ≤ 10 ^ 30))
  | .bag k => inferInstanceAs (Decidable ((S.bag k).size N ≤ 10 ^ 30))
  | .ei a b => @instDecidableAnd _ _ (S.decSmall N a) (@instDecidableAnd _ _ (S.decSmall N b) inferInstance)
  | .pr a b => @instDecidableAnd _ _ (S.decSmall N a) (@instDecidableAnd _ _ (S.decSmall N b) inferInstance)
  | .li m a => @instDecidableAnd _ _ (S.decSmall N a) inferInstance
  | .fam m a => @instDecidableAnd _ _ (S.decSmall N a) inferInstance
  | .heap m a => @instDecidableAnd _ _ (S.decSmall N a) inferInstance
  | .rounds m => inferInstanceAs (Decidable ((S.rounds m).size N ≤ 10 ^ 30))
  | .trees => inferInstanceAs (Decidable (S.trees.size N ≤ 10 ^ 30))
  | .rooted => inferInstanceAs (Decidable (S.rooted.size N ≤ 10 ^ 30))
def bdB (t : Tab) : Bool := t.all fun p => decide (0 ≤ p.2 ∧ p.2 ≤ 40)
def reachB (N : Nat) : S → Bool
  | .ei a b => reachB N a && reachB N b
  | .pr a b => reachB N a && (reachB N b && bdB (b.table N))
  | .li m a => m == 0 || (reachB N a && bdB (a.table N))
  | .fam m a => m == 0 || (reachB N a && bdB (a.table N))
  | .heap m a => m == 0 || (reachB N a && bdB (a.table N))
  | .trees => bdB (powT N (nameT N) (N - 2))
  | _ => true
theorem bd4_of {t : Tab} (h : bdB t = true) : Bd4 t := fun p hp => of_decide_eq_true (List.all_eq_true.mp h p hp)
theorem Bd4.bd {t : Tab} (h : Bd4 t) : Bd t := fun p hp => by have := h p hp; omega
theorem reach_of (N : Nat) : ∀ s : S, reachB N s = true → s.reach N
  | .none, _ => trivial
  | .one, _ => trivial
  | .sub _, _ => trivial
  | .bag _, _ => trivial
  | .rounds _, _ => trivial
  | .rooted, _ => trivial
  | .trees, h => (bd4_of h).bd
  | .ei a b, h => by
    have h : (reachB N a && reachB N b) = true := h
    rw [Bool.and_eq_true] at h
    exact ⟨reach_of N a h.1, reach_of N b h.2⟩
  | .pr a b, h => by
    have h : (reachB N a && (reachB N b && bdB (b.table N))) = true := h
    rw [Bool.and_eq_true, Bool.and_eq_true] at h
    exact ⟨reach_of N a h.1, reach_of N b h.2.1, (bd4_of h.2.2).bd⟩
  | .li m a, h => by
    have h : (m == 0 || (reachB N a && bdB (a.table N))) = true := h
    rw [Bool.or_eq_true, Bool.and_eq_true, beq_iff_eq] at h
    exact h.imp id fun h => ⟨reach_of N a h.1, (bd4_of h.2).bd⟩
  | .fam m a, h => by
    have h : (m == 0 || (reachB N a && bdB (a.table N))) = true := h
    rw [Bool.or_eq_true, Bool.and_eq_true, beq_iff_eq] at h
    exact h.imp id fun h => ⟨reach_of N a h.1, bd4_of h.2⟩
  | .heap m a, h => by
    have h : (m == 0 || (reachB N a && bdB (a.table N))) = true := h
    rw [Bool.or_eq_true, Bool.and_eq_true, beq_iff_eq] at h
    exact h.imp id fun h => ⟨reach_of N a h.1, bd4_of h.2⟩
/-- the table counts the list -/
def repB (t : Tab) (L : List Ct) : Bool := L.all (fun c => (tget t c).getD 0 == (L.count c : Int)) && t.all fun p => p.2 == (L.count p.1 : Int)
theorem rep_of {t : Tab} {L : List Ct} (nd : (t.map (·.1)).Nodup) (h : repB t L = true) : TabRep t L := by
  unfold repB at h
  rw [Bool.and_eq_true, List.all_eq_true, List.all_eq_true] at h
  refine ⟨nd, fun c => ?_⟩
  by_cases hc : c ∈ L
  · exact beq_iff_eq.mp (h.1 c hc)
  · rw [cnt_zero hc]
    cases e : tget t c with
    | none => rfl
    | some x =>
      obtain ⟨p, hp, e1, e2⟩ := tget_in e
      have := beq_iff_eq.mp (h.2 p hp)
      rw [e1, e2] at this
      show x = 0
      rw [this]
      exact cnt_zero hc
/-- no move towards the middle loses -/
def suB (n : Nat) (t : Tab) : Bool := t.all fun p => (List.range n).all fun i => (List.range n).all fun j => i == j || (List.range (p.1.getD i 0 - p.1.getD j 0).toNat).all fun d => decide (p.2 ≤ (tget t (mv n i j ((d : Int) + 1) p.1)).getD 0)
theorem su_of {n : Nat} {t : Tab} {L : List Ct} (r : TabRep t L) (h : suB n t = true) : SU n (cnt L) := fun i j hi hj ne x hx d h0 h1 => by
  by_cases hm : x ∈ L
  · obtain ⟨p, hp, rfl⟩ := List.mem_map.mp (r.key hm)
    rw [← r.val hp]
    by_cases hd : d = 0
    · have e : mv n i j d p.1 = p.1 := ext_g (mv_len ..) hx fun k hk => by
        rw [g_mv hk, hd]
        by_cases h2 : k = i
        · rw [if_pos h2, h2]; omega
        · rw [if_neg h2]
          by_cases h3 : k = j
          · rw [if_pos h3, h3]; omega
          · rw [if_neg h3]
      rw [e, ← r.val hp]
      exact Int.le_refl _
    · have a := List.all_eq_true.mp (List.all_eq_true.mp (List.all_eq_true.mp h p hp) i (List.mem_range.mpr hi)) j (List.mem_range.mpr hj)
      rw [Bool.or_eq_true, beq_iff_eq] at a
      have b := of_decide_eq_true (List.all_eq_true.mp (a.resolve_left ne) (d - 1).toNat (List.mem_range.mpr (by omega)))
      have e : (((d - 1).toNat : Nat) : Int) + 1 = d := by omega
      rw [e, r.get] at b
      exact b
  · rw [cnt_zero hm]; exact cnt_nn _ _
def leafB (n : Nat) (s : S) : Bool := s.ok && (decide (s.lenOk n) && (decide (((s.mem n).length : Int) = s.lsize n) && (decide (s.size n = s.lsize n) && (decide (s.small n) && (reachB n s && ((s.mem n).all (fun d => decide (((s.names n d).length : Int) ≤ s.marks n)) &&
  (repB (s.table n) (s.every n) && suB n (s.table n))))))))
def allB (n : Nat) : Bool := (leafs n ++ fams n).all fun s => !(s.fitB n 40) || leafB n s
def chunkB (n i : Nat) : Bool := (((leafs n ++ fams n).drop (12 * i)).take 12).all fun s => !(s.fitB n 40) || leafB n s
theorem all_of {n K : Nat} (hl : (leafs n ++ fams n).length ≤ 12 * K) (h : ∀ i, i < K → chunkB n i = true) : allB n = true := by
  refine List.all_eq_true.mpr fun s hs => ?_
  obtain ⟨j, hj, rfl⟩ := List.mem_iff_getElem.mp hs
  refine List.all_eq_true.mp (h (j / 12) (by omega)) _ (List.mem_iff_getElem.mpr ⟨j % 12, ?_, ?_⟩)
  · rw [List.length_take, List.length_drop]; omega
  · rw [List.getElem_take, List.getElem_drop]
    congr 1
    omega
theorem all2 : allB 2 = true := by decide +kernel
theorem c3_0 : chunkB 3 0 = true := by decide +kernel
theorem c3_1 : chunkB 3 1 = true := by decide +kernel
theorem c3_2 : chunkB 3 2 = true := by decide +kernel
theorem c3_3 : chunkB 3 3 = true := by decide +kernel
theorem c3_4 : chunkB 3 4 = true := by decide +kernel
theorem c3_5 : chunkB 3 5 = true := by decide +kernel
theorem c3_6 : chunkB 3 6 = true := by decide +kernel
theorem c3_7 : chunkB 3 7 = true := by decide +kernel
theorem all3 : allB 3 = true := all_of (K := 8) (by decide +kernel) fun i hi => match i, hi with
  | 0, _ => c3_0
  | 1, _ => c3_1
  | 2, _ => c3_2
  | 3, _ => c3_3
  | 4, _ => c3_4
  | 5, _ => c3_5
  | 6, _ => c3_6
  | 7, _ => c3_7
  | i + 8, h => absurd h (by omega)
theorem c4_0 : chunkB 4 0 = true := by decide +kernel
theorem c4_1 : chunkB 4 1 = true := by decide +kernel
theorem c4_2 : chunkB 4 2 = true := by decide +kernel
theorem c4_3 : chunkB 4 3 = true := by decide +kernel
theorem c4_4 : chunkB 4 4 = true := by decide +kernel
theorem c4_5 : chunkB 4 5 = true := by decide +kernel
theorem c4_6 : chunkB 4 6 = true := by decide +kernel
theorem c4_7 : chunkB 4 7 = true := by decide +kernel
theorem c4_8 : chunkB 4 8 = true := by decide +kernel
theorem c4_9 : chunkB 4 9 = true := by decide +kernel
theorem all4 : allB 4 = true := all_of (K := 10) (by decide +kernel) fun i hi => match i, hi with
  | 0, _ => c4_0
  | 1, _ => c4_1
  | 2, _ => c4_2
  | 3, _ => c4_3
  | 4, _ => c4_4
  | 5, _ => c4_5
  | 6, _ => c4_6
  | 7, _ => c4_7
  | 8, _ => c4_8
  | 9, _ => c4_9
  | i + 10, h => absurd h (by omega)
end ME
end
section
set_option Elab.async false
set_option linter.all false
set_option maxRecDepth 100000
set_option maxHeartbeats 4000000
namespace ME
open PySem L2 MW
/-! ### contents of members, sort by sort -/
theorem marks_mk (n : Nat) (names : Ct) : marksOf n names = mk n fun i => ((names.filter fun x => decide (x = (i : Int))).length : Int) := rfl
theorem marks_len (n : Nat) (names : Ct) : (marksOf n names).length = n := mk_len _ _
theorem marks_append (n : Nat) (x y : Ct) : marksOf n (x ++ y) = vadd (marksOf n x) (marksOf n y) := ext_g (marks_len ..) (vadd_len (marks_len ..) (marks_len ..)) fun k hk => by
  rw [g_add (marks_len ..) (marks_len ..) hk, marks_mk, marks_mk, marks_mk, mk_get hk, mk_get hk, mk_get hk, List.filter_append, List.length_append, Int.natCast_add]
theorem marks_nil (n : Nat) : marksOf n [] = zeroV n := by
  show (List.range n).map (fun _ => (0 : Int)) = List.replicate n 0
  rw [List.map_const', List.length_range]
theorem every_len (n : Nat) (s : S) : ∀ c ∈ s.every n, c.length = n := fun c hc => by
  obtain ⟨d, _, rfl⟩ := List.mem_map.mp hc
  exact marks_len ..
section
variable {n m : Nat} {a b s : S}
theorem every_ei : (S.ei a b).every n = a.every n ++ b.every n := by
  show ((a.mem n).map (fun x => D.tup [.int 0, x]) ++ (b.mem n).map (fun x => D.tup [.int 1, x])).map _ = _
  rw [List.map_append, List.map_map, List.map_map]
  rfl
theorem every_pr : (S.pr a b).every n = conv (a.every n) (b.every n) := by
  show ((a.mem n).flatMap fun x => (b.mem n).map fun y => D.tup [x, y]).map _ = ((a.mem n).map _).flatMap fun x => ((b.mem n).map _).map (vadd x)
  rw [List.map_flatMap, List.flatMap_map]
  congr 1
  funext x
  rw [List.map_map, List.map_map]
  apply List.map_congr_left
  intro y _
  exact marks_append n (a.names n x) (b.names n y)
theorem every_li : (S.li m a).every n = powC n (a.every n) m := by
  have e : (S.li m a).every n = (rowsL (a.mem n) m).map fun r => marksOf n (r.flatMap (a.names n)) := by
    show ((rowsL (a.mem n) m).map D.tup).map _ = _
    rw [List.map_map]
    rfl
  rw [e]
  clear e
  induction m with
  | zero => show [marksOf n []] = [zeroV n]; rw [marks_nil]
  | succ m ih =>
    show ((rowsL (a.mem n) m).flatMap (nextR (a.mem n))).map _ = conv (powC n (a.every n) m) (a.every n)
    rw [← ih]
    unfold conv
    rw [List.map_flatMap, List.flatMap_map]
    congr 1
    funext r
    show ((a.mem n).map fun x => r ++ [x]).map _ = ((a.mem n).map _).map (vadd _)
    rw [List.map_map, List.map_map]
    apply List.map_congr_left
    intro x _
    show marksOf n ((r ++ [x]).flatMap (a.names n)) = vadd _ (marksOf n (a.names n x))
    rw [List.flatMap_append, marks_append]
    simp
theorem fm_len_eq {α β : Type} {g : α → List β} {b : Nat} : ∀ {l : List α}, (∀ x ∈ l, (g x).length = b) → (l.flatMap g).length = l.length * b
  | [], _ => by simp
  | x :: l, h => by
    have h1 := fm_len_eq (l := l) fun y hy => h y (List.mem_cons_of_mem _ hy)
    have h2 := h x List.mem_cons_self
    rw [List.flatMap_cons, List.length_append, List.length_cons, Nat.succ_mul]
    omega
theorem rows_len_eq (some : List D) : ∀ k, ((rowsL some k).length : Int) = ipow some.length k
  | 0 => rfl
  | k + 1 => by
    show (((rowsL some k).flatMap (nextR some)).length : Int) = ipow some.length k * some.length
    rw [fm_len_eq (b := some.length) fun x _ => by unfold nextR; rw [List.length_map], Int.natCast_mul, rows_len_eq some k]
theorem rows_sub (some : List D) : ∀ k, ∀ r ∈ rowsL some k, ∀ x ∈ r, x ∈ some
  | 0, r, h, x, hx => by rw [List.mem_singleton.mp h] at hx; cases hx
  | k + 1, r, h, x, hx => by
    obtain ⟨q, hq, hr⟩ := List.mem_flatMap.mp (show r ∈ (rowsL some k).flatMap (nextR some) from h)
    unfold nextR at hr
    obtain ⟨y, hy, rfl⟩ := List.mem_map.mp hr
    rcases List.mem_append.mp hx with hx | hx
    · exact rows_sub some k q hq x hx
    · rw [List.mem_singleton.mp hx]; exact hy
/-- what the law's walks and the program need of a sort, and what both find -/
structure Fine (n : Nat) (s : S) : Prop where
  ok : s.ok = true
  lenOk : s.lenOk n
  mlen : ((s.mem n).length : Int) = s.lsize n
  le : s.lsize n ≤ 40
  size : s.size n = s.lsize n
  small : s.small n
  reach : s.reach n
  mnn : 0 ≤ s.marks n
  nm : ∀ d ∈ s.mem n, ((s.names n d).length : Int) ≤ s.marks n
  tab : TabRep (s.table n) (s.every n)
  su : SU n (cnt (s.every n))
theorem Fine.nn (h : Fine n s) : 0 ≤ s.lsize n := by rw [← h.mlen]; exact Int.natCast_nonneg _
theorem Fine.len (h : Fine n s) : (s.mem n).length ≤ 40 := by have := h.mlen; have := h.le; omega
theorem Fine.elen (h : Fine n s) : (s.every n).length ≤ 40 := by unfold S.every; rw [List.length_map]; exact h.len
theorem Fine.bd (h : Fine n s) : Bd4 (s.table n) := fun p hp => by
  rw [h.tab.val hp]
  have := cnt_nn (s.every n) p.1
  have := cnt_le (s.every n) p.1
  have := h.elen
  omega
theorem fine_ei (ha : Fine n a) (hb : Fine n b) (hl : (S.ei a b).lsize n ≤ 40) : Fine n (.ei a b) where
  ok := by show (a.ok && b.ok) = true; rw [ha.ok, hb.ok]; rfl
  lenOk := ⟨ha.lenOk, hb.lenOk, by have := ha.len; omega, by have := hb.len; omega⟩
  mlen := by
    show (((a.mem n).map (fun x => D.tup [.int 0, x]) ++ (b.mem n).map (fun x => D.tup [.int 1, x])).length : Int) = a.lsize n + b.lsize n
    rw [List.length_append, List.length_map, List.length_map, Int.natCast_add, ha.mlen, hb.mlen]
  le := hl
  size := by show a.size n + b.size n = a.lsize n + b.lsize n; rw [ha.size, hb.size]
  small := by
    have := ha.nn; have := ha.le; have := hb.nn; have := hb.le; have := ha.size; have := hb.size
    exact ⟨ha.small, hb.small, by omega, by omega, by omega, by omega⟩
  reach := ⟨ha.reach, hb.reach⟩
  mnn := by
    show 0 ≤ if b.marks n > a.marks n then b.marks n else a.marks n
    have := ha.mnn; have := hb.mnn
    split <;> omega
  nm := fun d hd => by
    show _ ≤ if b.marks n > a.marks n then b.marks n else a.marks n
    rcases List.mem_append.mp hd with hd | hd
    · obtain ⟨x, hx, rfl⟩ := List.mem_map.mp hd
      have h1 : ((S.ei a b).names n (.tup [.int 0, x])) = a.names n x := rfl
      have := ha.nm x hx
      rw [h1]
      split <;> omega
    · obtain ⟨x, hx, rfl⟩ := List.mem_map.mp hd
      have h1 : ((S.ei a b).names n (.tup [.int 1, x])) = b.names n x := rfl
      have := hb.nm x hx
      rw [h1]
      split <;> omega
  tab := by rw [every_ei]; exact rep_add ha.tab hb.tab
  su := by rw [every_ei]; exact su_append ha.su hb.su
theorem fine_pr (ha : Fine n a) (hb : Fine n b) (hl : (S.pr a b).lsize n ≤ 40) : Fine n (.pr a b) where
  ok := by show (a.ok && b.ok) = true; rw [ha.ok, hb.ok]; rfl
  lenOk := ⟨ha.lenOk, hb.lenOk, by have := ha.len; omega, by have := hb.len; omega⟩
  mlen := by
    show (((a.mem n).flatMap fun x => (b.mem n).map fun y => D.tup [x, y]).length : Int) = a.lsize n * b.lsize n
    rw [fm_len_eq (b := (b.mem n).length) fun x _ => List.length_map _, Int.natCast_mul, ha.mlen, hb.mlen]
  le := hl
  size := by show a.size n * b.size n = a.lsize n * b.lsize n; rw [ha.size, hb.size]
  small := by
    have := ha.nn; have := ha.le; have := hb.nn; have := hb.le; have := ha.size; have := hb.size
    exact ⟨ha.small, hb.small, by omega, by omega, by omega, by omega⟩
  reach := ⟨ha.reach, hb.reach, hb.bd.bd⟩
  mnn := Int.add_nonneg ha.mnn hb.mnn
  nm := fun d hd => by
    obtain ⟨x, hx, hd⟩ := List.mem_flatMap.mp hd
    obtain ⟨y, hy, rfl⟩ := List.mem_map.mp hd
    show ((a.names n x ++ b.names n y).length : Int) ≤ a.marks n + b.marks n
    have := ha.nm x hx
    have := hb.nm y hy
    rw [List.length_append]
    omega
  tab := by rw [every_pr]; exact rep_mul ha.tab hb.tab
  su := by rw [every_pr]; exact su_conv (every_len n a) (every_len n b) ha.su hb.su
theorem fine_li (hm : m < 4) (ha : Fine n a) (hl : (S.li m a).lsize n ≤ 40) : Fine n (.li m a) where
  ok := by show ((m ≤ 12 : Bool) && a.ok) = true; rw [ha.ok, decide_eq_true (by omega)]; rfl
  lenOk := ⟨ha.lenOk, by have := ha.len; omega, by
    have h1 : ((a.mem n).length + 1) ^ m ≤ 41 ^ m := Nat.pow_le_pow_left (by have := ha.len; omega) m
    have h2 : 41 ^ m ≤ 41 ^ 3 := Nat.pow_le_pow_right (by omega) (by omega)
    omega⟩
  mlen := by
    show (((rowsL (a.mem n) m).map D.tup).length : Int) = ipow (a.lsize n) m
    rw [List.length_map, rows_len_eq, ha.mlen]
  le := hl
  size := by show ipow (a.size n) m = ipow (a.lsize n) m; rw [ha.size]
  small := by
    have := ha.nn; have := ha.le; have := ha.size
    refine ⟨ha.small, by omega, by omega, ?_⟩
    rw [ha.size]
    exact Int.le_trans hl (by decide)
  reach := .inr ⟨ha.reach, ha.bd.bd⟩
  mnn := Int.mul_nonneg (Int.natCast_nonneg m) ha.mnn
  nm := fun d hd => by
    obtain ⟨r, hr, rfl⟩ := List.mem_map.mp hd
    show ((r.flatMap (a.names n)).length : Int) ≤ m * a.marks n
    have hi := rows_sub _ m r hr
    rw [← rows_item _ m r hr]
    clear hr hd
    induction r with
    | nil => simp
    | cons x r ih =>
      have h1 := ha.nm x (hi x List.mem_cons_self)
      have h2 := ih fun y hy => hi y (List.mem_cons_of_mem _ hy)
      rw [List.flatMap_cons, List.length_append, List.length_cons, Int.natCast_succ, Int.add_mul, Int.one_mul]
      omega
  tab := by
    have e : (S.li m a).table n = powT n (a.table n) m := by
      show (if m = 0 then zeroT n else powT n (a.table n) m) = _
      split
      · rename_i h; rw [h]; rfl
      · rfl
    rw [e, every_li]
    exact rep_pow ha.tab m
  su := by rw [every_li]; exact su_pow (every_len n a) ha.su m
theorem fine_leaf (h2 : 2 ≤ n) (h4 : n ≤ 4) (hs : s ∈ leafs n ++ fams n) (hf : s.fitB n 40 = true) : Fine n s := by
  have hA : allB n = true := by
    have : n = 2 ∨ n = 3 ∨ n = 4 := by omega
    rcases this with rfl | rfl | rfl
    · exact all2
    · exact all3
    · exact all4
  have hB := List.all_eq_true.mp hA s hs
  rw [hf] at hB
  have hB : leafB n s = true := hB
  unfold leafB at hB
  simp only [Bool.and_eq_true, decide_eq_true_eq, List.all_eq_true] at hB
  obtain ⟨g1, g2, g3, g4, g5, g6, g7, g8, g9⟩ := hB
  have le : s.lsize n ≤ 40 := by
    rw [S.fitB_eq, Bool.and_eq_true] at hf
    exact of_decide_eq_true hf.1
  have r := rep_of (S.table_ok h2 (by omega) s g1).nd g8
  exact ⟨g1, g2, g3, le, g4, g5, reach_of n s g6, S.marks_nn h2 (by omega) s g1, g7, r, su_of r g9⟩
/-! ### what is drawn -/
def Dr (n : Nat) : Nat → S → Prop
  | 0, s => s ∈ leafs n
  | d + 1, s => s ∈ leafs n ∨ s ∈ fams n ∨ (∃ (m : Nat) (a : S), m < 4 ∧ Dr n d a ∧ s = .li m a) ∨ ∃ a b : S, Dr n d a ∧ Dr n d b ∧ (s = .pr a b ∨ s = .ei a b)
theorem dr_fine (h2 : 2 ≤ n) (h4 : n ≤ 4) : ∀ (d : Nat) (s : S), Dr n d s → s.fitB n 40 = true → Fine n s
  | 0, s, h, hf => fine_leaf h2 h4 (List.mem_append_left _ h) hf
  | d + 1, s, h, hf => by
    rcases h with h | h | ⟨m, a, hm, ha, rfl⟩ | ⟨a, b, ha, hb, rfl | rfl⟩
    · exact fine_leaf h2 h4 (List.mem_append_left _ h) hf
    · exact fine_leaf h2 h4 (List.mem_append_right _ h) hf
    · have hf : (decide ((S.li m a).lsize n ≤ 40) && a.fitB n 40) = true := hf
      rw [Bool.and_eq_true] at hf
      exact fine_li hm (dr_fine h2 h4 d a ha hf.2) (of_decide_eq_true hf.1)
    · have hf : (decide ((S.pr a b).lsize n ≤ 40) && (a.fitB n 40 && b.fitB n 40)) = true := hf
      rw [Bool.and_eq_true, Bool.and_eq_true] at hf
      exact fine_pr (dr_fine h2 h4 d a ha hf.2.1) (dr_fine h2 h4 d b hb hf.2.2) (of_decide_eq_true hf.1)
    · have hf : (decide ((S.ei a b).lsize n ≤ 40) && (a.fitB n 40 && b.fitB n 40)) = true := hf
      rw [Bool.and_eq_true, Bool.and_eq_true] at hf
      exact fine_ei (dr_fine h2 h4 d a ha hf.2.1) (dr_fine h2 h4 d b hb hf.2.2) (of_decide_eq_true hf.1)
/-- how great what is drawn can be -/
def topSize : Nat → Int
  | 0 => 1000
  | 1 => 1000000000
  | _ => 1000000000000000000000000000
structure DrOk (n d : Nat) (s : S) : Prop where
  ok : s.ok = true
  depth : s.depth ≤ 2 + d
  parts : s.parts ≤ 5 * 2 ^ d - 1
  w0 : 0 ≤ s.width
  w1 : s.width ≤ 3 ^ d
  l0 : 0 ≤ s.lsize n
  l1 : s.lsize n ≤ topSize d
  up : s.upto n 100000000000000000
instance S.decUp (N : Nat) (b : Int) : ∀ s : S, Decidable (s.upto N b)
  | .none => inferInstanceAs (Decidable True)
  | .one => inferInstanceAs (Decidable True)
  | .sub _ => inferInstanceAs (Decidable True)
  | .bag _ => inferInstanceAs (Decidable True)
  | .ei x y => @instDecidableAnd _ _ (S.decUp N b x) (@instDecidableAnd _ _ (S.decUp N b y) inferInstance)
  | .pr x y => @instDecidableAnd _ _ (S.decUp N b x) (@instDecidableAnd _ _ (S.decUp N b y) inferInstance)
  | .li m a => @instDecidableAnd _ _ (S.decUp N b a) inferInstance
  | .fam m a => @instDecidableAnd _ _ (S.decUp N b a) inferInstance
  | .heap m a => @instDecidableAnd _ _ (S.decUp N b a) inferInstance
  | .rounds _ => inferInstanceAs (Decidable True)
  | .trees => inferInstanceAs (Decidable True)
  | .rooted => inferInstanceAs (Decidable True)
theorem leaf_ok : ∀ n : Nat, n < 5 → n < 2 ∨ ∀ s ∈ leafs n, s.ok = true ∧ s.depth ≤ 2 ∧ s.parts ≤ 4 ∧ 1 ≤ s.width ∧ s.width ≤ 1 ∧ 0 ≤ s.lsize n ∧ s.lsize n ≤ 1000 ∧ s.upto n 100000000000000000 := by decide +kernel
theorem fam_ok : ∀ n : Nat, n < 5 → n < 2 ∨ ∀ s ∈ fams n, s.ok = true ∧ s.depth ≤ 3 ∧ s.parts ≤ 4 ∧ 0 ≤ s.width ∧ s.width ≤ 3 ∧ 0 ≤ s.lsize n ∧ s.lsize n ≤ 1000 ∧ s.upto n 100000000000000000 := by decide +kernel
end
end ME
end
section
set_option Elab.async false
set_option linter.all false
set_option maxRecDepth 100000
set_option maxHeartbeats 4000000
namespace ME
open PySem L2 MW
local macro_rules | `(tactic| walk_at "norm1") => `(tactic| dsimp only [Then, LoopP, FnPost, FnPostS])
local macro_rules | `(tactic| walk_at "mul") => `(tactic| (first
  | exact Or.inl ⟨by omega, by omega⟩
  | exact Or.inr ⟨by omega, by omega⟩))
local macro_rules | `(tactic| walk_at "we") => `(tactic| (first
  | ((with_reducible refine we_var (d := ?d) ?he ?_); (case he => exact rfl))
  | with_reducible refine we_int ?_
  | with_reducible refine we_str ?_
  | with_reducible refine we_op ?_
  | with_reducible refine we_cl ?_
  | with_reducible refine we_tup ?_
  | with_reducible refine we_bl ?_
  | with_reducible refine we_non ?_
  | with_reducible refine we_if ?_
  | ((with_reducible refine we_lenO (ds := ?ds) ?he ?_); (case he => exact rfl))
  | with_reducible refine we_len ?_
  | with_reducible refine we_int1 ?_
  | with_reducible refine we_andV ?_
  | with_reducible refine we_orV ?_
  | with_reducible refine we_notV ?_
  | with_reducible refine we_neg ?_
  | with_reducible refine we_chain ?_
  | with_reducible refine we_dget ?_
  | ((with_reducible refine we_dget2O (t := ?t) ?he ?_); (case he => exact rfl))
  | ((with_reducible refine we_dget2I (t := ?t) ?he ?_); (case he => exact rfl))
  | with_reducible refine we_dget2 ?_
  | ((with_reducible refine we_isi ?ht ?_); (case ht => first | exact .inl rfl | exact .inr (.inl rfl) | exact .inr (.inr (.inl rfl)) | exact .inr (.inr (.inr rfl))))
  | ((with_reducible refine we_clS ?he ?_); (case he => exact rfl))
  | with_reducible refine we_max2 ?_
  | with_reducible refine we_dispT1 ?_
  | with_reducible refine we_dispT2 ?_
  | ((with_reducible refine we_tupOfO (ds := ?ds) ?he ?_); (case he => exact rfl))
  | with_reducible refine we_sumT ?_
  | with_reducible refine we_divmod ?_
  | with_reducible refine we_newT ?_))
local macro_rules | `(tactic| walk_at "op2") => `(tactic| (first
  | ((with_reducible refine o_ixT (d := ?d) ?he ?_); (case he => exact rfl))
  | with_reducible refine o_eqS ?_
  | with_reducible refine o_eqI ?_
  | with_reducible refine o_add ?_
  | with_reducible refine o_sub ?_
  | ((with_reducible refine o_inT (x := ?x) (xs := ?xs) ?hx ?hs ?_); (case hx => exact rfl); (case hs => exact rfl))
  | ((with_reducible refine o_mul ?hc ?_); (case hc => walk_at "mul"))
  | ((with_reducible refine o_mod ?hc ?_); (case hc => omega))
  | ((with_reducible refine o_div ?hc ?_); (case hc => exact ⟨by omega, by omega⟩))
  | with_reducible refine o_lt ?_
  | with_reducible refine o_le ?_
  | with_reducible refine o_gt ?_
  | with_reducible refine o_ge ?_
  | with_reducible refine o_neI ?_
  | ((with_reducible refine o_ixL (d := ?d) ?he ?_); (case he => exact rfl))
  | ((with_reducible refine o_inL (x := ?x) (xs := ?xs) ?hx ?hs ?_); (case hx => exact rfl); (case hs => exact rfl))
  | ((with_reducible refine o_catT ?hl ?_); (case hl => (simp only [List.length_cons, List.length_nil, List.length_append, List.length_map, List.length_replicate]; omega)))
  | ((with_reducible refine o_repTI ?h0 ?h1 ?_); (case h0 => omega); (case h1 => omega))
  | with_reducible refine o_isNT ?_))
local macro_rules | `(tactic| walk_at "wt") => `(tactic| (first
  | with_reducible refine wt_test ?_
  | with_reducible refine wt_B ?_
  | with_reducible refine wt_not ?_
  | with_reducible refine wt_and ?_
  | with_reducible refine wt_or ?_))
local macro_rules | `(tactic| walk_at "ws") => `(tactic| (first
  | with_reducible refine ws_seq ?_
  | with_reducible refine ws_asg ?_
  | with_reducible refine ws_if ?_
  | with_reducible refine ws_ret ?_
  | with_reducible refine ws_next ?_
  | with_reducible refine ws_drop ?_
  | with_reducible refine ws_par ?_
  | ((with_reducible refine ws_asg2 ?hn ?_); (case hn => rfl))))
local macro_rules | `(tactic| walk_at "no") => `(tactic| first
  | (intro hb; exact Bool.noConfusion (show (true : Bool) = false from hb))
  | (intro hb; exact Bool.noConfusion (show (false : Bool) = true from hb)))
local macro_rules | `(tactic| walk_at "br") => `(tactic| first
  | (refine ⟨?_, ?no⟩; (case no => walk_at "no"); (intro _))
  | (refine ⟨?no, ?_⟩; (case no => walk_at "no"); (intro _)))
local macro_rules | `(tactic| walk_at "ex") => `(tactic| first
  | (refine ⟨_, rfl, ?_⟩)
  | (refine ⟨_, _, rfl, rfl, ?_⟩)
  | (refine ⟨_, _, rfl, ?_⟩)
  | (refine ⟨_, _, _, rfl, ?_⟩)
  | (refine ⟨_, _, _, _, rfl, ?_⟩)
  | (refine ⟨_, .inr rfl, ?_⟩)
  | (refine ⟨_, .inl rfl, ?_⟩))
local macro_rules | `(tactic| walk_at "r") => `(tactic| repeat (first
  | ((with_reducible show MW.WE _ _ _ _ _); walk_at "we")
  | ((with_reducible show MW.Op2 _ _ _ _ _ _ _); walk_at "op2")
  | ((with_reducible show MW.WS _ _ _ _ _); walk_at "ws")
  | ((with_reducible show MW.WA _ _ _ _ _); first | with_reducible refine wa_cons ?_ | with_reducible refine wa_nil ?_)
  | ((with_reducible show MW.WT _ _ _ _ _); walk_at "wt")
  | ((with_reducible show Exists _); walk_at "ex")
  | ((with_reducible show And _ _); first | walk_at "br" | (refine ⟨by decide, ?_⟩) | (refine ⟨Nat.le_of_ble_eq_true rfl, ?_⟩) | (refine ⟨.inl ⟨_, rfl⟩, ?_⟩) | (refine ⟨.inr (.inl ⟨_, rfl⟩), ?_⟩) | (refine ⟨.inr (.inr ⟨_, rfl⟩), ?_⟩))
  | walk_at "norm1"
  | walk_at "ex"))
local macro_rules | `(tactic| walk_at "q") => `(tactic| repeat (first
  | ((with_reducible show MW.WE _ _ _ _ _); first | with_reducible refine we_wl (wl_cat ?_) | with_reducible refine we_wl (wl_lst ?_) | walk_at "we")
  | ((with_reducible show MW.Op2 _ _ _ _ _ _ _); walk_at "op2")
  | ((with_reducible show MW.WS _ _ _ _ _); walk_at "ws")
  | ((with_reducible show MW.WA _ _ _ _ _); first | with_reducible refine wa_cons ?_ | with_reducible refine wa_nil ?_)
  | ((with_reducible show MW.WT _ _ _ _ _); walk_at "wt")
  | ((with_reducible show Exists _); walk_at "ex")
  | ((with_reducible show And _ _); first | walk_at "br" | (refine ⟨by decide, ?_⟩) | (refine ⟨Nat.le_of_ble_eq_true rfl, ?_⟩) | (refine ⟨.inl ⟨_, rfl⟩, ?_⟩) | (refine ⟨.inr (.inl ⟨_, rfl⟩), ?_⟩) | (refine ⟨.inr (.inr ⟨_, rfl⟩), ?_⟩))
  | walk_at "norm1"
  | walk_at "ex"))
local macro_rules | `(tactic| walk_at "le") => `(tactic| ((try refine ⟨rfl, ?_⟩); repeat (first | exact Le.nil | refine Le.eq ?_ | refine Le.any ?_)))

theorem sc_at : FnScope ["_law_lots", "_law_content", "_law_one", "_law_number"] ["_law_lots", "_law_content"] (defScope s_at) := ⟨rfl, rfl, rfl, by decide +kernel, rfl, by decide +kernel, by decide +kernel⟩
def lotsD (lots : Tab) : D := .lst (lots.map fun p => .tup [.ints p.1, .int p.2])
def atSum (lots : Tab) (c : Ct) : Int := ((lots.filter fun p => decide (p.1 = c)).map (·.2)).sum
def sp_at : SpecD := fun ds R => ∃ (lots : Tab) (c : Ct), ds = [lotsD lots, .ints c] ∧ lots.length ≤ 1000 ∧ R (.int (atSum lots c))
theorem ok_at {P : Program} {w : World} {K : PySem.W.Frag} {mg : Str → Option Value} {base h : Heap} (T : Tx K mg h)  :
    Ok P w K mg base "_law_at" ["_law_lots", "_law_content"] 1 (SpP K sp_at) := by
  obtain ⟨fd, F⟩ := T.c.def_ 54 (d := d_at) rfl
  have F : FnP K "_law_at" s_at (He.ga K "_law_at") fd := F
  have len : ∀ ds R, sp_at ds R → ds.length = 2 := (fun ds R h => by obtain ⟨_, _, rfl, _⟩ := h; rfl)
  refine Ok.of F (He.glo_ok T.X T.G (T.c.fact 54 (f := .glo "_law_at") rfl)) (FunD.bindsN F fun _ _ _ _ _ _ us hl => match us, hl with | [_, _], _ => rfl)
    (FunD.ok F sc_at (fun vs H Q E h => lenP (n := 2) h len) (fun cdv A outer s H vs Q E hr hq => ⟨_, PSs.nox (pss_one (ps_ret (pe_callB (cr_sum (by rfl)) (by rfl) T.sum_ (by decide +kernel) (pa_cons (pe_lc (own := [("_law_one", 2), ("_law_number", 3)]) (by rfl) sc_at.nd (pi_list (pv 0)) (blkOk_by (own := [("_law_one", 2), ("_law_number", 3)]) (by rfl)) (fun _ _ _ _ _ => (pg_tupK (K := K) rfl (n := 2) (by rfl) (pgs_cons (pg_name (i := 2) sc_at.nd rfl (by first | exact .inl rfl | exact .inr rfl)) (pgs_cons (pg_name (i := 3) sc_at.nd rfl (by first | exact .inl rfl | exact .inr rfl)) pgs_nil)))) (fun _ _ _ _ _ => (pts_one (pt_cmpR (op_eqDK (K := K) rfl hr.units) (pv 2) (pv 1) (by rfl)))) (fun _ _ _ _ _ => (pv 3))) pa_nil)))), ?_⟩))
  refine fn_run (n := 2) hq len (by decide) fun ds R hs => ?_
  try dsimp only [cxOf]
  obtain ⟨lots, c, rfl, hl, hR⟩ := hs
  show WS K _ 0 [.sh (lotsD lots), .sh (.ints c), .any, .any] _
  refine ws_ret (we_sum (we_wl (wl_comp (is := [2, 3]) ?hv ?hj (src_list (we_var (d := lotsD lots) rfl ⟨_, rfl, ?_⟩)))))
  case hv => exact any_of (by rfl)
  case hj => decide
  refine ⟨fun i acc => acc = (((lots.take i).filter fun p => decide (p.1 = c)).map (·.2)).map D.int, by simp, by rw [List.length_map]; omega, fun i x acc hi ha => ?_, fun acc ha _ => ?_⟩
  · obtain ⟨p, hp, rfl⟩ := mem_map_get hi
    refine wg_pair rfl ?_
    refine wt_test (we_op (we_var (d := .ints p.1) rfl (we_var (d := .ints c) rfl (o_eqTT ⟨_, rfl, rfl, fun hb => ?_, fun hb => ?_⟩))))
    · refine we_var (d := .int p.2) rfl ⟨rfl, ?_⟩
      dsimp only at ha ⊢
      rw [ha, take_get hp, List.filter_append, List.map_append, List.map_append]
      congr 1
      rw [List.filter_cons, if_pos hb]
      rfl
    · dsimp only at ha ⊢
      rw [ha, take_get hp, List.filter_append, List.map_append, List.map_append, List.filter_cons, if_neg (by rw [hb]; exact Bool.false_ne_true)]
      simp
  · rw [List.length_map, List.take_length] at ha
    exact ⟨_, by rw [ha], hR⟩
end ME
end
section
set_option Elab.async false
set_option linter.all false
set_option maxRecDepth 100000
set_option maxHeartbeats 4000000
namespace ME
open PySem L2 MW
section
variable {n m d : Nat} {a b s : S}
theorem mul_in {x y L : Int} (hx : 0 ≤ x) (hy : 0 ≤ y) (hxl : x ≤ L) (hyl : y ≤ L) : 0 ≤ x * y ∧ x * y ≤ L * L := ⟨Int.mul_nonneg hx hy, Int.mul_le_mul hxl hyl hy (Int.le_trans hx hxl)⟩
theorem dr_leaf (h2 : 2 ≤ n) (h4 : n ≤ 4) (hs : s ∈ leafs n) : DrOk n d s := by
  obtain ⟨g1, g2, g3, g4, g5, g6, g7, g8⟩ := (leaf_ok n (by omega)).resolve_left (by omega) s hs
  have p1 : 1 ≤ 2 ^ d := Nat.one_le_two_pow
  have p2 : (1 : Int) ≤ 3 ^ d := by have h := Int.pow_pos (n := 3) (m := d) (by decide); omega
  refine ⟨g1, by omega, by omega, by omega, by omega, g6, ?_, g8⟩
  match d with
  | 0 => exact g7
  | 1 => exact Int.le_trans g7 (by decide)
  | d + 2 => exact Int.le_trans g7 (by show (1000 : Int) ≤ 1000000000000000000000000000; decide)
theorem dr_fam (h2 : 2 ≤ n) (h4 : n ≤ 4) (hs : s ∈ fams n) : DrOk n (d + 1) s := by
  obtain ⟨g1, g2, g3, g4, g5, g6, g7, g8⟩ := (fam_ok n (by omega)).resolve_left (by omega) s hs
  have p1 : 1 ≤ 2 ^ d := Nat.one_le_two_pow
  have p2 : (1 : Int) ≤ 3 ^ d := by have h := Int.pow_pos (n := 3) (m := d) (by decide); omega
  refine ⟨g1, by omega, by rw [Nat.pow_succ]; omega, by omega, by rw [Int.pow_succ]; omega, g6, ?_, g8⟩
  match d with
  | 0 => exact Int.le_trans g7 (by decide)
  | d + 1 => exact Int.le_trans g7 (by show (1000 : Int) ≤ 1000000000000000000000000000; decide)
theorem top_step (hd : d ≤ 1) : 2 ≤ topSize d ∧ topSize d ≤ 100000000000000000 ∧ topSize d * topSize d * topSize d = topSize (d + 1) := by
  have : d = 0 ∨ d = 1 := by omega
  rcases this with rfl | rfl <;> exact ⟨by decide, by decide, by decide⟩
theorem dr_ok (h2 : 2 ≤ n) (h4 : n ≤ 4) : ∀ (d : Nat) (s : S), d ≤ 2 → Dr n d s → DrOk n d s
  | 0, s, _, h => dr_leaf h2 h4 h
  | d + 1, s, hd, h => by
    obtain ⟨t1, t2, t3⟩ := top_step (d := d) (by omega)
    rcases h with h | h | ⟨m, a, hm, ha, rfl⟩ | ⟨a, b, ha, hb, h⟩
    · exact dr_leaf h2 h4 h
    · exact dr_fam h2 h4 h
    · have A := dr_ok h2 h4 d a (by omega) ha
      have a3 := A.parts; have a4 := A.w0; have a5 := A.w1; have a6 := A.l0; have a7 := A.l1
      have p1 : 1 ≤ 2 ^ d := Nat.one_le_two_pow
      generalize topSize d = L at t1 t2 t3 a7
      refine ⟨?_, ?_, ?_, ?_, ?_, ?_, ?_, A.up, a6, by omega⟩
      · show ((m ≤ 12 : Bool) && a.ok) = true
        rw [A.ok, decide_eq_true (by omega)]; rfl
      · have := A.depth
        show a.depth + 1 ≤ _
        omega
      · show a.parts + 1 ≤ 5 * 2 ^ (d + 1) - 1
        rw [Nat.pow_succ]; omega
      · exact Int.mul_nonneg (Int.natCast_nonneg m) a4
      · show (m : Int) * a.width ≤ 3 ^ (d + 1)
        have : (m : Int) * a.width ≤ 3 * a.width := Int.mul_le_mul_of_nonneg_right (by omega) a4
        rw [Int.pow_succ]; omega
      · show 0 ≤ ipow (a.lsize n) m
        have p : ∀ k, 0 ≤ ipow (a.lsize n) k := fun k => by
          induction k with
          | zero => show (0 : Int) ≤ 1; decide
          | succ k ih => exact Int.mul_nonneg ih a6
        exact p m
      · show ipow (a.lsize n) m ≤ topSize (d + 1)
        rw [← t3]
        obtain ⟨q1, q2⟩ := mul_in a6 a6 a7 a7
        have q3 : L ≤ L * L := by
          have := Int.mul_le_mul_of_nonneg_right (show 1 ≤ L by omega) (show 0 ≤ L by omega)
          omega
        have q4 : L * L ≤ L * L * L := by
          have := Int.mul_le_mul_of_nonneg_left (show 1 ≤ L by omega) (show 0 ≤ L * L by omega)
          omega
        have : m = 0 ∨ m = 1 ∨ m = 2 ∨ m = 3 := by omega
        rcases this with rfl | rfl | rfl | rfl
        · show (1 : Int) ≤ _; omega
        · show 1 * a.lsize n ≤ _; omega
        · show 1 * a.lsize n * a.lsize n ≤ _; rw [Int.one_mul]; omega
        · show 1 * a.lsize n * a.lsize n * a.lsize n ≤ _
          rw [Int.one_mul]
          exact Int.mul_le_mul q2 a7 a6 (by omega)
    · have A := dr_ok h2 h4 d a (by omega) ha
      have B := dr_ok h2 h4 d b (by omega) hb
      have a3 := A.parts; have a4 := A.w0; have a5 := A.w1; have a6 := A.l0; have a7 := A.l1
      have b3 := B.parts; have b4 := B.w0; have b5 := B.w1; have b6 := B.l0; have b7 := B.l1
      have p1 : 1 ≤ 2 ^ d := Nat.one_le_two_pow
      have d1 := A.depth; have d2 := B.depth
      generalize topSize d = L at t1 t2 t3 a7 b7
      obtain ⟨q1, q2⟩ := mul_in a6 b6 a7 b7
      have q3 : L + L ≤ L * L := by
        have := Int.mul_le_mul_of_nonneg_right t1 (show 0 ≤ L by omega)
        omega
      have q4 : L * L ≤ L * L * L := by
        have := Int.mul_le_mul_of_nonneg_left (show 1 ≤ L by omega) (show 0 ≤ L * L by omega)
        omega
      rcases h with rfl | rfl
      · refine ⟨?_, ?_, ?_, ?_, ?_, q1, ?_, A.up, B.up, a6, by omega, b6, by omega⟩
        · show (a.ok && b.ok) = true
          rw [A.ok, B.ok]; rfl
        · show max a.depth b.depth + 1 ≤ _
          omega
        · show a.parts + b.parts + 1 ≤ 5 * 2 ^ (d + 1) - 1
          rw [Nat.pow_succ]; omega
        · exact Int.add_nonneg a4 b4
        · show a.width + b.width ≤ 3 ^ (d + 1)
          rw [Int.pow_succ]; omega
        · rw [← t3]
          show a.lsize n * b.lsize n ≤ _
          omega
      · refine ⟨?_, ?_, ?_, ?_, ?_, Int.add_nonneg a6 b6, ?_, A.up, B.up, a6, by omega, b6, by omega⟩
        · show (a.ok && b.ok) = true
          rw [A.ok, B.ok]; rfl
        · show max a.depth b.depth + 1 ≤ _
          omega
        · show a.parts + b.parts + 1 ≤ 5 * 2 ^ (d + 1) - 1
          rw [Nat.pow_succ]; omega
        · show 0 ≤ if b.width > a.width then b.width else a.width
          split <;> omega
        · show (if b.width > a.width then b.width else a.width) ≤ 3 ^ (d + 1)
          rw [Int.pow_succ]
          split <;> omega
        · rw [← t3]
          show a.lsize n + b.lsize n ≤ _
          omega
/-- the sort that the law goes on with -/
structure Drawn (n : Nat) (s : S) : Prop where
  dr : Dr n 2 s
  fit : s.fitB n 40 = true
  marks : s.marks n ≤ 12
theorem Drawn.fine (h2 : 2 ≤ n) (h4 : n ≤ 4) (h : Drawn n s) : Fine n s := dr_fine h2 h4 2 s h.dr h.fit
theorem Drawn.depth (h2 : 2 ≤ n) (h4 : n ≤ 4) (h : Drawn n s) : s.depth ≤ 10 := by
  have := (dr_ok h2 h4 2 s (by omega) h.dr).depth
  omega
theorem Drawn.good (h2 : 2 ≤ n) (h4 : n ≤ 4) (h : Drawn n s) : s.good n := by
  have A := dr_ok h2 h4 2 s (by omega) h.dr
  have F := h.fine h2 h4
  have a1 := A.depth; have a2 := A.parts; have a3 := A.w1
  exact ⟨h2, by omega, F.ok, by omega, by omega, h.marks, by omega, F.small⟩
theorem plain_ok : ∀ n : Nat, n < 5 → n < 2 ∨ (S.fitB n 40 .one && decide (S.one.marks n ≤ 12) && S.fitB n 40 (.sub 2) && decide ((S.sub 2).marks n ≤ 12) && S.fitB n 40 (.bag 2) && decide ((S.bag 2).marks n ≤ 12) && S.fitB n 40 (.fam 2 (.sub (n - 1))) && decide ((S.fam 2 (.sub (n - 1))).marks n ≤ 12)) = true := by decide +kernel
theorem drawn_plain (h2 : 2 ≤ n) (h4 : n ≤ 4) : Drawn n .one ∧ Drawn n (.sub 2) ∧ Drawn n (.bag 2) ∧ Drawn n (.fam 2 (.sub (n - 1))) := by
  have h := (plain_ok n (by omega)).resolve_left (by omega)
  simp only [Bool.and_eq_true, decide_eq_true_eq] at h
  obtain ⟨⟨⟨⟨⟨⟨⟨g1, g2⟩, g3⟩, g4⟩, g5⟩, g6⟩, g7⟩, g8⟩ := h
  refine ⟨⟨.inl ?_, g1, g2⟩, ⟨.inl ?_, g3, g4⟩, ⟨.inl ?_, g5, g6⟩, ⟨.inr (.inl ?_), g7, g8⟩⟩
  · unfold leafs; simp
  · unfold leafs
    refine List.mem_append_left _ (List.mem_append_left _ (List.mem_append_right _ (List.mem_map.mpr ⟨2, List.mem_range.mpr (by omega), rfl⟩)))
  · unfold leafs
    refine List.mem_append_left _ (List.mem_append_right _ (List.mem_map.mpr ⟨2, List.mem_range.mpr (by omega), rfl⟩))
  · unfold fams
    refine List.mem_flatMap.mpr ⟨.sub (n - 1), ?_, List.mem_append_left _ (List.mem_map.mpr ⟨2, List.mem_range.mpr (by omega), rfl⟩)⟩
    unfold singles
    exact List.mem_cons_of_mem _ (List.mem_append_left _ (List.mem_append_left _ (List.mem_map.mpr ⟨n - 1, List.mem_range.mpr (by omega), rfl⟩)))
/-! ### shapes of the members -/
theorem pick_sub {L : List D} {m : Nat} {again : Bool} {lot : Ct} (h : lot ∈ tuplesL L.length m again) : ∀ x ∈ pickL1 L .non lot, x ∈ L := fun x hx => by
  obtain ⟨z, hz, rfl⟩ := List.mem_map.mp hx
  obtain ⟨z0, z1⟩ := (tuples_ok L.length again m).1 lot h z hz
  rw [List.getD_eq_getElem?_getD, List.getElem?_eq_getElem (by omega)]
  exact List.getElem_mem _
theorem trees_shape : ∀ n : Nat, n < 5 → ∀ t ∈ treesL n, t.length ≤ 100 ∧ ∀ c ∈ t, c.length = 2 := by decide +kernel
theorem ints_of_rows {pair : Ct} {won : List D} (h : ∀ x ∈ won, x ∈ pair.map D.int) : ∃ c : Ct, won = c.map D.int := by
  induction won with
  | nil => exact ⟨[], rfl⟩
  | cons x won ih =>
    obtain ⟨c, e⟩ := ih fun y hy => h y (List.mem_cons_of_mem _ hy)
    obtain ⟨z, _, e2⟩ := List.mem_map.mp (h x List.mem_cons_self)
    exact ⟨z :: c, by rw [e, ← e2]; rfl⟩
theorem rounds_shape {m : Nat} : ∀ (l : List Ct) (found : List (List D)), (∀ r ∈ found, ∃ cs : List Ct, r = cs.map D.ints) → ∀ r ∈ l.foldl (fun found pair => found.flatMap (roundStep m pair)) found, ∃ cs : List Ct, r = cs.map D.ints
  | [], _, h => h
  | pair :: l, found, h => rounds_shape l _ fun r hr => by
    obtain ⟨one, ho, hr⟩ := List.mem_flatMap.mp hr
    unfold roundStep at hr
    obtain ⟨won, hw, rfl⟩ := List.mem_map.mp hr
    obtain ⟨cs, e⟩ := h one ho
    obtain ⟨c, e2⟩ := ints_of_rows (rows_sub _ m won hw)
    exact ⟨cs ++ [c], by rw [e, e2, List.map_append]; rfl⟩
theorem mem_shape {n : Nat} (hn : n < 5) : ∀ (s : S), ∀ d ∈ s.mem n, s.shape n d
  | .none, d, h => by cases h
  | .one, d, h => by
    obtain ⟨i, _, rfl⟩ := List.mem_map.mp h
    exact ⟨i, rfl⟩
  | .sub k, d, h => by
    obtain ⟨c, _, rfl⟩ := List.mem_map.mp h
    exact ⟨c, rfl⟩
  | .bag k, d, h => by
    obtain ⟨c, _, rfl⟩ := List.mem_map.mp h
    exact ⟨c, rfl⟩
  | .ei a b, d, h => by
    rcases List.mem_append.mp h with h | h
    · obtain ⟨x, hx, rfl⟩ := List.mem_map.mp h
      exact .inl ⟨x, rfl, mem_shape hn a x hx⟩
    · obtain ⟨x, hx, rfl⟩ := List.mem_map.mp h
      exact .inr ⟨x, rfl, mem_shape hn b x hx⟩
  | .pr a b, d, h => by
    obtain ⟨x, hx, h⟩ := List.mem_flatMap.mp h
    obtain ⟨y, hy, rfl⟩ := List.mem_map.mp h
    exact ⟨x, y, rfl, mem_shape hn a x hx, mem_shape hn b y hy⟩
  | .li m a, d, h => by
    obtain ⟨r, hr, rfl⟩ := List.mem_map.mp h
    exact ⟨r, rfl, fun x hx => mem_shape hn a x (rows_sub _ m r hr x hx)⟩
  | .fam m a, d, h => by
    obtain ⟨lot, hl, rfl⟩ := List.mem_map.mp h
    exact ⟨_, rfl, fun x hx => mem_shape hn a x (pick_sub hl x hx)⟩
  | .heap m a, d, h => by
    obtain ⟨lot, hl, rfl⟩ := List.mem_map.mp h
    exact ⟨_, rfl, fun x hx => mem_shape hn a x (pick_sub hl x hx)⟩
  | .rounds m, d, h => by
    obtain ⟨r, hr, rfl⟩ := List.mem_map.mp h
    obtain ⟨cs, e⟩ := rounds_shape (m := m) (meetsL n) [[]] (fun r hr => ⟨[], by rw [List.mem_singleton.mp hr]; rfl⟩) r hr
    exact ⟨cs, by rw [e]⟩
  | .trees, d, h => by
    obtain ⟨t, _, rfl⟩ := List.mem_map.mp h
    exact ⟨t, rfl⟩
  | .rooted, d, h => by
    obtain ⟨root, _, h⟩ := List.mem_flatMap.mp h
    obtain ⟨t, ht, rfl⟩ := List.mem_map.mp h
    obtain ⟨t1, t2⟩ := trees_shape n hn t ht
    exact ⟨root, t, rfl, t1, t2⟩
/-! ### what the law asks -/
theorem names_small (h2 : 2 ≤ n) (h4 : n ≤ 4) (h : Drawn n s) : ∀ d ∈ s.mem n, (s.names n d).length ≤ 1000 := fun d hd => by
  have := (h.fine h2 h4).nm d hd
  have := h.marks
  omega
theorem every_bd (h2 : 2 ≤ n) (h4 : n ≤ 4) (h : Drawn n s) : ∀ c ∈ s.every n, c.length = n ∧ ∀ z ∈ c, 0 ≤ z ∧ z ≤ ((12 : Nat) : Int) := fun c hc => by
  have F := h.fine h2 h4
  obtain ⟨p, hp, rfl⟩ := List.mem_map.mp (F.tab.key hc)
  have ok := S.table_ok h2 (by omega) s F.ok
  refine ⟨ok.len p hp, fun z hz => ?_⟩
  have := ok.bd p hp z hz
  have := h.marks
  have := F.mnn
  omega
theorem sum_bd : ∀ (c : Ct), (∀ z ∈ c, 0 ≤ z ∧ z ≤ ((12 : Nat) : Int)) → 0 ≤ c.sum ∧ c.sum ≤ 12 * (c.length : Int)
  | [], _ => ⟨Int.le_refl _, Int.le_refl _⟩
  | x :: c, h => by
    have h1 := sum_bd c fun z hz => h z (List.mem_cons_of_mem _ hz)
    have h2 := h x List.mem_cons_self
    rw [List.sum_cons, List.length_cons, Int.natCast_succ]
    omega
theorem lots_rep {cs : List Ct} {lots : Tab} (p : lots.Perm (gatherT cs)) : TabRep (gatherT cs) cs ∧ (∀ q ∈ lots, q.2 = cnt cs q.1 ∧ q.1 ∈ cs) ∧ ∀ c ∈ cs, (c, cnt cs c) ∈ lots := by
  have r := rep_gather cs
  refine ⟨r, fun q hq => ?_, fun c hc => ?_⟩
  · have hq := p.mem_iff.mp hq
    refine ⟨r.val hq, ?_⟩
    have pos : ∀ (l : List Ct) (t : Tab), (∀ k ∈ t.map (·.1), k ∈ cs) → (∀ c ∈ l, c ∈ cs) → ∀ k ∈ (l.foldl gatherF t).map (·.1), k ∈ cs := fun l => by
      induction l with
      | nil => exact fun t h _ => h
      | cons c l ih =>
        intro t ht hl
        refine ih (gatherF t c) (fun k hk => ?_) fun x hx => hl x (List.mem_cons_of_mem _ hx)
        rcases tput_mem hk with e | hk
        · rw [e]; exact hl c List.mem_cons_self
        · exact ht k hk
    exact pos cs [] (fun k hk => by cases hk) (fun _ h => h) q.1 (List.mem_map.mpr ⟨q, hq, rfl⟩)
  · obtain ⟨q, hq, e⟩ := List.mem_map.mp (r.key hc)
    have := r.val hq
    rw [e] at this
    rw [← e] at this ⊢
    rw [e] at this
    apply p.mem_iff.mpr
    rw [e, ← this, ← e]
    exact hq
theorem law_max (h2 : 2 ≤ n) (h4 : n ≤ 4) (h : Drawn n s) {lots : Tab} (p : lots.Perm (gatherT (s.every n))) (t : Nat) {x : Int} (hx : x ∈ 0 :: (lots.filter fun q => decide (q.1.sum = (t : Int))).map (·.2))
    (hy : ∀ y ∈ 0 :: (lots.filter fun q => decide (q.1.sum = (t : Int))).map (·.2), y ≤ x) : x = (tget (s.table n) (evenV n t)).getD 0 := by
  have F := h.fine h2 h4
  obtain ⟨r, l1, l2⟩ := lots_rep p
  rw [F.tab.get]
  apply Int.le_antisymm
  · rcases List.mem_cons.mp hx with e | hx
    · rw [e]; exact cnt_nn _ _
    · obtain ⟨q, hq, rfl⟩ := List.mem_map.mp hx
      obtain ⟨q1, q2⟩ := List.mem_filter.mp hq
      obtain ⟨q3, q4⟩ := l1 q q1
      rw [q3]
      exact most F.su h2 (every_len n s q.1 q4) (of_decide_eq_true q2)
  · by_cases hm : evenV n t ∈ s.every n
    · exact hy _ (List.mem_cons_of_mem _ (List.mem_map.mpr ⟨_, List.mem_filter.mpr ⟨l2 _ hm, decide_eq_true (even_sum h2)⟩, rfl⟩))
    · rw [cnt_zero hm]
      exact hy 0 List.mem_cons_self
theorem law_at {cs : List Ct} {lots : Tab} (p : lots.Perm (gatherT cs)) {c : Ct} (hc : c ∈ cs) : atSum lots c = cnt cs c := by
  obtain ⟨r, l1, l2⟩ := lots_rep p
  unfold atSum
  have nd : (lots.map (·.1)).Nodup := (p.map _).nodup_iff.mpr r.nd
  have hm := l2 c hc
  have go : ∀ l : Tab, (l.map (·.1)).Nodup → ∀ v, (c, v) ∈ l → ((l.filter fun p => decide (p.1 = c)).map (·.2)).sum = v := fun l => by
    induction l with
    | nil => intro _ v h; cases h
    | cons q l ih =>
      intro nd v h
      rw [List.map_cons] at nd
      obtain ⟨n1, n2⟩ := List.nodup_cons.mp nd
      rcases List.mem_cons.mp h with e | h
      · have z : l.filter (fun p => decide (p.1 = c)) = [] := by
          rw [List.filter_eq_nil_iff]
          intro y hy z
          have z := of_decide_eq_true z
          exact n1 (by rw [← e]; exact List.mem_map.mpr ⟨y, hy, z⟩)
        rw [← e, List.filter_cons, if_pos (decide_eq_true rfl), z, List.map_cons, List.map_nil, List.sum_cons, List.sum_nil]
        exact Int.add_zero v
      · have ne : ¬ q.1 = c := fun z => n1 (by rw [z]; exact List.mem_map.mpr ⟨_, h, rfl⟩)
        rw [List.filter_cons, if_neg (by rw [decide_eq_false ne]; exact Bool.false_ne_true)]
        exact ih n2 v h
  exact go lots nd _ hm
theorem law_perm (h2 : 2 ≤ n) (h4 : n ≤ 4) (h : Drawn n s) {lots : Tab} (p : lots.Perm (gatherT (s.every n))) {c c' : Ct} (hc : c ∈ s.every n) (hp : c'.Perm c) : (tget (s.table n) c').getD 0 = atSum lots c := by
  have F := h.fine h2 h4
  rw [law_at p hc, F.tab.get]
  exact F.su.perm (n := n) hp [] (by rw [List.nil_append, hp.length_eq]; exact every_len n s c hc)
/-! ### the three great sorts -/
theorem one_units : ∀ n : Nat, n < 6 → repB (S.one.table n) (units n) = true ∧ repB (nameT n) (units n) = true ∧ bdB (S.one.table n) = true ∧ bdB (powT n (nameT n) (n - 2)) = true := by decide +kernel
theorem great_list (h2 : 2 ≤ n) (h5 : n ≤ 5) (k : Nat) : (tget ((S.li k .one).table n) (evenV n k)).getD 0 = listings (evenV n k) := by
  obtain ⟨o1, _⟩ := one_units n (by omega)
  have r := rep_of (S.table_ok h2 h5 .one rfl).nd o1
  have e : (S.li k .one).table n = powT n (S.one.table n) k := by
    show (if k = 0 then zeroT n else powT n (S.one.table n) k) = _
    split
    · rename_i h; rw [h]; rfl
    · rfl
  rw [e, (rep_pow (n := n) r k).get]
  refine multi_listings (even_len h2) (fun z hz => ?_) (even_sum h2)
  unfold evenV at hz
  rcases List.mem_append.mp hz with hz | hz
  · rw [(List.mem_replicate.mp hz).2]; exact Int.add_nonneg (Int.natCast_nonneg _) (by decide)
  · rw [(List.mem_replicate.mp hz).2]; exact Int.natCast_nonneg _
theorem great_rooted (h2 : 2 ≤ n) (h5 : n ≤ 5) : (tget (S.rooted.table n) (evenV n (n - 1))).getD 0 = listings (evenV n (n - 1)) := by
  obtain ⟨_, o2, _⟩ := one_units n (by omega)
  have r := rep_of (names_ok n).nd o2
  show (tget (powT n (nameT n) (n - 1)) _).getD 0 = _
  rw [(rep_pow (n := n) r (n - 1)).get]
  refine multi_listings (even_len h2) (fun z hz => ?_) (even_sum h2)
  unfold evenV at hz
  rcases List.mem_append.mp hz with hz | hz
  · rw [(List.mem_replicate.mp hz).2]; exact Int.add_nonneg (Int.natCast_nonneg _) (by decide)
  · rw [(List.mem_replicate.mp hz).2]; exact Int.natCast_nonneg _
theorem great_trees : ∀ n : Nat, n < 6 → n < 2 ∨ (tget (S.trees.table n) (evenV n (2 * (n - 1)))).getD 0 = listings (evenV n (n - 2)) := by decide +kernel
def goodB (N : Nat) (s : S) : Bool := s.ok && (decide (s.depth ≤ 10) && (decide (s.parts ≤ 60) && (decide (s.marks N ≤ 12) && (decide (s.width ≤ 40) && decide (s.small N)))))
theorem good_of {N : Nat} (h2 : 2 ≤ N) (h5 : N ≤ 5) {s : S} (h : goodB N s = true) : s.good N := by
  unfold goodB at h
  simp only [Bool.and_eq_true, decide_eq_true_eq] at h
  obtain ⟨a, b, c, d, e, f⟩ := h
  exact ⟨h2, h5, a, b, c, d, e, f⟩
theorem great_good : ∀ n : Nat, n < 6 → n < 2 ∨ ((∀ k : Nat, k < 13 → goodB n (.li k .one) = true) ∧ goodB n .rooted = true ∧ goodB n .trees = true) := by decide +kernel
theorem great_reach (h5 : n ≤ 5) (k : Nat) : (S.li k .one).reach n ∧ S.rooted.reach n ∧ S.trees.reach n := by
  obtain ⟨_, _, o3, o4⟩ := one_units n (by omega)
  exact ⟨.inr ⟨trivial, (bd4_of o3).bd⟩, trivial, (bd4_of o4).bd⟩
end
end ME
end
section
set_option Elab.async false
set_option linter.all false
set_option maxRecDepth 100000
set_option maxHeartbeats 4000000
namespace ME
open PySem L2 MW
local macro_rules | `(tactic| walk_at "norm1") => `(tactic| dsimp only [Then, LoopP, FnPost, FnPostS])
local macro_rules | `(tactic| walk_at "mul") => `(tactic| (first
  | exact Or.inl ⟨by omega, by omega⟩
  | exact Or.inr ⟨by omega, by omega⟩))
local macro_rules | `(tactic| walk_at "we") => `(tactic| (first
  | ((with_reducible refine we_var (d := ?d) ?he ?_); (case he => exact rfl))
  | with_reducible refine we_int ?_
  | with_reducible refine we_str ?_
  | with_reducible refine we_op ?_
  | with_reducible refine we_cl ?_
  | with_reducible refine we_tup ?_
  | with_reducible refine we_bl ?_
  | with_reducible refine we_non ?_
  | with_reducible refine we_if ?_
  | ((with_reducible refine we_lenO (ds := ?ds) ?he ?_); (case he => exact rfl))
  | with_reducible refine we_len ?_
  | with_reducible refine we_int1 ?_
  | with_reducible refine we_andV ?_
  | with_reducible refine we_orV ?_
  | with_reducible refine we_notV ?_
  | with_reducible refine we_neg ?_
  | with_reducible refine we_chain ?_
  | with_reducible refine we_dget ?_
  | ((with_reducible refine we_dget2O (t := ?t) ?he ?_); (case he => exact rfl))
  | ((with_reducible refine we_dget2I (t := ?t) ?he ?_); (case he => exact rfl))
  | with_reducible refine we_dget2 ?_
  | ((with_reducible refine we_isi ?ht ?_); (case ht => first | exact .inl rfl | exact .inr (.inl rfl) | exact .inr (.inr (.inl rfl)) | exact .inr (.inr (.inr rfl))))
  | ((with_reducible refine we_clS ?he ?_); (case he => exact rfl))
  | with_reducible refine we_max2 ?_
  | with_reducible refine we_dispT1 ?_
  | with_reducible refine we_dispT2 ?_
  | ((with_reducible refine we_tupOfO (ds := ?ds) ?he ?_); (case he => exact rfl))
  | with_reducible refine we_sumT ?_
  | with_reducible refine we_divmod ?_
  | with_reducible refine we_newT ?_))
local macro_rules | `(tactic| walk_at "op2") => `(tactic| (first
  | ((with_reducible refine o_ixT (d := ?d) ?he ?_); (case he => exact rfl))
  | with_reducible refine o_eqS ?_
  | with_reducible refine o_eqI ?_
  | with_reducible refine o_add ?_
  | with_reducible refine o_sub ?_
  | ((with_reducible refine o_inT (x := ?x) (xs := ?xs) ?hx ?hs ?_); (case hx => exact rfl); (case hs => exact rfl))
  | ((with_reducible refine o_mul ?hc ?_); (case hc => walk_at "mul"))
  | ((with_reducible refine o_mod ?hc ?_); (case hc => omega))
  | ((with_reducible refine o_div ?hc ?_); (case hc => exact ⟨by omega, by omega⟩))
  | with_reducible refine o_lt ?_
  | with_reducible refine o_le ?_
  | with_reducible refine o_gt ?_
  | with_reducible refine o_ge ?_
  | with_reducible refine o_neI ?_
  | ((with_reducible refine o_ixL (d := ?d) ?he ?_); (case he => exact rfl))
  | ((with_reducible refine o_inL (x := ?x) (xs := ?xs) ?hx ?hs ?_); (case hx => exact rfl); (case hs => exact rfl))
  | ((with_reducible refine o_catT ?hl ?_); (case hl => (simp only [List.length_cons, List.length_nil, List.length_append, List.length_map, List.length_replicate]; omega)))
  | ((with_reducible refine o_repTI ?h0 ?h1 ?_); (case h0 => omega); (case h1 => omega))
  | with_reducible refine o_isNT ?_))
local macro_rules | `(tactic| walk_at "wt") => `(tactic| (first
  | with_reducible refine wt_test ?_
  | with_reducible refine wt_B ?_
  | with_reducible refine wt_not ?_
  | with_reducible refine wt_and ?_
  | with_reducible refine wt_or ?_))
local macro_rules | `(tactic| walk_at "ws") => `(tactic| (first
  | with_reducible refine ws_seq ?_
  | with_reducible refine ws_asg ?_
  | with_reducible refine ws_if ?_
  | with_reducible refine ws_ret ?_
  | with_reducible refine ws_next ?_
  | with_reducible refine ws_drop ?_
  | with_reducible refine ws_par ?_
  | ((with_reducible refine ws_asg2 ?hn ?_); (case hn => rfl))))
local macro_rules | `(tactic| walk_at "no") => `(tactic| first
  | (intro hb; exact Bool.noConfusion (show (true : Bool) = false from hb))
  | (intro hb; exact Bool.noConfusion (show (false : Bool) = true from hb)))
local macro_rules | `(tactic| walk_at "br") => `(tactic| first
  | (refine ⟨?_, ?no⟩; (case no => walk_at "no"); (intro _))
  | (refine ⟨?no, ?_⟩; (case no => walk_at "no"); (intro _)))
local macro_rules | `(tactic| walk_at "ex") => `(tactic| first
  | (refine ⟨_, rfl, ?_⟩)
  | (refine ⟨_, _, rfl, rfl, ?_⟩)
  | (refine ⟨_, _, rfl, ?_⟩)
  | (refine ⟨_, _, _, rfl, ?_⟩)
  | (refine ⟨_, _, _, _, rfl, ?_⟩)
  | (refine ⟨_, .inr rfl, ?_⟩)
  | (refine ⟨_, .inl rfl, ?_⟩))
local macro_rules | `(tactic| walk_at "r") => `(tactic| repeat (first
  | ((with_reducible show MW.WE _ _ _ _ _); walk_at "we")
  | ((with_reducible show MW.Op2 _ _ _ _ _ _ _); walk_at "op2")
  | ((with_reducible show MW.WS _ _ _ _ _); walk_at "ws")
  | ((with_reducible show MW.WA _ _ _ _ _); first | with_reducible refine wa_cons ?_ | with_reducible refine wa_nil ?_)
  | ((with_reducible show MW.WT _ _ _ _ _); walk_at "wt")
  | ((with_reducible show Exists _); walk_at "ex")
  | ((with_reducible show And _ _); first | walk_at "br" | (refine ⟨by decide, ?_⟩) | (refine ⟨Nat.le_of_ble_eq_true rfl, ?_⟩) | (refine ⟨.inl ⟨_, rfl⟩, ?_⟩) | (refine ⟨.inr (.inl ⟨_, rfl⟩), ?_⟩) | (refine ⟨.inr (.inr ⟨_, rfl⟩), ?_⟩))
  | walk_at "norm1"
  | walk_at "ex"))
local macro_rules | `(tactic| walk_at "q") => `(tactic| repeat (first
  | ((with_reducible show MW.WE _ _ _ _ _); first | with_reducible refine we_wl (wl_cat ?_) | with_reducible refine we_wl (wl_lst ?_) | walk_at "we")
  | ((with_reducible show MW.Op2 _ _ _ _ _ _ _); walk_at "op2")
  | ((with_reducible show MW.WS _ _ _ _ _); walk_at "ws")
  | ((with_reducible show MW.WA _ _ _ _ _); first | with_reducible refine wa_cons ?_ | with_reducible refine wa_nil ?_)
  | ((with_reducible show MW.WT _ _ _ _ _); walk_at "wt")
  | ((with_reducible show Exists _); walk_at "ex")
  | ((with_reducible show And _ _); first | walk_at "br" | (refine ⟨by decide, ?_⟩) | (refine ⟨Nat.le_of_ble_eq_true rfl, ?_⟩) | (refine ⟨.inl ⟨_, rfl⟩, ?_⟩) | (refine ⟨.inr (.inl ⟨_, rfl⟩), ?_⟩) | (refine ⟨.inr (.inr ⟨_, rfl⟩), ?_⟩))
  | walk_at "norm1"
  | walk_at "ex"))
local macro_rules | `(tactic| walk_at "le") => `(tactic| ((try refine ⟨rfl, ?_⟩); repeat (first | exact Le.nil | refine Le.eq ?_ | refine Le.any ?_)))

theorem sc_mixed : FnScope ["_law_cell", "_law_k"] ["_law_cell", "_law_k"] (defScope s_mixed) := ⟨rfl, rfl, rfl, by decide +kernel, rfl, by decide +kernel, by decide +kernel⟩
def sp_mixed : SpecD := fun ds R => ∃ (c k : Int), ds = [.int c, .int k] ∧ -1000000 ≤ k ∧ k ≤ 1000000 ∧ R (.int (mixV c k))
theorem ok_mixed {P : Program} {w : World} {K : PySem.W.Frag} {mg : Str → Option Value} {base h : Heap} (T : Tx K mg h)  :
    Ok P w K mg base "_law_mixed" ["_law_cell", "_law_k"] 1 (SpP K sp_mixed) := by
  obtain ⟨fd, F⟩ := T.c.def_ 30 (d := d_mixed) rfl
  have F : FnP K "_law_mixed" s_mixed (He.ga K "_law_mixed") fd := F
  have len : ∀ ds R, sp_mixed ds R → ds.length = 2 := (fun ds R h => by obtain ⟨_, _, rfl, _⟩ := h; rfl)
  refine Ok.of F (He.glo_ok T.X T.G (T.c.fact 30 (f := .glo "_law_mixed") rfl)) (FunD.bindsN F fun _ _ _ _ _ _ us hl => match us, hl with | [_, _], _ => rfl)
    (FunD.ok F sc_mixed (fun vs H Q E h => lenP (n := 2) h len) (fun cdv A outer s H vs Q E hr hq => ⟨_, PSs.nox (pss_cons (ps_set (i := 0) sc_mixed.nd rfl (by first | exact .inl rfl | exact .inr rfl) (pe_op op_mod (pe_callTy call_int1 (by rfl) T.int_ (by decide +kernel) (pa_cons (pv 0) pa_nil)) pe_int))
    (pss_one (ps_ret (pe_op op_mod (pe_op op_mul (pe_op op_mod (pe_op op_add (pe_op op_add (pe_op op_mul (pv 0) (pe_op op_add pe_int (pe_op op_mul (pe_op op_mul pe_int (pv 1)) (pv 1)))) (pe_op op_mul pe_int (pv 1))) pe_int) pe_int) pe_int) pe_int)))), ?_⟩))
  refine fn_run (n := 2) hq len (by decide) fun ds R hs => ?_
  try dsimp only [cxOf]
  obtain ⟨c, k, rfl, h1, h2, hR⟩ := hs
  show WS K _ 0 [.sh _, .sh _] _
  walk_at "r"
  exact hR
theorem sc_ways : FnScope ["_law_limit", "_law_size_here", "_law_found", "_law_k"] ["_law_limit", "_law_size_here"] (defScope s_ways) := ⟨rfl, rfl, rfl, by decide +kernel, rfl, by decide +kernel, by decide +kernel⟩
def sp_ways : SpecD := fun ds R => ∃ (l : Int) (k : Nat), ds = [.int l, .int k] ∧ k ≤ 12 ∧ -1000000 ≤ l ∧ l ≤ 1000000000000000000 ∧ R (.int (wys l k))
theorem ok_ways {P : Program} {w : World} {K : PySem.W.Frag} {mg : Str → Option Value} {base h : Heap} (T : Tx K mg h)  :
    Ok P w K mg base "_law_ways" ["_law_limit", "_law_size_here"] 1 (SpP K sp_ways) := by
  obtain ⟨fd, F⟩ := T.c.def_ 40 (d := d_ways) rfl
  have F : FnP K "_law_ways" s_ways (He.ga K "_law_ways") fd := F
  have len : ∀ ds R, sp_ways ds R → ds.length = 2 := (fun ds R h => by obtain ⟨_, _, rfl, _⟩ := h; rfl)
  refine Ok.of F (He.glo_ok T.X T.G (T.c.fact 40 (f := .glo "_law_ways") rfl)) (FunD.bindsN F fun _ _ _ _ _ _ us hl => match us, hl with | [_, _], _ => rfl)
    (FunD.ok F sc_ways (fun vs H Q E h => lenP (n := 2) h len) (fun cdv A outer s H vs Q E hr hq => ⟨_, PSs.nox (pss_cons (ps_set (i := 2) sc_ways.nd rfl (by first | exact .inl rfl | exact .inr rfl) pe_int)
    (pss_cons (ps_for PassesOwn.never (by rfl) (pi_range1 (by rfl) T.range_ (pa_cons (pv 1) pa_nil)) (pg_name (i := 3) sc_ways.nd rfl (by first | exact .inl rfl | exact .inr rfl)) (pss_one (ps_set (i := 2) sc_ways.nd rfl (by first | exact .inl rfl | exact .inr rfl) (pe_op op_fdiv (pe_op op_mul (pv 2) (pe_callB (call_max2 (by rfl)) (by rfl) T.max_ (by decide +kernel) (pa_cons pe_int (pa_cons (pe_op op_sub (pv 0) (pv 3)) pa_nil)))) (pe_op op_add (pv 3) pe_int)))))
    (pss_one (ps_ret (pv 2))))), ?_⟩))
  refine fn_run (n := 2) hq len (by decide) fun ds R hs => ?_
  try dsimp only [cxOf]
  obtain ⟨l, k, rfl, h1, h2, h3, hR⟩ := hs
  show WS K _ 0 [.sh _, .sh _, .any, .any] _
  walk_at "r"
  refine ws_rng1 mono_then ?_
  walk_at "r"
  refine ⟨by omega, by omega, fun j => [.sh (.int l), .sh (.int k), .sh (.int (wys l j)), .any], by walk_at "le", fun j hj => ?_, ?_⟩
  · walk_at "r"
    walk_at "le"
  · walk_at "r"
    exact hR
theorem sc_power : FnScope ["_law_base", "_law_many_so", "_law_found", "_law_step"] ["_law_base", "_law_many_so"] (defScope s_power) := ⟨rfl, rfl, rfl, by decide +kernel, rfl, by decide +kernel, by decide +kernel⟩
def sp_power : SpecD := fun ds R => ∃ (b t : Int), ds = [.int b, .int t] ∧ 0 ≤ t ∧ t ≤ 1000 ∧ 0 ≤ b ∧ b ≤ 1000000000000000000 ∧ R (.int (ipow b t.toNat))
theorem ok_power {P : Program} {w : World} {K : PySem.W.Frag} {mg : Str → Option Value} {base h : Heap} (T : Tx K mg h)  :
    Ok P w K mg base "_law_power" ["_law_base", "_law_many_so"] 1 (SpP K sp_power) := by
  obtain ⟨fd, F⟩ := T.c.def_ 41 (d := d_power) rfl
  have F : FnP K "_law_power" s_power (He.ga K "_law_power") fd := F
  have len : ∀ ds R, sp_power ds R → ds.length = 2 := (fun ds R h => by obtain ⟨_, _, rfl, _⟩ := h; rfl)
  refine Ok.of F (He.glo_ok T.X T.G (T.c.fact 41 (f := .glo "_law_power") rfl)) (FunD.bindsN F fun _ _ _ _ _ _ us hl => match us, hl with | [_, _], _ => rfl)
    (FunD.ok F sc_power (fun vs H Q E h => lenP (n := 2) h len) (fun cdv A outer s H vs Q E hr hq => ⟨_, PSs.nox (pss_cons (ps_set (i := 2) sc_power.nd rfl (by first | exact .inl rfl | exact .inr rfl) pe_int)
    (pss_cons (ps_for PassesOwn.never (by rfl) (pi_range1 (by rfl) T.range_ (pa_cons (pv 1) pa_nil)) (pg_name (i := 3) sc_power.nd rfl (by first | exact .inl rfl | exact .inr rfl)) (pss_one (ps_set (i := 2) sc_power.nd rfl (by first | exact .inl rfl | exact .inr rfl) (pe_op op_mul (pv 2) (pv 0)))))
    (pss_one (ps_ret (pv 2))))), ?_⟩))
  refine fn_run (n := 2) hq len (by decide) fun ds R hs => ?_
  try dsimp only [cxOf]
  obtain ⟨b, t, rfl, h0, h1, h2, h3, hR⟩ := hs
  show WS K _ 0 [.sh (.int b), .sh (.int t), .any, .any] _
  walk_at "r"
  refine ws_rng1 mono_then ?_
  walk_at "r"
  refine ⟨by omega, by omega, fun k => [.sh (.int b), .sh (.int t), .sh (.int (ipow b k)), .any], by walk_at "le", fun k hk => ?_, ?_⟩
  · walk_at "r"
    walk_at "le"
  · walk_at "r"
    exact hR
theorem sc_factorial : FnScope ["_law_top", "_law_found", "_law_k"] ["_law_top"] (defScope s_factorial) := ⟨rfl, rfl, rfl, by decide +kernel, rfl, by decide +kernel, by decide +kernel⟩
def sp_factorial : SpecD := fun ds R => ∃ (t : Int), ds = [.int t] ∧ 0 ≤ t ∧ t ≤ 1000 ∧ R (.int (facts t.toNat))
theorem ok_factorial {P : Program} {w : World} {K : PySem.W.Frag} {mg : Str → Option Value} {base h : Heap} (T : Tx K mg h)  :
    Ok P w K mg base "_law_factorial" ["_law_top"] 1 (SpP K sp_factorial) := by
  obtain ⟨fd, F⟩ := T.c.def_ 55 (d := d_factorial) rfl
  have F : FnP K "_law_factorial" s_factorial (He.ga K "_law_factorial") fd := F
  have len : ∀ ds R, sp_factorial ds R → ds.length = 1 := (fun ds R h => by obtain ⟨_, rfl, _⟩ := h; rfl)
  refine Ok.of F (He.glo_ok T.X T.G (T.c.fact 55 (f := .glo "_law_factorial") rfl)) (FunD.bindsN F fun _ _ _ _ _ _ us hl => match us, hl with | [_], _ => rfl)
    (FunD.ok F sc_factorial (fun vs H Q E h => lenP (n := 1) h len) (fun cdv A outer s H vs Q E hr hq => ⟨_, PSs.nox (pss_cons (ps_set (i := 1) sc_factorial.nd rfl (by first | exact .inl rfl | exact .inr rfl) pe_int)
    (pss_cons (ps_for PassesOwn.never (by rfl) (pi_range2 (by rfl) T.range_ (pa_cons pe_int (pa_cons (pe_op op_add (pv 0) pe_int) pa_nil))) (pg_name (i := 2) sc_factorial.nd rfl (by first | exact .inl rfl | exact .inr rfl)) (pss_one (ps_set (i := 1) sc_factorial.nd rfl (by first | exact .inl rfl | exact .inr rfl) (pe_op op_mul (pv 1) (pv 2)))))
    (pss_one (ps_ret (pv 1))))), ?_⟩))
  refine fn_run (n := 1) hq len (by decide) fun ds R hs => ?_
  try dsimp only [cxOf]
  obtain ⟨t, rfl, h0, h1, hR⟩ := hs
  show WS K _ 0 [.sh (.int t), .any, .any] _
  walk_at "r"
  refine ws_rng2 mono_then ?_
  walk_at "r"
  have e : (t + 1 - 1).toNat = t.toNat := by omega
  rw [e]
  refine ⟨by omega, by omega, fun k => [.sh (.int t), .sh (.int (facts k)), .any], by walk_at "le", fun k hk => ?_, ?_⟩
  · walk_at "r"
    have e2 : facts (k + 1) = facts k * (1 + (k : Int)) := by
      show facts k * ((k : Int) + 1) = _
      rw [Int.add_comm]
    rw [e2]
    walk_at "le"
  · walk_at "r"
    exact hR
theorem sc_listings : FnScope ["_law_content", "_law_found", "_law_one"] ["_law_content"] (defScope s_listings) := ⟨rfl, rfl, rfl, by decide +kernel, rfl, by decide +kernel, by decide +kernel⟩
def sp_listings : SpecD := fun ds R => ∃ (c : Ct), ds = [.ints c] ∧ (∀ z ∈ c, 0 ≤ z ∧ z ≤ 12) ∧ 0 ≤ c.sum ∧ c.sum ≤ 1000 ∧ R (.int (listings c))
theorem ok_listings {P : Program} {w : World} {K : PySem.W.Frag} {mg : Str → Option Value} {base h : Heap} (T : Tx K mg h) (o_factorial : Ok P w K mg base "_law_factorial" ["_law_top"] 1 (SpP K sp_factorial)) :
    Ok P w K mg base "_law_listings" ["_law_content"] 2 (SpP K sp_listings) := by
  obtain ⟨fd, F⟩ := T.c.def_ 56 (d := d_listings) rfl
  have F : FnP K "_law_listings" s_listings (He.ga K "_law_listings") fd := F
  have len : ∀ ds R, sp_listings ds R → ds.length = 1 := (fun ds R h => by obtain ⟨_, rfl, _⟩ := h; rfl)
  refine Ok.of F (He.glo_ok T.X T.G (T.c.fact 56 (f := .glo "_law_listings") rfl)) (FunD.bindsN F fun _ _ _ _ _ _ us hl => match us, hl with | [_], _ => rfl)
    (FunD.ok F sc_listings (fun vs H Q E h => lenP (n := 1) h len) (fun cdv A outer s H vs Q E hr hq => ⟨_, PSs.nox (pss_cons (ps_set (i := 1) sc_listings.nd rfl (by first | exact .inl rfl | exact .inr rfl) (pe_cl o_factorial (hr.mono (by omega)) (by rfl) (pa_cons (pe_callB (cr_sumT (by rfl)) (by rfl) T.sum_ (by decide +kernel) (pa_cons (pv 0) pa_nil)) pa_nil)))
    (pss_cons (ps_for PassesOwn.never (by rfl) (pi_tup (pv 0)) (pg_name (i := 2) sc_listings.nd rfl (by first | exact .inl rfl | exact .inr rfl)) (pss_one (ps_set (i := 1) sc_listings.nd rfl (by first | exact .inl rfl | exact .inr rfl) (pe_op op_fdiv (pv 1) (pe_cl o_factorial (hr.mono (by omega)) (by rfl) (pa_cons (pv 2) pa_nil))))))
    (pss_one (ps_ret (pv 1))))), ?_⟩))
  refine fn_run (n := 1) hq len (by decide) fun ds R hs => ?_
  try dsimp only [cxOf]
  obtain ⟨c, rfl, hc, h0, h1, hR⟩ := hs
  show WS K _ 0 [.sh (.ints c), .any, .any] _
  refine ws_seq (ws_asg (we_cl (wa_cons (we_sumT (we_var (d := .ints c) rfl ⟨c, rfl, ?_⟩)))))
  walk_at "r"
  refine ⟨h0, h1, ?_⟩
  walk_at "r"
  refine ws_tupf mono_then ?_
  refine we_var (d := .ints c) rfl ⟨_, rfl, ?_⟩
  refine ⟨fun k => [.sh (.ints c), .sh (.int ((c.take k).foldl (fun f x => f / facts x.toNat) (facts c.sum.toNat))), .any], by walk_at "le", fun k x hx => ?_, ?_⟩
  · obtain ⟨y, hy, rfl⟩ := mem_map_get hx
    have hb := hc y (List.mem_of_getElem? hy)
    obtain ⟨f0, f1⟩ := facts_bd y.toNat (by omega)
    walk_at "r"
    refine ⟨by omega, by omega, ?_⟩
    walk_at "r"
    rw [foldl_take hy]
    walk_at "le"
  · dsimp only
    rw [List.length_map, List.take_length]
    walk_at "r"
    exact hR
theorem sc_even : FnScope ["_law_n", "_law_total", "_law_row", "_law_step"] ["_law_n", "_law_total"] (defScope s_even) := ⟨rfl, rfl, rfl, by decide +kernel, rfl, by decide +kernel, by decide +kernel⟩
def sp_even : SpecD := fun ds R => ∃ (n t : Nat), ds = [.int n, .int t] ∧ 2 ≤ n ∧ n ≤ 5 ∧ t ≤ 1000 ∧ R (.ints (evenRow n t))
theorem ok_even {P : Program} {w : World} {K : PySem.W.Frag} {mg : Str → Option Value} {base h : Heap} (T : Tx K mg h)  :
    Ok P w K mg base "_law_even" ["_law_n", "_law_total"] 1 (SpP K sp_even) := by
  obtain ⟨fd, F⟩ := T.c.def_ 57 (d := d_even) rfl
  have F : FnP K "_law_even" s_even (He.ga K "_law_even") fd := F
  have len : ∀ ds R, sp_even ds R → ds.length = 2 := (fun ds R h => by obtain ⟨_, _, rfl, _⟩ := h; rfl)
  refine Ok.of F (He.glo_ok T.X T.G (T.c.fact 57 (f := .glo "_law_even") rfl)) (FunD.bindsN F fun _ _ _ _ _ _ us hl => match us, hl with | [_, _], _ => rfl)
    (FunD.ok F sc_even (fun vs H Q E h => lenP (n := 2) h len) (fun cdv A outer s H vs Q E hr hq => ⟨_, PSs.nox (pss_cons (ps_set (i := 2) sc_even.nd rfl (by first | exact .inl rfl | exact .inr rfl) (pe_op op_rep (pe_lst (pa_cons pe_int pa_nil)) (pv 0)))
    (pss_cons (ps_for PassesOwn.never (by rfl) (pi_range1 (by rfl) T.range_ (pa_cons (pv 1) pa_nil)) (pg_name (i := 3) sc_even.nd rfl (by first | exact .inl rfl | exact .inr rfl)) (pss_one (ps_asg (pe_op op_add (pe_ix ix_list (pv 2) (pe_op op_mod (pe_callTy call_int1 (by rfl) T.int_ (by decide +kernel) (pa_cons (pv 3) pa_nil)) (pv 0)) (fun _ _ => rfl)) pe_int) (pg_sub (pv 2) (pe_op op_mod (pe_callTy call_int1 (by rfl) T.int_ (by decide +kernel) (pa_cons (pv 3) pa_nil)) (pv 0)) set_list))))
    (pss_one (ps_ret (pe_callTy call_tuple_of (by rfl) T.tuple_ (by decide +kernel) (pa_cons (pv 2) pa_nil)))))), ?_⟩))
  refine fn_run (n := 2) hq len (by decide) fun ds R hs => ?_
  try dsimp only [cxOf]
  obtain ⟨n, t, rfl, h0, h1, h2, hR⟩ := hs
  have hl : ∀ k, (evenRow n k).length = n := fun k => by
    induction k with
    | zero => exact List.length_replicate
    | succ k ih =>
      show ((evenRow n k).set (k % n) ((evenRow n k).getD (k % n) 0 + 1)).length = n
      rw [List.length_set, ih]
  show WS K _ 0 [.sh _, .sh _, .any, .any] _
  refine ws_seq (ws_asgL (wl_rep ?_))
  refine we_wl (wl_lst ?_)
  walk_at "r"
  refine ⟨by omega, by omega, by simp only [List.length_cons, List.length_nil]; omega, ?_⟩
  rw [rep_ints]
  walk_at "r"
  refine ws_rng1 mono_then ?_
  walk_at "r"
  refine ⟨by omega, by omega, fun k => [.sh (.int n), .sh (.int t), .lst ((evenRow n k).map D.int), .any], by walk_at "le", fun k hk => ?_, ?_⟩
  · have hm : k % n < n := Nat.mod_lt _ (by omega)
    have hg : (evenRow n k)[k % n]? = some ((evenRow n k).getD (k % n) 0) := by
      rw [List.getD_eq_getElem?_getD, List.getElem?_eq_getElem (by rw [hl]; exact hm)]
      rfl
    refine ws_setL rfl ?_
    refine we_op (we_ixO (n := 0) rfl ?_)
    walk_at "r"
    rw [← Int.natCast_emod]
    refine ⟨_, _, rfl, at_int hg, ?_⟩
    walk_at "r"
    rw [← Int.natCast_emod]
    refine ⟨_, k % n, rfl, ixN_at (by rw [List.length_map, hl]; exact hm), ?_⟩
    have e : ((evenRow n k).map D.int).set (k % n) (.int ((evenRow n k).getD (k % n) 0 + 1)) = (evenRow n (k + 1)).map D.int := by
      show _ = ((evenRow n k).set (k % n) ((evenRow n k).getD (k % n) 0 + 1)).map D.int
      rw [List.map_set]
    walk_at "r"
    rw [e]
    walk_at "le"
  · walk_at "r"
    exact hR
end ME
end
section
set_option Elab.async false
set_option linter.all false
set_option maxRecDepth 100000
set_option maxHeartbeats 4000000
namespace ME
open PySem L2 MW
local macro_rules | `(tactic| walk_at "norm1") => `(tactic| dsimp only [Then, LoopP, FnPost, FnPostS])
local macro_rules | `(tactic| walk_at "mul") => `(tactic| (first
  | exact Or.inl ⟨by omega, by omega⟩
  | exact Or.inr ⟨by omega, by omega⟩))
local macro_rules | `(tactic| walk_at "we") => `(tactic| (first
  | ((with_reducible refine we_var (d := ?d) ?he ?_); (case he => exact rfl))
  | with_reducible refine we_int ?_
  | with_reducible refine we_str ?_
  | with_reducible refine we_op ?_
  | with_reducible refine we_cl ?_
  | with_reducible refine we_tup ?_
  | with_reducible refine we_bl ?_
  | with_reducible refine we_non ?_
  | with_reducible refine we_if ?_
  | ((with_reducible refine we_lenO (ds := ?ds) ?he ?_); (case he => exact rfl))
  | with_reducible refine we_len ?_
  | with_reducible refine we_int1 ?_
  | with_reducible refine we_andV ?_
  | with_reducible refine we_orV ?_
  | with_reducible refine we_notV ?_
  | with_reducible refine we_neg ?_
  | with_reducible refine we_chain ?_
  | with_reducible refine we_dget ?_
  | ((with_reducible refine we_dget2O (t := ?t) ?he ?_); (case he => exact rfl))
  | ((with_reducible refine we_dget2I (t := ?t) ?he ?_); (case he => exact rfl))
  | with_reducible refine we_dget2 ?_
  | ((with_reducible refine we_isi ?ht ?_); (case ht => first | exact .inl rfl | exact .inr (.inl rfl) | exact .inr (.inr (.inl rfl)) | exact .inr (.inr (.inr rfl))))
  | ((with_reducible refine we_clS ?he ?_); (case he => exact rfl))
  | with_reducible refine we_max2 ?_
  | with_reducible refine we_dispT1 ?_
  | with_reducible refine we_dispT2 ?_
  | ((with_reducible refine we_tupOfO (ds := ?ds) ?he ?_); (case he => exact rfl))
  | with_reducible refine we_sumT ?_
  | with_reducible refine we_divmod ?_
  | with_reducible refine we_newT ?_))
local macro_rules | `(tactic| walk_at "op2") => `(tactic| (first
  | ((with_reducible refine o_ixT (d := ?d) ?he ?_); (case he => exact rfl))
  | with_reducible refine o_eqS ?_
  | with_reducible refine o_eqI ?_
  | with_reducible refine o_add ?_
  | with_reducible refine o_sub ?_
  | ((with_reducible refine o_inT (x := ?x) (xs := ?xs) ?hx ?hs ?_); (case hx => exact rfl); (case hs => exact rfl))
  | ((with_reducible refine o_mul ?hc ?_); (case hc => walk_at "mul"))
  | ((with_reducible refine o_mod ?hc ?_); (case hc => omega))
  | ((with_reducible refine o_div ?hc ?_); (case hc => exact ⟨by omega, by omega⟩))
  | with_reducible refine o_lt ?_
  | with_reducible refine o_le ?_
  | with_reducible refine o_gt ?_
  | with_reducible refine o_ge ?_
  | with_reducible refine o_neI ?_
  | ((with_reducible refine o_ixL (d := ?d) ?he ?_); (case he => exact rfl))
  | ((with_reducible refine o_inL (x := ?x) (xs := ?xs) ?hx ?hs ?_); (case hx => exact rfl); (case hs => exact rfl))
  | ((with_reducible refine o_catT ?hl ?_); (case hl => (simp only [List.length_cons, List.length_nil, List.length_append, List.length_map, List.length_replicate]; omega)))
  | ((with_reducible refine o_repTI ?h0 ?h1 ?_); (case h0 => omega); (case h1 => omega))
  | with_reducible refine o_isNT ?_))
local macro_rules | `(tactic| walk_at "wt") => `(tactic| (first
  | with_reducible refine wt_test ?_
  | with_reducible refine wt_B ?_
  | with_reducible refine wt_not ?_
  | with_reducible refine wt_and ?_
  | with_reducible refine wt_or ?_))
local macro_rules | `(tactic| walk_at "ws") => `(tactic| (first
  | with_reducible refine ws_seq ?_
  | with_reducible refine ws_asg ?_
  | with_reducible refine ws_if ?_
  | with_reducible refine ws_ret ?_
  | with_reducible refine ws_next ?_
  | with_reducible refine ws_drop ?_
  | with_reducible refine ws_par ?_
  | ((with_reducible refine ws_asg2 ?hn ?_); (case hn => rfl))))
local macro_rules | `(tactic| walk_at "no") => `(tactic| first
  | (intro hb; exact Bool.noConfusion (show (true : Bool) = false from hb))
  | (intro hb; exact Bool.noConfusion (show (false : Bool) = true from hb)))
local macro_rules | `(tactic| walk_at "br") => `(tactic| first
  | (refine ⟨?_, ?no⟩; (case no => walk_at "no"); (intro _))
  | (refine ⟨?no, ?_⟩; (case no => walk_at "no"); (intro _)))
local macro_rules | `(tactic| walk_at "ex") => `(tactic| first
  | (refine ⟨_, rfl, ?_⟩)
  | (refine ⟨_, _, rfl, rfl, ?_⟩)
  | (refine ⟨_, _, rfl, ?_⟩)
  | (refine ⟨_, _, _, rfl, ?_⟩)
  | (refine ⟨_, _, _, _, rfl, ?_⟩)
  | (refine ⟨_, .inr rfl, ?_⟩)
  | (refine ⟨_, .inl rfl, ?_⟩))
local macro_rules | `(tactic| walk_at "r") => `(tactic| repeat (first
  | ((with_reducible show MW.WE _ _ _ _ _); walk_at "we")
  | ((with_reducible show MW.Op2 _ _ _ _ _ _ _); walk_at "op2")
  | ((with_reducible show MW.WS _ _ _ _ _); walk_at "ws")
  | ((with_reducible show MW.WA _ _ _ _ _); first | with_reducible refine wa_cons ?_ | with_reducible refine wa_nil ?_)
  | ((with_reducible show MW.WT _ _ _ _ _); walk_at "wt")
  | ((with_reducible show Exists _); walk_at "ex")
  | ((with_reducible show And _ _); first | walk_at "br" | (refine ⟨by decide, ?_⟩) | (refine ⟨Nat.le_of_ble_eq_true rfl, ?_⟩) | (refine ⟨.inl ⟨_, rfl⟩, ?_⟩) | (refine ⟨.inr (.inl ⟨_, rfl⟩), ?_⟩) | (refine ⟨.inr (.inr ⟨_, rfl⟩), ?_⟩))
  | walk_at "norm1"
  | walk_at "ex"))
local macro_rules | `(tactic| walk_at "le") => `(tactic| ((try refine ⟨rfl, ?_⟩); repeat (first | exact Le.nil | refine Le.eq ?_ | refine Le.any ?_)))

theorem sc_tuples : FnScope ["_law_limit", "_law_size_here", "_law_again", "_law_found", "_law_step", "_law_more", "_law_one", "_law_least", "_law_item"] ["_law_limit", "_law_size_here", "_law_again"] (defScope s_tuples) := ⟨rfl, rfl, rfl, by decide +kernel, rfl, by decide +kernel, by decide +kernel⟩
def sp_tuples : SpecD := fun ds R => ∃ (l k : Nat) (again : Bool), ds = [.int l, .int k, .bl again] ∧ (l + 1) ^ k ≤ 100000 ∧ l ≤ 1000 ∧ k ≤ 1000 ∧ R (.lst ((tuplesL l k again).map D.ints))
theorem ok_tuples {P : Program} {w : World} {K : PySem.W.Frag} {mg : Str → Option Value} {base h : Heap} (T : Tx K mg h)  :
    Ok P w K mg base "_law_tuples" ["_law_limit", "_law_size_here", "_law_again"] 1 (SpP K sp_tuples) := by
  obtain ⟨fd, F⟩ := T.c.def_ 34 (d := d_tuples) rfl
  have F : FnP K "_law_tuples" s_tuples (He.ga K "_law_tuples") fd := F
  have len : ∀ ds R, sp_tuples ds R → ds.length = 3 := (fun ds R h => by obtain ⟨_, _, _, rfl, _⟩ := h; rfl)
  refine Ok.of F (He.glo_ok T.X T.G (T.c.fact 34 (f := .glo "_law_tuples") rfl)) (FunD.bindsN F fun _ _ _ _ _ _ us hl => match us, hl with | [_, _, _], _ => rfl)
    (FunD.ok F sc_tuples (fun vs H Q E h => lenP (n := 3) h len) (fun cdv A outer s H vs Q E hr hq => ⟨_, PSs.nox (pss_cons (ps_set (i := 3) sc_tuples.nd rfl (by first | exact .inl rfl | exact .inr rfl) (pe_lst (pa_cons (pe_tup pa_nil) pa_nil)))
    (pss_cons (ps_for PassesOwn.never (by rfl) (pi_range1 (by rfl) T.range_ (pa_cons (pv 1) pa_nil)) (pg_name (i := 4) sc_tuples.nd rfl (by first | exact .inl rfl | exact .inr rfl)) (pss_cons (ps_set (i := 5) sc_tuples.nd rfl (by first | exact .inl rfl | exact .inr rfl) (pe_lst pa_nil))
    (pss_cons (ps_for PassesOwn.never (by rfl) (pi_list (pv 3)) (pg_name (i := 6) sc_tuples.nd rfl (by first | exact .inl rfl | exact .inr rfl)) (pss_cons (ps_set (i := 7) sc_tuples.nd rfl (by first | exact .inl rfl | exact .inr rfl) (pe_ifExp (pt_cmpR (op_eqD hr.units) (pv 6) (pe_tup pa_nil) (by rfl)) pe_int (pe_op op_add (pe_ix ix_tup (pv 6) (pe_un un_neg pe_int) (fun _ _ => rfl)) (pe_ifExp (pt_val (pv 2)) pe_int pe_int))))
    (pss_one (ps_for PassesOwn.never (by rfl) (pi_range2 (by rfl) T.range_ (pa_cons (pv 7) (pa_cons (pv 0) pa_nil))) (pg_name (i := 8) sc_tuples.nd rfl (by first | exact .inl rfl | exact .inr rfl)) (pss_one (ps_expr (pe_bm PySem.F.plainAttrs_list PySem.F.slot_list_append PySem.F.type_list_append mt_append (pv 5) (pa_cons (pe_op op_catA (pv 6) (pe_tup (pa_cons (pv 8) pa_nil))) pa_nil))))))))
    (pss_one (ps_set (i := 3) sc_tuples.nd rfl (by first | exact .inl rfl | exact .inr rfl) (pe_callTy call_list_of (by rfl) T.list_ (by decide +kernel) (pa_cons (pv 5) pa_nil)))))))
    (pss_one (ps_ret (pv 3))))), ?_⟩))
  refine fn_run (n := 3) hq len (by decide) fun ds R hs => ?_
  try dsimp only [cxOf]
  obtain ⟨l, k, again, rfl, hB, hl, hk, hR⟩ := hs
  show WS K _ 0 [.sh _, .sh _, .sh _, .any, .any, .any, .any, .any, .any] _
  refine ws_seq (ws_asg (we_wl (wl_lst ?_)))
  walk_at "r"
  refine ws_rng1 mono_then ?_
  walk_at "r"
  refine ⟨by omega, by omega, fun s => [.sh (.int l), .sh (.int k), .sh (.bl again), .sh (.lst ((tuplesL l s again).map D.ints)), .any, .any, .any, .any, .any], by walk_at "le", fun s hs' => ?_, ?_⟩
  · obtain ⟨t1, t2⟩ := tuples_ok l again s
    obtain ⟨_, t3⟩ := tuples_ok l again (s + 1)
    have t4 := tuples_item l again s
    have hS : tuplesL l (s + 1) again = (tuplesL l s again).flatMap (nextT l again) := rfl
    have hp := pow_le (b := l) (k := s + 1) (n := k) (by omega)
    have hp2 := pow_le (b := l) (k := s) (n := k) (by omega)
    dsimp only
    rw [hS] at t3 ⊢
    generalize tuplesL l s again = found at t1 t2 t3 t4
    refine ws_seq (ws_asgL (wl_lst (wa_nil ⟨by decide, ?_⟩)))
    walk_at "r"
    refine ws_lst mono_then ?_
    refine we_var (d := .lst (found.map D.ints)) rfl ⟨_, rfl, ?_⟩
    refine ⟨fun j => [.sh (.int l), .sh (.int k), .sh (.bl again), .sh (.lst (found.map D.ints)), .any, .lst (((found.take j).flatMap (nextT l again)).map D.ints), .any, .any, .any], by walk_at "le", fun j x hx => ?_, ?_⟩
    · obtain ⟨c, hc, rfl⟩ := mem_map_get hx
      have hE := t1 c (List.mem_of_getElem? hc)
      have hcl := t4 c (List.mem_of_getElem? hc)
      obtain ⟨b1, b2⟩ := least_ok (again := again) hE
      have hlen : ((found.take j).flatMap (nextT l again) ++ nextT l again c).length ≤ (found.flatMap (nextT l again)).length := by
        rw [← fm_take hc]
        have e : found = found.take (j + 1) ++ found.drop (j + 1) := (List.take_append_drop (j + 1) found).symm
        conv => rhs; rw [e]
        rw [List.flatMap_append, List.length_append]
        omega
      rw [List.length_append] at hlen
      have hnl : (nextT l again c).length = ((l : Int) - leastOf again c).toNat := by unfold nextT; rw [List.length_map, List.length_range]
      rw [hnl] at hlen
      dsimp only
      rw [fm_take hc]
      generalize (found.take j).flatMap (nextT l again) = pre at hlen
      refine ws_seq (ws_asg (WE.imp (P := fun d m1 => d = .int (leastOf again c) ∧ m1 = 0) ?_ ?_))
      · refine we_if ?_
        walk_at "r"
        refine o_eqT0 ?_
        walk_at "r"
        refine ⟨fun hb => ?_, fun hb => ?_⟩
        · have hb := of_decide_eq_true hb
          walk_at "r"
          exact ⟨by unfold leastOf; rw [if_pos hb], rfl⟩
        · have hb := of_decide_eq_false hb
          refine we_op (we_op ?_)
          walk_at "r"
          have hat : atI (c.map D.int) (-1) = some (.int (c.getLastD 0)) := by
            have e : c = c.dropLast ++ [c.getLastD 0] := by
              rw [List.getLastD_eq_getLast?, List.getLast?_eq_some_getLast hb]
              exact (List.dropLast_concat_getLast hb).symm
            conv => lhs; rw [e]
            rw [List.map_append]
            exact atI_last _ _
          refine o_ixT hat ?_
          refine we_ifI (x := 0) (y := 1) ?_
          walk_at "r"
          refine ⟨?_, ?_, ?_⟩
          · walk_at "r"
            exact ⟨rfl, rfl⟩
          · walk_at "r"
            exact ⟨rfl, rfl⟩
          · walk_at "r"
            exact ⟨by unfold leastOf; rw [if_neg hb], rfl⟩
      · rintro d m1 ⟨rfl, rfl⟩
        dsimp only [Then]
        refine ws_rng2 mono_loop ?_
        walk_at "r"
        refine ⟨by omega, by omega, by omega, by omega, fun i => [.sh (.int l), .sh (.int k), .sh (.bl again), .sh (.lst (found.map D.ints)), .any, .lst ((pre ++ (List.range i).map fun (z : Nat) => c ++ [leastOf again c + (z : Int)]).map D.ints), .sh (.ints c), .sh (.int (leastOf again c)), .any], ?_, fun i hi => ?_, ?_⟩
        · dsimp only
          rw [List.range_zero, List.map_nil, List.append_nil]
          walk_at "le"
        · refine ws_append rfl ?_
          walk_at "r"
          refine ⟨by rw [List.length_map, List.length_append, List.length_map, List.length_range]; omega, ?_⟩
          walk_at "r"
          have e : (pre ++ (List.range (i + 1)).map fun (z : Nat) => c ++ [leastOf again c + (z : Int)]).map D.ints = (pre ++ (List.range i).map fun (z : Nat) => c ++ [leastOf again c + (z : Int)]).map D.ints ++ [D.tup (c.map D.int ++ [.int (leastOf again c + (i : Int))])] := by
            simp only [List.range_succ, List.map_append, List.append_assoc, List.map_cons, List.map_nil, D.ints]
          rw [e]
          walk_at "le"
        · have e : pre ++ nextT l again c = pre ++ (List.range ((l : Int) - leastOf again c).toNat).map fun (z : Nat) => c ++ [leastOf again c + (z : Int)] := rfl
          rw [e]
          walk_at "r"
          walk_at "le"
    · dsimp only
      rw [List.length_map, List.take_length]
      dsimp only [Then]
      refine ws_asg (we_wl (wl_listOfO (ds := (found.flatMap (nextT l again)).map D.ints) rfl ?_))
      walk_at "r"
      walk_at "le"
  · walk_at "r"
    exact hR
theorem sc_rows : FnScope ["_law_some", "_law_size_here", "_law_found", "_law_step", "_law_more", "_law_one", "_law_item"] ["_law_some", "_law_size_here"] (defScope s_rows) := ⟨rfl, rfl, rfl, by decide +kernel, rfl, by decide +kernel, by decide +kernel⟩
def sp_rows : SpecD := fun ds R => ∃ (some : List D) (k : Nat) (src : D), ds = [src, .int k] ∧ (some.length + 1) ^ k ≤ 100000 ∧ some.length ≤ 1000 ∧ k ≤ 1000 ∧ (src = .lst some ∨ src = .tup some) ∧ R (.lst ((rowsL some k).map D.tup))
theorem ok_rows {P : Program} {w : World} {K : PySem.W.Frag} {mg : Str → Option Value} {base h : Heap} (T : Tx K mg h)  :
    Ok P w K mg base "_law_rows" ["_law_some", "_law_size_here"] 1 (SpP K sp_rows) := by
  obtain ⟨fd, F⟩ := T.c.def_ 35 (d := d_rows) rfl
  have F : FnP K "_law_rows" s_rows (He.ga K "_law_rows") fd := F
  have len : ∀ ds R, sp_rows ds R → ds.length = 2 := (fun ds R h => by obtain ⟨_, _, _, rfl, _⟩ := h; rfl)
  refine Ok.of F (He.glo_ok T.X T.G (T.c.fact 35 (f := .glo "_law_rows") rfl)) (FunD.bindsN F fun _ _ _ _ _ _ us hl => match us, hl with | [_, _], _ => rfl)
    (FunD.ok F sc_rows (fun vs H Q E h => lenP (n := 2) h len) (fun cdv A outer s H vs Q E hr hq => ⟨_, PSs.nox (pss_cons (ps_set (i := 2) sc_rows.nd rfl (by first | exact .inl rfl | exact .inr rfl) (pe_lst (pa_cons (pe_tup pa_nil) pa_nil)))
    (pss_cons (ps_for PassesOwn.never (by rfl) (pi_range1 (by rfl) T.range_ (pa_cons (pv 1) pa_nil)) (pg_name (i := 3) sc_rows.nd rfl (by first | exact .inl rfl | exact .inr rfl)) (pss_cons (ps_set (i := 4) sc_rows.nd rfl (by first | exact .inl rfl | exact .inr rfl) (pe_lst pa_nil))
    (pss_cons (ps_for PassesOwn.never (by rfl) (pi_list (pv 2)) (pg_name (i := 5) sc_rows.nd rfl (by first | exact .inl rfl | exact .inr rfl)) (pss_one (ps_for PassesOwn.never (by rfl) (pi_seq (pv 0)) (pg_name (i := 6) sc_rows.nd rfl (by first | exact .inl rfl | exact .inr rfl)) (pss_one (ps_expr (pe_bm PySem.F.plainAttrs_list PySem.F.slot_list_append PySem.F.type_list_append mt_append (pv 4) (pa_cons (pe_op op_catA (pv 5) (pe_tup (pa_cons (pv 6) pa_nil))) pa_nil)))))))
    (pss_one (ps_set (i := 2) sc_rows.nd rfl (by first | exact .inl rfl | exact .inr rfl) (pe_callTy call_list_of (by rfl) T.list_ (by decide +kernel) (pa_cons (pv 4) pa_nil)))))))
    (pss_one (ps_ret (pv 2))))), ?_⟩))
  refine fn_run (n := 2) hq len (by decide) fun ds R hs => ?_
  try dsimp only [cxOf]
  obtain ⟨some, k, src, rfl, hB, hl, hk, hsrc, hR⟩ := hs
  show WS K _ 0 [.sh _, .sh _, .any, .any, .any, .any, .any] _
  refine ws_seq (ws_asg (we_wl (wl_lst ?_)))
  walk_at "r"
  refine ws_rng1 mono_then ?_
  walk_at "r"
  refine ⟨by omega, by omega, fun s => [.sh src, .sh (.int k), .sh (.lst ((rowsL some s).map D.tup)), .any, .any, .any, .any], by walk_at "le", fun s hs' => ?_, ?_⟩
  · have t2 := rows_len some s
    have t3 := rows_len some (s + 1)
    have t4 := rows_item some s
    have hS : rowsL some (s + 1) = (rowsL some s).flatMap (nextR some) := rfl
    have hp := pow_le (b := some.length) (k := s + 1) (n := k) (by omega)
    dsimp only
    rw [hS] at t3 ⊢
    generalize rowsL some s = found at t2 t3 t4
    refine ws_seq (ws_asgL (wl_lst (wa_nil ⟨by decide, ?_⟩)))
    walk_at "r"
    refine ws_lst mono_then ?_
    refine we_var (d := .lst (found.map D.tup)) rfl ⟨_, rfl, ?_⟩
    refine ⟨fun j => [.sh src, .sh (.int k), .sh (.lst (found.map D.tup)), .any, .lst (((found.take j).flatMap (nextR some)).map D.tup), .any, .any], by walk_at "le", fun j x hx => ?_, ?_⟩
    · obtain ⟨c, hc, rfl⟩ := mem_map_get hx
      have hcl := t4 c (List.mem_of_getElem? hc)
      have hlen : ((found.take j).flatMap (nextR some) ++ nextR some c).length ≤ (found.flatMap (nextR some)).length := by
        rw [← fm_take hc]
        have e : found = found.take (j + 1) ++ found.drop (j + 1) := (List.take_append_drop (j + 1) found).symm
        conv => rhs; rw [e]
        rw [List.flatMap_append, List.length_append]
        omega
      rw [List.length_append] at hlen
      have hnl : (nextR some c).length = some.length := by unfold nextR; rw [List.length_map]
      rw [hnl] at hlen
      dsimp only
      rw [fm_take hc]
      generalize (found.take j).flatMap (nextR some) = pre at hlen
      refine ws_seqv mono_loop rfl hsrc ?_
      refine ⟨fun i => [.sh src, .sh (.int k), .sh (.lst (found.map D.tup)), .any, .lst ((pre ++ nextR (some.take i) c).map D.tup), .sh (.tup c), .any], ?_, fun i y hy => ?_, ?_⟩
      · dsimp only
        rw [List.take_zero]
        unfold nextR
        rw [List.map_nil, List.append_nil]
        walk_at "le"
      · have hil : i < some.length := (List.getElem?_eq_some_iff.mp hy).1
        refine ws_append rfl ?_
        walk_at "r"
        refine ⟨by unfold nextR; rw [List.length_map, List.length_append, List.length_map, List.length_take]; omega, ?_⟩
        walk_at "r"
        have e : (pre ++ nextR (some.take (i + 1)) c).map D.tup = (pre ++ nextR (some.take i) c).map D.tup ++ [D.tup (c ++ [y])] := by
          unfold nextR
          simp only [take_get hy, List.map_append, List.append_assoc, List.map_cons, List.map_nil]
        rw [e]
        walk_at "le"
      · dsimp only
        rw [List.take_length]
        walk_at "r"
        walk_at "le"
    · dsimp only
      rw [List.length_map, List.take_length]
      dsimp only [Then]
      refine ws_asg (we_wl (wl_listOfO (ds := (found.flatMap (nextR some)).map D.tup) rfl ?_))
      walk_at "r"
      walk_at "le"
  · walk_at "r"
    exact hR
theorem sc_meets : FnScope ["_law_n", "_law_found", "_law_low", "_law_high"] ["_law_n"] (defScope s_meets) := ⟨rfl, rfl, rfl, by decide +kernel, rfl, by decide +kernel, by decide +kernel⟩
def sp_meets : SpecD := fun ds R => ∃ (n : Nat), ds = [.int n] ∧ n ≤ 5 ∧ R (.lst ((meetsL n).map D.ints))
theorem ok_meets {P : Program} {w : World} {K : PySem.W.Frag} {mg : Str → Option Value} {base h : Heap} (T : Tx K mg h)  :
    Ok P w K mg base "_law_meets" ["_law_n"] 1 (SpP K sp_meets) := by
  obtain ⟨fd, F⟩ := T.c.def_ 36 (d := d_meets) rfl
  have F : FnP K "_law_meets" s_meets (He.ga K "_law_meets") fd := F
  have len : ∀ ds R, sp_meets ds R → ds.length = 1 := (fun ds R h => by obtain ⟨_, rfl, _⟩ := h; rfl)
  refine Ok.of F (He.glo_ok T.X T.G (T.c.fact 36 (f := .glo "_law_meets") rfl)) (FunD.bindsN F fun _ _ _ _ _ _ us hl => match us, hl with | [_], _ => rfl)
    (FunD.ok F sc_meets (fun vs H Q E h => lenP (n := 1) h len) (fun cdv A outer s H vs Q E hr hq => ⟨_, PSs.nox (pss_cons (ps_set (i := 1) sc_meets.nd rfl (by first | exact .inl rfl | exact .inr rfl) (pe_lst pa_nil))
    (pss_cons (ps_for PassesOwn.never (by rfl) (pi_range1 (by rfl) T.range_ (pa_cons (pv 0) pa_nil)) (pg_name (i := 2) sc_meets.nd rfl (by first | exact .inl rfl | exact .inr rfl)) (pss_one (ps_set (i := 1) sc_meets.nd rfl (by first | exact .inl rfl | exact .inr rfl) (pe_op op_cat (pv 1) (pe_lc (own := [("_law_high", 3)]) (by rfl) sc_meets.nd (pi_range2 (by rfl) T.range_ (pa_cons (pe_op op_add (pv 2) pe_int) (pa_cons (pv 0) pa_nil))) (blkOk_by (own := [("_law_high", 3)]) (by rfl)) (fun _ _ _ _ _ => (pg_name (i := 3) sc_meets.nd rfl (by first | exact .inl rfl | exact .inr rfl))) (fun _ _ _ _ _ => pts_nil) (fun _ _ _ _ _ => (pe_tup (pa_cons (pv 2) (pa_cons (pv 3) pa_nil)))))))))
    (pss_one (ps_ret (pv 1))))), ?_⟩))
  refine fn_run (n := 1) hq len (by decide) fun ds R hs => ?_
  try dsimp only [cxOf]
  obtain ⟨n, rfl, hn, hR⟩ := hs
  show WS K _ 0 [.sh _, .any, .any, .any] _
  refine ws_seq (ws_asg (we_wl (wl_lst (wa_nil ⟨by decide, ?_⟩))))
  walk_at "r"
  refine ws_rng1 mono_then ?_
  walk_at "r"
  have hlen : ∀ k, (iter (fun low found => found ++ meetRow n low) k []).length ≤ k * 5 := fun k => by
    induction k with
    | zero => exact Nat.le_refl _
    | succ k ih =>
      show ((iter (fun low found => found ++ meetRow n low) k []) ++ meetRow n k).length ≤ _
      have e : (meetRow n k).length = n - (k + 1) := by unfold meetRow; rw [List.length_map, List.length_range]
      rw [List.length_append, e]
      omega
  refine ⟨by omega, by omega, fun k => [.sh (.int n), .sh (.lst ((iter (fun low found => found ++ meetRow n low) k []).map D.ints)), .any, .any], by walk_at "le", fun k hk => ?_, ?_⟩
  · have h1 := hlen k
    have hS : iter (fun low found => found ++ meetRow n low) (k + 1) [] = iter (fun low found => found ++ meetRow n low) k [] ++ meetRow n k := rfl
    dsimp only
    rw [hS]
    generalize iter (fun low found => found ++ meetRow n low) k [] = found at h1
    refine ws_asg (we_wl (wl_cat ?_))
    walk_at "r"
    refine we_wl (wl_mapR2 ?hv ?hj ?_)
    case hv => exact any_of (by rfl)
    case hj => decide
    walk_at "r"
    refine ⟨by omega, by omega, by omega, by omega, fun d => .tup [.int k, d], fun z hz => ?_, ?_⟩
    · walk_at "r"
    · have e : (rng ((k : Int) + 1) n).map (fun d => D.tup [.int k, d]) = (meetRow n k).map D.ints := by
        unfold rng meetRow
        rw [List.map_map, List.map_map]
        have e2 : ((n : Int) - ((k : Int) + 1)).toNat = n - (k + 1) := by omega
        rw [e2]
        rfl
      rw [e]
      refine ⟨_, _, rfl, rfl, by rw [List.length_map, List.length_map]; unfold meetRow; rw [List.length_map, List.length_range]; omega, ?_⟩
      rw [← List.map_append]
      walk_at "r"
      walk_at "le"
  · walk_at "r"
    exact hR
theorem sc_joined : FnScope ["_law_n", "_law_ties", "_law_lot", "_law_step", "_law_one", "_law_other"] ["_law_n", "_law_ties"] (defScope s_joined) := ⟨rfl, rfl, rfl, by decide +kernel, rfl, by decide +kernel, by decide +kernel⟩
def sp_joined : SpecD := fun ds R => ∃ (n : Nat) (ties : List Ct), ds = [.int n, tiesD ties] ∧ n ≤ 5 ∧ ties.length ≤ 1000 ∧ (∀ t ∈ ties, t.length = 2) ∧ R (.bl (joinedB n ties))
theorem ok_joined {P : Program} {w : World} {K : PySem.W.Frag} {mg : Str → Option Value} {base h : Heap} (T : Tx K mg h)  :
    Ok P w K mg base "_law_joined" ["_law_n", "_law_ties"] 1 (SpP K sp_joined) := by
  obtain ⟨fd, F⟩ := T.c.def_ 37 (d := d_joined) rfl
  have F : FnP K "_law_joined" s_joined (He.ga K "_law_joined") fd := F
  have len : ∀ ds R, sp_joined ds R → ds.length = 2 := (fun ds R h => by obtain ⟨_, _, rfl, _⟩ := h; rfl)
  refine Ok.of F (He.glo_ok T.X T.G (T.c.fact 37 (f := .glo "_law_joined") rfl)) (FunD.bindsN F fun _ _ _ _ _ _ us hl => match us, hl with | [_, _], _ => rfl)
    (FunD.ok F sc_joined (fun vs H Q E h => lenP (n := 2) h len) (fun cdv A outer s H vs Q E hr hq => ⟨_, PSs.nox (pss_cons (ps_set (i := 2) sc_joined.nd rfl (by first | exact .inl rfl | exact .inr rfl) (pe_lst (pa_cons pe_int pa_nil)))
    (pss_cons (ps_for PassesOwn.never (by rfl) (pi_range1 (by rfl) T.range_ (pa_cons (pv 0) pa_nil)) (pg_name (i := 3) sc_joined.nd rfl (by first | exact .inl rfl | exact .inr rfl)) (pss_one (ps_for PassesOwn.never (by rfl) (pi_tup (pv 1)) (pg_tup (by rfl) (pgs_cons (pg_name (i := 4) sc_joined.nd rfl (by first | exact .inl rfl | exact .inr rfl)) (pgs_cons (pg_name (i := 5) sc_joined.nd rfl (by first | exact .inl rfl | exact .inr rfl)) pgs_nil))) (pss_one (ps_if (PW.pt (pw_and (pt_cmpR op_in_seq (pv 4) (pv 2) (by rfl)) (pw_and1 (pt_cmpR op_notIn_seq (pv 5) (pv 2) (by rfl))))) (pss_one (ps_expr (pe_bm PySem.F.plainAttrs_list PySem.F.slot_list_append PySem.F.type_list_append mt_append (pv 2) (pa_cons (pv 5) pa_nil)))) (pss_one (ps_if (PW.pt (pw_and (pt_cmpR op_in_seq (pv 5) (pv 2) (by rfl)) (pw_and1 (pt_cmpR op_notIn_seq (pv 4) (pv 2) (by rfl))))) (pss_one (ps_expr (pe_bm PySem.F.plainAttrs_list PySem.F.slot_list_append PySem.F.type_list_append mt_append (pv 2) (pa_cons (pv 4) pa_nil)))) pss_nil)))))))
    (pss_one (ps_ret (pe_cmpR op_eq (pe_callB call_len_seq (by rfl) T.len_ PySem.boot_len (pa_cons (pv 2) pa_nil)) (pv 0) (by rfl)))))), ?_⟩))
  refine fn_run (n := 2) hq len (by decide) fun ds R hs => ?_
  try dsimp only [cxOf]
  obtain ⟨n, ties, rfl, hn, hl, ht, hR⟩ := hs
  have one : ∀ (lot : Ct) (a b : Int), (joinOne lot a b).length ≤ lot.length + 1 := fun lot a b => by
    unfold joinOne
    split
    · rw [List.length_append]; exact Nat.le_refl _
    · split
      · rw [List.length_append]; exact Nat.le_refl _
      · omega
  have all : ∀ (ts : List Ct) (lot : Ct), (joinAll ts lot).length ≤ lot.length + ts.length := fun ts => by
    induction ts with
    | nil => exact fun lot => Nat.le_refl _
    | cons t ts ih =>
      intro lot
      have h1 := ih (joinOne lot (t.getD 0 0) (t.getD 1 0))
      have h2 := one lot (t.getD 0 0) (t.getD 1 0)
      show (joinAll ts (joinOne lot (t.getD 0 0) (t.getD 1 0))).length ≤ _
      rw [List.length_cons]
      omega
  have lots : ∀ k, (joinLot k ties).length ≤ 1 + k * 1000 := fun k => by
    induction k with
    | zero => exact Nat.le_refl _
    | succ k ih =>
      have := all ties (joinLot k ties)
      show (joinAll ties (joinLot k ties)).length ≤ _
      omega
  show WS K _ 0 [.sh _, .sh (.tup (ties.map D.ints)), .any, .any, .any, .any] _
  refine ws_seq (ws_asgL (wl_lst ?_))
  walk_at "r"
  refine ws_rng1 mono_then ?_
  walk_at "r"
  refine ⟨by omega, by omega, fun k => [.sh (.int n), .sh (.tup (ties.map D.ints)), .lst ((joinLot k ties).map D.int), .any, .any, .any], by walk_at "le", fun k hk => ?_, ?_⟩
  · have h1 := lots k
    have hS : joinLot (k + 1) ties = joinAll ties (joinLot k ties) := rfl
    dsimp only
    rw [hS]
    generalize joinLot k ties = lot at h1
    refine for_two rfl mono_loop (src_tup ?_)
    refine we_var (d := .tup (ties.map D.ints)) rfl ⟨_, rfl, ?_⟩
    refine ⟨fun j => [.sh (.int n), .sh (.tup (ties.map D.ints)), .lst ((joinAll (ties.take j) lot).map D.int), .any, .any, .any], by walk_at "le", fun j x hx => ?_, ?_⟩
    · obtain ⟨t, hj, rfl⟩ := mem_map_get hx
      have h2 := ht t (List.mem_of_getElem? hj)
      have hlen := all (ties.take j) lot
      rw [List.length_take] at hlen
      have hS2 : joinAll (ties.take (j + 1)) lot = joinOne (joinAll (ties.take j) lot) (t.getD 0 0) (t.getD 1 0) := by
        unfold joinAll
        rw [foldl_take hj]
      obtain ⟨a, b, rfl⟩ : ∃ a b, t = [a, b] := by
        match t, h2 with
        | [a, b], _ => exact ⟨a, b, rfl⟩
      refine ⟨.int a, .int b, rfl, ?_⟩
      dsimp only
      rw [hS2]
      show WS K _ _ _ _
      generalize joinAll (ties.take j) lot = lot2 at hlen
      have fl := flats_ints lot2
      have fin : ∀ lot3 : Ct, LeP 0 [.sh (.int n), .sh (.tup (ties.map D.ints)), .lst (lot3.map D.int), .any, .any, .any] 0 [.sh (.int n), .sh (.tup (ties.map D.ints)), .lst (lot3.map D.int), .any, .sh (.int a), .sh (.int b)] := fun lot3 => by walk_at "le"
      have app : ∀ x : Int, lot2.map D.int ++ [.int x] = (lot2 ++ [x]).map D.int := fun x => by rw [List.map_append]; rfl
      have second : WS K (tIfS (tAnd (tTest (tOp (rIn K false) (tVar 5) (tVar 2))) (tTest (tOp (rIn K true) (tVar 4) (tVar 2)))) (tDrop (tBM K "list" rAppend (tVar 2) (tCons (tVar 4) tNil))) tNext) 0 [.sh (.int n), .sh (.tup (ties.map D.ints)), .lst (lot2.map D.int), .any, .sh (.int a), .sh (.int b)]
          (LoopP (LeP 0 [.sh (.int n), .sh (.tup (ties.map D.ints)), .lst ((if b ∈ lot2 ∧ a ∉ lot2 then lot2 ++ [a] else lot2).map D.int), .any, .any, .any]) (LoopP (LeP 0 [.sh (.int n), .sh (.tup (ties.map D.ints)), .lst ((joinAll ties lot).map D.int), .any, .any, .any]) (Then K (tRet (tOp rEq (tCB (rLenS K) (tCons (tVar 2) tNil)) (tVar 0))) (FnPost R)))) := by
        refine ws_if (wt_and (wt_test (we_inO (ds := lot2.map D.int) (xs := lot2.map V.int) rfl fl ?_)))
        walk_at "r"
        rw [in_ints]
        refine ⟨fun hb => ?_, fun hb => ?_⟩
        · have hb := of_decide_eq_true hb
          refine wt_test (we_inO (ds := lot2.map D.int) (xs := lot2.map V.int) rfl fl ?_)
          walk_at "r"
          rw [in_ints]
          refine ⟨fun hc => ?_, fun hc => ?_⟩
          · have hc : a ∉ lot2 := by simpa using hc
            rw [if_pos ⟨hb, hc⟩]
            refine ws_append rfl ?_
            walk_at "r"
            refine ⟨by rw [List.length_map]; omega, ?_⟩
            rw [app]
            exact fin _
          · have hc : ¬ (b ∈ lot2 ∧ a ∉ lot2) := fun z => z.2 (by simpa using hc)
            rw [if_neg hc]
            walk_at "r"
            exact fin _
        · have hb := of_decide_eq_false hb
          rw [if_neg (fun z => hb z.1)]
          walk_at "r"
          exact fin _
      refine ws_if (wt_and (wt_test (we_inO (ds := lot2.map D.int) (xs := lot2.map V.int) rfl fl ?_)))
      walk_at "r"
      rw [in_ints]
      have eO : joinOne lot2 (([a, b] : Ct).getD 0 0) (([a, b] : Ct).getD 1 0) = if a ∈ lot2 ∧ b ∉ lot2 then lot2 ++ [b] else if b ∈ lot2 ∧ a ∉ lot2 then lot2 ++ [a] else lot2 := rfl
      rw [eO]
      refine ⟨fun hb => ?_, fun hb => ?_⟩
      · have hb := of_decide_eq_true hb
        refine wt_test (we_inO (ds := lot2.map D.int) (xs := lot2.map V.int) rfl fl ?_)
        walk_at "r"
        rw [in_ints]
        refine ⟨fun hc => ?_, fun hc => ?_⟩
        · have hc : b ∉ lot2 := by simpa using hc
          rw [if_pos ⟨hb, hc⟩]
          refine ws_append rfl ?_
          walk_at "r"
          refine ⟨by rw [List.length_map]; omega, ?_⟩
          rw [app]
          exact fin _
        · have hc : ¬ (a ∈ lot2 ∧ b ∉ lot2) := fun z => z.2 (by simpa using hc)
          rw [if_neg hc]
          exact second
      · have hb := of_decide_eq_false hb
        rw [if_neg (fun z => hb z.1)]
        exact br_f rfl second
    · dsimp only
      rw [List.length_map, List.take_length]
      walk_at "r"
      walk_at "le"
  · walk_at "r"
    have e : decide ((((joinLot (n : Int).toNat ties).map D.int).length : Int) = (n : Int)) = joinedB n ties := by
      rw [List.length_map, Int.toNat_natCast, Bool.eq_iff_iff]
      unfold joinedB
      rw [decide_eq_true_iff, decide_eq_true_iff]
      omega
    rw [e]
    exact hR
end ME
end
section
set_option Elab.async false
set_option linter.all false
set_option maxRecDepth 100000
set_option maxHeartbeats 4000000
namespace ME
open PySem L2 MW
local macro_rules | `(tactic| walk_at "norm1") => `(tactic| dsimp only [Then, LoopP, FnPost, FnPostS])
local macro_rules | `(tactic| walk_at "mul") => `(tactic| (first
  | exact Or.inl ⟨by omega, by omega⟩
  | exact Or.inr ⟨by omega, by omega⟩))
local macro_rules | `(tactic| walk_at "we") => `(tactic| (first
  | ((with_reducible refine we_var (d := ?d) ?he ?_); (case he => exact rfl))
  | with_reducible refine we_int ?_
  | with_reducible refine we_str ?_
  | with_reducible refine we_op ?_
  | with_reducible refine we_cl ?_
  | with_reducible refine we_tup ?_
  | with_reducible refine we_bl ?_
  | with_reducible refine we_non ?_
  | with_reducible refine we_if ?_
  | ((with_reducible refine we_lenO (ds := ?ds) ?he ?_); (case he => exact rfl))
  | with_reducible refine we_len ?_
  | with_reducible refine we_int1 ?_
  | with_reducible refine we_andV ?_
  | with_reducible refine we_orV ?_
  | with_reducible refine we_notV ?_
  | with_reducible refine we_neg ?_
  | with_reducible refine we_chain ?_
  | with_reducible refine we_dget ?_
  | ((with_reducible refine we_dget2O (t := ?t) ?he ?_); (case he => exact rfl))
  | ((with_reducible refine we_dget2I (t := ?t) ?he ?_); (case he => exact rfl))
  | with_reducible refine we_dget2 ?_
  | ((with_reducible refine we_isi ?ht ?_); (case ht => first | exact .inl rfl | exact .inr (.inl rfl) | exact .inr (.inr (.inl rfl)) | exact .inr (.inr (.inr rfl))))
  | ((with_reducible refine we_clS ?he ?_); (case he => exact rfl))
  | with_reducible refine we_max2 ?_
  | with_reducible refine we_dispT1 ?_
  | with_reducible refine we_dispT2 ?_
  | ((with_reducible refine we_tupOfO (ds := ?ds) ?he ?_); (case he => exact rfl))
  | with_reducible refine we_sumT ?_
  | with_reducible refine we_divmod ?_
  | with_reducible refine we_newT ?_))
local macro_rules | `(tactic| walk_at "op2") => `(tactic| (first
  | ((with_reducible refine o_ixT (d := ?d) ?he ?_); (case he => exact rfl))
  | with_reducible refine o_eqS ?_
  | with_reducible refine o_eqI ?_
  | with_reducible refine o_add ?_
  | with_reducible refine o_sub ?_
  | ((with_reducible refine o_inT (x := ?x) (xs := ?xs) ?hx ?hs ?_); (case hx => exact rfl); (case hs => exact rfl))
  | ((with_reducible refine o_mul ?hc ?_); (case hc => walk_at "mul"))
  | ((with_reducible refine o_mod ?hc ?_); (case hc => omega))
  | ((with_reducible refine o_div ?hc ?_); (case hc => exact ⟨by omega, by omega⟩))
  | with_reducible refine o_lt ?_
  | with_reducible refine o_le ?_
  | with_reducible refine o_gt ?_
  | with_reducible refine o_ge ?_
  | with_reducible refine o_neI ?_
  | ((with_reducible refine o_ixL (d := ?d) ?he ?_); (case he => exact rfl))
  | ((with_reducible refine o_inL (x := ?x) (xs := ?xs) ?hx ?hs ?_); (case hx => exact rfl); (case hs => exact rfl))
  | ((with_reducible refine o_catT ?hl ?_); (case hl => (simp only [List.length_cons, List.length_nil, List.length_append, List.length_map, List.length_replicate]; omega)))
  | ((with_reducible refine o_repTI ?h0 ?h1 ?_); (case h0 => omega); (case h1 => omega))
  | with_reducible refine o_isNT ?_))
local macro_rules | `(tactic| walk_at "wt") => `(tactic| (first
  | with_reducible refine wt_test ?_
  | with_reducible refine wt_B ?_
  | with_reducible refine wt_not ?_
  | with_reducible refine wt_and ?_
  | with_reducible refine wt_or ?_))
local macro_rules | `(tactic| walk_at "ws") => `(tactic| (first
  | with_reducible refine ws_seq ?_
  | with_reducible refine ws_asg ?_
  | with_reducible refine ws_if ?_
  | with_reducible refine ws_ret ?_
  | with_reducible refine ws_next ?_
  | with_reducible refine ws_drop ?_
  | with_reducible refine ws_par ?_
  | ((with_reducible refine ws_asg2 ?hn ?_); (case hn => rfl))))
local macro_rules | `(tactic| walk_at "no") => `(tactic| first
  | (intro hb; exact Bool.noConfusion (show (true : Bool) = false from hb))
  | (intro hb; exact Bool.noConfusion (show (false : Bool) = true from hb)))
local macro_rules | `(tactic| walk_at "br") => `(tactic| first
  | (refine ⟨?_, ?no⟩; (case no => walk_at "no"); (intro _))
  | (refine ⟨?no, ?_⟩; (case no => walk_at "no"); (intro _)))
local macro_rules | `(tactic| walk_at "ex") => `(tactic| first
  | (refine ⟨_, rfl, ?_⟩)
  | (refine ⟨_, _, rfl, rfl, ?_⟩)
  | (refine ⟨_, _, rfl, ?_⟩)
  | (refine ⟨_, _, _, rfl, ?_⟩)
  | (refine ⟨_, _, _, _, rfl, ?_⟩)
  | (refine ⟨_, .inr rfl, ?_⟩)
  | (refine ⟨_, .inl rfl, ?_⟩))
local macro_rules | `(tactic| walk_at "r") => `(tactic| repeat (first
  | ((with_reducible show MW.WE _ _ _ _ _); walk_at "we")
  | ((with_reducible show MW.Op2 _ _ _ _ _ _ _); walk_at "op2")
  | ((with_reducible show MW.WS _ _ _ _ _); walk_at "ws")
  | ((with_reducible show MW.WA _ _ _ _ _); first | with_reducible refine wa_cons ?_ | with_reducible refine wa_nil ?_)
  | ((with_reducible show MW.WT _ _ _ _ _); walk_at "wt")
  | ((with_reducible show Exists _); walk_at "ex")
  | ((with_reducible show And _ _); first | walk_at "br" | (refine ⟨by decide, ?_⟩) | (refine ⟨Nat.le_of_ble_eq_true rfl, ?_⟩) | (refine ⟨.inl ⟨_, rfl⟩, ?_⟩) | (refine ⟨.inr (.inl ⟨_, rfl⟩), ?_⟩) | (refine ⟨.inr (.inr ⟨_, rfl⟩), ?_⟩))
  | walk_at "norm1"
  | walk_at "ex"))
local macro_rules | `(tactic| walk_at "le") => `(tactic| ((try refine ⟨rfl, ?_⟩); repeat (first | exact Le.nil | refine Le.eq ?_ | refine Le.any ?_)))

theorem sc_trees : FnScope ["_law_n", "_law_meets_here", "_law_every", "_law_lot", "_law_ties", "_law_k"] ["_law_n"] (defScope s_trees) := ⟨rfl, rfl, rfl, by decide +kernel, rfl, by decide +kernel, by decide +kernel⟩
def sp_trees : SpecD := fun ds R => ∃ (n : Nat), ds = [.int n] ∧ 1 ≤ n ∧ n ≤ 4 ∧ R (.lst ((treesL n).map tiesD))
theorem ok_trees {P : Program} {w : World} {K : PySem.W.Frag} {mg : Str → Option Value} {base h : Heap} (T : Tx K mg h) (o_joined : Ok P w K mg base "_law_joined" ["_law_n", "_law_ties"] 1 (SpP K sp_joined)) (o_tuples : Ok P w K mg base "_law_tuples" ["_law_limit", "_law_size_here", "_law_again"] 1 (SpP K sp_tuples)) (o_meets : Ok P w K mg base "_law_meets" ["_law_n"] 1 (SpP K sp_meets)) :
    Ok P w K mg base "_law_trees" ["_law_n"] 2 (SpP K sp_trees) := by
  obtain ⟨fd, F⟩ := T.c.def_ 38 (d := d_trees) rfl
  have F : FnP K "_law_trees" s_trees (He.ga K "_law_trees") fd := F
  have len : ∀ ds R, sp_trees ds R → ds.length = 1 := (fun ds R h => by obtain ⟨_, rfl, _⟩ := h; rfl)
  refine Ok.of F (He.glo_ok T.X T.G (T.c.fact 38 (f := .glo "_law_trees") rfl)) (FunD.bindsN F fun _ _ _ _ _ _ us hl => match us, hl with | [_], _ => rfl)
    (FunD.ok F sc_trees (fun vs H Q E h => lenP (n := 1) h len) (fun cdv A outer s H vs Q E hr hq => ⟨_, PSs.nox (pss_cons (ps_set (i := 1) sc_trees.nd rfl (by first | exact .inl rfl | exact .inr rfl) (pe_cl o_meets (hr.mono (by omega)) (by rfl) (pa_cons (pv 0) pa_nil)))
    (pss_cons (ps_setLc (i := 2) (own := [("_law_lot", 3)]) (by rfl) sc_trees.nd rfl rfl (sw_true rfl rfl rfl (by decide +kernel)) (pi_list (pe_cl o_tuples (hr.mono (by omega)) (by rfl) (pa_cons (pe_callB call_len_seq (by rfl) T.len_ PySem.boot_len (pa_cons (pv 1) pa_nil)) (pa_cons (pe_op op_sub (pv 0) pe_int) (pa_cons pe_bl pa_nil))))) (blkOk_by (own := [("_law_lot", 3)]) (by rfl)) (fun _ _ _ _ _ => (pg_name (i := 3) sc_trees.nd rfl (by first | exact .inl rfl | exact .inr rfl))) (fun _ _ _ _ _ => pts_nil) (fun _ _ _ _ _ => (pe_callTy (call_tuple_ofK (K := K) rfl) (by rfl) T.tuple_ (by decide +kernel) (pa_cons (pe_lc (own := [("_law_k", 5)]) (by rfl) sc_trees.nd (pi_tupK (K := K) rfl (pv 3)) (blkOk_by (own := [("_law_k", 5)]) (by rfl)) (fun _ _ _ _ _ => (pg_name (i := 5) sc_trees.nd rfl (by first | exact .inl rfl | exact .inr rfl))) (fun _ _ _ _ _ => pts_nil) (fun _ _ _ _ _ => (pe_ix (ix_listK (K := K) rfl) (pv 1) (pv 5) (fun _ _ => rfl)))) pa_nil))))
    (pss_one (ps_ret (pe_lc (own := [("_law_ties", 4)]) (by rfl) sc_trees.nd (pi_list (pv 2)) (blkOk_by (own := [("_law_ties", 4)]) (by rfl)) (fun _ _ _ _ _ => (pg_name (i := 4) sc_trees.nd rfl (by first | exact .inl rfl | exact .inr rfl))) (fun _ _ _ _ _ => (pts_one (pt_val (pe_cl o_joined (hr.mono (by omega)) (by rfl) (pa_cons (pv 0) (pa_cons (pv 4) pa_nil)))))) (fun _ _ _ _ _ => (pv 4))))))), ?_⟩))
  refine fn_run (n := 1) hq len (by decide) fun ds R hs => ?_
  try dsimp only [cxOf]
  obtain ⟨n, rfl, h0, hn, hR⟩ := hs
  have hm := meets_len n (by omega)
  have hm2 := meets_two n (by omega)
  have hp := trees_pow n (by omega)
  obtain ⟨hE, hT⟩ := tuples_ok (meetsL n).length false (n - 1)
  have hI := tuples_item (meetsL n).length false (n - 1)
  show WS K _ 0 [.sh _, .any, .any, .any, .any, .any] _
  walk_at "r"
  refine ⟨by omega, ?_⟩
  refine ws_seq (ws_asg (we_wl (wl_mapL ?hv ?hj ?_)))
  case hv => exact any_of (by rfl)
  case hj => decide
  walk_at "r"
  refine ⟨(meetsL n).length, n - 1, false, by rw [List.length_map, Int.natCast_sub h0]; rfl, hp, by omega, by omega, ?_⟩
  walk_at "r"
  refine ⟨fun d => tiesD (pickL1 (meetsL n) [] (asInts d)), by rw [List.length_map]; omega, fun k x hx => ?_, ?_⟩
  · obtain ⟨lot, hl, rfl⟩ := mem_map_get hx
    have e1 := hE lot (List.mem_of_getElem? hl)
    have e2 := hI lot (List.mem_of_getElem? hl)
    dsimp only
    rw [asInts_ints]
    refine we_tupNew (wl_mapT ?hv ?hj ?_)
    case hv => exact any_of (by rfl)
    case hj => decide
    refine we_var (d := .ints lot) rfl ⟨_, rfl, fun d => D.ints ((meetsL n).getD (asInt d).toNat []), by rw [List.length_map, e2]; omega, fun j y hy => ?_, ?_⟩
    · obtain ⟨z, hz, rfl⟩ := mem_map_get hy
      obtain ⟨z0, z1⟩ := e1 z (List.mem_of_getElem? hz)
      walk_at "r"
      exact o_ixL (at_pick z0 z1) ⟨rfl, rfl⟩
    · refine ⟨rfl, ?_⟩
      show _ = D.tup ((pickL1 (meetsL n) [] lot).map D.ints)
      unfold pickL1
      rw [List.map_map, List.map_map]
      rfl
  · have e3 : ((tuplesL (meetsL n).length (n - 1) false).map D.ints).map (fun d => tiesD (pickL1 (meetsL n) [] (asInts d))) = ((tuplesL (meetsL n).length (n - 1) false).map (pickL1 (meetsL n) [])).map tiesD := by
      rw [List.map_map, List.map_map]
      apply List.map_congr_left
      intro c _
      show tiesD (pickL1 (meetsL n) [] (asInts (D.ints c))) = _
      rw [asInts_ints]
      rfl
    rw [e3]
    have hlen : ((tuplesL (meetsL n).length (n - 1) false).map (pickL1 (meetsL n) [])).length ≤ 100000 := by rw [List.length_map]; omega
    have hin : ∀ ts ∈ (tuplesL (meetsL n).length (n - 1) false).map (pickL1 (meetsL n) []), ts.length = n - 1 ∧ ∀ t ∈ ts, t.length = 2 := fun ts hts => by
      obtain ⟨lot, hl, rfl⟩ := List.mem_map.mp hts
      have e1 := hE lot hl
      have e2 := hI lot hl
      unfold pickL1
      refine ⟨by rw [List.length_map, e2], fun t ht => ?_⟩
      obtain ⟨z, hz, rfl⟩ := List.mem_map.mp ht
      obtain ⟨z0, z1⟩ := e1 z hz
      have hlt : z.toNat < (meetsL n).length := by omega
      rw [List.getD_eq_getElem?_getD, List.getElem?_eq_getElem hlt]
      exact hm2 _ (List.getElem_mem hlt)
    unfold treesL at hR
    generalize (tuplesL (meetsL n).length (n - 1) false).map (pickL1 (meetsL n) []) = every at hlen hin hR
    refine ws_ret (we_wl (wl_filtL ?hv ?hj ?_))
    case hv => exact any_of (by rfl)
    case hj => decide
    refine we_var (d := .lst (every.map tiesD)) rfl ⟨_, rfl, fun d => joinedB n ((kids d).map asInts), id, by rw [List.length_map]; omega, fun k x hx => ?_, fun k x hx hc => ?_, ?_⟩
    · obtain ⟨ts, hts, rfl⟩ := mem_map_get hx
      obtain ⟨g1, g2⟩ := hin ts (List.mem_of_getElem? hts)
      walk_at "r"
      refine ⟨by omega, by omega, g2, _, rfl, rfl, ?_⟩
      exact (congrArg (joinedB n) (kids_ties ts)).symm
    · refine we_var (d := x) rfl ⟨rfl, rfl⟩
    · have e4 : ((every.map tiesD).filter fun d => joinedB n ((kids d).map asInts)) = (every.filter (joinedB n)).map tiesD := by
        rw [List.filter_map]
        congr 1
        apply List.filter_congr
        intro ts _
        exact congrArg (joinedB n) (kids_ties ts)
      rw [e4, List.map_id]
      exact hR
end ME
end
section
set_option Elab.async false
set_option linter.all false
set_option maxRecDepth 100000
set_option maxHeartbeats 4000000
namespace ME
open PySem L2 MW
local macro_rules | `(tactic| walk_at "norm1") => `(tactic| dsimp only [Then, LoopP, FnPost, FnPostS])
local macro_rules | `(tactic| walk_at "mul") => `(tactic| (first
  | exact Or.inl ⟨by omega, by omega⟩
  | exact Or.inr ⟨by omega, by omega⟩))
local macro_rules | `(tactic| walk_at "we") => `(tactic| (first
  | ((with_reducible refine we_var (d := ?d) ?he ?_); (case he => exact rfl))
  | with_reducible refine we_int ?_
  | with_reducible refine we_str ?_
  | with_reducible refine we_op ?_
  | with_reducible refine we_cl ?_
  | with_reducible refine we_tup ?_
  | with_reducible refine we_bl ?_
  | with_reducible refine we_non ?_
  | with_reducible refine we_if ?_
  | ((with_reducible refine we_lenO (ds := ?ds) ?he ?_); (case he => exact rfl))
  | with_reducible refine we_len ?_
  | with_reducible refine we_int1 ?_
  | with_reducible refine we_andV ?_
  | with_reducible refine we_orV ?_
  | with_reducible refine we_notV ?_
  | with_reducible refine we_neg ?_
  | with_reducible refine we_chain ?_
  | with_reducible refine we_dget ?_
  | ((with_reducible refine we_dget2O (t := ?t) ?he ?_); (case he => exact rfl))
  | ((with_reducible refine we_dget2I (t := ?t) ?he ?_); (case he => exact rfl))
  | with_reducible refine we_dget2 ?_
  | ((with_reducible refine we_isi ?ht ?_); (case ht => first | exact .inl rfl | exact .inr (.inl rfl) | exact .inr (.inr (.inl rfl)) | exact .inr (.inr (.inr rfl))))
  | ((with_reducible refine we_clS ?he ?_); (case he => exact rfl))
  | with_reducible refine we_max2 ?_
  | with_reducible refine we_dispT1 ?_
  | with_reducible refine we_dispT2 ?_
  | ((with_reducible refine we_tupOfO (ds := ?ds) ?he ?_); (case he => exact rfl))
  | with_reducible refine we_sumT ?_
  | with_reducible refine we_divmod ?_
  | with_reducible refine we_newT ?_))
local macro_rules | `(tactic| walk_at "op2") => `(tactic| (first
  | ((with_reducible refine o_ixT (d := ?d) ?he ?_); (case he => exact rfl))
  | with_reducible refine o_eqS ?_
  | with_reducible refine o_eqI ?_
  | with_reducible refine o_add ?_
  | with_reducible refine o_sub ?_
  | ((with_reducible refine o_inT (x := ?x) (xs := ?xs) ?hx ?hs ?_); (case hx => exact rfl); (case hs => exact rfl))
  | ((with_reducible refine o_mul ?hc ?_); (case hc => walk_at "mul"))
  | ((with_reducible refine o_mod ?hc ?_); (case hc => omega))
  | ((with_reducible refine o_div ?hc ?_); (case hc => exact ⟨by omega, by omega⟩))
  | with_reducible refine o_lt ?_
  | with_reducible refine o_le ?_
  | with_reducible refine o_gt ?_
  | with_reducible refine o_ge ?_
  | with_reducible refine o_neI ?_
  | ((with_reducible refine o_ixL (d := ?d) ?he ?_); (case he => exact rfl))
  | ((with_reducible refine o_inL (x := ?x) (xs := ?xs) ?hx ?hs ?_); (case hx => exact rfl); (case hs => exact rfl))
  | ((with_reducible refine o_catT ?hl ?_); (case hl => (simp only [List.length_cons, List.length_nil, List.length_append, List.length_map, List.length_replicate]; omega)))
  | ((with_reducible refine o_repTI ?h0 ?h1 ?_); (case h0 => omega); (case h1 => omega))
  | with_reducible refine o_isNT ?_))
local macro_rules | `(tactic| walk_at "wt") => `(tactic| (first
  | with_reducible refine wt_test ?_
  | with_reducible refine wt_B ?_
  | with_reducible refine wt_not ?_
  | with_reducible refine wt_and ?_
  | with_reducible refine wt_or ?_))
local macro_rules | `(tactic| walk_at "ws") => `(tactic| (first
  | with_reducible refine ws_seq ?_
  | with_reducible refine ws_asg ?_
  | with_reducible refine ws_if ?_
  | with_reducible refine ws_ret ?_
  | with_reducible refine ws_next ?_
  | with_reducible refine ws_drop ?_
  | with_reducible refine ws_par ?_
  | ((with_reducible refine ws_asg2 ?hn ?_); (case hn => rfl))))
local macro_rules | `(tactic| walk_at "no") => `(tactic| first
  | (intro hb; exact Bool.noConfusion (show (true : Bool) = false from hb))
  | (intro hb; exact Bool.noConfusion (show (false : Bool) = true from hb)))
local macro_rules | `(tactic| walk_at "br") => `(tactic| first
  | (refine ⟨?_, ?no⟩; (case no => walk_at "no"); (intro _))
  | (refine ⟨?no, ?_⟩; (case no => walk_at "no"); (intro _)))
local macro_rules | `(tactic| walk_at "ex") => `(tactic| first
  | (refine ⟨_, rfl, ?_⟩)
  | (refine ⟨_, _, rfl, rfl, ?_⟩)
  | (refine ⟨_, _, rfl, ?_⟩)
  | (refine ⟨_, _, _, rfl, ?_⟩)
  | (refine ⟨_, _, _, _, rfl, ?_⟩)
  | (refine ⟨_, .inr rfl, ?_⟩)
  | (refine ⟨_, .inl rfl, ?_⟩))
local macro_rules | `(tactic| walk_at "r") => `(tactic| repeat (first
  | ((with_reducible show MW.WE _ _ _ _ _); walk_at "we")
  | ((with_reducible show MW.Op2 _ _ _ _ _ _ _); walk_at "op2")
  | ((with_reducible show MW.WS _ _ _ _ _); walk_at "ws")
  | ((with_reducible show MW.WA _ _ _ _ _); first | with_reducible refine wa_cons ?_ | with_reducible refine wa_nil ?_)
  | ((with_reducible show MW.WT _ _ _ _ _); walk_at "wt")
  | ((with_reducible show Exists _); walk_at "ex")
  | ((with_reducible show And _ _); first | walk_at "br" | (refine ⟨by decide, ?_⟩) | (refine ⟨Nat.le_of_ble_eq_true rfl, ?_⟩) | (refine ⟨.inl ⟨_, rfl⟩, ?_⟩) | (refine ⟨.inr (.inl ⟨_, rfl⟩), ?_⟩) | (refine ⟨.inr (.inr ⟨_, rfl⟩), ?_⟩))
  | walk_at "norm1"
  | walk_at "ex"))
local macro_rules | `(tactic| walk_at "q") => `(tactic| repeat (first
  | ((with_reducible show MW.WE _ _ _ _ _); first | with_reducible refine we_wl (wl_cat ?_) | with_reducible refine we_wl (wl_lst ?_) | walk_at "we")
  | ((with_reducible show MW.Op2 _ _ _ _ _ _ _); walk_at "op2")
  | ((with_reducible show MW.WS _ _ _ _ _); walk_at "ws")
  | ((with_reducible show MW.WA _ _ _ _ _); first | with_reducible refine wa_cons ?_ | with_reducible refine wa_nil ?_)
  | ((with_reducible show MW.WT _ _ _ _ _); walk_at "wt")
  | ((with_reducible show Exists _); walk_at "ex")
  | ((with_reducible show And _ _); first | walk_at "br" | (refine ⟨by decide, ?_⟩) | (refine ⟨Nat.le_of_ble_eq_true rfl, ?_⟩) | (refine ⟨.inl ⟨_, rfl⟩, ?_⟩) | (refine ⟨.inr (.inl ⟨_, rfl⟩), ?_⟩) | (refine ⟨.inr (.inr ⟨_, rfl⟩), ?_⟩))
  | walk_at "norm1"
  | walk_at "ex"))
local macro_rules | `(tactic| walk_at "le") => `(tactic| ((try refine ⟨rfl, ?_⟩); repeat (first | exact Le.nil | refine Le.eq ?_ | refine Le.any ?_)))

theorem sc_listed : FnScope ["_law_n", "_law_sort_here", "_law_word", "_law_one", "_law_found", "_law_far", "_law_some", "_law_pair", "_law_more", "_law_root", "_law_lot", "_law_ties", "_law_other", "_law_k", "_law_won"] ["_law_n", "_law_sort_here"] (defScope s_listed) := ⟨rfl, rfl, rfl, by decide +kernel, rfl, by decide +kernel, by decide +kernel⟩
def sp_listed (n : Nat) : SpecD := fun ds R => ∃ (s : S) (N : Nat), ds = [.int N, s.d] ∧ s.depth ≤ n ∧ s.ok = true ∧ 2 ≤ N ∧ N ≤ 4 ∧ s.lenOk N ∧ R (.lst (s.mem N))
theorem ok_listed {P : Program} {w : World} {K : PySem.W.Frag} {mg : Str → Option Value} {base h : Heap} (T : Tx K mg h) {n : Nat} (o_trees : Ok P w K mg base "_law_trees" ["_law_n"] 2 (SpP K sp_trees)) (o_meets : Ok P w K mg base "_law_meets" ["_law_n"] 1 (SpP K sp_meets)) (o_rows : Ok P w K mg base "_law_rows" ["_law_some", "_law_size_here"] 1 (SpP K sp_rows)) (o_tuples : Ok P w K mg base "_law_tuples" ["_law_limit", "_law_size_here", "_law_again"] 1 (SpP K sp_tuples)) (o_listed : Ok P w K mg base "_law_listed" ["_law_n", "_law_sort_here"] (n + 3) (SpP K (sp_listed n))) :
    Ok P w K mg base "_law_listed" ["_law_n", "_law_sort_here"] ((n + 1) + 3) (SpP K (sp_listed (n + 1))) := by
  obtain ⟨fd, F⟩ := T.c.def_ 39 (d := d_listed) rfl
  have F : FnP K "_law_listed" s_listed (He.ga K "_law_listed") fd := F
  have len : ∀ ds R, sp_listed (n + 1) ds R → ds.length = 2 := (fun ds R h => by obtain ⟨_, _, rfl, _⟩ := h; rfl)
  refine Ok.of F (He.glo_ok T.X T.G (T.c.fact 39 (f := .glo "_law_listed") rfl)) (FunD.bindsN F fun _ _ _ _ _ _ us hl => match us, hl with | [_, _], _ => rfl)
    (FunD.ok F sc_listed (fun vs H Q E h => lenP (n := 2) h len) (fun cdv A outer s H vs Q E hr hq => ⟨_, PSs.nox (pss_cons (ps_set (i := 2) sc_listed.nd rfl (by first | exact .inl rfl | exact .inr rfl) (pe_ix ix_tup (pv 1) pe_int (fun _ _ => rfl)))
    (pss_cons (ps_if (pt_cmpR op_eq (pv 2) pe_str (by rfl)) (pss_one (ps_ret (pe_lst pa_nil))) pss_nil)
    (pss_cons (ps_if (pt_cmpR op_eq (pv 2) pe_str (by rfl)) (pss_one (ps_ret (pe_listRg (by rfl) (by rfl) T.list_ (prg_1 (by rfl) T.range_ (pv 0))))) pss_nil)
    (pss_cons (ps_if (pt_cmpR op_in_seq (pv 2) (pe_tup (pa_cons pe_str (pa_cons pe_str pa_nil))) (by rfl)) (pss_one (ps_ret (pe_cl o_tuples (hr.mono (by omega)) (by rfl) (pa_cons (pv 0) (pa_cons (pe_ix ix_tup (pv 1) pe_int (fun _ _ => rfl)) (pa_cons (pe_cmpR op_eq (pv 2) pe_str (by rfl)) pa_nil)))))) pss_nil)
    (pss_cons (ps_if (pt_cmpR op_eq (pv 2) pe_str (by rfl)) (pss_one (ps_ret (pe_op op_cat (pe_lc (own := [("_law_one", 3)]) (by rfl) sc_listed.nd (pi_list (pe_cl o_listed (hr.mono (by omega)) (by rfl) (pa_cons (pv 0) (pa_cons (pe_ix ix_tup (pv 1) pe_int (fun _ _ => rfl)) pa_nil)))) (blkOk_by (own := [("_law_one", 3)]) (by rfl)) (fun _ _ _ _ _ => (pg_name (i := 3) sc_listed.nd rfl (by first | exact .inl rfl | exact .inr rfl))) (fun _ _ _ _ _ => pts_nil) (fun _ _ _ _ _ => (pe_tup (pa_cons pe_int (pa_cons (pv 3) pa_nil))))) (pe_lc (own := [("_law_one", 3)]) (by rfl) sc_listed.nd (pi_list (pe_cl o_listed (hr.mono (by omega)) (by rfl) (pa_cons (pv 0) (pa_cons (pe_ix ix_tup (pv 1) pe_int (fun _ _ => rfl)) pa_nil)))) (blkOk_by (own := [("_law_one", 3)]) (by rfl)) (fun _ _ _ _ _ => (pg_name (i := 3) sc_listed.nd rfl (by first | exact .inl rfl | exact .inr rfl))) (fun _ _ _ _ _ => pts_nil) (fun _ _ _ _ _ => (pe_tup (pa_cons pe_int (pa_cons (pv 3) pa_nil)))))))) pss_nil)
    (pss_cons (ps_set (i := 4) sc_listed.nd rfl (by first | exact .inl rfl | exact .inr rfl) (pe_lst pa_nil))
    (pss_cons (ps_if (pt_cmpR op_eq (pv 2) pe_str (by rfl)) (pss_cons (ps_set (i := 5) sc_listed.nd rfl (by first | exact .inl rfl | exact .inr rfl) (pe_cl o_listed (hr.mono (by omega)) (by rfl) (pa_cons (pv 0) (pa_cons (pe_ix ix_tup (pv 1) pe_int (fun _ _ => rfl)) pa_nil))))
    (pss_cons (ps_for PassesOwn.never (by rfl) (pi_list (pe_cl o_listed (hr.mono (by omega)) (by rfl) (pa_cons (pv 0) (pa_cons (pe_ix ix_tup (pv 1) pe_int (fun _ _ => rfl)) pa_nil)))) (pg_name (i := 3) sc_listed.nd rfl (by first | exact .inl rfl | exact .inr rfl)) (pss_one (ps_set (i := 4) sc_listed.nd rfl (by first | exact .inl rfl | exact .inr rfl) (pe_op op_cat (pv 4) (pe_lc (own := [("_law_other", 12)]) (by rfl) sc_listed.nd (pi_list (pv 5)) (blkOk_by (own := [("_law_other", 12)]) (by rfl)) (fun _ _ _ _ _ => (pg_name (i := 12) sc_listed.nd rfl (by first | exact .inl rfl | exact .inr rfl))) (fun _ _ _ _ _ => pts_nil) (fun _ _ _ _ _ => (pe_tup (pa_cons (pv 3) (pa_cons (pv 12) pa_nil)))))))))
    (pss_one (ps_ret (pv 4))))) pss_nil)
    (pss_cons (ps_if (pt_cmpR op_eq (pv 2) pe_str (by rfl)) (pss_one (ps_ret (pe_cl o_rows (hr.mono (by omega)) (by rfl) (pa_cons (pe_cl o_listed (hr.mono (by omega)) (by rfl) (pa_cons (pv 0) (pa_cons (pe_ix ix_tup (pv 1) pe_int (fun _ _ => rfl)) pa_nil))) (pa_cons (pe_ix ix_tup (pv 1) pe_int (fun _ _ => rfl)) pa_nil))))) pss_nil)
    (pss_cons (ps_if (pt_cmpR op_in_seq (pv 2) (pe_tup (pa_cons pe_str (pa_cons pe_str pa_nil))) (by rfl)) (pss_cons (ps_set (i := 6) sc_listed.nd rfl (by first | exact .inl rfl | exact .inr rfl) (pe_cl o_listed (hr.mono (by omega)) (by rfl) (pa_cons (pv 0) (pa_cons (pe_ix ix_tup (pv 1) pe_int (fun _ _ => rfl)) pa_nil))))
    (pss_one (ps_ret (pe_lc (own := [("_law_lot", 10)]) (by rfl) sc_listed.nd (pi_list (pe_cl o_tuples (hr.mono (by omega)) (by rfl) (pa_cons (pe_callB call_len_seq (by rfl) T.len_ PySem.boot_len (pa_cons (pv 6) pa_nil)) (pa_cons (pe_ix ix_tup (pv 1) pe_int (fun _ _ => rfl)) (pa_cons (pe_cmpR op_eq (pv 2) pe_str (by rfl)) pa_nil))))) (blkOk_by (own := [("_law_lot", 10)]) (by rfl)) (fun _ _ _ _ _ => (pg_name (i := 10) sc_listed.nd rfl (by first | exact .inl rfl | exact .inr rfl))) (fun _ _ _ _ _ => pts_nil) (fun _ _ _ _ _ => (pe_callTy (call_tuple_ofK (K := K) rfl) (by rfl) T.tuple_ (by decide +kernel) (pa_cons (pe_lc (own := [("_law_k", 13)]) (by rfl) sc_listed.nd (pi_tupK (K := K) rfl (pv 10)) (blkOk_by (own := [("_law_k", 13)]) (by rfl)) (fun _ _ _ _ _ => (pg_name (i := 13) sc_listed.nd rfl (by first | exact .inl rfl | exact .inr rfl))) (fun _ _ _ _ _ => pts_nil) (fun _ _ _ _ _ => (pe_ix (ix_listK (K := K) rfl) (pv 6) (pv 13) (fun _ _ => rfl)))) pa_nil))))))) pss_nil)
    (pss_cons (ps_if (pt_cmpR op_eq (pv 2) pe_str (by rfl)) (pss_cons (ps_set (i := 4) sc_listed.nd rfl (by first | exact .inl rfl | exact .inr rfl) (pe_lst (pa_cons (pe_tup pa_nil) pa_nil)))
    (pss_cons (ps_for PassesOwn.never (by rfl) (pi_list (pe_cl o_meets (hr.mono (by omega)) (by rfl) (pa_cons (pv 0) pa_nil))) (pg_name (i := 7) sc_listed.nd rfl (by first | exact .inl rfl | exact .inr rfl)) (pss_cons (ps_set (i := 8) sc_listed.nd rfl (by first | exact .inl rfl | exact .inr rfl) (pe_lst pa_nil))
    (pss_cons (ps_for PassesOwn.never (by rfl) (pi_list (pv 4)) (pg_name (i := 3) sc_listed.nd rfl (by first | exact .inl rfl | exact .inr rfl)) (pss_one (ps_set (i := 8) sc_listed.nd rfl (by first | exact .inl rfl | exact .inr rfl) (pe_op op_cat (pv 8) (pe_lc (own := [("_law_won", 14)]) (by rfl) sc_listed.nd (pi_list (pe_cl o_rows (hr.mono (by omega)) (by rfl) (pa_cons (pv 7) (pa_cons (pe_ix ix_tup (pv 1) pe_int (fun _ _ => rfl)) pa_nil)))) (blkOk_by (own := [("_law_won", 14)]) (by rfl)) (fun _ _ _ _ _ => (pg_name (i := 14) sc_listed.nd rfl (by first | exact .inl rfl | exact .inr rfl))) (fun _ _ _ _ _ => pts_nil) (fun _ _ _ _ _ => (pe_op (op_catAK (K := K) rfl) (pv 3) (pe_tup (pa_cons (pv 14) pa_nil)))))))))
    (pss_one (ps_set (i := 4) sc_listed.nd rfl (by first | exact .inl rfl | exact .inr rfl) (pv 8))))))
    (pss_one (ps_ret (pv 4))))) pss_nil)
    (pss_cons (ps_if (pt_cmpR op_eq (pv 2) pe_str (by rfl)) (pss_one (ps_ret (pe_cl o_trees (hr.mono (by omega)) (by rfl) (pa_cons (pv 0) pa_nil)))) pss_nil)
    (pss_cons (ps_for PassesOwn.never (by rfl) (pi_range1 (by rfl) T.range_ (pa_cons (pv 0) pa_nil)) (pg_name (i := 9) sc_listed.nd rfl (by first | exact .inl rfl | exact .inr rfl)) (pss_one (ps_set (i := 4) sc_listed.nd rfl (by first | exact .inl rfl | exact .inr rfl) (pe_op op_cat (pv 4) (pe_lc (own := [("_law_ties", 11)]) (by rfl) sc_listed.nd (pi_list (pe_cl o_trees (hr.mono (by omega)) (by rfl) (pa_cons (pv 0) pa_nil))) (blkOk_by (own := [("_law_ties", 11)]) (by rfl)) (fun _ _ _ _ _ => (pg_name (i := 11) sc_listed.nd rfl (by first | exact .inl rfl | exact .inr rfl))) (fun _ _ _ _ _ => pts_nil) (fun _ _ _ _ _ => (pe_tup (pa_cons (pv 9) (pa_cons (pv 11) pa_nil)))))))))
    (pss_one (ps_ret (pv 4))))))))))))))), ?_⟩))
  refine fn_run (n := 2) hq len (by decide) fun ds R hs => ?_
  try dsimp only [cxOf]
  obtain ⟨s, N, rfl, hd, hk, h2, hN, hl, hR⟩ := hs
  cases s with
  | none =>
    show WS K _ 0 [.sh _, .sh (.tup _), .any, .any, .any, .any, .any, .any, .any, .any, .any, .any, .any, .any, .any] _
    walk_at "q"
    exact hR
  | one =>
    show WS K _ 0 [.sh _, .sh (.tup _), .any, .any, .any, .any, .any, .any, .any, .any, .any, .any, .any, .any, .any] _
    walk_at "q"
    refine we_wl (wl_listRg1 ?_)
    walk_at "q"
    refine ⟨by omega, by omega, ?_⟩
    have e : rng 0 (N : Int) = S.one.mem N := by
      unfold rng
      show _ = (List.range N).map fun (i : Nat) => D.int i
      rw [Int.sub_zero, Int.toNat_natCast]
      congr 1
      funext k
      rw [Int.zero_add]
    rw [e]
    exact hR
  | sub k =>
    have hk2 : k ≤ 12 := of_decide_eq_true hk
    show WS K _ 0 [.sh _, .sh (.tup _), .any, .any, .any, .any, .any, .any, .any, .any, .any, .any, .any, .any, .any] _
    walk_at "q"
    refine ⟨hl, by omega, by omega, ?_⟩
    exact hR
  | bag k =>
    have hk2 : k ≤ 12 := of_decide_eq_true hk
    show WS K _ 0 [.sh _, .sh (.tup _), .any, .any, .any, .any, .any, .any, .any, .any, .any, .any, .any, .any, .any] _
    walk_at "q"
    refine ⟨hl, by omega, by omega, ?_⟩
    exact hR
  | ei a b =>
    simp only [S.depth] at hd
    have hk2 : a.ok = true ∧ b.ok = true := by simp only [S.ok, Bool.and_eq_true] at hk; exact hk
    show WS K _ 0 [.sh _, .sh (.tup _), .any, .any, .any, .any, .any, .any, .any, .any, .any, .any, .any, .any, .any] _
    walk_at "q"
    refine we_wl (wl_mapL ?hv ?hj ?_)
    case hv => exact any_of (by rfl)
    case hj => decide
    walk_at "q"
    refine ⟨by omega, hk2.1, h2, hN, hl.1, ?_⟩
    walk_at "q"
    refine ⟨fun d => .tup [.int 0, d], by have := hl.2.2.1; omega, fun k x hx => ?_, ?_⟩
    · walk_at "q"
    refine we_wl (wl_mapL ?hv ?hj ?_)
    case hv => exact any_of (by rfl)
    case hj => decide
    walk_at "q"
    refine ⟨by omega, hk2.2, h2, hN, hl.2.1, ?_⟩
    walk_at "q"
    refine ⟨fun d => .tup [.int 1, d], by have := hl.2.2.2; omega, fun k x hx => ?_, ?_⟩
    · walk_at "q"
    have h3 := hl.2.2.1
    have h4 := hl.2.2.2
    refine ⟨_, _, rfl, rfl, by rw [List.length_map, List.length_map]; omega, ?_⟩
    exact hR
  | pr a b =>
    simp only [S.depth] at hd
    have hk2 : a.ok = true ∧ b.ok = true := by simp only [S.ok, Bool.and_eq_true] at hk; exact hk
    have h3 := hl.2.2.1
    have h4 := hl.2.2.2
    show WS K _ 0 [.sh _, .sh (.tup _), .any, .any, .any, .any, .any, .any, .any, .any, .any, .any, .any, .any, .any] _
    walk_at "q"
    refine ⟨by omega, hk2.2, h2, hN, hl.2.1, ?_⟩
    walk_at "q"
    refine ws_lst mono_then ?_
    walk_at "q"
    refine ⟨by omega, hk2.1, h2, hN, hl.1, ?_⟩
    walk_at "q"
    refine ⟨fun k => [.sh (.int N), .sh (S.pr a b).d, .sh (.str "pair"), .any, .sh (.lst (((a.mem N).take k).flatMap fun x => (b.mem N).map fun y => D.tup [x, y])), .sh (.lst (b.mem N)), .any, .any, .any, .any, .any, .any, .any, .any, .any], by walk_at "le", fun k x hx => ?_, ?_⟩
    · have hk3 : k < (a.mem N).length := (List.getElem?_eq_some_iff.mp hx).1
      have hlen := fm_len (g := fun x => (b.mem N).map fun y => D.tup [x, y]) (b := 1000) (l := (a.mem N).take k) fun x _ => by rw [List.length_map]; exact h4
      rw [List.length_take] at hlen
      dsimp only
      rw [fm_take hx]
      generalize ((a.mem N).take k).flatMap (fun x => (b.mem N).map fun y => D.tup [x, y]) = pre at hlen
      walk_at "q"
      refine we_wl (wl_mapL ?hv ?hj ?_)
      case hv => exact any_of (by rfl)
      case hj => decide
      refine we_var (d := .lst (b.mem N)) rfl ⟨_, rfl, fun y => .tup [x, y], by omega, fun j y hy => ?_, ?_⟩
      · walk_at "q"
      · refine ⟨_, _, rfl, rfl, by rw [List.length_map]; omega, ?_⟩
        walk_at "q"
        walk_at "le"
    · dsimp only
      rw [List.take_length]
      walk_at "q"
      exact hR
  | li m a =>
    simp only [S.depth] at hd
    have hk2 : m ≤ 12 ∧ a.ok = true := by simp only [S.ok, Bool.and_eq_true, decide_eq_true_eq] at hk; exact hk
    show WS K _ 0 [.sh _, .sh (.tup _), .any, .any, .any, .any, .any, .any, .any, .any, .any, .any, .any, .any, .any] _
    walk_at "q"
    refine ⟨by omega, hk2.2, h2, hN, hl.1, ?_⟩
    walk_at "q"
    refine ⟨_, m, _, rfl, hl.2.2, hl.2.1, by omega, .inl rfl, ?_⟩
    walk_at "q"
    exact hR
  | fam m a =>
    simp only [S.depth] at hd
    have hk2 : m ≤ 12 ∧ a.ok = true := by simp only [S.ok, Bool.and_eq_true, decide_eq_true_eq] at hk; exact hk.1
    obtain ⟨l1, l2, l3⟩ := hl
    obtain ⟨hE, hT⟩ := tuples_ok (a.mem N).length false m
    have hI := tuples_item (a.mem N).length false m
    show WS K _ 0 [.sh _, .sh (.tup _), .any, .any, .any, .any, .any, .any, .any, .any, .any, .any, .any, .any, .any] _
    walk_at "q"
    refine ⟨by omega, hk2.2, h2, hN, l1, ?_⟩
    walk_at "q"
    refine we_wl (wl_mapL ?hv ?hj ?_)
    case hv => exact any_of (by rfl)
    case hj => decide
    walk_at "q"
    refine ⟨l3, l2, by omega, (tuplesL (a.mem N).length m false).map D.ints, rfl, fun d => D.tup (pickL1 (a.mem N) .non (asInts d)), by rw [List.length_map]; omega, fun k x hx => ?_, ?_⟩
    · obtain ⟨lot, hlt, rfl⟩ := mem_map_get hx
      have e1 := hE lot (List.mem_of_getElem? hlt)
      have e2 := hI lot (List.mem_of_getElem? hlt)
      dsimp only
      rw [asInts_ints]
      refine we_tupNew (wl_mapT ?hv ?hj ?_)
      case hv => exact any_of (by rfl)
      case hj => decide
      refine we_var (d := .ints lot) rfl ⟨_, rfl, fun d => (a.mem N).getD (asInt d).toNat .non, by rw [List.length_map, e2]; omega, fun j y hy => ?_, ?_⟩
      · obtain ⟨z, hz, rfl⟩ := mem_map_get hy
        obtain ⟨z0, z1⟩ := e1 z (List.mem_of_getElem? hz)
        walk_at "q"
        have hp := at_pick (f := id) (x := D.non) z0 z1
        rw [List.map_id] at hp
        exact o_ixL hp ⟨rfl, rfl⟩
      · refine ⟨rfl, ?_⟩
        show _ = D.tup (pickL1 (a.mem N) .non lot)
        unfold pickL1
        rw [List.map_map]
        rfl
    · have e3 : ((tuplesL (a.mem N).length m false).map D.ints).map (fun d => D.tup (pickL1 (a.mem N) .non (asInts d))) = (S.fam m a).mem N := by
        show _ = (tuplesL (a.mem N).length m false).map fun lot => D.tup (pickL1 (a.mem N) .non lot)
        rw [List.map_map]
        apply List.map_congr_left
        intro c _
        show D.tup (pickL1 (a.mem N) .non (asInts (D.ints c))) = _
        rw [asInts_ints]
      rw [e3]
      exact hR
  | heap m a =>
    simp only [S.depth] at hd
    have hk2 : m ≤ 12 ∧ a.ok = true := by simp only [S.ok, Bool.and_eq_true, decide_eq_true_eq] at hk; exact hk.1
    obtain ⟨l1, l2, l3⟩ := hl
    obtain ⟨hE, hT⟩ := tuples_ok (a.mem N).length true m
    have hI := tuples_item (a.mem N).length true m
    show WS K _ 0 [.sh _, .sh (.tup _), .any, .any, .any, .any, .any, .any, .any, .any, .any, .any, .any, .any, .any] _
    walk_at "q"
    refine ⟨by omega, hk2.2, h2, hN, l1, ?_⟩
    walk_at "q"
    refine we_wl (wl_mapL ?hv ?hj ?_)
    case hv => exact any_of (by rfl)
    case hj => decide
    walk_at "q"
    refine ⟨l3, l2, by omega, (tuplesL (a.mem N).length m true).map D.ints, rfl, fun d => D.tup (pickL1 (a.mem N) .non (asInts d)), by rw [List.length_map]; omega, fun k x hx => ?_, ?_⟩
    · obtain ⟨lot, hlt, rfl⟩ := mem_map_get hx
      have e1 := hE lot (List.mem_of_getElem? hlt)
      have e2 := hI lot (List.mem_of_getElem? hlt)
      dsimp only
      rw [asInts_ints]
      refine we_tupNew (wl_mapT ?hv ?hj ?_)
      case hv => exact any_of (by rfl)
      case hj => decide
      refine we_var (d := .ints lot) rfl ⟨_, rfl, fun d => (a.mem N).getD (asInt d).toNat .non, by rw [List.length_map, e2]; omega, fun j y hy => ?_, ?_⟩
      · obtain ⟨z, hz, rfl⟩ := mem_map_get hy
        obtain ⟨z0, z1⟩ := e1 z (List.mem_of_getElem? hz)
        walk_at "q"
        have hp := at_pick (f := id) (x := D.non) z0 z1
        rw [List.map_id] at hp
        exact o_ixL hp ⟨rfl, rfl⟩
      · refine ⟨rfl, ?_⟩
        show _ = D.tup (pickL1 (a.mem N) .non lot)
        unfold pickL1
        rw [List.map_map]
        rfl
    · have e3 : ((tuplesL (a.mem N).length m true).map D.ints).map (fun d => D.tup (pickL1 (a.mem N) .non (asInts d))) = (S.heap m a).mem N := by
        show _ = (tuplesL (a.mem N).length m true).map fun lot => D.tup (pickL1 (a.mem N) .non lot)
        rw [List.map_map]
        apply List.map_congr_left
        intro c _
        show D.tup (pickL1 (a.mem N) .non (asInts (D.ints c))) = _
        rw [asInts_ints]
      rw [e3]
      exact hR
  | rounds m =>
    have hk2 : 1 ≤ m ∧ m ≤ 2 := by simp only [S.ok, Bool.and_eq_true, decide_eq_true_eq] at hk; exact hk
    have hm := meets_len N (by omega)
    have hm2 := meets_two N (by omega)
    show WS K _ 0 [.sh _, .sh (.tup _), .any, .any, .any, .any, .any, .any, .any, .any, .any, .any, .any, .any, .any] _
    walk_at "q"
    refine ws_lst mono_then ?_
    walk_at "q"
    refine ⟨by omega, ?_⟩
    walk_at "q"
    refine ⟨fun k => [.sh (.int N), .sh (.tup [.str "rounds", .int m]), .sh (.str "rounds"), .any, .sh (.lst ((((meetsL N).take k).foldl (fun found pair => found.flatMap (roundStep m pair)) [[]]).map D.tup)), .any, .any, .any, .any, .any, .any, .any, .any, .any, .any], by walk_at "le", fun k x hx => ?_, ?_⟩
    · obtain ⟨pair, hp, rfl⟩ := mem_map_get hx
      have hp2 := hm2 pair (List.mem_of_getElem? hp)
      have hkl := (List.getElem?_eq_some_iff.mp hp).1
      have hlen := rounds_len hk2.2 ((meetsL N).take k) [[]] fun c hc => hm2 c (take_sub hc)
      have hlen2 := rounds_len hk2.2 ((meetsL N).take (k + 1)) [[]] fun c hc => hm2 c (take_sub hc)
      have p1 : 9 ^ ((meetsL N).take k).length ≤ 9 ^ 6 := Nat.pow_le_pow_right (by omega) (by rw [List.length_take]; omega)
      have p2 : 9 ^ ((meetsL N).take (k + 1)).length ≤ 9 ^ 6 := Nat.pow_le_pow_right (by omega) (by rw [List.length_take]; omega)
      rw [List.length_cons, List.length_nil] at hlen hlen2
      dsimp only
      rw [foldl_take hp] at hlen2 ⊢
      have hit := rounds_item (m := m) ((meetsL N).take k) [[]] 0 (fun r hr => by rw [List.mem_singleton.mp hr]; exact Nat.le_refl _)
      rw [List.length_take] at hit
      generalize ((meetsL N).take k).foldl (fun found pair => found.flatMap (roundStep m pair)) [[]] = found at hlen hlen2 hit
      walk_at "q"
      refine ws_lst mono_then ?_
      refine we_var (d := .lst (found.map D.tup)) rfl ⟨_, rfl, ?_⟩
      refine ⟨fun j => [.sh (.int N), .sh (.tup [.str "rounds", .int m]), .sh (.str "rounds"), .any, .sh (.lst (found.map D.tup)), .any, .any, .sh (.ints pair), .sh (.lst (((found.take j).flatMap (roundStep m pair)).map D.tup)), .any, .any, .any, .any, .any, .any], by walk_at "le", fun j y hy => ?_, ?_⟩
      · obtain ⟨one, ho, rfl⟩ := mem_map_get hy
        have hl3 : ((found.take j).flatMap (roundStep m pair) ++ roundStep m pair one).length ≤ (found.flatMap (roundStep m pair)).length := by
          rw [← fm_take ho]
          have e : found = found.take (j + 1) ++ found.drop (j + 1) := (List.take_append_drop (j + 1) found).symm
          conv => rhs; rw [e]
          rw [List.flatMap_append, List.length_append]
          omega
        rw [List.length_append] at hl3
        have hr1 := rows_len (pair.map D.int) m
        rw [List.length_map, hp2] at hr1
        have hpw : (2 + 1) ^ m ≤ (2 + 1) ^ 2 := Nat.pow_le_pow_right (by omega) hk2.2
        have hone : one.length ≤ 6 := by have := hit one (List.mem_of_getElem? ho); omega
        dsimp only
        rw [fm_take ho]
        have eR : roundStep m pair one = (rowsL (pair.map D.int) m).map fun won => one ++ [D.tup won] := rfl
        rw [eR] at hl3 ⊢
        rw [List.length_map] at hl3
        generalize (found.take j).flatMap (roundStep m pair) = pre at hl3
        walk_at "q"
        refine we_wl (wl_mapL ?hv ?hj ?_)
        case hv => exact any_of (by rfl)
        case hj => decide
        walk_at "q"
        refine ⟨pair.map D.int, m, _, rfl, by rw [List.length_map, hp2]; omega, by rw [List.length_map, hp2]; omega, by omega, .inr rfl, ?_⟩
        walk_at "q"
        refine ⟨fun won => D.tup (one ++ [won]), by rw [List.length_map]; omega, fun i z hz => ?_, ?_⟩
        · walk_at "q"
        · refine ⟨_, _, rfl, rfl, by rw [List.length_map, List.length_map, List.length_map]; omega, ?_⟩
          have e5 : pre.map D.tup ++ ((rowsL (pair.map D.int) m).map D.tup).map (fun won => D.tup (one ++ [won])) = (pre ++ (rowsL (pair.map D.int) m).map fun won => one ++ [D.tup won]).map D.tup := by
            rw [List.map_append, List.map_map, List.map_map]
            rfl
          rw [e5]
          walk_at "q"
          walk_at "le"
      · dsimp only
        rw [List.length_map, List.take_length]
        walk_at "q"
        walk_at "le"
    · dsimp only
      rw [List.length_map, List.take_length]
      walk_at "q"
      exact hR
  | trees =>
    show WS K _ 0 [.sh _, .sh (.tup _), .any, .any, .any, .any, .any, .any, .any, .any, .any, .any, .any, .any, .any] _
    walk_at "q"
    refine ⟨by omega, by omega, ?_⟩
    walk_at "q"
    exact hR
  | rooted =>
    have ht := treesL_len N (by omega)
    show WS K _ 0 [.sh _, .sh (.tup _), .any, .any, .any, .any, .any, .any, .any, .any, .any, .any, .any, .any, .any] _
    walk_at "q"
    refine ws_rng1 mono_then ?_
    walk_at "q"
    refine ⟨by omega, by omega, fun k => [.sh (.int N), .sh S.rooted.d, .sh (.str "rooted"), .any, .sh (.lst ((List.range k).flatMap fun (root : Nat) => (treesL N).map fun t => D.tup [.int root, tiesD t])), .any, .any, .any, .any, .any, .any, .any, .any, .any, .any], by walk_at "le", fun k hk => ?_, ?_⟩
    · have hlen := fm_len (g := fun (root : Nat) => (treesL N).map fun t => D.tup [.int root, tiesD t]) (b := 16) (l := List.range k) fun x _ => by rw [List.length_map]; exact ht
      rw [List.length_range] at hlen
      have eS : (List.range (k + 1)).flatMap (fun (root : Nat) => (treesL N).map fun t => D.tup [.int root, tiesD t]) = (List.range k).flatMap (fun (root : Nat) => (treesL N).map fun t => D.tup [.int root, tiesD t]) ++ (treesL N).map fun t => D.tup [.int k, tiesD t] := by
        rw [List.range_succ, List.flatMap_append]
        simp
      dsimp only
      rw [eS]
      generalize (List.range k).flatMap (fun (root : Nat) => (treesL N).map fun t => D.tup [.int root, tiesD t]) = pre at hlen
      walk_at "q"
      refine we_wl (wl_mapL ?hv ?hj ?_)
      case hv => exact any_of (by rfl)
      case hj => decide
      walk_at "q"
      refine ⟨by omega, by omega, ?_⟩
      walk_at "q"
      refine ⟨fun t => .tup [.int k, t], by rw [List.length_map]; omega, fun j y hy => ?_, ?_⟩
      · walk_at "q"
      · rw [List.map_map]
        refine ⟨_, _, rfl, rfl, by rw [List.length_map]; omega, ?_⟩
        walk_at "q"
        walk_at "le"
    · rw [Int.toNat_natCast]
      walk_at "q"
      exact hR
theorem all_listed {P : Program} {w : World} {K : PySem.W.Frag} {mg : Str → Option Value} {base h : Heap} (T : Tx K mg h) (o_trees : Ok P w K mg base "_law_trees" ["_law_n"] 2 (SpP K sp_trees)) (o_meets : Ok P w K mg base "_law_meets" ["_law_n"] 1 (SpP K sp_meets)) (o_rows : Ok P w K mg base "_law_rows" ["_law_some", "_law_size_here"] 1 (SpP K sp_rows)) (o_tuples : Ok P w K mg base "_law_tuples" ["_law_limit", "_law_size_here", "_law_again"] 1 (SpP K sp_tuples)) : ∀ n : Nat, Ok P w K mg base "_law_listed" ["_law_n", "_law_sort_here"] (n + 3) (SpP K (sp_listed n))
  | 0 => by
    obtain ⟨fd, F⟩ := T.c.def_ 39 (d := d_listed) rfl
    have F : FnP K "_law_listed" s_listed (He.ga K "_law_listed") fd := F
    refine Ok.none F (He.glo_ok T.X T.G (T.c.fact 39 (f := .glo "_law_listed") rfl)) (FunD.bindsN F fun _ _ _ _ _ _ us hl => match us, hl with | [_, _], _ => rfl) (fun ds R h => by
      obtain ⟨s, _, rfl, hd, _⟩ := h
      have := s.depth_pos
      omega)
  | n + 1 => ok_listed T o_trees o_meets o_rows o_tuples (all_listed T o_trees o_meets o_rows o_tuples n)
end ME
end
section
set_option Elab.async false
set_option linter.all false
set_option maxRecDepth 100000
set_option maxHeartbeats 4000000
namespace ME
open PySem L2 MW
local macro_rules | `(tactic| walk_at "norm1") => `(tactic| dsimp only [Then, LoopP, FnPost, FnPostS])
local macro_rules | `(tactic| walk_at "mul") => `(tactic| (first
  | exact Or.inl ⟨by omega, by omega⟩
  | exact Or.inr ⟨by omega, by omega⟩))
local macro_rules | `(tactic| walk_at "we") => `(tactic| (first
  | ((with_reducible refine we_var (d := ?d) ?he ?_); (case he => exact rfl))
  | with_reducible refine we_int ?_
  | with_reducible refine we_str ?_
  | with_reducible refine we_op ?_
  | with_reducible refine we_cl ?_
  | with_reducible refine we_tup ?_
  | with_reducible refine we_bl ?_
  | with_reducible refine we_non ?_
  | with_reducible refine we_if ?_
  | ((with_reducible refine we_lenO (ds := ?ds) ?he ?_); (case he => exact rfl))
  | with_reducible refine we_len ?_
  | with_reducible refine we_int1 ?_
  | with_reducible refine we_andV ?_
  | with_reducible refine we_orV ?_
  | with_reducible refine we_notV ?_
  | with_reducible refine we_neg ?_
  | with_reducible refine we_chain ?_
  | with_reducible refine we_dget ?_
  | ((with_reducible refine we_dget2O (t := ?t) ?he ?_); (case he => exact rfl))
  | ((with_reducible refine we_dget2I (t := ?t) ?he ?_); (case he => exact rfl))
  | with_reducible refine we_dget2 ?_
  | ((with_reducible refine we_isi ?ht ?_); (case ht => first | exact .inl rfl | exact .inr (.inl rfl) | exact .inr (.inr (.inl rfl)) | exact .inr (.inr (.inr rfl))))
  | ((with_reducible refine we_clS ?he ?_); (case he => exact rfl))
  | with_reducible refine we_max2 ?_
  | with_reducible refine we_dispT1 ?_
  | with_reducible refine we_dispT2 ?_
  | ((with_reducible refine we_tupOfO (ds := ?ds) ?he ?_); (case he => exact rfl))
  | with_reducible refine we_sumT ?_
  | with_reducible refine we_divmod ?_
  | with_reducible refine we_newT ?_))
local macro_rules | `(tactic| walk_at "op2") => `(tactic| (first
  | ((with_reducible refine o_ixT (d := ?d) ?he ?_); (case he => exact rfl))
  | with_reducible refine o_eqS ?_
  | with_reducible refine o_eqI ?_
  | with_reducible refine o_add ?_
  | with_reducible refine o_sub ?_
  | ((with_reducible refine o_inT (x := ?x) (xs := ?xs) ?hx ?hs ?_); (case hx => exact rfl); (case hs => exact rfl))
  | ((with_reducible refine o_mul ?hc ?_); (case hc => walk_at "mul"))
  | ((with_reducible refine o_mod ?hc ?_); (case hc => omega))
  | ((with_reducible refine o_div ?hc ?_); (case hc => exact ⟨by omega, by omega⟩))
  | with_reducible refine o_lt ?_
  | with_reducible refine o_le ?_
  | with_reducible refine o_gt ?_
  | with_reducible refine o_ge ?_
  | with_reducible refine o_neI ?_
  | ((with_reducible refine o_ixL (d := ?d) ?he ?_); (case he => exact rfl))
  | ((with_reducible refine o_inL (x := ?x) (xs := ?xs) ?hx ?hs ?_); (case hx => exact rfl); (case hs => exact rfl))
  | ((with_reducible refine o_catT ?hl ?_); (case hl => (simp only [List.length_cons, List.length_nil, List.length_append, List.length_map, List.length_replicate]; omega)))
  | ((with_reducible refine o_repTI ?h0 ?h1 ?_); (case h0 => omega); (case h1 => omega))
  | with_reducible refine o_isNT ?_))
local macro_rules | `(tactic| walk_at "wt") => `(tactic| (first
  | with_reducible refine wt_test ?_
  | with_reducible refine wt_B ?_
  | with_reducible refine wt_not ?_
  | with_reducible refine wt_and ?_
  | with_reducible refine wt_or ?_))
local macro_rules | `(tactic| walk_at "ws") => `(tactic| (first
  | with_reducible refine ws_seq ?_
  | with_reducible refine ws_asg ?_
  | with_reducible refine ws_if ?_
  | with_reducible refine ws_ret ?_
  | with_reducible refine ws_next ?_
  | with_reducible refine ws_drop ?_
  | with_reducible refine ws_par ?_
  | ((with_reducible refine ws_asg2 ?hn ?_); (case hn => rfl))))
local macro_rules | `(tactic| walk_at "no") => `(tactic| first
  | (intro hb; exact Bool.noConfusion (show (true : Bool) = false from hb))
  | (intro hb; exact Bool.noConfusion (show (false : Bool) = true from hb)))
local macro_rules | `(tactic| walk_at "br") => `(tactic| first
  | (refine ⟨?_, ?no⟩; (case no => walk_at "no"); (intro _))
  | (refine ⟨?no, ?_⟩; (case no => walk_at "no"); (intro _)))
local macro_rules | `(tactic| walk_at "ex") => `(tactic| first
  | (refine ⟨_, rfl, ?_⟩)
  | (refine ⟨_, _, rfl, rfl, ?_⟩)
  | (refine ⟨_, _, rfl, ?_⟩)
  | (refine ⟨_, _, _, rfl, ?_⟩)
  | (refine ⟨_, _, _, _, rfl, ?_⟩)
  | (refine ⟨_, .inr rfl, ?_⟩)
  | (refine ⟨_, .inl rfl, ?_⟩))
local macro_rules | `(tactic| walk_at "r") => `(tactic| repeat (first
  | ((with_reducible show MW.WE _ _ _ _ _); walk_at "we")
  | ((with_reducible show MW.Op2 _ _ _ _ _ _ _); walk_at "op2")
  | ((with_reducible show MW.WS _ _ _ _ _); walk_at "ws")
  | ((with_reducible show MW.WA _ _ _ _ _); first | with_reducible refine wa_cons ?_ | with_reducible refine wa_nil ?_)
  | ((with_reducible show MW.WT _ _ _ _ _); walk_at "wt")
  | ((with_reducible show Exists _); walk_at "ex")
  | ((with_reducible show And _ _); first | walk_at "br" | (refine ⟨by decide, ?_⟩) | (refine ⟨Nat.le_of_ble_eq_true rfl, ?_⟩) | (refine ⟨.inl ⟨_, rfl⟩, ?_⟩) | (refine ⟨.inr (.inl ⟨_, rfl⟩), ?_⟩) | (refine ⟨.inr (.inr ⟨_, rfl⟩), ?_⟩))
  | walk_at "norm1"
  | walk_at "ex"))
local macro_rules | `(tactic| walk_at "q") => `(tactic| repeat (first
  | ((with_reducible show MW.WE _ _ _ _ _); first | with_reducible refine we_wl (wl_cat ?_) | with_reducible refine we_wl (wl_lst ?_) | walk_at "we")
  | ((with_reducible show MW.Op2 _ _ _ _ _ _ _); walk_at "op2")
  | ((with_reducible show MW.WS _ _ _ _ _); walk_at "ws")
  | ((with_reducible show MW.WA _ _ _ _ _); first | with_reducible refine wa_cons ?_ | with_reducible refine wa_nil ?_)
  | ((with_reducible show MW.WT _ _ _ _ _); walk_at "wt")
  | ((with_reducible show Exists _); walk_at "ex")
  | ((with_reducible show And _ _); first | walk_at "br" | (refine ⟨by decide, ?_⟩) | (refine ⟨Nat.le_of_ble_eq_true rfl, ?_⟩) | (refine ⟨.inl ⟨_, rfl⟩, ?_⟩) | (refine ⟨.inr (.inl ⟨_, rfl⟩), ?_⟩) | (refine ⟨.inr (.inr ⟨_, rfl⟩), ?_⟩))
  | walk_at "norm1"
  | walk_at "ex"))
local macro_rules | `(tactic| walk_at "le") => `(tactic| ((try refine ⟨rfl, ?_⟩); repeat (first | exact Le.nil | refine Le.eq ?_ | refine Le.any ?_)))

theorem sc_names : FnScope ["_law_n", "_law_sort_here", "_law_member", "_law_word", "_law_found", "_law_one", "_law_more"] ["_law_n", "_law_sort_here", "_law_member"] (defScope s_names) := ⟨rfl, rfl, rfl, by decide +kernel, rfl, by decide +kernel, by decide +kernel⟩
def sp_names (n : Nat) : SpecD := fun ds R => ∃ (s : S) (N : Nat) (d : D), ds = [.int N, s.d, d] ∧ s.depth ≤ n ∧ 2 ≤ N ∧ N ≤ 5 ∧ s.shape N d ∧ (s.names N d).length ≤ 1000 ∧ R (.lst ((s.names N d).map D.int))
theorem ok_names {P : Program} {w : World} {K : PySem.W.Frag} {mg : Str → Option Value} {base h : Heap} (T : Tx K mg h) {n : Nat} (o_letters : Ok P w K mg base "_law_letters" ["_law_n", "_law_ties", "_law_root", "_law_size_here"] 1 (SpP K sp_letters)) (o_names : Ok P w K mg base "_law_names" ["_law_n", "_law_sort_here", "_law_member"] (n + 2) (SpP K (sp_names n))) :
    Ok P w K mg base "_law_names" ["_law_n", "_law_sort_here", "_law_member"] ((n + 1) + 2) (SpP K (sp_names (n + 1))) := by
  obtain ⟨fd, F⟩ := T.c.def_ 45 (d := d_names) rfl
  have F : FnP K "_law_names" s_names (He.ga K "_law_names") fd := F
  have len : ∀ ds R, sp_names (n + 1) ds R → ds.length = 3 := (fun ds R h => by obtain ⟨_, _, _, rfl, _⟩ := h; rfl)
  refine Ok.of F (He.glo_ok T.X T.G (T.c.fact 45 (f := .glo "_law_names") rfl)) (FunD.bindsN F fun _ _ _ _ _ _ us hl => match us, hl with | [_, _, _], _ => rfl)
    (FunD.ok F sc_names (fun vs H Q E h => lenP (n := 3) h len) (fun cdv A outer s H vs Q E hr hq => ⟨_, PSs.nox (pss_cons (ps_set (i := 3) sc_names.nd rfl (by first | exact .inl rfl | exact .inr rfl) (pe_ix ix_tup (pv 1) pe_int (fun _ _ => rfl)))
    (pss_cons (ps_if (pt_cmpR op_eq (pv 3) pe_str (by rfl)) (pss_one (ps_ret (pe_lst (pa_cons (pv 2) pa_nil)))) pss_nil)
    (pss_cons (ps_if (pt_cmpR op_in_seq (pv 3) (pe_tup (pa_cons pe_str (pa_cons pe_str pa_nil))) (by rfl)) (pss_one (ps_ret (pe_callTy call_list_of (by rfl) T.list_ (by decide +kernel) (pa_cons (pv 2) pa_nil)))) pss_nil)
    (pss_cons (ps_if (pt_cmpR op_eq (pv 3) pe_str (by rfl)) (pss_one (ps_ret (pe_cl o_names (hr.mono (by omega)) (by rfl) (pa_cons (pv 0) (pa_cons (pe_ix ix_tup (pv 1) (pe_op op_add pe_int (pe_ix ix_tup (pv 2) pe_int (fun _ _ => rfl))) (fun _ _ => rfl)) (pa_cons (pe_ix ix_tup (pv 2) pe_int (fun _ _ => rfl)) pa_nil)))))) pss_nil)
    (pss_cons (ps_if (pt_cmpR op_eq (pv 3) pe_str (by rfl)) (pss_one (ps_ret (pe_op op_cat (pe_cl o_names (hr.mono (by omega)) (by rfl) (pa_cons (pv 0) (pa_cons (pe_ix ix_tup (pv 1) pe_int (fun _ _ => rfl)) (pa_cons (pe_ix ix_tup (pv 2) pe_int (fun _ _ => rfl)) pa_nil)))) (pe_cl o_names (hr.mono (by omega)) (by rfl) (pa_cons (pv 0) (pa_cons (pe_ix ix_tup (pv 1) pe_int (fun _ _ => rfl)) (pa_cons (pe_ix ix_tup (pv 2) pe_int (fun _ _ => rfl)) pa_nil))))))) pss_nil)
    (pss_cons (ps_if (pt_cmpR op_eq (pv 3) pe_str (by rfl)) (pss_one (ps_ret (pe_cl o_letters (hr.mono (by omega)) (by rfl) (pa_cons (pv 0) (pa_cons (pe_ix ix_tup (pv 2) pe_int (fun _ _ => rfl)) (pa_cons (pe_ix ix_tup (pv 2) pe_int (fun _ _ => rfl)) (pa_cons (pe_op op_sub (pv 0) pe_int) pa_nil))))))) pss_nil)
    (pss_cons (ps_set (i := 4) sc_names.nd rfl (by first | exact .inl rfl | exact .inr rfl) (pe_lst pa_nil))
    (pss_cons (ps_for PassesOwn.never (by rfl) (pi_tup (pv 2)) (pg_name (i := 5) sc_names.nd rfl (by first | exact .inl rfl | exact .inr rfl)) (pss_cons (ps_set (i := 6) sc_names.nd rfl (by first | exact .inl rfl | exact .inr rfl) (pe_ifExp (pt_cmpR op_in_seq (pv 3) (pe_tup (pa_cons pe_str (pa_cons pe_str pa_nil))) (by rfl)) (pe_callTy call_list_of (by rfl) T.list_ (by decide +kernel) (pa_cons (pv 5) pa_nil)) (pe_cl o_names (hr.mono (by omega)) (by rfl) (pa_cons (pv 0) (pa_cons (pe_ix ix_tup (pv 1) pe_int (fun _ _ => rfl)) (pa_cons (pv 5) pa_nil))))))
    (pss_one (ps_set (i := 4) sc_names.nd rfl (by first | exact .inl rfl | exact .inr rfl) (pe_op op_cat (pv 4) (pv 6))))))
    (pss_one (ps_ret (pv 4))))))))))), ?_⟩))
  refine fn_run (n := 3) hq len (by decide) fun ds R hs => ?_
  try dsimp only [cxOf]
  obtain ⟨s, N, d, rfl, hd, h2, hN, hsh, hlen, hR⟩ := hs
  cases s with
  | none => exact hsh.elim
  | one =>
    obtain ⟨i, rfl⟩ := hsh
    show WS K _ 0 [.sh _, .sh (.tup _), .sh (.int i), .any, .any, .any, .any] _
    walk_at "q"
    exact hR
  | sub k =>
    obtain ⟨c, rfl⟩ := hsh
    have e : (S.sub k).names N (.ints c) = c := asInts_ints c
    rw [e] at hR
    show WS K _ 0 [.sh _, .sh (.tup _), .sh (.ints c), .any, .any, .any, .any] _
    walk_at "q"
    refine we_wl (wl_listOf ?_)
    walk_at "q"
    exact hR
  | bag k =>
    obtain ⟨c, rfl⟩ := hsh
    have e : (S.bag k).names N (.ints c) = c := asInts_ints c
    rw [e] at hR
    show WS K _ 0 [.sh _, .sh (.tup _), .sh (.ints c), .any, .any, .any, .any] _
    walk_at "q"
    refine we_wl (wl_listOf ?_)
    walk_at "q"
    exact hR
  | ei a b =>
    simp only [S.depth] at hd
    rcases hsh with ⟨x, rfl, hx⟩ | ⟨x, rfl, hx⟩
    · show WS K _ 0 [.sh _, .sh (.tup _), .sh (.tup [.int 0, x]), .any, .any, .any, .any] _
      walk_at "q"
      exact ⟨by omega, h2, hN, hx, hlen, hR⟩
    · show WS K _ 0 [.sh _, .sh (.tup _), .sh (.tup [.int 1, x]), .any, .any, .any, .any] _
      walk_at "q"
      exact ⟨by omega, h2, hN, hx, hlen, hR⟩
  | pr a b =>
    simp only [S.depth] at hd
    obtain ⟨x, y, rfl, hx, hy⟩ := hsh
    have e : (S.pr a b).names N (.tup [x, y]) = a.names N x ++ b.names N y := rfl
    rw [e] at hR hlen
    rw [List.length_append] at hlen
    show WS K _ 0 [.sh _, .sh (.tup _), .sh (.tup [x, y]), .any, .any, .any, .any] _
    walk_at "q"
    refine ⟨by omega, h2, hN, hx, by omega, ?_⟩
    walk_at "q"
    refine ⟨by omega, h2, hN, hy, by omega, ?_⟩
    walk_at "q"
    refine ⟨by rw [List.length_map, List.length_map]; omega, ?_⟩
    rw [← List.map_append]
    exact hR
  | rooted =>
    obtain ⟨root, cs, rfl, h3, h4⟩ := hsh
    have e : S.rooted.names N (.tup [.int root, tiesD cs]) = letters N cs root (N - 1) := by
      show letters N ((kids (tiesD cs)).map asInts) root (N - 1) = _
      rw [kids_ties]
    rw [e] at hR
    show WS K _ 0 [.sh _, .sh (.tup _), .sh (.tup [.int root, tiesD cs]), .any, .any, .any, .any] _
    walk_at "q"
    refine ⟨N, cs, root, N - 1, by rw [Int.natCast_sub (by omega)]; rfl, hN, by omega, h3, h4, ?_⟩
    walk_at "q"
    exact hR
  | li m a =>
    simp only [S.depth] at hd
    obtain ⟨xs, rfl, hx⟩ := hsh
    have e : (S.li m a).names N (.tup xs) = xs.flatMap (a.names N) := rfl
    rw [e] at hR hlen
    show WS K _ 0 [.sh _, .sh (.tup [.str "list", .int m, a.d]), .sh (.tup xs), .any, .any, .any, .any] _
    walk_at "q"
    refine ws_tupf mono_then ?_
    refine we_var (d := .tup xs) rfl ⟨_, rfl, ?_⟩
    refine ⟨fun k => [.sh (.int N), .sh (.tup [.str "list", .int m, a.d]), .sh (.tup xs), .sh (.str "list"), .sh (.lst (((xs.take k).flatMap (a.names N)).map D.int)), .any, .any], by walk_at "le", fun k x hk => ?_, ?_⟩
    · have hp := fm_part (g := a.names N) hk
      dsimp only
      rw [fm_take hk]
      walk_at "q"
      refine ⟨by omega, h2, hN, hx x (List.mem_of_getElem? hk), by omega, ?_⟩
      walk_at "q"
      refine ⟨by rw [List.length_map, List.length_map]; omega, ?_⟩
      rw [← List.map_append]
      walk_at "le"
    · dsimp only
      rw [List.take_length]
      walk_at "q"
      exact hR
  | fam m a =>
    simp only [S.depth] at hd
    obtain ⟨xs, rfl, hx⟩ := hsh
    have e : (S.fam m a).names N (.tup xs) = xs.flatMap (a.names N) := rfl
    rw [e] at hR hlen
    show WS K _ 0 [.sh _, .sh (.tup [.str "family", .int m, a.d]), .sh (.tup xs), .any, .any, .any, .any] _
    walk_at "q"
    refine ws_tupf mono_then ?_
    refine we_var (d := .tup xs) rfl ⟨_, rfl, ?_⟩
    refine ⟨fun k => [.sh (.int N), .sh (.tup [.str "family", .int m, a.d]), .sh (.tup xs), .sh (.str "family"), .sh (.lst (((xs.take k).flatMap (a.names N)).map D.int)), .any, .any], by walk_at "le", fun k x hk => ?_, ?_⟩
    · have hp := fm_part (g := a.names N) hk
      dsimp only
      rw [fm_take hk]
      walk_at "q"
      refine ⟨by omega, h2, hN, hx x (List.mem_of_getElem? hk), by omega, ?_⟩
      walk_at "q"
      refine ⟨by rw [List.length_map, List.length_map]; omega, ?_⟩
      rw [← List.map_append]
      walk_at "le"
    · dsimp only
      rw [List.take_length]
      walk_at "q"
      exact hR
  | heap m a =>
    simp only [S.depth] at hd
    obtain ⟨xs, rfl, hx⟩ := hsh
    have e : (S.heap m a).names N (.tup xs) = xs.flatMap (a.names N) := rfl
    rw [e] at hR hlen
    show WS K _ 0 [.sh _, .sh (.tup [.str "heap", .int m, a.d]), .sh (.tup xs), .any, .any, .any, .any] _
    walk_at "q"
    refine ws_tupf mono_then ?_
    refine we_var (d := .tup xs) rfl ⟨_, rfl, ?_⟩
    refine ⟨fun k => [.sh (.int N), .sh (.tup [.str "heap", .int m, a.d]), .sh (.tup xs), .sh (.str "heap"), .sh (.lst (((xs.take k).flatMap (a.names N)).map D.int)), .any, .any], by walk_at "le", fun k x hk => ?_, ?_⟩
    · have hp := fm_part (g := a.names N) hk
      dsimp only
      rw [fm_take hk]
      walk_at "q"
      refine ⟨by omega, h2, hN, hx x (List.mem_of_getElem? hk), by omega, ?_⟩
      walk_at "q"
      refine ⟨by rw [List.length_map, List.length_map]; omega, ?_⟩
      rw [← List.map_append]
      walk_at "le"
    · dsimp only
      rw [List.take_length]
      walk_at "q"
      exact hR
  | rounds m =>
    obtain ⟨cs, rfl⟩ := hsh
    have e : (S.rounds m).names N (.tup (cs.map D.ints)) = cs.flatMap id := by
      show (cs.map D.ints).flatMap asInts = _
      rw [List.flatMap_map]
      congr 1
      exact funext asInts_ints
    rw [e] at hR hlen
    show WS K _ 0 [.sh _, .sh (.tup [.str "rounds", .int m]), .sh (.tup (cs.map D.ints)), .any, .any, .any, .any] _
    walk_at "q"
    refine ws_tupf mono_then ?_
    refine we_var (d := .tup (cs.map D.ints)) rfl ⟨_, rfl, ?_⟩
    refine ⟨fun k => [.sh (.int N), .sh (.tup [.str "rounds", .int m]), .sh (.tup (cs.map D.ints)), .sh (.str "rounds"), .sh (.lst (((cs.take k).flatMap id).map D.int)), .any, .any], by walk_at "le", fun k x hk => ?_, ?_⟩
    · obtain ⟨c, hc, rfl⟩ := mem_map_get hk
      have hp := fm_part (g := (id : Ct → Ct)) hc
      dsimp only
      rw [fm_take hc]
      walk_at "q"
      refine we_wl (wl_listOf ?_)
      walk_at "q"
      refine ⟨by rw [List.length_map, List.length_map]; exact Nat.le_trans hp (by omega), ?_⟩
      rw [← List.map_append]
      walk_at "le"
    · dsimp only
      rw [List.length_map, List.take_length]
      walk_at "q"
      exact hR
  | trees =>
    obtain ⟨cs, rfl⟩ := hsh
    have e : (S.trees).names N (.tup (cs.map D.ints)) = cs.flatMap id := by
      show (cs.map D.ints).flatMap asInts = _
      rw [List.flatMap_map]
      congr 1
      exact funext asInts_ints
    rw [e] at hR hlen
    show WS K _ 0 [.sh _, .sh (.tup [.str "trees"]), .sh (.tup (cs.map D.ints)), .any, .any, .any, .any] _
    walk_at "q"
    refine ws_tupf mono_then ?_
    refine we_var (d := .tup (cs.map D.ints)) rfl ⟨_, rfl, ?_⟩
    refine ⟨fun k => [.sh (.int N), .sh (.tup [.str "trees"]), .sh (.tup (cs.map D.ints)), .sh (.str "trees"), .sh (.lst (((cs.take k).flatMap id).map D.int)), .any, .any], by walk_at "le", fun k x hk => ?_, ?_⟩
    · obtain ⟨c, hc, rfl⟩ := mem_map_get hk
      have hp := fm_part (g := (id : Ct → Ct)) hc
      dsimp only
      rw [fm_take hc]
      walk_at "q"
      refine we_wl (wl_listOf ?_)
      walk_at "q"
      refine ⟨by rw [List.length_map, List.length_map]; exact Nat.le_trans hp (by omega), ?_⟩
      rw [← List.map_append]
      walk_at "le"
    · dsimp only
      rw [List.length_map, List.take_length]
      walk_at "q"
      exact hR
theorem all_names {P : Program} {w : World} {K : PySem.W.Frag} {mg : Str → Option Value} {base h : Heap} (T : Tx K mg h) (o_letters : Ok P w K mg base "_law_letters" ["_law_n", "_law_ties", "_law_root", "_law_size_here"] 1 (SpP K sp_letters)) : ∀ n : Nat, Ok P w K mg base "_law_names" ["_law_n", "_law_sort_here", "_law_member"] (n + 2) (SpP K (sp_names n))
  | 0 => by
    obtain ⟨fd, F⟩ := T.c.def_ 45 (d := d_names) rfl
    have F : FnP K "_law_names" s_names (He.ga K "_law_names") fd := F
    refine Ok.none F (He.glo_ok T.X T.G (T.c.fact 45 (f := .glo "_law_names") rfl)) (FunD.bindsN F fun _ _ _ _ _ _ us hl => match us, hl with | [_, _, _], _ => rfl) (fun ds R h => by
      obtain ⟨s, _, _, rfl, hd, _⟩ := h
      have := s.depth_pos
      omega)
  | n + 1 => ok_names T o_letters (all_names T o_letters n)
theorem sc_marks : FnScope ["_law_n", "_law_sort_here", "_law_member", "_law_found", "_law_name", "_law_one"] ["_law_n", "_law_sort_here", "_law_member"] (defScope s_marks) := ⟨rfl, rfl, rfl, by decide +kernel, rfl, by decide +kernel, by decide +kernel⟩
def sp_marks : SpecD := fun ds R => ∃ (s : S) (N : Nat) (d : D), ds = [.int N, s.d, d] ∧ s.depth ≤ 10 ∧ 2 ≤ N ∧ N ≤ 5 ∧ s.shape N d ∧ (s.names N d).length ≤ 1000 ∧ R (.ints (s.cont N d))
theorem ok_marks {P : Program} {w : World} {K : PySem.W.Frag} {mg : Str → Option Value} {base h : Heap} (T : Tx K mg h) (o_names : Ok P w K mg base "_law_names" ["_law_n", "_law_sort_here", "_law_member"] (10 + 2) (SpP K (sp_names 10))) :
    Ok P w K mg base "_law_marks" ["_law_n", "_law_sort_here", "_law_member"] 13 (SpP K sp_marks) := by
  obtain ⟨fd, F⟩ := T.c.def_ 46 (d := d_marks) rfl
  have F : FnP K "_law_marks" s_marks (He.ga K "_law_marks") fd := F
  have len : ∀ ds R, sp_marks ds R → ds.length = 3 := (fun ds R h => by obtain ⟨_, _, _, rfl, _⟩ := h; rfl)
  refine Ok.of F (He.glo_ok T.X T.G (T.c.fact 46 (f := .glo "_law_marks") rfl)) (FunD.bindsN F fun _ _ _ _ _ _ us hl => match us, hl with | [_, _, _], _ => rfl)
    (FunD.ok F sc_marks (fun vs H Q E h => lenP (n := 3) h len) (fun cdv A outer s H vs Q E hr hq => ⟨_, PSs.nox (pss_cons (ps_set (i := 3) sc_marks.nd rfl (by first | exact .inl rfl | exact .inr rfl) (pe_cl o_names (hr.mono (by omega)) (by rfl) (pa_cons (pv 0) (pa_cons (pv 1) (pa_cons (pv 2) pa_nil)))))
    (pss_one (ps_ret (pe_callTy call_tuple_of (by rfl) T.tuple_ (by decide +kernel) (pa_cons (pe_lc (own := [("_law_name", 4)]) (by rfl) sc_marks.nd (pi_range1 (by rfl) T.range_ (pa_cons (pv 0) pa_nil)) (blkOk_by (own := [("_law_name", 4)]) (by rfl)) (fun _ _ _ _ _ => (pg_name (i := 4) sc_marks.nd rfl (by first | exact .inl rfl | exact .inr rfl))) (fun _ _ _ _ _ => pts_nil) (fun _ _ _ _ _ => (pe_callB (call_len_seqK (K := K) rfl) (by rfl) T.len_ PySem.boot_len (pa_cons (pe_lc (own := [("_law_one", 5)]) (by rfl) sc_marks.nd (pi_listK (K := K) rfl (pv 3)) (blkOk_by (own := [("_law_one", 5)]) (by rfl)) (fun _ _ _ _ _ => (pg_name (i := 5) sc_marks.nd rfl (by first | exact .inl rfl | exact .inr rfl))) (fun _ _ _ _ _ => (pts_one (pt_cmpR op_eq (pv 5) (pv 4) (by rfl)))) (fun _ _ _ _ _ => pe_int)) pa_nil)))) pa_nil))))), ?_⟩))
  refine fn_run (n := 3) hq len (by decide) fun ds R hs => ?_
  try dsimp only [cxOf]
  obtain ⟨s, N, d, rfl, hd, h2, hN, hsh, hlen, hR⟩ := hs
  show WS K _ 0 [.sh _, .sh _, .sh _, .any, .any, .any] _
  walk_at "q"
  refine ⟨hd, h2, hN, hsh, hlen, ?_⟩
  unfold S.cont at hR
  generalize s.names N d = found at hlen hR
  refine ws_ret (we_tupNew (wl_mapR1 ?hv ?hj ?_))
  case hv => exact any_of (by rfl)
  case hj => decide
  walk_at "q"
  refine ⟨by omega, by omega, fun k => .int ((found.filter fun x => decide (x = (k : Int))).length : Nat), fun k hk => ?_, ?_⟩
  · refine we_len (we_wl (wl_filtL ?hv ?hj ?_))
    case hv => exact any_of (by rfl)
    case hj => decide
    refine we_var (d := .lst (found.map D.int)) rfl ⟨_, rfl, fun d => decide (asInt d = (k : Int)), fun _ => .int 1, by rw [List.length_map]; omega, fun i x hx => ?_, fun i x hx hc => ?_, ?_⟩
    · obtain ⟨z, hz, rfl⟩ := mem_map_get hx
      walk_at "q"
      rfl
    · walk_at "q"
    · refine ⟨_, .inl rfl, rfl, ?_⟩
      rw [List.length_map, List.filter_map, List.length_map]
      rfl
  · rw [Int.toNat_natCast]
    have e : (List.range N).map (fun (k : Nat) => D.int ((found.filter fun x => decide (x = (k : Int))).length : Nat)) = (marksOf N found).map D.int := by
      unfold marksOf
      rw [List.map_map]
      rfl
    rw [e]
    exact hR
end ME
end
section
set_option Elab.async false
set_option linter.all false
set_option maxRecDepth 100000
set_option maxHeartbeats 4000000
namespace ME
open PySem L2 MW
local macro_rules | `(tactic| walk_at "norm1") => `(tactic| dsimp only [Then, LoopP, FnPost, FnPostS])
local macro_rules | `(tactic| walk_at "mul") => `(tactic| (first
  | exact Or.inl ⟨by omega, by omega⟩
  | exact Or.inr ⟨by omega, by omega⟩))
local macro_rules | `(tactic| walk_at "we") => `(tactic| (first
  | ((with_reducible refine we_var (d := ?d) ?he ?_); (case he => exact rfl))
  | with_reducible refine we_int ?_
  | with_reducible refine we_str ?_
  | with_reducible refine we_op ?_
  | with_reducible refine we_cl ?_
  | with_reducible refine we_tup ?_
  | with_reducible refine we_bl ?_
  | with_reducible refine we_non ?_
  | with_reducible refine we_if ?_
  | ((with_reducible refine we_lenO (ds := ?ds) ?he ?_); (case he => exact rfl))
  | with_reducible refine we_len ?_
  | with_reducible refine we_int1 ?_
  | with_reducible refine we_andV ?_
  | with_reducible refine we_orV ?_
  | with_reducible refine we_notV ?_
  | with_reducible refine we_neg ?_
  | with_reducible refine we_chain ?_
  | with_reducible refine we_dget ?_
  | ((with_reducible refine we_dget2O (t := ?t) ?he ?_); (case he => exact rfl))
  | ((with_reducible refine we_dget2I (t := ?t) ?he ?_); (case he => exact rfl))
  | with_reducible refine we_dget2 ?_
  | ((with_reducible refine we_isi ?ht ?_); (case ht => first | exact .inl rfl | exact .inr (.inl rfl) | exact .inr (.inr (.inl rfl)) | exact .inr (.inr (.inr rfl))))
  | ((with_reducible refine we_clS ?he ?_); (case he => exact rfl))
  | with_reducible refine we_max2 ?_
  | with_reducible refine we_dispT1 ?_
  | with_reducible refine we_dispT2 ?_
  | ((with_reducible refine we_tupOfO (ds := ?ds) ?he ?_); (case he => exact rfl))
  | with_reducible refine we_sumT ?_
  | with_reducible refine we_divmod ?_
  | with_reducible refine we_newT ?_))
local macro_rules | `(tactic| walk_at "op2") => `(tactic| (first
  | ((with_reducible refine o_ixT (d := ?d) ?he ?_); (case he => exact rfl))
  | with_reducible refine o_eqS ?_
  | with_reducible refine o_eqI ?_
  | with_reducible refine o_add ?_
  | with_reducible refine o_sub ?_
  | ((with_reducible refine o_inT (x := ?x) (xs := ?xs) ?hx ?hs ?_); (case hx => exact rfl); (case hs => exact rfl))
  | ((with_reducible refine o_mul ?hc ?_); (case hc => walk_at "mul"))
  | ((with_reducible refine o_mod ?hc ?_); (case hc => omega))
  | ((with_reducible refine o_div ?hc ?_); (case hc => exact ⟨by omega, by omega⟩))
  | with_reducible refine o_lt ?_
  | with_reducible refine o_le ?_
  | with_reducible refine o_gt ?_
  | with_reducible refine o_ge ?_
  | with_reducible refine o_neI ?_
  | ((with_reducible refine o_ixL (d := ?d) ?he ?_); (case he => exact rfl))
  | ((with_reducible refine o_inL (x := ?x) (xs := ?xs) ?hx ?hs ?_); (case hx => exact rfl); (case hs => exact rfl))
  | ((with_reducible refine o_catT ?hl ?_); (case hl => (simp only [List.length_cons, List.length_nil, List.length_append, List.length_map, List.length_replicate]; omega)))
  | ((with_reducible refine o_repTI ?h0 ?h1 ?_); (case h0 => omega); (case h1 => omega))
  | with_reducible refine o_isNT ?_))
local macro_rules | `(tactic| walk_at "wt") => `(tactic| (first
  | with_reducible refine wt_test ?_
  | with_reducible refine wt_B ?_
  | with_reducible refine wt_not ?_
  | with_reducible refine wt_and ?_
  | with_reducible refine wt_or ?_))
local macro_rules | `(tactic| walk_at "ws") => `(tactic| (first
  | with_reducible refine ws_seq ?_
  | with_reducible refine ws_asg ?_
  | with_reducible refine ws_if ?_
  | with_reducible refine ws_ret ?_
  | with_reducible refine ws_next ?_
  | with_reducible refine ws_drop ?_
  | with_reducible refine ws_par ?_
  | ((with_reducible refine ws_asg2 ?hn ?_); (case hn => rfl))))
local macro_rules | `(tactic| walk_at "no") => `(tactic| first
  | (intro hb; exact Bool.noConfusion (show (true : Bool) = false from hb))
  | (intro hb; exact Bool.noConfusion (show (false : Bool) = true from hb)))
local macro_rules | `(tactic| walk_at "br") => `(tactic| first
  | (refine ⟨?_, ?no⟩; (case no => walk_at "no"); (intro _))
  | (refine ⟨?no, ?_⟩; (case no => walk_at "no"); (intro _)))
local macro_rules | `(tactic| walk_at "ex") => `(tactic| first
  | (refine ⟨_, rfl, ?_⟩)
  | (refine ⟨_, _, rfl, rfl, ?_⟩)
  | (refine ⟨_, _, rfl, ?_⟩)
  | (refine ⟨_, _, _, rfl, ?_⟩)
  | (refine ⟨_, _, _, _, rfl, ?_⟩)
  | (refine ⟨_, .inr rfl, ?_⟩)
  | (refine ⟨_, .inl rfl, ?_⟩))
local macro_rules | `(tactic| walk_at "r") => `(tactic| repeat (first
  | ((with_reducible show MW.WE _ _ _ _ _); walk_at "we")
  | ((with_reducible show MW.Op2 _ _ _ _ _ _ _); walk_at "op2")
  | ((with_reducible show MW.WS _ _ _ _ _); walk_at "ws")
  | ((with_reducible show MW.WA _ _ _ _ _); first | with_reducible refine wa_cons ?_ | with_reducible refine wa_nil ?_)
  | ((with_reducible show MW.WT _ _ _ _ _); walk_at "wt")
  | ((with_reducible show Exists _); walk_at "ex")
  | ((with_reducible show And _ _); first | walk_at "br" | (refine ⟨by decide, ?_⟩) | (refine ⟨Nat.le_of_ble_eq_true rfl, ?_⟩) | (refine ⟨.inl ⟨_, rfl⟩, ?_⟩) | (refine ⟨.inr (.inl ⟨_, rfl⟩), ?_⟩) | (refine ⟨.inr (.inr ⟨_, rfl⟩), ?_⟩))
  | walk_at "norm1"
  | walk_at "ex"))
local macro_rules | `(tactic| walk_at "q") => `(tactic| repeat (first
  | ((with_reducible show MW.WE _ _ _ _ _); first | with_reducible refine we_wl (wl_cat ?_) | with_reducible refine we_wl (wl_lst ?_) | walk_at "we")
  | ((with_reducible show MW.Op2 _ _ _ _ _ _ _); walk_at "op2")
  | ((with_reducible show MW.WS _ _ _ _ _); walk_at "ws")
  | ((with_reducible show MW.WA _ _ _ _ _); first | with_reducible refine wa_cons ?_ | with_reducible refine wa_nil ?_)
  | ((with_reducible show MW.WT _ _ _ _ _); walk_at "wt")
  | ((with_reducible show Exists _); walk_at "ex")
  | ((with_reducible show And _ _); first | walk_at "br" | (refine ⟨by decide, ?_⟩) | (refine ⟨Nat.le_of_ble_eq_true rfl, ?_⟩) | (refine ⟨.inl ⟨_, rfl⟩, ?_⟩) | (refine ⟨.inr (.inl ⟨_, rfl⟩), ?_⟩) | (refine ⟨.inr (.inr ⟨_, rfl⟩), ?_⟩))
  | walk_at "norm1"
  | walk_at "ex"))
local macro_rules | `(tactic| walk_at "le") => `(tactic| ((try refine ⟨rfl, ?_⟩); repeat (first | exact Le.nil | refine Le.eq ?_ | refine Le.any ?_)))

theorem sc_gathered : FnScope ["_law_some", "_law_lots", "_law_one"] ["_law_some"] (defScope s_gathered) := ⟨rfl, rfl, rfl, by decide +kernel, rfl, by decide +kernel, by decide +kernel⟩
def sp_gathered : SpecD := fun ds R => ∃ (cs : List Ct) (n : Nat) (M : Nat), ds = [.lst (cs.map D.ints)] ∧ cs.length < 64 ∧ 1 ≤ n ∧ (∀ c ∈ cs, c.length = n ∧ ∀ z ∈ c, 0 ≤ z ∧ z ≤ (M : Int)) ∧ ∀ lots : Tab, lots.Perm (gatherT cs) → R (lotsD lots)
theorem ok_gathered {P : Program} {w : World} {K : PySem.W.Frag} {mg : Str → Option Value} {base h : Heap} (T : Tx K mg h)  :
    Ok P w K mg base "_law_gathered" ["_law_some"] 1 (SpP K sp_gathered) := by
  obtain ⟨fd, F⟩ := T.c.def_ 52 (d := d_gathered) rfl
  have F : FnP K "_law_gathered" s_gathered (He.ga K "_law_gathered") fd := F
  have len : ∀ ds R, sp_gathered ds R → ds.length = 1 := (fun ds R h => by obtain ⟨_, _, _, rfl, _⟩ := h; rfl)
  refine Ok.of F (He.glo_ok T.X T.G (T.c.fact 52 (f := .glo "_law_gathered") rfl)) (FunD.bindsN F fun _ _ _ _ _ _ us hl => match us, hl with | [_], _ => rfl)
    (FunD.ok F sc_gathered (fun vs H Q E h => lenP (n := 1) h len) (fun cdv A outer s H vs Q E hr hq => ⟨_, PSs.nox (pss_cons (ps_set (i := 1) sc_gathered.nd rfl (by first | exact .inl rfl | exact .inr rfl) pe_dnewT)
    (pss_cons (ps_for PassesOwn.never (by rfl) (pi_list (pv 0)) (pg_name (i := 2) sc_gathered.nd rfl (by first | exact .inl rfl | exact .inr rfl)) (pss_one (ps_dput (hu_of hr) (pv 1) (pv 2) (pe_op op_add (pe_dget2 (hu_of hr) (pv 1) (pv 2) pe_int ⟨by rfl, by rfl, by rfl, by rfl⟩) pe_int) rfl)))
    (pss_one (ps_ret (pe_lc (own := [("_law_one", 2)]) (by rfl) sc_gathered.nd (pi_list (pe_callB cr_sortTs (by rfl) T.sorted_ (by decide +kernel) (pa_cons (pe_callTy (call_list_dT (by rfl)) (by rfl) T.list_ (by decide +kernel) (pa_cons (pv 1) pa_nil)) pa_nil))) (blkOk_by (own := [("_law_one", 2)]) (by rfl)) (fun _ _ _ _ _ => (pg_name (i := 2) sc_gathered.nd rfl (by first | exact .inl rfl | exact .inr rfl))) (fun _ _ _ _ _ => pts_nil) (fun _ _ _ _ _ => (pe_tup (pa_cons (pv 2) (pa_cons (pe_dget (hu_of hr) (pv 1) (pv 2) (fun _ _ => rfl)) pa_nil))))))))), ?_⟩))
  refine fn_run (n := 1) hq len (by decide) fun ds R hs => ?_
  try dsimp only [cxOf]
  obtain ⟨cs, n, M, rfl, hl, hn, hc, hR⟩ := hs
  show WS K _ 0 [.sh (.lst (cs.map D.ints)), .any, .any] _
  refine ws_seq (ws_asgD ?_)
  walk_at "r"
  refine ws_lst mono_then ?_
  refine we_var (d := .lst (cs.map D.ints)) rfl ⟨_, rfl, ?_⟩
  refine ⟨fun k => [.sh (.lst (cs.map D.ints)), .dic (gatherT (cs.take k)), .any], by walk_at "le", fun k x hx => ?_, ?_⟩
  · obtain ⟨c, hk, rfl⟩ := mem_map_get hx
    have hlen := gather_len (cs.take k) []
    have e : gatherT (cs.take (k + 1)) = gatherF (gatherT (cs.take k)) c := by
      unfold gatherT
      rw [foldl_take hk]
    rw [List.length_take] at hlen
    have hlen : (gatherT (cs.take k)).length ≤ 0 + min k cs.length := hlen
    dsimp only
    rw [e]
    refine ws_dput rfl ?_
    walk_at "r"
    refine ⟨by omega, ?_⟩
    walk_at "r"
    walk_at "le"
  · dsimp only
    rw [List.length_map, List.take_length]
    dsimp only [Then]
    have ok := gather_ok cs hc
    have hlen := gather_len cs []
    have hlen : (gatherT cs).length ≤ 0 + cs.length := hlen
    generalize gatherT cs = t at ok hR hlen
    refine ws_giveD (i := 1) rfl ?_
    refine ws_ret (we_wl (wl_mapN ?hv ?hj (wl_sortTs (we_wl (wl_listTab (we_var (d := .tab t) rfl ⟨t, rfl, ?_⟩))))))
    case hv => exact any_of (by rfl)
    case hj => decide
    have e1 : (t.map fun p => D.ints p.1) = (t.map (·.1)).map D.ints := by rw [List.map_map]; rfl
    rw [e1]
    refine ⟨t.map (·.1), n, (M : Int) + 1, rfl, by rw [List.length_map]; omega, hn, fun c hc2 => ?_, fun cs' hp => ?_⟩
    · obtain ⟨p, hp, rfl⟩ := List.mem_map.mp hc2
      exact ⟨ok.len p hp, fun z hz => by have := ok.bd p hp z hz; omega⟩
    · refine ⟨fun d => .tup [d, .int ((tget t (asInts d)).getD 0)], by rw [List.length_map, hp.length_eq, List.length_map]; omega, fun k x hx => ?_, ?_⟩
      · obtain ⟨c, hk, rfl⟩ := mem_map_get hx
        obtain ⟨y, hy⟩ := tget_mem (hp.mem_iff.mp (List.mem_of_getElem? hk))
        walk_at "r"
        refine ⟨t, c, y, rfl, rfl, hy, ?_⟩
        walk_at "r"
        rw [asInts_ints, hy]
        rfl
      · have e2 : (cs'.map D.ints).map (fun d => D.tup [d, .int ((tget t (asInts d)).getD 0)]) = (cs'.map fun c => (c, (tget t c).getD 0)).map fun p => D.tup [.ints p.1, .int p.2] := by
          rw [List.map_map, List.map_map]
          apply List.map_congr_left
          intro c _
          show D.tup [.ints c, .int ((tget t (asInts (.ints c))).getD 0)] = _
          rw [asInts_ints]
          rfl
        rw [e2]
        refine hR _ ?_
        have p2 := hp.map fun c => (c, (tget t c).getD 0)
        rw [keys_back ok.nd] at p2
        exact p2
end ME
end
section
set_option Elab.async false
set_option linter.all false
set_option maxRecDepth 100000
set_option maxHeartbeats 4000000
namespace ME
open PySem L2 MW
local macro_rules | `(tactic| walk_at "norm1") => `(tactic| dsimp only [Then, LoopP, FnPost, FnPostS])
local macro_rules | `(tactic| walk_at "mul") => `(tactic| (first
  | exact Or.inl ⟨by omega, by omega⟩
  | exact Or.inr ⟨by omega, by omega⟩))
local macro_rules | `(tactic| walk_at "we") => `(tactic| (first
  | ((with_reducible refine we_var (d := ?d) ?he ?_); (case he => exact rfl))
  | with_reducible refine we_int ?_
  | with_reducible refine we_str ?_
  | with_reducible refine we_op ?_
  | with_reducible refine we_cl ?_
  | with_reducible refine we_tup ?_
  | with_reducible refine we_bl ?_
  | with_reducible refine we_non ?_
  | with_reducible refine we_if ?_
  | ((with_reducible refine we_lenO (ds := ?ds) ?he ?_); (case he => exact rfl))
  | with_reducible refine we_len ?_
  | with_reducible refine we_int1 ?_
  | with_reducible refine we_andV ?_
  | with_reducible refine we_orV ?_
  | with_reducible refine we_notV ?_
  | with_reducible refine we_neg ?_
  | with_reducible refine we_chain ?_
  | with_reducible refine we_dget ?_
  | ((with_reducible refine we_dget2O (t := ?t) ?he ?_); (case he => exact rfl))
  | ((with_reducible refine we_dget2I (t := ?t) ?he ?_); (case he => exact rfl))
  | with_reducible refine we_dget2 ?_
  | ((with_reducible refine we_isi ?ht ?_); (case ht => first | exact .inl rfl | exact .inr (.inl rfl) | exact .inr (.inr (.inl rfl)) | exact .inr (.inr (.inr rfl))))
  | ((with_reducible refine we_clS ?he ?_); (case he => exact rfl))
  | with_reducible refine we_max2 ?_
  | with_reducible refine we_dispT1 ?_
  | with_reducible refine we_dispT2 ?_
  | ((with_reducible refine we_tupOfO (ds := ?ds) ?he ?_); (case he => exact rfl))
  | with_reducible refine we_sumT ?_
  | with_reducible refine we_divmod ?_
  | with_reducible refine we_newT ?_))
local macro_rules | `(tactic| walk_at "op2") => `(tactic| (first
  | ((with_reducible refine o_ixT (d := ?d) ?he ?_); (case he => exact rfl))
  | with_reducible refine o_eqS ?_
  | with_reducible refine o_eqI ?_
  | with_reducible refine o_add ?_
  | with_reducible refine o_sub ?_
  | ((with_reducible refine o_inT (x := ?x) (xs := ?xs) ?hx ?hs ?_); (case hx => exact rfl); (case hs => exact rfl))
  | ((with_reducible refine o_mul ?hc ?_); (case hc => walk_at "mul"))
  | ((with_reducible refine o_mod ?hc ?_); (case hc => omega))
  | ((with_reducible refine o_div ?hc ?_); (case hc => exact ⟨by omega, by omega⟩))
  | with_reducible refine o_lt ?_
  | with_reducible refine o_le ?_
  | with_reducible refine o_gt ?_
  | with_reducible refine o_ge ?_
  | with_reducible refine o_neI ?_
  | ((with_reducible refine o_ixL (d := ?d) ?he ?_); (case he => exact rfl))
  | ((with_reducible refine o_inL (x := ?x) (xs := ?xs) ?hx ?hs ?_); (case hx => exact rfl); (case hs => exact rfl))
  | ((with_reducible refine o_catT ?hl ?_); (case hl => (simp only [List.length_cons, List.length_nil, List.length_append, List.length_map, List.length_replicate]; omega)))
  | ((with_reducible refine o_repTI ?h0 ?h1 ?_); (case h0 => omega); (case h1 => omega))
  | with_reducible refine o_isNT ?_))
local macro_rules | `(tactic| walk_at "wt") => `(tactic| (first
  | with_reducible refine wt_test ?_
  | with_reducible refine wt_B ?_
  | with_reducible refine wt_not ?_
  | with_reducible refine wt_and ?_
  | with_reducible refine wt_or ?_))
local macro_rules | `(tactic| walk_at "ws") => `(tactic| (first
  | with_reducible refine ws_seq ?_
  | with_reducible refine ws_asg ?_
  | with_reducible refine ws_if ?_
  | with_reducible refine ws_ret ?_
  | with_reducible refine ws_next ?_
  | with_reducible refine ws_drop ?_
  | with_reducible refine ws_par ?_
  | ((with_reducible refine ws_asg2 ?hn ?_); (case hn => rfl))))
local macro_rules | `(tactic| walk_at "no") => `(tactic| first
  | (intro hb; exact Bool.noConfusion (show (true : Bool) = false from hb))
  | (intro hb; exact Bool.noConfusion (show (false : Bool) = true from hb)))
local macro_rules | `(tactic| walk_at "br") => `(tactic| first
  | (refine ⟨?_, ?no⟩; (case no => walk_at "no"); (intro _))
  | (refine ⟨?no, ?_⟩; (case no => walk_at "no"); (intro _)))
local macro_rules | `(tactic| walk_at "ex") => `(tactic| first
  | (refine ⟨_, rfl, ?_⟩)
  | (refine ⟨_, _, rfl, rfl, ?_⟩)
  | (refine ⟨_, _, rfl, ?_⟩)
  | (refine ⟨_, _, _, rfl, ?_⟩)
  | (refine ⟨_, _, _, _, rfl, ?_⟩)
  | (refine ⟨_, .inr rfl, ?_⟩)
  | (refine ⟨_, .inl rfl, ?_⟩))
local macro_rules | `(tactic| walk_at "r") => `(tactic| repeat (first
  | ((with_reducible show MW.WE _ _ _ _ _); walk_at "we")
  | ((with_reducible show MW.Op2 _ _ _ _ _ _ _); walk_at "op2")
  | ((with_reducible show MW.WS _ _ _ _ _); walk_at "ws")
  | ((with_reducible show MW.WA _ _ _ _ _); first | with_reducible refine wa_cons ?_ | with_reducible refine wa_nil ?_)
  | ((with_reducible show MW.WT _ _ _ _ _); walk_at "wt")
  | ((with_reducible show Exists _); walk_at "ex")
  | ((with_reducible show And _ _); first | walk_at "br" | (refine ⟨by decide, ?_⟩) | (refine ⟨Nat.le_of_ble_eq_true rfl, ?_⟩) | (refine ⟨.inl ⟨_, rfl⟩, ?_⟩) | (refine ⟨.inr (.inl ⟨_, rfl⟩), ?_⟩) | (refine ⟨.inr (.inr ⟨_, rfl⟩), ?_⟩))
  | walk_at "norm1"
  | walk_at "ex"))
local macro_rules | `(tactic| walk_at "q") => `(tactic| repeat (first
  | ((with_reducible show MW.WE _ _ _ _ _); first | with_reducible refine we_wl (wl_cat ?_) | with_reducible refine we_wl (wl_lst ?_) | walk_at "we")
  | ((with_reducible show MW.Op2 _ _ _ _ _ _ _); walk_at "op2")
  | ((with_reducible show MW.WS _ _ _ _ _); walk_at "ws")
  | ((with_reducible show MW.WA _ _ _ _ _); first | with_reducible refine wa_cons ?_ | with_reducible refine wa_nil ?_)
  | ((with_reducible show MW.WT _ _ _ _ _); walk_at "wt")
  | ((with_reducible show Exists _); walk_at "ex")
  | ((with_reducible show And _ _); first | walk_at "br" | (refine ⟨by decide, ?_⟩) | (refine ⟨Nat.le_of_ble_eq_true rfl, ?_⟩) | (refine ⟨.inl ⟨_, rfl⟩, ?_⟩) | (refine ⟨.inr (.inl ⟨_, rfl⟩), ?_⟩) | (refine ⟨.inr (.inr ⟨_, rfl⟩), ?_⟩))
  | walk_at "norm1"
  | walk_at "ex"))
local macro_rules | `(tactic| walk_at "le") => `(tactic| ((try refine ⟨rfl, ?_⟩); repeat (first | exact Le.nil | refine Le.eq ?_ | refine Le.any ?_)))

theorem sc_by_sum : FnScope ["_law_lots", "_law_sums_so", "_law_content", "_law_number", "_law_one"] ["_law_lots"] (defScope s_by_sum) := ⟨rfl, rfl, rfl, by decide +kernel, rfl, by decide +kernel, by decide +kernel⟩
def bysF (t : TabI) (p : Ct × Int) : TabI := iput t p.1.sum ((iget t p.1.sum).getD 0 + p.2)
theorem iput_sub {t : TabI} {c x : Int} {k : Int} (h : k ∈ (iput t c x).map (·.1)) : k = c ∨ k ∈ t.map (·.1) := by
  obtain ⟨p, hp, rfl⟩ := List.mem_map.mp h
  unfold iput at hp
  split at hp
  · obtain ⟨q, hq, e⟩ := List.mem_map.mp hp
    split at e
    · rename_i h1
      rw [← e]
      exact .inl h1
    · rw [← e]
      exact .inr (List.mem_map.mpr ⟨q, hq, rfl⟩)
  · rcases List.mem_append.mp hp with hp | hp
    · exact .inr (List.mem_map.mpr ⟨p, hp, rfl⟩)
    · rw [List.mem_singleton.mp hp]; exact .inl rfl
theorem iget_in {t : TabI} {c : Int} (h : c ∈ t.map (·.1)) : ∃ x, iget t c = some x := by
  obtain ⟨p, hp, e⟩ := List.mem_map.mp h
  unfold iget
  cases q : t.find? fun p => decide (p.1 = c) with
  | none =>
    have := List.find?_eq_none.mp q p hp
    rw [decide_eq_true e] at this
    exact absurd rfl this
  | some r => exact ⟨r.2, rfl⟩
def sp_by_sum : SpecD := fun ds R => ∃ (lots : Tab), ds = [lotsD lots] ∧ lots.length ≤ 1000 ∧ ∀ sums : TabI, sums.length ≤ lots.length → (∀ p ∈ sums, ∃ q ∈ lots, p.1 = q.1.sum) → R (.lst (sums.map fun p => .tup [.int p.1, .int p.2]))
theorem ok_by_sum {P : Program} {w : World} {K : PySem.W.Frag} {mg : Str → Option Value} {base h : Heap} (T : Tx K mg h)  :
    Ok P w K mg base "_law_by_sum" ["_law_lots"] 1 (SpP K sp_by_sum) := by
  obtain ⟨fd, F⟩ := T.c.def_ 53 (d := d_by_sum) rfl
  have F : FnP K "_law_by_sum" s_by_sum (He.ga K "_law_by_sum") fd := F
  have len : ∀ ds R, sp_by_sum ds R → ds.length = 1 := (fun ds R h => by obtain ⟨_, rfl, _⟩ := h; rfl)
  refine Ok.of F (He.glo_ok T.X T.G (T.c.fact 53 (f := .glo "_law_by_sum") rfl)) (FunD.bindsN F fun _ _ _ _ _ _ us hl => match us, hl with | [_], _ => rfl)
    (FunD.ok F sc_by_sum (fun vs H Q E h => lenP (n := 1) h len) (fun cdv A outer s H vs Q E hr hq => ⟨_, PSs.nox (pss_cons (ps_set (i := 1) sc_by_sum.nd rfl (by first | exact .inl rfl | exact .inr rfl) pe_dnewK)
    (pss_cons (ps_for PassesOwn.never (by rfl) (pi_list (pv 0)) (pg_tup (n := 2) (by rfl) (pgs_cons (pg_name (i := 2) sc_by_sum.nd rfl (by first | exact .inl rfl | exact .inr rfl)) (pgs_cons (pg_name (i := 3) sc_by_sum.nd rfl (by first | exact .inl rfl | exact .inr rfl)) pgs_nil))) (pss_one (ps_dput (hu_of hr) (pv 1) (pe_callB (cr_sumT (by rfl)) (by rfl) T.sum_ (by decide +kernel) (pa_cons (pv 2) pa_nil)) (pe_op op_add (pe_dget2 (hu_of hr) (pv 1) (pe_callB (cr_sumT (by rfl)) (by rfl) T.sum_ (by decide +kernel) (pa_cons (pv 2) pa_nil)) pe_int ⟨by rfl, by rfl, by rfl, by rfl⟩) (pv 3)) rfl)))
    (pss_one (ps_ret (pe_lc (own := [("_law_one", 4)]) (by rfl) sc_by_sum.nd (pi_list (pe_callB cr_sortedI (by rfl) T.sorted_ (by decide +kernel) (pa_cons (pe_callTy (call_list_dK (by rfl)) (by rfl) T.list_ (by decide +kernel) (pa_cons (pv 1) pa_nil)) pa_nil))) (blkOk_by (own := [("_law_one", 4)]) (by rfl)) (fun _ _ _ _ _ => (pg_name (i := 4) sc_by_sum.nd rfl (by first | exact .inl rfl | exact .inr rfl))) (fun _ _ _ _ _ => pts_nil) (fun _ _ _ _ _ => (pe_tup (pa_cons (pv 4) (pa_cons (pe_dget (hu_of hr) (pv 1) (pv 4) (fun _ _ => rfl)) pa_nil))))))))), ?_⟩))
  refine fn_run (n := 1) hq len (by decide) fun ds R hs => ?_
  try dsimp only [cxOf]
  obtain ⟨lots, rfl, hl, hR⟩ := hs
  show WS K _ 0 [.sh (lotsD lots), .any, .any, .any, .any] _
  have hF : ∀ k, ((lots.take k).foldl bysF []).length ≤ k ∧ ∀ s ∈ ((lots.take k).foldl bysF []).map (·.1), ∃ q ∈ lots, s = q.1.sum := fun k => by
    induction k with
    | zero => exact ⟨Nat.le_refl _, fun s h => by cases h⟩
    | succ k ih =>
      cases e : lots[k]? with
      | none =>
        have : lots.length ≤ k := List.getElem?_eq_none_iff.mp e
        rw [List.take_of_length_le this] at ih
        rw [List.take_of_length_le (by omega)]
        exact ⟨by omega, ih.2⟩
      | some p =>
        rw [foldl_take e]
        generalize (lots.take k).foldl bysF [] = t at ih
        refine ⟨Nat.le_trans (iput_len _ _ _) (by omega), fun s h => ?_⟩
        rcases iput_sub h with h | h
        · exact ⟨p, List.mem_of_getElem? e, h⟩
        · exact ih.2 s h
  refine ws_seq (ws_asgDK ?_)
  dsimp only [Then]
  refine ws_seq (for_two rfl mono_then (src_list (we_var (d := lotsD lots) rfl ⟨_, rfl, ?_⟩)))
  refine ⟨fun k => [.sh (lotsD lots), .dik ((lots.take k).foldl bysF []), .any, .any, .any], by walk_at "le", fun k x hx => ?_, ?_⟩
  · obtain ⟨p, hk, rfl⟩ := mem_map_get hx
    obtain ⟨h1, _⟩ := hF k
    have hkl := (List.getElem?_eq_some_iff.mp hk).1
    refine ⟨_, _, rfl, ?_⟩
    dsimp only
    rw [foldl_take hk]
    generalize (lots.take k).foldl bysF [] = t at h1
    refine ws_dputI rfl ?_
    refine we_op (we_dget2I rfl ?_)
    walk_at "r"
    refine ⟨by omega, ?_⟩
    unfold bysF
    walk_at "le"
  · dsimp only
    rw [List.length_map]
    obtain ⟨h1, h2⟩ := hF lots.length
    generalize (lots.take lots.length).foldl bysF [] = t at h1 h2
    refine ws_giveI (i := 1) rfl ?_
    refine ws_ret (we_wl (wl_mapN ?hv ?hj (wl_sortI (we_wl (wl_listTik (we_var (d := .tik t) rfl ⟨t, rfl, ?_⟩))))))
    case hv => exact any_of (by rfl)
    case hj => decide
    have e1 : (t.map fun p => D.int p.1) = (t.map (·.1)).map D.int := by rw [List.map_map]; rfl
    rw [e1]
    refine ⟨t.map (·.1), rfl, fun ns hp => ?_⟩
    refine ⟨fun d => .tup [d, .int ((iget t (asInt d)).getD 0)], by rw [List.length_map, hp.length_eq, List.length_map]; omega, fun k x hx => ?_, ?_⟩
    · obtain ⟨c, hk, rfl⟩ := mem_map_get hx
      obtain ⟨y, hy⟩ := iget_in (hp.mem_iff.mp (List.mem_of_getElem? hk))
      refine we_tup (wa_cons (we_var (d := .int c) rfl (wa_cons (we_dgetI (we_var (d := .tik t) rfl (we_var (d := .int c) rfl ⟨t, c, y, rfl, rfl, hy, wa_nil ⟨by simp, rfl, ?_⟩⟩))))))
      show _ = D.tup [.int c, .int ((iget t c).getD 0)]
      rw [hy]
      rfl
    · have e2 : (ns.map D.int).map (fun d => D.tup [d, .int ((iget t (asInt d)).getD 0)]) = (ns.map fun c => (c, (iget t c).getD 0)).map fun p => D.tup [.int p.1, .int p.2] := by
        rw [List.map_map, List.map_map]
        rfl
      rw [e2]
      refine hR _ (by rw [List.length_map, hp.length_eq, List.length_map]; exact h1) fun p hp2 => ?_
      obtain ⟨c, hc, rfl⟩ := List.mem_map.mp hp2
      exact h2 c (hp.mem_iff.mp hc)
end ME
end
section
set_option Elab.async false
set_option linter.all false
set_option maxRecDepth 100000
set_option maxHeartbeats 4000000
namespace ME
open PySem L2 MW
local macro_rules | `(tactic| walk_at "norm1") => `(tactic| dsimp only [Then, LoopP, FnPost, FnPostS])
local macro_rules | `(tactic| walk_at "mul") => `(tactic| (first
  | exact Or.inl ⟨by omega, by omega⟩
  | exact Or.inr ⟨by omega, by omega⟩))
local macro_rules | `(tactic| walk_at "we") => `(tactic| (first
  | ((with_reducible refine we_var (d := ?d) ?he ?_); (case he => exact rfl))
  | with_reducible refine we_int ?_
  | with_reducible refine we_str ?_
  | with_reducible refine we_op ?_
  | with_reducible refine we_cl ?_
  | with_reducible refine we_tup ?_
  | with_reducible refine we_bl ?_
  | with_reducible refine we_non ?_
  | with_reducible refine we_if ?_
  | ((with_reducible refine we_lenO (ds := ?ds) ?he ?_); (case he => exact rfl))
  | with_reducible refine we_len ?_
  | with_reducible refine we_int1 ?_
  | with_reducible refine we_andV ?_
  | with_reducible refine we_orV ?_
  | with_reducible refine we_notV ?_
  | with_reducible refine we_neg ?_
  | with_reducible refine we_chain ?_
  | with_reducible refine we_dget ?_
  | ((with_reducible refine we_dget2O (t := ?t) ?he ?_); (case he => exact rfl))
  | ((with_reducible refine we_dget2I (t := ?t) ?he ?_); (case he => exact rfl))
  | with_reducible refine we_dget2 ?_
  | ((with_reducible refine we_isi ?ht ?_); (case ht => first | exact .inl rfl | exact .inr (.inl rfl) | exact .inr (.inr (.inl rfl)) | exact .inr (.inr (.inr rfl))))
  | ((with_reducible refine we_clS ?he ?_); (case he => exact rfl))
  | with_reducible refine we_max2 ?_
  | with_reducible refine we_dispT1 ?_
  | with_reducible refine we_dispT2 ?_
  | ((with_reducible refine we_tupOfO (ds := ?ds) ?he ?_); (case he => exact rfl))
  | with_reducible refine we_sumT ?_
  | with_reducible refine we_divmod ?_
  | with_reducible refine we_newT ?_))
local macro_rules | `(tactic| walk_at "op2") => `(tactic| (first
  | ((with_reducible refine o_ixT (d := ?d) ?he ?_); (case he => exact rfl))
  | with_reducible refine o_eqS ?_
  | with_reducible refine o_eqI ?_
  | with_reducible refine o_add ?_
  | with_reducible refine o_sub ?_
  | ((with_reducible refine o_inT (x := ?x) (xs := ?xs) ?hx ?hs ?_); (case hx => exact rfl); (case hs => exact rfl))
  | ((with_reducible refine o_mul ?hc ?_); (case hc => walk_at "mul"))
  | ((with_reducible refine o_mod ?hc ?_); (case hc => omega))
  | ((with_reducible refine o_div ?hc ?_); (case hc => exact ⟨by omega, by omega⟩))
  | with_reducible refine o_lt ?_
  | with_reducible refine o_le ?_
  | with_reducible refine o_gt ?_
  | with_reducible refine o_ge ?_
  | with_reducible refine o_neI ?_
  | ((with_reducible refine o_ixL (d := ?d) ?he ?_); (case he => exact rfl))
  | ((with_reducible refine o_inL (x := ?x) (xs := ?xs) ?hx ?hs ?_); (case hx => exact rfl); (case hs => exact rfl))
  | ((with_reducible refine o_catT ?hl ?_); (case hl => (simp only [List.length_cons, List.length_nil, List.length_append, List.length_map, List.length_replicate]; omega)))
  | ((with_reducible refine o_repTI ?h0 ?h1 ?_); (case h0 => omega); (case h1 => omega))
  | with_reducible refine o_isNT ?_))
local macro_rules | `(tactic| walk_at "wt") => `(tactic| (first
  | with_reducible refine wt_test ?_
  | with_reducible refine wt_B ?_
  | with_reducible refine wt_not ?_
  | with_reducible refine wt_and ?_
  | with_reducible refine wt_or ?_))
local macro_rules | `(tactic| walk_at "ws") => `(tactic| (first
  | with_reducible refine ws_seq ?_
  | with_reducible refine ws_asg ?_
  | with_reducible refine ws_if ?_
  | with_reducible refine ws_ret ?_
  | with_reducible refine ws_next ?_
  | with_reducible refine ws_drop ?_
  | with_reducible refine ws_par ?_
  | ((with_reducible refine ws_asg2 ?hn ?_); (case hn => rfl))))
local macro_rules | `(tactic| walk_at "no") => `(tactic| first
  | (intro hb; exact Bool.noConfusion (show (true : Bool) = false from hb))
  | (intro hb; exact Bool.noConfusion (show (false : Bool) = true from hb)))
local macro_rules | `(tactic| walk_at "br") => `(tactic| first
  | (refine ⟨?_, ?no⟩; (case no => walk_at "no"); (intro _))
  | (refine ⟨?no, ?_⟩; (case no => walk_at "no"); (intro _)))
local macro_rules | `(tactic| walk_at "ex") => `(tactic| first
  | (refine ⟨_, rfl, ?_⟩)
  | (refine ⟨_, _, rfl, rfl, ?_⟩)
  | (refine ⟨_, _, rfl, ?_⟩)
  | (refine ⟨_, _, _, rfl, ?_⟩)
  | (refine ⟨_, _, _, _, rfl, ?_⟩)
  | (refine ⟨_, .inr rfl, ?_⟩)
  | (refine ⟨_, .inl rfl, ?_⟩))
local macro_rules | `(tactic| walk_at "r") => `(tactic| repeat (first
  | ((with_reducible show MW.WE _ _ _ _ _); walk_at "we")
  | ((with_reducible show MW.Op2 _ _ _ _ _ _ _); walk_at "op2")
  | ((with_reducible show MW.WS _ _ _ _ _); walk_at "ws")
  | ((with_reducible show MW.WA _ _ _ _ _); first | with_reducible refine wa_cons ?_ | with_reducible refine wa_nil ?_)
  | ((with_reducible show MW.WT _ _ _ _ _); walk_at "wt")
  | ((with_reducible show Exists _); walk_at "ex")
  | ((with_reducible show And _ _); first | walk_at "br" | (refine ⟨by decide, ?_⟩) | (refine ⟨Nat.le_of_ble_eq_true rfl, ?_⟩) | (refine ⟨.inl ⟨_, rfl⟩, ?_⟩) | (refine ⟨.inr (.inl ⟨_, rfl⟩), ?_⟩) | (refine ⟨.inr (.inr ⟨_, rfl⟩), ?_⟩))
  | walk_at "norm1"
  | walk_at "ex"))
local macro_rules | `(tactic| walk_at "q") => `(tactic| repeat (first
  | ((with_reducible show MW.WE _ _ _ _ _); first | with_reducible refine we_wl (wl_cat ?_) | with_reducible refine we_wl (wl_lst ?_) | walk_at "we")
  | ((with_reducible show MW.Op2 _ _ _ _ _ _ _); walk_at "op2")
  | ((with_reducible show MW.WS _ _ _ _ _); walk_at "ws")
  | ((with_reducible show MW.WA _ _ _ _ _); first | with_reducible refine wa_cons ?_ | with_reducible refine wa_nil ?_)
  | ((with_reducible show MW.WT _ _ _ _ _); walk_at "wt")
  | ((with_reducible show Exists _); walk_at "ex")
  | ((with_reducible show And _ _); first | walk_at "br" | (refine ⟨by decide, ?_⟩) | (refine ⟨Nat.le_of_ble_eq_true rfl, ?_⟩) | (refine ⟨.inl ⟨_, rfl⟩, ?_⟩) | (refine ⟨.inr (.inl ⟨_, rfl⟩), ?_⟩) | (refine ⟨.inr (.inr ⟨_, rfl⟩), ?_⟩))
  | walk_at "norm1"
  | walk_at "ex"))
local macro_rules | `(tactic| walk_at "le") => `(tactic| ((try refine ⟨rfl, ?_⟩); repeat (first | exact Le.nil | refine Le.eq ?_ | refine Le.any ?_)))

theorem sc_draw : FnScope ["_law_state", "_law_limit", "_law_at_here", "_law_place", "_law_left", "_law_number"] ["_law_state", "_law_limit"] (defScope s_draw) := ⟨rfl, rfl, rfl, by decide +kernel, rfl, by decide +kernel, by decide +kernel⟩
def sp_draw : SpecS := fun m ds R => ∃ (L : Int), ds = [.int L] ∧ 0 < L ∧ L ≤ 1000000 ∧ m ≤ 6400000 ∧ 0 < m % 64 ∧ ∀ r : Nat, (r : Int) < L → R (.int r) (m + 64)
theorem ok_draw {P : Program} {w : World} {K : PySem.W.Frag} {mg : Str → Option Value} {base h : Heap} (T : Tx K mg h) (o_mixed : Ok P w K mg base "_law_mixed" ["_law_cell", "_law_k"] 1 (SpP K sp_mixed)) :
    Ok P w K mg base "_law_draw" ["_law_state", "_law_limit"] 2 (SpS K sp_draw) := by
  obtain ⟨fd, F⟩ := T.c.def_ 32 (d := d_draw) rfl
  have F : FnP K "_law_draw" s_draw (He.ga K "_law_draw") fd := F
  have len : ∀ m ds R, sp_draw m ds R → ds.length + 1 = 2 := (fun m ds R h => by obtain ⟨_, rfl, _⟩ := h; rfl)
  refine Ok.of F (He.glo_ok T.X T.G (T.c.fact 32 (f := .glo "_law_draw") rfl)) (FunD.bindsN F fun _ _ _ _ _ _ us hl => match us, hl with | [_, _], _ => rfl)
    (FunD.ok F sc_draw (fun vs H Q E h => lenS (n := 2) h len) (fun cdv A outer s H vs Q E hr hq => ⟨_, PSs.nox (pss_cons (ps_set (i := 2) sc_draw.nd rfl (by first | exact .inl rfl | exact .inr rfl) (pe_dget (hu_of hr) (pv 0) pe_str (fun _ _ => rfl)))
    (pss_cons (ps_dput (hu_of hr) (pv 0) pe_str (pe_op op_add (pv 2) pe_int) rfl)
    (pss_cons (ps_set (i := 3) sc_draw.nd rfl (by first | exact .inl rfl | exact .inr rfl) (pe_op op_mod (pe_callTy call_int1 (by rfl) T.int_ (by decide +kernel) (pa_cons (pv 2) pa_nil)) (pe_callB call_len_seq (by rfl) T.len_ PySem.boot_len (pa_cons (pe_dget (hu_of hr) (pv 0) pe_str (fun _ _ => rfl)) pa_nil))))
    (pss_cons (ps_set (i := 4) sc_draw.nd rfl (by first | exact .inl rfl | exact .inr rfl) (pe_ix ix_list (pe_dget (hu_of hr) (pv 0) pe_str (fun _ _ => rfl)) (pv 3) (fun _ _ => rfl)))
    (pss_cons (ps_if (pt_cmpR op_gt (pv 4) pe_int (by rfl)) (pss_cons (ps_asg (pe_op op_fdiv (pv 4) (pv 1)) (pg_sub (pe_dget (hu_of hr) (pv 0) pe_str (fun _ _ => rfl)) (pv 3) set_list))
    (pss_one (ps_ret (pe_op op_mod (pe_callTy call_int1 (by rfl) T.int_ (by decide +kernel) (pa_cons (pv 4) pa_nil)) (pv 1))))) pss_nil)
    (pss_cons (ps_set (i := 5) sc_draw.nd rfl (by first | exact .inl rfl | exact .inr rfl) (pe_cl o_mixed (hr.mono (by omega)) (by rfl) (pa_cons (pe_cl o_mixed (hr.mono (by omega)) (by rfl) (pa_cons (pe_ix ix_list (pe_dget (hu_of hr) (pv 0) pe_str (fun _ _ => rfl)) (pv 3) (fun _ _ => rfl)) (pa_cons (pv 2) pa_nil))) (pa_cons (pe_op op_add pe_int (pv 2)) pa_nil))))
    (pss_one (ps_ret (pe_op op_mod (pe_op op_fdiv (pe_callTy call_int1 (by rfl) T.int_ (by decide +kernel) (pa_cons (pe_op op_add (pe_op op_mul (pv 5) pe_int) (pe_cl o_mixed (hr.mono (by omega)) (by rfl) (pa_cons (pv 5) (pa_cons (pe_op op_add pe_int (pv 2)) pa_nil)))) pa_nil)) pe_int) (pv 1)))))))))), ?_⟩))
  refine fn_runS (n := 2) hq len (by decide) fun m ds R hs => ?_
  try dsimp only [cxOf]
  obtain ⟨L, rfl, hL, hL2, hm, h0, hR⟩ := hs
  show WS K _ m [.sta, .sh (.int L), .any, .any, .any, .any] _
  have e64 : (m + 64) % 64 = m % 64 := by omega
  have fin : ∀ z : Int, R (.int (z % L)) (m + 64) := fun z => by
    have h1 := Int.emod_nonneg z (show L ≠ 0 by omega)
    have h2 := Int.emod_lt_of_pos z hL
    obtain ⟨r, hr⟩ := Int.eq_ofNat_of_zero_le h1
    rw [hr]
    exact hR r (by omega)
  refine ws_seq (ws_asg (we_stAt rfl ?_))
  refine ws_seq (ws_stAt rfl ?_)
  walk_at "r"
  refine ⟨rfl, ?_⟩
  refine ws_seq (ws_asg (we_op (we_int1 (we_var (d := .int ((m / 64 : Nat) : Int)) rfl ⟨_, rfl, we_len (we_stCells rfl fun c hc hc0 => ⟨_, .inl rfl, ?_⟩)⟩))))
  have hlen : (c.map D.int).length = m % 64 := by rw [List.length_map]; omega
  rw [hlen]
  refine o_mod (by omega) ?_
  rw [← Int.natCast_emod]
  generalize hp : m / 64 % (m % 64) = place
  have hpl : place < m % 64 := by rw [← hp]; exact Nat.mod_lt _ h0
  refine ws_seq (ws_asg (we_stLeft rfl (we_var (d := .int place) rfl ⟨place, rfl, by omega, fun left hl => ?_⟩)))
  walk_at "r"
  refine ⟨fun hb => ?_, fun hb => ?_⟩
  · have hb := of_decide_eq_true hb
    refine ws_seq (ws_stLeft rfl ?_)
    walk_at "r"
    refine ⟨Int.ediv_nonneg hl (by omega), ?_⟩
    refine we_var (d := .int place) rfl ⟨place, rfl, by omega, ?_⟩
    walk_at "r"
    exact fin _
  · refine ws_next ?_
    refine ws_seq (ws_asg (we_cl (wa_cons (we_cl (wa_cons (we_op (we_stCells rfl fun c hc hc0 => we_var (d := .int place) rfl (o_ixL (d := .int (c.getD place 0)) (atI_nat ?_) ?_))))))))
    · rw [List.getElem?_map, List.getD_eq_getElem?_getD, List.getElem?_eq_getElem (show place < c.length by omega)]
      rfl
    walk_at "r"
    refine ⟨by omega, by omega, ?_⟩
    walk_at "r"
    refine ⟨by omega, by omega, ?_⟩
    walk_at "r"
    refine ⟨by omega, by omega, ?_⟩
    walk_at "r"
    exact fin _
theorem sc_of : FnScope ["_law_state", "_law_some"] ["_law_state", "_law_some"] (defScope s_of) := ⟨rfl, rfl, rfl, by decide +kernel, rfl, by decide +kernel, by decide +kernel⟩
def sp_of : SpecS := fun m ds R => ∃ (some : List D), ds = [.lst some] ∧ 0 < some.length ∧ some.length ≤ 1000000 ∧ m ≤ 6400000 ∧ 0 < m % 64 ∧ ∀ x ∈ some, R x (m + 64)
theorem ok_of {P : Program} {w : World} {K : PySem.W.Frag} {mg : Str → Option Value} {base h : Heap} (T : Tx K mg h) (o_draw : Ok P w K mg base "_law_draw" ["_law_state", "_law_limit"] 2 (SpS K sp_draw)) :
    Ok P w K mg base "_law_of" ["_law_state", "_law_some"] 3 (SpS K sp_of) := by
  obtain ⟨fd, F⟩ := T.c.def_ 33 (d := d_of) rfl
  have F : FnP K "_law_of" s_of (He.ga K "_law_of") fd := F
  have len : ∀ m ds R, sp_of m ds R → ds.length + 1 = 2 := (fun m ds R h => by obtain ⟨_, rfl, _⟩ := h; rfl)
  refine Ok.of F (He.glo_ok T.X T.G (T.c.fact 33 (f := .glo "_law_of") rfl)) (FunD.bindsN F fun _ _ _ _ _ _ us hl => match us, hl with | [_, _], _ => rfl)
    (FunD.ok F sc_of (fun vs H Q E h => lenS (n := 2) h len) (fun cdv A outer s H vs Q E hr hq => ⟨_, PSs.nox (pss_one (ps_ret (pe_ix ix_list (pv 1) (pe_cl o_draw (hr.mono (by omega)) (by rfl) (pa_cons (pv 0) (pa_cons (pe_callB call_len_seq (by rfl) T.len_ PySem.boot_len (pa_cons (pv 1) pa_nil)) pa_nil))) (fun _ _ => rfl)))), ?_⟩))
  refine fn_runS (n := 2) hq len (by decide) fun m ds R hs => ?_
  try dsimp only [cxOf]
  obtain ⟨some, rfl, hL, hL2, hm, h0, hR⟩ := hs
  show WS K _ m [.sta, .sh (.lst some)] _
  refine ws_ret (we_op (we_var (d := .lst some) rfl ?_))
  walk_at "r"
  refine ⟨by omega, by omega, hm, h0, fun r hr => ?_⟩
  have hr : r < some.length := by omega
  exact o_ixL (d := some[r]) (atI_nat (List.getElem?_eq_getElem hr)) (hR _ (List.getElem_mem _))
theorem sc_shuffled : FnScope ["_law_state", "_law_row", "_law_left", "_law_found", "_law_step"] ["_law_state", "_law_row"] (defScope s_shuffled) := ⟨rfl, rfl, rfl, by decide +kernel, rfl, by decide +kernel, by decide +kernel⟩
def sp_shuffled : SpecS := fun m ds R => ∃ (row : Ct), ds = [.ints row] ∧ row.length ≤ 1000 ∧ m ≤ 64000 ∧ 0 < m % 64 ∧ ∀ row' : Ct, row'.Perm row → R (.ints row') (m + 64 * row.length)
theorem ok_shuffled {P : Program} {w : World} {K : PySem.W.Frag} {mg : Str → Option Value} {base h : Heap} (T : Tx K mg h) (o_draw : Ok P w K mg base "_law_draw" ["_law_state", "_law_limit"] 2 (SpS K sp_draw)) :
    Ok P w K mg base "_law_shuffled" ["_law_state", "_law_row"] 3 (SpS K sp_shuffled) := by
  obtain ⟨fd, F⟩ := T.c.def_ 59 (d := d_shuffled) rfl
  have F : FnP K "_law_shuffled" s_shuffled (He.ga K "_law_shuffled") fd := F
  have len : ∀ m ds R, sp_shuffled m ds R → ds.length + 1 = 2 := (fun m ds R h => by obtain ⟨_, rfl, _⟩ := h; rfl)
  refine Ok.of F (He.glo_ok T.X T.G (T.c.fact 59 (f := .glo "_law_shuffled") rfl)) (FunD.bindsN F fun _ _ _ _ _ _ us hl => match us, hl with | [_, _], _ => rfl)
    (FunD.ok F sc_shuffled (fun vs H Q E h => lenS (n := 2) h len) (fun cdv A outer s H vs Q E hr hq => ⟨_, PSs.nox (pss_cons (ps_par (i := 2) (j := 3) (by rfl) sc_shuffled.nd rfl rfl (by decide) rfl rfl (pa_cons (pe_callTy call_list_of (by rfl) T.list_ (by decide +kernel) (pa_cons (pv 1) pa_nil)) (pa_cons (pe_lst pa_nil) pa_nil)) (by rfl))
    (pss_cons (ps_for PassesOwn.never (by rfl) (pi_range1 (by rfl) T.range_ (pa_cons (pe_callB call_len_seq (by rfl) T.len_ PySem.boot_len (pa_cons (pv 1) pa_nil)) pa_nil)) (pg_name (i := 4) sc_shuffled.nd rfl (by first | exact .inl rfl | exact .inr rfl)) (pss_one (ps_expr (pe_bm PySem.F.plainAttrs_list PySem.F.slot_list_append PySem.F.type_list_append mt_append (pv 3) (pa_cons (pe_bm PySem.F.plainAttrs_list PySem.F.slot_list_pop PySem.F.type_list_pop mt_popAt (pv 2) (pa_cons (pe_cl o_draw (hr.mono (by omega)) (by rfl) (pa_cons (pv 0) (pa_cons (pe_callB call_len_seq (by rfl) T.len_ PySem.boot_len (pa_cons (pv 2) pa_nil)) pa_nil))) pa_nil)) pa_nil)))))
    (pss_one (ps_ret (pe_callTy call_tuple_of (by rfl) T.tuple_ (by decide +kernel) (pa_cons (pv 3) pa_nil)))))), ?_⟩))
  refine fn_runS (n := 2) hq len (by decide) fun m ds R hs => ?_
  try dsimp only [cxOf]
  obtain ⟨row, rfl, hL, hm, h0, hR⟩ := hs
  show WS K _ m [.sta, .sh (.ints row), .any, .any, .any] _
  refine ws_seq (ws_par2L (by decide) (wl_listOf (we_var (d := .ints row) rfl ⟨_, .inr rfl, ?_⟩)))
  walk_at "r"
  refine ws_for (is := [4]) (src_rng1 (we_len (we_var (d := .ints row) rfl ⟨_, .inr rfl, ⟨_, rfl, by rw [List.length_map]; omega, by omega, ?_⟩⟩)))
  refine ⟨fun k m2 e2 => m2 = m + 64 * k ∧ ∃ left found : Ct, (found ++ left).Perm row ∧ found.length = k ∧ Le [.sta, .sh (.ints row), .lst (left.map D.int), .lst (found.map D.int), .any] e2, ⟨rfl, row, [], List.Perm.refl _, rfl, by walk_at "le"⟩, fun k x m2 e2 hx ⟨hm2, left, found, hp, hf, hle⟩ => wg_name ?_, fun m2 e2 ⟨hm2, left, found, hp, hf, hle⟩ => ?_⟩
  · obtain ⟨rfl, hk⟩ := rng_get hx
    have hk : k < row.length := by rw [List.length_map] at hk; omega
    have hpl := hp.length_eq
    rw [List.length_append] at hpl
    refine ws_le ?_ (hle.set 4 _)
    subst hm2
    refine ws_appPop (by decide) rfl rfl ?_
    refine we_clS rfl (wa_cons (we_lenO rfl (wa_nil ⟨_, rfl, by rw [List.length_map]; omega, by rw [List.length_map]; omega, by omega, by omega, fun r hr => ?_⟩)))
    have hr : r < left.length := by rw [List.length_map] at hr; omega
    have hg : left[r]? = some left[r] := List.getElem?_eq_getElem hr
    refine ⟨r, .int left[r], rfl, by rw [List.getElem?_map, hg]; rfl, by omega, by rw [List.length_map]; omega, ?_⟩
    refine ⟨by omega, left.eraseIdx r, found ++ [left[r]], ?_, by rw [List.length_append, hf]; rfl, ?_⟩
    · refine List.Perm.trans ?_ hp
      rw [List.append_assoc]
      refine List.Perm.append_left found ?_
      have e := List.take_append_drop r left
      have e2 : left.drop r = left[r] :: left.drop (r + 1) := List.drop_eq_getElem_cons hr
      have e3 : left.eraseIdx r = left.take r ++ left.drop (r + 1) := List.eraseIdx_eq_take_drop_succ ..
      rw [e3]
      have e4 : left.take r ++ left[r] :: left.drop (r + 1) = left := by rw [← e2, e]
      have p := (List.perm_middle (l₁ := left.take r) (a := left[r]) (l₂ := left.drop (r + 1))).symm
      rw [e4] at p
      exact p
    · have e1 : (left.map D.int).eraseIdx r = (left.eraseIdx r).map D.int := (erase_map left r).symm
      rw [e1, List.map_append]
      walk_at "le"
  · rw [rng_len, List.length_map] at hf hm2
    have hk : ((row.length : Nat) - (0 : Int)).toNat = row.length := by omega
    rw [hk] at hf hm2
    have hpl := hp.length_eq
    rw [List.length_append] at hpl
    have hl0 : left = [] := List.eq_nil_of_length_eq_zero (by omega)
    subst hl0
    rw [List.append_nil] at hp
    subst hm2
    refine ws_le ?_ hle
    refine ws_ret (we_tupOfO rfl ?_)
    exact hR found hp
end ME
end
section
set_option Elab.async false
set_option linter.all false
set_option maxRecDepth 100000
set_option maxHeartbeats 4000000
namespace ME
open PySem L2 MW
local macro_rules | `(tactic| walk_at "norm1") => `(tactic| dsimp only [Then, LoopP, FnPost, FnPostS])
local macro_rules | `(tactic| walk_at "mul") => `(tactic| (first
  | exact Or.inl ⟨by omega, by omega⟩
  | exact Or.inr ⟨by omega, by omega⟩))
local macro_rules | `(tactic| walk_at "we") => `(tactic| (first
  | ((with_reducible refine we_var (d := ?d) ?he ?_); (case he => exact rfl))
  | with_reducible refine we_int ?_
  | with_reducible refine we_str ?_
  | with_reducible refine we_op ?_
  | with_reducible refine we_cl ?_
  | with_reducible refine we_tup ?_
  | with_reducible refine we_bl ?_
  | with_reducible refine we_non ?_
  | with_reducible refine we_if ?_
  | ((with_reducible refine we_lenO (ds := ?ds) ?he ?_); (case he => exact rfl))
  | with_reducible refine we_len ?_
  | with_reducible refine we_int1 ?_
  | with_reducible refine we_andV ?_
  | with_reducible refine we_orV ?_
  | with_reducible refine we_notV ?_
  | with_reducible refine we_neg ?_
  | with_reducible refine we_chain ?_
  | with_reducible refine we_dget ?_
  | ((with_reducible refine we_dget2O (t := ?t) ?he ?_); (case he => exact rfl))
  | ((with_reducible refine we_dget2I (t := ?t) ?he ?_); (case he => exact rfl))
  | with_reducible refine we_dget2 ?_
  | ((with_reducible refine we_isi ?ht ?_); (case ht => first | exact .inl rfl | exact .inr (.inl rfl) | exact .inr (.inr (.inl rfl)) | exact .inr (.inr (.inr rfl))))
  | ((with_reducible refine we_clS ?he ?_); (case he => exact rfl))
  | with_reducible refine we_max2 ?_
  | with_reducible refine we_dispT1 ?_
  | with_reducible refine we_dispT2 ?_
  | ((with_reducible refine we_tupOfO (ds := ?ds) ?he ?_); (case he => exact rfl))
  | with_reducible refine we_sumT ?_
  | with_reducible refine we_divmod ?_
  | with_reducible refine we_newT ?_))
local macro_rules | `(tactic| walk_at "op2") => `(tactic| (first
  | ((with_reducible refine o_ixT (d := ?d) ?he ?_); (case he => exact rfl))
  | with_reducible refine o_eqS ?_
  | with_reducible refine o_eqI ?_
  | with_reducible refine o_add ?_
  | with_reducible refine o_sub ?_
  | ((with_reducible refine o_inT (x := ?x) (xs := ?xs) ?hx ?hs ?_); (case hx => exact rfl); (case hs => exact rfl))
  | ((with_reducible refine o_mul ?hc ?_); (case hc => walk_at "mul"))
  | ((with_reducible refine o_mod ?hc ?_); (case hc => omega))
  | ((with_reducible refine o_div ?hc ?_); (case hc => exact ⟨by omega, by omega⟩))
  | with_reducible refine o_lt ?_
  | with_reducible refine o_le ?_
  | with_reducible refine o_gt ?_
  | with_reducible refine o_ge ?_
  | with_reducible refine o_neI ?_
  | ((with_reducible refine o_ixL (d := ?d) ?he ?_); (case he => exact rfl))
  | ((with_reducible refine o_inL (x := ?x) (xs := ?xs) ?hx ?hs ?_); (case hx => exact rfl); (case hs => exact rfl))
  | ((with_reducible refine o_catT ?hl ?_); (case hl => (simp only [List.length_cons, List.length_nil, List.length_append, List.length_map, List.length_replicate]; omega)))
  | ((with_reducible refine o_repTI ?h0 ?h1 ?_); (case h0 => omega); (case h1 => omega))
  | with_reducible refine o_isNT ?_))
local macro_rules | `(tactic| walk_at "wt") => `(tactic| (first
  | with_reducible refine wt_test ?_
  | with_reducible refine wt_B ?_
  | with_reducible refine wt_not ?_
  | with_reducible refine wt_and ?_
  | with_reducible refine wt_or ?_))
local macro_rules | `(tactic| walk_at "ws") => `(tactic| (first
  | with_reducible refine ws_seq ?_
  | with_reducible refine ws_asg ?_
  | with_reducible refine ws_if ?_
  | with_reducible refine ws_ret ?_
  | with_reducible refine ws_next ?_
  | with_reducible refine ws_drop ?_
  | with_reducible refine ws_par ?_
  | ((with_reducible refine ws_asg2 ?hn ?_); (case hn => rfl))))
local macro_rules | `(tactic| walk_at "no") => `(tactic| first
  | (intro hb; exact Bool.noConfusion (show (true : Bool) = false from hb))
  | (intro hb; exact Bool.noConfusion (show (false : Bool) = true from hb)))
local macro_rules | `(tactic| walk_at "br") => `(tactic| first
  | (refine ⟨?_, ?no⟩; (case no => walk_at "no"); (intro _))
  | (refine ⟨?no, ?_⟩; (case no => walk_at "no"); (intro _)))
local macro_rules | `(tactic| walk_at "ex") => `(tactic| first
  | (refine ⟨_, rfl, ?_⟩)
  | (refine ⟨_, _, rfl, rfl, ?_⟩)
  | (refine ⟨_, _, rfl, ?_⟩)
  | (refine ⟨_, _, _, rfl, ?_⟩)
  | (refine ⟨_, _, _, _, rfl, ?_⟩)
  | (refine ⟨_, .inr rfl, ?_⟩)
  | (refine ⟨_, .inl rfl, ?_⟩))
local macro_rules | `(tactic| walk_at "r") => `(tactic| repeat (first
  | ((with_reducible show MW.WE _ _ _ _ _); walk_at "we")
  | ((with_reducible show MW.Op2 _ _ _ _ _ _ _); walk_at "op2")
  | ((with_reducible show MW.WS _ _ _ _ _); walk_at "ws")
  | ((with_reducible show MW.WA _ _ _ _ _); first | with_reducible refine wa_cons ?_ | with_reducible refine wa_nil ?_)
  | ((with_reducible show MW.WT _ _ _ _ _); walk_at "wt")
  | ((with_reducible show Exists _); walk_at "ex")
  | ((with_reducible show And _ _); first | walk_at "br" | (refine ⟨by decide, ?_⟩) | (refine ⟨Nat.le_of_ble_eq_true rfl, ?_⟩) | (refine ⟨.inl ⟨_, rfl⟩, ?_⟩) | (refine ⟨.inr (.inl ⟨_, rfl⟩), ?_⟩) | (refine ⟨.inr (.inr ⟨_, rfl⟩), ?_⟩))
  | walk_at "norm1"
  | walk_at "ex"))
local macro_rules | `(tactic| walk_at "q") => `(tactic| repeat (first
  | ((with_reducible show MW.WE _ _ _ _ _); first | with_reducible refine we_wl (wl_cat ?_) | with_reducible refine we_wl (wl_lst ?_) | walk_at "we")
  | ((with_reducible show MW.Op2 _ _ _ _ _ _ _); walk_at "op2")
  | ((with_reducible show MW.WS _ _ _ _ _); walk_at "ws")
  | ((with_reducible show MW.WA _ _ _ _ _); first | with_reducible refine wa_cons ?_ | with_reducible refine wa_nil ?_)
  | ((with_reducible show MW.WT _ _ _ _ _); walk_at "wt")
  | ((with_reducible show Exists _); walk_at "ex")
  | ((with_reducible show And _ _); first | walk_at "br" | (refine ⟨by decide, ?_⟩) | (refine ⟨Nat.le_of_ble_eq_true rfl, ?_⟩) | (refine ⟨.inl ⟨_, rfl⟩, ?_⟩) | (refine ⟨.inr (.inl ⟨_, rfl⟩), ?_⟩) | (refine ⟨.inr (.inr ⟨_, rfl⟩), ?_⟩))
  | walk_at "norm1"
  | walk_at "ex"))
local macro_rules | `(tactic| walk_at "le") => `(tactic| ((try refine ⟨rfl, ?_⟩); repeat (first | exact Le.nil | refine Le.eq ?_ | refine Le.any ?_)))

theorem sc_size : FnScope ["_law_n", "_law_sort_here", "_law_word", "_law_one", "_law_other", "_law_inner"] ["_law_n", "_law_sort_here"] (defScope s_size) := ⟨rfl, rfl, rfl, by decide +kernel, rfl, by decide +kernel, by decide +kernel⟩
def sp_size (n : Nat) : SpecD := fun ds R => ∃ (s : S) (N : Nat), ds = [.int N, s.d] ∧ s.depth ≤ n ∧ s.ok = true ∧ 2 ≤ N ∧ N ≤ 5 ∧ s.upto N 100000000000000000 ∧ R (.int (s.lsize N))
theorem ok_size {P : Program} {w : World} {K : PySem.W.Frag} {mg : Str → Option Value} {base h : Heap} (T : Tx K mg h) {n : Nat} (o_ways : Ok P w K mg base "_law_ways" ["_law_limit", "_law_size_here"] 1 (SpP K sp_ways)) (o_power : Ok P w K mg base "_law_power" ["_law_base", "_law_many_so"] 1 (SpP K sp_power)) (o_size : Ok P w K mg base "_law_size" ["_law_n", "_law_sort_here"] (n + 2) (SpP K (sp_size n))) :
    Ok P w K mg base "_law_size" ["_law_n", "_law_sort_here"] ((n + 1) + 2) (SpP K (sp_size (n + 1))) := by
  obtain ⟨fd, F⟩ := T.c.def_ 42 (d := d_size) rfl
  have F : FnP K "_law_size" s_size (He.ga K "_law_size") fd := F
  have len : ∀ ds R, sp_size (n + 1) ds R → ds.length = 2 := (fun ds R h => by obtain ⟨_, _, rfl, _⟩ := h; rfl)
  refine Ok.of F (He.glo_ok T.X T.G (T.c.fact 42 (f := .glo "_law_size") rfl)) (FunD.bindsN F fun _ _ _ _ _ _ us hl => match us, hl with | [_, _], _ => rfl)
    (FunD.ok F sc_size (fun vs H Q E h => lenP (n := 2) h len) (fun cdv A outer s H vs Q E hr hq => ⟨_, PSs.nox (pss_cons (ps_set (i := 2) sc_size.nd rfl (by first | exact .inl rfl | exact .inr rfl) (pe_ix ix_tup (pv 1) pe_int (fun _ _ => rfl)))
    (pss_cons (ps_if (pt_cmpR op_in_seq (pv 2) (pe_tup (pa_cons pe_str (pa_cons pe_str pa_nil))) (by rfl)) (pss_one (ps_ret (pe_ifExp (pt_cmpR op_eq (pv 2) pe_str (by rfl)) pe_int (pv 0)))) pss_nil)
    (pss_cons (ps_if (pt_cmpR op_in_seq (pv 2) (pe_tup (pa_cons pe_str (pa_cons pe_str pa_nil))) (by rfl)) (pss_one (ps_ret (pe_cl o_ways (hr.mono (by omega)) (by rfl) (pa_cons (pe_ifExp (pt_cmpR op_eq (pv 2) pe_str (by rfl)) (pv 0) (pe_op op_sub (pe_op op_add (pv 0) (pe_ix ix_tup (pv 1) pe_int (fun _ _ => rfl))) pe_int)) (pa_cons (pe_ix ix_tup (pv 1) pe_int (fun _ _ => rfl)) pa_nil))))) pss_nil)
    (pss_cons (ps_if (pt_cmpR op_in_seq (pv 2) (pe_tup (pa_cons pe_str (pa_cons pe_str pa_nil))) (by rfl)) (pss_cons (ps_par (i := 3) (j := 4) (by rfl) sc_size.nd rfl rfl (by decide) rfl rfl (pa_cons (pe_cl o_size (hr.mono (by omega)) (by rfl) (pa_cons (pv 0) (pa_cons (pe_ix ix_tup (pv 1) pe_int (fun _ _ => rfl)) pa_nil))) (pa_cons (pe_cl o_size (hr.mono (by omega)) (by rfl) (pa_cons (pv 0) (pa_cons (pe_ix ix_tup (pv 1) pe_int (fun _ _ => rfl)) pa_nil))) pa_nil)) (by rfl))
    (pss_one (ps_ret (pe_ifExp (pt_cmpR op_eq (pv 2) pe_str (by rfl)) (pe_op op_add (pv 3) (pv 4)) (pe_op op_mul (pv 3) (pv 4)))))) pss_nil)
    (pss_cons (ps_if (pt_cmpR op_eq (pv 2) pe_str (by rfl)) (pss_one (ps_ret (pe_cl o_power (hr.mono (by omega)) (by rfl) (pa_cons pe_int (pa_cons (pe_op op_fdiv (pe_op op_mul (pe_op op_mul (pe_ix ix_tup (pv 1) pe_int (fun _ _ => rfl)) (pv 0)) (pe_op op_sub (pv 0) pe_int)) pe_int) pa_nil))))) pss_nil)
    (pss_cons (ps_if (pt_cmpR op_in_seq (pv 2) (pe_tup (pa_cons pe_str (pa_cons pe_str pa_nil))) (by rfl)) (pss_one (ps_ret (pe_cl o_power (hr.mono (by omega)) (by rfl) (pa_cons (pv 0) (pa_cons (pe_ifExp (pt_cmpR op_eq (pv 2) pe_str (by rfl)) (pe_op op_sub (pv 0) pe_int) (pe_op op_sub (pv 0) pe_int)) pa_nil))))) pss_nil)
    (pss_cons (ps_set (i := 5) sc_size.nd rfl (by first | exact .inl rfl | exact .inr rfl) (pe_cl o_size (hr.mono (by omega)) (by rfl) (pa_cons (pv 0) (pa_cons (pe_ix ix_tup (pv 1) pe_int (fun _ _ => rfl)) pa_nil))))
    (pss_cons (ps_if (pt_cmpR op_eq (pv 2) pe_str (by rfl)) (pss_one (ps_ret (pe_cl o_power (hr.mono (by omega)) (by rfl) (pa_cons (pv 5) (pa_cons (pe_ix ix_tup (pv 1) pe_int (fun _ _ => rfl)) pa_nil))))) pss_nil)
    (pss_one (ps_ret (pe_cl o_ways (hr.mono (by omega)) (by rfl) (pa_cons (pe_ifExp (pt_cmpR op_eq (pv 2) pe_str (by rfl)) (pv 5) (pe_op op_sub (pe_op op_add (pv 5) (pe_ix ix_tup (pv 1) pe_int (fun _ _ => rfl))) pe_int)) (pa_cons (pe_ix ix_tup (pv 1) pe_int (fun _ _ => rfl)) pa_nil))))))))))))), ?_⟩))
  refine fn_run (n := 2) hq len (by decide) fun ds R hs => ?_
  try dsimp only [cxOf]
  obtain ⟨s, N, rfl, hd, hk, h2, hN, hl, hR⟩ := hs
  cases s with
  | none =>
    show WS K _ 0 [.sh _, .sh (.tup _), .any, .any, .any, .any] _
    walk_at "r"
    exact hR
  | one =>
    show WS K _ 0 [.sh _, .sh (.tup _), .any, .any, .any, .any] _
    walk_at "r"
    exact hR
  | sub k =>
    have hk2 : k ≤ 12 := of_decide_eq_true hk
    show WS K _ 0 [.sh _, .sh (.tup _), .any, .any, .any, .any] _
    walk_at "r"
    refine ⟨by omega, by omega, by omega, ?_⟩
    walk_at "r"
    exact hR
  | bag k =>
    have hk2 : k ≤ 12 := of_decide_eq_true hk
    show WS K _ 0 [.sh _, .sh (.tup _), .any, .any, .any, .any] _
    walk_at "r"
    refine ⟨by omega, by omega, by omega, ?_⟩
    walk_at "r"
    exact hR
  | ei a b =>
    simp only [S.depth] at hd
    have hk2 : a.ok = true ∧ b.ok = true := by simp only [S.ok, Bool.and_eq_true] at hk; exact hk
    obtain ⟨l1, l2, l3, l4, l5, l6⟩ := hl
    show WS K _ 0 [.sh _, .sh (.tup _), .any, .any, .any, .any] _
    walk_at "r"
    refine ⟨by omega, hk2.1, h2, hN, l1, ?_⟩
    walk_at "r"
    refine ⟨by omega, hk2.2, h2, hN, l2, ?_⟩
    walk_at "r"
    exact hR
  | pr a b =>
    simp only [S.depth] at hd
    have hk2 : a.ok = true ∧ b.ok = true := by simp only [S.ok, Bool.and_eq_true] at hk; exact hk
    obtain ⟨l1, l2, l3, l4, l5, l6⟩ := hl
    show WS K _ 0 [.sh _, .sh (.tup _), .any, .any, .any, .any] _
    walk_at "r"
    refine ⟨by omega, hk2.1, h2, hN, l1, ?_⟩
    walk_at "r"
    refine ⟨by omega, hk2.2, h2, hN, l2, ?_⟩
    walk_at "r"
    exact hR
  | rounds m =>
    have hk2 : 1 ≤ m ∧ m ≤ 2 := by simp only [S.ok, Bool.and_eq_true, decide_eq_true_eq] at hk; exact hk
    have hq := rounds_q N (by omega) m (by omega)
    show WS K _ 0 [.sh _, .sh (.tup _), .any, .any, .any, .any] _
    walk_at "r"
    refine ⟨hq.1, by omega, by decide, by decide, ?_⟩
    exact hR
  | trees =>
    show WS K _ 0 [.sh _, .sh (.tup _), .any, .any, .any, .any] _
    walk_at "r"
    refine ⟨by omega, by omega, by omega, by omega, ?_⟩
    have e : ((N : Int) - 2).toNat = N - 2 := by omega
    rw [e]
    exact hR
  | rooted =>
    show WS K _ 0 [.sh _, .sh (.tup _), .any, .any, .any, .any] _
    walk_at "r"
    refine ⟨by omega, by omega, by omega, by omega, ?_⟩
    have e : ((N : Int) - 1).toNat = N - 1 := by omega
    rw [e]
    exact hR
  | li m a =>
    simp only [S.depth] at hd
    have hk2 : m ≤ 12 ∧ a.ok = true := by simp only [S.ok, Bool.and_eq_true, decide_eq_true_eq] at hk; exact hk
    obtain ⟨l1, l2, l3⟩ := hl
    show WS K _ 0 [.sh _, .sh (.tup _), .any, .any, .any, .any] _
    walk_at "r"
    refine ⟨by omega, hk2.2, h2, hN, l1, ?_⟩
    walk_at "r"
    refine ⟨by omega, by omega, l2, by omega, ?_⟩
    rw [Int.toNat_natCast]
    exact hR
  | fam m a =>
    simp only [S.depth] at hd
    have hk2 : m ≤ 12 ∧ a.ok = true := by simp only [S.ok, Bool.and_eq_true, decide_eq_true_eq] at hk; exact hk.1
    obtain ⟨l1, l2, l3⟩ := hl
    show WS K _ 0 [.sh _, .sh (.tup _), .any, .any, .any, .any] _
    walk_at "r"
    refine ⟨by omega, hk2.2, h2, hN, l1, ?_⟩
    walk_at "r"
    refine ⟨by omega, by omega, by omega, ?_⟩
    exact hR
  | heap m a =>
    simp only [S.depth] at hd
    have hk2 : m ≤ 12 ∧ a.ok = true := by simp only [S.ok, Bool.and_eq_true, decide_eq_true_eq] at hk; exact hk.1
    obtain ⟨l1, l2, l3⟩ := hl
    show WS K _ 0 [.sh _, .sh (.tup _), .any, .any, .any, .any] _
    walk_at "r"
    refine ⟨by omega, hk2.2, h2, hN, l1, ?_⟩
    walk_at "r"
    refine ⟨by omega, by omega, by omega, ?_⟩
    exact hR
theorem all_size {P : Program} {w : World} {K : PySem.W.Frag} {mg : Str → Option Value} {base h : Heap} (T : Tx K mg h) (o_ways : Ok P w K mg base "_law_ways" ["_law_limit", "_law_size_here"] 1 (SpP K sp_ways)) (o_power : Ok P w K mg base "_law_power" ["_law_base", "_law_many_so"] 1 (SpP K sp_power)) : ∀ n : Nat, Ok P w K mg base "_law_size" ["_law_n", "_law_sort_here"] (n + 2) (SpP K (sp_size n))
  | 0 => by
    obtain ⟨fd, F⟩ := T.c.def_ 42 (d := d_size) rfl
    have F : FnP K "_law_size" s_size (He.ga K "_law_size") fd := F
    refine Ok.none F (He.glo_ok T.X T.G (T.c.fact 42 (f := .glo "_law_size") rfl)) (FunD.bindsN F fun _ _ _ _ _ _ us hl => match us, hl with | [_, _], _ => rfl) (fun ds R h => by
      obtain ⟨s, _, rfl, hd, _⟩ := h
      have := s.depth_pos
      omega)
  | n + 1 => ok_size T o_ways o_power (all_size T o_ways o_power n)
theorem sc_weight : FnScope ["_law_n", "_law_sort_here", "_law_word", "_law_one", "_law_other"] ["_law_n", "_law_sort_here"] (defScope s_weight) := ⟨rfl, rfl, rfl, by decide +kernel, rfl, by decide +kernel, by decide +kernel⟩
def sp_weight (n : Nat) : SpecD := fun ds R => ∃ (s : S) (N : Nat), ds = [.int N, s.d] ∧ s.depth ≤ n ∧ s.ok = true ∧ 2 ≤ N ∧ N ≤ 5 ∧ R (.int (s.marks N))
theorem ok_weight {P : Program} {w : World} {K : PySem.W.Frag} {mg : Str → Option Value} {base h : Heap} (T : Tx K mg h) {n : Nat} (o_weight : Ok P w K mg base "_law_weight" ["_law_n", "_law_sort_here"] (n + 1) (SpP K (sp_weight n))) :
    Ok P w K mg base "_law_weight" ["_law_n", "_law_sort_here"] ((n + 1) + 1) (SpP K (sp_weight (n + 1))) := by
  obtain ⟨fd, F⟩ := T.c.def_ 43 (d := d_weight) rfl
  have F : FnP K "_law_weight" s_weight (He.ga K "_law_weight") fd := F
  have len : ∀ ds R, sp_weight (n + 1) ds R → ds.length = 2 := (fun ds R h => by obtain ⟨_, _, rfl, _⟩ := h; rfl)
  refine Ok.of F (He.glo_ok T.X T.G (T.c.fact 43 (f := .glo "_law_weight") rfl)) (FunD.bindsN F fun _ _ _ _ _ _ us hl => match us, hl with | [_, _], _ => rfl)
    (FunD.ok F sc_weight (fun vs H Q E h => lenP (n := 2) h len) (fun cdv A outer s H vs Q E hr hq => ⟨_, PSs.nox (pss_cons (ps_set (i := 2) sc_weight.nd rfl (by first | exact .inl rfl | exact .inr rfl) (pe_ix ix_tup (pv 1) pe_int (fun _ _ => rfl)))
    (pss_cons (ps_if (pt_cmpR op_in_seq (pv 2) (pe_tup (pa_cons pe_str (pa_cons pe_str pa_nil))) (by rfl)) (pss_one (ps_ret (pe_ifExp (pt_cmpR op_eq (pv 2) pe_str (by rfl)) pe_int pe_int))) pss_nil)
    (pss_cons (ps_if (pt_cmpR op_in_seq (pv 2) (pe_tup (pa_cons pe_str (pa_cons pe_str pa_nil))) (by rfl)) (pss_one (ps_ret (pe_ix ix_tup (pv 1) pe_int (fun _ _ => rfl)))) pss_nil)
    (pss_cons (ps_if (pt_cmpR op_in_seq (pv 2) (pe_tup (pa_cons pe_str (pa_cons pe_str pa_nil))) (by rfl)) (pss_cons (ps_par (i := 3) (j := 4) (by rfl) sc_weight.nd rfl rfl (by decide) rfl rfl (pa_cons (pe_cl o_weight (hr.mono (by omega)) (by rfl) (pa_cons (pv 0) (pa_cons (pe_ix ix_tup (pv 1) pe_int (fun _ _ => rfl)) pa_nil))) (pa_cons (pe_cl o_weight (hr.mono (by omega)) (by rfl) (pa_cons (pv 0) (pa_cons (pe_ix ix_tup (pv 1) pe_int (fun _ _ => rfl)) pa_nil))) pa_nil)) (by rfl))
    (pss_one (ps_ret (pe_ifExp (pt_cmpR op_eq (pv 2) pe_str (by rfl)) (pe_callB (call_max2 (by rfl)) (by rfl) T.max_ (by decide +kernel) (pa_cons (pv 3) (pa_cons (pv 4) pa_nil))) (pe_op op_add (pv 3) (pv 4)))))) pss_nil)
    (pss_cons (ps_if (pt_cmpR op_eq (pv 2) pe_str (by rfl)) (pss_one (ps_ret (pe_op op_fdiv (pe_op op_mul (pe_op op_mul (pe_ix ix_tup (pv 1) pe_int (fun _ _ => rfl)) (pv 0)) (pe_op op_sub (pv 0) pe_int)) pe_int))) pss_nil)
    (pss_cons (ps_if (pt_cmpR op_in_seq (pv 2) (pe_tup (pa_cons pe_str (pa_cons pe_str pa_nil))) (by rfl)) (pss_one (ps_ret (pe_ifExp (pt_cmpR op_eq (pv 2) pe_str (by rfl)) (pe_op op_mul pe_int (pe_op op_sub (pv 0) pe_int)) (pe_op op_sub (pv 0) pe_int)))) pss_nil)
    (pss_one (ps_ret (pe_op op_mul (pe_ix ix_tup (pv 1) pe_int (fun _ _ => rfl)) (pe_cl o_weight (hr.mono (by omega)) (by rfl) (pa_cons (pv 0) (pa_cons (pe_ix ix_tup (pv 1) pe_int (fun _ _ => rfl)) pa_nil)))))))))))), ?_⟩))
  refine fn_run (n := 2) hq len (by decide) fun ds R hs => ?_
  try dsimp only [cxOf]
  obtain ⟨s, N, rfl, hd, hk, h2, hN, hR⟩ := hs
  cases s with
  | none =>
    show WS K _ 0 [.sh _, .sh (.tup _), .any, .any, .any] _
    walk_at "r"
    exact hR
  | one =>
    show WS K _ 0 [.sh _, .sh (.tup _), .any, .any, .any] _
    walk_at "r"
    exact hR
  | sub k =>
    show WS K _ 0 [.sh _, .sh (.tup _), .any, .any, .any] _
    walk_at "r"
    exact hR
  | bag k =>
    show WS K _ 0 [.sh _, .sh (.tup _), .any, .any, .any] _
    walk_at "r"
    exact hR
  | trees =>
    show WS K _ 0 [.sh _, .sh (.tup _), .any, .any, .any] _
    walk_at "r"
    exact hR
  | rooted =>
    show WS K _ 0 [.sh _, .sh (.tup _), .any, .any, .any] _
    walk_at "r"
    exact hR
  | ei a b =>
    simp only [S.depth] at hd
    have hk2 : a.ok = true ∧ b.ok = true := by simp only [S.ok, Bool.and_eq_true] at hk; exact hk
    show WS K _ 0 [.sh _, .sh (.tup _), .any, .any, .any] _
    walk_at "r"
    refine ⟨by omega, hk2.1, h2, hN, ?_⟩
    walk_at "r"
    refine ⟨by omega, hk2.2, h2, hN, ?_⟩
    walk_at "r"
    exact hR
  | pr a b =>
    simp only [S.depth] at hd
    have hk2 : a.ok = true ∧ b.ok = true := by simp only [S.ok, Bool.and_eq_true] at hk; exact hk
    show WS K _ 0 [.sh _, .sh (.tup _), .any, .any, .any] _
    walk_at "r"
    refine ⟨by omega, hk2.1, h2, hN, ?_⟩
    walk_at "r"
    refine ⟨by omega, hk2.2, h2, hN, ?_⟩
    walk_at "r"
    exact hR
  | rounds m =>
    have hk2 : 1 ≤ m ∧ m ≤ 2 := by simp only [S.ok, Bool.and_eq_true, decide_eq_true_eq] at hk; exact hk
    show WS K _ 0 [.sh _, .sh (.tup _), .any, .any, .any] _
    walk_at "r"
    exact hR
  | li m a =>
    simp only [S.depth] at hd
    have hk2 : m ≤ 12 ∧ a.ok = true := by simp only [S.ok, Bool.and_eq_true, decide_eq_true_eq] at hk; exact hk
    show WS K _ 0 [.sh _, .sh (.tup _), .any, .any, .any] _
    walk_at "r"
    refine ⟨by omega, hk2.2, h2, hN, ?_⟩
    walk_at "r"
    exact hR
  | fam m a =>
    simp only [S.depth] at hd
    have hk2 : m ≤ 12 ∧ a.ok = true := by simp only [S.ok, Bool.and_eq_true, decide_eq_true_eq] at hk; exact hk.1
    show WS K _ 0 [.sh _, .sh (.tup _), .any, .any, .any] _
    walk_at "r"
    refine ⟨by omega, hk2.2, h2, hN, ?_⟩
    walk_at "r"
    exact hR
  | heap m a =>
    simp only [S.depth] at hd
    have hk2 : m ≤ 12 ∧ a.ok = true := by simp only [S.ok, Bool.and_eq_true, decide_eq_true_eq] at hk; exact hk.1
    show WS K _ 0 [.sh _, .sh (.tup _), .any, .any, .any] _
    walk_at "r"
    refine ⟨by omega, hk2.2, h2, hN, ?_⟩
    walk_at "r"
    exact hR
theorem all_weight {P : Program} {w : World} {K : PySem.W.Frag} {mg : Str → Option Value} {base h : Heap} (T : Tx K mg h)  : ∀ n : Nat, Ok P w K mg base "_law_weight" ["_law_n", "_law_sort_here"] (n + 1) (SpP K (sp_weight n))
  | 0 => by
    obtain ⟨fd, F⟩ := T.c.def_ 43 (d := d_weight) rfl
    have F : FnP K "_law_weight" s_weight (He.ga K "_law_weight") fd := F
    refine Ok.none F (He.glo_ok T.X T.G (T.c.fact 43 (f := .glo "_law_weight") rfl)) (FunD.bindsN F fun _ _ _ _ _ _ us hl => match us, hl with | [_, _], _ => rfl) (fun ds R h => by
      obtain ⟨s, _, rfl, hd, _⟩ := h
      have := s.depth_pos
      omega)
  | n + 1 => ok_weight T  (all_weight T  n)
end ME
end
section
set_option Elab.async false
set_option linter.all false
set_option maxRecDepth 100000
set_option maxHeartbeats 4000000
namespace ME
open PySem L2 MW
local macro_rules | `(tactic| walk_at "norm1") => `(tactic| dsimp only [Then, LoopP, FnPost, FnPostS])
local macro_rules | `(tactic| walk_at "mul") => `(tactic| (first
  | exact Or.inl ⟨by omega, by omega⟩
  | exact Or.inr ⟨by omega, by omega⟩))
local macro_rules | `(tactic| walk_at "we") => `(tactic| (first
  | ((with_reducible refine we_var (d := ?d) ?he ?_); (case he => exact rfl))
  | with_reducible refine we_int ?_
  | with_reducible refine we_str ?_
  | with_reducible refine we_op ?_
  | with_reducible refine we_cl ?_
  | with_reducible refine we_tup ?_
  | with_reducible refine we_bl ?_
  | with_reducible refine we_non ?_
  | with_reducible refine we_if ?_
  | ((with_reducible refine we_lenO (ds := ?ds) ?he ?_); (case he => exact rfl))
  | with_reducible refine we_len ?_
  | with_reducible refine we_int1 ?_
  | with_reducible refine we_andV ?_
  | with_reducible refine we_orV ?_
  | with_reducible refine we_notV ?_
  | with_reducible refine we_neg ?_
  | with_reducible refine we_chain ?_
  | with_reducible refine we_dget ?_
  | ((with_reducible refine we_dget2O (t := ?t) ?he ?_); (case he => exact rfl))
  | ((with_reducible refine we_dget2I (t := ?t) ?he ?_); (case he => exact rfl))
  | with_reducible refine we_dget2 ?_
  | ((with_reducible refine we_isi ?ht ?_); (case ht => first | exact .inl rfl | exact .inr (.inl rfl) | exact .inr (.inr (.inl rfl)) | exact .inr (.inr (.inr rfl))))
  | ((with_reducible refine we_clS ?he ?_); (case he => exact rfl))
  | with_reducible refine we_max2 ?_
  | with_reducible refine we_dispT1 ?_
  | with_reducible refine we_dispT2 ?_
  | ((with_reducible refine we_tupOfO (ds := ?ds) ?he ?_); (case he => exact rfl))
  | with_reducible refine we_sumT ?_
  | with_reducible refine we_divmod ?_
  | with_reducible refine we_newT ?_))
local macro_rules | `(tactic| walk_at "op2") => `(tactic| (first
  | ((with_reducible refine o_ixT (d := ?d) ?he ?_); (case he => exact rfl))
  | with_reducible refine o_eqS ?_
  | with_reducible refine o_eqI ?_
  | with_reducible refine o_add ?_
  | with_reducible refine o_sub ?_
  | ((with_reducible refine o_inT (x := ?x) (xs := ?xs) ?hx ?hs ?_); (case hx => exact rfl); (case hs => exact rfl))
  | ((with_reducible refine o_mul ?hc ?_); (case hc => walk_at "mul"))
  | ((with_reducible refine o_mod ?hc ?_); (case hc => omega))
  | ((with_reducible refine o_div ?hc ?_); (case hc => exact ⟨by omega, by omega⟩))
  | with_reducible refine o_lt ?_
  | with_reducible refine o_le ?_
  | with_reducible refine o_gt ?_
  | with_reducible refine o_ge ?_
  | with_reducible refine o_neI ?_
  | ((with_reducible refine o_ixL (d := ?d) ?he ?_); (case he => exact rfl))
  | ((with_reducible refine o_inL (x := ?x) (xs := ?xs) ?hx ?hs ?_); (case hx => exact rfl); (case hs => exact rfl))
  | ((with_reducible refine o_catT ?hl ?_); (case hl => (simp only [List.length_cons, List.length_nil, List.length_append, List.length_map, List.length_replicate]; omega)))
  | ((with_reducible refine o_repTI ?h0 ?h1 ?_); (case h0 => omega); (case h1 => omega))
  | with_reducible refine o_isNT ?_))
local macro_rules | `(tactic| walk_at "wt") => `(tactic| (first
  | with_reducible refine wt_test ?_
  | with_reducible refine wt_B ?_
  | with_reducible refine wt_not ?_
  | with_reducible refine wt_and ?_
  | with_reducible refine wt_or ?_))
local macro_rules | `(tactic| walk_at "ws") => `(tactic| (first
  | with_reducible refine ws_seq ?_
  | with_reducible refine ws_asg ?_
  | with_reducible refine ws_if ?_
  | with_reducible refine ws_ret ?_
  | with_reducible refine ws_next ?_
  | with_reducible refine ws_drop ?_
  | with_reducible refine ws_par ?_
  | ((with_reducible refine ws_asg2 ?hn ?_); (case hn => rfl))))
local macro_rules | `(tactic| walk_at "no") => `(tactic| first
  | (intro hb; exact Bool.noConfusion (show (true : Bool) = false from hb))
  | (intro hb; exact Bool.noConfusion (show (false : Bool) = true from hb)))
local macro_rules | `(tactic| walk_at "br") => `(tactic| first
  | (refine ⟨?_, ?no⟩; (case no => walk_at "no"); (intro _))
  | (refine ⟨?no, ?_⟩; (case no => walk_at "no"); (intro _)))
local macro_rules | `(tactic| walk_at "ex") => `(tactic| first
  | (refine ⟨_, rfl, ?_⟩)
  | (refine ⟨_, _, rfl, rfl, ?_⟩)
  | (refine ⟨_, _, rfl, ?_⟩)
  | (refine ⟨_, _, _, rfl, ?_⟩)
  | (refine ⟨_, _, _, _, rfl, ?_⟩)
  | (refine ⟨_, .inr rfl, ?_⟩)
  | (refine ⟨_, .inl rfl, ?_⟩))
local macro_rules | `(tactic| walk_at "r") => `(tactic| repeat (first
  | ((with_reducible show MW.WE _ _ _ _ _); walk_at "we")
  | ((with_reducible show MW.Op2 _ _ _ _ _ _ _); walk_at "op2")
  | ((with_reducible show MW.WS _ _ _ _ _); walk_at "ws")
  | ((with_reducible show MW.WA _ _ _ _ _); first | with_reducible refine wa_cons ?_ | with_reducible refine wa_nil ?_)
  | ((with_reducible show MW.WT _ _ _ _ _); walk_at "wt")
  | ((with_reducible show Exists _); walk_at "ex")
  | ((with_reducible show And _ _); first | walk_at "br" | (refine ⟨by decide, ?_⟩) | (refine ⟨Nat.le_of_ble_eq_true rfl, ?_⟩) | (refine ⟨.inl ⟨_, rfl⟩, ?_⟩) | (refine ⟨.inr (.inl ⟨_, rfl⟩), ?_⟩) | (refine ⟨.inr (.inr ⟨_, rfl⟩), ?_⟩))
  | walk_at "norm1"
  | walk_at "ex"))
local macro_rules | `(tactic| walk_at "q") => `(tactic| repeat (first
  | ((with_reducible show MW.WE _ _ _ _ _); first | with_reducible refine we_wl (wl_cat ?_) | with_reducible refine we_wl (wl_lst ?_) | walk_at "we")
  | ((with_reducible show MW.Op2 _ _ _ _ _ _ _); walk_at "op2")
  | ((with_reducible show MW.WS _ _ _ _ _); walk_at "ws")
  | ((with_reducible show MW.WA _ _ _ _ _); first | with_reducible refine wa_cons ?_ | with_reducible refine wa_nil ?_)
  | ((with_reducible show MW.WT _ _ _ _ _); walk_at "wt")
  | ((with_reducible show Exists _); walk_at "ex")
  | ((with_reducible show And _ _); first | walk_at "br" | (refine ⟨by decide, ?_⟩) | (refine ⟨Nat.le_of_ble_eq_true rfl, ?_⟩) | (refine ⟨.inl ⟨_, rfl⟩, ?_⟩) | (refine ⟨.inr (.inl ⟨_, rfl⟩), ?_⟩) | (refine ⟨.inr (.inr ⟨_, rfl⟩), ?_⟩))
  | walk_at "norm1"
  | walk_at "ex"))
local macro_rules | `(tactic| walk_at "le") => `(tactic| ((try refine ⟨rfl, ?_⟩); repeat (first | exact Le.nil | refine Le.eq ?_ | refine Le.any ?_)))

theorem sc_fits : FnScope ["_law_n", "_law_sort_here", "_law_most", "_law_inner", "_law_part"] ["_law_n", "_law_sort_here", "_law_most"] (defScope s_fits) := ⟨rfl, rfl, rfl, by decide +kernel, rfl, by decide +kernel, by decide +kernel⟩
def sp_fits (n : Nat) : SpecD := fun ds R => ∃ (s : S) (N : Nat) (b : Int), ds = [.int N, s.d, .int b] ∧ s.depth ≤ n ∧ s.ok = true ∧ 2 ≤ N ∧ N ≤ 5 ∧ s.upto N 100000000000000000 ∧ R (.bl (s.fitB N b))
theorem ok_fits {P : Program} {w : World} {K : PySem.W.Frag} {mg : Str → Option Value} {base h : Heap} (T : Tx K mg h) {n : Nat} (o_size : Ok P w K mg base "_law_size" ["_law_n", "_law_sort_here"] ((n+1) + 2) (SpP K (sp_size (n+1)))) (o_fits : Ok P w K mg base "_law_fits" ["_law_n", "_law_sort_here", "_law_most"] (n + 3) (SpP K (sp_fits n))) :
    Ok P w K mg base "_law_fits" ["_law_n", "_law_sort_here", "_law_most"] ((n + 1) + 3) (SpP K (sp_fits (n + 1))) := by
  obtain ⟨fd, F⟩ := T.c.def_ 49 (d := d_fits) rfl
  have F : FnP K "_law_fits" s_fits (He.ga K "_law_fits") fd := F
  have len : ∀ ds R, sp_fits (n + 1) ds R → ds.length = 3 := (fun ds R h => by obtain ⟨_, _, _, rfl, _⟩ := h; rfl)
  refine Ok.of F (He.glo_ok T.X T.G (T.c.fact 49 (f := .glo "_law_fits") rfl)) (FunD.bindsN F fun _ _ _ _ _ _ us hl => match us, hl with | [_, _, _], _ => rfl)
    (FunD.ok F sc_fits (fun vs H Q E h => lenP (n := 3) h len) (fun cdv A outer s H vs Q E hr hq => ⟨_, PSs.nox (pss_cons (ps_setLc (i := 3) (own := [("_law_part", 4)]) (by rfl) sc_fits.nd rfl rfl (sw_true rfl rfl rfl (by decide +kernel)) (pi_tup (pv 1)) (blkOk_by (own := [("_law_part", 4)]) (by rfl)) (fun _ _ _ _ _ => (pg_name (i := 4) sc_fits.nd rfl (by first | exact .inl rfl | exact .inr rfl))) (fun _ _ _ _ _ => (pts_one (pt_val (pe_callB (call_isiK (K := K) rfl) (by rfl) T.isinstance_ (by decide +kernel) (pa_cons (pv 4) (pa_cons (pe_bltn (v := .ty "tuple") (by rfl) T.tuple_ (by decide +kernel) rfl) pa_nil)))))) (fun _ _ _ _ _ => (pv 4)))
    (pss_one (ps_ret (pe_and (pe_cmpR op_le (pe_cl o_size (hr.mono (by omega)) (by rfl) (pa_cons (pv 0) (pa_cons (pv 1) pa_nil))) (pv 2) (by rfl)) (pe_one (pe_cmpR (op_eqD hr.units) (pe_lc (own := [("_law_part", 4)]) (by rfl) sc_fits.nd (pi_list (pv 3)) (blkOk_by (own := [("_law_part", 4)]) (by rfl)) (fun _ _ _ _ _ => (pg_name (i := 4) sc_fits.nd rfl (by first | exact .inl rfl | exact .inr rfl))) (fun _ _ _ _ _ => (pts_one (pt_not (pt_val (pe_cl o_fits (hr.mono (by omega)) (by rfl) (pa_cons (pv 0) (pa_cons (pv 4) (pa_cons (pv 2) pa_nil)))))))) (fun _ _ _ _ _ => pe_int)) (pe_lst pa_nil) (by rfl))))))), ?_⟩))
  refine fn_run (n := 3) hq len (by decide) fun ds R hs => ?_
  try dsimp only [cxOf]
  obtain ⟨s, N, b, rfl, hd, hk, h2, hN, hu, hR⟩ := hs
  obtain ⟨L, eL, eK, hl, hx⟩ := s.d_kids
  have hkid := S.kid_of s hd hk hu
  show WS K _ 0 [.sh _, .sh s.d, .sh _, .any, .any] _
  refine ws_seq (ws_asg (we_wl (wl_filtT ?hv ?hj ?_)))
  case hv => exact any_of (by rfl)
  case hj => decide
  refine we_var (d := s.d) rfl ⟨L, eL, isT "tuple", id, by omega, fun k x hk2 => ?_, fun k x hk2 hc => ?_, ?_⟩
  · walk_at "q"
    refine ⟨hx x (List.mem_of_getElem? hk2), ?_⟩
    walk_at "q"
  · refine we_var (d := x) rfl ⟨rfl, rfl⟩
  rw [eK, List.map_id]
  walk_at "q"
  refine ⟨hd, hk, h2, hN, hu, ?_⟩
  walk_at "q"
  rw [S.fitB_eq] at hR
  refine ⟨fun hb => ?_, fun hb => ?_⟩
  · rw [hb, Bool.true_and] at hR
    refine we_op (we_wl (wl_comp (is := [4]) ?hv ?hj ?_))
    case hv => exact any_of (by rfl)
    case hj => decide
    refine src_list (we_var (d := .lst (s.kids.map S.d)) rfl ⟨_, rfl, ?_⟩)
    refine ⟨fun i acc => acc = ((s.kids.take i).filter fun k => !(k.fitB N b)).map fun _ => D.int 1, by simp, ?_, fun i x acc hi ha => ?_, fun acc ha _ => ?_⟩
    · rw [List.length_map]
      have : s.kids.length ≤ 2 := by cases s <;> simp [S.kids]
      omega
    · obtain ⟨k, hkk, rfl⟩ := mem_map_get hi
      obtain ⟨k1, k2, k3⟩ := hkid k (List.mem_of_getElem? hkk)
      refine wg_name ?_
      walk_at "q"
      refine ⟨k1, k2, h2, hN, k3, ?_⟩
      refine ⟨_, rfl, rfl, fun hb2 => ?_, fun hb2 => ?_⟩
      · walk_at "q"
        rw [ha, take_get hkk, List.filter_append, List.map_append]
        congr 1
        rw [List.filter_cons, if_pos hb2]
        rfl
      · rw [ha, take_get hkk, List.filter_append, List.map_append, List.filter_cons, if_neg (by rw [hb2]; exact Bool.false_ne_true)]
        simp
    · rw [List.length_map, List.take_length] at ha
      rw [ha]
      have e2 : ((s.kids.filter fun k => !(k.fitB N b)).map fun _ => D.int 1) = ((s.kids.filter fun k => !(k.fitB N b)).map fun _ => (1 : Int)).map D.int := by
        rw [List.map_map]
        rfl
      rw [e2]
      walk_at "q"
      refine o_eqL0 ?_
      have e3 : ((s.kids.filter fun k => !(k.fitB N b)).map fun _ => (1 : Int)).isEmpty = s.kids.all (S.fitB N b) := by
        rw [List.isEmpty_map, Bool.eq_iff_iff, List.isEmpty_iff, List.filter_eq_nil_iff, List.all_eq_true]
        simp
      rw [e3]
      exact hR
  · rw [hb, Bool.false_and] at hR
    exact hR
theorem all_fits {P : Program} {w : World} {K : PySem.W.Frag} {mg : Str → Option Value} {base h : Heap} (T : Tx K mg h) (o_size : ∀ n : Nat, Ok P w K mg base "_law_size" ["_law_n", "_law_sort_here"] ((n+1) + 2) (SpP K (sp_size (n+1)))) : ∀ n : Nat, Ok P w K mg base "_law_fits" ["_law_n", "_law_sort_here", "_law_most"] (n + 3) (SpP K (sp_fits n))
  | 0 => by
    obtain ⟨fd, F⟩ := T.c.def_ 49 (d := d_fits) rfl
    have F : FnP K "_law_fits" s_fits (He.ga K "_law_fits") fd := F
    refine Ok.none F (He.glo_ok T.X T.G (T.c.fact 49 (f := .glo "_law_fits") rfl)) (FunD.bindsN F fun _ _ _ _ _ _ us hl => match us, hl with | [_, _, _], _ => rfl) (fun ds R h => by
      obtain ⟨s, _, _, rfl, hd, _⟩ := h
      have := s.depth_pos
      omega)
  | n + 1 => ok_fits T (o_size n) (all_fits T o_size n)
end ME
end
section
set_option Elab.async false
set_option linter.all false
set_option maxRecDepth 100000
set_option maxHeartbeats 4000000
namespace ME
open PySem L2 MW
local macro_rules | `(tactic| walk_at "norm1") => `(tactic| dsimp only [Then, LoopP, FnPost, FnPostS])
local macro_rules | `(tactic| walk_at "mul") => `(tactic| (first
  | exact Or.inl ⟨by omega, by omega⟩
  | exact Or.inr ⟨by omega, by omega⟩))
local macro_rules | `(tactic| walk_at "we") => `(tactic| (first
  | ((with_reducible refine we_var (d := ?d) ?he ?_); (case he => exact rfl))
  | with_reducible refine we_int ?_
  | with_reducible refine we_str ?_
  | with_reducible refine we_op ?_
  | with_reducible refine we_cl ?_
  | with_reducible refine we_tup ?_
  | with_reducible refine we_bl ?_
  | with_reducible refine we_non ?_
  | with_reducible refine we_if ?_
  | ((with_reducible refine we_lenO (ds := ?ds) ?he ?_); (case he => exact rfl))
  | with_reducible refine we_len ?_
  | with_reducible refine we_int1 ?_
  | with_reducible refine we_andV ?_
  | with_reducible refine we_orV ?_
  | with_reducible refine we_notV ?_
  | with_reducible refine we_neg ?_
  | with_reducible refine we_chain ?_
  | with_reducible refine we_dget ?_
  | ((with_reducible refine we_dget2O (t := ?t) ?he ?_); (case he => exact rfl))
  | ((with_reducible refine we_dget2I (t := ?t) ?he ?_); (case he => exact rfl))
  | with_reducible refine we_dget2 ?_
  | ((with_reducible refine we_isi ?ht ?_); (case ht => first | exact .inl rfl | exact .inr (.inl rfl) | exact .inr (.inr (.inl rfl)) | exact .inr (.inr (.inr rfl))))
  | ((with_reducible refine we_clS ?he ?_); (case he => exact rfl))
  | with_reducible refine we_max2 ?_
  | with_reducible refine we_dispT1 ?_
  | with_reducible refine we_dispT2 ?_
  | ((with_reducible refine we_tupOfO (ds := ?ds) ?he ?_); (case he => exact rfl))
  | with_reducible refine we_sumT ?_
  | with_reducible refine we_divmod ?_
  | with_reducible refine we_newT ?_))
local macro_rules | `(tactic| walk_at "op2") => `(tactic| (first
  | ((with_reducible refine o_ixT (d := ?d) ?he ?_); (case he => exact rfl))
  | with_reducible refine o_eqS ?_
  | with_reducible refine o_eqI ?_
  | with_reducible refine o_add ?_
  | with_reducible refine o_sub ?_
  | ((with_reducible refine o_inT (x := ?x) (xs := ?xs) ?hx ?hs ?_); (case hx => exact rfl); (case hs => exact rfl))
  | ((with_reducible refine o_mul ?hc ?_); (case hc => walk_at "mul"))
  | ((with_reducible refine o_mod ?hc ?_); (case hc => omega))
  | ((with_reducible refine o_div ?hc ?_); (case hc => exact ⟨by omega, by omega⟩))
  | with_reducible refine o_lt ?_
  | with_reducible refine o_le ?_
  | with_reducible refine o_gt ?_
  | with_reducible refine o_ge ?_
  | with_reducible refine o_neI ?_
  | ((with_reducible refine o_ixL (d := ?d) ?he ?_); (case he => exact rfl))
  | ((with_reducible refine o_inL (x := ?x) (xs := ?xs) ?hx ?hs ?_); (case hx => exact rfl); (case hs => exact rfl))
  | ((with_reducible refine o_catT ?hl ?_); (case hl => (simp only [List.length_cons, List.length_nil, List.length_append, List.length_map, List.length_replicate]; omega)))
  | ((with_reducible refine o_repTI ?h0 ?h1 ?_); (case h0 => omega); (case h1 => omega))
  | with_reducible refine o_isNT ?_))
local macro_rules | `(tactic| walk_at "wt") => `(tactic| (first
  | with_reducible refine wt_test ?_
  | with_reducible refine wt_B ?_
  | with_reducible refine wt_not ?_
  | with_reducible refine wt_and ?_
  | with_reducible refine wt_or ?_))
local macro_rules | `(tactic| walk_at "ws") => `(tactic| (first
  | with_reducible refine ws_seq ?_
  | with_reducible refine ws_asg ?_
  | with_reducible refine ws_if ?_
  | with_reducible refine ws_ret ?_
  | with_reducible refine ws_next ?_
  | with_reducible refine ws_drop ?_
  | with_reducible refine ws_par ?_
  | ((with_reducible refine ws_asg2 ?hn ?_); (case hn => rfl))))
local macro_rules | `(tactic| walk_at "no") => `(tactic| first
  | (intro hb; exact Bool.noConfusion (show (true : Bool) = false from hb))
  | (intro hb; exact Bool.noConfusion (show (false : Bool) = true from hb)))
local macro_rules | `(tactic| walk_at "br") => `(tactic| first
  | (refine ⟨?_, ?no⟩; (case no => walk_at "no"); (intro _))
  | (refine ⟨?no, ?_⟩; (case no => walk_at "no"); (intro _)))
local macro_rules | `(tactic| walk_at "ex") => `(tactic| first
  | (refine ⟨_, rfl, ?_⟩)
  | (refine ⟨_, _, rfl, rfl, ?_⟩)
  | (refine ⟨_, _, rfl, ?_⟩)
  | (refine ⟨_, _, _, rfl, ?_⟩)
  | (refine ⟨_, _, _, _, rfl, ?_⟩)
  | (refine ⟨_, .inr rfl, ?_⟩)
  | (refine ⟨_, .inl rfl, ?_⟩))
local macro_rules | `(tactic| walk_at "r") => `(tactic| repeat (first
  | ((with_reducible show MW.WE _ _ _ _ _); walk_at "we")
  | ((with_reducible show MW.Op2 _ _ _ _ _ _ _); walk_at "op2")
  | ((with_reducible show MW.WS _ _ _ _ _); walk_at "ws")
  | ((with_reducible show MW.WA _ _ _ _ _); first | with_reducible refine wa_cons ?_ | with_reducible refine wa_nil ?_)
  | ((with_reducible show MW.WT _ _ _ _ _); walk_at "wt")
  | ((with_reducible show Exists _); walk_at "ex")
  | ((with_reducible show And _ _); first | walk_at "br" | (refine ⟨by decide, ?_⟩) | (refine ⟨Nat.le_of_ble_eq_true rfl, ?_⟩) | (refine ⟨.inl ⟨_, rfl⟩, ?_⟩) | (refine ⟨.inr (.inl ⟨_, rfl⟩), ?_⟩) | (refine ⟨.inr (.inr ⟨_, rfl⟩), ?_⟩))
  | walk_at "norm1"
  | walk_at "ex"))
local macro_rules | `(tactic| walk_at "q") => `(tactic| repeat (first
  | ((with_reducible show MW.WE _ _ _ _ _); first | with_reducible refine we_wl (wl_cat ?_) | with_reducible refine we_wl (wl_lst ?_) | walk_at "we")
  | ((with_reducible show MW.Op2 _ _ _ _ _ _ _); walk_at "op2")
  | ((with_reducible show MW.WS _ _ _ _ _); walk_at "ws")
  | ((with_reducible show MW.WA _ _ _ _ _); first | with_reducible refine wa_cons ?_ | with_reducible refine wa_nil ?_)
  | ((with_reducible show MW.WT _ _ _ _ _); walk_at "wt")
  | ((with_reducible show Exists _); walk_at "ex")
  | ((with_reducible show And _ _); first | walk_at "br" | (refine ⟨by decide, ?_⟩) | (refine ⟨Nat.le_of_ble_eq_true rfl, ?_⟩) | (refine ⟨.inl ⟨_, rfl⟩, ?_⟩) | (refine ⟨.inr (.inl ⟨_, rfl⟩), ?_⟩) | (refine ⟨.inr (.inr ⟨_, rfl⟩), ?_⟩))
  | walk_at "norm1"
  | walk_at "ex"))
local macro_rules | `(tactic| walk_at "le") => `(tactic| ((try refine ⟨rfl, ?_⟩); repeat (first | exact Le.nil | refine Le.eq ?_ | refine Le.any ?_)))

section
variable {n k m : Nat} {a : S}
theorem in_one : S.one ∈ singles n := List.mem_cons_self
theorem in_sub (h : k ≤ n) : S.sub k ∈ singles n := List.mem_cons_of_mem _ (List.mem_append_left _ (List.mem_append_left _ (List.mem_map.mpr ⟨k, List.mem_range.mpr (by omega), rfl⟩)))
theorem in_ei (h : k ≤ n) : S.ei (.sub k) .one ∈ singles n := List.mem_cons_of_mem _ (List.mem_append_left _ (List.mem_append_right _ (List.mem_map.mpr ⟨k, List.mem_range.mpr (by omega), rfl⟩)))
theorem in_ei2 : S.ei .one (.sub 2) ∈ singles n := List.mem_cons_of_mem _ (List.mem_append_right _ (List.mem_singleton.mpr rfl))
theorem lf_five {s : S} (h : s ∈ [S.one, .rounds 1, .trees, .rooted, .none]) : s ∈ leafs n := List.mem_append_left _ (List.mem_append_left _ (List.mem_append_left _ h))
theorem lf_sub (h : k ≤ n) : S.sub k ∈ leafs n := List.mem_append_left _ (List.mem_append_left _ (List.mem_append_right _ (List.mem_map.mpr ⟨k, List.mem_range.mpr (by omega), rfl⟩)))
theorem lf_bag (h : k < 4) : S.bag k ∈ leafs n := List.mem_append_left _ (List.mem_append_right _ (List.mem_map.mpr ⟨k, List.mem_range.mpr (by omega), rfl⟩))
theorem lf_rounds2 (h : n < 4) : S.rounds 2 ∈ leafs n := List.mem_append_right _ (by rw [if_pos h]; exact List.mem_singleton.mpr rfl)
theorem fm_fam (h : m < 4) (ha : a ∈ singles n) : S.fam m a ∈ fams n := List.mem_flatMap.mpr ⟨a, ha, List.mem_append_left _ (List.mem_map.mpr ⟨m, List.mem_range.mpr h, rfl⟩)⟩
theorem fm_heap (h : m < 4) (ha : a ∈ singles n) : S.heap m a ∈ fams n := List.mem_flatMap.mpr ⟨a, ha, List.mem_append_right _ (List.mem_map.mpr ⟨m, List.mem_range.mpr h, rfl⟩)⟩
theorem dr_lf {d : Nat} {s : S} (h : s ∈ leafs n) : Dr n d s := match d with
  | 0 => h
  | _ + 1 => .inl h
end
theorem sc_single : FnScope ["_law_state", "_law_n", "_law_pick"] ["_law_state", "_law_n"] (defScope s_single) := ⟨rfl, rfl, rfl, by decide +kernel, rfl, by decide +kernel, by decide +kernel⟩
def sp_single : SpecS := fun m ds R => ∃ (N : Nat), ds = [.int N] ∧ 2 ≤ N ∧ N ≤ 4 ∧ m ≤ 6000000 ∧ 0 < m % 64 ∧ ∀ s ∈ singles N, ∀ m', m ≤ m' → m' ≤ m + 128 → m' % 64 = m % 64 → R s.d m'
theorem ok_single {P : Program} {w : World} {K : PySem.W.Frag} {mg : Str → Option Value} {base h : Heap} (T : Tx K mg h) (o_draw : Ok P w K mg base "_law_draw" ["_law_state", "_law_limit"] 2 (SpS K sp_draw)) :
    Ok P w K mg base "_law_single" ["_law_state", "_law_n"] 3 (SpS K sp_single) := by
  obtain ⟨fd, F⟩ := T.c.def_ 47 (d := d_single) rfl
  have F : FnP K "_law_single" s_single (He.ga K "_law_single") fd := F
  have len : ∀ m ds R, sp_single m ds R → ds.length + 1 = 2 := (fun m ds R h => by obtain ⟨_, rfl, _⟩ := h; rfl)
  refine Ok.of F (He.glo_ok T.X T.G (T.c.fact 47 (f := .glo "_law_single") rfl)) (FunD.bindsN F fun _ _ _ _ _ _ us hl => match us, hl with | [_, _], _ => rfl)
    (FunD.ok F sc_single (fun vs H Q E h => lenS (n := 2) h len) (fun cdv A outer s H vs Q E hr hq => ⟨_, PSs.nox (pss_cons (ps_set (i := 2) sc_single.nd rfl (by first | exact .inl rfl | exact .inr rfl) (pe_cl o_draw (hr.mono (by omega)) (by rfl) (pa_cons (pv 0) (pa_cons pe_int pa_nil))))
    (pss_cons (ps_if (pt_cmpR op_lt (pv 2) pe_int (by rfl)) (pss_one (ps_ret (pe_tup (pa_cons pe_str pa_nil)))) pss_nil)
    (pss_cons (ps_if (pt_cmpR op_lt (pv 2) pe_int (by rfl)) (pss_one (ps_ret (pe_tup (pa_cons pe_str (pa_cons (pe_cl o_draw (hr.mono (by omega)) (by rfl) (pa_cons (pv 0) (pa_cons (pe_op op_add (pv 1) pe_int) pa_nil))) pa_nil))))) pss_nil)
    (pss_cons (ps_if (pt_cmpR op_eq (pv 2) pe_int (by rfl)) (pss_one (ps_ret (pe_tup (pa_cons pe_str (pa_cons (pe_tup (pa_cons pe_str (pa_cons (pe_cl o_draw (hr.mono (by omega)) (by rfl) (pa_cons (pv 0) (pa_cons (pe_op op_add (pv 1) pe_int) pa_nil))) pa_nil))) (pa_cons (pe_tup (pa_cons pe_str pa_nil)) pa_nil)))))) pss_nil)
    (pss_one (ps_ret (pe_tup (pa_cons pe_str (pa_cons (pe_tup (pa_cons pe_str pa_nil)) (pa_cons (pe_tup (pa_cons pe_str (pa_cons pe_int pa_nil))) pa_nil)))))))))), ?_⟩))
  refine fn_runS (n := 2) hq len (by decide) fun m ds R hs => ?_
  try dsimp only [cxOf]
  obtain ⟨N, rfl, h2, h4, hm, h0, hR⟩ := hs
  show WS K _ m [.sta, .sh (.int N), .any] _
  walk_at "r"
  refine ⟨by omega, h0, fun r hr => ?_⟩
  walk_at "r"
  refine ⟨fun hb => ?_, fun hb => ?_⟩
  · walk_at "r"
    exact hR .one in_one _ (by omega) (by omega) (by omega)
  walk_at "r"
  refine ⟨fun hb => ?_, fun hb => ?_⟩
  · walk_at "r"
    refine ⟨by omega, by omega, by omega, by omega, fun k hk => ?_⟩
    walk_at "r"
    exact hR (.sub k) (in_sub (by omega)) _ (by omega) (by omega) (by omega)
  walk_at "r"
  refine ⟨fun hb => ?_, fun hb => ?_⟩
  · walk_at "r"
    refine ⟨by omega, by omega, by omega, by omega, fun k hk => ?_⟩
    walk_at "r"
    exact hR (.ei (.sub k) .one) (in_ei (by omega)) _ (by omega) (by omega) (by omega)
  walk_at "r"
  exact hR (.ei .one (.sub 2)) in_ei2 _ (by omega) (by omega) (by omega)
theorem sc_any_sort : FnScope ["_law_state", "_law_n", "_law_deep", "_law_pick", "_law_one"] ["_law_state", "_law_n", "_law_deep"] (defScope s_any_sort) := ⟨rfl, rfl, rfl, by decide +kernel, rfl, by decide +kernel, by decide +kernel⟩
def sp_any_sort (n : Nat) : SpecS := fun m ds R => ∃ (N d : Nat), ds = [.int N, .int d] ∧ d < n ∧ 2 ≤ N ∧ N ≤ 4 ∧ m + 384 * 2 ^ d ≤ 6000000 ∧ 0 < m % 64 ∧ ∀ s, Dr N d s → ∀ m', m ≤ m' → m' + 64 ≤ m + 384 * 2 ^ d → m' % 64 = m % 64 → R s.d m'
theorem ok_any_sort {P : Program} {w : World} {K : PySem.W.Frag} {mg : Str → Option Value} {base h : Heap} (T : Tx K mg h) {n : Nat} (o_draw : Ok P w K mg base "_law_draw" ["_law_state", "_law_limit"] 2 (SpS K sp_draw)) (o_single : Ok P w K mg base "_law_single" ["_law_state", "_law_n"] 3 (SpS K sp_single)) (o_any_sort : Ok P w K mg base "_law_any_sort" ["_law_state", "_law_n", "_law_deep"] (n + 4) (SpS K (sp_any_sort n))) :
    Ok P w K mg base "_law_any_sort" ["_law_state", "_law_n", "_law_deep"] ((n + 1) + 4) (SpS K (sp_any_sort (n + 1))) := by
  obtain ⟨fd, F⟩ := T.c.def_ 48 (d := d_any_sort) rfl
  have F : FnP K "_law_any_sort" s_any_sort (He.ga K "_law_any_sort") fd := F
  have len : ∀ m ds R, sp_any_sort (n + 1) m ds R → ds.length + 1 = 3 := (fun m ds R h => by obtain ⟨_, _, rfl, _⟩ := h; rfl)
  refine Ok.of F (He.glo_ok T.X T.G (T.c.fact 48 (f := .glo "_law_any_sort") rfl)) (FunD.bindsN F fun _ _ _ _ _ _ us hl => match us, hl with | [_, _, _], _ => rfl)
    (FunD.ok F sc_any_sort (fun vs H Q E h => lenS (n := 3) h len) (fun cdv A outer s H vs Q E hr hq => ⟨_, PSs.nox (pss_cons (ps_set (i := 3) sc_any_sort.nd rfl (by first | exact .inl rfl | exact .inr rfl) (pe_cl o_draw (hr.mono (by omega)) (by rfl) (pa_cons (pv 0) (pa_cons (pe_ifExp (pt_cmpR op_gt (pv 2) pe_int (by rfl)) pe_int pe_int) pa_nil))))
    (pss_cons (ps_if (pt_cmpR op_lt (pv 3) pe_int (by rfl)) (pss_one (ps_ret (pe_ifExp (pt_cmpR op_eq (pv 3) pe_int (by rfl)) (pe_tup (pa_cons pe_str pa_nil)) (pe_tup (pa_cons pe_str (pa_cons (pe_cl o_draw (hr.mono (by omega)) (by rfl) (pa_cons (pv 0) (pa_cons (pe_op op_add (pv 1) pe_int) pa_nil))) pa_nil)))))) pss_nil)
    (pss_cons (ps_if (pt_cmpR op_lt (pv 3) pe_int (by rfl)) (pss_one (ps_ret (pe_ifExp (pt_cmpR op_eq (pv 3) pe_int (by rfl)) (pe_tup (pa_cons pe_str (pa_cons (pe_cl o_draw (hr.mono (by omega)) (by rfl) (pa_cons (pv 0) (pa_cons pe_int pa_nil))) pa_nil))) (pe_tup (pa_cons pe_str (pa_cons (pe_ifExp (pt_cmpR op_lt (pv 1) pe_int (by rfl)) (pe_op op_add pe_int (pe_cl o_draw (hr.mono (by omega)) (by rfl) (pa_cons (pv 0) (pa_cons pe_int pa_nil)))) pe_int) pa_nil)))))) pss_nil)
    (pss_cons (ps_if (pt_cmpR op_lt (pv 3) pe_int (by rfl)) (pss_one (ps_ret (pe_ifExp (pt_cmpR op_eq (pv 3) pe_int (by rfl)) (pe_ix ix_list (pe_lst (pa_cons (pe_tup (pa_cons pe_str pa_nil)) (pa_cons (pe_tup (pa_cons pe_str pa_nil)) (pa_cons (pe_tup (pa_cons pe_str pa_nil)) pa_nil)))) (pe_cl o_draw (hr.mono (by omega)) (by rfl) (pa_cons (pv 0) (pa_cons pe_int pa_nil))) (fun _ _ => rfl)) (pe_tup (pa_cons pe_str (pa_cons (pe_op op_add pe_int (pe_cl o_draw (hr.mono (by omega)) (by rfl) (pa_cons (pv 0) (pa_cons pe_int pa_nil)))) pa_nil)))))) pss_nil)
    (pss_cons (ps_if (pt_cmpR op_lt (pv 3) pe_int (by rfl)) (pss_one (ps_ret (pe_tup (pa_cons (pe_ix ix_list (pe_lst (pa_cons pe_str (pa_cons pe_str pa_nil))) (pe_cl o_draw (hr.mono (by omega)) (by rfl) (pa_cons (pv 0) (pa_cons pe_int pa_nil))) (fun _ _ => rfl)) (pa_cons (pe_cl o_draw (hr.mono (by omega)) (by rfl) (pa_cons (pv 0) (pa_cons pe_int pa_nil))) (pa_cons (pe_cl o_single (hr.mono (by omega)) (by rfl) (pa_cons (pv 0) (pa_cons (pv 1) pa_nil))) pa_nil)))))) pss_nil)
    (pss_cons (ps_if (pt_cmpR op_lt (pv 3) pe_int (by rfl)) (pss_one (ps_ret (pe_tup (pa_cons pe_str (pa_cons (pe_cl o_draw (hr.mono (by omega)) (by rfl) (pa_cons (pv 0) (pa_cons pe_int pa_nil))) (pa_cons (pe_cl o_any_sort (hr.mono (by omega)) (by rfl) (pa_cons (pv 0) (pa_cons (pv 1) (pa_cons (pe_op op_sub (pv 2) pe_int) pa_nil)))) pa_nil)))))) pss_nil)
    (pss_cons (ps_set (i := 4) sc_any_sort.nd rfl (by first | exact .inl rfl | exact .inr rfl) (pe_cl o_any_sort (hr.mono (by omega)) (by rfl) (pa_cons (pv 0) (pa_cons (pv 1) (pa_cons (pe_op op_sub (pv 2) pe_int) pa_nil)))))
    (pss_one (ps_ret (pe_tup (pa_cons (pe_ifExp (pt_cmpR op_lt (pv 3) pe_int (by rfl)) pe_str pe_str) (pa_cons (pv 4) (pa_cons (pe_cl o_any_sort (hr.mono (by omega)) (by rfl) (pa_cons (pv 0) (pa_cons (pv 1) (pa_cons (pe_op op_sub (pv 2) pe_int) pa_nil)))) pa_nil))))))))))))), ?_⟩))
  refine fn_runS (n := 3) hq len (by decide) fun m ds R hs => ?_
  try dsimp only [cxOf]
  obtain ⟨N, d, rfl, hd, h2, h4, hm, h0, hR⟩ := hs
  have hp1 : 1 ≤ 2 ^ d := Nat.one_le_two_pow
  show WS K _ m [.sta, .sh (.int N), .sh (.int d), .any, .any] _
  refine ws_seq (ws_asg (we_clS rfl (wa_cons (we_ifI (x := 16) (y := 6) ?_))))
  walk_at "r"
  refine ⟨?_, ?_, ?_⟩
  · walk_at "r"
    exact ⟨rfl, rfl⟩
  · walk_at "r"
    exact ⟨rfl, rfl⟩
  walk_at "r"
  refine ⟨by split <;> omega, by split <;> omega, by omega, h0, fun r hr => ?_⟩
  walk_at "r"
  refine ⟨fun hb => ?_, fun hb => ?_⟩
  · walk_at "r"
    refine ⟨fun hc => ?_, fun hc => ?_⟩
    · walk_at "r"
      exact hR .one (dr_lf (lf_five (by simp))) _ (by omega) (by omega) (by omega)
    · walk_at "r"
      refine ⟨by omega, by omega, by omega, by omega, fun k hk => ?_⟩
      walk_at "r"
      exact hR (.sub k) (dr_lf (lf_sub (by omega))) _ (by omega) (by omega) (by omega)
  walk_at "r"
  refine ⟨fun hb => ?_, fun hb => ?_⟩
  · walk_at "r"
    refine ⟨fun hc => ?_, fun hc => ?_⟩
    · walk_at "r"
      refine ⟨by omega, by omega, fun k hk => ?_⟩
      walk_at "r"
      exact hR (.bag k) (dr_lf (lf_bag (by omega))) _ (by omega) (by omega) (by omega)
    · walk_at "r"
      refine ⟨fun hc => ?_, fun hc => ?_⟩
      · walk_at "r"
        refine ⟨by omega, by omega, fun k hk => ?_⟩
        have hc := of_decide_eq_true hc
        have hN : N < 4 := by omega
        walk_at "r"
        have hk2 : k = 0 ∨ k = 1 := by omega
        rcases hk2 with rfl | rfl
        · exact hR (.rounds 1) (dr_lf (lf_five (by simp))) _ (by omega) (by omega) (by omega)
        · exact hR (.rounds 2) (dr_lf (lf_rounds2 hN)) _ (by omega) (by omega) (by omega)
      · walk_at "r"
        exact hR (.rounds 1) (dr_lf (lf_five (by simp))) _ (by omega) (by omega) (by omega)
  walk_at "r"
  refine ⟨fun hb => ?_, fun hb => ?_⟩
  · walk_at "r"
    refine ⟨fun hc => ?_, fun hc => ?_⟩
    · walk_at "q"
      refine ⟨by omega, by omega, fun k hk => ?_⟩
      have hk2 : k = 0 ∨ k = 1 ∨ k = 2 := by omega
      rcases hk2 with rfl | rfl | rfl
      · exact o_ixL (d := S.trees.d) rfl (hR .trees (dr_lf (lf_five (by simp))) _ (by omega) (by omega) (by omega))
      · exact o_ixL (d := S.rooted.d) rfl (hR .rooted (dr_lf (lf_five (by simp))) _ (by omega) (by omega) (by omega))
      · exact o_ixL (d := S.none.d) rfl (hR .none (dr_lf (lf_five (by simp))) _ (by omega) (by omega) (by omega))
    · walk_at "r"
      refine ⟨by omega, by omega, fun k hk => ?_⟩
      walk_at "r"
      have e : (1 : Int) + (k : Int) = ((1 + k : Nat) : Int) := by omega
      rw [e]
      exact hR (.bag (1 + k)) (dr_lf (lf_bag (by omega))) _ (by omega) (by omega) (by omega)
  have hb5 := of_decide_eq_false hb
  have hd0 : 0 < d := by
    apply Classical.byContradiction
    intro z
    rw [decide_eq_false (by omega)] at hr
    have hr : (r : Int) < 6 := hr
    omega
  obtain ⟨d, rfl⟩ : ∃ d', d = d' + 1 := ⟨d - 1, by omega⟩
  have hpd : 2 ^ (d + 1) = 2 * 2 ^ d := by rw [Nat.pow_succ, Nat.mul_comm]
  have hp2 : 1 ≤ 2 ^ d := Nat.one_le_two_pow
  have eD : ((d + 1 : Nat) : Int) - 1 = (d : Int) := by omega
  rw [hpd] at hm hR
  walk_at "r"
  refine ⟨fun hb => ?_, fun hb => ?_⟩
  · walk_at "q"
    refine ⟨by omega, by omega, fun f hf => ?_⟩
    have hf2 : f = 0 ∨ f = 1 := by omega
    rcases hf2 with rfl | rfl
    · refine o_ixL (d := .str "family") rfl ?_
      walk_at "r"
      refine ⟨by omega, by omega, fun k hk => ?_⟩
      walk_at "r"
      refine ⟨h2, h4, by omega, by omega, fun a ha m' q1 q2 q3 => ?_⟩
      walk_at "r"
      exact hR (.fam k a) (.inr (.inl (fm_fam (by omega) ha))) _ (by omega) (by omega) (by omega)
    · refine o_ixL (d := .str "heap") rfl ?_
      walk_at "r"
      refine ⟨by omega, by omega, fun k hk => ?_⟩
      walk_at "r"
      refine ⟨h2, h4, by omega, by omega, fun a ha m' q1 q2 q3 => ?_⟩
      walk_at "r"
      exact hR (.heap k a) (.inr (.inl (fm_heap (by omega) ha))) _ (by omega) (by omega) (by omega)
  walk_at "r"
  refine ⟨fun hb => ?_, fun hb => ?_⟩
  · walk_at "r"
    refine ⟨by omega, by omega, fun k hk => ?_⟩
    walk_at "r"
    refine ⟨N, d, by rw [eD], by omega, h2, h4, by omega, by omega, fun a ha m' q1 q2 q3 => ?_⟩
    walk_at "r"
    exact hR (.li k a) (.inr (.inr (.inl ⟨k, a, by omega, ha, rfl⟩))) _ (by omega) (by omega) (by omega)
  walk_at "r"
  refine ⟨N, d, by rw [eD], by omega, h2, h4, by omega, by omega, fun a ha m' q1 q2 q3 => ?_⟩
  walk_at "r"
  refine ⟨fun hb => ?_, fun hb => ?_⟩
  · walk_at "r"
    refine ⟨N, d, by rw [eD], by omega, h2, h4, by omega, by omega, fun b hb m'' q4 q5 q6 => ?_⟩
    walk_at "r"
    exact hR (.pr a b) (.inr (.inr (.inr ⟨a, b, ha, hb, .inl rfl⟩))) _ (by omega) (by omega) (by omega)
  · walk_at "r"
    refine ⟨N, d, by rw [eD], by omega, h2, h4, by omega, by omega, fun b hb m'' q4 q5 q6 => ?_⟩
    walk_at "r"
    exact hR (.ei a b) (.inr (.inr (.inr ⟨a, b, ha, hb, .inr rfl⟩))) _ (by omega) (by omega) (by omega)
theorem all_any_sort {P : Program} {w : World} {K : PySem.W.Frag} {mg : Str → Option Value} {base h : Heap} (T : Tx K mg h) (o_draw : Ok P w K mg base "_law_draw" ["_law_state", "_law_limit"] 2 (SpS K sp_draw)) (o_single : Ok P w K mg base "_law_single" ["_law_state", "_law_n"] 3 (SpS K sp_single)) : ∀ n : Nat, Ok P w K mg base "_law_any_sort" ["_law_state", "_law_n", "_law_deep"] (n + 4) (SpS K (sp_any_sort n))
  | 0 => by
    obtain ⟨fd, F⟩ := T.c.def_ 48 (d := d_any_sort) rfl
    have F : FnP K "_law_any_sort" s_any_sort (He.ga K "_law_any_sort") fd := F
    refine Ok.noneS F (He.glo_ok T.X T.G (T.c.fact 48 (f := .glo "_law_any_sort") rfl)) (FunD.bindsN F fun _ _ _ _ _ _ us hl => match us, hl with | [_, _, _], _ => rfl) (fun m ds R h => by obtain ⟨N, d, rfl, hd, _⟩ := h; omega)
  | n + 1 => ok_any_sort T o_draw o_single (all_any_sort T o_draw o_single n)
theorem sc_sort : FnScope ["_law_state", "_law_n", "_law_deep", "_law_most", "_law_found"] ["_law_state", "_law_n", "_law_deep", "_law_most"] (defScope s_sort) := ⟨rfl, rfl, rfl, by decide +kernel, rfl, by decide +kernel, by decide +kernel⟩
def sp_sort : SpecS := fun m ds R => ∃ (N : Nat), ds = [.int N, .int 2, .int 40] ∧ 2 ≤ N ∧ N ≤ 4 ∧ m ≤ 5000000 ∧ 0 < m % 64 ∧ ∀ s, Drawn N s → ∀ m', m ≤ m' → m' ≤ m + 1600 → m' % 64 = m % 64 → R s.d m'
theorem ok_sort {P : Program} {w : World} {K : PySem.W.Frag} {mg : Str → Option Value} {base h : Heap} (T : Tx K mg h) (o_draw : Ok P w K mg base "_law_draw" ["_law_state", "_law_limit"] 2 (SpS K sp_draw)) (o_weight : Ok P w K mg base "_law_weight" ["_law_n", "_law_sort_here"] (10 + 1) (SpP K (sp_weight 10))) (o_fits : Ok P w K mg base "_law_fits" ["_law_n", "_law_sort_here", "_law_most"] (10 + 3) (SpP K (sp_fits 10))) (o_any_sort : Ok P w K mg base "_law_any_sort" ["_law_state", "_law_n", "_law_deep"] (3 + 4) (SpS K (sp_any_sort 3))) :
    Ok P w K mg base "_law_sort" ["_law_state", "_law_n", "_law_deep", "_law_most"] 20 (SpS K sp_sort) := by
  obtain ⟨fd, F⟩ := T.c.def_ 50 (d := d_sort) rfl
  have F : FnP K "_law_sort" s_sort (He.ga K "_law_sort") fd := F
  have len : ∀ m ds R, sp_sort m ds R → ds.length + 1 = 4 := (fun m ds R h => by obtain ⟨_, rfl, _⟩ := h; rfl)
  refine Ok.of F (He.glo_ok T.X T.G (T.c.fact 50 (f := .glo "_law_sort") rfl)) (FunD.bindsN F fun _ _ _ _ _ _ us hl => match us, hl with | [_, _, _, _], _ => rfl)
    (FunD.ok F sc_sort (fun vs H Q E h => lenS (n := 4) h len) (fun cdv A outer s H vs Q E hr hq => ⟨_, PSs.nox (pss_cons (ps_set (i := 4) sc_sort.nd rfl (by first | exact .inl rfl | exact .inr rfl) (pe_cl o_any_sort (hr.mono (by omega)) (by rfl) (pa_cons (pv 0) (pa_cons (pv 1) (pa_cons (pv 2) pa_nil)))))
    (pss_cons (ps_if (PW.pt (pw_and (pt_val (pe_cl o_fits (hr.mono (by omega)) (by rfl) (pa_cons (pv 1) (pa_cons (pv 4) (pa_cons (pv 3) pa_nil))))) (pw_and1 (pt_cmpR op_le (pe_cl o_weight (hr.mono (by omega)) (by rfl) (pa_cons (pv 1) (pa_cons (pv 4) pa_nil))) pe_int (by rfl))))) (pss_one (ps_ret (pv 4))) pss_nil)
    (pss_one (ps_ret (pe_ix ix_list (pe_lst (pa_cons (pe_tup (pa_cons pe_str pa_nil)) (pa_cons (pe_tup (pa_cons pe_str (pa_cons pe_int pa_nil))) (pa_cons (pe_tup (pa_cons pe_str (pa_cons pe_int pa_nil))) (pa_cons (pe_tup (pa_cons pe_str (pa_cons pe_int (pa_cons (pe_tup (pa_cons pe_str (pa_cons (pe_op op_sub (pv 1) pe_int) pa_nil))) pa_nil)))) pa_nil))))) (pe_cl o_draw (hr.mono (by omega)) (by rfl) (pa_cons (pv 0) (pa_cons pe_int pa_nil))) (fun _ _ => rfl)))))), ?_⟩))
  refine fn_runS (n := 4) hq len (by decide) fun m ds R hs => ?_
  try dsimp only [cxOf]
  obtain ⟨N, rfl, h2, h4, hm, h0, hR⟩ := hs
  obtain ⟨w1, w2, w3, w4⟩ := drawn_plain h2 h4
  show WS K _ m [.sta, .sh (.int N), .sh (.int 2), .sh (.int 40), .any] _
  walk_at "r"
  refine ⟨h2, h4, by omega, h0, fun s hs m' q1 q2 q3 => ?_⟩
  have A := dr_ok h2 h4 2 s (by omega) hs
  have a1 := A.depth
  walk_at "r"
  refine ⟨by omega, A.ok, h2, by omega, A.up, ?_⟩
  walk_at "r"
  refine ⟨fun hf => ?_, fun hf => ?_⟩
  · walk_at "r"
    refine ⟨by omega, A.ok, h2, by omega, ?_⟩
    walk_at "r"
    refine ⟨fun hb => ?_, fun hb => ?_⟩
    · walk_at "r"
      exact hR s ⟨hs, hf, of_decide_eq_true hb⟩ _ (by omega) (by omega) (by omega)
    · walk_at "q"
      refine ⟨by omega, by omega, fun r hr => ?_⟩
      rw [show (N : Int) - 1 = ((N - 1 : Nat) : Int) by omega]
      have hr2 : r = 0 ∨ r = 1 ∨ r = 2 ∨ r = 3 := by omega
      rcases hr2 with rfl | rfl | rfl | rfl
      · exact o_ixL (d := S.one.d) rfl (hR _ w1 _ (by omega) (by omega) (by omega))
      · exact o_ixL (d := (S.sub 2).d) rfl (hR _ w2 _ (by omega) (by omega) (by omega))
      · exact o_ixL (d := (S.bag 2).d) rfl (hR _ w3 _ (by omega) (by omega) (by omega))
      · exact o_ixL (d := (S.fam 2 (.sub (N - 1))).d) rfl (hR _ w4 _ (by omega) (by omega) (by omega))
  · walk_at "q"
    refine ⟨by omega, by omega, fun r hr => ?_⟩
    rw [show (N : Int) - 1 = ((N - 1 : Nat) : Int) by omega]
    have hr2 : r = 0 ∨ r = 1 ∨ r = 2 ∨ r = 3 := by omega
    rcases hr2 with rfl | rfl | rfl | rfl
    · exact o_ixL (d := S.one.d) rfl (hR _ w1 _ (by omega) (by omega) (by omega))
    · exact o_ixL (d := (S.sub 2).d) rfl (hR _ w2 _ (by omega) (by omega) (by omega))
    · exact o_ixL (d := (S.bag 2).d) rfl (hR _ w3 _ (by omega) (by omega) (by omega))
    · exact o_ixL (d := (S.fam 2 (.sub (N - 1))).d) rfl (hR _ w4 _ (by omega) (by omega) (by omega))
end ME
end
section
set_option Elab.async false
set_option linter.all false
set_option maxRecDepth 100000
set_option maxHeartbeats 4000000
namespace ME
open PySem L2 MW
local macro_rules | `(tactic| walk_at "norm1") => `(tactic| dsimp only [Then, LoopP, FnPost, FnPostS])
local macro_rules | `(tactic| walk_at "mul") => `(tactic| (first
  | exact Or.inl ⟨by omega, by omega⟩
  | exact Or.inr ⟨by omega, by omega⟩))
local macro_rules | `(tactic| walk_at "we") => `(tactic| (first
  | ((with_reducible refine we_var (d := ?d) ?he ?_); (case he => exact rfl))
  | with_reducible refine we_int ?_
  | with_reducible refine we_str ?_
  | with_reducible refine we_op ?_
  | with_reducible refine we_cl ?_
  | with_reducible refine we_tup ?_
  | with_reducible refine we_bl ?_
  | with_reducible refine we_non ?_
  | with_reducible refine we_if ?_
  | ((with_reducible refine we_lenO (ds := ?ds) ?he ?_); (case he => exact rfl))
  | with_reducible refine we_len ?_
  | with_reducible refine we_int1 ?_
  | with_reducible refine we_andV ?_
  | with_reducible refine we_orV ?_
  | with_reducible refine we_notV ?_
  | with_reducible refine we_neg ?_
  | with_reducible refine we_chain ?_
  | with_reducible refine we_dget ?_
  | ((with_reducible refine we_dget2O (t := ?t) ?he ?_); (case he => exact rfl))
  | ((with_reducible refine we_dget2I (t := ?t) ?he ?_); (case he => exact rfl))
  | with_reducible refine we_dget2 ?_
  | ((with_reducible refine we_isi ?ht ?_); (case ht => first | exact .inl rfl | exact .inr (.inl rfl) | exact .inr (.inr (.inl rfl)) | exact .inr (.inr (.inr rfl))))
  | ((with_reducible refine we_clS ?he ?_); (case he => exact rfl))
  | with_reducible refine we_max2 ?_
  | with_reducible refine we_dispT1 ?_
  | with_reducible refine we_dispT2 ?_
  | ((with_reducible refine we_tupOfO (ds := ?ds) ?he ?_); (case he => exact rfl))
  | with_reducible refine we_sumT ?_
  | with_reducible refine we_divmod ?_
  | with_reducible refine we_newT ?_))
local macro_rules | `(tactic| walk_at "op2") => `(tactic| (first
  | ((with_reducible refine o_ixT (d := ?d) ?he ?_); (case he => exact rfl))
  | with_reducible refine o_eqS ?_
  | with_reducible refine o_eqI ?_
  | with_reducible refine o_add ?_
  | with_reducible refine o_sub ?_
  | ((with_reducible refine o_inT (x := ?x) (xs := ?xs) ?hx ?hs ?_); (case hx => exact rfl); (case hs => exact rfl))
  | ((with_reducible refine o_mul ?hc ?_); (case hc => walk_at "mul"))
  | ((with_reducible refine o_mod ?hc ?_); (case hc => omega))
  | ((with_reducible refine o_div ?hc ?_); (case hc => exact ⟨by omega, by omega⟩))
  | with_reducible refine o_lt ?_
  | with_reducible refine o_le ?_
  | with_reducible refine o_gt ?_
  | with_reducible refine o_ge ?_
  | with_reducible refine o_neI ?_
  | ((with_reducible refine o_ixL (d := ?d) ?he ?_); (case he => exact rfl))
  | ((with_reducible refine o_inL (x := ?x) (xs := ?xs) ?hx ?hs ?_); (case hx => exact rfl); (case hs => exact rfl))
  | ((with_reducible refine o_catT ?hl ?_); (case hl => (simp only [List.length_cons, List.length_nil, List.length_append, List.length_map, List.length_replicate]; omega)))
  | ((with_reducible refine o_repTI ?h0 ?h1 ?_); (case h0 => omega); (case h1 => omega))
  | with_reducible refine o_isNT ?_))
local macro_rules | `(tactic| walk_at "wt") => `(tactic| (first
  | with_reducible refine wt_test ?_
  | with_reducible refine wt_B ?_
  | with_reducible refine wt_not ?_
  | with_reducible refine wt_and ?_
  | with_reducible refine wt_or ?_))
local macro_rules | `(tactic| walk_at "ws") => `(tactic| (first
  | with_reducible refine ws_seq ?_
  | with_reducible refine ws_asg ?_
  | with_reducible refine ws_if ?_
  | with_reducible refine ws_ret ?_
  | with_reducible refine ws_next ?_
  | with_reducible refine ws_drop ?_
  | with_reducible refine ws_par ?_
  | ((with_reducible refine ws_asg2 ?hn ?_); (case hn => rfl))))
local macro_rules | `(tactic| walk_at "no") => `(tactic| first
  | (intro hb; exact Bool.noConfusion (show (true : Bool) = false from hb))
  | (intro hb; exact Bool.noConfusion (show (false : Bool) = true from hb)))
local macro_rules | `(tactic| walk_at "br") => `(tactic| first
  | (refine ⟨?_, ?no⟩; (case no => walk_at "no"); (intro _))
  | (refine ⟨?no, ?_⟩; (case no => walk_at "no"); (intro _)))
local macro_rules | `(tactic| walk_at "ex") => `(tactic| first
  | (refine ⟨_, rfl, ?_⟩)
  | (refine ⟨_, _, rfl, rfl, ?_⟩)
  | (refine ⟨_, _, rfl, ?_⟩)
  | (refine ⟨_, _, _, rfl, ?_⟩)
  | (refine ⟨_, _, _, _, rfl, ?_⟩)
  | (refine ⟨_, .inr rfl, ?_⟩)
  | (refine ⟨_, .inl rfl, ?_⟩))
local macro_rules | `(tactic| walk_at "r") => `(tactic| repeat (first
  | ((with_reducible show MW.WE _ _ _ _ _); walk_at "we")
  | ((with_reducible show MW.Op2 _ _ _ _ _ _ _); walk_at "op2")
  | ((with_reducible show MW.WS _ _ _ _ _); walk_at "ws")
  | ((with_reducible show MW.WA _ _ _ _ _); first | with_reducible refine wa_cons ?_ | with_reducible refine wa_nil ?_)
  | ((with_reducible show MW.WT _ _ _ _ _); walk_at "wt")
  | ((with_reducible show Exists _); walk_at "ex")
  | ((with_reducible show And _ _); first | walk_at "br" | (refine ⟨by decide, ?_⟩) | (refine ⟨Nat.le_of_ble_eq_true rfl, ?_⟩) | (refine ⟨.inl ⟨_, rfl⟩, ?_⟩) | (refine ⟨.inr (.inl ⟨_, rfl⟩), ?_⟩) | (refine ⟨.inr (.inr ⟨_, rfl⟩), ?_⟩))
  | walk_at "norm1"
  | walk_at "ex"))
local macro_rules | `(tactic| walk_at "q") => `(tactic| repeat (first
  | ((with_reducible show MW.WE _ _ _ _ _); first | with_reducible refine we_wl (wl_cat ?_) | with_reducible refine we_wl (wl_lst ?_) | walk_at "we")
  | ((with_reducible show MW.Op2 _ _ _ _ _ _ _); walk_at "op2")
  | ((with_reducible show MW.WS _ _ _ _ _); walk_at "ws")
  | ((with_reducible show MW.WA _ _ _ _ _); first | with_reducible refine wa_cons ?_ | with_reducible refine wa_nil ?_)
  | ((with_reducible show MW.WT _ _ _ _ _); walk_at "wt")
  | ((with_reducible show Exists _); walk_at "ex")
  | ((with_reducible show And _ _); first | walk_at "br" | (refine ⟨by decide, ?_⟩) | (refine ⟨Nat.le_of_ble_eq_true rfl, ?_⟩) | (refine ⟨.inl ⟨_, rfl⟩, ?_⟩) | (refine ⟨.inr (.inl ⟨_, rfl⟩), ?_⟩) | (refine ⟨.inr (.inr ⟨_, rfl⟩), ?_⟩))
  | walk_at "norm1"
  | walk_at "ex"))
local macro_rules | `(tactic| walk_at "le") => `(tactic| ((try refine ⟨rfl, ?_⟩); repeat (first | exact Le.nil | refine Le.eq ?_ | refine Le.any ?_)))

theorem sc_like : FnScope ["_law_got", "_law_due"] ["_law_got", "_law_due"] (defScope s_like) := ⟨rfl, rfl, rfl, by decide +kernel, rfl, by decide +kernel, by decide +kernel⟩
def sp_like : SpecD := fun ds R => ∃ (d : D), ds = [d, d] ∧ Shw d ∧ R (.bl true)
theorem ok_like {P : Program} {w : World} {K : PySem.W.Frag} {mg : Str → Option Value} {base h : Heap} (T : Tx K mg h)  :
    OkG P w K mg base "_law_like" ["_law_got", "_law_due"] 1 (SpP K sp_like) := by
  obtain ⟨fd, F⟩ := T.c.def_ 51 (d := d_like) rfl
  have F : FnP K "_law_like" s_like (He.ga K "_law_like") fd := F
  have len : ∀ ds R, sp_like ds R → ds.length = 2 := (fun ds R h => by obtain ⟨_, rfl, _⟩ := h; rfl)
  refine OkG.of F (He.glo_ok T.X T.G (T.c.fact 51 (f := .glo "_law_like") rfl)) (FunD.bindsN F fun _ _ _ _ _ _ us hl => match us, hl with | [_, _], _ => rfl)
    (FnG.of F sc_like (fun vs H Q E h => lenP (n := 2) h len) (fun cdv A outer s H vs Q E hr hgu hq => ⟨_, PSs.nox (pss_one (ps_ret (pe_cmpR op_eq (pe_callB (cr_repr hgu hr.units) (by rfl) T.repr_ (by decide +kernel) (pa_cons (pv 0) pa_nil)) (pe_callB (cr_repr hgu hr.units) (by rfl) T.repr_ (by decide +kernel) (pa_cons (pv 1) pa_nil)) (by rfl)))), ?_⟩))
  refine fn_run (n := 2) hq len (by decide) fun ds R hs => ?_
  try dsimp only [cxOf]
  obtain ⟨d, rfl, hd, hR⟩ := hs
  show WS K _ 0 [.sh d, .sh d] _
  refine ws_ret (we_op (we_repr (we_var (d := d) rfl ⟨hd, we_repr (we_var (d := d) rfl ⟨hd, o_eqS ?_⟩)⟩)))
  rw [decide_eq_true rfl]
  exact hR
theorem sc_greatest : FnScope ["_law_n", "_law_sort_here", "_law_total", "_law_due"] ["_law_n", "_law_sort_here", "_law_total", "_law_due"] (defScope s_greatest) := ⟨rfl, rfl, rfl, by decide +kernel, rfl, by decide +kernel, by decide +kernel⟩
def sp_greatest : SpecD := fun ds R => ∃ (s : S) (N t : Nat) (due : Int), ds = [.int N, s.d, .int t, .int due] ∧ s.good N ∧ s.reach N ∧ t ≤ 24 * N ∧ due = (tget (s.table N) (evenV N t)).getD 0 ∧ due.natAbs.log2 < 1920 ∧ R (.bl true)
theorem ok_greatest {P : Program} {w : World} {K : PySem.W.Frag} {mg : Str → Option Value} {base h : Heap} (T : Tx K mg h) (o_like : OkG P w K mg base "_law_like" ["_law_got", "_law_due"] 1 (SpP K sp_like)) (o_p_count_at : Ok P w K mg base "count_at" ["many", "sort", "content"] 21 (SpP K sp_p_count_at)) (o_even : Ok P w K mg base "_law_even" ["_law_n", "_law_total"] 1 (SpP K sp_even)) (o_p_greatest_count : Ok P w K mg base "greatest_count" ["many", "sort", "total"] 21 (SpP K sp_p_greatest_count)) :
    OkG P w K mg base "_law_greatest" ["_law_n", "_law_sort_here", "_law_total", "_law_due"] 30 (SpP K sp_greatest) := by
  obtain ⟨fd, F⟩ := T.c.def_ 58 (d := d_greatest) rfl
  have F : FnP K "_law_greatest" s_greatest (He.ga K "_law_greatest") fd := F
  have len : ∀ ds R, sp_greatest ds R → ds.length = 4 := (fun ds R h => by obtain ⟨_, _, _, _, rfl, _⟩ := h; rfl)
  refine OkG.of F (He.glo_ok T.X T.G (T.c.fact 58 (f := .glo "_law_greatest") rfl)) (FunD.bindsN F fun _ _ _ _ _ _ us hl => match us, hl with | [_, _, _, _], _ => rfl)
    (FnG.of F sc_greatest (fun vs H Q E h => lenP (n := 4) h len) (fun cdv A outer s H vs Q E hr hgu hq => ⟨_, PSs.nox (pss_cons (ps_if (pt_not (pt_val (pe_clG o_like (hr.mono (by omega)) hgu (by rfl) (pa_cons (pe_cl o_p_greatest_count (hr.mono (by omega)) (by rfl) (pa_cons (pv 0) (pa_cons (pv 1) (pa_cons (pv 2) pa_nil)))) (pa_cons (pv 3) pa_nil))))) (pss_one (ps_ret pe_bl)) pss_nil)
    (pss_one (ps_ret (pe_clG o_like (hr.mono (by omega)) hgu (by rfl) (pa_cons (pe_cl o_p_count_at (hr.mono (by omega)) (by rfl) (pa_cons (pv 0) (pa_cons (pv 1) (pa_cons (pe_cl o_even (hr.mono (by omega)) (by rfl) (pa_cons (pv 0) (pa_cons (pv 2) pa_nil))) pa_nil)))) (pa_cons (pv 3) pa_nil)))))), ?_⟩))
  refine fn_run (n := 4) hq len (by decide) fun ds R hs => ?_
  try dsimp only [cxOf]
  obtain ⟨s, N, t, due, rfl, g, hr2, ht, hdue, hz, hR⟩ := hs
  have g1 := g.n2
  have g2 := g.n5
  have e := (even_row N (by omega)).resolve_left (by omega) t (by omega)
  show WS K _ 0 [.sh (.int N), .sh s.d, .sh (.int t), .sh (.int due)] _
  walk_at "r"
  refine ⟨g, hr2, ht, ?_⟩
  rw [← hdue]
  walk_at "r"
  refine ⟨hz, ?_⟩
  walk_at "r"
  refine ⟨g1, g2, by omega, ?_⟩
  rw [e]
  walk_at "r"
  refine ⟨g, hr2, even_len g1, even_24 g1 ht, ?_⟩
  rw [← hdue]
  walk_at "r"
  exact ⟨hz, hR⟩
end ME
end
section
set_option Elab.async false
set_option linter.all false
set_option maxRecDepth 100000
set_option maxHeartbeats 4000000
namespace ME
open PySem L2 MW
local macro_rules | `(tactic| walk_at "norm1") => `(tactic| dsimp only [Then, LoopP, FnPost, FnPostS])
local macro_rules | `(tactic| walk_at "mul") => `(tactic| (first
  | exact Or.inl ⟨by omega, by omega⟩
  | exact Or.inr ⟨by omega, by omega⟩))
local macro_rules | `(tactic| walk_at "we") => `(tactic| (first
  | ((with_reducible refine we_var (d := ?d) ?he ?_); (case he => exact rfl))
  | with_reducible refine we_int ?_
  | with_reducible refine we_str ?_
  | with_reducible refine we_op ?_
  | with_reducible refine we_cl ?_
  | with_reducible refine we_tup ?_
  | with_reducible refine we_bl ?_
  | with_reducible refine we_non ?_
  | with_reducible refine we_if ?_
  | ((with_reducible refine we_lenO (ds := ?ds) ?he ?_); (case he => exact rfl))
  | with_reducible refine we_len ?_
  | with_reducible refine we_int1 ?_
  | with_reducible refine we_andV ?_
  | with_reducible refine we_orV ?_
  | with_reducible refine we_notV ?_
  | with_reducible refine we_neg ?_
  | with_reducible refine we_chain ?_
  | with_reducible refine we_dget ?_
  | ((with_reducible refine we_dget2O (t := ?t) ?he ?_); (case he => exact rfl))
  | ((with_reducible refine we_dget2I (t := ?t) ?he ?_); (case he => exact rfl))
  | with_reducible refine we_dget2 ?_
  | ((with_reducible refine we_isi ?ht ?_); (case ht => first | exact .inl rfl | exact .inr (.inl rfl) | exact .inr (.inr (.inl rfl)) | exact .inr (.inr (.inr rfl))))
  | ((with_reducible refine we_clS ?he ?_); (case he => exact rfl))
  | with_reducible refine we_max2 ?_
  | with_reducible refine we_dispT1 ?_
  | with_reducible refine we_dispT2 ?_
  | ((with_reducible refine we_tupOfO (ds := ?ds) ?he ?_); (case he => exact rfl))
  | with_reducible refine we_sumT ?_
  | with_reducible refine we_divmod ?_
  | with_reducible refine we_newT ?_))
local macro_rules | `(tactic| walk_at "op2") => `(tactic| (first
  | ((with_reducible refine o_ixT (d := ?d) ?he ?_); (case he => exact rfl))
  | with_reducible refine o_eqS ?_
  | with_reducible refine o_eqI ?_
  | with_reducible refine o_add ?_
  | with_reducible refine o_sub ?_
  | ((with_reducible refine o_inT (x := ?x) (xs := ?xs) ?hx ?hs ?_); (case hx => exact rfl); (case hs => exact rfl))
  | ((with_reducible refine o_mul ?hc ?_); (case hc => walk_at "mul"))
  | ((with_reducible refine o_mod ?hc ?_); (case hc => omega))
  | ((with_reducible refine o_div ?hc ?_); (case hc => exact ⟨by omega, by omega⟩))
  | with_reducible refine o_lt ?_
  | with_reducible refine o_le ?_
  | with_reducible refine o_gt ?_
  | with_reducible refine o_ge ?_
  | with_reducible refine o_neI ?_
  | ((with_reducible refine o_ixL (d := ?d) ?he ?_); (case he => exact rfl))
  | ((with_reducible refine o_inL (x := ?x) (xs := ?xs) ?hx ?hs ?_); (case hx => exact rfl); (case hs => exact rfl))
  | ((with_reducible refine o_catT ?hl ?_); (case hl => (simp only [List.length_cons, List.length_nil, List.length_append, List.length_map, List.length_replicate]; omega)))
  | ((with_reducible refine o_repTI ?h0 ?h1 ?_); (case h0 => omega); (case h1 => omega))
  | with_reducible refine o_isNT ?_))
local macro_rules | `(tactic| walk_at "wt") => `(tactic| (first
  | with_reducible refine wt_test ?_
  | with_reducible refine wt_B ?_
  | with_reducible refine wt_not ?_
  | with_reducible refine wt_and ?_
  | with_reducible refine wt_or ?_))
local macro_rules | `(tactic| walk_at "ws") => `(tactic| (first
  | with_reducible refine ws_seq ?_
  | with_reducible refine ws_asg ?_
  | with_reducible refine ws_if ?_
  | with_reducible refine ws_ret ?_
  | with_reducible refine ws_next ?_
  | with_reducible refine ws_drop ?_
  | with_reducible refine ws_par ?_
  | ((with_reducible refine ws_asg2 ?hn ?_); (case hn => rfl))))
local macro_rules | `(tactic| walk_at "no") => `(tactic| first
  | (intro hb; exact Bool.noConfusion (show (true : Bool) = false from hb))
  | (intro hb; exact Bool.noConfusion (show (false : Bool) = true from hb)))
local macro_rules | `(tactic| walk_at "br") => `(tactic| first
  | (refine ⟨?_, ?no⟩; (case no => walk_at "no"); (intro _))
  | (refine ⟨?no, ?_⟩; (case no => walk_at "no"); (intro _)))
local macro_rules | `(tactic| walk_at "ex") => `(tactic| first
  | (refine ⟨_, rfl, ?_⟩)
  | (refine ⟨_, _, rfl, rfl, ?_⟩)
  | (refine ⟨_, _, rfl, ?_⟩)
  | (refine ⟨_, _, _, rfl, ?_⟩)
  | (refine ⟨_, _, _, _, rfl, ?_⟩)
  | (refine ⟨_, .inr rfl, ?_⟩)
  | (refine ⟨_, .inl rfl, ?_⟩))
local macro_rules | `(tactic| walk_at "r") => `(tactic| repeat (first
  | ((with_reducible show MW.WE _ _ _ _ _); walk_at "we")
  | ((with_reducible show MW.Op2 _ _ _ _ _ _ _); walk_at "op2")
  | ((with_reducible show MW.WS _ _ _ _ _); walk_at "ws")
  | ((with_reducible show MW.WA _ _ _ _ _); first | with_reducible refine wa_cons ?_ | with_reducible refine wa_nil ?_)
  | ((with_reducible show MW.WT _ _ _ _ _); walk_at "wt")
  | ((with_reducible show Exists _); walk_at "ex")
  | ((with_reducible show And _ _); first | walk_at "br" | (refine ⟨by decide, ?_⟩) | (refine ⟨Nat.le_of_ble_eq_true rfl, ?_⟩) | (refine ⟨.inl ⟨_, rfl⟩, ?_⟩) | (refine ⟨.inr (.inl ⟨_, rfl⟩), ?_⟩) | (refine ⟨.inr (.inr ⟨_, rfl⟩), ?_⟩))
  | walk_at "norm1"
  | walk_at "ex"))
local macro_rules | `(tactic| walk_at "q") => `(tactic| repeat (first
  | ((with_reducible show MW.WE _ _ _ _ _); first | with_reducible refine we_wl (wl_cat ?_) | with_reducible refine we_wl (wl_lst ?_) | walk_at "we")
  | ((with_reducible show MW.Op2 _ _ _ _ _ _ _); walk_at "op2")
  | ((with_reducible show MW.WS _ _ _ _ _); walk_at "ws")
  | ((with_reducible show MW.WA _ _ _ _ _); first | with_reducible refine wa_cons ?_ | with_reducible refine wa_nil ?_)
  | ((with_reducible show MW.WT _ _ _ _ _); walk_at "wt")
  | ((with_reducible show Exists _); walk_at "ex")
  | ((with_reducible show And _ _); first | walk_at "br" | (refine ⟨by decide, ?_⟩) | (refine ⟨Nat.le_of_ble_eq_true rfl, ?_⟩) | (refine ⟨.inl ⟨_, rfl⟩, ?_⟩) | (refine ⟨.inr (.inl ⟨_, rfl⟩), ?_⟩) | (refine ⟨.inr (.inr ⟨_, rfl⟩), ?_⟩))
  | walk_at "norm1"
  | walk_at "ex"))
local macro_rules | `(tactic| walk_at "le") => `(tactic| ((try refine ⟨rfl, ?_⟩); repeat (first | exact Le.nil | refine Le.eq ?_ | refine Le.any ?_)))

theorem wl_if {K : PySem.W.Frag} {tt : TT} {ta tb : TE} {m : Nat} {env : List Sl} {PL : List D → Nat → Prop} (h : WT K tt m env fun b m1 => (b = true → WL K ta m1 env PL) ∧ (b = false → WL K tb m1 env PL)) : WL K (tIf tt ta tb) m env PL := fun B Hs H σ r Q q => h B Hs H σ r _ fun b Hs2 H2 m2 s2 r2 k2 => by
  cases b with
  | true => exact iteT (k2.1 rfl B Hs2 H2 σ r2 _ fun p xs ds Hs3 H3 m3 s3 => q p xs ds Hs3 H3 m3 (s2.trans s3))
  | false => exact iteF (k2.2 rfl B Hs2 H2 σ r2 _ fun p xs ds Hs3 H3 m3 s3 => q p xs ds Hs3 H3 m3 (s2.trans s3))
def stK (s : StA) (k : Int) : HO := .dK [(Sum.inr "cells", .ref s.cs), (Sum.inr "lefts", .ref s.lf), (Sum.inr "at", .int k)]
def bigOr (x : Int) : Int := if 10 ^ 18 ≤ x then x else 0
theorem rep_start {K : PySem.W.Frag} {H : Hp} {a : Addr} {ns : List Int} {N : List Str} (hS : SqL K H a (ns.map V.int)) (hN : 1 ≤ N.length) :
    Rep K ⟨fun _ => none, fun _ => False, none⟩ H H (L2.start N [.ref a]) 0 (.sh (.scr ns) :: List.replicate (N.length - 1) .any) := by
  have r : Rep K ⟨fun _ => none, fun _ => False, none⟩ H H ([V.ref a].map some) 0 [.sh (.scr ns)] := by
    refine ⟨fun b o e => ?_, Same.refl _, fun _ h => False.elim h, fun _ h => False.elim h, rfl, fun i o e => ?_, fun i j p oi oj e1 e2 h1 => ?_, fun s e => ?_⟩
    · have e : (none : Option HO) = some o := e
      cases e
    · match i, e with
      | 0, e => cases e; exact ⟨_, rfl, .scr hS⟩
    · match i, e1 with
      | 0, e => cases e; cases h1
    · have e : (none : Option StA) = some s := e
      cases e
  exact start_rep r hN
theorem sc_begin : FnScope ["_law_script", "_law_cells_so", "_law_cell"] ["_law_script"] (defScope s_begin) := ⟨rfl, rfl, rfl, by decide +kernel, rfl, by decide +kernel, by decide +kernel⟩
def sp_begin (K : PySem.W.Frag) : Sp := fun vs H Q _ => ∃ (a : Addr) (ns : List Int), vs = [.ref a] ∧ SqL K H a (ns.map V.int) ∧ ns.length ≤ 63 ∧
  ∀ (H' : Hp) (s : StA) (c l : List Int), H' s.st = some (stK s 0) → H' s.cs = some (.lst (c.map V.int)) → H' s.lf = some (.lst (l.map V.int)) → s.cs ≠ s.lf → c.length = l.length → 0 < l.length → l.length ≤ 63 → (∀ x ∈ l, 0 ≤ x) → Q (.ref s.st) H'
theorem ok_begin {P : Program} {w : World} {K : PySem.W.Frag} {mg : Str → Option Value} {base h : Heap} (T : Tx K mg h)  :
    Ok P w K mg base "_law_begin" ["_law_script"] 1 (sp_begin K) := by
  obtain ⟨fd, F⟩ := T.c.def_ 31 (d := d_begin) rfl
  have F : FnP K "_law_begin" s_begin (He.ga K "_law_begin") fd := F
  have len : ∀ vs H Q E, sp_begin K vs H Q E → vs.length = 1 := fun vs H Q E h => by obtain ⟨_, _, rfl, _⟩ := h; rfl
  refine Ok.of F (He.glo_ok T.X T.G (T.c.fact 31 (f := .glo "_law_begin") rfl)) (FunD.bindsN F fun _ _ _ _ _ _ us hl => match us, hl with | [_], _ => rfl)
    (FunD.ok F sc_begin (fun vs H Q E h => len vs H Q E h) (fun cdv A outer s H vs Q E hr hq => ⟨_, PSs.nox (pss_cons (ps_set (i := 1) sc_begin.nd rfl (by first | exact .inl rfl | exact .inr rfl) (pe_ifExp (pt_cmpR (op_neD hr.units) (pv 0) (pe_lst pa_nil) (by rfl)) (pe_callTy call_list_of (by rfl) T.list_ (by decide +kernel) (pa_cons (pv 0) pa_nil)) (pe_lst (pa_cons pe_int pa_nil))))
    (pss_one (ps_ret (pe_disp (pps_cons pe_str (pv 1) (pps_cons pe_str (pe_lc (own := [("_law_cell", 2)]) (by rfl) sc_begin.nd (pi_list (pv 1)) (blkOk_by (own := [("_law_cell", 2)]) (by rfl)) (fun _ _ _ _ _ => (pg_name (i := 2) sc_begin.nd rfl (by first | exact .inl rfl | exact .inr rfl))) (fun _ _ _ _ _ => pts_nil) (fun _ _ _ _ _ => (pe_ifExp (pt_cmpR op_ge (pv 2) (pe_op op_pow pe_int pe_int) (by rfl)) (pv 2) pe_int))) (pps_cons pe_str pe_int pps_nil))) (by rfl) (by rfl) (fun z => by cases z) (by decide))))), ?_⟩))
  try dsimp only [cxOf]
  obtain ⟨a, ns, rfl, hS, hl, hQ⟩ := hq
  have r0 := rep_start (N := ["_law_script", "_law_cells_so", "_law_cell"]) hS (by decide)
  have w1 : WS K (tAsg (tIf (tTest (tOp (rNeD K) (tVar 0) (tLst tNil))) (tCB (rListS K) (tCons (tVar 0) tNil)) (tLst (tCons (tC (V.int 0)) tNil))) (gName 1)) 0 [.sh (.scr ns), .any, .any]
      (fun o => ∃ c : List Int, o = .nx 0 [.sh (.scr ns), .sh (.lst (c.map .int)), .any] ∧ 0 < c.length ∧ c.length ≤ 63) := by
    refine ws_asg (we_wl (wl_if (wt_test (we_op (we_var (d := .scr ns) rfl (we_wl (wl_lst (wa_nil ⟨by decide, o_neS0 ⟨_, rfl, fun hb => ?_, fun hb => ?_⟩⟩))))))))
    · refine wl_listScr (we_var (d := .scr ns) rfl ⟨ns, rfl, ns, rfl, ?_, hl⟩)
      cases ns with
      | nil => cases hb
      | cons x ns => simp
    · exact wl_lst (wa_cons (we_int (wa_nil ⟨by decide, [0], rfl, by decide, by decide⟩)))
  have w2 : ∀ c : List Int, c.length ≤ 63 → WL K (tLc (iList K (tVar 1)) (gName 2) tYes (tIf (tTest (tOp (rI0 fun i j => V.bl (decide (j ≤ i))) (tVar 2) (tOp (rI CPow fun i j => V.int (i ^ j.toNat)) (tC (V.int 10)) (tC (V.int 18))))) (tVar 2) (tC (V.int 0))) [2]) 0 [.sh (.scr ns), .sh (.lst (c.map .int)), .any]
      (fun ds m => ds = (c.map bigOr).map .int ∧ m = 0) := fun c hc => by
    refine wl_mapL (any_of (by rfl)) (by decide) (we_var (d := .lst (c.map .int)) rfl ⟨_, rfl, fun d => .int (bigOr (asInt d)), by rw [List.length_map]; omega, fun k x hx => ?_, ?_, rfl⟩)
    · obtain ⟨z, hz, rfl⟩ := mem_map_get hx
      refine we_if (wt_test (we_op (we_var (d := .int z) rfl (we_op (we_int (we_int (o_rI (f := fun i j => .int (i ^ j.toNat)) (fun i j H => .int _) ⟨by decide, by decide, by decide⟩ (o_ge ⟨_, rfl, fun hb => ?_, fun hb => ?_⟩))))))))
      · refine we_var (d := .int z) rfl ⟨rfl, ?_⟩
        show _ = D.int (if 10 ^ 18 ≤ z then z else 0)
        rw [if_pos (show (10 : Int) ^ 18 ≤ z from of_decide_eq_true hb)]
      · refine we_int ⟨rfl, ?_⟩
        show _ = D.int (if 10 ^ 18 ≤ z then z else 0)
        rw [if_neg (show ¬ (10 : Int) ^ 18 ≤ z from of_decide_eq_false hb)]
    · rw [List.map_map, List.map_map]
      rfl
  refine w1 _ H H _ _ r0 fun o ho => ?_
  obtain ⟨c, rfl, c0, c1⟩ := ho
  intro Hs1 H1 σ1 s1 r1 p hp
  obtain ⟨vc, ec, ic⟩ := r1.sl 1 _ rfl
  cases ic with
  | lst hc1 hc2 =>
    rename_i cs xs
    have hc3 := IsA.of_ints hc2
    subst hc3
    have rh := r1.hold hp (o2 := .dK []) (fun _ z => by cases z)
    refine ⟨_, getD_of ec, ?_⟩
    dsimp only [tPairs, tC]
    refine w2 c c1 _ Hs1 _ σ1 rh _ fun lf ys ds Hs2 H2 m2 s2 r2 ow ap hlf hys hds => ?_
    obtain ⟨hds, _⟩ := hds
    subst hds
    have hys := IsA.of_ints hys
    subst hys
    have hD : H2 p = some (.dK []) := r2.base p _ upd_same
    have hcs2 : Hs2 cs = some (.lst (c.map V.int)) := s2 _ _ hc1
    have hcs : H2 cs = some (.lst (c.map V.int)) := r2.sub _ _ hcs2
    have n1 : cs ≠ lf := fun z => by rw [z, ow.2.1] at hcs2; cases hcs2
    have n2 : cs ≠ p := fun z => by rw [z, hD] at hcs; cases hcs
    have n3 : lf ≠ p := fun z => by rw [z, hD] at hlf; cases hlf
    refine ⟨hD, [(Sum.inr "cells", .ref cs), (Sum.inr "lefts", .ref lf), (Sum.inr "at", .int 0)], rfl, by simp, ?_⟩
    refine hQ _ ⟨p, cs, lf⟩ c (c.map bigOr) ?_ ?_ ?_ n1 (List.length_map _).symm (by rw [List.length_map]; exact c0) (by rw [List.length_map]; exact c1) fun x hx => ?_
    · rw [upd_same]; rfl
    · rw [upd_ne n2]; exact hcs
    · rw [upd_ne n3]; exact hlf
    · obtain ⟨z, _, rfl⟩ := List.mem_map.mp hx
      unfold bigOr
      split
      · have : (0 : Int) ≤ 10 ^ 18 := by decide
        omega
      · exact Int.le_refl _
end ME
end
section
set_option Elab.async false
set_option linter.all false
set_option maxRecDepth 100000
set_option maxHeartbeats 4000000
namespace ME
open PySem L2 MW
local macro_rules | `(tactic| walk_at "norm1") => `(tactic| dsimp only [Then, LoopP, FnPost, FnPostS])
local macro_rules | `(tactic| walk_at "mul") => `(tactic| (first
  | exact Or.inl ⟨by omega, by omega⟩
  | exact Or.inr ⟨by omega, by omega⟩))
local macro_rules | `(tactic| walk_at "we") => `(tactic| (first
  | ((with_reducible refine we_var (d := ?d) ?he ?_); (case he => exact rfl))
  | with_reducible refine we_int ?_
  | with_reducible refine we_str ?_
  | with_reducible refine we_op ?_
  | with_reducible refine we_cl ?_
  | with_reducible refine we_tup ?_
  | with_reducible refine we_bl ?_
  | with_reducible refine we_non ?_
  | with_reducible refine we_if ?_
  | ((with_reducible refine we_lenO (ds := ?ds) ?he ?_); (case he => exact rfl))
  | with_reducible refine we_len ?_
  | with_reducible refine we_int1 ?_
  | with_reducible refine we_andV ?_
  | with_reducible refine we_orV ?_
  | with_reducible refine we_notV ?_
  | with_reducible refine we_neg ?_
  | with_reducible refine we_chain ?_
  | with_reducible refine we_dget ?_
  | ((with_reducible refine we_dget2O (t := ?t) ?he ?_); (case he => exact rfl))
  | ((with_reducible refine we_dget2I (t := ?t) ?he ?_); (case he => exact rfl))
  | with_reducible refine we_dget2 ?_
  | ((with_reducible refine we_isi ?ht ?_); (case ht => first | exact .inl rfl | exact .inr (.inl rfl) | exact .inr (.inr (.inl rfl)) | exact .inr (.inr (.inr rfl))))
  | ((with_reducible refine we_clS ?he ?_); (case he => exact rfl))
  | with_reducible refine we_max2 ?_
  | with_reducible refine we_dispT1 ?_
  | with_reducible refine we_dispT2 ?_
  | ((with_reducible refine we_tupOfO (ds := ?ds) ?he ?_); (case he => exact rfl))
  | with_reducible refine we_sumT ?_
  | with_reducible refine we_divmod ?_
  | with_reducible refine we_newT ?_))
local macro_rules | `(tactic| walk_at "op2") => `(tactic| (first
  | ((with_reducible refine o_ixT (d := ?d) ?he ?_); (case he => exact rfl))
  | with_reducible refine o_eqS ?_
  | with_reducible refine o_eqI ?_
  | with_reducible refine o_add ?_
  | with_reducible refine o_sub ?_
  | ((with_reducible refine o_inT (x := ?x) (xs := ?xs) ?hx ?hs ?_); (case hx => exact rfl); (case hs => exact rfl))
  | ((with_reducible refine o_mul ?hc ?_); (case hc => walk_at "mul"))
  | ((with_reducible refine o_mod ?hc ?_); (case hc => omega))
  | ((with_reducible refine o_div ?hc ?_); (case hc => exact ⟨by omega, by omega⟩))
  | with_reducible refine o_lt ?_
  | with_reducible refine o_le ?_
  | with_reducible refine o_gt ?_
  | with_reducible refine o_ge ?_
  | with_reducible refine o_neI ?_
  | ((with_reducible refine o_ixL (d := ?d) ?he ?_); (case he => exact rfl))
  | ((with_reducible refine o_inL (x := ?x) (xs := ?xs) ?hx ?hs ?_); (case hx => exact rfl); (case hs => exact rfl))
  | ((with_reducible refine o_catT ?hl ?_); (case hl => (simp only [List.length_cons, List.length_nil, List.length_append, List.length_map, List.length_replicate]; omega)))
  | ((with_reducible refine o_repTI ?h0 ?h1 ?_); (case h0 => omega); (case h1 => omega))
  | with_reducible refine o_isNT ?_))
local macro_rules | `(tactic| walk_at "wt") => `(tactic| (first
  | with_reducible refine wt_test ?_
  | with_reducible refine wt_B ?_
  | with_reducible refine wt_not ?_
  | with_reducible refine wt_and ?_
  | with_reducible refine wt_or ?_))
local macro_rules | `(tactic| walk_at "ws") => `(tactic| (first
  | with_reducible refine ws_seq ?_
  | with_reducible refine ws_asg ?_
  | with_reducible refine ws_if ?_
  | with_reducible refine ws_ret ?_
  | with_reducible refine ws_next ?_
  | with_reducible refine ws_drop ?_
  | with_reducible refine ws_par ?_
  | ((with_reducible refine ws_asg2 ?hn ?_); (case hn => rfl))))
local macro_rules | `(tactic| walk_at "no") => `(tactic| first
  | (intro hb; exact Bool.noConfusion (show (true : Bool) = false from hb))
  | (intro hb; exact Bool.noConfusion (show (false : Bool) = true from hb)))
local macro_rules | `(tactic| walk_at "br") => `(tactic| first
  | (refine ⟨?_, ?no⟩; (case no => walk_at "no"); (intro _))
  | (refine ⟨?no, ?_⟩; (case no => walk_at "no"); (intro _)))
local macro_rules | `(tactic| walk_at "ex") => `(tactic| first
  | (refine ⟨_, rfl, ?_⟩)
  | (refine ⟨_, _, rfl, rfl, ?_⟩)
  | (refine ⟨_, _, rfl, ?_⟩)
  | (refine ⟨_, _, _, rfl, ?_⟩)
  | (refine ⟨_, _, _, _, rfl, ?_⟩)
  | (refine ⟨_, .inr rfl, ?_⟩)
  | (refine ⟨_, .inl rfl, ?_⟩))
local macro_rules | `(tactic| walk_at "r") => `(tactic| repeat (first
  | ((with_reducible show MW.WE _ _ _ _ _); walk_at "we")
  | ((with_reducible show MW.Op2 _ _ _ _ _ _ _); walk_at "op2")
  | ((with_reducible show MW.WS _ _ _ _ _); walk_at "ws")
  | ((with_reducible show MW.WA _ _ _ _ _); first | with_reducible refine wa_cons ?_ | with_reducible refine wa_nil ?_)
  | ((with_reducible show MW.WT _ _ _ _ _); walk_at "wt")
  | ((with_reducible show Exists _); walk_at "ex")
  | ((with_reducible show And _ _); first | walk_at "br" | (refine ⟨by decide, ?_⟩) | (refine ⟨Nat.le_of_ble_eq_true rfl, ?_⟩) | (refine ⟨.inl ⟨_, rfl⟩, ?_⟩) | (refine ⟨.inr (.inl ⟨_, rfl⟩), ?_⟩) | (refine ⟨.inr (.inr ⟨_, rfl⟩), ?_⟩))
  | walk_at "norm1"
  | walk_at "ex"))
local macro_rules | `(tactic| walk_at "q") => `(tactic| repeat (first
  | ((with_reducible show MW.WE _ _ _ _ _); first | with_reducible refine we_wl (wl_cat ?_) | with_reducible refine we_wl (wl_lst ?_) | walk_at "we")
  | ((with_reducible show MW.Op2 _ _ _ _ _ _ _); walk_at "op2")
  | ((with_reducible show MW.WS _ _ _ _ _); walk_at "ws")
  | ((with_reducible show MW.WA _ _ _ _ _); first | with_reducible refine wa_cons ?_ | with_reducible refine wa_nil ?_)
  | ((with_reducible show MW.WT _ _ _ _ _); walk_at "wt")
  | ((with_reducible show Exists _); walk_at "ex")
  | ((with_reducible show And _ _); first | walk_at "br" | (refine ⟨by decide, ?_⟩) | (refine ⟨Nat.le_of_ble_eq_true rfl, ?_⟩) | (refine ⟨.inl ⟨_, rfl⟩, ?_⟩) | (refine ⟨.inr (.inl ⟨_, rfl⟩), ?_⟩) | (refine ⟨.inr (.inr ⟨_, rfl⟩), ?_⟩))
  | walk_at "norm1"
  | walk_at "ex"))
local macro_rules | `(tactic| walk_at "le") => `(tactic| ((try refine ⟨rfl, ?_⟩); repeat (first | exact Le.nil | refine Le.eq ?_ | refine Le.any ?_)))

theorem law_in {K : PySem.W.Frag} {ts : TS} {H' : Hp} {σ : L2.St} {Q : VK} {s : StA} {c l : List Int} {env : List Sl} (hl : σ.length = env.length) (hs : ∀ (i : Nat) (o : Sl), env[i]? = some o → o = .any ∨ (o = .sta ∧ σ[i]?.getD none = some (.ref s.st)))
    (e1 : H' s.st = some (stK s 0)) (e2 : H' s.cs = some (.lst (c.map V.int))) (e3 : H' s.lf = some (.lst (l.map V.int))) (ne : s.cs ≠ s.lf) (lc : c.length = l.length) (l0 : 0 < l.length) (l1 : l.length ≤ 63) (ln : ∀ x ∈ l, 0 ≤ x)
    (hQ : ∀ H', Q (.bl true) H') (hw : ∀ m, 0 < m → m ≤ 63 → WS K ts m env (FnPostS fun d _ => d = .bl true)) : ts { nx := fun _ H' => Q .non H', rt := Q } σ H' := by
  have nsc : s.st ≠ s.cs := fun z => by rw [z, e2] at e1; cases e1
  have nsl : s.st ≠ s.lf := fun z => by rw [z, e3] at e1; cases e1
  have own : ∀ (i : Nat) (o : Sl), env[i]? = some o → o.own = true → False := fun i o e h => by
    rcases hs i o e with rfl | ⟨rfl, _⟩ <;> cases h
  have r : Rep K ⟨fun _ => none, fun b => b = s.st ∨ b = s.lf, some s⟩ (fun b => if b = s.cs then some (.lst (c.map V.int)) else none) H' σ l.length env := by
    refine ⟨fun b o e => ?_, fun b o e => ?_, fun b h => ?_, fun b h => ?_, hl, fun i o e => ?_, fun i j p oi oj x1 x2 h1 => (own i oi x1 h1).elim, fun z e => ?_⟩
    · have e : (none : Option HO) = some o := e
      cases e
    · have e : (if b = s.cs then some (HO.lst (c.map V.int)) else none) = some o := e
      split at e
      · rename_i hb
        cases e
        rw [hb]; exact e2
      · cases e
    · show (if b = s.cs then some (HO.lst (c.map V.int)) else none) = none
      rw [if_neg]
      rintro rfl
      exact h.elim (fun z => nsc z.symm) ne
    · rcases h with rfl | rfl
      · exact ⟨_, e1, fun _ z => by cases z⟩
      · exact ⟨_, e3, fun _ z => by cases z⟩
    · rcases hs i o e with rfl | ⟨rfl, h⟩
      · trivial
      · exact ⟨s, rfl, h⟩
    · cases e
      refine ⟨⟨c, l, 0, e1, if_pos rfl, e3, lc, l0, l1, ln, by omega, ?_⟩, rfl, rfl, .inl rfl, .inr rfl⟩
      have : l.length / 64 = 0 := by omega
      rw [this]
      rfl
  refine hw l.length l0 l1 _ _ H' σ _ r fun o ho => ?_
  cases o with
  | rt d m =>
    have ho : d = .bl true := ho
    subst ho
    intro v Hs2 H2 s2 r2 iv
    cases iv
    exact hQ H2
  | nx m e => cases ho
  | bk m e => cases ho
  | ct m e => cases ho
theorem ev_ok : ∀ n : Nat, n < 6 → n < 2 ∨ ∀ k : Nat, k < 13 → (∀ z ∈ evenV n k, 0 ≤ z ∧ z ≤ 12) ∧ 0 ≤ (evenV n k).sum ∧ (evenV n k).sum ≤ 1000 ∧ (listings (evenV n k)).natAbs.log2 < 1920 := by decide +kernel
theorem shw_row {c : Ct} (hl : c.length ≤ 100) (hb : ∀ z ∈ c, 0 ≤ z ∧ z ≤ 24) : Shw (.ints c) := ⟨c, rfl, hl, fun z hz => by have := hb z hz; omega⟩
theorem small_log {x : Int} (h0 : 0 ≤ x) (h : x ≤ 40) : x.natAbs.log2 < 1920 := by
  rcases Nat.eq_zero_or_pos x.natAbs with e | e
  · rw [e]; decide
  · have : x.natAbs.log2 < 6 := (Nat.log2_lt (by omega)).mpr (by omega)
    omega
theorem cnt_small {n : Nat} {s : S} (F : Fine n s) (c : Ct) : 0 ≤ (tget (s.table n) c).getD 0 ∧ (tget (s.table n) c).getD 0 ≤ 40 := by
  rw [F.tab.get]
  have := cnt_nn (s.every n) c
  have := cnt_le (s.every n) c
  have := F.elen
  omega
theorem sc_law : FnScope ["_law_script", "_law_state", "_law_n", "_law_total", "_law_size_here", "_law_sort_here", "_law_every", "_law_lots", "_law_sums_so", "_law_due", "_law_content", "_law_one", "_law_number"] ["_law_script"] (defScope s_law) := ⟨rfl, rfl, rfl, by decide +kernel, rfl, by decide +kernel, by decide +kernel⟩
def sp_law (K : PySem.W.Frag) : Sp := fun vs H Q _ => ∃ (a : Addr) (ns : List Int), vs = [.ref a] ∧ SqL K H a (ns.map V.int) ∧ ns.length ≤ 63 ∧ ∀ H', Q (.bl true) H'
theorem ok_law {P : Program} {w : World} {K : PySem.W.Frag} {mg : Str → Option Value} {base h : Heap} (T : Tx K mg h) (o_like : OkG P w K mg base "_law_like" ["_law_got", "_law_due"] 1 (SpP K sp_like)) (o_at : Ok P w K mg base "_law_at" ["_law_lots", "_law_content"] 1 (SpP K sp_at)) (o_p_count_at : Ok P w K mg base "count_at" ["many", "sort", "content"] 21 (SpP K sp_p_count_at)) (o_shuffled : Ok P w K mg base "_law_shuffled" ["_law_state", "_law_row"] 3 (SpS K sp_shuffled)) (o_of : Ok P w K mg base "_law_of" ["_law_state", "_law_some"] 3 (SpS K sp_of)) (o_draw : Ok P w K mg base "_law_draw" ["_law_state", "_law_limit"] 2 (SpS K sp_draw)) (o_greatest : OkG P w K mg base "_law_greatest" ["_law_n", "_law_sort_here", "_law_total", "_law_due"] 30 (SpP K sp_greatest)) (o_by_sum : Ok P w K mg base "_law_by_sum" ["_law_lots"] 1 (SpP K sp_by_sum)) (o_gathered : Ok P w K mg base "_law_gathered" ["_law_some"] 1 (SpP K sp_gathered)) (o_listed : Ok P w K mg base "_law_listed" ["_law_n", "_law_sort_here"] (10 + 3) (SpP K (sp_listed 10))) (o_marks : Ok P w K mg base "_law_marks" ["_law_n", "_law_sort_here", "_law_member"] 13 (SpP K sp_marks)) (o_sort : Ok P w K mg base "_law_sort" ["_law_state", "_law_n", "_law_deep", "_law_most"] 20 (SpS K sp_sort)) (o_listings : Ok P w K mg base "_law_listings" ["_law_content"] 2 (SpP K sp_listings)) (o_even : Ok P w K mg base "_law_even" ["_law_n", "_law_total"] 1 (SpP K sp_even)) (o_p_most_even : Ok P w K mg base "most_even" ["many", "total"] 3 (SpP K sp_p_most_even)) (o_begin : Ok P w K mg base "_law_begin" ["_law_script"] 1 (sp_begin K)) :
    OkG P w K mg base "law" ["_law_script"] 50 (sp_law K) := by
  obtain ⟨fd, F⟩ := T.c.def_ 60 (d := d_law) rfl
  have F : FnP K "law" s_law (He.ga K "law") fd := F
  have len : ∀ vs H Q E, sp_law K vs H Q E → vs.length = 1 := fun vs H Q E h => by obtain ⟨_, _, rfl, _⟩ := h; rfl
  refine OkG.of F (He.glo_ok T.X T.G (T.c.fact 60 (f := .glo "law") rfl)) (FunD.bindsN F fun _ _ _ _ _ _ us hl => match us, hl with | [_], _ => rfl)
    (FnG.of F sc_law (fun vs H Q E h => len vs H Q E h) (fun cdv A outer s H vs Q E hr hgu hq => ⟨_, PSs.nox (pss_cons (ps_set (i := 1) sc_law.nd rfl (by first | exact .inl rfl | exact .inr rfl) (pe_cl o_begin (hr.mono (by omega)) (by rfl) (pa_cons (pv 0) pa_nil)))
    (pss_cons (ps_set (i := 2) sc_law.nd rfl (by first | exact .inl rfl | exact .inr rfl) (pe_op op_add pe_int (pe_cl o_draw (hr.mono (by omega)) (by rfl) (pa_cons (pv 1) (pa_cons pe_int pa_nil)))))
    (pss_cons (ps_for PassesOwn.never (by rfl) (pi_list (pe_lst (pa_cons (pe_cl o_draw (hr.mono (by omega)) (by rfl) (pa_cons (pv 1) (pa_cons (pe_op op_add (pe_op op_mul pe_int (pv 2)) pe_int) pa_nil))) (pa_cons (pe_cl o_draw (hr.mono (by omega)) (by rfl) (pa_cons (pv 1) (pa_cons pe_int pa_nil))) (pa_cons (pe_ix ix_list (pe_lst (pa_cons pe_int (pa_cons (pe_op op_mul pe_int (pv 2)) pa_nil))) (pe_cl o_draw (hr.mono (by omega)) (by rfl) (pa_cons (pv 1) (pa_cons pe_int pa_nil))) (fun _ _ => rfl)) pa_nil))))) (pg_name (i := 3) sc_law.nd rfl (by first | exact .inl rfl | exact .inr rfl)) (pss_one (ps_if (pt_not (pt_val (pe_clG o_like (hr.mono (by omega)) hgu (by rfl) (pa_cons (pe_cl o_p_most_even (hr.mono (by omega)) (by rfl) (pa_cons (pv 2) (pa_cons (pv 3) pa_nil))) (pa_cons (pe_cl o_even (hr.mono (by omega)) (by rfl) (pa_cons (pv 2) (pa_cons (pv 3) pa_nil))) pa_nil))))) (pss_one (ps_ret pe_bl)) pss_nil)))
    (pss_cons (ps_set (i := 4) sc_law.nd rfl (by first | exact .inl rfl | exact .inr rfl) (pe_cl o_draw (hr.mono (by omega)) (by rfl) (pa_cons (pv 1) (pa_cons pe_int pa_nil))))
    (pss_cons (ps_if (pt_not (pt_val (pe_clG o_greatest (hr.mono (by omega)) hgu (by rfl) (pa_cons (pv 2) (pa_cons (pe_tup (pa_cons pe_str (pa_cons (pv 4) (pa_cons (pe_tup (pa_cons pe_str pa_nil)) pa_nil)))) (pa_cons (pv 4) (pa_cons (pe_cl o_listings (hr.mono (by omega)) (by rfl) (pa_cons (pe_cl o_even (hr.mono (by omega)) (by rfl) (pa_cons (pv 2) (pa_cons (pv 4) pa_nil))) pa_nil)) pa_nil))))))) (pss_one (ps_ret pe_bl)) pss_nil)
    (pss_cons (ps_if (pt_not (pt_val (pe_clG o_greatest (hr.mono (by omega)) hgu (by rfl) (pa_cons (pv 2) (pa_cons (pe_tup (pa_cons pe_str pa_nil)) (pa_cons (pe_op op_sub (pv 2) pe_int) (pa_cons (pe_cl o_listings (hr.mono (by omega)) (by rfl) (pa_cons (pe_cl o_even (hr.mono (by omega)) (by rfl) (pa_cons (pv 2) (pa_cons (pe_op op_sub (pv 2) pe_int) pa_nil))) pa_nil)) pa_nil))))))) (pss_one (ps_ret pe_bl)) pss_nil)
    (pss_cons (ps_if (pt_not (pt_val (pe_clG o_greatest (hr.mono (by omega)) hgu (by rfl) (pa_cons (pv 2) (pa_cons (pe_tup (pa_cons pe_str pa_nil)) (pa_cons (pe_op op_mul pe_int (pe_op op_sub (pv 2) pe_int)) (pa_cons (pe_cl o_listings (hr.mono (by omega)) (by rfl) (pa_cons (pe_cl o_even (hr.mono (by omega)) (by rfl) (pa_cons (pv 2) (pa_cons (pe_op op_sub (pv 2) pe_int) pa_nil))) pa_nil)) pa_nil))))))) (pss_one (ps_ret pe_bl)) pss_nil)
    (pss_cons (ps_set (i := 2) sc_law.nd rfl (by first | exact .inl rfl | exact .inr rfl) (pe_op op_add pe_int (pe_cl o_draw (hr.mono (by omega)) (by rfl) (pa_cons (pv 1) (pa_cons pe_int pa_nil)))))
    (pss_cons (ps_set (i := 5) sc_law.nd rfl (by first | exact .inl rfl | exact .inr rfl) (pe_cl o_sort (hr.mono (by omega)) (by rfl) (pa_cons (pv 1) (pa_cons (pv 2) (pa_cons pe_int (pa_cons pe_int pa_nil))))))
    (pss_cons (ps_setLc (i := 6) (own := [("_law_one", 11)]) (by rfl) sc_law.nd rfl rfl (sw_true rfl rfl rfl (by decide +kernel)) (pi_list (pe_cl o_listed (hr.mono (by omega)) (by rfl) (pa_cons (pv 2) (pa_cons (pv 5) pa_nil)))) (blkOk_by (own := [("_law_one", 11)]) (by rfl)) (fun _ _ _ _ _ => (pg_name (i := 11) sc_law.nd rfl (by first | exact .inl rfl | exact .inr rfl))) (fun _ _ _ _ _ => pts_nil) (fun _ _ _ _ _ => (pe_cl o_marks (hr.mono (by omega)) (by rfl) (pa_cons (pv 2) (pa_cons (pv 5) (pa_cons (pv 11) pa_nil))))))
    (pss_cons (ps_set (i := 7) sc_law.nd rfl (by first | exact .inl rfl | exact .inr rfl) (pe_cl o_gathered (hr.mono (by omega)) (by rfl) (pa_cons (pv 6) pa_nil)))
    (pss_cons (ps_setLc (i := 8) (own := [("_law_one", 11), ("_law_number", 12)]) (by rfl) sc_law.nd rfl rfl (sw_true rfl rfl rfl (by decide +kernel)) (pi_list (pe_cl o_by_sum (hr.mono (by omega)) (by rfl) (pa_cons (pv 7) pa_nil))) (blkOk_by (own := [("_law_one", 11), ("_law_number", 12)]) (by rfl)) (fun _ _ _ _ _ => (pg_tupK (K := K) rfl (n := 2) (by rfl) (pgs_cons (pg_name (i := 11) sc_law.nd rfl (by first | exact .inl rfl | exact .inr rfl)) (pgs_cons (pg_name (i := 12) sc_law.nd rfl (by first | exact .inl rfl | exact .inr rfl)) pgs_nil)))) (fun _ _ _ _ _ => pts_nil) (fun _ _ _ _ _ => (pv 11)))
    (pss_cons (ps_for PassesOwn.never (by rfl) (pi_list (pe_op op_cat (pe_slice sl_list (pv 8) po_none (po_some pe_int)) (pe_lst (pa_cons (pe_cl o_draw (hr.mono (by omega)) (by rfl) (pa_cons (pv 1) (pa_cons pe_int pa_nil))) (pa_cons (pe_op op_sub (pe_op op_mul pe_int (pv 2)) (pe_cl o_draw (hr.mono (by omega)) (by rfl) (pa_cons (pv 1) (pa_cons pe_int pa_nil)))) pa_nil))))) (pg_name (i := 3) sc_law.nd rfl (by first | exact .inl rfl | exact .inr rfl)) (pss_cons (ps_set (i := 9) sc_law.nd rfl (by first | exact .inl rfl | exact .inr rfl) (pe_callB (cr_max (by rfl)) (by rfl) T.max_ (by decide +kernel) (pa_cons (pe_op op_cat (pe_lst (pa_cons pe_int pa_nil)) (pe_lc (own := [("_law_one", 11), ("_law_number", 12)]) (by rfl) sc_law.nd (pi_list (pv 7)) (blkOk_by (own := [("_law_one", 11), ("_law_number", 12)]) (by rfl)) (fun _ _ _ _ _ => (pg_tupK (K := K) rfl (n := 2) (by rfl) (pgs_cons (pg_name (i := 11) sc_law.nd rfl (by first | exact .inl rfl | exact .inr rfl)) (pgs_cons (pg_name (i := 12) sc_law.nd rfl (by first | exact .inl rfl | exact .inr rfl)) pgs_nil)))) (fun _ _ _ _ _ => (pts_one (pt_cmpR op_eq (pe_callB (cr_sumTK (K := K) rfl (by rfl)) (by rfl) T.sum_ (by decide +kernel) (pa_cons (pv 11) pa_nil)) (pv 3) (by rfl)))) (fun _ _ _ _ _ => (pv 12)))) pa_nil)))
    (pss_one (ps_if (pt_not (pt_val (pe_clG o_greatest (hr.mono (by omega)) hgu (by rfl) (pa_cons (pv 2) (pa_cons (pv 5) (pa_cons (pv 3) (pa_cons (pv 9) pa_nil))))))) (pss_one (ps_ret pe_bl)) pss_nil))))
    (pss_cons (ps_if (pt_cmpR (op_neD hr.units) (pv 6) (pe_lst pa_nil) (by rfl)) (pss_cons (ps_set (i := 10) sc_law.nd rfl (by first | exact .inl rfl | exact .inr rfl) (pe_cl o_of (hr.mono (by omega)) (by rfl) (pa_cons (pv 1) (pa_cons (pv 6) pa_nil))))
    (pss_one (ps_if (pt_not (pt_val (pe_clG o_like (hr.mono (by omega)) hgu (by rfl) (pa_cons (pe_cl o_p_count_at (hr.mono (by omega)) (by rfl) (pa_cons (pv 2) (pa_cons (pv 5) (pa_cons (pe_cl o_shuffled (hr.mono (by omega)) (by rfl) (pa_cons (pv 1) (pa_cons (pv 10) pa_nil))) pa_nil)))) (pa_cons (pe_cl o_at (hr.mono (by omega)) (by rfl) (pa_cons (pv 7) (pa_cons (pv 10) pa_nil))) pa_nil))))) (pss_one (ps_ret pe_bl)) pss_nil))) pss_nil)
    (pss_one (ps_ret pe_bl)))))))))))))))), ?_⟩))
  try dsimp only [cxOf]
  obtain ⟨a, ns, rfl, hS, hl, hQ⟩ := hq
  refine ⟨_, rfl, a, ns, rfl, hS, hl, fun H' s c l e1 e2 e3 ne lc l0 l1 lnn => ?_⟩
  dsimp only [gName]
  refine law_in (K := K) (env := [.any, .sta, .any, .any, .any, .any, .any, .any, .any, .any, .any, .any, .any]) ?hl ?hs e1 e2 e3 ne lc l0 l1 lnn hQ fun m h0 h63 => ?_
  case hl => rfl
  case hs =>
    intro i o e
    match i, e with
    | 0, e => cases e; exact .inl rfl
    | 1, e => cases e; exact .inr ⟨rfl, rfl⟩
    | 2, e => cases e; exact .inl rfl
    | 3, e => cases e; exact .inl rfl
    | 4, e => cases e; exact .inl rfl
    | 5, e => cases e; exact .inl rfl
    | 6, e => cases e; exact .inl rfl
    | 7, e => cases e; exact .inl rfl
    | 8, e => cases e; exact .inl rfl
    | 9, e => cases e; exact .inl rfl
    | 10, e => cases e; exact .inl rfl
    | 11, e => cases e; exact .inl rfl
    | 12, e => cases e; exact .inl rfl
  clear e1 e2 e3 ne lc l0 l1 lnn hQ hS hl o_like o_at o_p_count_at o_shuffled o_of o_draw o_greatest o_by_sum o_gathered o_listed o_marks o_sort o_listings o_even o_p_most_even o_begin
  -- the names; most_even at three totals
  walk_at "r"
  refine ⟨by omega, by omega, fun r hr => ?_⟩
  walk_at "r"
  have e2 : (2 : Int) + (r : Int) = ((2 + r : Nat) : Int) := by omega
  rw [e2]
  generalize hn : 2 + r = n
  have n2 : 2 ≤ n := by omega
  have n5 : n ≤ 5 := by omega
  clear hr e2 hn
  refine ws_seq (ws_lstN mono_then (wl_lst ?_))
  walk_at "r"
  refine ⟨by omega, by omega, by omega, by omega, fun t1 ht1 => ?_⟩
  walk_at "r"
  refine ⟨by omega, by omega, fun t2 ht2 => ?_⟩
  refine wa_cons (we_op (we_wl (wl_lst ?_)))
  walk_at "r"
  refine ⟨by omega, by omega, fun z hz => ?_⟩
  obtain ⟨t3, ht3, e3⟩ : ∃ t3 : Nat, t3 ≤ 24 * n ∧ atI [D.int 0, D.int (24 * (n : Int))] (z : Int) = some (.int t3) := by
    have hz2 : z = 0 ∨ z = 1 := by omega
    rcases hz2 with rfl | rfl
    · exact ⟨0, by omega, rfl⟩
    · exact ⟨24 * n, by omega, by rw [Int.natCast_mul]; rfl⟩
  refine o_ixL (d := .int t3) e3 ?_
  walk_at "r"
  clear e3 hz z
  refine ⟨fun _ => [.any, .sta, .sh (.int n), .any, .any, .any, .any, .any, .any, .any, .any, .any, .any], by walk_at "le", fun k x hx => ?_, ?_⟩
  · obtain ⟨t, ht, rfl⟩ : ∃ t : Nat, t ≤ 24 * n ∧ x = .int t := by
      have hm := List.mem_of_getElem? hx
      simp only [List.mem_cons, List.not_mem_nil, or_false] at hm
      rcases hm with rfl | rfl | rfl
      · exact ⟨t1, by omega, rfl⟩
      · exact ⟨t2, by omega, rfl⟩
      · exact ⟨t3, ht3, rfl⟩
    walk_at "r"
    refine ⟨n2, n5, ht, ?_⟩
    walk_at "r"
    refine ⟨n2, n5, by omega, ?_⟩
    rw [(even_row n (by omega)).resolve_left (by omega) t (by omega)]
    walk_at "r"
    refine ⟨shw_row (by rw [even_len n2]; omega) (even_24 n2 ht), ?_⟩
    walk_at "r"
    walk_at "le"
  -- lists of names
  have hev := (ev_ok n (by omega)).resolve_left (by omega)
  have hgd := (great_good n (by omega)).resolve_left (by omega)
  refine ws_next ?_
  walk_at "r"
  refine ⟨by omega, by omega, fun k hk => ?_⟩
  have hk : k < 13 := by omega
  obtain ⟨v1, v2, v3, v4⟩ := hev k hk
  walk_at "r"
  refine ⟨n2, n5, by omega, ?_⟩
  rw [(even_row n (by omega)).resolve_left (by omega) k (by omega)]
  walk_at "r"
  refine ⟨v1, v2, v3, ?_⟩
  walk_at "r"
  refine ⟨.li k .one, n, k, _, rfl, good_of n2 n5 (hgd.1 k hk), (great_reach n5 k).1, by omega, (great_list n2 n5 k).symm, v4, ?_⟩
  walk_at "r"
  -- rooted trees, trees
  have eN1 : (n : Int) - 1 = ((n - 1 : Nat) : Int) := by omega
  have eN2 : (n : Int) - 2 = ((n - 2 : Nat) : Int) := by omega
  have eN3 : 2 * ((n : Int) - 1) = ((2 * (n - 1) : Nat) : Int) := by omega
  clear v1 v2 v3 v4
  obtain ⟨v1, v2, v3, v4⟩ := hev (n - 1) (by omega)
  obtain ⟨u1, u2, u3, u4⟩ := hev (n - 2) (by omega)
  rw [eN1]
  refine ⟨n, n - 1, rfl, n2, n5, by omega, ?_⟩
  rw [(even_row n (by omega)).resolve_left (by omega) (n - 1) (by omega)]
  walk_at "r"
  refine ⟨v1, v2, v3, ?_⟩
  walk_at "r"
  refine ⟨.rooted, n, n - 1, _, rfl, good_of n2 n5 hgd.2.1, (great_reach n5 0).2.1, by omega, (great_rooted n2 n5).symm, v4, ?_⟩
  walk_at "r"
  rw [eN3, eN2]
  refine ⟨n, n - 2, rfl, n2, n5, by omega, ?_⟩
  rw [(even_row n (by omega)).resolve_left (by omega) (n - 2) (by omega)]
  walk_at "r"
  refine ⟨u1, u2, u3, ?_⟩
  walk_at "r"
  refine ⟨.trees, n, 2 * (n - 1), _, rfl, good_of n2 n5 hgd.2.2, (great_reach n5 0).2.2, by omega, ((great_trees n (by omega)).resolve_left (by omega)).symm, u4, ?_⟩
  -- the drawn sort
  walk_at "r"
  refine ⟨by omega, by omega, fun r hr => ?_⟩
  walk_at "r"
  have e2 : (2 : Int) + (r : Int) = ((2 + r : Nat) : Int) := by omega
  rw [e2]
  generalize hN : 2 + r = N
  have N2 : 2 ≤ N := by omega
  have N4 : N ≤ 4 := by omega
  clear e2 hr hN v1 v2 v3 v4 u1 u2 u3 u4 hev hgd eN1 eN2 eN3
  walk_at "r"
  refine ⟨N2, N4, by omega, by omega, fun s hs m' q1 q2 q3 => ?_⟩
  have F := hs.fine N2 N4
  have G := hs.good N2 N4
  have hdep := hs.depth N2 N4
  have hm1 : m' ≤ 3000 := by omega
  have hm2 : 0 < m' % 64 := by omega
  clear q1 q2 q3
  refine ws_seq (ws_asg (we_wl (wl_mapL ?hv ?hj ?_)))
  case hv => exact any_of (by rfl)
  case hj => decide
  walk_at "r"
  refine ⟨hdep, F.ok, N2, N4, F.lenOk, ?_⟩
  walk_at "r"
  refine ⟨fun d => .ints (s.cont N d), by have := F.len; omega, fun i x hx => ?_, ?_⟩
  · have hx := List.mem_of_getElem? hx
    walk_at "r"
    refine ⟨hdep, N2, by omega, mem_shape (by omega) s x hx, names_small N2 N4 hs x hx, ?_⟩
    walk_at "r"
    exact ⟨rfl, rfl⟩
  have eE : (s.mem N).map (fun d => D.ints (s.cont N d)) = (s.every N).map D.ints := by
    unfold S.every
    rw [List.map_map]
    rfl
  rw [eE]
  have hbd := every_bd N2 N4 hs
  have hlen := F.elen
  walk_at "r"
  refine ⟨s.every N, N, 12, rfl, by omega, by omega, hbd, fun lots hp => ?_⟩
  have hll : lots.length ≤ 40 := by
    have := gather_len (s.every N) []
    have : (gatherT (s.every N)).length ≤ 0 + (s.every N).length := this
    rw [hp.length_eq]
    omega
  refine ws_seq (ws_asg (we_wl (wl_comp (is := [11, 12]) ?hv ?hj (src_list ?_))))
  case hv => exact any_of (by rfl)
  case hj => decide
  walk_at "r"
  refine ⟨by omega, fun sums hsl hsum => ?_⟩
  walk_at "r"
  refine ⟨fun i acc => ∃ ts : List Int, acc = ts.map D.int ∧ ∀ t ∈ ts, ∃ q ∈ lots, t = q.1.sum, ⟨[], rfl, fun t h => by cases h⟩, by rw [List.length_map]; omega, fun i x acc hi ha => ?_, fun acc ha hacc => ?_⟩
  · obtain ⟨p, hpp, rfl⟩ := mem_map_get hi
    obtain ⟨ts, rfl, hts⟩ := ha
    obtain ⟨q, hq, hpq⟩ := hsum p (List.mem_of_getElem? hpp)
    refine wg_pair rfl fun B Hs H σ r Q hQ => hQ true Hs H _ (Same.refl _) r ⟨rfl, fun _ => ?_, fun z => by cases z⟩
    refine we_var (d := .int p.1) rfl ⟨rfl, ts ++ [p.1], by rw [List.map_append]; rfl, fun t ht => ?_⟩
    rcases List.mem_append.mp ht with ht | ht
    · exact hts t ht
    · rw [List.mem_singleton.mp ht]; exact ⟨q, hq, hpq⟩
  obtain ⟨ts, rfl, hts⟩ := ha
  rw [List.length_map, List.length_map] at hacc
  refine ws_seq (ws_lstN mono_then (wl_cat (we_wl (wl_cut ?_))))
  walk_at "r"
  intro ds' hsub hcut
  rw [List.length_map] at hcut
  refine we_wl (wl_lst ?_)
  walk_at "r"
  refine ⟨by omega, hm2, fun t1 ht1 => ?_⟩
  walk_at "r"
  refine ⟨by omega, by omega, fun t2 ht2 => ?_⟩
  walk_at "r"
  have eT : 24 * (N : Int) - (t2 : Int) = ((24 * N - t2 : Nat) : Int) := by omega
  rw [eT]
  obtain ⟨rp, lk1, lk2⟩ := lots_rep hp
  have tot : ∀ x ∈ ds' ++ [D.int (t1 : Nat), D.int ((24 * N - t2 : Nat) : Int)], ∃ t : Nat, t ≤ 24 * N ∧ x = .int t := fun x hx => by
    rcases List.mem_append.mp hx with hx | hx
    · obtain ⟨z, hz, rfl⟩ := List.mem_map.mp (hsub x hx)
      obtain ⟨q, hq, e⟩ := hts z hz
      obtain ⟨b1, b2⟩ := hbd q.1 (lk1 q hq).2
      obtain ⟨b3, b4⟩ := sum_bd q.1 b2
      refine ⟨z.toNat, by omega, by rw [Int.toNat_of_nonneg (by omega)]⟩
    · simp only [List.mem_cons, List.not_mem_nil, or_false] at hx
      rcases hx with rfl | rfl
      · exact ⟨t1, by omega, rfl⟩
      · exact ⟨24 * N - t2, by omega, rfl⟩
  refine ⟨by simp only [List.length_cons, List.length_nil]; omega, fun _ => [.any, .sta, .sh (.int N), .any, .any, .sh s.d, .sh (.lst ((s.every N).map D.ints)), .sh (lotsD lots), .any, .any, .any, .any, .any], by walk_at "le", fun i x hx => ?_, ?_⟩
  · obtain ⟨t, ht, rfl⟩ := tot x (List.mem_of_getElem? hx)
    refine ws_seq (ws_asg (we_max (we_wl (wl_cat (we_wl (wl_lst (wa_cons (we_int (wa_nil ⟨by decide, ?_⟩)))))))))
    refine we_wl (wl_comp (is := [11, 12]) ?hv ?hj (src_list (we_var (d := lotsD lots) rfl ⟨_, rfl, ?_⟩)))
    case hv => exact any_of (by rfl)
    case hj => decide
    refine ⟨fun i acc => acc = (((lots.take i).filter fun q => decide (q.1.sum = (t : Int))).map (·.2)).map D.int, by simp, by rw [List.length_map]; omega, fun i x acc hi ha => ?_, fun acc ha hacc => ?_⟩
    · obtain ⟨p, hpp, rfl⟩ := mem_map_get hi
      refine wg_pair rfl ?_
      refine wt_test (we_op (we_sumT (we_var (d := .ints p.1) rfl ⟨p.1, rfl, we_var (d := .int t) rfl (o_eqI ⟨_, rfl, rfl, fun hb => ?_, fun hb => ?_⟩)⟩)))
      · refine we_var (d := .int p.2) rfl ⟨rfl, ?_⟩
        dsimp only at ha ⊢
        rw [ha, take_get hpp, List.filter_append, List.map_append, List.map_append]
        congr 1
        rw [List.filter_cons, if_pos hb]
        rfl
      · dsimp only at ha ⊢
        rw [ha, take_get hpp, List.filter_append, List.map_append, List.map_append, List.filter_cons, if_neg (by rw [hb]; exact Bool.false_ne_true)]
        simp
    rw [List.length_map, List.take_length] at ha
    rw [List.length_map] at hacc
    refine ⟨_, _, rfl, rfl, by simp only [List.length_cons, List.length_nil]; omega, 0 :: (lots.filter fun q => decide (q.1.sum = (t : Int))).map (·.2), by rw [ha]; rfl, by simp, fun x hx hy => ?_⟩
    have hx2 := law_max N2 N4 hs hp t hx hy
    obtain ⟨c0, c1⟩ := cnt_small F (evenV N t)
    rw [← hx2] at c0 c1
    walk_at "r"
    refine ⟨G, F.reach, ht, hx2, small_log c0 c1, ?_⟩
    walk_at "r"
    walk_at "le"
  -- a member's content, shuffled
  refine ws_seq (ws_if (wt_test (we_op (we_var (d := .lst ((s.every N).map D.ints)) rfl (we_wl (wl_lst (wa_nil ⟨by decide, o_neLL0 ⟨_, rfl, fun hb => ?_, fun hb => ?_⟩⟩)))))))
  · have hne : 0 < (s.every N).length := by
      cases h : s.every N with
      | nil => rw [h] at hb; cases hb
      | cons x l => simp
    walk_at "r"
    refine ⟨by rw [List.length_map]; exact hne, by rw [List.length_map]; omega, by omega, by omega, fun x hx => ?_⟩
    obtain ⟨c, hc, rfl⟩ := List.mem_map.mp hx
    obtain ⟨b1, b2⟩ := hbd c hc
    walk_at "r"
    refine ⟨by omega, by omega, by omega, fun c' hc' => ?_⟩
    walk_at "r"
    refine ⟨G, F.reach, by rw [hc'.length_eq]; exact b1, fun z hz => by have := b2 z (hc'.mem_iff.mp hz); omega, ?_⟩
    walk_at "r"
    refine ⟨by omega, ?_⟩
    have hpm := law_perm N2 N4 hs hp hc hc'
    obtain ⟨c0, c1⟩ := cnt_small F c'
    rw [← hpm]
    walk_at "r"
    refine ⟨small_log c0 c1, ?_⟩
    walk_at "r"
  · walk_at "r"
end ME
end
section
set_option Elab.async false
set_option linter.all false
set_option maxRecDepth 100000
set_option maxHeartbeats 4000000
namespace ME
open PySem L2 MW
local macro_rules | `(tactic| walk_at "norm1") => `(tactic| dsimp only [Then, LoopP, FnPost, FnPostS])
local macro_rules | `(tactic| walk_at "mul") => `(tactic| (first
  | exact Or.inl ⟨by omega, by omega⟩
  | exact Or.inr ⟨by omega, by omega⟩))
local macro_rules | `(tactic| walk_at "we") => `(tactic| (first
  | ((with_reducible refine we_var (d := ?d) ?he ?_); (case he => exact rfl))
  | with_reducible refine we_int ?_
  | with_reducible refine we_str ?_
  | with_reducible refine we_op ?_
  | with_reducible refine we_cl ?_
  | with_reducible refine we_tup ?_
  | with_reducible refine we_bl ?_
  | with_reducible refine we_non ?_
  | with_reducible refine we_if ?_
  | ((with_reducible refine we_lenO (ds := ?ds) ?he ?_); (case he => exact rfl))
  | with_reducible refine we_len ?_
  | with_reducible refine we_int1 ?_
  | with_reducible refine we_andV ?_
  | with_reducible refine we_orV ?_
  | with_reducible refine we_notV ?_
  | with_reducible refine we_neg ?_
  | with_reducible refine we_chain ?_
  | with_reducible refine we_dget ?_
  | ((with_reducible refine we_dget2O (t := ?t) ?he ?_); (case he => exact rfl))
  | ((with_reducible refine we_dget2I (t := ?t) ?he ?_); (case he => exact rfl))
  | with_reducible refine we_dget2 ?_
  | ((with_reducible refine we_isi ?ht ?_); (case ht => first | exact .inl rfl | exact .inr (.inl rfl) | exact .inr (.inr (.inl rfl)) | exact .inr (.inr (.inr rfl))))
  | ((with_reducible refine we_clS ?he ?_); (case he => exact rfl))
  | with_reducible refine we_max2 ?_
  | with_reducible refine we_dispT1 ?_
  | with_reducible refine we_dispT2 ?_
  | ((with_reducible refine we_tupOfO (ds := ?ds) ?he ?_); (case he => exact rfl))
  | with_reducible refine we_sumT ?_
  | with_reducible refine we_divmod ?_
  | with_reducible refine we_newT ?_))
local macro_rules | `(tactic| walk_at "op2") => `(tactic| (first
  | ((with_reducible refine o_ixT (d := ?d) ?he ?_); (case he => exact rfl))
  | with_reducible refine o_eqS ?_
  | with_reducible refine o_eqI ?_
  | with_reducible refine o_add ?_
  | with_reducible refine o_sub ?_
  | ((with_reducible refine o_inT (x := ?x) (xs := ?xs) ?hx ?hs ?_); (case hx => exact rfl); (case hs => exact rfl))
  | ((with_reducible refine o_mul ?hc ?_); (case hc => walk_at "mul"))
  | ((with_reducible refine o_mod ?hc ?_); (case hc => omega))
  | ((with_reducible refine o_div ?hc ?_); (case hc => exact ⟨by omega, by omega⟩))
  | with_reducible refine o_lt ?_
  | with_reducible refine o_le ?_
  | with_reducible refine o_gt ?_
  | with_reducible refine o_ge ?_
  | with_reducible refine o_neI ?_
  | ((with_reducible refine o_ixL (d := ?d) ?he ?_); (case he => exact rfl))
  | ((with_reducible refine o_inL (x := ?x) (xs := ?xs) ?hx ?hs ?_); (case hx => exact rfl); (case hs => exact rfl))
  | ((with_reducible refine o_catT ?hl ?_); (case hl => (simp only [List.length_cons, List.length_nil, List.length_append, List.length_map, List.length_replicate]; omega)))
  | ((with_reducible refine o_repTI ?h0 ?h1 ?_); (case h0 => omega); (case h1 => omega))
  | with_reducible refine o_isNT ?_))
local macro_rules | `(tactic| walk_at "wt") => `(tactic| (first
  | with_reducible refine wt_test ?_
  | with_reducible refine wt_B ?_
  | with_reducible refine wt_not ?_
  | with_reducible refine wt_and ?_
  | with_reducible refine wt_or ?_))
local macro_rules | `(tactic| walk_at "ws") => `(tactic| (first
  | with_reducible refine ws_seq ?_
  | with_reducible refine ws_asg ?_
  | with_reducible refine ws_if ?_
  | with_reducible refine ws_ret ?_
  | with_reducible refine ws_next ?_
  | with_reducible refine ws_drop ?_
  | with_reducible refine ws_par ?_
  | ((with_reducible refine ws_asg2 ?hn ?_); (case hn => rfl))))
local macro_rules | `(tactic| walk_at "no") => `(tactic| first
  | (intro hb; exact Bool.noConfusion (show (true : Bool) = false from hb))
  | (intro hb; exact Bool.noConfusion (show (false : Bool) = true from hb)))
local macro_rules | `(tactic| walk_at "br") => `(tactic| first
  | (refine ⟨?_, ?no⟩; (case no => walk_at "no"); (intro _))
  | (refine ⟨?no, ?_⟩; (case no => walk_at "no"); (intro _)))
local macro_rules | `(tactic| walk_at "ex") => `(tactic| first
  | (refine ⟨_, rfl, ?_⟩)
  | (refine ⟨_, _, rfl, rfl, ?_⟩)
  | (refine ⟨_, _, rfl, ?_⟩)
  | (refine ⟨_, _, _, rfl, ?_⟩)
  | (refine ⟨_, _, _, _, rfl, ?_⟩)
  | (refine ⟨_, .inr rfl, ?_⟩)
  | (refine ⟨_, .inl rfl, ?_⟩))
local macro_rules | `(tactic| walk_at "r") => `(tactic| repeat (first
  | ((with_reducible show MW.WE _ _ _ _ _); walk_at "we")
  | ((with_reducible show MW.Op2 _ _ _ _ _ _ _); walk_at "op2")
  | ((with_reducible show MW.WS _ _ _ _ _); walk_at "ws")
  | ((with_reducible show MW.WA _ _ _ _ _); first | with_reducible refine wa_cons ?_ | with_reducible refine wa_nil ?_)
  | ((with_reducible show MW.WT _ _ _ _ _); walk_at "wt")
  | ((with_reducible show Exists _); walk_at "ex")
  | ((with_reducible show And _ _); first | walk_at "br" | (refine ⟨by decide, ?_⟩) | (refine ⟨Nat.le_of_ble_eq_true rfl, ?_⟩) | (refine ⟨.inl ⟨_, rfl⟩, ?_⟩) | (refine ⟨.inr (.inl ⟨_, rfl⟩), ?_⟩) | (refine ⟨.inr (.inr ⟨_, rfl⟩), ?_⟩))
  | walk_at "norm1"
  | walk_at "ex"))
local macro_rules | `(tactic| walk_at "q") => `(tactic| repeat (first
  | ((with_reducible show MW.WE _ _ _ _ _); first | with_reducible refine we_wl (wl_cat ?_) | with_reducible refine we_wl (wl_lst ?_) | walk_at "we")
  | ((with_reducible show MW.Op2 _ _ _ _ _ _ _); walk_at "op2")
  | ((with_reducible show MW.WS _ _ _ _ _); walk_at "ws")
  | ((with_reducible show MW.WA _ _ _ _ _); first | with_reducible refine wa_cons ?_ | with_reducible refine wa_nil ?_)
  | ((with_reducible show MW.WT _ _ _ _ _); walk_at "wt")
  | ((with_reducible show Exists _); walk_at "ex")
  | ((with_reducible show And _ _); first | walk_at "br" | (refine ⟨by decide, ?_⟩) | (refine ⟨Nat.le_of_ble_eq_true rfl, ?_⟩) | (refine ⟨.inl ⟨_, rfl⟩, ?_⟩) | (refine ⟨.inr (.inl ⟨_, rfl⟩), ?_⟩) | (refine ⟨.inr (.inr ⟨_, rfl⟩), ?_⟩))
  | walk_at "norm1"
  | walk_at "ex"))
local macro_rules | `(tactic| walk_at "le") => `(tactic| ((try refine ⟨rfl, ?_⟩); repeat (first | exact Le.nil | refine Le.eq ?_ | refine Le.any ?_)))

theorem sc_letters : FnScope ["_law_n", "_law_ties", "_law_root", "_law_size_here", "_law_left", "_law_found", "_law_step", "_law_item", "_law_near", "_law_tie"] ["_law_n", "_law_ties", "_law_root", "_law_size_here"] (defScope s_letters) := ⟨rfl, rfl, rfl, by decide +kernel, rfl, by decide +kernel, by decide +kernel⟩
theorem ok_letters {P : Program} {w : World} {K : PySem.W.Frag} {mg : Str → Option Value} {base h : Heap} (T : Tx K mg h)  :
    Ok P w K mg base "_law_letters" ["_law_n", "_law_ties", "_law_root", "_law_size_here"] 1 (SpP K sp_letters) := by
  obtain ⟨fd, F⟩ := T.c.def_ 44 (d := d_letters) rfl
  have F : FnP K "_law_letters" s_letters (He.ga K "_law_letters") fd := F
  have len : ∀ ds R, sp_letters ds R → ds.length = 4 := (fun ds R h => by obtain ⟨_, _, _, _, rfl, _⟩ := h; rfl)
  refine Ok.of F (He.glo_ok T.X T.G (T.c.fact 44 (f := .glo "_law_letters") rfl)) (FunD.bindsN F fun _ _ _ _ _ _ us hl => match us, hl with | [_, _, _, _], _ => rfl)
    (FunD.ok F sc_letters (fun vs H Q E h => lenP (n := 4) h len) (fun cdv A outer s H vs Q E hr hq => ⟨_, PSs.nox (pss_cons (ps_par (i := 4) (j := 5) (by rfl) sc_letters.nd rfl rfl (by decide) rfl rfl (pa_cons (pe_callTy call_list_of (by rfl) T.list_ (by decide +kernel) (pa_cons (pv 1) pa_nil)) (pa_cons (pe_lst pa_nil) pa_nil)) (by rfl))
    (pss_cons (ps_for PassesOwn.never (by rfl) (pi_range1 (by rfl) T.range_ (pa_cons (pv 3) pa_nil)) (pg_name (i := 6) sc_letters.nd rfl (by first | exact .inl rfl | exact .inr rfl)) (pss_one (ps_for PassesOwn.never (by rfl) (pi_range1 (by rfl) T.range_ (pa_cons (pv 0) pa_nil)) (pg_name (i := 7) sc_letters.nd rfl (by first | exact .inl rfl | exact .inr rfl)) (pss_cons (ps_setLc (i := 8) (own := [("_law_tie", 9)]) (by rfl) sc_letters.nd rfl rfl (sw_true rfl rfl rfl (by decide +kernel)) (pi_list (pv 4)) (blkOk_by (own := [("_law_tie", 9)]) (by rfl)) (fun _ _ _ _ _ => (pg_name (i := 9) sc_letters.nd rfl (by first | exact .inl rfl | exact .inr rfl))) (fun _ _ _ _ _ => (pts_one (pt_cmpR (op_in_seqK (K := K) rfl) (pv 7) (pv 9) (by rfl)))) (fun _ _ _ _ _ => (pv 9)))
    (pss_one (ps_if (PW.pt (pw_and (pt_cmpR op_ne (pv 7) (pv 2) (by rfl)) (pw_and1 (pt_cmpR op_eq (pe_callB call_len_seq (by rfl) T.len_ PySem.boot_len (pa_cons (pv 8) pa_nil)) pe_int (by rfl))))) (pss_cons (ps_expr (pe_bm PySem.F.plainAttrs_list PySem.F.slot_list_append PySem.F.type_list_append mt_append (pv 5) (pa_cons (pe_op op_sub (pe_op op_add (pe_ix ix_tup (pe_ix ix_list (pv 8) pe_int (fun _ _ => rfl)) pe_int (fun _ _ => rfl)) (pe_ix ix_tup (pe_ix ix_list (pv 8) pe_int (fun _ _ => rfl)) pe_int (fun _ _ => rfl))) (pv 7)) pa_nil)))
    (pss_cons (ps_expr (pe_bm PySem.F.plainAttrs_list PySem.F.slot_list_remove PySem.F.type_list_remove (mt_removeD hr.units) (pv 4) (pa_cons (pe_ix ix_list (pv 8) pe_int (fun _ _ => rfl)) pa_nil)))
    (pss_one ps_break))) pss_nil))))))
    (pss_one (ps_ret (pv 5))))), ?_⟩))
  refine fn_run (n := 4) hq len (by decide) fun ds R hs => ?_
  try dsimp only [cxOf]
  obtain ⟨n, ties, root, size, rfl, hn, hz, hl, h2, hR⟩ := hs
  have hst : ∀ k, (∀ c ∈ (iter (fun _ x => lettStep n root x) k (ties, [])).1, c.length = 2) ∧ (iter (fun _ x => lettStep n root x) k (ties, [])).1.length ≤ 100 ∧ (iter (fun _ x => lettStep n root x) k (ties, [])).2.length ≤ k := fun k => by
    induction k with
    | zero => exact ⟨h2, hl, Nat.le_refl _⟩
    | succ k ih =>
      show (∀ c ∈ (lettStep n root (iter (fun _ x => lettStep n root x) k (ties, []))).1, c.length = 2) ∧ (lettStep n root (iter (fun _ x => lettStep n root x) k (ties, []))).1.length ≤ 100 ∧ (lettStep n root (iter (fun _ x => lettStep n root x) k (ties, []))).2.length ≤ k + 1
      generalize iter (fun _ x => lettStep n root x) k (ties, []) = x at ih
      obtain ⟨i1, i2, i3⟩ := ih
      unfold lettStep
      split
      · refine ⟨fun c hc => i1 c (List.mem_of_mem_erase hc), Nat.le_trans List.length_erase_le i2, ?_⟩
        rw [List.length_append]
        exact Nat.succ_le_succ i3
      · exact ⟨i1, i2, by omega⟩
  show WS K _ 0 [.sh _, .sh (tiesD ties), .sh _, .sh _, .any, .any, .any, .any, .any, .any] _
  refine ws_seq (ws_par2L (by decide) (wl_listOf (we_var (d := tiesD ties) rfl ⟨_, .inr rfl, ?_⟩)))
  walk_at "r"
  refine ws_rng1 mono_then ?_
  walk_at "r"
  refine ⟨by omega, by omega, fun k => [.sh (.int n), .sh (tiesD ties), .sh (.int root), .sh (.int size), .lst ((iter (fun _ x => lettStep n root x) k (ties, [])).1.map D.ints), .lst ((iter (fun _ x => lettStep n root x) k (ties, [])).2.map D.int), .any, .any, .any, .any], by walk_at "le", fun k hk => ?_, ?_⟩
  · obtain ⟨i1, i2, i3⟩ := hst k
    have hS : iter (fun _ x => lettStep n root x) (k + 1) (ties, []) = lettStep n root (iter (fun _ x => lettStep n root x) k (ties, [])) := rfl
    dsimp only
    rw [hS]
    generalize iter (fun _ x => lettStep n root x) k (ties, []) = x at i1 i2 i3
    obtain ⟨left, found⟩ := x
    dsimp only at i1 i2 i3 ⊢
    refine ws_rng1B (Qp := fun i => ∀ j, j < i → ¬ ((j : Int) ≠ root ∧ (near left j).length = 1)) (E := [.sh (.int n), .sh (tiesD ties), .sh (.int root), .sh (.int size), .lst (left.map D.ints), .lst (found.map D.int), .any, .any, .any, .any]) mono_loop ?_
    walk_at "r"
    refine ⟨by omega, by omega, by walk_at "le", fun j hj => absurd hj (Nat.not_lt_zero j), fun i hi hq => ?_, fun hq => ?_⟩
    · rw [Int.toNat_natCast] at hi
      refine ws_seq (ws_asg (we_wl (wl_filtO ?hv ?hj (ds := left.map D.ints) rfl ?_)))
      case hv => exact any_of (by rfl)
      case hj => decide
      refine ⟨fun d => decide ((i : Int) ∈ asInts d), id, by rw [List.length_map]; omega, fun z x hx => ?_, fun z x hx hc => ?_, ?_⟩
      · obtain ⟨t, ht, rfl⟩ := mem_map_get hx
        refine wt_test (we_op (we_var (d := .int i) rfl (we_var (d := .ints t) rfl (o_inT (x := .int i) (xs := t.map V.int) rfl (flats_ints t) ⟨_, rfl, rfl, ?_⟩))))
        show inV (V.int i) (t.map V.int) = decide ((i : Int) ∈ asInts (.ints t))
        rw [in_ints, asInts_ints]
      · exact we_var (d := x) rfl ⟨rfl, rfl⟩
      have eN : ((left.map D.ints).filter fun d => decide ((i : Int) ∈ asInts d)) = (near left i).map D.ints := by
        rw [List.filter_map]
        unfold near
        congr 1
        apply List.filter_congr
        intro t _
        show decide ((i : Int) ∈ asInts (.ints t)) = _
        rw [asInts_ints]
      rw [eN, List.map_id]
      have no : ¬ ((i : Int) ≠ root ∧ (near left i).length = 1) → LoopP (fun m2 e2 => m2 = 0 ∧ (∀ j, j < i + 1 → ¬ ((j : Int) ≠ root ∧ (near left j).length = 1)) ∧ Le [.sh (.int n), .sh (tiesD ties), .sh (.int root), .sh (.int size), .lst (left.map D.ints), .lst (found.map D.int), .any, .any, .any, .any] e2) (LoopP (LeP 0 [.sh (.int n), .sh (tiesD ties), .sh (.int root), .sh (.int size), .lst ((lettStep n root (left, found)).1.map D.ints), .lst ((lettStep n root (left, found)).2.map D.int), .any, .any, .any, .any]) (Then K (tRet (tVar 5)) (FnPost R))) (.nx 0 [.sh (.int n), .sh (tiesD ties), .sh (.int root), .sh (.int size),   .lst (left.map D.ints), .lst (found.map D.int), .any, .sh (.int i), .sh (.lst ((near left i).map D.ints)), .any]) := fun hno => by
        refine ⟨rfl, fun j hj => ?_, by walk_at "le"⟩
        rcases Nat.lt_or_ge j i with h | h
        · exact hq j h
        · have : j = i := by omega
          rw [this]; exact hno
      walk_at "r"
      refine ⟨fun hb => ?_, fun hb => ?_⟩
      · have hb1 : (i : Int) ≠ root := by simpa using hb
        walk_at "r"
        rw [List.length_map]
        refine ⟨fun hc => ?_, fun hc => ?_⟩
        · have hc1 : (near left i).length = 1 := by have := of_decide_eq_true hc; omega
          obtain ⟨t0, et⟩ := List.length_eq_one_iff.mp hc1
          have hmem : t0 ∈ left := by
            have : t0 ∈ near left i := by rw [et]; exact List.mem_singleton.mpr rfl
            exact (List.mem_filter.mp this).1
          obtain ⟨a, b, rfl⟩ : ∃ a b, t0 = [a, b] := by
            match t0, i1 t0 hmem with
            | [a, b], _ => exact ⟨a, b, rfl⟩
          have hfind : (List.range n).find? (fun (j : Nat) => decide ((j : Int) ≠ root ∧ (near left j).length = 1)) = some i := by
            rw [List.find?_range_eq_some]
            refine ⟨decide_eq_true ⟨hb1, hc1⟩, List.mem_range.mpr hi, fun j hj => ?_⟩
            rw [Bool.not_eq_true', decide_eq_false_iff_not]
            exact hq j hj
          have eL : lettStep n root (left, found) = (left.erase [a, b], found ++ [a + b - i]) := by
            unfold lettStep
            rw [hfind]
            dsimp only
            rw [et]
            rfl
          rw [eL, et]
          refine ws_seq (ws_append rfl ?_)
          walk_at "r"
          refine ⟨by rw [List.length_map]; omega, ?_⟩
          try dsimp only [Then]
          refine ws_seq (ws_remove (cs := left) rfl ?_)
          walk_at "r"
          refine ⟨hmem, ?_⟩
          refine ws_break ?_
          have eF : found.map D.int ++ [.int (a + b - i)] = (found ++ [a + b - i]).map D.int := by rw [List.map_append]; rfl
          rw [eF]
          walk_at "le"
        · have hc1 : (near left i).length ≠ 1 := by have := of_decide_eq_false hc; omega
          walk_at "r"
          exact And.right (no fun z => hc1 z.2)
      · have hb1 : (i : Int) = root := by simpa using hb
        walk_at "r"
        exact And.right (no fun z => z.1 hb1)
    · have e : lettStep n root (left, found) = (left, found) := by
        unfold lettStep
        rw [List.find?_range_eq_none.mpr]
        intro i hi
        rw [Int.toNat_natCast] at hq
        rw [Bool.not_eq_true', decide_eq_false_iff_not]
        exact hq i hi
      rw [e]
      walk_at "le"
  · dsimp only [Then]
    rw [Int.toNat_natCast]
    refine ws_giveL (i := 5) rfl ?_
    walk_at "r"
    exact hR
end ME
end
section
set_option Elab.async false
set_option linter.all false
set_option maxRecDepth 100000
set_option maxHeartbeats 4000000
/-! the end: the law is called where no guard stands -/
namespace ME
open PySem PySem.Spec PyProof.Rows L2 MW
section
variable {P : Program} {w : World} {K : PySem.W.Frag} {mg mb : Str → Option Value} {k : Nat} {fa a : Addr} {fd : FuncData} {x : Str} {sp : Sp} {z : Shared} {us : List Value} {ns : List Int} {H : Hp}
/-- what a call of the law must bring -/
abbrev Fine1 (z : Shared) (r : Result) (s' : Shared) : Prop := r = .ok (.ret (.bool true)) ∧ OldK z.heap s'.heap ∧ s'.os = z.os ∧ AllBare s'.gens
theorem call1 (kin : K.In z.heap) (g1 : z.heap.Ns mainGlobals mg) (g2 : z.heap.Ns builtinsNs mb) (g3 : ∀ y : Str, y ≠ "__name__" → mb y = bootBuiltins y) (g4 : z.heap.NoLimit) (g5 : z.gens = #[]) (at_ : z.heap.get? a = some { cls := .type "list", data := .seq us.toArray })
    (room : Room k callerA) (F : ∀ b : Heap, K.In b → b.Ns mainGlobals mg → FnG P w K mg b k fa fd [x] sp) (bind : ∀ (s : Shared) (u : Value), BindsTo s fd ⟨[u], []⟩ [(x, u)]) (q : sp [.ref a] H (fun v _ => v = .bl true) E0)
    (hok : HOk P w H z.heap) (only : ∀ b u, H b = some u → b = a ∧ ∃ o xs, u = .frz o (.lst xs)) (off : H a ≠ none → K.lookup a = none) : codeAny (model P w) callerA (.call (.ref fa) ⟨[.ref a], []⟩) (Fine1 z) z := by
  have free : ∀ {b : Addr}, b ≠ a → H b = none := fun {b} n => by
    cases e : H b with
    | none => rfl
    | some u => exact absurd (only b u e).1 n
  have dict : ∀ {b : Addr} {o : Obj} {es : Array DictEntry} {n : Nat}, z.heap.get? b = some o → o.data = .dict es n → H b = none := fun {b o es n} e d => by
    by_cases hb : b = a
    · rw [hb, at_] at e
      cases e
      have d : Data.seq us.toArray _ = Data.dict es n := d
      cases d
    · exact free hb
  have names : ∀ {b : Addr} {t : Str → Option Value}, z.heap.Ns b t → (hidT z.heap H).Ns b t := fun {b t} h => by
    obtain ⟨o, es, n, e, d, l⟩ := h
    exact ⟨o, es, n, hidT_get e (dict e d), d, l⟩
  have kin2 : K.In (hidT z.heap H) := fun b o e => by
    refine hidT_get (kin b o e) ?_
    by_cases hb : b = a
    · cases e2 : H b with
      | none => rfl
      | some u =>
        have := off (by rw [← hb, e2]; intro y; cases y)
        rw [← hb, e] at this
        cases this
    · exact free hb
  obtain ⟨mc, c1, c2⟩ := g4
  have M : Mod K mg (hidT z.heap H) := ⟨kin2, names g1, ⟨mb, names g2, g3⟩, ⟨mc, names c1, c2⟩⟩
  have E : Env0 P w K mg (hidT z.heap H) callerA [] z H := ⟨rfl, M, fun b o e => of_hidT e, Nat.le_of_eq (hidT_size _ _), trivial, (fun b y => by cases y), hok, .of_eq g5⟩
  refine codeAny_mono ((F _ kin2 (names g1)).go callerA [] z H ⟨[.ref a], []⟩ [.ref a] [.ref a] _ _ room rfl E (bind z (.ref a)) (.cons rfl .nil) q) fun r s' h => ?_
  match r, h with
  | .error e, h => exact h.elim
  | .ok .next, h => exact h.elim
  | .ok .brk, h => exact h.elim
  | .ok .cont, h => exact h.elim
  | .ok (.ret u), ⟨v, H2, os, bare, un, hok2, rv, qv⟩ =>
    have qv : v = .bl true := qv
    subst qv
    obtain rfl : u = Value.bool true := rv
    refine ⟨rfl, OldK.of_keep fun b o e => ?_, os, bare⟩
    cases hb : H b with
    | none => exact un.keep b o e hb (fun y => by cases y) (by simp)
    | some y =>
      obtain ⟨_, ob, ys, rfl⟩ := only b y hb
      have f1 := (hok b _ hb).1
      have f2 := (hok2 b _ (un.frzs b ob _ hb)).1
      rw [e] at f1
      cases f1
      exact f2
theorem call2 (kin : K.In z.heap) (g1 : z.heap.Ns mainGlobals mg) (g2 : z.heap.Ns builtinsNs mb) (g3 : ∀ y : Str, y ≠ "__name__" → mb y = bootBuiltins y) (g4 : z.heap.NoLimit) (g5 : z.gens = #[]) (at_ : z.heap.get? a = some { cls := .type "list", data := .seq us.toArray })
    (hin : IntsAre us ns) (len : ns.length ≤ sizeLine) (room : Room k callerA) (F : ∀ b : Heap, K.In b → b.Ns mainGlobals mg → FnG P w K mg b k fa fd [x] sp) (bind : ∀ (s : Shared) (u : Value), BindsTo s fd ⟨[u], []⟩ [(x, u)])
    (q : ∀ H : Hp, SqL K H a (ns.map V.int) → sp [.ref a] H (fun v _ => v = .bl true) E0) : codeAny (model P w) callerA (.call (.ref fa) ⟨[.ref a], []⟩) (Fine1 z) z := by
  have rv := vals_ints hin
  have ln := hin.length
  cases hk : K.lookup a with
  | some o =>
    have e := kin a o hk
    rw [at_] at e
    cases e
    refine call1 (H := fun _ => none) kin g1 g2 g3 g4 g5 at_ room F bind (q _ (.inr ⟨_, us.toArray, _, hk, rfl, rfl, rfl, by rw [List.size_toArray, ln]; exact len, by simpa using rv⟩)) (fun b u y => ?_) (fun b u y => ?_) fun y => absurd rfl y
    · have y : (none : Option HO) = some u := y
      cases y
    · have y : (none : Option HO) = some u := y
      cases y
  | none =>
    refine call1 (H := fun b => if b = a then some (.frz { cls := .type "list", data := .seq us.toArray } (.lst (ns.map V.int))) else none) kin g1 g2 g3 g4 g5 at_ room F bind (q _ (.inl (.inr ⟨_, if_pos rfl⟩))) (fun b u y => ?_) (fun b u y => ?_) fun _ => hk
    · try dsimp only at y
      split at y
      · rename_i hb
        cases y
        subst hb
        exact ⟨at_, by rw [List.length_map]; exact len, us, _, rv, at_⟩
      · cases y
    · try dsimp only at y
      split at y
      · rename_i hb
        cases y
        exact ⟨hb, _, _, rfl⟩
      · cases y
end
theorem walk_G {l : PySem.W.OpenLaw} {n k : Nat} {q : Program} {loose : List Str} {XP : (Str → Option Value) → Heap → Prop} {YP : World → Heap → Prop} {d : DefRec} {x : Str}
    (h1 : l.most = some n) (h2 : n ≤ sizeLine) (h3 : d.params.defaults = []) (room : Room k callerA)
    (F : ∀ (w : World) (mg : Str → Option Value) (fa : Addr) (h : Heap), YP w h → h.Ns mainGlobals mg → mg d.name = some (.ref fa) →
      ∃ (K : PySem.W.Frag) (fd : FuncData) (sp : Sp), K.In h ∧ (∀ (s : Shared) (u : Value), BindsTo s fd ⟨[u], []⟩ [(x, u)]) ∧ (∀ (H : Hp) (a : Addr) (ns : List Int), ns.length ≤ n → SqL K H a (ns.map V.int) → sp [.ref a] H (fun v _ => v = .bl true) E0) ∧
        ∀ b : Heap, K.In b → b.Ns mainGlobals mg → FnG l.prog w K mg b k fa fd [x] sp) : PySem.W.WalkO q loose XP YP l.row.toRowW d [] (fun f vs => PySem.call f vs) := by
  refine Att.attach_call h1 h3 fun w s₀ s₁ mg mb fa o pm cd doc a vs ns G Y ho hd hcd hmg hobj hints hlen hg => ?_
  obtain ⟨K, fd, sp, kin, bind, hsp, hF⟩ := F w mg fa _ Y G.T.g hmg
  exact call2 kin G.T.g G.T.b G.T.builtins G.T.nolimit hg hobj hints (Nat.le_trans hlen h2) room hF bind fun H hS => hsp H a ns hlen hS
theorem law_ok {P : Program} {w : World} {K : PySem.W.Frag} {mg : Str → Option Value} {base h : Heap} (T : Tx K mg h) : OkG P w K mg base "law" ["_law_script"] 50 (sp_law K) := by
  have h_like := ok_like (P := P) (w := w) (base := base) T 
  have h_at := ok_at (P := P) (w := w) (base := base) T 
  have h_p_joined_contents := ok_p_joined_contents (P := P) (w := w) (base := base) T 
  have h_p_multiplied_tables := ok_p_multiplied_tables (P := P) (w := w) (base := base) T h_p_joined_contents
  have h_p_zero_table := ok_p_zero_table (P := P) (w := w) (base := base) T 
  have h_p_powered_table := ok_p_powered_table (P := P) (w := w) (base := base) T h_p_multiplied_tables h_p_zero_table
  have h_p_name_table := ok_p_name_table (P := P) (w := w) (base := base) T 
  have h_p_rounds_table := ok_p_rounds_table (P := P) (w := w) (base := base) T h_p_multiplied_tables h_p_zero_table h_p_name_table
  have h_p_binomial := ok_p_binomial (P := P) (w := w) (base := base) T 
  have h_p_ways_to_take := ok_p_ways_to_take (P := P) (w := w) (base := base) T h_p_binomial
  have h_p_taken_further := ok_p_taken_further (P := P) (w := w) (base := base) T h_p_joined_contents h_p_ways_to_take
  have h_p_picked_table := ok_p_picked_table (P := P) (w := w) (base := base) T h_p_taken_further h_p_zero_table
  have h_p_added_tables := ok_p_added_tables (P := P) (w := w) (base := base) T 
  have h_p_table_of := all_p_table_of (P := P) (w := w) (base := base) T h_p_multiplied_tables h_p_powered_table h_p_name_table h_p_rounds_table h_p_picked_table h_p_zero_table h_p_added_tables
  have h_p_is_from := ok_p_is_from (P := P) (w := w) (base := base) T 
  have h_p_need_many := ok_p_need_many (P := P) (w := w) (base := base) T h_p_is_from
  have h_p_is_content := ok_p_is_content (P := P) (w := w) (base := base) T h_p_is_from h_p_need_many
  have h_p_need_content := ok_p_need_content (P := P) (w := w) (base := base) T h_p_is_content
  have h_p_power := ok_p_power (P := P) (w := w) (base := base) T 
  have h_p_choices := ok_p_choices (P := P) (w := w) (base := base) T 
  have h_p_bare_size := ok_p_bare_size (P := P) (w := w) (base := base) T h_p_power h_p_choices
  have h_p_size_of := all_p_size_of (P := P) (w := w) (base := base) T h_p_power h_p_choices h_p_bare_size
  have h_p_width_of := all_p_width_of (P := P) (w := w) (base := base) T 
  have h_p_marks_of := all_p_marks_of (P := P) (w := w) (base := base) T 
  have h_p_single := all_p_single (P := P) (w := w) (base := base) T 
  have h_p_part_places := ok_p_part_places (P := P) (w := w) (base := base) T h_p_is_from
  have h_p_walked := all_p_walked (P := P) (w := w) (base := base) T h_p_single h_p_part_places
  have h_p_need_sort := ok_p_need_sort (P := P) (w := w) (base := base) T (h_p_size_of 10) (h_p_width_of 10) (h_p_marks_of 10) (h_p_walked 10) h_p_need_many
  have h_p_count_at := ok_p_count_at (P := P) (w := w) (base := base) T (h_p_table_of 10) h_p_need_content h_p_need_sort
  have h_mixed := ok_mixed (P := P) (w := w) (base := base) T 
  have h_draw := ok_draw (P := P) (w := w) (base := base) T h_mixed
  have h_shuffled := ok_shuffled (P := P) (w := w) (base := base) T h_draw
  have h_of := ok_of (P := P) (w := w) (base := base) T h_draw
  have h_even := ok_even (P := P) (w := w) (base := base) T 
  have h_p_need_total := ok_p_need_total (P := P) (w := w) (base := base) T 
  have h_p_most_even := ok_p_most_even (P := P) (w := w) (base := base) T h_p_need_total h_p_need_many
  have h_p_greatest_count := ok_p_greatest_count (P := P) (w := w) (base := base) T (h_p_table_of 10) h_p_most_even h_p_need_total h_p_need_sort
  have h_greatest := ok_greatest (P := P) (w := w) (base := base) T h_like h_p_count_at h_even h_p_greatest_count
  have h_by_sum := ok_by_sum (P := P) (w := w) (base := base) T 
  have h_gathered := ok_gathered (P := P) (w := w) (base := base) T 
  have h_joined := ok_joined (P := P) (w := w) (base := base) T 
  have h_tuples := ok_tuples (P := P) (w := w) (base := base) T 
  have h_meets := ok_meets (P := P) (w := w) (base := base) T 
  have h_trees := ok_trees (P := P) (w := w) (base := base) T h_joined h_tuples h_meets
  have h_rows := ok_rows (P := P) (w := w) (base := base) T 
  have h_listed := all_listed (P := P) (w := w) (base := base) T h_trees h_meets h_rows h_tuples
  have h_letters := ok_letters (P := P) (w := w) (base := base) T 
  have h_names := all_names (P := P) (w := w) (base := base) T h_letters
  have h_marks := ok_marks (P := P) (w := w) (base := base) T (h_names 10)
  have h_weight := all_weight (P := P) (w := w) (base := base) T 
  have h_ways := ok_ways (P := P) (w := w) (base := base) T 
  have h_power := ok_power (P := P) (w := w) (base := base) T 
  have h_size := all_size (P := P) (w := w) (base := base) T h_ways h_power
  have h_fits := all_fits (P := P) (w := w) (base := base) T (fun n => h_size (n+1))
  have h_single := ok_single (P := P) (w := w) (base := base) T h_draw
  have h_any_sort := all_any_sort (P := P) (w := w) (base := base) T h_draw h_single
  have h_sort := ok_sort (P := P) (w := w) (base := base) T h_draw (h_weight 10) (h_fits 10) (h_any_sort 3)
  have h_factorial := ok_factorial (P := P) (w := w) (base := base) T 
  have h_listings := ok_listings (P := P) (w := w) (base := base) T h_factorial
  have h_begin := ok_begin (P := P) (w := w) (base := base) T 
  have h_law := ok_law (P := P) (w := w) (base := base) T h_like h_at h_p_count_at h_shuffled h_of h_draw h_greatest h_by_sum h_gathered (h_listed 10) h_marks h_sort h_listings h_even h_p_most_even h_begin
  exact h_law
theorem law_facts {P : Program} {w : World} {K : PySem.W.Frag} {h : Heap} {mg : Str → Option Value} {f : Addr} (X : K.In h) (G : h.Ns mainGlobals mg) (hfa : mg ("law" : Str) = some (.ref f)) (c : He.SaysD fa fn K) :
    ∃ fd : FuncData, (∀ (s : Shared) (v : Value), BindsTo s fd ⟨[v], []⟩ [("_law_script", v)]) ∧ ∀ base : Heap, K.In base → base.Ns mainGlobals mg → FnG P w K mg base 50 f fd ["_law_script"] (sp_law K) := by
  have T : Tx K mg h := ⟨X, G, c⟩
  have e := hfa.symm.trans (He.glo_ok X G (c.fact 60 (f := .glo "law") rfl))
  cases e
  obtain ⟨fd, F⟩ := T.c.def_ 60 (d := d_law) rfl
  have F : FnP K "law" s_law (He.ga K "law") fd := F
  have b := FunD.bindsA (ps := ["_law_script"]) F fun _ _ _ _ _ _ us hl => match us, hl with | [_], _ => rfl
  refine ⟨fd, fun s v => b s [v] rfl, fun base _ _ => ?_⟩
  obtain ⟨⟨fd', o, _, oc, od, osl, lk⟩, _, _⟩ := law_ok (P := P) (w := w) (base := base) T
  obtain ⟨oc2, od2, dV, kV, doc, pm, an, cdv, ct, osl2, _, lk2, _⟩ := F.ex
  have ee : fd' = fd := by
    have := lk.symm.trans lk2
    injection this with this
    injection this with _ _ this
    injection this
  rw [← ee]
  exact o
end ME
end
section
open PySem PySem.W PySem.Calls PyProof.Rows
set_option Elab.async false
set_option linter.all false
set_option maxRecDepth 100000 in
set_option maxHeartbeats 8000000 in
theorem PySem.Challenge.cw_unithouse_k26_whole_most_even_holds : PySem.Challenge.rw_unithouse_k26_whole_most_even.Holds := by
  w_on; o_law
  refine HandSHeadRun.head_any (r := OpenLaw.row PySem.Challenge.rw_unithouse_k26_whole_most_even) (q := view (OpenLaw.row PySem.Challenge.rw_unithouse_k26_whole_most_even).prog [78]) (H := ME.hk) (ob := ME.ob) (M := 6000) (loose := ME.loose) (d := HandSHeadRun.topDef (OpenLaw.row PySem.Challenge.rw_unithouse_k26_whole_most_even).prog 78) (kwd := []) ME.ob_eq
    (by kernel_rfl) (fun s => by kernel_rfl) ME.run (by kernel_rfl) (by kernel_rfl) (by kernel_rfl) (by rfl) (by first | assumption | decide +kernel) (by decide +kernel) ⟨rfl, rfl, rfl, rfl, rfl, by decide +kernel⟩ ?hw ?hc
  case hw => w_witness2
  case hc =>
    refine ME.walk_G (l := PySem.Challenge.rw_unithouse_k26_whole_most_even) (n := 63) (k := 50) (x := "_law_script") rfl (by decide) (by kernel_rfl) ⟨rfl, by decide, by decide⟩ ?F
    intro w mg fa h Y G hmg0
    obtain ⟨K, KX, c⟩ := Y
    have hmg : mg ("law" : PySem.Str) = some (.ref fa) := by
      have e : (HandSHeadRun.topDef (OpenLaw.row PySem.Challenge.rw_unithouse_k26_whole_most_even).prog 78).name = ("law" : PySem.Str) := by kernel_rfl
      rw [← e]
      exact hmg0
    obtain ⟨fd, hb, hF⟩ := ME.law_facts (P := (PySem.Challenge.rw_unithouse_k26_whole_most_even).prog) (w := w) KX G hmg c
    exact ⟨K, fd, ME.sp_law K, KX, hb, fun H a ns hl hS => ⟨a, ns, rfl, hS, hl, fun _ => rfl⟩, hF⟩
end
