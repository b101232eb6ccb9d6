import PyProof.Rows.All
import Wide.All
import OpenK.AllK
import Wide.FinOn
import KE.KStateDown
import HandS.Words
import HandS.Defaults
import HandS.HeadHook4
import HandS.HeadWalk
import HandS.Head2
import HandS.ForMost
import HandS.Lambda
import HandS.AnyAll
import HandS.Wide
import HandS.Deep
import HandS.TupAny
import HandS.Style
import HandS.Star
import HandS.TupLe
import HandS.TupMul
import HandS.Flow
import HandS.NoneIn
import HandS.Zip
import KE.KTupSum
import HandS.SortKw
import HandS.IsInst
import HandS.TupSets
import KE.KRevSl
import HandS.Conv
import HandS.Iter
import PyProof.FactsGen
import HandS.SortRule
import HandS.SortInts
import PyProof.Rows.CallKw2
import KE.KSortKey
import HandS.More
import PySem.Challenge.RW_timesthrough_k82_rows_led_to_points_and
set_option Elab.async false
set_option linter.all false
set_option maxRecDepth 100000
set_option maxHeartbeats 0
namespace K82R
open PySem PySem.Spec PyProof.Rows L2
def topS (i : Nat) : Stmt := PySem.Challenge.pw_timesthrough_k82_rows_led_to_points_and.main.body.getD i (.Pass ⟨0, 0, 0, 0⟩)
def names0 : List PySem.Str := [("ThroughError" : PySem.Str), ("InvalidRow" : PySem.Str), ("InvalidWord" : PySem.Str), ("InvalidPoints" : PySem.Str), ("InvalidNumber" : PySem.Str), ("TooMany" : PySem.Str), ("LEAST_PRIME" : PySem.Str), ("MOST_PRIME" : PySem.Str), ("HUNDRED_DIGITS" : PySem.Str), ("is_whole" : PySem.Str), ("is_integer" : PySem.Str), ("is_within" : PySem.Str), ("is_prime_in" : PySem.Str), ("require_prime" : PySem.Str), ("inverse_of" : PySem.Str), ("times_rest" : PySem.Str), ("less_times" : PySem.Str), ("first_rest" : PySem.Str), ("reduced_in" : PySem.Str), ("rank_in" : PySem.Str), ("MAX_POINTS" : PySem.Str), ("LEAST_POINTS_TOLD" : PySem.Str), ("is_point_in" : PySem.Str), ("are_points_in" : PySem.Str), ("require_points" : PySem.Str), ("LEAST_POINTS" : PySem.Str), ("MOST_POINTS" : PySem.Str), ("points_of" : PySem.Str), ("is_row_in" : PySem.Str), ("require_row" : PySem.Str)]
def names1 : List PySem.Str := [("product_in" : PySem.Str), ("square_in" : PySem.Str), ("with_cubic_in" : PySem.Str), ("counting_in" : PySem.Str), ("MAX_DEGREE" : PySem.Str), ("MAX_CONDITIONS" : PySem.Str), ("exponents_of" : PySem.Str), ("rest_powers" : PySem.Str), ("binomial_rows" : PySem.Str), ("other_places" : PySem.Str), ("around_row" : PySem.Str), ("tables_at" : PySem.Str), ("conditions_in" : PySem.Str), ("count_at_in" : PySem.Str), ("require_asked" : PySem.Str), ("MAX_WORD" : PySem.Str), ("TOO_LONG" : PySem.Str), ("MOST_FIGURES" : PySem.Str), ("SWAP" : PySem.Str), ("TURN" : PySem.Str), ("SIZES" : PySem.Str), ("is_index_below" : PySem.Str), ("is_move_in" : PySem.Str), ("is_word_in" : PySem.Str), ("require_word" : PySem.Str), ("is_passable" : PySem.Str), ("require_passable" : PySem.Str), ("swap_in" : PySem.Str), ("turn_in" : PySem.Str), ("moved_once" : PySem.Str)]
def names2 : List PySem.Str := [("moved_in" : PySem.Str), ("moved" : PySem.Str), ("FEWEST" : PySem.Str), ("MOST_STEPS" : PySem.Str), ("MOST_BOUNDED" : PySem.Str), ("SQUARE_DEGREE" : PySem.Str), ("require_many" : PySem.Str), ("greatest_three" : PySem.Str), ("is_triple_above" : PySem.Str), ("clipped" : PySem.Str), ("standard_end" : PySem.Str), ("lower_of" : PySem.Str), ("is_barred_in" : PySem.Str), ("upper_of" : PySem.Str), ("walk_to_point" : PySem.Str), ("is_row_of_point" : PySem.Str), ("require_bounded" : PySem.Str), ("is_square_barred" : PySem.Str), ("row_above" : PySem.Str), ("bounds" : PySem.Str), ("is_led_to_point" : PySem.Str), ("word_to_point" : PySem.Str), ("_law_dice" : PySem.Str), ("_law_roll" : PySem.Str), ("_law_one_of" : PySem.Str), ("_law_mixed" : PySem.Str), ("_law_times" : PySem.Str), ("_law_cubic" : PySem.Str), ("_law_point_row" : PySem.Str), ("_law_small_row" : PySem.Str)]
def names3 : List PySem.Str := [("_law_word" : PySem.Str), ("_law_move" : PySem.Str), ("_law_moved" : PySem.Str), ("_law_prime" : PySem.Str), ("_law_back" : PySem.Str), ("_law_normal" : PySem.Str), ("_law_points" : PySem.Str), ("_law_is_point_row" : PySem.Str), ("_law_leads" : PySem.Str), ("_law_told_right" : PySem.Str), ("_law_false_ones" : PySem.Str), ("_law_squares_right" : PySem.Str), ("_law_cell_right" : PySem.Str)]
def names : List PySem.Str := names0 ++ names1 ++ names2 ++ names3
def d_is_whole : He.DefD := ⟨("is_whole", none), "is_whole", "is_whole", defArgs (topS 11), defBody (topS 11), defScope (topS 11), [], []⟩
def d_is_integer : He.DefD := ⟨("is_integer", none), "is_integer", "is_integer", defArgs (topS 12), defBody (topS 12), defScope (topS 12), [], []⟩
def d_is_within : He.DefD := ⟨("is_within", none), "is_within", "is_within", defArgs (topS 13), defBody (topS 13), defScope (topS 13), [], []⟩
def d_is_prime_in : He.DefD := ⟨("is_prime_in", none), "is_prime_in", "is_prime_in", defArgs (topS 14), defBody (topS 14), defScope (topS 14), [], []⟩
def d_require_prime : He.DefD := ⟨("require_prime", none), "require_prime", "require_prime", defArgs (topS 15), defBody (topS 15), defScope (topS 15), [], []⟩
def d_is_point_in : He.DefD := ⟨("is_point_in", none), "is_point_in", "is_point_in", defArgs (topS 25), defBody (topS 25), defScope (topS 25), [], []⟩
def d_are_points_in : He.DefD := ⟨("are_points_in", none), "are_points_in", "are_points_in", defArgs (topS 26), defBody (topS 26), defScope (topS 26), [], []⟩
def d_require_points : He.DefD := ⟨("require_points", none), "require_points", "require_points", defArgs (topS 27), defBody (topS 27), defScope (topS 27), [], []⟩
def d_points_of : He.DefD := ⟨("points_of", none), "points_of", "points_of", defArgs (topS 31), defBody (topS 31), defScope (topS 31), [], []⟩
def d_is_row_in : He.DefD := ⟨("is_row_in", none), "is_row_in", "is_row_in", defArgs (topS 32), defBody (topS 32), defScope (topS 32), [], []⟩
def d_require_row : He.DefD := ⟨("require_row", none), "require_row", "require_row", defArgs (topS 33), defBody (topS 33), defScope (topS 33), [.int 3, .int 16], []⟩
def d_product_in : He.DefD := ⟨("product_in", none), "product_in", "product_in", defArgs (topS 34), defBody (topS 34), defScope (topS 34), [], []⟩
def d_square_in : He.DefD := ⟨("square_in", none), "square_in", "square_in", defArgs (topS 35), defBody (topS 35), defScope (topS 35), [], []⟩
def d_with_cubic_in : He.DefD := ⟨("with_cubic_in", none), "with_cubic_in", "with_cubic_in", defArgs (topS 36), defBody (topS 36), defScope (topS 36), [], []⟩
def d_counting_in : He.DefD := ⟨("counting_in", none), "counting_in", "counting_in", defArgs (topS 37), defBody (topS 37), defScope (topS 37), [], []⟩
def d_is_index_below : He.DefD := ⟨("is_index_below", none), "is_index_below", "is_index_below", defArgs (topS 57), defBody (topS 57), defScope (topS 57), [], []⟩
def d_is_move_in : He.DefD := ⟨("is_move_in", none), "is_move_in", "is_move_in", defArgs (topS 58), defBody (topS 58), defScope (topS 58), [], []⟩
def d_is_word_in : He.DefD := ⟨("is_word_in", none), "is_word_in", "is_word_in", defArgs (topS 59), defBody (topS 59), defScope (topS 59), [], []⟩
def d_require_word : He.DefD := ⟨("require_word", none), "require_word", "require_word", defArgs (topS 60), defBody (topS 60), defScope (topS 60), [], []⟩
def d_is_passable : He.DefD := ⟨("is_passable", none), "is_passable", "is_passable", defArgs (topS 61), defBody (topS 61), defScope (topS 61), [], []⟩
def d_require_passable : He.DefD := ⟨("require_passable", none), "require_passable", "require_passable", defArgs (topS 62), defBody (topS 62), defScope (topS 62), [], []⟩
def d_turn_in : He.DefD := ⟨("turn_in", none), "turn_in", "turn_in", defArgs (topS 64), defBody (topS 64), defScope (topS 64), [], []⟩
def d_moved_once : He.DefD := ⟨("moved_once", none), "moved_once", "moved_once", defArgs (topS 65), defBody (topS 65), defScope (topS 65), [], []⟩
def d_moved_in : He.DefD := ⟨("moved_in", none), "moved_in", "moved_in", defArgs (topS 66), defBody (topS 66), defScope (topS 66), [], []⟩
def d_moved : He.DefD := ⟨("moved", none), "moved", "moved", defArgs (topS 67), defBody (topS 67), defScope (topS 67), [], []⟩
def d_require_many : He.DefD := ⟨("require_many", none), "require_many", "require_many", defArgs (topS 73), defBody (topS 73), defScope (topS 73), [], []⟩
def d_greatest_three : He.DefD := ⟨("greatest_three", none), "greatest_three", "greatest_three", defArgs (topS 74), defBody (topS 74), defScope (topS 74), [], []⟩
def d_is_triple_above : He.DefD := ⟨("is_triple_above", none), "is_triple_above", "is_triple_above", defArgs (topS 75), defBody (topS 75), defScope (topS 75), [], []⟩
def d_clipped : He.DefD := ⟨("clipped", none), "clipped", "clipped", defArgs (topS 76), defBody (topS 76), defScope (topS 76), [], []⟩
def d_standard_end : He.DefD := ⟨("standard_end", none), "standard_end", "standard_end", defArgs (topS 77), defBody (topS 77), defScope (topS 77), [], []⟩
def d_lower_of : He.DefD := ⟨("lower_of", none), "lower_of", "lower_of", defArgs (topS 78), defBody (topS 78), defScope (topS 78), [], []⟩
def d_is_barred_in : He.DefD := ⟨("is_barred_in", none), "is_barred_in", "is_barred_in", defArgs (topS 79), defBody (topS 79), defScope (topS 79), [], []⟩
def d_upper_of : He.DefD := ⟨("upper_of", none), "upper_of", "upper_of", defArgs (topS 80), defBody (topS 80), defScope (topS 80), [], []⟩
def d_walk_to_point : He.DefD := ⟨("walk_to_point", none), "walk_to_point", "walk_to_point", defArgs (topS 81), defBody (topS 81), defScope (topS 81), [], []⟩
def d_is_row_of_point : He.DefD := ⟨("is_row_of_point", none), "is_row_of_point", "is_row_of_point", defArgs (topS 82), defBody (topS 82), defScope (topS 82), [], []⟩
def d_require_bounded : He.DefD := ⟨("require_bounded", none), "require_bounded", "require_bounded", defArgs (topS 83), defBody (topS 83), defScope (topS 83), [], []⟩
def d_is_square_barred : He.DefD := ⟨("is_square_barred", none), "is_square_barred", "is_square_barred", defArgs (topS 84), defBody (topS 84), defScope (topS 84), [], []⟩
def d_row_above : He.DefD := ⟨("row_above", none), "row_above", "row_above", defArgs (topS 85), defBody (topS 85), defScope (topS 85), [], []⟩
def d_bounds : He.DefD := ⟨("bounds", none), "bounds", "bounds", defArgs (topS 86), defBody (topS 86), defScope (topS 86), [], []⟩
def d_is_led_to_point : He.DefD := ⟨("is_led_to_point", none), "is_led_to_point", "is_led_to_point", defArgs (topS 87), defBody (topS 87), defScope (topS 87), [], []⟩
def d_word_to_point : He.DefD := ⟨("word_to_point", none), "word_to_point", "word_to_point", defArgs (topS 88), defBody (topS 88), defScope (topS 88), [], []⟩
def d__law_dice : He.DefD := ⟨("_law_dice", none), "_law_dice", "_law_dice", defArgs (topS 90), defBody (topS 90), defScope (topS 90), [], []⟩
def d__law_roll : He.DefD := ⟨("_law_roll", none), "_law_roll", "_law_roll", defArgs (topS 91), defBody (topS 91), defScope (topS 91), [], []⟩
def d__law_one_of : He.DefD := ⟨("_law_one_of", none), "_law_one_of", "_law_one_of", defArgs (topS 92), defBody (topS 92), defScope (topS 92), [], []⟩
def d__law_mixed : He.DefD := ⟨("_law_mixed", none), "_law_mixed", "_law_mixed", defArgs (topS 93), defBody (topS 93), defScope (topS 93), [], []⟩
def d__law_times : He.DefD := ⟨("_law_times", none), "_law_times", "_law_times", defArgs (topS 94), defBody (topS 94), defScope (topS 94), [], []⟩
def d__law_cubic : He.DefD := ⟨("_law_cubic", none), "_law_cubic", "_law_cubic", defArgs (topS 95), defBody (topS 95), defScope (topS 95), [], []⟩
def d__law_point_row : He.DefD := ⟨("_law_point_row", none), "_law_point_row", "_law_point_row", defArgs (topS 96), defBody (topS 96), defScope (topS 96), [], []⟩
def d__law_small_row : He.DefD := ⟨("_law_small_row", none), "_law_small_row", "_law_small_row", defArgs (topS 97), defBody (topS 97), defScope (topS 97), [], []⟩
def d__law_word : He.DefD := ⟨("_law_word", none), "_law_word", "_law_word", defArgs (topS 98), defBody (topS 98), defScope (topS 98), [], []⟩
def d__law_move : He.DefD := ⟨("_law_move", none), "_law_move", "_law_move", defArgs (topS 99), defBody (topS 99), defScope (topS 99), [], []⟩
def d__law_moved : He.DefD := ⟨("_law_moved", none), "_law_moved", "_law_moved", defArgs (topS 100), defBody (topS 100), defScope (topS 100), [], []⟩
def d__law_prime : He.DefD := ⟨("_law_prime", none), "_law_prime", "_law_prime", defArgs (topS 101), defBody (topS 101), defScope (topS 101), [], []⟩
def d__law_back : He.DefD := ⟨("_law_back", none), "_law_back", "_law_back", defArgs (topS 102), defBody (topS 102), defScope (topS 102), [], []⟩
def d__law_normal : He.DefD := ⟨("_law_normal", none), "_law_normal", "_law_normal", defArgs (topS 103), defBody (topS 103), defScope (topS 103), [], []⟩
def d__law_points : He.DefD := ⟨("_law_points", none), "_law_points", "_law_points", defArgs (topS 104), defBody (topS 104), defScope (topS 104), [], []⟩
def d__law_is_point_row : He.DefD := ⟨("_law_is_point_row", none), "_law_is_point_row", "_law_is_point_row", defArgs (topS 105), defBody (topS 105), defScope (topS 105), [], []⟩
def d__law_leads : He.DefD := ⟨("_law_leads", none), "_law_leads", "_law_leads", defArgs (topS 106), defBody (topS 106), defScope (topS 106), [], []⟩
def d__law_told_right : He.DefD := ⟨("_law_told_right", none), "_law_told_right", "_law_told_right", defArgs (topS 107), defBody (topS 107), defScope (topS 107), [], []⟩
def d__law_false_ones : He.DefD := ⟨("_law_false_ones", none), "_law_false_ones", "_law_false_ones", defArgs (topS 108), defBody (topS 108), defScope (topS 108), [], []⟩
def d__law_squares_right : He.DefD := ⟨("_law_squares_right", none), "_law_squares_right", "_law_squares_right", defArgs (topS 109), defBody (topS 109), defScope (topS 109), [], []⟩
def d__law_cell_right : He.DefD := ⟨("_law_cell_right", none), "_law_cell_right", "_law_cell_right", defArgs (topS 110), defBody (topS 110), defScope (topS 110), [], []⟩
def d_law : He.DefD := ⟨("law", none), "law", "law", defArgs (topS 111), defBody (topS 111), defScope (topS 111), [], []⟩
def fn0 : List He.DefD := [d_is_whole, d_is_integer, d_is_within, d_is_prime_in, d_require_prime, d_is_point_in, d_are_points_in, d_require_points, d_points_of, d_is_row_in, d_require_row, d_product_in, d_square_in, d_with_cubic_in, d_counting_in, d_is_index_below, d_is_move_in, d_is_word_in, d_require_word, d_is_passable, d_require_passable, d_turn_in, d_moved_once, d_moved_in, d_moved, d_require_many, d_greatest_three, d_is_triple_above, d_clipped, d_standard_end]
def fn1 : List He.DefD := [d_lower_of, d_is_barred_in, d_upper_of, d_walk_to_point, d_is_row_of_point, d_require_bounded, d_is_square_barred, d_row_above, d_bounds, d_is_led_to_point, d_word_to_point, d__law_dice, d__law_roll, d__law_one_of, d__law_mixed, d__law_times, d__law_cubic, d__law_point_row, d__law_small_row, d__law_word, d__law_move, d__law_moved, d__law_prime, d__law_back, d__law_normal, d__law_points, d__law_is_point_row, d__law_leads, d__law_told_right, d__law_false_ones]
def fn2 : List He.DefD := [d__law_squares_right, d__law_cell_right, d_law]
def fn : List He.DefD := fn0 ++ fn1 ++ fn2
def fa0 : List He.Fa := [.glo "is_whole", .glo "is_integer", .glo "is_within", .glo "is_prime_in", .glo "require_prime", .glo "is_point_in", .glo "are_points_in", .glo "require_points", .glo "points_of", .glo "is_row_in", .glo "require_row", .glo "product_in", .glo "square_in", .glo "with_cubic_in", .glo "counting_in", .glo "is_index_below", .glo "is_move_in", .glo "is_word_in", .glo "require_word", .glo "is_passable", .glo "require_passable", .glo "turn_in", .glo "moved_once", .glo "moved_in", .glo "moved", .glo "require_many", .glo "greatest_three", .glo "is_triple_above", .glo "clipped", .glo "standard_end"]
def fa1 : List He.Fa := [.glo "lower_of", .glo "is_barred_in", .glo "upper_of", .glo "walk_to_point", .glo "is_row_of_point", .glo "require_bounded", .glo "is_square_barred", .glo "row_above", .glo "bounds", .glo "is_led_to_point", .glo "word_to_point", .glo "_law_dice", .glo "_law_roll", .glo "_law_one_of", .glo "_law_mixed", .glo "_law_times", .glo "_law_cubic", .glo "_law_point_row", .glo "_law_small_row", .glo "_law_word", .glo "_law_move", .glo "_law_moved", .glo "_law_prime", .glo "_law_back", .glo "_law_normal", .glo "_law_points", .glo "_law_is_point_row", .glo "_law_leads", .glo "_law_told_right", .glo "_law_false_ones"]
def fa2 : List He.Fa := [.glo "_law_squares_right", .glo "_law_cell_right", .glo "law", .free "int", .free "isinstance", .free "bool", .free "abs", .free "range", .free "all", .free "tuple", .free "len", .free "next", .free "set", .free "zip", .free "sum", .free "str", .free "list", .free "sorted", .free "max", .free "min", .int "HUNDRED_DIGITS" (10 ^ 100), .int "MOST_PRIME" 65521, .int "LEAST_PRIME" 5, .int "LEAST_POINTS_TOLD" 3, .int "MAX_POINTS" 16, .int "LEAST_POINTS" 3, .int "MOST_POINTS" 16, .int "MAX_WORD" 2000, .int "TOO_LONG" (10 ^ 200), .str "SWAP" "swap"]
def fa3 : List He.Fa := [.int "MOST_BOUNDED" 16, .int "FEWEST" 10, .int "MOST_STEPS" 2000, .int "SQUARE_DEGREE" 4, .glo "SIZES"]
def fa : List He.Fa := fa0 ++ fa1 ++ fa2 ++ fa3
def ts : List He.Tab := [(fun K => He.ga K "SIZES", [("swap" : PySem.Str), ("turn" : PySem.Str)])]
def tf : List He.Defn := [("is_point_in", none), ("greatest_three", none)]
def ex (K : PySem.W.Frag) : Bool := He.valsB K (He.ga K "SIZES") [("swap", .int 2), ("turn", .int 3)] && !((He.cT K ("is_point_in", none)).2 == (He.cT K ("greatest_three", none)).2)
abbrev R : PySem.W.OpenRow := PySem.W.OpenLaw.row PySem.Challenge.rw_timesthrough_k82_rows_led_to_points_and
abbrev hkX : PySem.W.Hook := He.hookX 2 fa fn ts tf ex
def ob (s : PySem.W.SharedT) : He.AlX := He.obsX 2 fa fn ts tf ex (HandSHeadRun.getT s)
theorem ob_eq (s : PySem.W.SharedT) : ob s = hkX.obs s.abs := He.obsX_eq (HandSHeadRun.getT_eq s)
open PySem.W PySem.Calls in
theorem r1F (w : World) (os : OsState) : (HandSHeadRun.endF (HandSHeadRun.stepQ (HandSHeadRun.denQ HandSHeadRun.tabQ) R.prog (w.withFollow "special-get-raises" false)) 6000 R.prog (w.withFollow "special-get-raises" false) os).map (fun s => HandSHeadRun.looksF R.prog (boot_heap (w.withFollow "special-get-raises" false).params) s.abs) = some true := by kernel_rfl
open PySem.W PySem.Calls in
theorem r2F (w : World) (os : OsState) : (HandSHeadRun.endF (HandSHeadRun.stepQ (HandSHeadRun.denQ HandSHeadRun.tabQ) R.prog (w.withFollow "special-get-raises" false)) 6000 R.prog (w.withFollow "special-get-raises" false) os).map (fun s => HandSHeadRun.seenQ (view R.prog [111]) names (importedModules R.prog.main.body) (fun s => xlAt (view R.prog [111]) [] s && recOk R.toRowW.records s) s.abs) = some (openGood (view R.prog [111]) names) := by kernel_rfl
theorem r3F (w : World) (os : OsState) : (HandSHeadRun.endF (HandSHeadRun.stepQ (HandSHeadRun.denQ HandSHeadRun.tabQ) R.prog (w.withFollow "special-get-raises" false)) 6000 R.prog (w.withFollow "special-get-raises" false) os).map ob = some (hkX.val (w.withFollow "special-get-raises" false)) := by kernel_rfl
open PySem.W PySem.Calls in
theorem r1T (w : World) (os : OsState) : (HandSHeadRun.endF (HandSHeadRun.stepQ (HandSHeadRun.denQ HandSHeadRun.tabQ) R.prog (w.withFollow "special-get-raises" true)) 6000 R.prog (w.withFollow "special-get-raises" true) os).map (fun s => HandSHeadRun.looksF R.prog (boot_heap (w.withFollow "special-get-raises" true).params) s.abs) = some true := by kernel_rfl
open PySem.W PySem.Calls in
theorem r2T (w : World) (os : OsState) : (HandSHeadRun.endF (HandSHeadRun.stepQ (HandSHeadRun.denQ HandSHeadRun.tabQ) R.prog (w.withFollow "special-get-raises" true)) 6000 R.prog (w.withFollow "special-get-raises" true) os).map (fun s => HandSHeadRun.seenQ (view R.prog [111]) names (importedModules R.prog.main.body) (fun s => xlAt (view R.prog [111]) [] s && recOk R.toRowW.records s) s.abs) = some (openGood (view R.prog [111]) names) := by kernel_rfl
theorem r3T (w : World) (os : OsState) : (HandSHeadRun.endF (HandSHeadRun.stepQ (HandSHeadRun.denQ HandSHeadRun.tabQ) R.prog (w.withFollow "special-get-raises" true)) 6000 R.prog (w.withFollow "special-get-raises" true) os).map ob = some (hkX.val (w.withFollow "special-get-raises" true)) := by kernel_rfl
theorem map3 {α β γ δ : Type} {x : Option α} {f : α → β} {g : α → γ} {h : α → δ} {a : β} {b : γ} {c : δ} (h1 : x.map f = some a) (h2 : x.map g = some b) (h3 : x.map h = some c) : x.map (fun s => (f s, g s, h s)) = some (a, b, c) := by
  cases x with
  | none => cases h1
  | some s => rw [← Option.some.inj h1, ← Option.some.inj h2, ← Option.some.inj h3]; rfl
theorem runF (w : World) : HandSHeadRun.RunEq R (PySem.W.view R.prog [111]) hkX ob 6000 names (w.withFollow "special-get-raises" false) := fun os => map3 (r1F w os) (r2F w os) (r3F w os)
theorem runT (w : World) : HandSHeadRun.RunEq R (PySem.W.view R.prog [111]) hkX ob 6000 names (w.withFollow "special-get-raises" true) := fun os => map3 (r1T w os) (r2T w os) (r3T w os)
theorem run (w : World) : HandSHeadRun.RunEq R (PySem.W.view R.prog [111]) hkX ob 6000 names w := PySem.W.byRow2 "special-get-raises" runF runT w
end K82R
section
open PySem PySem.W PySem.Calls PyProof.Rows
theorem K82R.head (F : ∀ (w : World) (mg : PySem.Str → Option Value) (fa : Addr) (h : Heap) (K : PySem.W.Frag), K.In h → He.SaysX K82R.fa K82R.fn K82R.ts K82R.tf K82R.ex w h K → h.Ns mainGlobals mg → mg ("law" : PySem.Str) = some (.ref fa) → LamX.LawAtS PySem.Challenge.rw_timesthrough_k82_rows_led_to_points_and w K L2.CX0 9 63 "script" mg fa h) : PySem.Challenge.rw_timesthrough_k82_rows_led_to_points_and.Holds := by
  w_on; o_law
  refine HandSHeadRun.head_any (r := OpenLaw.row PySem.Challenge.rw_timesthrough_k82_rows_led_to_points_and) (q := view (OpenLaw.row PySem.Challenge.rw_timesthrough_k82_rows_led_to_points_and).prog [111]) (H := K82R.hkX) (ob := K82R.ob) (M := 6000) (loose := K82R.names) (d := HandSHeadRun.topDef (OpenLaw.row PySem.Challenge.rw_timesthrough_k82_rows_led_to_points_and).prog 111) (kwd := []) K82R.ob_eq
    (by kernel_rfl) (fun s => by kernel_rfl) K82R.run (by kernel_rfl) (by kernel_rfl) (by kernel_rfl) (by rfl) (by first | assumption | decide +kernel) (by decide +kernel) ⟨rfl, rfl, rfl, rfl, rfl, by decide +kernel⟩ ?hw ?hc
  case hw => w_witness2
  case hc =>
    refine LamX.walk_ofTsE (l := PySem.Challenge.rw_timesthrough_k82_rows_led_to_points_and) (n := 63) (k := 9) (x := "script") (CX := fun _ => L2.CX0) rfl (by decide) (by kernel_rfl) ⟨rfl, by decide, by decide⟩ ?F (fun _ _ _ _ _ z => z)
    intro w mg fa h Y G hmg0
    obtain ⟨K, KX, c⟩ := Y
    have hmg : mg ("law" : PySem.Str) = some (.ref fa) := by
      have e : (HandSHeadRun.topDef (OpenLaw.row PySem.Challenge.rw_timesthrough_k82_rows_led_to_points_and).prog 111).name = ("law" : PySem.Str) := by kernel_rfl
      rw [← e]
      exact hmg0
    exact ⟨K, KX, F w mg fa h K KX c G hmg⟩
end

set_option Elab.async false
set_option linter.all false
set_option maxRecDepth 100000
set_option maxHeartbeats 2000000
namespace L3
open PySem PySem.Spec PyProof.Rows L2

/-- plain data -/
inductive D where
  | non | bl (b : Bool) | int (i : Int) | str (x : Str) | ty (n : String) | fn (a : Addr)
  | tup (l : List D) | lst (l : List D) | scr (l : List D)
  deriving Inhabited

/-- a list that is read only: frozen, no longer changed, or of the module -/
def ScL (K : PySem.W.Frag) (F : Addr → Prop) (H : Hp) (a : Addr) (vs : List V) : Prop :=
  (∃ o, H a = some (.frz o (.lst vs))) ∨ (F a ∧ H a = some (.lst vs)) ∨
    ∃ (o : Obj) (its : Array Value) (n : Nat), K.lookup a = some o ∧ o.cls = .type "list" ∧ o.dict = none ∧ o.data = .seq its n ∧ its.size ≤ sizeLine ∧ Vals vs its.toList
theorem ScL.sql {K : PySem.W.Frag} {F : Addr → Prop} {H : Hp} {a : Addr} {vs : List V} (h : ScL K F H a vs) : SqL K H a vs := by
  rcases h with ⟨o, h⟩ | ⟨_, h⟩ | h
  · exact .inl (.inr ⟨o, h⟩)
  · exact .inl (.inl h)
  · exact .inr h
theorem ScL.up {K : PySem.W.Frag} {F F' : Addr → Prop} {H : Hp} {a : Addr} {vs : List V} (h : ScL K F H a vs) (hf : ∀ b, F b → F' b) : ScL K F' H a vs := by
  rcases h with h | ⟨f, h⟩ | h
  · exact .inl h
  · exact .inr (.inl ⟨hf _ f, h⟩)
  · exact .inr (.inr h)
mutual
/-- a value that stands for data; F: the lists that no longer change -/
inductive Rep (K : PySem.W.Frag) (F : Addr → Prop) (H : Hp) : V → D → Prop
  | non : Rep K F H .non .non
  | bl (b : Bool) : Rep K F H (.bl b) (.bl b)
  | int (i : Int) : Rep K F H (.int i) (.int i)
  | str (x : Str) : Rep K F H (.str x) (.str x)
  | ty (n : String) : Rep K F H (.ty n) (.ty n)
  | fn (a : Addr) : Rep K F H (.ref a) (.fn a)
  | tup {a : Addr} {vs : List V} {ds : List D} : SqT K H a vs → Reps K F H vs ds → Rep K F H (.ref a) (.tup ds)
  | lst {a : Addr} {vs : List V} {ds : List D} : F a → H a = some (.lst vs) → Reps K F H vs ds → Rep K F H (.ref a) (.lst ds)
  | scr {a : Addr} {vs : List V} {ds : List D} : ScL K F H a vs → Reps K F H vs ds → Rep K F H (.ref a) (.scr ds)
inductive Reps (K : PySem.W.Frag) (F : Addr → Prop) (H : Hp) : List V → List D → Prop
  | nil : Reps K F H [] []
  | cons {v : V} {vs : List V} {d : D} {ds : List D} : Rep K F H v d → Reps K F H vs ds → Reps K F H (v :: vs) (d :: ds)
end

/-- a slot of a def: nothing known, data, or a list of the def's own that it may change -/
inductive Slot where
  | un | dat (d : D) | own (l : List D)
  deriving Inhabited
abbrev Rho := List Slot
/-- a value in flight: data, the own list of a slot, a list that nobody else knows -/
inductive W where
  | dat (d : D) | ref (i : Nat) | new (l : List D)
  deriving Inhabited

/-- tables of code objects: with a name, all of them bear it -/
def Tbs (T : List (Addr × Option Str)) (H : Hp) : Prop := ∀ p ∈ T, match p.2 with
  | some q => LamX.TabS H p.1 q
  | none => GxR.TabG H p.1
theorem tabG_ext {H H' : Hp} {P : Addr} (t : GxR.TabG H P) (e : ∀ b o, H b = some o → H' b = some o) : GxR.TabG H' P := let ⟨ps, h1, h2⟩ := t; ⟨ps, e _ _ h1, h2⟩
theorem Tbs.ext {T : List (Addr × Option Str)} {H H' : Hp} (t : Tbs T H) (e : ∀ b o, H b = some o → H' b = some o) : Tbs T H' := fun p hp => by
  have h := t p hp
  revert h
  cases p.2 with
  | none => exact fun h => tabG_ext h e
  | some q => exact fun h => LamX.TabS.ext h e

/-- the ground of a def's run: written part, tables of code objects, heap and frozen lists at the entry, the list that it may change -/
structure Bg where
  K : PySem.W.Frag
  T : List (Addr × Option Str)
  H0 : Hp
  F0 : Addr → Prop
  M : Option Addr

def OwnA (ρ : Rho) (σ : L2.St) (b : Addr) : Prop := ∃ (i : Nat) (l : List D), ρ[i]? = some (.own l) ∧ σ[i]? = some (some (.ref b))
def NoTbl (o : HO) : Prop := ∀ ps, o ≠ .tbl ps

structure Ext (O F F' : Addr → Prop) (H H' : Hp) : Prop where
  keep : ∀ b o, H b = some o → ¬ O b → NoTbl o → H' b = some o
  there : ∀ b, H b ≠ none → H' b ≠ none
  up : ∀ b, F b → F' b
  new : ∀ b, F' b → F b ∨ H b = none ∨ O b

structure EnvD (B : Bg) (F : Addr → Prop) (ρ : Rho) (σ : L2.St) (H : Hp) : Prop where
  dat : ∀ (i : Nat) (d : D), ρ[i]? = some (.dat d) → ∃ v, σ[i]? = some (some v) ∧ Rep B.K F H v d
  own : ∀ (i : Nat) (l : List D), ρ[i]? = some (.own l) → ∃ p vs, σ[i]? = some (some (.ref p)) ∧ H p = some (.lst vs) ∧ Reps B.K F H vs l ∧ ¬ F p ∧ (B.H0 p = none ∨ B.M = some p)
  apart : ∀ (i j : Nat) (l l' : List D) (p : Addr), ρ[i]? = some (.own l) → ρ[j]? = some (.own l') → σ[i]? = some (some (.ref p)) → σ[j]? = some (some (.ref p)) → i = j
  len : ρ.length = σ.length
  base : ∀ b o, B.H0 b = some o → B.M ≠ some b → NoTbl o → H b = some o
  there : ∀ b, B.H0 b ≠ none → H b ≠ none
  fz : ∀ b, F b → B.F0 b ∨ B.H0 b = none
  fz0 : ∀ b, B.F0 b → F b
  fh : ∀ b, F b → H b ≠ none
  mp : ∀ p, B.M = some p → σ[0]? = some (some (.ref p)) ∧ ∃ l, ρ[0]? = some (.own l)
  tabs : Tbs B.T H

section
variable {B : Bg} {F F' F'' : Addr → Prop} {ρ ρ' ρ'' : Rho} {σ : L2.St} {H H' H'' Hs Hs' : Hp} {K : PySem.W.Frag}

theorem SqT.keep {O : Addr → Prop} {a : Addr} {vs : List V} (h : SqT K H a vs) (x : Ext O F F' H H') (ho : ∀ b, O b → ∃ l, H b = some (.lst l)) : SqT K H' a vs := by
  rcases h with (h | ⟨o, h⟩) | h
  · refine .inl (.inl (x.keep _ _ h (fun q => ?_) fun ps q => by cases q))
    obtain ⟨l, e⟩ := ho a q
    rw [h] at e; cases e
  · refine .inl (.inr ⟨o, x.keep _ _ h (fun q => ?_) fun ps q => by cases q⟩)
    obtain ⟨l, e⟩ := ho a q
    rw [h] at e; cases e
  · exact .inr h
theorem frz_keep {O : Addr → Prop} {a : Addr} {o : Obj} {u : HO} (h : H a = some (.frz o u)) (x : Ext O F F' H H') (ho : ∀ b, O b → ∃ l, H b = some (.lst l)) : H' a = some (.frz o u) :=
  x.keep _ _ h (fun q => by obtain ⟨l, e⟩ := ho a q; rw [h] at e; cases e) fun ps q => by cases q

theorem ScL.keep {O : Addr → Prop} {a : Addr} {vs : List V} (h : ScL K F H a vs) (x : Ext O F F' H H') (ho : ∀ b, O b → ∃ l, H b = some (.lst l)) (hf : ∀ b, F b → ¬ O b) : ScL K F' H' a vs := by
  rcases h with ⟨o, h⟩ | ⟨f, h⟩ | h
  · exact .inl ⟨o, frz_keep h x ho⟩
  · exact .inr (.inl ⟨x.up _ f, x.keep _ _ h (hf _ f) fun ps q => by cases q⟩)
  · exact .inr (.inr h)
mutual
theorem Rep.keep {O : Addr → Prop} (x : Ext O F F' H H') (ho : ∀ b, O b → ∃ l, H b = some (.lst l)) (hf : ∀ b, F b → ¬ O b) : ∀ (d : D) {v : V}, Rep K F H v d → Rep K F' H' v d
  | .non, _, .non => .non
  | .bl _, _, .bl _ => .bl _
  | .int _, _, .int _ => .int _
  | .str _, _, .str _ => .str _
  | .ty _, _, .ty _ => .ty _
  | .fn _, _, .fn _ => .fn _
  | .tup ds, _, .tup h r => .tup (SqT.keep h x ho) (Reps.keep x ho hf ds r)
  | .lst ds, _, .lst f h r => .lst (x.up _ f) (x.keep _ _ h (hf _ f) fun ps q => by cases q) (Reps.keep x ho hf ds r)
  | .scr ds, _, .scr h r => .scr (ScL.keep h x ho hf) (Reps.keep x ho hf ds r)
theorem Reps.keep {O : Addr → Prop} (x : Ext O F F' H H') (ho : ∀ b, O b → ∃ l, H b = some (.lst l)) (hf : ∀ b, F b → ¬ O b) : ∀ (ds : List D) {vs : List V}, Reps K F H vs ds → Reps K F' H' vs ds
  | [], _, .nil => .nil
  | d :: ds, _, .cons h r => .cons (Rep.keep x ho hf d h) (Reps.keep x ho hf ds r)
end
mutual
theorem Rep.up (hf : ∀ b, F b → F' b) : ∀ (d : D) {v : V}, Rep K F H v d → Rep K F' H v d
  | .non, _, .non => .non
  | .bl _, _, .bl _ => .bl _
  | .int _, _, .int _ => .int _
  | .str _, _, .str _ => .str _
  | .ty _, _, .ty _ => .ty _
  | .fn _, _, .fn _ => .fn _
  | .tup ds, _, .tup h r => .tup h (Reps.up hf ds r)
  | .lst ds, _, .lst f h r => .lst (hf _ f) h (Reps.up hf ds r)
  | .scr ds, _, .scr h r => .scr (h.up hf) (Reps.up hf ds r)
theorem Reps.up (hf : ∀ b, F b → F' b) : ∀ (ds : List D) {vs : List V}, Reps K F H vs ds → Reps K F' H vs ds
  | [], _, .nil => .nil
  | d :: ds, _, .cons h r => .cons (Rep.up hf d h) (Reps.up hf ds r)
end
theorem Reps.length : ∀ {ds : List D} {vs : List V}, Reps K F H vs ds → vs.length = ds.length
  | [], _, .nil => rfl
  | _ :: _, _, .cons _ r => congrArg (· + 1) (Reps.length r)
theorem Reps.get : ∀ {ds : List D} {vs : List V} {i : Nat} {d : D}, Reps K F H vs ds → ds[i]? = some d → ∃ v, vs[i]? = some v ∧ Rep K F H v d
  | [], _, i, _, .nil, h => by simp at h
  | _ :: _, _, 0, _, .cons h _, e => by simp at e; subst e; exact ⟨_, rfl, h⟩
  | _ :: _, _, i + 1, _, .cons _ r, e => by
    obtain ⟨v, h1, h2⟩ := Reps.get (i := i) r (by simpa using e)
    exact ⟨v, by simpa using h1, h2⟩
theorem Reps.getV : ∀ {ds : List D} {vs : List V} {i : Nat} {v : V}, Reps K F H vs ds → vs[i]? = some v → ∃ d, ds[i]? = some d ∧ Rep K F H v d
  | [], _, i, _, .nil, h => by simp at h
  | _ :: _, _, 0, _, .cons h _, e => by simp at e; subst e; exact ⟨_, rfl, h⟩
  | _ :: _, _, i + 1, _, .cons _ r, e => by
    obtain ⟨d, h1, h2⟩ := Reps.getV (i := i) r (by simpa using e)
    exact ⟨d, by simpa using h1, h2⟩
theorem Reps.append : ∀ {ds es : List D} {vs us : List V}, Reps K F H vs ds → Reps K F H us es → Reps K F H (vs ++ us) (ds ++ es)
  | [], _, _, _, .nil, s => s
  | _ :: _, _, _, _, .cons h r, s => .cons h (Reps.append r s)
theorem Reps.take (n : Nat) : ∀ {ds : List D} {vs : List V}, Reps K F H vs ds → Reps K F H (vs.take n) (ds.take n) := by
  induction n with
  | zero => intro ds vs h; simp; exact .nil
  | succ n ih =>
    intro ds vs h
    cases h with
    | nil => simp; exact .nil
    | cons h r => simp; exact .cons h (ih r)
theorem Reps.drop (n : Nat) : ∀ {ds : List D} {vs : List V}, Reps K F H vs ds → Reps K F H (vs.drop n) (ds.drop n) := by
  induction n with
  | zero => intro ds vs h; simpa using h
  | succ n ih =>
    intro ds vs h
    cases h with
    | nil => simp; exact .nil
    | cons h r => simp; exact ih r
theorem Reps.set {v : V} {d : D} (h : Rep K F H v d) : ∀ {ds : List D} {vs : List V} (i : Nat), Reps K F H vs ds → Reps K F H (vs.set i v) (ds.set i d)
  | [], _, _, .nil => .nil
  | _ :: _, _, 0, .cons _ r => .cons h r
  | _ :: _, _, i + 1, .cons q r => .cons q (Reps.set h i r)
theorem Reps.ints : ∀ {ns : List Int} {vs : List V}, Reps K F H vs (ns.map D.int) → vs = ns.map V.int
  | [], _, .nil => rfl
  | _ :: _, _, .cons (.int _) r => by rw [Reps.ints r]; rfl
theorem Reps.ints' : ∀ {ns : List Int}, Reps K F H (ns.map V.int) (ns.map D.int)
  | [] => .nil
  | _ :: _ => .cons (.int _) Reps.ints'
theorem Rep.int_inv {v : V} {i : Int} (h : Rep K F H v (.int i)) : v = .int i := by cases h; rfl
theorem Rep.bl_inv {v : V} {i : Bool} (h : Rep K F H v (.bl i)) : v = .bl i := by cases h; rfl
theorem Rep.str_inv {v : V} {i : Str} (h : Rep K F H v (.str i)) : v = .str i := by cases h; rfl
theorem Rep.non_inv {v : V} (h : Rep K F H v .non) : v = .non := by cases h; rfl

theorem EnvD.ownL (E : EnvD B F ρ σ H) (b : Addr) (h : OwnA ρ σ b) : ∃ l, H b = some (.lst l) := by
  obtain ⟨i, l, h1, h2⟩ := h
  obtain ⟨p, vs, e1, e2, _⟩ := E.own i l h1
  rw [h2] at e1; cases e1
  exact ⟨vs, e2⟩
theorem EnvD.ownF (E : EnvD B F ρ σ H) (b : Addr) (h : F b) : ¬ OwnA ρ σ b := by
  rintro ⟨i, l, h1, h2⟩
  obtain ⟨p, vs, e1, _, _, e3, _⟩ := E.own i l h1
  rw [h2] at e1; cases e1
  exact e3 h

/-- slots that were known stay known -/
def Kn (ρ ρ' : Rho) : Prop := ∀ (i : Nat) (s : Slot), ρ[i]? = some s → s ≠ Slot.un → ∃ s', ρ'[i]? = some s' ∧ s' ≠ Slot.un
theorem Kn.refl : Kn ρ ρ := fun _ s h n => ⟨s, h, n⟩
theorem Kn.trans (a : Kn ρ ρ') (b : Kn ρ' ρ'') : Kn ρ ρ'' := fun i s h n => let ⟨s', h', n'⟩ := a i s h n; b i s' h' n'
/-- a step of a run within a statement: the slots' values stay -/
structure Stp (B : Bg) (σ : L2.St) (F : Addr → Prop) (ρ : Rho) (H : Hp) (F' : Addr → Prop) (ρ' : Rho) (H' : Hp) : Prop where
  env : EnvD B F' ρ' σ H'
  ext : Ext (OwnA ρ σ) F F' H H'
  own : ∀ b, OwnA ρ' σ b → OwnA ρ σ b ∨ H b = none
  kn : Kn ρ ρ'
theorem Ext.refl {O : Addr → Prop} : Ext O F F H H := ⟨fun _ _ h _ _ => h, fun _ h => h, fun _ h => h, fun _ h => .inl h⟩
theorem Stp.refl (E : EnvD B F ρ σ H) : Stp B σ F ρ H F ρ H := ⟨E, .refl, fun _ h => .inl h, .refl⟩
theorem Stp.trans (E : EnvD B F ρ σ H) (a : Stp B σ F ρ H F' ρ' H') (b : Stp B σ F' ρ' H' F'' ρ'' H'') : Stp B σ F ρ H F'' ρ'' H'' where
  env := b.env
  ext := {
    keep := fun c o h n t => b.ext.keep c o (a.ext.keep c o h n t) (fun q => (a.own c q).elim n fun z => by rw [h] at z; cases z) t
    there := fun c h => b.ext.there c (a.ext.there c h)
    up := fun c h => b.ext.up c (a.ext.up c h)
    new := fun c h => by
      rcases b.ext.new c h with h | h | h
      · exact a.ext.new c h
      · refine .inr (.inl ?_)
        cases q : H c with
        | none => rfl
        | some o => exact absurd h (a.ext.there c (by rw [q]; exact fun z => nomatch z))
      · rcases a.own c h with h | h
        · exact .inr (.inr h)
        · exact .inr (.inl h) }
  own := fun c h => by
    rcases b.own c h with h | h
    · exact a.own c h
    · refine .inr ?_
      cases q : H c with
      | none => rfl
      | some o => exact absurd h (a.ext.there c (by rw [q]; exact fun z => nomatch z))
  kn := a.kn.trans b.kn
theorem Rep.stp {v : V} {d : D} (E : EnvD B F ρ σ H) (h : Rep B.K F H v d) (s : Stp B σ F ρ H F' ρ' H') : Rep B.K F' H' v d := Rep.keep s.ext E.ownL E.ownF d h
theorem Reps.stp {v : List V} {d : List D} (E : EnvD B F ρ σ H) (h : Reps B.K F H v d) (s : Stp B σ F ρ H F' ρ' H') : Reps B.K F' H' v d := Reps.keep s.ext E.ownL E.ownF d h

def val (ρ : Rho) : W → D
  | .dat d => d
  | .new l => .lst l
  | .ref i => match ρ[i]? with
    | some (.own l) => .lst l
    | some (.dat d) => d
    | _ => .non
/-- how a value in flight stands -/
def RW (B : Bg) (F : Addr → Prop) (ρ : Rho) (σ : L2.St) (Hs H : Hp) : W → V → Prop
  | .dat d, v => Rep B.K F H v d
  | .ref i, v => σ[i]? = some (some v) ∧ ∃ s, ρ[i]? = some s ∧ s ≠ .un
  | .new l, v => ∃ p vs, v = .ref p ∧ H p = some (.lst vs) ∧ Reps B.K F H vs l ∧ ¬ F p ∧ ¬ OwnA ρ σ p ∧ Hs p = none
/-- two new lists are two -/
def Apt (w : W) (v : V) (ws : List W) (vs : List V) : Prop := ∀ l, w = .new l → ∀ (k : Nat) l', ws[k]? = some (.new l') → vs[k]? ≠ some v
inductive RWs (B : Bg) (F : Addr → Prop) (ρ : Rho) (σ : L2.St) (Hs H : Hp) : List W → List V → Prop
  | nil : RWs B F ρ σ Hs H [] []
  | cons {w : W} {ws : List W} {v : V} {vs : List V} : RW B F ρ σ Hs H w v → RWs B F ρ σ Hs H ws vs → Apt w v ws vs → RWs B F ρ σ Hs H (w :: ws) (v :: vs)
theorem RW.stp {w : W} {v : V} (E : EnvD B F ρ σ H) (h : RW B F ρ σ Hs H w v) (s : Stp B σ F ρ H F' ρ' H') : RW B F' ρ' σ Hs H' w v := by
  cases w with
  | dat d => exact Rep.stp E h s
  | ref i => exact ⟨h.1, let ⟨t, h1, h2⟩ := h.2; s.kn i t h1 h2⟩
  | new l =>
    obtain ⟨p, vs, e, h1, h2, h3, h4, h5⟩ := h
    refine ⟨p, vs, e, s.ext.keep _ _ h1 h4 (fun ps q => by cases q), Reps.stp E h2 s, fun q => ?_, fun q => (s.own p q).elim h4 (fun z => by rw [h1] at z; cases z), h5⟩
    rcases s.ext.new p q with q | q | q
    · exact h3 q
    · rw [h1] at q; cases q
    · exact h4 q
theorem RWs.stp {ws : List W} {vs : List V} (E : EnvD B F ρ σ H) (h : RWs B F ρ σ Hs H ws vs) (s : Stp B σ F ρ H F' ρ' H') : RWs B F' ρ' σ Hs H' ws vs := by
  induction h with
  | nil => exact .nil
  | cons a _ n ih => exact .cons (RW.stp E a s) ih n

/-- what in flight is a tuple, a list: read -/
theorem RW.tup {w : W} {v : V} {ds : List D} (E : EnvD B F ρ σ H) (h : RW B F ρ σ Hs H w v) (e : val ρ w = .tup ds) : ∃ a vs, v = .ref a ∧ SqT B.K H a vs ∧ Reps B.K F H vs ds := by
  have key : Rep B.K F H v (.tup ds) → ∃ a vs, v = .ref a ∧ SqT B.K H a vs ∧ Reps B.K F H vs ds := fun r => by
    match r with
    | .tup h1 r1 => exact ⟨_, _, rfl, h1, r1⟩
  cases w with
  | dat d => unfold val at e; subst e; exact key h
  | new l => unfold val at e; cases e
  | ref i =>
    unfold val at e
    obtain ⟨h1, s, h2, h3⟩ := h
    dsimp only at e
    rw [h2] at e
    cases s with
    | un => exact absurd rfl h3
    | own l => cases e
    | dat d =>
      obtain ⟨v', e1, r⟩ := E.dat i d h2
      rw [h1] at e1; cases e1
      have e : d = .tup ds := e
      subst e
      exact key r
theorem RW.lst {w : W} {v : V} {ds : List D} (E : EnvD B F ρ σ H) (h : RW B F ρ σ Hs H w v) (e : val ρ w = .lst ds) : ∃ a vs, v = .ref a ∧ H a = some (.lst vs) ∧ Reps B.K F H vs ds := by
  have key : Rep B.K F H v (.lst ds) → ∃ a vs, v = .ref a ∧ H a = some (.lst vs) ∧ Reps B.K F H vs ds := fun r => by
    match r with
    | .lst _ h1 r1 => exact ⟨_, _, rfl, h1, r1⟩
  cases w with
  | dat d => unfold val at e; subst e; exact key h
  | new l =>
    unfold val at e
    have e : l = ds := D.lst.inj e
    subst e
    obtain ⟨p, vs, e1, h1, h2, _⟩ := h
    exact ⟨p, vs, e1, h1, h2⟩
  | ref i =>
    unfold val at e
    obtain ⟨h1, s, h2, h3⟩ := h
    dsimp only at e
    rw [h2] at e
    cases s with
    | un => exact absurd rfl h3
    | own l =>
      have e : l = ds := D.lst.inj e
      subst e
      obtain ⟨p, vs, e1, e2, e3, _⟩ := E.own i l h2
      rw [h1] at e1; cases e1
      exact ⟨p, vs, rfl, e2, e3⟩
    | dat d =>
      obtain ⟨v', e1, r⟩ := E.dat i d h2
      rw [h1] at e1; cases e1
      have e : d = .lst ds := e
      subst e
      exact key r
/-- data that is no list and no tuple -/
theorem RW.flat {w : W} {v : V} {d : D} (E : EnvD B F ρ σ H) (h : RW B F ρ σ Hs H w v) (e : val ρ w = d) (hl : ∀ l, d ≠ .lst l) : Rep B.K F H v d := by
  cases w with
  | dat d' => unfold val at e; subst e; exact h
  | new l => unfold val at e; exact absurd e.symm (hl l)
  | ref i =>
    unfold val at e
    obtain ⟨h1, s, h2, h3⟩ := h
    dsimp only at e
    rw [h2] at e
    cases s with
    | un => exact absurd rfl h3
    | own l => exact absurd e.symm (hl l)
    | dat d' =>
      obtain ⟨v', e1, r⟩ := E.dat i d' h2
      rw [h1] at e1; cases e1
      have e : d' = d := e
      subst e
      exact r
theorem RW.int {w : W} {v : V} {i : Int} (E : EnvD B F ρ σ H) (h : RW B F ρ σ Hs H w v) (e : val ρ w = .int i) : v = .int i := Rep.int_inv (RW.flat E h e fun _ q => nomatch q)
theorem RW.bl {w : W} {v : V} {i : Bool} (E : EnvD B F ρ σ H) (h : RW B F ρ σ Hs H w v) (e : val ρ w = .bl i) : v = .bl i := Rep.bl_inv (RW.flat E h e fun _ q => nomatch q)
theorem RW.str {w : W} {v : V} {i : Str} (E : EnvD B F ρ σ H) (h : RW B F ρ σ Hs H w v) (e : val ρ w = .str i) : v = .str i := Rep.str_inv (RW.flat E h e fun _ q => nomatch q)
theorem RW.non {w : W} {v : V} (E : EnvD B F ρ σ H) (h : RW B F ρ σ Hs H w v) (e : val ρ w = .non) : v = .non := Rep.non_inv (RW.flat E h e fun _ q => nomatch q)
theorem RW.scr {w : W} {v : V} {ds : List D} (E : EnvD B F ρ σ H) (h : RW B F ρ σ Hs H w v) (e : val ρ w = .scr ds) : ∃ a vs, v = .ref a ∧ ScL B.K F H a vs ∧ Reps B.K F H vs ds := by
  match RW.flat E h e fun _ q => nomatch q with
  | .scr h1 r1 => exact ⟨_, _, rfl, h1, r1⟩
/-- as seen from an earlier start -/
theorem RW.back {w : W} {v : V} (h : RW B F ρ σ Hs H w v) (k : ∀ b, Hs' b ≠ none → Hs b ≠ none) : RW B F ρ σ Hs' H w v := by
  cases w with
  | dat d => exact h
  | ref i => exact h
  | new l =>
    obtain ⟨p, vs, e, h1, h2, h3, h4, h5⟩ := h
    refine ⟨p, vs, e, h1, h2, h3, h4, ?_⟩
    cases q : Hs' p with
    | none => rfl
    | some o => exact absurd h5 (k p (by rw [q]; exact fun z => nomatch z))
theorem RWs.back {ws : List W} {vs : List V} (h : RWs B F ρ σ Hs H ws vs) (k : ∀ b, Hs' b ≠ none → Hs b ≠ none) : RWs B F ρ σ Hs' H ws vs := by
  induction h with
  | nil => exact .nil
  | cons a _ n ih => exact .cons (RW.back a k) ih n

def isRef (j : Nat) : W → Bool
  | .ref i => i == j
  | _ => false
def anyRef : W → Bool
  | .ref _ => true
  | _ => false
def nz : W → Bool
  | .ref 0 => false
  | _ => true
def frzAt (ws : List W) (j : Nat) (s : Slot) : Slot := match s with
  | .own l => if ws.any (isRef j) then .dat (.lst l) else .own l
  | s => s
def frzs (ws : List W) (ρ : Rho) : Rho := if ws.any anyRef then ρ.mapIdx (frzAt ws) else ρ
theorem frzs_get (ws : List W) (ρ : Rho) (j : Nat) : (frzs ws ρ)[j]? = (ρ[j]?).map (frzAt ws j) := by
  unfold frzs
  split
  · rw [List.getElem?_mapIdx]
  · rename_i h
    cases q : ρ[j]? with
    | none => rfl
    | some s =>
      have : frzAt ws j s = s := by
        unfold frzAt
        split
        · have : ws.any (isRef j) = false := by
            rw [List.any_eq_false]
            intro w hw hr
            refine h (List.any_eq_true.mpr ⟨w, hw, ?_⟩)
            cases w <;> simp_all [isRef, anyRef]
          rw [this]; rfl
        · rfl
      rw [Option.map_some, this]
theorem frzs_length (ws : List W) (ρ : Rho) : (frzs ws ρ).length = ρ.length := by
  unfold frzs; split <;> simp
/-- the lists of values in flight that become frozen -/
def LocA (ws : List W) (vs : List V) (ρ : Rho) (σ : L2.St) (b : Addr) : Prop :=
  (∃ (k : Nat) (l : List D), ws[k]? = some (.new l) ∧ vs[k]? = some (.ref b)) ∨ ∃ (i : Nat) (l : List D), W.ref i ∈ ws ∧ ρ[i]? = some (.own l) ∧ σ[i]? = some (some (.ref b))
theorem RWs.at {ws : List W} {vs : List V} (h : RWs B F ρ σ Hs H ws vs) : ∀ {k : Nat} {w : W}, ws[k]? = some w → ∃ v, vs[k]? = some v ∧ RW B F ρ σ Hs H w v := by
  induction h with
  | nil => intro k w e; simp at e
  | cons a r n ih =>
    intro k w e
    cases k with
    | zero => simp at e; subst e; exact ⟨_, by simp, a⟩
    | succ k => simpa using ih (by simpa using e)
theorem RWs.length {ws : List W} {vs : List V} (h : RWs B F ρ σ Hs H ws vs) : ws.length = vs.length := by
  induction h with
  | nil => rfl
  | cons _ _ _ ih => simp [ih]
theorem apt_of {w : W} {v : V} {ws : List W} {vs : List V} (h : ∀ l, w ≠ .new l) : Apt w v ws vs := fun l e => absurd e (h l)
theorem apt_nil {w : W} {v : V} : Apt w v [] [] := fun l e k l' h => by simp at h
/-- one evaluated ahead of the others -/
theorem apt_stp {Hm : Hp} {w : W} {v : V} {ws : List W} {vs : List V} (r : RW B F ρ σ Hs Hm w v) (rs : RWs B F' ρ' σ Hm H' ws vs) : Apt w v ws vs := fun l e k l' hk q => by
  subst e
  obtain ⟨p, us, e1, h1, _⟩ := r
  obtain ⟨v', e2, p', us', e3, _, _, _, _, h5⟩ := RWs.at rs hk
  rw [q] at e2
  have e2 : v = v' := Option.some.inj e2
  rw [e1, e3] at e2
  cases e2
  rw [h1] at h5; cases h5
theorem reps_of {ds : List D} {vs : List V} (hl : vs.length = ds.length) (h : ∀ (k : Nat) d, ds[k]? = some d → ∃ v, vs[k]? = some v ∧ Rep K F H v d) : Reps K F H vs ds := by
  induction ds generalizing vs with
  | nil => cases vs with
    | nil => exact .nil
    | cons _ _ => simp at hl
  | cons d ds ih => cases vs with
    | nil => simp at hl
    | cons v vs =>
      obtain ⟨v', e, r⟩ := h 0 d rfl
      simp at e; subst e
      exact .cons r (ih (by simpa using hl) fun k d' e => by simpa using h (k + 1) d' (by simpa using e))
theorem anyRef_mem {ws : List W} {i : Nat} : ws.any (isRef i) = true ↔ W.ref i ∈ ws := by
  rw [List.any_eq_true]
  constructor
  · rintro ⟨w, hw, h⟩
    cases w <;> simp_all [isRef]
  · intro h
    exact ⟨_, h, by simp [isRef]⟩
theorem settle {ws : List W} {vs : List V} (E : EnvD B F ρ σ Hs) (s : Stp B σ F ρ Hs F' ρ' H) (rs : RWs B F' ρ' σ Hs H ws vs) (hz : ws.all nz = true) :
    ∃ F'', Stp B σ F ρ Hs F'' (frzs ws ρ') H ∧ Reps B.K F'' H vs (ws.map (val ρ')) := by
  have E' := s.env
  have hn0 : ∀ i, W.ref i ∈ ws → i ≠ 0 := fun i h e => by
    subst e
    exact absurd (List.all_eq_true.mp hz _ h) (by simp [nz])
  have hM : ∀ i l p, W.ref i ∈ ws → ρ'[i]? = some (.own l) → σ[i]? = some (some (.ref p)) → B.H0 p = none := fun i l p hw e1 e2 => by
    obtain ⟨q, _, e3, _, _, _, h⟩ := E'.own i l e1
    rw [e2] at e3; cases e3
    rcases h with h | h
    · exact h
    · obtain ⟨h0, l0, h1⟩ := E'.mp p h
      exact absurd (E'.apart i 0 l l0 p e1 h1 e2 h0) (hn0 i hw)
  have newI : ∀ (k : Nat) l b, ws[k]? = some (.new l) → vs[k]? = some (.ref b) → (∃ us, H b = some (.lst us)) ∧ ¬ F' b ∧ ¬ OwnA ρ' σ b ∧ Hs b = none := fun k l b e1 e2 => by
    obtain ⟨v, e3, p, us, e4, h1, h2, h3, h4, h5⟩ := RWs.at rs e1
    rw [e2] at e3; cases e3; cases e4
    exact ⟨⟨us, h1⟩, h3, h4, h5⟩
  have own' : ∀ b, OwnA (frzs ws ρ') σ b → OwnA ρ' σ b ∧ ¬ LocA ws vs ρ' σ b := fun b ⟨i, l, e1, e2⟩ => by
    rw [frzs_get] at e1
    cases q : ρ'[i]? with
    | none => rw [q] at e1; cases e1
    | some sl =>
      rw [q] at e1
      have e1 : frzAt ws i sl = .own l := Option.some.inj e1
      unfold frzAt at e1
      split at e1
      · rename_i l'
        split at e1
        · cases e1
        · rename_i hr
          cases e1
          refine ⟨⟨i, l, q, e2⟩, ?_⟩
          rintro (⟨k, l2, k1, k2⟩ | ⟨j, l2, k1, k2, k3⟩)
          · exact (newI k l2 b k1 k2).2.2.1 ⟨i, l, q, e2⟩
          · have := E'.apart i j l l2 b q k2 e2 k3
            subst this
            exact hr (anyRef_mem.mpr k1)
      · rename_i hne
        subst e1
        exact absurd rfl (hne l)
  have x : Ext (OwnA ρ σ) F (fun b => F' b ∨ LocA ws vs ρ' σ b) Hs H := {
    keep := s.ext.keep
    there := s.ext.there
    up := fun b h => .inl (s.ext.up b h)
    new := fun b h => by
      rcases h with h | h
      · exact s.ext.new b h
      · rcases h with ⟨k, l, k1, k2⟩ | ⟨j, l, k1, k2, k3⟩
        · exact .inr (.inl (newI k l b k1 k2).2.2.2)
        · exact (s.own b ⟨j, l, k2, k3⟩).elim (fun z => .inr (.inr z)) fun z => .inr (.inl z) }
  have upF : ∀ b, F' b → F' b ∨ LocA ws vs ρ' σ b := fun b h => .inl h
  have getS : ∀ (i : Nat) sl, (frzs ws ρ')[i]? = some sl → ∃ sl', ρ'[i]? = some sl' ∧ sl = frzAt ws i sl' := fun i sl e => by
    rw [frzs_get] at e
    cases q : ρ'[i]? with
    | none => rw [q] at e; cases e
    | some sl' => rw [q] at e; exact ⟨sl', rfl, (Option.some.inj e).symm⟩
  refine ⟨fun b => F' b ∨ LocA ws vs ρ' σ b, ⟨⟨fun i d h => ?_, fun i l h => ?_, fun i j l l' p h1 h2 h3 h4 => ?_, by rw [frzs_length]; exact E'.len, E'.base, E'.there, fun b h => ?_, fun b h => .inl (E'.fz0 b h), fun b h => ?_, fun p h => ?_, E'.tabs⟩, x, fun b h => s.own b (own' b h).1, ?_⟩, ?_⟩
  · obtain ⟨sl, e, z⟩ := getS i _ h
    cases sl with
    | un => cases z
    | dat d' =>
      have z : d = d' := Slot.dat.inj z
      subst z
      obtain ⟨v, h1, h2⟩ := E'.dat i d e
      exact ⟨v, h1, Rep.up upF d h2⟩
    | own l =>
      unfold frzAt at z
      dsimp only at z
      split at z
      · rename_i hr
        cases z
        obtain ⟨p, us, h1, h2, h3, _⟩ := E'.own i l e
        exact ⟨.ref p, h1, .lst (.inr (.inr ⟨i, l, anyRef_mem.mp hr, e, h1⟩)) h2 (Reps.up upF l h3)⟩
      · cases z
  · have hb : ∀ p, σ[i]? = some (some (.ref p)) → OwnA (frzs ws ρ') σ p := fun p hp => ⟨i, l, h, hp⟩
    obtain ⟨sl, e, z⟩ := getS i _ h
    cases sl with
    | un => cases z
    | dat d' => cases z
    | own l' =>
      unfold frzAt at z
      dsimp only at z
      split at z
      · cases z
      · cases z
        obtain ⟨p, us, h1, h2, h3, h4, h5⟩ := E'.own i l e
        exact ⟨p, us, h1, h2, Reps.up upF l h3, fun q => q.elim h4 (own' p (hb p h1)).2, h5⟩
  · obtain ⟨s1, e1, z1⟩ := getS i _ h1
    obtain ⟨s2, e2, z2⟩ := getS j _ h2
    cases s1 <;> try cases z1
    rename_i l1
    cases s2 <;> try cases z2
    rename_i l2
    exact E'.apart i j l1 l2 p e1 e2 h3 h4
  · rcases h with h | h
    · exact E'.fz b h
    · rcases h with ⟨k, l, k1, k2⟩ | ⟨j, l, k1, k2, k3⟩
      · have := (newI k l b k1 k2).2.2.2
        refine .inr ?_
        cases q : B.H0 b with
        | none => rfl
        | some o => exact absurd this (E.there b (by rw [q]; exact fun y => nomatch y))
      · exact .inr (hM j l b k1 k2 k3)
  · rcases h with h | h
    · exact E'.fh b h
    · rcases h with ⟨k, l, k1, k2⟩ | ⟨j, l, k1, k2, k3⟩
      · obtain ⟨us, e⟩ := (newI k l b k1 k2).1
        rw [e]; exact fun y => nomatch y
      · obtain ⟨us, e⟩ := E'.ownL b ⟨j, l, k2, k3⟩
        rw [e]; exact fun y => nomatch y
  · obtain ⟨h0, l, h1⟩ := E'.mp p h
    refine ⟨h0, l, ?_⟩
    rw [frzs_get, h1, Option.map_some]
    unfold frzAt
    dsimp only
    rw [if_neg]
    intro hr
    exact hn0 0 (anyRef_mem.mp hr) rfl
  · refine s.kn.trans fun i sl h n => ⟨frzAt ws i sl, by rw [frzs_get, h]; rfl, ?_⟩
    intro z
    unfold frzAt at z
    split at z
    · split at z <;> cases z
    · exact n z
  · refine reps_of (by rw [List.length_map, RWs.length rs]) fun k d e => ?_
    rw [List.getElem?_map] at e
    cases q : ws[k]? with
    | none => rw [q] at e; cases e
    | some w =>
      rw [q] at e
      have e : val ρ' w = d := Option.some.inj e
      subst e
      obtain ⟨v, e1, r⟩ := RWs.at rs q
      refine ⟨v, e1, ?_⟩
      cases w with
      | dat d => exact Rep.up upF d r
      | new l =>
        obtain ⟨p, us, e4, h1, h2, h3, h4, h5⟩ := r
        subst e4
        exact .lst (.inr (.inl ⟨k, l, q, e1⟩)) h1 (Reps.up upF l h2)
      | ref i =>
        obtain ⟨h1, sl, h2, h3⟩ := r
        show Rep B.K _ H v (match ρ'[i]? with | some (.own l) => .lst l | some (.dat d) => d | _ => .non)
        rw [h2]
        cases sl with
        | un => exact absurd rfl h3
        | dat d =>
          obtain ⟨v', e2, r⟩ := E'.dat i d h2
          rw [h1] at e2; cases e2
          exact Rep.up upF d r
        | own l =>
          obtain ⟨p, us, e2, h4, h5, _⟩ := E'.own i l h2
          rw [h1] at e2; cases e2
          exact .lst (.inr (.inr ⟨i, l, List.mem_of_getElem? q, h2, h1⟩)) h4 (Reps.up upF l h5)
end
end L3

set_option Elab.async false
set_option linter.all false
set_option maxRecDepth 100000
set_option maxHeartbeats 2000000
namespace L3
open PySem PySem.Spec PyProof.Rows L2

abbrev LTE := Rho → (W → Rho → Prop) → Prop
abbrev LTT := Rho → (Bool → Rho → Prop) → Prop
abbrev LTA := Rho → (List W → Rho → Prop) → Prop
def lift (B : Bg) (t : LTE) : TE := fun σ H Q => ∃ F ρ, EnvD B F ρ σ H ∧ t ρ fun w ρ' => ∀ v F' H', Stp B σ F ρ H F' ρ' H' → RW B F' ρ' σ H H' w v → Q v H'
def liftT (B : Bg) (t : LTT) : TT := fun σ H Q => ∃ F ρ, EnvD B F ρ σ H ∧ t ρ fun b ρ' => ∀ F' H', Stp B σ F ρ H F' ρ' H' → Q b H'
def liftA (B : Bg) (t : LTA) : TA := fun σ H Q => ∃ F ρ, EnvD B F ρ σ H ∧ t ρ fun ws ρ' => ∀ vs F' H', Stp B σ F ρ H F' ρ' H' → RWs B F' ρ' σ H H' ws vs → Q vs H'

def Mono {α : Type} (t : Rho → (α → Rho → Prop) → Prop) : Prop := ∀ ρ Q Q', (∀ w ρ', Q w ρ' → Q' w ρ') → t ρ Q → t ρ Q'
structure DE (X : Cx) (B : Bg) (e : Expr) (t : LTE) : Prop where
  hk : B.K = X.K
  mono : Mono t
  pe : PE X e (lift B t)
structure DT (X : Cx) (B : Bg) (e : Expr) (t : LTT) : Prop where
  hk : B.K = X.K
  mono : Mono t
  pt : PT X e (liftT B t)
structure DW (X : Cx) (B : Bg) (e : Expr) (t : LTT) : Prop where
  hk : B.K = X.K
  mono : Mono t
  pw : PW X e (liftT B t)
structure DA (X : Cx) (B : Bg) (es : List Expr) (t : LTA) : Prop where
  hk : B.K = X.K
  mono : Mono t
  pa : PA X es (liftA B t)
theorem DW.dt {X : Cx} {B : Bg} {e : Expr} {t : LTT} (h : DW X B e t) : DT X B e t := ⟨h.hk, h.mono, h.pw.pt⟩

section
variable {X : Cx} {B : Bg} {e : Expr} {es : List Expr} {pos : Pos}
theorem pe_imp {t t' : TE} (h : PE X e t) (i : ∀ σ H Q, t' σ H Q → t σ H Q) : PE X e t' := ⟨fun pins s σ H Q I q => h.run pins s σ H Q I (i σ H Q q)⟩
theorem pt_imp {t t' : TT} (h : PT X e t) (i : ∀ σ H Q, t' σ H Q → t σ H Q) : PT X e t' := ⟨fun pins s σ H Q I q => h.run pins s σ H Q I (i σ H Q q)⟩
theorem pw_imp {t t' : TT} (h : PW X e t) (i : ∀ σ H Q, t' σ H Q → t σ H Q) : PW X e t' := ⟨fun wh pins s σ H Q I q => h.run wh pins s σ H Q I (i σ H Q q)⟩
theorem pa_imp {t t' : TA} (h : PA X es t) (i : ∀ σ H Q, t' σ H Q → t σ H Q) : PA X es t' := ⟨fun p pins s σ H Q I q => h.run p pins s σ H Q I (i σ H Q q)⟩

def tK (d : D) : LTE := fun ρ Q => Q (.dat d) ρ
theorem tK_mono (d : D) : Mono (tK d) := fun ρ Q Q' h q => h _ _ q
theorem de_const {v : V} {d : D} (h : PE X e (tC v)) (r : ∀ K F H, Rep K F H v d) (hk : B.K = X.K := by rfl) : DE X B e (tK d) :=
  ⟨hk, tK_mono d, pe_imp h fun σ H Q ⟨F, ρ, E, q⟩ => q v F H (.refl E) (r _ _ _)⟩
theorem de_int {i : Int} {j} (hk : B.K = X.K := by rfl) : DE X B (.Constant (.int i) j pos) (tK (.int i)) := de_const pe_int (fun _ _ _ => .int i) hk
theorem de_bl {b : Bool} {j} (hk : B.K = X.K := by rfl) : DE X B (.Constant (.bool b) j pos) (tK (.bl b)) := de_const pe_bl (fun _ _ _ => .bl b) hk
theorem de_non {j} (hk : B.K = X.K := by rfl) : DE X B (.Constant .none j pos) (tK .non) := de_const pe_non (fun _ _ _ => .non) hk
theorem de_str {x} {j} (hk : B.K = X.K := by rfl) : DE X B (.Constant (.str x) j pos) (tK (.str x)) := de_const pe_str (fun _ _ _ => .str _) hk
def tN (i : Nat) : LTE := fun ρ Q => match ρ[i]? with
  | some (.dat d) => Q (.dat d) ρ
  | some (.own _) => Q (.ref i) ρ
  | _ => False
theorem tN_mono (i : Nat) : Mono (tN i) := fun ρ Q Q' h q => by
  unfold tN at q ⊢
  split at q
  · exact h _ _ q
  · exact h _ _ q
  · exact q
theorem de_name {i : Nat} {x : Str} (h : PE X (.Name x pos) (tVar i)) (hk : B.K = X.K := by rfl) : DE X B (.Name x pos) (tN i) := by
  refine ⟨hk, tN_mono i, pe_imp h fun σ H Q ⟨F, ρ, E, q⟩ => ?_⟩
  unfold tN at q
  split at q
  · rename_i d e
    obtain ⟨v, h1, h2⟩ := E.dat i d e
    exact ⟨v, h1, q v F H (.refl E) h2⟩
  · rename_i l e
    obtain ⟨p, vs, h1, _⟩ := E.own i l e
    exact ⟨_, h1, q _ F H (.refl E) ⟨h1, _, e, fun z => nomatch z⟩⟩
  · exact q.elim
end


section
variable {B : Bg} {F F' : Addr → Prop} {ρ ρ' : Rho} {σ : L2.St} {H H' : Hp}
theorem stp_same (E : EnvD B F ρ σ H) (k : ∀ b o, H b = some o → NoTbl o → H' b = some o) (th : ∀ b, H b ≠ none → H' b ≠ none) (ht : Tbs B.T H') (up : ∀ b, F b → F' b) (nw : ∀ b, F' b → F b ∨ H b = none) (fh : ∀ b, F' b → H' b ≠ none) : Stp B σ F ρ H F' ρ H' := by
  have x : Ext (OwnA ρ σ) F F' H H' := ⟨fun b o h _ t => k b o h t, th, up, fun b h => (nw b h).elim .inl fun z => .inr (.inl z)⟩
  have nt : ∀ l : List V, NoTbl (.lst l) := fun l ps z => by cases z
  refine ⟨⟨fun i d h => ?_, fun i l h => ?_, E.apart, E.len, fun b o h n t => k b o (E.base b o h n t) t, fun b h => th b (E.there b h), fun b h => ?_, fun b h => up b (E.fz0 b h), fh, E.mp, ht⟩, x, fun _ h => .inl h, .refl⟩
  · obtain ⟨v, h1, h2⟩ := E.dat i d h
    exact ⟨v, h1, Rep.keep x E.ownL E.ownF d h2⟩
  · obtain ⟨p, vs, h1, h2, h3, h4, h5⟩ := E.own i l h
    refine ⟨p, vs, h1, k _ _ h2 (nt _), Reps.keep x E.ownL E.ownF l h3, fun z => ?_, h5⟩
    rcases nw p z with z | z
    · exact h4 z
    · rw [h2] at z; cases z
  · rcases nw b h with z | z
    · exact E.fz b z
    · refine .inr ?_
      cases q : B.H0 b with
      | none => rfl
      | some o => exact absurd z (E.there b (by rw [q]; exact fun y => nomatch y))
theorem upd_keep {p : Addr} {u : HO} (hp : H p = none) : ∀ b o, H b = some o → upd H p u b = some o := fun b o e => by
  rw [upd_ne (ne_of_none e hp)]; exact e
theorem stp_upd {p : Addr} {u : HO} (E : EnvD B F ρ σ H) (hp : H p = none) : Stp B σ F ρ H F ρ (upd H p u) := by
  have k := upd_keep (u := u) hp
  refine stp_same E (fun b o h _ => k b o h) (fun b h => ?_) (Tbs.ext E.tabs k) (fun _ h => h) (fun _ h => .inl h) fun b h => ?_
  · cases q : H b with
    | none => exact absurd q h
    | some o => rw [k b o q]; exact fun z => nomatch z
  · cases q : H b with
    | none => exact absurd q (E.fh b h)
    | some o => rw [k b o q]; exact fun z => nomatch z
theorem new_lst {p : Addr} {vs : List V} {l : List D} (E : EnvD B F ρ σ H) (hp : H p = none) (r : Reps B.K F H vs l) : Stp B σ F ρ H F ρ (upd H p (.lst vs)) ∧ RW B F ρ σ H (upd H p (.lst vs)) (.new l) (.ref p) := by
  have s := stp_upd (u := .lst vs) E hp
  refine ⟨s, p, vs, rfl, upd_same, Reps.stp E r s, fun z => E.fh p z hp, fun z => ?_, hp⟩
  obtain ⟨l, e⟩ := E.ownL p z
  rw [hp] at e; cases e
theorem new_tup {p : Addr} {vs : List V} {l : List D} (E : EnvD B F ρ σ H) (hp : H p = none) (r : Reps B.K F H vs l) : Stp B σ F ρ H F ρ (upd H p (.tup vs)) ∧ RW B F ρ σ H (upd H p (.tup vs)) (.dat (.tup l)) (.ref p) := by
  have s := stp_upd (u := .tup vs) E hp
  exact ⟨s, Rep.tup (SqT.of upd_same) (Reps.stp E r s)⟩
end

abbrev Rd2 := D → D → (W → Prop) → Prop
def Snd2 (K : PySem.W.Frag) (r : R2) (rd : Rd2) : Prop := ∀ (B : Bg) (F : Addr → Prop) (ρ : Rho) (σ : L2.St) (Hs H : Hp) (x y : W) (vx vy : V) (Q : VK), B.K = K → EnvD B F ρ σ H → RW B F ρ σ Hs H x vx → RW B F ρ σ Hs H y vy →
  rd (val ρ x) (val ρ y) (fun w => ∀ v F' H', Stp B σ F ρ H F' ρ H' → RW B F' ρ σ H H' w v → Q v H') → r vx vy H Q
def MonoR (rd : Rd2) : Prop := ∀ a b Q Q', (∀ w, Q w → Q' w) → rd a b Q → rd a b Q'
structure OpD (X : Cx) (f : Value → Value → Sem Value) (rd : Rd2) : Prop where
  ex : ∃ r, OpR X f r ∧ Snd2 X.K r rd
  mono : MonoR rd
def t2 (rd : Rd2) (ta tb : LTE) : LTE := fun ρ Q => ta ρ fun x ρ1 => tb ρ1 fun y ρ2 => rd (val ρ2 x) (val ρ2 y) fun w => Q w ρ2
theorem t2_mono {rd : Rd2} {ta tb : LTE} (m : MonoR rd) (ha : Mono ta) (hb : Mono tb) : Mono (t2 rd ta tb) := fun ρ Q Q' h q =>
  ha _ _ _ (fun x ρ1 q1 => hb _ _ _ (fun y ρ2 q2 => m _ _ _ _ (fun w q3 => h _ _ q3) q2) q1) q
theorem lift2 {X : Cx} {B : Bg} {r : R2} {rd : Rd2} {ta tb : LTE} (hk : B.K = X.K) (hs : Snd2 X.K r rd) (m : MonoR rd) (ma : Mono ta) (mb : Mono tb) : ∀ σ H Q, lift B (t2 rd ta tb) σ H Q → tOp r (lift B ta) (lift B tb) σ H Q := by
  rintro σ H Q ⟨F, ρ, E, q⟩
  refine ⟨F, ρ, E, ma _ _ _ (fun x ρ1 q1 => ?_) q⟩
  intro vx F1 H1 s1 r1
  refine ⟨F1, ρ1, s1.env, mb _ _ _ (fun y ρ2 q2 => ?_) q1⟩
  intro vy F2 H2 s2 r2
  exact hs B F2 ρ2 σ H H2 x y vx vy Q hk s2.env (RW.stp s1.env r1 s2) (RW.back r2 s1.ext.there) (m _ _ _ _ (fun w h v F' H' s' r' => h v F' H' ((s1.trans E s2).trans E s') (RW.back r' (s1.trans E s2).ext.there)) q2)
section
variable {X : Cx} {B : Bg} {a b : Expr} {ta tb : LTE} {rd : Rd2} {pos : Pos}
theorem de_op {op : Operator} (ho : OpD X (binaryOp op) rd) (ha : DE X B a ta) (hb : DE X B b tb) : DE X B (.BinOp a op b pos) (t2 rd ta tb) := by
  obtain ⟨⟨r, h1, h2⟩, m⟩ := ho
  exact ⟨ha.hk, t2_mono m ha.mono hb.mono, pe_imp (pe_op h1 ha.pe hb.pe) (lift2 ha.hk h2 m ha.mono hb.mono)⟩
theorem de_cmp {op : CmpOp} (ho : OpD X (compareOp op) rd) (ha : DE X B a ta) (hb : DE X B b tb) (hm : behindInMarks op b = false := by first | exact nobehind _ (by decide) (by decide) | rfl) : DE X B (.Compare a [op] [b] pos) (t2 rd ta tb) := by
  obtain ⟨⟨r, h1, h2⟩, m⟩ := ho
  exact ⟨ha.hk, t2_mono m ha.mono hb.mono, pe_imp (pe_cmpR h1 ha.pe hb.pe hm) (lift2 ha.hk h2 m ha.mono hb.mono)⟩
/-- a value that is a truth value, as a test -/
def tTst (t : LTE) : LTT := fun ρ Q => t ρ fun w ρ' => match val ρ' w with
  | .bl c => Q c ρ'
  | _ => False
theorem tTst_mono {t : LTE} (m : Mono t) : Mono (tTst t) := fun ρ Q Q' h q => m _ _ _ (fun w ρ' z => by
  split at z
  · exact h _ _ z
  · exact z) q
theorem liftTst {t : LTE} (m : Mono t) : ∀ σ H Q, liftT B (tTst t) σ H Q → tTest (lift B t) σ H Q := by
  rintro σ H Q ⟨F, ρ, E, q⟩
  refine ⟨F, ρ, E, m _ _ _ (fun w ρ' z => ?_) q⟩
  intro v F' H' s r
  split at z
  · rename_i c e
    exact ⟨c, RW.bl s.env r e, z F' H' s⟩
  · exact z.elim
theorem dt_cmp {op : CmpOp} (ho : OpD X (compareOp op) rd) (ha : DE X B a ta) (hb : DE X B b tb) (hm : behindInMarks op b = false := by first | exact nobehind _ (by decide) (by decide) | rfl) : DT X B (.Compare a [op] [b] pos) (tTst (t2 rd ta tb)) := by
  obtain ⟨⟨r, h1, h2⟩, m⟩ := ho
  refine ⟨ha.hk, tTst_mono (t2_mono m ha.mono hb.mono), pt_imp (pt_cmpR h1 ha.pe hb.pe hm) fun σ H Q h => ?_⟩
  obtain ⟨k, hk⟩ : ∃ k, k = k := ⟨True, rfl⟩
  exact lift2 ha.hk h2 m ha.mono hb.mono σ H _ (liftTst (t2_mono m ha.mono hb.mono) σ H Q h)
end
end L3

set_option Elab.async false
set_option linter.all false
set_option maxRecDepth 100000
set_option maxHeartbeats 2000000
namespace L3
open PySem PySem.Spec PyProof.Rows L2

mutual
def isPy : D → Bool
  | .non | .bl _ | .int _ | .str _ => true
  | .tup l | .lst l => isPys l
  | _ => false
def isPys : List D → Bool
  | [] => true
  | d :: l => isPy d && isPys l
end
mutual
def py : D → PyData
  | .non => .none
  | .bl b => .bool b
  | .int i => .int i
  | .str x => .str x
  | .tup l => .tuple (pys l)
  | .lst l => .list (pys l)
  | _ => .none
def pys : List D → List PyData
  | [] => []
  | d :: l => py d :: pys l
end
mutual
theorem Rep.dp {K : PySem.W.Frag} {F : Addr → Prop} {H : Hp} : ∀ (d : D) {v : V}, isPy d = true → Rep K F H v d → Dp K H v (py d)
  | .non, _, _, .non => .non
  | .bl _, _, _, .bl _ => .bl _
  | .int _, _, _, .int _ => .int _
  | .str _, _, _, .str _ => .str _
  | .tup l, _, h, .tup s r => .tup s (Reps.dp l (by simpa [isPy] using h) r)
  | .lst l, _, h, .lst _ s r => .lst (SqL.of s) (Reps.dp l (by simpa [isPy] using h) r)
  | .ty _, _, h, _ => by simp [isPy] at h
  | .fn _, _, h, _ => by simp [isPy] at h
  | .scr _, _, h, _ => by simp [isPy] at h
theorem Reps.dp {K : PySem.W.Frag} {F : Addr → Prop} {H : Hp} : ∀ (ds : List D) {vs : List V}, isPys ds = true → Reps K F H vs ds → DpAll K H vs (pys ds)
  | [], _, _, .nil => .nil
  | d :: ds, _, h, .cons a r => by
    have h2 : isPy d = true ∧ isPys ds = true := by simpa [isPys] using h
    exact .cons (Rep.dp d h2.1 a) (Reps.dp ds h2.2 r)
end
def shp (d : D) : Bool := isPy d && SeqAt.shaped (py d)
def eqD (a b : D) : Bool := PyData.eqv (py a) (py b)
section
variable {B : Bg} {F : Addr → Prop} {ρ : Rho} {σ : L2.St} {H Hs : Hp}
theorem RW.dp {w : W} {v : V} (E : EnvD B F ρ σ H) (h : RW B F ρ σ Hs H w v) (e : isPy (val ρ w) = true) : Dp B.K H v (py (val ρ w)) := by
  cases hv : val ρ w with
  | lst l =>
    obtain ⟨a, vs, e1, h1, h2⟩ := RW.lst E h hv
    rw [hv] at e
    subst e1
    exact .lst (SqL.of h1) (Reps.dp l (by simpa [isPy] using e) h2)
  | _ =>
    rw [hv] at e
    exact Rep.dp _ e (RW.flat E h hv fun _ q => nomatch q)
end

def rdAdd : Rd2 := fun a b Q => match a, b with
  | .int i, .int j => Q (.dat (.int (i + j)))
  | .str x, .str y => x.length + y.length ≤ sizeLine ∧ Q (.dat (.str (x ++ y)))
  | .lst xs, .lst ys => xs.length + ys.length ≤ sizeLine ∧ Q (.new (xs ++ ys))
  | .tup xs, .tup ys => xs.length + ys.length ≤ sizeLine ∧ Q (.dat (.tup (xs ++ ys)))
  | _, _ => False
theorem od_add {X : Cx} : OpD X (binaryOp .Add) rdAdd := by
  refine ⟨⟨_, .or op_add (.or op_add_str (.or op_cat op_catA)), ?_⟩, fun a b Q Q' h q => ?_⟩
  · intro B F ρ σ Hs H x y vx vy Q hk E rx ry h
    unfold rdAdd at h
    split at h
    · rename_i i j ex ey
      exact .inl ⟨i, j, RW.int E rx ex, RW.int E ry ey, h _ F H (.refl E) (Rep.int _)⟩
    · rename_i i j ex ey
      exact .inr (.inl ⟨i, j, RW.str E rx ex, RW.str E ry ey, h.1, h.2 _ F H (.refl E) (Rep.str _)⟩)
    · rename_i i j ex ey
      obtain ⟨a, vs, rfl, h1, h2⟩ := RW.lst E rx ex
      obtain ⟨b, us, rfl, h3, h4⟩ := RW.lst E ry ey
      refine .inr (.inr (.inl ⟨a, b, vs, us, rfl, rfl, h1, h3, by rw [Reps.length h2, Reps.length h4]; exact h.1, fun p hp => ?_⟩))
      have n := new_lst E hp (Reps.append h2 h4)
      exact h.2 _ F _ n.1 n.2
    · rename_i i j ex ey
      obtain ⟨a, vs, rfl, h1, h2⟩ := RW.tup E rx ex
      obtain ⟨b, us, rfl, h3, h4⟩ := RW.tup E ry ey
      rw [hk] at h1 h3
      refine .inr (.inr (.inr ⟨a, b, vs, us, rfl, rfl, h1, h3, by rw [Reps.length h2, Reps.length h4]; exact h.1, fun e => ?_, fun e e2 => ?_, fun e e2 p hp => ?_⟩))
      · subst e
        have : i = [] := by cases h2; rfl
        subst this
        rw [← hk] at h3
        exact h.2 _ F H (.refl E) (Rep.tup h3 (by simpa using h4))
      · subst e2
        have : j = [] := by cases h4; rfl
        subst this
        rw [← hk] at h1
        exact h.2 _ F H (.refl E) (Rep.tup h1 (by simpa using h2))
      · have n := new_tup E hp (Reps.append h2 h4)
        exact h.2 _ F _ n.1 n.2
    · exact h.elim
  · unfold rdAdd at q ⊢
    split at q
    · exact h _ q
    · exact ⟨q.1, h _ q.2⟩
    · exact ⟨q.1, h _ q.2⟩
    · exact ⟨q.1, h _ q.2⟩
    · exact q
/-- two ints, under a condition -/
def rdI (C : Int → Int → Prop) (g : Int → Int → D) : Rd2 := fun a b Q => match a, b with
  | .int i, .int j => C i j ∧ Q (.dat (g i j))
  | _, _ => False
def rdI0 (g : Int → Int → D) : Rd2 := fun a b Q => match a, b with
  | .int i, .int j => Q (.dat (g i j))
  | _, _ => False
theorem od_I {X : Cx} {f : Value → Value → Sem Value} {C : Int → Int → Prop} {g : Int → Int → V} {g' : Int → Int → D} (h : OpR X f (rI C g)) (hg : ∀ i j K F H, Rep K F H (g i j) (g' i j)) : OpD X f (rdI C g') := by
  refine ⟨⟨_, h, ?_⟩, fun a b Q Q' h q => ?_⟩
  · intro B F ρ σ Hs H x y vx vy Q hk E rx ry h
    unfold rdI at h
    split at h
    · rename_i i j ex ey
      exact ⟨i, j, RW.int E rx ex, RW.int E ry ey, h.1, h.2 _ F H (.refl E) (hg i j _ _ _)⟩
    · exact h.elim
  · unfold rdI at q ⊢
    split at q
    · exact ⟨q.1, h _ q.2⟩
    · exact q
theorem od_I0 {X : Cx} {f : Value → Value → Sem Value} {g : Int → Int → V} {g' : Int → Int → D} (h : OpR X f (L2.rI0 g)) (hg : ∀ i j K F H, Rep K F H (g i j) (g' i j)) : OpD X f (rdI0 g') := by
  refine ⟨⟨_, h, ?_⟩, fun a b Q Q' h q => ?_⟩
  · intro B F ρ σ Hs H x y vx vy Q hk E rx ry h
    unfold rdI0 at h
    split at h
    · rename_i i j ex ey
      exact ⟨i, j, RW.int E rx ex, RW.int E ry ey, h _ F H (.refl E) (hg i j _ _ _)⟩
    · exact h.elim
  · unfold rdI0 at q ⊢
    split at q
    · exact h _ q
    · exact q
theorem od_sub {X : Cx} : OpD X (binaryOp .Sub) (rdI0 fun i j => .int (i - j)) := od_I0 op_sub fun _ _ _ _ _ => .int _
theorem od_fdiv {X : Cx} : OpD X (binaryOp .FloorDiv) (rdI CDivW fun i j => .int (i / j)) := od_I op_fdivW fun _ _ _ _ _ => .int _
theorem od_mod {X : Cx} : OpD X (binaryOp .Mod) (rdI (fun _ j => 0 < j) fun i j => .int (i % j)) := od_I op_mod fun _ _ _ _ _ => .int _
theorem od_lt {X : Cx} : OpD X (compareOp .Lt) (rdI0 fun i j => .bl (decide (i < j))) := od_I0 op_lt fun _ _ _ _ _ => .bl _
theorem od_le {X : Cx} : OpD X (compareOp .LtE) (rdI0 fun i j => .bl (decide (i ≤ j))) := od_I0 op_le fun _ _ _ _ _ => .bl _
theorem od_gt {X : Cx} : OpD X (compareOp .Gt) (rdI0 fun i j => .bl (decide (j < i))) := od_I0 op_gt fun _ _ _ _ _ => .bl _
theorem od_ge {X : Cx} : OpD X (compareOp .GtE) (rdI0 fun i j => .bl (decide (j ≤ i))) := od_I0 op_ge fun _ _ _ _ _ => .bl _
/-- a * b, a list some times -/
def rdMul : Rd2 := fun a b Q => match a, b with
  | .int i, .int j => CMulW i j ∧ Q (.dat (.int (i * j)))
  | .lst xs, .int k => (-(2 ^ 63) ≤ k ∧ k < 2 ^ 63 ∧ xs.length * k.toNat ≤ sizeLine) ∧ Q (.new (List.replicate k.toNat xs).flatten)
  | .tup xs, .int k => (xs ≠ [] ∧ 2 ≤ k ∧ k ≤ 1000 ∧ xs.length ≤ 1000) ∧ Q (.dat (.tup (List.replicate k.toNat xs).flatten))
  | _, _ => False
theorem Reps.rep {K : PySem.W.Frag} {F : Addr → Prop} {H : Hp} {vs : List V} {ds : List D} (r : Reps K F H vs ds) : ∀ n : Nat, Reps K F H (List.replicate n vs).flatten (List.replicate n ds).flatten
  | 0 => .nil
  | n + 1 => by
    rw [List.replicate_succ, List.replicate_succ, List.flatten_cons, List.flatten_cons]
    exact Reps.append r (Reps.rep r n)
theorem od_mul {X : Cx} : OpD X (binaryOp .Mult) rdMul := by
  refine ⟨⟨_, .or op_mulW (.or op_rep op_repT), ?_⟩, fun a b Q Q' h q => ?_⟩
  · intro B F ρ σ Hs H x y vx vy Q hk E rx ry h
    unfold rdMul at h
    split at h
    · rename_i i j ex ey
      exact .inl ⟨i, j, RW.int E rx ex, RW.int E ry ey, h.1, h.2 _ F H (.refl E) (Rep.int _)⟩
    · rename_i xs k ex ey
      obtain ⟨a, vs, rfl, h1, h2⟩ := RW.lst E rx ex
      refine .inr (.inl ⟨a, k, vs, rfl, RW.int E ry ey, h1, h.1.1, h.1.2.1, by rw [Reps.length h2]; exact h.1.2.2, fun p hp => ?_⟩)
      have n := new_lst E hp (Reps.rep h2 k.toNat)
      exact h.2 _ F _ n.1 n.2
    · rename_i xs k ex ey
      obtain ⟨a, vs, rfl, h1, h2⟩ := RW.tup E rx ex
      rw [hk] at h1
      refine .inr (.inr ⟨a, k, vs, rfl, RW.int E ry ey, h1, ?_, h.1.2.1, h.1.2.2.1, by rw [Reps.length h2]; exact h.1.2.2.2, fun p hp => ?_⟩)
      · intro e
        subst e
        have : xs = [] := by cases h2; rfl
        exact h.1.1 this
      · have n := new_tup E hp (Reps.rep h2 k.toNat)
        exact h.2 _ F _ n.1 n.2
    · exact h.elim
  · unfold rdMul at q ⊢
    split at q
    · exact ⟨q.1, h _ q.2⟩
    · exact ⟨q.1, h _ q.2⟩
    · exact ⟨q.1, h _ q.2⟩
    · exact q

def rdEq : Rd2 := fun a b Q => (shp a = true ∧ shp b = true) ∧ Q (.dat (.bl (eqD a b)))
def rdNe : Rd2 := fun a b Q => (shp a = true ∧ shp b = true) ∧ Q (.dat (.bl (!eqD a b)))
theorem shp_and {d : D} (h : shp d = true) : isPy d = true ∧ SeqAt.shaped (py d) = true := by simpa [shp] using h
theorem od_eq {X : Cx} (hu : X.A.units + 64 < cLine) : OpD X (compareOp .Eq) rdEq := by
  refine ⟨⟨_, op_eqD hu, ?_⟩, fun a b Q Q' h q => ⟨q.1, h _ q.2⟩⟩
  intro B F ρ σ Hs H x y vx vy Q hk E rx ry h
  obtain ⟨⟨h1, h2⟩, h⟩ := h
  exact ⟨_, _, hk ▸ RW.dp E rx (shp_and h1).1, hk ▸ RW.dp E ry (shp_and h2).1, (shp_and h1).2, (shp_and h2).2, h _ F H (.refl E) (Rep.bl _)⟩
theorem od_ne {X : Cx} (hu : X.A.units + 64 < cLine) : OpD X (compareOp .NotEq) rdNe := by
  refine ⟨⟨_, op_neD hu, ?_⟩, fun a b Q Q' h q => ⟨q.1, h _ q.2⟩⟩
  intro B F ρ σ Hs H x y vx vy Q hk E rx ry h
  obtain ⟨⟨h1, h2⟩, h⟩ := h
  exact ⟨_, _, hk ▸ RW.dp E rx (shp_and h1).1, hk ▸ RW.dp E ry (shp_and h2).1, (shp_and h1).2, (shp_and h2).2, h _ F H (.refl E) (Rep.bl _)⟩
/-- x in a list of data -/
def rdIn (neg : Bool) : Rd2 := fun a b Q => match b with
  | .lst l => (shp a = true ∧ shp (.lst l) = true) ∧ Q (.dat (.bl (if neg then !(l.any fun z => eqD z a) else l.any fun z => eqD z a)))
  | _ => False
theorem any_pys (l : List D) (d : PyData) : ((pys l).any fun z => PyData.eqv z d) = l.any fun z => PyData.eqv (py z) d := by
  induction l with
  | nil => rfl
  | cons a l ih => rw [pys, List.any_cons, List.any_cons, ih]
theorem od_in {X : Cx} (hu : X.A.units + 65 < cLine) : OpD X (compareOp .In) (rdIn false) := by
  refine ⟨⟨_, op_inD hu, ?_⟩, fun a b Q Q' h q => ?_⟩
  · intro B F ρ σ Hs H x y vx vy Q hk E rx ry h
    unfold rdIn at h
    split at h
    · rename_i l ey
      obtain ⟨⟨h1, h2⟩, h⟩ := h
      have e2 := RW.dp E ry (by rw [ey]; exact (shp_and h2).1)
      rw [ey, py] at e2
      refine ⟨_, pys l, hk ▸ RW.dp E rx (shp_and h1).1, hk ▸ e2, (shp_and h1).2, by have := (shp_and h2).2; rwa [py] at this, ?_⟩
      rw [any_pys]
      exact h _ F H (.refl E) (Rep.bl _)
    · exact h.elim
  · unfold rdIn at q ⊢
    split at q
    · exact ⟨q.1, h _ q.2⟩
    · exact q
theorem od_notIn {X : Cx} (hu : X.A.units + 65 < cLine) : OpD X (compareOp .NotIn) (rdIn true) := by
  refine ⟨⟨_, op_notInD hu, ?_⟩, fun a b Q Q' h q => ?_⟩
  · intro B F ρ σ Hs H x y vx vy Q hk E rx ry h
    unfold rdIn at h
    split at h
    · rename_i l ey
      obtain ⟨⟨h1, h2⟩, h⟩ := h
      have e2 := RW.dp E ry (by rw [ey]; exact (shp_and h2).1)
      rw [ey, py] at e2
      refine ⟨_, pys l, hk ▸ RW.dp E rx (shp_and h1).1, hk ▸ e2, (shp_and h1).2, by have := (shp_and h2).2; rwa [py] at this, ?_⟩
      rw [any_pys]
      exact h _ F H (.refl E) (Rep.bl _)
    · exact h.elim
  · unfold rdIn at q ⊢
    split at q
    · exact ⟨q.1, h _ q.2⟩
    · exact q
def isNon : D → Bool
  | .non => true
  | _ => false
/-- x is None -/
def rdIs (neg : Bool) : Rd2 := fun a b Q => match b with
  | .non => Q (.dat (.bl (if neg then !isNon a else isNon a)))
  | _ => False
theorem RW.isNon {B : Bg} {F : Addr → Prop} {ρ : Rho} {σ : L2.St} {H Hs : Hp} {w : W} {v : V} (E : EnvD B F ρ σ H) (h : RW B F ρ σ Hs H w v) : decide (v = V.non) = L3.isNon (val ρ w) := by
  cases hv : val ρ w with
  | lst l =>
    obtain ⟨a, vs, e1, _⟩ := RW.lst E h hv
    subst e1
    rfl
  | _ =>
    have r := RW.flat E h hv fun _ q => nomatch q
    cases r <;> rfl
theorem od_is {X : Cx} : OpD X (compareOp .Is) (rdIs false) := by
  refine ⟨⟨_, op_isN, ?_⟩, fun a b Q Q' h q => ?_⟩
  · intro B F ρ σ Hs H x y vx vy Q hk E rx ry h
    unfold rdIs at h
    split at h
    · rename_i ey
      refine ⟨RW.non E ry ey, ?_⟩
      rw [RW.isNon E rx]
      exact h _ F H (.refl E) (Rep.bl _)
    · exact h.elim
  · unfold rdIs at q ⊢
    split at q
    · exact h _ q
    · exact q
theorem od_isNot {X : Cx} : OpD X (compareOp .IsNot) (rdIs true) := by
  refine ⟨⟨_, op_notN, ?_⟩, fun a b Q Q' h q => ?_⟩
  · intro B F ρ σ Hs H x y vx vy Q hk E rx ry h
    unfold rdIs at h
    split at h
    · rename_i ey
      refine ⟨RW.non E ry ey, ?_⟩
      rw [RW.isNon E rx]
      exact h _ F H (.refl E) (Rep.bl _)
    · exact h.elim
  · unfold rdIs at q ⊢
    split at q
    · exact h _ q
    · exact q
end L3

set_option Elab.async false
set_option linter.all false
set_option maxRecDepth 100000
set_option maxHeartbeats 2000000
namespace L3
open PySem PySem.Spec PyProof.Rows L2

section
variable {X : Cx} {B : Bg} {e a b c : Expr} {es rest : List Expr} {t ta tb tc : LTE} {u v : LTT} {pos : Pos}
theorem dt_val (h : DE X B e t) (he : ∀ whole, isTrue e X.env whole = (do let v ← whole; standAt e.pos; holding [v] (truthy v)) := by intro _; rfl) : DT X B e (tTst t) :=
  ⟨h.hk, tTst_mono h.mono, pt_imp (pt_val h.pe he) (liftTst h.mono)⟩
def truD : D → Option Bool
  | .non => some false
  | .bl k => some k
  | .int i => some (i != 0)
  | .tup l => some (!l.isEmpty)
  | .lst l => some (!l.isEmpty)
  | .scr l => some (!l.isEmpty)
  | _ => none
def tTru (t : LTE) : LTT := fun ρ Q => t ρ fun w ρ' => match truD (val ρ' w) with
  | some k => Q k ρ'
  | none => False
theorem tTru_mono (m : Mono t) : Mono (tTru t) := fun ρ Q Q' h q => m _ _ _ (fun w ρ' z => by
  split at z
  · exact h _ _ z
  · exact z) q
theorem reps_nil {K : PySem.W.Frag} {F : Addr → Prop} {H : Hp} {vs : List V} {ds : List D} (h : Reps K F H vs ds) : vs.isEmpty = ds.isEmpty := by cases h <;> rfl
theorem RW.tru {F : Addr → Prop} {ρ : Rho} {σ : L2.St} {H Hs : Hp} {w : W} {v : V} {k : Bool} (E : EnvD B F ρ σ H) (h : RW B F ρ σ Hs H w v) (e : truD (val ρ w) = some k) : TruV B.K v H k := by
  cases hv : val ρ w with
  | lst l =>
    obtain ⟨a, vs, e1, h1, h2⟩ := RW.lst E h hv
    subst e1
    rw [hv] at e
    exact .inl ⟨vs, SqL.of h1, by rw [reps_nil h2]; exact (Option.some.inj e).symm⟩
  | tup l =>
    obtain ⟨a, vs, e1, h1, h2⟩ := RW.tup E h hv
    subst e1
    rw [hv] at e
    exact .inr (.inl ⟨vs, h1, by rw [reps_nil h2]; exact (Option.some.inj e).symm⟩)
  | scr l =>
    obtain ⟨a, vs, e1, h1, h2⟩ := RW.scr E h hv
    subst e1
    rw [hv] at e
    exact .inl ⟨vs, h1.sql, by rw [reps_nil h2]; exact (Option.some.inj e).symm⟩
  | non => rw [RW.non E h hv]; rw [hv] at e; exact (Option.some.inj e).symm
  | bl b => rw [RW.bl E h hv]; rw [hv] at e; exact (Option.some.inj e).symm
  | int b => rw [RW.int E h hv]; rw [hv] at e; exact (Option.some.inj e).symm
  | str b => rw [hv] at e; cases e
  | ty b => rw [hv] at e; cases e
  | fn b => rw [hv] at e; cases e
theorem dt_truth (h : DE X B e t) (he : ∀ whole, isTrue e X.env whole = (do let v ← whole; standAt e.pos; holding [v] (truthy v)) := by intro _; rfl) : DT X B e (tTru t) := by
  refine ⟨h.hk, tTru_mono h.mono, pt_imp (pt_truth h.pe he) ?_⟩
  rintro σ H Q ⟨F, ρ, E, q⟩
  refine ⟨F, ρ, E, h.mono _ _ _ (fun w ρ' z => ?_) q⟩
  intro v F' H' s r
  split at z
  · rename_i k e1
    exact ⟨k, h.hk ▸ RW.tru s.env r e1, z F' H' s⟩
  · exact z.elim

def tAndL (u v : LTT) : LTT := fun ρ Q => u ρ fun c ρ1 => if c = true then v ρ1 Q else Q false ρ1
def tOrL (u v : LTT) : LTT := fun ρ Q => u ρ fun c ρ1 => if c = true then Q true ρ1 else v ρ1 Q
def tNotL (u : LTT) : LTT := fun ρ Q => u ρ fun c ρ1 => Q (!c) ρ1
theorem tAndL_mono (m : Mono u) (n : Mono v) : Mono (tAndL u v) := fun ρ Q Q' h q => m _ _ _ (fun c ρ1 z => by
  split at z
  · rename_i e; rw [if_pos e]; exact n _ _ _ h z
  · rename_i e; rw [if_neg e]; exact h _ _ z) q
theorem tOrL_mono (m : Mono u) (n : Mono v) : Mono (tOrL u v) := fun ρ Q Q' h q => m _ _ _ (fun c ρ1 z => by
  split at z
  · rename_i e; rw [if_pos e]; exact h _ _ z
  · rename_i e; rw [if_neg e]; exact n _ _ _ h z) q
theorem tNotL_mono (m : Mono u) : Mono (tNotL u) := fun ρ Q Q' h q => m _ _ _ (fun c ρ1 z => h _ _ z) q
theorem dw_and1 (h : DT X B a u) : DW X B (.BoolOp .And [a] pos) u := ⟨h.hk, h.mono, pw_and1 h.pt⟩
theorem dw_or1 (h : DT X B a u) : DW X B (.BoolOp .Or [a] pos) u := ⟨h.hk, h.mono, pw_or1 h.pt⟩
theorem dw_and (ha : DT X B a u) (hb : DW X B (.BoolOp .And (b :: rest) pos) v) : DW X B (.BoolOp .And (a :: b :: rest) pos) (tAndL u v) := by
  refine ⟨ha.hk, tAndL_mono ha.mono hb.mono, pw_imp (pw_and ha.pt hb.pw) ?_⟩
  rintro σ H Q ⟨F, ρ, E, q⟩
  refine ⟨F, ρ, E, ha.mono _ _ _ (fun c ρ1 z => ?_) q⟩
  intro F' H' s
  split at z
  · rename_i e
    rw [if_pos e]
    exact ⟨F', ρ1, s.env, hb.mono _ _ _ (fun c ρ2 y F2 H2 s2 => y F2 H2 (s.trans E s2)) z⟩
  · rename_i e
    rw [if_neg e]
    exact z F' H' s
theorem dw_or (ha : DT X B a u) (hb : DW X B (.BoolOp .Or (b :: rest) pos) v) : DW X B (.BoolOp .Or (a :: b :: rest) pos) (tOrL u v) := by
  refine ⟨ha.hk, tOrL_mono ha.mono hb.mono, pw_imp (pw_or ha.pt hb.pw) ?_⟩
  rintro σ H Q ⟨F, ρ, E, q⟩
  refine ⟨F, ρ, E, ha.mono _ _ _ (fun c ρ1 z => ?_) q⟩
  intro F' H' s
  split at z
  · rename_i e
    rw [if_pos e]
    exact z F' H' s
  · rename_i e
    rw [if_neg e]
    exact ⟨F', ρ1, s.env, hb.mono _ _ _ (fun c ρ2 y F2 H2 s2 => y F2 H2 (s.trans E s2)) z⟩
theorem dt_not (ha : DT X B a u) : DT X B (.UnaryOp .Not a pos) (tNotL u) :=
  ⟨ha.hk, tNotL_mono ha.mono, pt_imp (pt_not ha.pt) fun σ H Q ⟨F, ρ, E, q⟩ => ⟨F, ρ, E, q⟩⟩

def tAndV (ta tb : LTE) : LTE := fun ρ Q => ta ρ fun w ρ1 => match val ρ1 w with
  | .bl c => if c = true then tb ρ1 Q else Q (.dat (.bl false)) ρ1
  | _ => False
def tOrV (ta tb : LTE) : LTE := fun ρ Q => ta ρ fun w ρ1 => match val ρ1 w with
  | .bl c => if c = true then Q (.dat (.bl true)) ρ1 else tb ρ1 Q
  | _ => False
def tNotV (ta : LTE) : LTE := fun ρ Q => ta ρ fun w ρ1 => match val ρ1 w with
  | .bl c => Q (.dat (.bl (!c))) ρ1
  | _ => False
theorem de_one {op} (h : DE X B a ta) : DE X B (.BoolOp op [a] pos) ta := ⟨h.hk, h.mono, pe_one h.pe⟩
theorem de_and (ha : DE X B a ta) (hb : DE X B (.BoolOp .And (b :: rest) pos) tb) : DE X B (.BoolOp .And (a :: b :: rest) pos) (tAndV ta tb) := by
  refine ⟨ha.hk, fun ρ Q Q' h q => ha.mono _ _ _ (fun w ρ1 z => ?_) q, pe_imp (pe_and ha.pe hb.pe) ?_⟩
  · split at z
    · split at z
      · rename_i e; rw [if_pos e]; exact hb.mono _ _ _ h z
      · rename_i e; rw [if_neg e]; exact h _ _ z
    · exact z
  rintro σ H Q ⟨F, ρ, E, q⟩
  refine ⟨F, ρ, E, ha.mono _ _ _ (fun w ρ1 z => ?_) q⟩
  intro v F' H' s r
  split at z
  · rename_i c e
    refine ⟨c, RW.bl s.env r e, ?_⟩
    split at z
    · rename_i e; rw [if_pos e]
      exact ⟨F', ρ1, s.env, hb.mono _ _ _ (fun c ρ2 y v2 F2 H2 s2 r2 => y v2 F2 H2 (s.trans E s2) (RW.back r2 s.ext.there)) z⟩
    · rename_i e; rw [if_neg e]
      exact z _ F' H' s (Rep.bl _)
  · exact z.elim
theorem de_or (ha : DE X B a ta) (hb : DE X B (.BoolOp .Or (b :: rest) pos) tb) : DE X B (.BoolOp .Or (a :: b :: rest) pos) (tOrV ta tb) := by
  refine ⟨ha.hk, fun ρ Q Q' h q => ha.mono _ _ _ (fun w ρ1 z => ?_) q, pe_imp (pe_or ha.pe hb.pe) ?_⟩
  · split at z
    · split at z
      · rename_i e; rw [if_pos e]; exact h _ _ z
      · rename_i e; rw [if_neg e]; exact hb.mono _ _ _ h z
    · exact z
  rintro σ H Q ⟨F, ρ, E, q⟩
  refine ⟨F, ρ, E, ha.mono _ _ _ (fun w ρ1 z => ?_) q⟩
  intro v F' H' s r
  split at z
  · rename_i c e
    refine ⟨c, RW.bl s.env r e, ?_⟩
    split at z
    · rename_i e; rw [if_pos e]
      exact z _ F' H' s (Rep.bl _)
    · rename_i e; rw [if_neg e]
      exact ⟨F', ρ1, s.env, hb.mono _ _ _ (fun c ρ2 y v2 F2 H2 s2 r2 => y v2 F2 H2 (s.trans E s2) (RW.back r2 s.ext.there)) z⟩
  · exact z.elim
theorem de_not (ha : DE X B a ta) : DE X B (.UnaryOp .Not a pos) (tNotV ta) := by
  refine ⟨ha.hk, fun ρ Q Q' h q => ha.mono _ _ _ (fun w ρ1 z => ?_) q, pe_imp (pe_not ha.pe) ?_⟩
  · split at z
    · exact h _ _ z
    · exact z
  rintro σ H Q ⟨F, ρ, E, q⟩
  refine ⟨F, ρ, E, ha.mono _ _ _ (fun w ρ1 z => ?_) q⟩
  intro v F' H' s r
  split at z
  · rename_i c e
    exact ⟨c, RW.bl s.env r e, z _ F' H' s (Rep.bl _)⟩
  · exact z.elim
def tIfL (u : LTT) (ta tb : LTE) : LTE := fun ρ Q => u ρ fun c ρ1 => if c = true then ta ρ1 Q else tb ρ1 Q
theorem de_if (hc : DT X B c u) (ha : DE X B a ta) (hb : DE X B b tb) : DE X B (.IfExp c a b pos) (tIfL u ta tb) := by
  refine ⟨hc.hk, fun ρ Q Q' h q => hc.mono _ _ _ (fun w ρ1 z => ?_) q, pe_imp (pe_ifExp hc.pt ha.pe hb.pe) ?_⟩
  · split at z
    · rename_i e; rw [if_pos e]; exact ha.mono _ _ _ h z
    · rename_i e; rw [if_neg e]; exact hb.mono _ _ _ h z
  rintro σ H Q ⟨F, ρ, E, q⟩
  refine ⟨F, ρ, E, hc.mono _ _ _ (fun c ρ1 z => ?_) q⟩
  intro F' H' s
  split at z
  · rename_i e; rw [if_pos e]
    exact ⟨F', ρ1, s.env, ha.mono _ _ _ (fun c ρ2 y v2 F2 H2 s2 r2 => y v2 F2 H2 (s.trans E s2) (RW.back r2 s.ext.there)) z⟩
  · rename_i e; rw [if_neg e]
    exact ⟨F', ρ1, s.env, hb.mono _ _ _ (fun c ρ2 y v2 F2 H2 s2 r2 => y v2 F2 H2 (s.trans E s2) (RW.back r2 s.ext.there)) z⟩

def tChn (r r' : Rd2) (ta tb tc : LTE) : LTE := fun ρ Q => ta ρ fun x ρ1 => tb ρ1 fun y ρ2 => r (val ρ2 x) (val ρ2 y) fun z => match val ρ2 z with
  | .bl k => if k = true then tc ρ2 fun w ρ3 => r' (val ρ3 y) (val ρ3 w) fun z' => Q z' ρ3 else Q (.dat (.bl false)) ρ2
  | _ => False
theorem tChn_mono {r r' : Rd2} (m : MonoR r) (m' : MonoR r') (ha : Mono ta) (hb : Mono tb) (hc : Mono tc) : Mono (tChn r r' ta tb tc) := fun ρ Q Q' h q =>
  ha _ _ _ (fun x ρ1 q1 => hb _ _ _ (fun y ρ2 q2 => m _ _ _ _ (fun z q3 => by
    split at q3
    · split at q3
      · rename_i e; rw [if_pos e]; exact hc _ _ _ (fun w ρ3 q4 => m' _ _ _ _ (fun z' q5 => h _ _ q5) q4) q3
      · rename_i e; rw [if_neg e]; exact h _ _ q3
    · exact q3) q2) q1) q
theorem lift_chn {r r' : R2} {rd rd' : Rd2} (hk : B.K = X.K) (hs : Snd2 X.K r rd) (hs' : Snd2 X.K r' rd') (m : MonoR rd) (m' : MonoR rd') (ma : Mono ta) (mb : Mono tb) (mc : Mono tc) :
    ∀ σ H Q, lift B (tChn rd rd' ta tb tc) σ H Q → tChain r r' (lift B ta) (lift B tb) (lift B tc) σ H Q := by
  rintro σ H Q ⟨F, ρ, E, q⟩
  refine ⟨F, ρ, E, ma _ _ _ (fun x ρ1 q1 => ?_) q⟩
  intro vx F1 H1 s1 r1
  refine ⟨F1, ρ1, s1.env, mb _ _ _ (fun y ρ2 q2 => ?_) q1⟩
  intro vy F2 H2 s2 r2
  have s12 := s1.trans E s2
  refine hs B F2 ρ2 σ H H2 x y vx vy _ hk s2.env (RW.stp s1.env r1 s2) (RW.back r2 s1.ext.there) (m _ _ _ _ (fun z q3 v F3 H3 s3 r3 => ?_) q2)
  split at q3
  · rename_i k e
    have e3 := RW.bl s3.env r3 (by exact e)
    refine ⟨k, e3, ?_⟩
    split at q3
    · rename_i ek; rw [if_pos ek]
      refine ⟨F3, ρ2, s3.env, mc _ _ _ (fun w ρ3 q4 => ?_) q3⟩
      intro vw F4 H4 s4 r4
      have s34 := s3.trans s2.env s4
      have s14 := s12.trans E s34
      exact hs' B F4 ρ3 σ H H4 y w vy vw Q hk s4.env (RW.stp s2.env (RW.back r2 s1.ext.there) s34) (RW.back r4 (s12.trans E s3).ext.there) (m' _ _ _ _ (fun z' h v' F' H' s' r' => h v' F' H' (s14.trans E s') (RW.back r' s14.ext.there)) q4)
    · rename_i ek; rw [if_neg ek]
      exact q3 _ F3 H3 (s12.trans E s3) (Rep.bl _)
  · exact q3.elim
theorem de_chain {op op' : CmpOp} {rd rd' : Rd2} (ho : OpD X (compareOp op) rd) (ho' : OpD X (compareOp op') rd') (ha : DE X B a ta) (hb : DE X B b tb) (hc : DE X B c tc) (hl : lastMarks [op, op'] [b, c] = false := by rfl) :
    DE X B (.Compare a [op, op'] [b, c] pos) (tChn rd rd' ta tb tc) := by
  obtain ⟨⟨r, h1, h2⟩, m⟩ := ho
  obtain ⟨⟨r', h1', h2'⟩, m'⟩ := ho'
  exact ⟨ha.hk, tChn_mono m m' ha.mono hb.mono hc.mono, pe_imp (pe_chain h1 h1' ha.pe hb.pe hc.pe hl) (lift_chn ha.hk h2 h2' m m' ha.mono hb.mono hc.mono)⟩
theorem dt_chain {op op' : CmpOp} {rd rd' : Rd2} (ho : OpD X (compareOp op) rd) (ho' : OpD X (compareOp op') rd') (ha : DE X B a ta) (hb : DE X B b tb) (hc : DE X B c tc) (hl : lastMarks [op, op'] [b, c] = false := by rfl) :
    DT X B (.Compare a [op, op'] [b, c] pos) (tTst (tChn rd rd' ta tb tc)) := by
  obtain ⟨⟨r, h1, h2⟩, m⟩ := ho
  obtain ⟨⟨r', h1', h2'⟩, m'⟩ := ho'
  have mm := tChn_mono m m' ha.mono hb.mono hc.mono
  exact ⟨ha.hk, tTst_mono mm, pt_imp (pt_chain h1 h1' ha.pe hb.pe hc.pe hl) fun σ H Q h => lift_chn ha.hk h2 h2' m m' ha.mono hb.mono hc.mono σ H _ (liftTst mm σ H Q h)⟩

def atD (l : List D) (i : Int) : Option D := (ixN l.length i).bind fun j => l[j]?
theorem Reps.atI {K : PySem.W.Frag} {F : Addr → Prop} {H : Hp} {vs : List V} {ds : List D} {i : Int} {d : D} (h : Reps K F H vs ds) (e : atD ds i = some d) : ∃ v, L2.atI vs i = some v ∧ Rep K F H v d := by
  unfold atD at e
  unfold L2.atI
  rw [Reps.length h]
  cases q : ixN ds.length i with
  | none => rw [q] at e; cases e
  | some j =>
    rw [q] at e
    exact Reps.get h (by simpa using e)
def rdIx : Rd2 := fun a b Q => match a, b with
  | .tup l, .int i => match atD l i with
    | some d => Q (.dat d)
    | none => False
  | .lst l, .int i => match atD l i with
    | some d => Q (.dat d)
    | none => False
  | .scr l, .int i => match atD l i with
    | some d => Q (.dat d)
    | none => False
  | .str z, .int i => match L2.atI z.cps.toList i with
    | some c => z.length ≤ sizeLine ∧ Q (.dat (.str ⟨#[c]⟩))
    | none => False
  | _, _ => False
theorem snd_ix : Snd2 X.K (rIx X.K) rdIx := by
  intro B F ρ σ Hs H x y vx vy Q hk E rx ry h
  unfold rdIx at h
  split at h
  · rename_i l i ex ey
    split at h
    · rename_i d e
      obtain ⟨a, vs, rfl, h1, h2⟩ := RW.tup E rx ex
      obtain ⟨v, h3, h4⟩ := Reps.atI h2 e
      exact .inr (.inl ⟨a, vs, i, v, rfl, RW.int E ry ey, hk ▸ h1, h3, h _ F H (.refl E) h4⟩)
    · exact h.elim
  · rename_i l i ex ey
    split at h
    · rename_i d e
      obtain ⟨a, vs, rfl, h1, h2⟩ := RW.lst E rx ex
      obtain ⟨v, h3, h4⟩ := Reps.atI h2 e
      exact .inl ⟨a, vs, i, v, rfl, RW.int E ry ey, SqL.of h1, h3, h _ F H (.refl E) h4⟩
    · exact h.elim
  · rename_i l i ex ey
    split at h
    · rename_i d e
      obtain ⟨a, vs, rfl, h1, h2⟩ := RW.scr E rx ex
      obtain ⟨v, h3, h4⟩ := Reps.atI h2 e
      exact .inl ⟨a, vs, i, v, rfl, RW.int E ry ey, hk ▸ h1.sql, h3, h _ F H (.refl E) h4⟩
    · exact h.elim
  · rename_i z i ex ey
    split at h
    · rename_i c e
      exact .inr (.inr ⟨z, i, c, RW.str E rx ex, RW.int E ry ey, h.1, e, h.2 _ F H (.refl E) (Rep.str _)⟩)
    · exact h.elim
  · exact h.elim
theorem rdIx_mono : MonoR rdIx := fun a b Q Q' h q => by
  unfold rdIx at q ⊢
  split at q
  · split at q
    · rename_i e; exact h _ q
    · exact q
  · split at q
    · rename_i e; exact h _ q
    · exact q
  · split at q
    · rename_i e; exact h _ q
    · exact q
  · split at q
    · rename_i e; exact ⟨q.1, h _ q.2⟩
    · exact q
  · exact q
theorem de_ix (ha : DE X B a ta) (hb : DE X B b tb) (hs : PlainIx b := by exact fun _ _ => rfl) : DE X B (.Subscript a b pos) (t2 rdIx ta tb) :=
  ⟨ha.hk, t2_mono rdIx_mono ha.mono hb.mono, pe_imp (pe_ix ix_seq ha.pe hb.pe hs) (lift2 ha.hk snd_ix rdIx_mono ha.mono hb.mono)⟩
end
end L3

set_option Elab.async false
set_option linter.all false
set_option maxRecDepth 100000
set_option maxHeartbeats 2000000
namespace L3
open PySem PySem.Spec PyProof.Rows L2

abbrev LTO := Rho → (Option Int → Rho → Prop) → Prop
def liftO (B : Bg) (t : LTO) : TO := fun σ H Q => ∃ F ρ, EnvD B F ρ σ H ∧ t ρ fun o ρ' => ∀ F' H', Stp B σ F ρ H F' ρ' H' → Q o H'
structure DO (X : Cx) (B : Bg) (e : Option Expr) (t : LTO) : Prop where
  mono : Mono t
  po : PO X e (liftO B t)
section
variable {X : Cx} {B : Bg} {e a b : Expr} {es : List Expr} {t ta tb : LTE} {pos : Pos}
def tNoP : LTO := fun ρ Q => Q none ρ
def tPrt (t : LTE) : LTO := fun ρ Q => t ρ fun w ρ' => match val ρ' w with
  | .int i => Q (some i) ρ'
  | _ => False
theorem po_imp {e : Option Expr} {t t' : TO} (h : PO X e t) (i : ∀ σ H Q, t' σ H Q → t σ H Q) : PO X e t' := ⟨fun pins s σ H Q I q => h.run pins s σ H Q I (i σ H Q q)⟩
theorem do_none : DO X B none tNoP := ⟨fun _ _ _ h q => h _ _ q, po_imp po_none fun σ H Q ⟨F, ρ, E, q⟩ => q F H (.refl E)⟩
theorem do_some (h : DE X B e t) : DO X B (some e) (tPrt t) := by
  refine ⟨fun ρ Q Q' i q => h.mono _ _ _ (fun w ρ' z => ?_) q, po_imp (po_some h.pe) ?_⟩
  · split at z
    · exact i _ _ z
    · exact z
  rintro σ H Q ⟨F, ρ, E, q⟩
  refine ⟨F, ρ, E, h.mono _ _ _ (fun w ρ' z => ?_) q⟩
  intro v F' H' s r
  split at z
  · rename_i i e1
    exact ⟨i, RW.int s.env r e1, z F' H' s⟩
  · exact z.elim
def cutD (l : List D) (lo hi : Option Int) : List D := (l.drop (HT.sIx l.length 0 lo)).take (HT.sIx l.length l.length hi - HT.sIx l.length 0 lo)
theorem Reps.cut {K : PySem.W.Frag} {F : Addr → Prop} {H : Hp} {vs : List V} {ds : List D} {lo hi : Option Int} (h : Reps K F H vs ds) : Reps K F H (cutV vs lo hi) (cutD ds lo hi) := by
  unfold cutV cutD
  rw [Reps.length h]
  exact Reps.take _ (Reps.drop _ h)
def rdSl (a : D) (lo hi : Option Int) (Q : W → Prop) : Prop := match a with
  | .lst l => Q (.new (cutD l lo hi))
  | .tup l => Q (.dat (.tup (cutD l lo hi)))
  | .str z => z.length ≤ sizeLine ∧ Q (.dat (.str (cutS z lo hi)))
  | _ => False
def tSlc (t : LTE) (tl th : LTO) : LTE := fun ρ Q => t ρ fun x ρ1 => tl ρ1 fun lo ρ2 => th ρ2 fun hi ρ3 => rdSl (val ρ3 x) lo hi fun w => Q w ρ3
theorem rdSl_mono {a : D} {lo hi : Option Int} {Q Q' : W → Prop} (h : ∀ w, Q w → Q' w) (q : rdSl a lo hi Q) : rdSl a lo hi Q' := by
  unfold rdSl at q ⊢
  split at q
  · exact h _ q
  · exact h _ q
  · exact ⟨q.1, h _ q.2⟩
  · exact q
theorem de_slice {lo hi : Option Expr} {tl th : LTO} {p2 : Pos} (he : DE X B e t) (hl : DO X B lo tl) (hh : DO X B hi th) : DE X B (.Subscript e (.Slice lo hi none p2) pos) (tSlc t tl th) := by
  refine ⟨he.hk, fun ρ Q Q' h q => he.mono _ _ _ (fun x ρ1 q1 => hl.mono _ _ _ (fun o ρ2 q2 => hh.mono _ _ _ (fun o' ρ3 q3 => rdSl_mono (fun w => h w ρ3) q3) q2) q1) q,
    pe_imp (pe_slice (SlR.or sl_list (SlR.or sl_tupA sl_str)) he.pe hl.po hh.po) ?_⟩
  rintro σ H Q ⟨F, ρ, E, q⟩
  refine ⟨F, ρ, E, he.mono _ _ _ (fun x ρ1 q1 => ?_) q⟩
  intro vx F1 H1 s1 r1
  refine ⟨F1, ρ1, s1.env, hl.mono _ _ _ (fun lo ρ2 q2 => ?_) q1⟩
  intro F2 H2 s2
  refine ⟨F2, ρ2, s2.env, hh.mono _ _ _ (fun hi ρ3 q3 => ?_) q2⟩
  intro F3 H3 s3
  have s23 := s2.trans s1.env s3
  have s13 := s1.trans E s23
  have r3 := RW.stp s1.env r1 s23
  unfold rdSl at q3
  split at q3
  · rename_i l ev
    obtain ⟨a, vs, e1, h1, h2⟩ := RW.lst s3.env r3 ev
    subst e1
    refine .inl ⟨a, vs, rfl, SqL.of h1, fun p hp => ?_⟩
    have n := new_lst s3.env hp (Reps.cut (lo := lo) (hi := hi) h2)
    exact q3 _ F3 _ (s13.trans E n.1) (RW.back n.2 s13.ext.there)
  · rename_i l ev
    obtain ⟨a, vs, e1, h1, h2⟩ := RW.tup s3.env r3 ev
    subst e1
    refine .inr (.inl ⟨a, vs, rfl, he.hk ▸ h1, fun ⟨w1, w2⟩ => ?_, fun _ p hp => ?_⟩)
    · have hc : cutD l lo hi = l := by
        unfold cutD
        rw [Reps.length h2] at w1 w2
        rw [w1, w2]
        simp
      rw [hc] at q3
      exact q3 _ F3 H3 s13 (Rep.tup h1 h2)
    · have n := new_tup s3.env hp (Reps.cut (lo := lo) (hi := hi) h2)
      exact q3 _ F3 _ (s13.trans E n.1) (RW.back n.2 s13.ext.there)
  · rename_i z ev
    exact .inr (.inr ⟨z, RW.str s3.env r3 ev, q3.1, q3.2 _ F3 H3 s13 (Rep.str _)⟩)
  · exact q3.elim

def aNil : LTA := fun ρ Q => Q [] ρ
def aCons (t : LTE) (u : LTA) : LTA := fun ρ Q => t ρ fun w ρ1 => u ρ1 fun ws ρ2 => Q (w :: ws) ρ2
def itemsOf : D → Option (List D)
  | .tup l => some l
  | .lst l => some l
  | _ => none
def aStar (t : LTE) (u : LTA) : LTA := fun ρ Q => t ρ fun w ρ1 => match itemsOf (val ρ1 w) with
  | some l => u ρ1 fun ws ρ2 => Q (l.map .dat ++ ws) ρ2
  | none => False
theorem da_nil (hk : B.K = X.K := by rfl) : DA X B [] aNil := ⟨hk, fun _ _ _ h q => h _ _ q, pa_imp pa_nil fun σ H Q ⟨F, ρ, E, q⟩ => q [] F H (.refl E) .nil⟩
theorem da_cons {u : LTA} (ha : DE X B e t) (hr : DA X B es u) (hs : starEach (e :: es) X.env = (false, eval e X.env) :: starEach es X.env := by rfl) : DA X B (e :: es) (aCons t u) := by
  refine ⟨ha.hk, fun ρ Q Q' h q => ha.mono _ _ _ (fun w ρ1 q1 => hr.mono _ _ _ (fun ws ρ2 q2 => h _ _ q2) q1) q, pa_imp (pa_cons ha.pe hr.pa hs) ?_⟩
  rintro σ H Q ⟨F, ρ, E, q⟩
  refine ⟨F, ρ, E, ha.mono _ _ _ (fun w ρ1 q1 => ?_) q⟩
  intro v F1 H1 s1 r1
  refine ⟨F1, ρ1, s1.env, hr.mono _ _ _ (fun ws ρ2 q2 => ?_) q1⟩
  intro vs F2 H2 s2 r2
  exact q2 _ F2 H2 (s1.trans E s2) (.cons (RW.stp s1.env r1 s2) (RWs.back r2 s1.ext.there) (apt_stp r1 r2))
theorem RWs.dats {F : Addr → Prop} {ρ : Rho} {σ : L2.St} {Hs H : Hp} : ∀ {ds : List D} {vs : List V}, Reps B.K F H vs ds → RWs B F ρ σ Hs H (ds.map .dat) vs
  | [], _, .nil => .nil
  | _ :: _, _, .cons a r => .cons a (RWs.dats r) (apt_of fun _ z => by cases z)
theorem RWs.app {F : Addr → Prop} {ρ : Rho} {σ : L2.St} {Hs H : Hp} {us : List W} {xs : List V} (h' : RWs B F ρ σ Hs H us xs) : ∀ {ds : List D} {vs : List V}, Reps B.K F H vs ds → RWs B F ρ σ Hs H (ds.map .dat ++ us) (vs ++ xs)
  | [], _, .nil => h'
  | _ :: _, _, .cons a r => .cons a (RWs.app h' r) (apt_of fun _ z => by cases z)
theorem RW.items {F : Addr → Prop} {ρ : Rho} {σ : L2.St} {Hs H : Hp} {w : W} {v : V} {l : List D} (E : EnvD B F ρ σ H) (h : RW B F ρ σ Hs H w v) (e : itemsOf (val ρ w) = some l) : ∃ a vs, v = .ref a ∧ (SqT B.K H a vs ∨ SqL B.K H a vs) ∧ Reps B.K F H vs l := by
  unfold itemsOf at e
  split at e
  · rename_i l' ev
    cases e
    obtain ⟨a, vs, e1, h1, h2⟩ := RW.tup E h ev
    exact ⟨a, vs, e1, .inl h1, h2⟩
  · rename_i l' ev
    cases e
    obtain ⟨a, vs, e1, h1, h2⟩ := RW.lst E h ev
    exact ⟨a, vs, e1, .inr (SqL.of h1), h2⟩
  · cases e
theorem da_star {u : LTA} {p : Pos} (ha : DE X B e t) (hr : DA X B es u) (hs : starEach (.Starred e p :: es) X.env = (true, eval e X.env) :: starEach es X.env := by rfl) : DA X B (.Starred e p :: es) (aStar t u) := by
  refine ⟨ha.hk, fun ρ Q Q' h q => ha.mono _ _ _ (fun w ρ1 q1 => ?_) q, pa_imp (StX.pa_star ha.pe hr.pa hs) ?_⟩
  · split at q1
    · exact hr.mono _ _ _ (fun ws ρ2 q2 => h _ _ q2) q1
    · exact q1
  rintro σ H Q ⟨F, ρ, E, q⟩
  refine ⟨F, ρ, E, ha.mono _ _ _ (fun w ρ1 q1 => ?_) q⟩
  intro v F1 H1 s1 r1
  split at q1
  · rename_i l ev
    obtain ⟨a, vs, e1, h1, h2⟩ := RW.items s1.env r1 ev
    refine ⟨a, vs, e1, ha.hk ▸ h1, F1, ρ1, s1.env, hr.mono _ _ _ (fun ws ρ2 q2 => ?_) q1⟩
    intro us F2 H2 s2 r2
    exact q2 _ F2 H2 (s1.trans E s2) (RWs.app (RWs.back r2 s1.ext.there) (Reps.stp s1.env h2 s2))
  · exact q1.elim

def tTupL (u : LTA) : LTE := fun ρ Q => u ρ fun ws ρ1 => (ws.all nz = true ∧ ws.length ≤ sizeLine) ∧ Q (.dat (.tup (ws.map (val ρ1)))) (frzs ws ρ1)
def tLstL (u : LTA) : LTE := fun ρ Q => u ρ fun ws ρ1 => (ws.all nz = true ∧ ws.length ≤ sizeLine) ∧ Q (.new (ws.map (val ρ1))) (frzs ws ρ1)
theorem de_tup {u : LTA} {x1} (h : DA X B es u) : DE X B (.Tuple es x1 pos) (tTupL u) := by
  refine ⟨h.hk, fun ρ Q Q' i q => h.mono _ _ _ (fun ws ρ1 z => ⟨z.1, i _ _ z.2⟩) q, pe_imp (pe_tup h.pa) ?_⟩
  rintro σ H Q ⟨F, ρ, E, q⟩
  refine ⟨F, ρ, E, h.mono _ _ _ (fun ws ρ1 z => ?_) q⟩
  intro vs F1 H1 s1 r1
  refine ⟨by rw [← RWs.length r1]; exact z.1.2, fun p hp => ?_⟩
  obtain ⟨F2, s2, r2⟩ := settle E s1 r1 z.1.1
  have n := new_tup s2.env hp r2
  exact z.2 _ F2 _ (s2.trans E n.1) (RW.back n.2 s2.ext.there)
theorem de_lst {u : LTA} (h : DA X B es u) : DE X B (.List es pos) (tLstL u) := by
  refine ⟨h.hk, fun ρ Q Q' i q => h.mono _ _ _ (fun ws ρ1 z => ⟨z.1, i _ _ z.2⟩) q, pe_imp (pe_lst h.pa) ?_⟩
  rintro σ H Q ⟨F, ρ, E, q⟩
  refine ⟨F, ρ, E, h.mono _ _ _ (fun ws ρ1 z => ?_) q⟩
  intro vs F1 H1 s1 r1
  refine ⟨by rw [← RWs.length r1]; exact z.1.2, fun p hp => ?_⟩
  obtain ⟨F2, s2, r2⟩ := settle E s1 r1 z.1.1
  have n := new_lst s2.env hp r2
  exact z.2 _ F2 _ (s2.trans E n.1) (RW.back n.2 s2.ext.there)

abbrev RdC := List D → (W → Prop) → Prop
def MonoC (rd : RdC) : Prop := ∀ l Q Q', (∀ w, Q w → Q' w) → rd l Q → rd l Q'
def SndC (K : PySem.W.Frag) (r : List V → Hp → VK → Prop) (rd : RdC) : Prop := ∀ (B : Bg) (F : Addr → Prop) (ρ : Rho) (σ : L2.St) (Hs H : Hp) (ws : List W) (vs : List V) (Q : VK), B.K = K → EnvD B F ρ σ H → RWs B F ρ σ Hs H ws vs →
  rd (ws.map (val ρ)) (fun w => ∀ v F' H', Stp B σ F ρ H F' ρ H' → RW B F' ρ σ H H' w v → Q v H') → r vs H Q
structure CallD (X : Cx) (f : Value) (rd : RdC) : Prop where
  ex : ∃ r, CallR X f r ∧ SndC X.K r rd
  mono : MonoC rd
def tCD (rd : RdC) (u : LTA) : LTE := fun ρ Q => u ρ fun ws ρ1 => rd (ws.map (val ρ1)) fun w => Q w ρ1
theorem tCD_mono {rd : RdC} {u : LTA} (m : MonoC rd) (hu : Mono u) : Mono (tCD rd u) := fun ρ Q Q' h q => hu _ _ _ (fun ws ρ1 z => m _ _ _ (fun w => h w ρ1) z) q
theorem liftC {r : List V → Hp → VK → Prop} {rd : RdC} {u : LTA} (hk : B.K = X.K) (hs : SndC X.K r rd) (m : MonoC rd) (mu : Mono u) : ∀ σ H Q, lift B (tCD rd u) σ H Q → tCB r (liftA B u) σ H Q := by
  rintro σ H Q ⟨F, ρ, E, q⟩
  refine ⟨F, ρ, E, mu _ _ _ (fun ws ρ1 q1 => ?_) q⟩
  intro vs F1 H1 s1 r1
  exact hs B F1 ρ1 σ H H1 ws vs Q hk s1.env r1 (m _ _ _ (fun w h v F' H' s' r' => h v F' H' (s1.trans E s') (RW.back r' s1.ext.there)) q1)
theorem de_callB {x : Str} {p : Pos} {u : LTA} {id : String} {rd : RdC} (hc : CallD X (.builtin id) rd) (hg : Gl X x) (hm : X.mg x = none) (hv : bootBuiltins x = some (.builtin id)) (ha : DA X B (e :: es) u) (hn : x ≠ "__name__" := by decide) (hdb : (x == ("__debug__" : Str)) = false := by decide)
    (he : starEach (e :: es) X.env = (false, eval e X.env) :: starEach es X.env := by rfl) (hpl : (backTo pos (starEach es X.env)).any (·.1) = false := by rfl) : DE X B (.Call (.Name x p) (e :: es) [] pos) (tCD rd u) := by
  obtain ⟨⟨r, h1, h2⟩, m⟩ := hc
  exact ⟨ha.hk, tCD_mono m ha.mono, pe_imp (pe_callB h1 hg hm hv ha.pa hn hdb he hpl) (liftC ha.hk h2 m ha.mono)⟩
theorem de_callTy {x : Str} {p : Pos} {u : LTA} {T : String} {rd : RdC} (hc : CallD X (.type T) rd) (hg : Gl X x) (hm : X.mg x = none) (hv : bootBuiltins x = some (.type T)) (ha : DA X B (e :: es) u) (hn : x ≠ "__name__" := by decide) (hdb : (x == ("__debug__" : Str)) = false := by decide)
    (he : starEach (e :: es) X.env = (false, eval e X.env) :: starEach es X.env := by rfl) (hpl : (backTo pos (starEach es X.env)).any (·.1) = false := by rfl) : DE X B (.Call (.Name x p) (e :: es) [] pos) (tCD rd u) := by
  obtain ⟨⟨r, h1, h2⟩, m⟩ := hc
  exact ⟨ha.hk, tCD_mono m ha.mono, pe_imp (pe_callTy h1 hg hm hv ha.pa hn hdb he hpl) (liftC ha.hk h2 m ha.mono)⟩
end
end L3

set_option Elab.async false
set_option linter.all false
set_option maxRecDepth 100000
set_option maxHeartbeats 2000000
namespace L3
open PySem PySem.Spec PyProof.Rows L2

structure LEnds where
  nx : Rho → Prop
  rt : W → Rho → Prop
  bk : Rho → Prop := fun _ => False
  ct : Rho → Prop := fun _ => False
abbrev LTS := LEnds → Rho → Prop
/-- a run over statements -/
structure Run (B : Bg) (σ : L2.St) (F : Addr → Prop) (ρ : Rho) (H : Hp) (σ' : L2.St) (F' : Addr → Prop) (ρ' : Rho) (H' : Hp) : Prop where
  env : EnvD B F' ρ' σ' H'
  ext : Ext (OwnA ρ σ) F F' H H'
  own : ∀ b, OwnA ρ' σ' b → OwnA ρ σ b ∨ H b = none
/-- what a def gives back -/
def RV (B : Bg) (F : Addr → Prop) (H : Hp) : W → V → Prop
  | .dat d, v => Rep B.K F H v d
  | .new l, v => ∃ p vs, v = .ref p ∧ H p = some (.lst vs) ∧ Reps B.K F H vs l ∧ ¬ F p ∧ B.H0 p = none
  | .ref _, _ => False
def retW (ρ : Rho) : W → W
  | .ref i => match ρ[i]? with
    | some (.own l) => .new l
    | some (.dat d) => .dat d
    | _ => .dat .non
  | w => w

section
variable {X : Cx} {B : Bg} {F F' F'' : Addr → Prop} {ρ ρ' ρ'' : Rho} {σ σ' σ'' : L2.St} {H H' H'' Hs : Hp} {w : W} {v : V}
theorem Run.refl (E : EnvD B F ρ σ H) : Run B σ F ρ H σ F ρ H := ⟨E, .refl, fun _ h => .inl h⟩
theorem Stp.run (s : Stp B σ F ρ H F' ρ' H') : Run B σ F ρ H σ F' ρ' H' := ⟨s.env, s.ext, s.own⟩
theorem Run.trans (a : Run B σ F ρ H σ' F' ρ' H') (b : Run B σ' F' ρ' H' σ'' F'' ρ'' H'') : Run B σ F ρ H σ'' F'' ρ'' H'' where
  env := b.env
  ext := {
    keep := fun c o h n t => b.ext.keep c o (a.ext.keep c o h n t) (fun q => (a.own c q).elim n fun z => by rw [h] at z; cases z) t
    there := fun c h => b.ext.there c (a.ext.there c h)
    up := fun c h => b.ext.up c (a.ext.up c h)
    new := fun c h => by
      rcases b.ext.new c h with h | h | h
      · exact a.ext.new c h
      · refine .inr (.inl ?_)
        cases q : H c with
        | none => rfl
        | some o => exact absurd h (a.ext.there c (by rw [q]; exact fun z => nomatch z))
      · rcases a.own c h with h | h
        · exact .inr (.inr h)
        · exact .inr (.inl h) }
  own := fun c h => by
    rcases b.own c h with h | h
    · exact a.own c h
    · refine .inr ?_
      cases q : H c with
      | none => rfl
      | some o => exact absurd h (a.ext.there c (by rw [q]; exact fun z => nomatch z))
theorem Rep.run {v : V} {d : D} (E : EnvD B F ρ σ H) (h : Rep B.K F H v d) (s : Run B σ F ρ H σ' F' ρ' H') : Rep B.K F' H' v d := Rep.keep s.ext E.ownL E.ownF d h
theorem Reps.run {v : List V} {d : List D} (E : EnvD B F ρ σ H) (h : Reps B.K F H v d) (s : Run B σ F ρ H σ' F' ρ' H') : Reps B.K F' H' v d := Reps.keep s.ext E.ownL E.ownF d h
theorem RW.rv (E : EnvD B F ρ σ H) (h : RW B F ρ σ Hs H w v) (hs : ∀ b, B.H0 b ≠ none → Hs b ≠ none) (z : nz w = true) : RV B F H (retW ρ w) v := by
  cases w with
  | dat d => exact h
  | new l =>
    obtain ⟨p, vs, e, h1, h2, h3, h4, h5⟩ := h
    refine ⟨p, vs, e, h1, h2, h3, ?_⟩
    cases q : B.H0 p with
    | none => rfl
    | some o => exact absurd h5 (hs p (by rw [q]; exact fun y => nomatch y))
  | ref i =>
    obtain ⟨h1, s, h2, h3⟩ := h
    show RV B F H (match ρ[i]? with | some (.own l) => .new l | some (.dat d) => .dat d | _ => .dat .non) v
    rw [h2]
    cases s with
    | un => exact absurd rfl h3
    | dat d =>
      obtain ⟨v', e1, r⟩ := E.dat i d h2
      rw [h1] at e1; cases e1
      exact r
    | own l =>
      obtain ⟨p, vs, e1, e2, e3, e4, e5⟩ := E.own i l h2
      rw [h1] at e1; cases e1
      refine ⟨p, vs, rfl, e2, e3, e4, ?_⟩
      rcases e5 with e5 | e5
      · exact e5
      · obtain ⟨h0, l0, h0'⟩ := E.mp p e5
        have : i = 0 := E.apart i 0 l l0 p h2 h0' h1 h0
        subst this
        cases z

structure LC (B : Bg) (σ : L2.St) (F : Addr → Prop) (ρ : Rho) (H : Hp) (L : LEnds) (D : Ends) : Prop where
  nx : ∀ σ' F' ρ' H', Run B σ F ρ H σ' F' ρ' H' → L.nx ρ' → D.nx σ' H'
  rt : ∀ w v σ' F' ρ' H', Run B σ F ρ H σ' F' ρ' H' → RV B F' H' w v → L.rt w ρ' → D.rt v H'
  bk : ∀ σ' F' ρ' H', Run B σ F ρ H σ' F' ρ' H' → L.bk ρ' → D.bk σ' H'
  ct : ∀ σ' F' ρ' H', Run B σ F ρ H σ' F' ρ' H' → L.ct ρ' → D.ct σ' H'
theorem LC.step {L : LEnds} {D : Ends} (c : LC B σ F ρ H L D) (r : Run B σ F ρ H σ' F' ρ' H') : LC B σ' F' ρ' H' L D :=
  ⟨fun _ _ _ _ r' q => c.nx _ _ _ _ (r.trans r') q, fun _ _ _ _ _ _ r' rv q => c.rt _ _ _ _ _ _ (r.trans r') rv q, fun _ _ _ _ r' q => c.bk _ _ _ _ (r.trans r') q, fun _ _ _ _ r' q => c.ct _ _ _ _ (r.trans r') q⟩
def liftS (B : Bg) (t : LTS) : TS := fun D σ H => ∃ F ρ L, EnvD B F ρ σ H ∧ LC B σ F ρ H L D ∧ t L ρ
structure DSt (X : Cx) (B : Bg) (st : Stmt) (t : LTS) : Prop where
  hk : B.K = X.K
  ps : PS X st (liftS B t)
structure DSs (X : Cx) (B : Bg) (st : List Stmt) (t : LTS) : Prop where
  hk : B.K = X.K
  ps : PSs X st (liftS B t)
theorem ps_imp {st : Stmt} {t t' : TS} (h : PS X st t) (i : ∀ D σ H, t' D σ H → t D σ H) : PS X st t' := ⟨fun pins s σ H D I q => h.run pins s σ H D I (i D σ H q)⟩
theorem pss_imp {st : List Stmt} {t t' : TS} (h : PSs X st t) (i : ∀ D σ H, t' D σ H → t D σ H) : PSs X st t' := ⟨fun pins s σ H D I q => h.run pins s σ H D I (i D σ H q)⟩

variable {pos : Pos} {e c : Expr} {st : Stmt} {rest a b : List Stmt} {t u : LTS} {te : LTE} {tc : LTT}
def tNxL : LTS := fun L ρ => L.nx ρ
def tSeqL (t u : LTS) : LTS := fun L ρ => t { L with nx := u L } ρ
theorem dss_nil (hk : B.K = X.K := by rfl) : DSs X B [] tNxL := ⟨hk, pss_imp pss_nil fun D σ H ⟨F, ρ, L, E, c, q⟩ => c.nx _ _ _ _ (.refl E) q⟩
theorem dss_one (h : DSt X B st t) : DSs X B [st] t := ⟨h.hk, pss_one h.ps⟩
theorem dss_cons (h : DSt X B st t) (h2 : DSs X B rest u) : DSs X B (st :: rest) (tSeqL t u) := by
  refine ⟨h.hk, pss_imp (pss_cons h.ps h2.ps) ?_⟩
  rintro D σ H ⟨F, ρ, L, E, c, q⟩
  exact ⟨F, ρ, { L with nx := u L }, E, ⟨fun σ' F' ρ' H' r q => ⟨F', ρ', L, r.env, c.step r, q⟩, c.rt, c.bk, c.ct⟩, q⟩
theorem ds_pass (hk : B.K = X.K := by rfl) : DSt X B (.Pass pos) tNxL := ⟨hk, ps_imp ps_pass fun D σ H ⟨F, ρ, L, E, c, q⟩ => c.nx _ _ _ _ (.refl E) q⟩
def tBkL : LTS := fun L ρ => L.bk ρ
def tCtL : LTS := fun L ρ => L.ct ρ
theorem ds_break (hk : B.K = X.K := by rfl) : DSt X B (.Break pos) tBkL := ⟨hk, ps_imp ps_break fun D σ H ⟨F, ρ, L, E, c, q⟩ => c.bk _ _ _ _ (.refl E) q⟩
theorem ds_continue (hk : B.K = X.K := by rfl) : DSt X B (.Continue pos) tCtL := ⟨hk, ps_imp ps_continue fun D σ H ⟨F, ρ, L, E, c, q⟩ => c.ct _ _ _ _ (.refl E) q⟩
def tNevL : LTS := fun _ _ => False
theorem ds_never (hk : B.K = X.K := by rfl) : DSt X B st tNevL := ⟨hk, ps_imp ps_never fun D σ H ⟨F, ρ, L, E, c, q⟩ => q⟩
theorem dss_never (hk : B.K = X.K := by rfl) : DSs X B rest tNevL := ⟨hk, pss_imp pss_never fun D σ H ⟨F, ρ, L, E, c, q⟩ => q⟩
def tDropL (t : LTE) : LTS := fun L ρ => t ρ fun _ ρ' => L.nx ρ'
theorem ds_expr (he : DE X B e te) (hs : swapsWith e none pos.line X.env = pure false := by rfl) : DSt X B (.Expr e pos) (tDropL te) := by
  refine ⟨he.hk, ps_imp (ps_expr he.pe hs) ?_⟩
  rintro D σ H ⟨F, ρ, L, E, c, q⟩
  exact ⟨F, ρ, E, he.mono _ _ _ (fun w ρ1 z v F' H' s r => c.nx _ _ _ _ s.run z) q⟩
def tRetL (t : LTE) : LTS := fun L ρ => t ρ fun w ρ' => nz w = true ∧ L.rt (retW ρ' w) ρ'
theorem ds_ret (he : DE X B e te) : DSt X B (.Return (some e) pos) (tRetL te) := by
  refine ⟨he.hk, ps_imp (ps_ret he.pe) ?_⟩
  rintro D σ H ⟨F, ρ, L, E, c, q⟩
  exact ⟨F, ρ, E, he.mono _ _ _ (fun w ρ1 z v F' H' s r => c.rt _ _ _ _ _ _ s.run (RW.rv s.env r E.there z.1) z.2) q⟩
def tRetNL : LTS := fun L ρ => L.rt (.dat .non) ρ
theorem ds_retN (hk : B.K = X.K := by rfl) : DSt X B (.Return none pos) tRetNL :=
  ⟨hk, ps_imp ps_retN fun D σ H ⟨F, ρ, L, E, c, q⟩ => c.rt (.dat .non) _ _ _ _ _ (.refl E) Rep.non q⟩
def tIfSL (c : LTT) (t u : LTS) : LTS := fun L ρ => c ρ fun b ρ1 => if b = true then t L ρ1 else u L ρ1
theorem ds_if (hc : DT X B c tc) (ha : DSs X B a t) (hb : DSs X B b u) : DSt X B (.If c a b pos) (tIfSL tc t u) := by
  refine ⟨hc.hk, ps_imp (ps_if hc.pt ha.ps hb.ps) ?_⟩
  rintro D σ H ⟨F, ρ, L, E, c, q⟩
  refine ⟨F, ρ, E, hc.mono _ _ _ (fun b ρ1 z F' H' s => ?_) q⟩
  split at z
  · rename_i eb; rw [if_pos eb]; exact ⟨F', ρ1, L, s.env, c.step s.run, z⟩
  · rename_i eb; rw [if_neg eb]; exact ⟨F', ρ1, L, s.env, c.step s.run, z⟩
def tWhileL (c : LTT) (t : LTS) : LTS := fun L ρ => ∃ W : Nat → Rho → Prop, (∃ m, W m ρ) ∧ ∀ m ρ1, W m ρ1 →
  c ρ1 fun b ρ2 => if b = true then t { L with nx := fun ρ3 => ∃ m', m' < m ∧ W m' ρ3, ct := fun ρ3 => ∃ m', m' < m ∧ W m' ρ3, bk := L.nx } ρ2 else L.nx ρ2
theorem ds_while (hp : PassesOwn (model X.prog X.w) X.A X.env X.xe) (hc : DT X B c tc) (hb : DSs X B a t) : DSt X B (.While c a [] pos) (tWhileL tc t) := by
  refine ⟨hc.hk, ps_imp (ps_while hp hc.pt hb.ps) ?_⟩
  rintro D σ H ⟨F, ρ, L, E, c, W, ⟨m0, w0⟩, q⟩
  refine ⟨fun m σ' H' => ∃ F' ρ', Run B σ F ρ H σ' F' ρ' H' ∧ W m ρ', ⟨m0, F, ρ, .refl E, w0⟩, ?_⟩
  rintro m σ1 H1 ⟨F1, ρ1, r1, w1⟩
  refine ⟨F1, ρ1, r1.env, hc.mono _ _ _ (fun b ρ2 z F2 H2 s2 => ?_) (q m ρ1 w1)⟩
  split at z
  · rename_i eb
    rw [if_pos eb]
    refine ⟨fun σ' H' => ∃ m', m' < m ∧ ∃ F' ρ', Run B σ F ρ H σ' F' ρ' H' ∧ W m' ρ', fun σ' H' h => h, F2, ρ2, _, s2.env, ⟨?_, ?_, ?_, ?_⟩, z⟩
    · rintro σ3 F3 ρ3 H3 r3 ⟨m', hm, w3⟩
      exact ⟨m', hm, F3, ρ3, (r1.trans s2.run).trans r3, w3⟩
    · exact fun w v σ3 F3 ρ3 H3 r3 rv h => c.rt w v _ _ _ _ ((r1.trans s2.run).trans r3) rv h
    · exact fun σ3 F3 ρ3 H3 r3 h => c.nx _ _ _ _ ((r1.trans s2.run).trans r3) h
    · rintro σ3 F3 ρ3 H3 r3 ⟨m', hm, w3⟩
      exact ⟨m', hm, F3, ρ3, (r1.trans s2.run).trans r3, w3⟩
  · rename_i eb
    rw [if_neg eb]
    exact c.nx _ _ _ _ (r1.trans s2.run) z
end

abbrev LTG := W → Rho → (Rho → Prop) → Prop
/-- of the slots only those of S have changed -/
structure Off (S : List Nat) (σ : L2.St) (ρ : Rho) (σ' : L2.St) (ρ' : Rho) : Prop where
  at_ : ∀ j, j ∉ S → σ'[j]? = σ[j]?
  len : σ'.length = σ.length
  kn : Kn ρ ρ'
theorem Off.refl {S : List Nat} {σ : L2.St} {ρ : Rho} : Off S σ ρ σ ρ := ⟨fun _ _ => rfl, rfl, .refl⟩
theorem Off.trans {S S' : List Nat} {σ σ' σ'' : L2.St} {ρ ρ' ρ'' : Rho} (a : Off S σ ρ σ' ρ') (b : Off S' σ' ρ' σ'' ρ'') : Off (S ++ S') σ ρ σ'' ρ'' :=
  ⟨fun j h => by rw [List.mem_append, not_or] at h; rw [b.at_ j h.2, a.at_ j h.1], b.len.trans a.len, a.kn.trans b.kn⟩
def liftG (B : Bg) (S : List Nat) (g : LTG) : TG := fun v σ H Q => ∃ σ0 F0 ρ0 Hs F ρ w, EnvD B F0 ρ0 σ0 Hs ∧ Run B σ0 F0 ρ0 Hs σ F ρ H ∧ RW B F ρ σ Hs H w v ∧ g w ρ fun ρ' => ∀ σ' F' H', Run B σ0 F0 ρ0 Hs σ' F' ρ' H' → Off S σ ρ σ' ρ' → Q σ' H'
def MonoG (g : LTG) : Prop := ∀ w ρ Q Q', (∀ ρ', Q ρ' → Q' ρ') → g w ρ Q → g w ρ Q'
structure DG (X : Cx) (B : Bg) (tg : Expr) (S : List Nat) (g : LTG) : Prop where
  hk : B.K = X.K
  mono : MonoG g
  pg : PG X tg (liftG B S g)
section
variable {X : Cx} {B : Bg} {F0 F F' F'' : Addr → Prop} {ρ0 ρ ρ' ρ'' : Rho} {σ0 σ σ' σ'' : L2.St} {H H' H'' Hs : Hp} {w : W} {v : V} {pos : Pos} {e c : Expr} {st : Stmt} {te : LTE} {t : LTS}
theorem pg_imp {tg : Expr} {t t' : TG} (h : PG X tg t) (i : ∀ v σ H Q, t' v σ H Q → t v σ H Q) : PG X tg t' := ⟨fun pins s σ H v u Q I r q => h.run pins s σ H v u Q I r (i v σ H Q q)⟩
/-- slot i takes data, a list -/
theorem run_set {i : Nat} {sl : Slot} (E : EnvD B F ρ σ H) (hM : i ≠ 0 ∨ B.M = none)
    (hd : ∀ d, sl = .dat d → Rep B.K F H v d) (ho : ∀ l, sl = .own l → ∃ p vs, v = .ref p ∧ H p = some (.lst vs) ∧ Reps B.K F H vs l ∧ ¬ F p ∧ ¬ OwnA ρ σ p ∧ B.H0 p = none) :
    EnvD B F (ρ.set i sl) (σ.set i (some v)) H := by
  have lz : ∀ j s', (ρ.set i sl)[j]? = some s' → (j = i ∧ i < ρ.length ∧ s' = sl) ∨ (j ≠ i ∧ ρ[j]? = some s') := fun j s' h => by
    rw [List.getElem?_set] at h
    split at h
    · rename_i e
      split at h
      · exact .inl ⟨e.symm, ‹_›, (Option.some.inj h).symm⟩
      · cases h
    · rename_i e
      exact .inr ⟨fun z => e z.symm, h⟩
  have rz : ∀ j x, j ≠ i → σ[j]? = x → (σ.set i (some v))[j]? = x := fun j x n h => by
    rw [List.getElem?_set_ne (fun z => n z.symm)]; exact h
  have rz' : ∀ j x, j ≠ i → (σ.set i (some v))[j]? = x → σ[j]? = x := fun j x n h => by
    rw [List.getElem?_set_ne (fun z => n z.symm)] at h; exact h
  have ri : i < ρ.length → (σ.set i (some v))[i]? = some (some v) := fun h => by
    rw [List.getElem?_set_self (by rw [← E.len]; exact h)]
  have nown : ∀ j l p, j ≠ i → ρ[j]? = some (.own l) → (σ.set i (some v))[j]? = some (some (.ref p)) → OwnA ρ σ p := fun j l p n h1 h2 => ⟨j, l, h1, rz' j _ n h2⟩
  refine ⟨fun j d h => ?_, fun j l h => ?_, fun j k l l' p h1 h2 h3 h4 => ?_, by simp [E.len], E.base, E.there, E.fz, E.fz0, E.fh, fun p h => ?_, E.tabs⟩
  · rcases lz j _ h with ⟨rfl, h1, h2⟩ | ⟨n, h1⟩
    · exact ⟨v, ri h1, hd d h2.symm⟩
    · obtain ⟨v', q1, q2⟩ := E.dat j d h1
      exact ⟨v', rz j _ n q1, q2⟩
  · rcases lz j _ h with ⟨rfl, h1, h2⟩ | ⟨n, h1⟩
    · obtain ⟨p, vs, e1, e2, e3, e4, _, e5⟩ := ho l h2.symm
      subst e1
      exact ⟨p, vs, ri h1, e2, e3, e4, .inl e5⟩
    · obtain ⟨p, vs, q1, q2⟩ := E.own j l h1
      exact ⟨p, vs, rz j _ n q1, q2⟩
  · rcases lz j _ h1 with ⟨rfl, g1, g2⟩ | ⟨n1, g1⟩
    · rcases lz k _ h2 with ⟨rfl, g3, g4⟩ | ⟨n2, g3⟩
      · rfl
      · obtain ⟨p', vs, e1, _, _, _, e6, _⟩ := ho l g2.symm
        rw [ri ‹_›, e1] at h3
        cases h3
        exact absurd (nown k l' p n2 g3 h4) e6
    · rcases lz k _ h2 with ⟨rfl, g3, g4⟩ | ⟨n2, g3⟩
      · obtain ⟨p', vs, e1, _, _, _, e6, _⟩ := ho l' g4.symm
        rw [ri ‹_›, e1] at h4
        cases h4
        exact absurd (nown j l p n1 g1 h3) e6
      · exact E.apart j k l l' p g1 g3 (rz' j _ n1 h3) (rz' k _ n2 h4)
  · rcases hM with hM | hM
    · obtain ⟨h0, l, h1⟩ := E.mp p h
      refine ⟨rz 0 _ (fun z => hM z.symm) h0, l, ?_⟩
      rw [List.getElem?_set_ne hM]; exact h1
    · rw [hM] at h; cases h
theorem run_put {i : Nat} {sl : Slot} (r : Run B σ0 F0 ρ0 Hs σ F ρ H) (hM : i ≠ 0 ∨ B.M = none)
    (hd : ∀ d, sl = .dat d → Rep B.K F H v d) (ho : ∀ l, sl = .own l → ∃ p vs, v = .ref p ∧ H p = some (.lst vs) ∧ Reps B.K F H vs l ∧ ¬ F p ∧ ¬ OwnA ρ σ p ∧ B.H0 p = none) (hn : ∀ l p, sl = .own l → v = .ref p → Hs p = none) :
    Run B σ0 F0 ρ0 Hs (σ.set i (some v)) F (ρ.set i sl) H := by
  have E := r.env
  refine ⟨run_set E hM hd ho, r.ext, fun b ⟨j, l, h1, h2⟩ => ?_⟩
  rw [List.getElem?_set] at h1
  split at h1
  · rename_i e
    subst e
    split at h1
    · rename_i hl
      have h1 : sl = .own l := Option.some.inj h1
      rw [List.getElem?_set_self (by rw [← E.len]; exact hl)] at h2
      have h2 : v = .ref b := Option.some.inj (Option.some.inj h2)
      exact .inr (hn l b h1 h2)
    · cases h1
  · rename_i e
    rw [List.getElem?_set_ne e] at h2
    exact r.own b ⟨j, l, h1, h2⟩
/-- a value in flight becomes data -/
theorem run_frz (E0 : EnvD B F0 ρ0 σ0 Hs) (r : Run B σ0 F0 ρ0 Hs σ F ρ H) (rw_ : RW B F ρ σ Hs H w v) (z : nz w = true) : ∃ F'', Run B σ0 F0 ρ0 Hs σ F'' (frzs [w] ρ) H ∧ Rep B.K F'' H v (val ρ w) := by
  have E := r.env
  cases w with
  | dat d => exact ⟨F, r, rw_⟩
  | ref j =>
    obtain ⟨F2, s, q⟩ := settle (ws := [.ref j]) (vs := [v]) E (.refl E) (.cons (show RW B F ρ σ H H (.ref j) v from rw_) .nil apt_nil) (by simpa using z)
    refine ⟨F2, r.trans s.run, ?_⟩
    cases q with
    | cons a _ => exact a
  | new l =>
    obtain ⟨p, vs, e, h1, h2, h3, h4, h5⟩ := rw_
    have up : ∀ b, F b → F b ∨ b = p := fun b h => .inl h
    have hb : B.H0 p = none := by
      cases q : B.H0 p with
      | none => rfl
      | some o => exact absurd h5 (E0.there p (by rw [q]; exact fun y => nomatch y))
    subst e
    refine ⟨fun b => F b ∨ b = p, ⟨⟨fun i d h => ?_, fun i l h => ?_, E.apart, E.len, E.base, E.there, fun b h => ?_, fun b h => .inl (E.fz0 b h), fun b h => ?_, E.mp, E.tabs⟩, ⟨r.ext.keep, r.ext.there, fun b h => .inl (r.ext.up b h), fun b h => ?_⟩, r.own⟩,
      .lst (.inr rfl) h1 (Reps.up up _ h2)⟩
    · obtain ⟨v', e1, e2⟩ := E.dat i d h
      exact ⟨v', e1, Rep.up up _ e2⟩
    · obtain ⟨p', vs', e1, e2, e3, e4, e5⟩ := E.own i l h
      refine ⟨p', vs', e1, e2, Reps.up up _ e3, fun q => q.elim e4 fun q => h4 ?_, e5⟩
      subst q
      exact ⟨i, l, h, e1⟩
    · rcases h with h | rfl
      · exact E.fz b h
      · exact .inr hb
    · rcases h with h | rfl
      · exact E.fh b h
      · rw [h1]; exact fun y => nomatch y
    · rcases h with h | rfl
      · exact r.ext.new b h
      · exact .inr (.inl h5)
def gNm (i : Nat) : LTG := fun w ρ Q => nz w = true ∧ match w with
  | .dat d => Q (ρ.set i (.dat d))
  | .new l => Q (ρ.set i (.own l))
  | .ref j => Q ((frzs [.ref j] ρ).set i (.dat (val ρ (.ref j))))
theorem gNm_mono (i : Nat) : MonoG (gNm i) := fun w ρ Q Q' h q => by
  refine ⟨q.1, ?_⟩
  have q := q.2
  cases w <;> exact h _ q
theorem kn_set {i : Nat} {sl : Slot} (h : sl ≠ .un) : Kn ρ (ρ.set i sl) := fun j s e n => by
  by_cases z : i = j
  · subst z
    exact ⟨sl, by rw [List.getElem?_set_self]; exact (List.getElem?_eq_some_iff.mp e).1, h⟩
  · exact ⟨s, by rw [List.getElem?_set_ne z]; exact e, n⟩
theorem kn_dat {i : Nat} {d : D} : Kn ρ (ρ.set i (.dat d)) := kn_set fun z => nomatch z
theorem kn_own {i : Nat} {l : List D} : Kn ρ (ρ.set i (.own l)) := kn_set fun z => nomatch z
theorem kn_frzs {ws : List W} : Kn ρ (frzs ws ρ) := fun j s e n => ⟨frzAt ws j s, by rw [frzs_get, e]; rfl, fun z => by
  unfold frzAt at z
  split at z
  · split at z <;> cases z
  · exact n z⟩
theorem gname_ok {i : Nat} {Q : Rho → Prop} {P : L2.St → Hp → Prop} (hM : i ≠ 0 ∨ B.M = none) (E0 : EnvD B F0 ρ0 σ0 Hs) (run : Run B σ0 F0 ρ0 Hs σ F ρ H) (r : RW B F ρ σ Hs H w v)
    (q : gNm i w ρ Q) (h : ∀ F' ρ', Run B σ0 F0 ρ0 Hs (σ.set i (some v)) F' ρ' H → Kn ρ ρ' → Q ρ' → P (σ.set i (some v)) H) : P (σ.set i (some v)) H := by
  obtain ⟨z, q⟩ := q
  have E := run.env
  cases w with
  | dat d =>
    refine h _ _ (run_put run hM (fun d' e => ?_) (fun l e => by cases e) (fun l p e => by cases e)) kn_dat q
    cases e
    exact r
  | new l =>
    obtain ⟨p, vs, e, h1, h2, h3, h4, h5⟩ := r
    have hb : B.H0 p = none := by
      cases q : B.H0 p with
      | none => rfl
      | some o => exact absurd h5 (E0.there p (by rw [q]; exact fun y => nomatch y))
    refine h _ _ (run_put run hM (fun d' e => by cases e) (fun l' e' => ?_) (fun l' p' e' e2 => ?_)) kn_own q
    · cases e'; exact ⟨p, vs, e, h1, h2, h3, h4, hb⟩
    · rw [e] at e2; cases e2; exact h5
  | ref j =>
    obtain ⟨F2, r2, q2⟩ := run_frz E0 run r z
    refine h _ _ (run_put r2 hM (fun d' e => ?_) (fun l e => by cases e) (fun l p e => by cases e)) (kn_frzs.trans kn_dat) q
    cases e
    exact q2
theorem dg_name {i : Nat} {x : Str} (hM : i ≠ 0 ∨ B.M = none) (h : PG X (.Name x pos) (gName i)) (hk : B.K = X.K := by rfl) : DG X B (.Name x pos) [i] (gNm i) := by
  refine ⟨hk, gNm_mono i, pg_imp h ?_⟩
  rintro v σ H Q ⟨σ0, F0, ρ0, Hs, F, ρ, w, E0, r, rw_, q⟩
  exact gname_ok (P := Q) hM E0 r rw_ q fun F' ρ' r' kn k => k _ _ _ r' ⟨fun j h => by rw [List.getElem?_set_ne (fun z => h (by simp [z]))], List.length_set, kn⟩

abbrev LTGs := List D → Rho → (Rho → Prop) → Prop
def liftGs (B : Bg) (S : List Nat) (g : LTGs) : TGs := fun vs σ H Q => ∃ σ0 F0 ρ0 Hs F ρ ds, EnvD B F0 ρ0 σ0 Hs ∧ Run B σ0 F0 ρ0 Hs σ F ρ H ∧ Reps B.K F H vs ds ∧ g ds ρ fun ρ' => ∀ σ' F' H', Run B σ0 F0 ρ0 Hs σ' F' ρ' H' → Off S σ ρ σ' ρ' → Q σ' H'
structure DGs (X : Cx) (B : Bg) (tg : List Expr) (S : List Nat) (g : LTGs) : Prop where
  hk : B.K = X.K
  mono : ∀ ds ρ Q Q', (∀ ρ', Q ρ' → Q' ρ') → g ds ρ Q → g ds ρ Q'
  pg : PGs X tg (liftGs B S g)
def gNilL : LTGs := fun ds ρ Q => ds = [] ∧ Q ρ
def gConsL (g : LTG) (gs : LTGs) : LTGs := fun ds ρ Q => match ds with
  | d :: ds => g (.dat d) ρ fun ρ1 => gs ds ρ1 Q
  | [] => False
theorem pgs_imp {tg : List Expr} {t t' : TGs} (h : PGs X tg t) (i : ∀ v σ H Q, t' v σ H Q → t v σ H Q) : PGs X tg t' := ⟨fun pins s σ H v u Q I r q => h.run pins s σ H v u Q I r (i v σ H Q q)⟩
theorem dgs_nil (hk : B.K = X.K := by rfl) : DGs X B [] [] gNilL := by
  refine ⟨hk, fun ds ρ Q Q' h q => ⟨q.1, h _ q.2⟩, pgs_imp pgs_nil ?_⟩
  rintro v σ H Q ⟨σ0, F0, ρ0, Hs, F, ρ, ds, E0, r, rw_, e, q⟩
  subst e
  cases rw_
  exact ⟨rfl, q _ _ _ r .refl⟩
theorem dgs_cons {x : Expr} {xs : List Expr} {S S' : List Nat} {g : LTG} {gs : LTGs} (h1 : DG X B x S g) (h2 : DGs X B xs S' gs) (hs : (assignEach (x :: xs) X.env).map (·.2) = assign x X.env :: (assignEach xs X.env).map (·.2) := by rfl) : DGs X B (x :: xs) (S ++ S') (gConsL g gs) := by
  refine ⟨h1.hk, fun ds ρ Q Q' h q => ?_, pgs_imp (pgs_cons h1.pg h2.pg hs) ?_⟩
  · cases ds with
    | nil => exact q
    | cons d ds => exact h1.mono _ _ _ _ (fun ρ1 z => h2.mono _ _ _ _ h z) q
  rintro vs σ H Q ⟨σ0, F0, ρ0, Hs, F, ρ, ds, E0, r, rw_, q⟩
  cases rw_ with
  | nil => exact q.elim
  | @cons v vs d ds a b =>
    refine ⟨v, vs, rfl, σ, F, ρ, H, F, ρ, .dat d, r.env, .refl r.env, a, h1.mono _ _ _ _ (fun ρ1 z => ?_) q⟩
    intro σ1 F1 H1 r1 o1
    exact ⟨σ0, F0, ρ0, Hs, F1, ρ1, ds, E0, r.trans r1, Reps.run r.env b r1, h2.mono _ _ _ _ (fun ρ2 z2 σ2 F2 H2 r2 o2 => z2 σ2 F2 H2 r2 (o1.trans o2)) z⟩
def gTupL (n : Nat) (gs : LTGs) : LTG := fun w ρ Q => match val ρ w with
  | .tup ds => ds.length = n ∧ gs ds ρ Q
  | _ => False
theorem dg_tup {es : List Expr} {k : Nat} {gs : LTGs} {n : Nat} {S : List Nat} (hc : X.calm = true) (h : DGs X B es S gs) (hn : (assignEach es X.env).length = n := by rfl) (hst : (assignEach es X.env).findIdx? (·.1) = none := by rfl) : DG X B (.Tuple es k pos) S (gTupL n gs) := by
  refine ⟨h.hk, fun w ρ Q Q' i q => ?_, pg_imp (pg_tup hc h.pg hn hst) ?_⟩
  · unfold gTupL at q ⊢
    split at q
    · exact ⟨q.1, h.mono _ _ _ _ i q.2⟩
    · exact q
  rintro v σ H Q ⟨σ0, F0, ρ0, Hs, F, ρ, w, E0, r, rw_, q⟩
  unfold gTupL at q
  split at q
  · rename_i ds ev
    obtain ⟨a, vs, e1, h1, h2⟩ := RW.tup r.env rw_ ev
    exact ⟨a, vs, e1, h.hk ▸ h1, by rw [Reps.length h2]; exact q.1, σ0, F0, ρ0, Hs, F, ρ, ds, E0, r, h2, q.2⟩
  · exact q.elim
def gUnL (n : Nat) (gs : LTGs) : LTG := fun w ρ Q => match val ρ w with
  | .lst ds => ds.length = n ∧ gs ds ρ Q
  | _ => False
theorem dg_unl {es : List Expr} {k : Nat} {gs : LTGs} {n : Nat} {S : List Nat} (hc : X.calm = true) (h : DGs X B es S gs) (hn : (assignEach es X.env).length = n := by rfl) (hst : (assignEach es X.env).findIdx? (·.1) = none := by rfl) : DG X B (.Tuple es k pos) S (gUnL n gs) := by
  refine ⟨h.hk, fun w ρ Q Q' i q => ?_, pg_imp (pg_unl hc h.pg hn hst) ?_⟩
  · unfold gUnL at q ⊢
    split at q
    · exact ⟨q.1, h.mono _ _ _ _ i q.2⟩
    · exact q
  rintro v σ H Q ⟨σ0, F0, ρ0, Hs, F, ρ, w, E0, r, rw_, q⟩
  unfold gUnL at q
  split at q
  · rename_i ds ev
    obtain ⟨a, vs, e1, h1, h2⟩ := RW.lst r.env rw_ ev
    exact ⟨a, vs, e1, SqL.of h1, by rw [Reps.length h2]; exact q.1, σ0, F0, ρ0, Hs, F, ρ, ds, E0, r, h2, q.2⟩
  · exact q.elim

theorem tabs_upd {T : List (Addr × Option Str)} {p : Addr} {vs vs' : List V} (t : Tbs T H) (h : H p = some (.lst vs)) : Tbs T (upd H p (.lst vs')) := fun q hq => by
  have z := t q hq
  revert z
  cases q.2 with
  | none =>
    rintro ⟨ps, h1, h2⟩
    exact ⟨ps, by rw [upd_ne (ne_of h1 h fun z => by cases z)]; exact h1, h2⟩
  | some n =>
    rintro ⟨ps, h1, h2, h3⟩
    refine ⟨ps, ?_, h2, fun pos cv hc => ?_⟩
    · rw [upd_ne (ne_of h1 h fun z => by cases z)]; exact h1
    · obtain ⟨c, e1, e2⟩ := h3 pos cv hc
      exact ⟨c, e1, by rw [upd_ne (ne_of e2 h fun z => by unfold LamX.CodeO at z; cases z)]; exact e2⟩
/-- a list of its own is written -/
theorem stp_mut {i : Nat} {p : Addr} {l l' : List D} {vs' : List V} (E : EnvD B F ρ σ H) (h1 : ρ[i]? = some (.own l)) (h2 : σ[i]? = some (some (.ref p))) (r : Reps B.K F H vs' l') : Stp B σ F ρ H F (ρ.set i (.own l')) (upd H p (.lst vs')) := by
  have o : OwnA ρ σ p := ⟨i, l, h1, h2⟩
  obtain ⟨p', vs, e1, e2, e3, e4, e5⟩ := E.own i l h1
  rw [h2] at e1; cases e1
  have x : Ext (OwnA ρ σ) F F H (upd H p (.lst vs')) := ⟨fun b o' h n _ => by rw [upd_ne (fun z => n (by rw [z]; exact o))]; exact h, fun b h => by
    by_cases z : b = p
    · subst z; rw [upd_same]; exact fun y => nomatch y
    · rw [upd_ne z]; exact h, fun _ h => h, fun _ h => .inl h⟩
  have lz : ∀ j s', (ρ.set i (.own l'))[j]? = some s' → (j = i ∧ s' = .own l') ∨ (j ≠ i ∧ ρ[j]? = some s') := fun j s' h => by
    rw [List.getElem?_set] at h
    split at h
    · rename_i e
      split at h
      · exact .inl ⟨e.symm, (Option.some.inj h).symm⟩
      · cases h
    · rename_i e
      exact .inr ⟨fun z => e z.symm, h⟩
  have ow : ∀ b, OwnA (ρ.set i (.own l')) σ b → OwnA ρ σ b := fun b ⟨j, l2, g1, g2⟩ => by
    rcases lz j _ g1 with ⟨rfl, _⟩ | ⟨n, g⟩
    · exact ⟨j, l, h1, g2⟩
    · exact ⟨j, l2, g, g2⟩
  refine ⟨⟨fun j d h => ?_, fun j l2 h => ?_, fun j k l2 l3 q g1 g2 g3 g4 => ?_, by simp [E.len], fun b o' h n t => ?_, fun b h => x.there b (E.there b h), E.fz, E.fz0, fun b h => x.there b (E.fh b h), fun q h => ?_, ?_⟩, x, fun b h => .inl (ow b h), fun j s' h n => ?_⟩
  · rcases lz j _ h with ⟨_, z⟩ | ⟨n, g⟩
    · cases z
    · obtain ⟨v, g1, g2⟩ := E.dat j d g
      exact ⟨v, g1, Rep.keep x E.ownL E.ownF d g2⟩
  · rcases lz j _ h with ⟨rfl, z⟩ | ⟨n, g⟩
    · cases z
      exact ⟨p, vs', h2, upd_same, Reps.keep x E.ownL E.ownF _ r, e4, e5⟩
    · obtain ⟨q, us, g1, g2, g3, g4, g5⟩ := E.own j l2 g
      have hq : q ≠ p := fun z => n (E.apart j i l2 l p g h1 (by rw [← z]; exact g1) h2)
      exact ⟨q, us, g1, by rw [upd_ne hq]; exact g2, Reps.keep x E.ownL E.ownF _ g3, g4, g5⟩
  · rcases lz j _ g1 with ⟨rfl, _⟩ | ⟨n1, g⟩
    · rcases lz k _ g2 with ⟨rfl, _⟩ | ⟨n2, g'⟩
      · rfl
      · exact E.apart j k l l3 q h1 g' g3 g4
    · rcases lz k _ g2 with ⟨rfl, _⟩ | ⟨n2, g'⟩
      · exact E.apart j k l2 l q g h1 g3 g4
      · exact E.apart j k l2 l3 q g g' g3 g4
  · have hb := E.base b o' h n t
    refine x.keep b o' hb (fun z => ?_) t
    obtain ⟨j, l2, g1, g2⟩ := z
    obtain ⟨q, us, g3, _, _, _, g5⟩ := E.own j l2 g1
    rw [g2] at g3; cases g3
    rcases g5 with g5 | g5
    · rw [h] at g5; cases g5
    · exact n g5
  · obtain ⟨h0, l0, hl⟩ := E.mp q h
    refine ⟨h0, ?_⟩
    by_cases z : i = 0
    · subst z
      exact ⟨l', by rw [List.getElem?_set_self]; exact (List.getElem?_eq_some_iff.mp h1).1⟩
    · exact ⟨l0, by rw [List.getElem?_set_ne z]; exact hl⟩
  · exact tabs_upd E.tabs e2
  · by_cases z : i = j
    · subst z
      exact ⟨.own l', by rw [List.getElem?_set_self]; exact (List.getElem?_eq_some_iff.mp h1).1, fun y => nomatch y⟩
    · exact ⟨s', by rw [List.getElem?_set_ne z]; exact h, n⟩
/-- the value may be stored in the list of slot i -/
def fitI (i : Nat) (w : W) : Bool := nz w && !isRef i w
theorem frzs_keep {i : Nat} {l : List D} {ws : List W} (h : ρ[i]? = some (.own l)) (n : ws.any (isRef i) = false) : (frzs ws ρ)[i]? = some (.own l) := by
  rw [frzs_get, h, Option.map_some]
  unfold frzAt
  dsimp only
  rw [n]; rfl
def isOwn (ρ : Rho) (i : Nat) : Bool := match ρ[i]? with
  | some (.own _) => true
  | _ => false
theorem isOwn_get {i : Nat} (h : isOwn ρ i = true) : ∃ l, ρ[i]? = some (.own l) := by
  unfold isOwn at h
  split at h
  · exact ⟨_, ‹_›⟩
  · cases h
def gIx (i : Nat) (t : LTE) : LTG := fun w ρ Q => (fitI i w = true ∧ isOwn ρ i = true) ∧ t (frzs [w] ρ) fun k ρ1 => match val ρ1 k, ρ1[i]? with
  | .int z, some (.own l) => match ixN l.length z with
    | some j => Q (ρ1.set i (.own (l.set j (val ρ w))))
    | none => False
  | _, _ => False
theorem dg_ix {i : Nat} {o ie : Expr} {ti : LTE} (ho : PE X o (tVar i)) (hi : DE X B ie ti)
    (ha : ∀ v, assign (.Subscript o ie pos) X.env v = (do
      let ov ← holding [v] (eval o X.env)
      let iv ← holding [v, ov] (eval ie X.env)
      standAt pos
      holding [v, ov, iv] (setItem ov iv v)
      release [v, ov, iv] []) := by intro _; rfl) : DG X B (.Subscript o ie pos) [] (gIx i ti) := by
  refine ⟨hi.hk, fun w ρ Q Q' h q => ⟨q.1, hi.mono _ _ _ (fun k ρ1 z => ?_) q.2⟩, pg_imp (pg_sub ho hi.pe set_list ha) ?_⟩
  · split at z
    · split at z
      · exact h _ z
      · exact z
    · exact z
  rintro v σ H Q ⟨σ0, F0, ρ0, Hs, F, ρ, w, E0, r, rw_, z, q⟩
  have z1 : nz w = true ∧ isRef i w = false := by simpa [fitI] using z.1
  obtain ⟨F2, r2, q2⟩ := run_frz E0 r rw_ z1.1
  obtain ⟨l, e1⟩ := isOwn_get z.2
  have e1 := frzs_keep (ws := [w]) e1 (by simpa using z1.2)
  obtain ⟨p, _, e2, _⟩ := r2.env.own i l e1
  refine ⟨.ref p, e2, F2, _, r2.env, hi.mono _ _ _ (fun k ρ1 q1 => ?_) q⟩
  intro vi F3 H3 s3 r3
  split at q1
  · rename_i k' l' ek el
    split at q1
    · rename_i j hj
      obtain ⟨p', vs, e3, e4, e5, e6, e7⟩ := s3.env.own i l' el
      rw [e2] at e3; cases e3
      refine ⟨p, vs, k', j, rfl, RW.int s3.env r3 ek, e4, by rw [Reps.length e5]; exact hj, ?_⟩
      have s4 := stp_mut (vs' := vs.set j v) s3.env el e2 (Reps.set (Rep.stp r2.env q2 s3) (ds := l') (vs := vs) j e5)
      exact q1 _ _ _ ((r2.trans s3.run).trans s4.run) ⟨fun _ _ => rfl, rfl, (kn_frzs.trans s3.kn).trans s4.kn⟩
    · exact q1.elim
  · exact q1.elim
end
end L3

set_option Elab.async false
set_option linter.all false
set_option maxRecDepth 100000
set_option maxHeartbeats 2000000
namespace L3
open PySem PySem.Spec PyProof.Rows L2
section
variable {X : Cx} {B : Bg} {F0 F F' F'' : Addr → Prop} {ρ0 ρ ρ' ρ'' : Rho} {σ0 σ σ' σ'' : L2.St} {H H' H'' Hs : Hp} {w : W} {v : V} {pos : Pos} {e c tg iter : Expr} {st : Stmt} {te : LTE} {t : LTS} {u : LTA} {body : List Stmt}
def tAsgL (te : LTE) (g : LTG) : LTS := fun L ρ => te ρ fun w ρ1 => g w ρ1 L.nx
theorem ds_asg {g : LTG} {S : List Nat} (he : DE X B e te) (hg : DG X B tg S g) (hs : swapsWithSole [tg] e pos.line X.env = pure false := by rfl) (hw : swappedStores [tg] e X.env = pure none := by rfl)
    (h1 : (assignEach [tg] X.env).map (·.2) = [assign tg X.env] := by rfl) : DSt X B (.Assign [tg] e pos) (tAsgL te g) := by
  refine ⟨he.hk, ps_imp (ps_asg he.pe hg.pg hs hw h1) ?_⟩
  rintro D σ H ⟨F, ρ, L, E, c, q⟩
  refine ⟨F, ρ, E, he.mono _ _ _ (fun w ρ1 z => ?_) q⟩
  intro v F1 H1 s1 r1
  exact ⟨σ, F, ρ, H, F1, ρ1, w, E, s1.run, r1, hg.mono _ _ _ _ (fun ρ2 z2 σ' F' H' r _ => c.nx _ _ _ _ r z2) z⟩

def slotW (ρ : Rho) : W → Slot
  | .dat d => .dat d
  | .new l => .own l
  | .ref j => .dat (val ρ (.ref j))
theorem RWs.refs {ws : List W} {vs : List V} (h : RWs B F ρ σ Hs H ws vs) : ∃ us, RWs B F ρ σ H H (ws.filter anyRef) us := by
  induction h with
  | nil => exact ⟨[], .nil⟩
  | @cons w ws v vs a _ _ ih =>
    obtain ⟨us, hu⟩ := ih
    cases w with
    | dat d => exact ⟨us, by simpa [anyRef] using hu⟩
    | new l => exact ⟨us, by simpa [anyRef] using hu⟩
    | ref i => exact ⟨v :: us, by
        have e : (W.ref i :: ws).filter anyRef = W.ref i :: ws.filter anyRef := by rw [List.filter_cons_of_pos (by rfl)]
        rw [e]
        exact .cons a hu (apt_of fun _ z => by cases z)⟩
theorem all_filter {p q : W → Bool} {ws : List W} (h : ws.all p = true) : (ws.filter q).all p = true := by
  rw [List.all_eq_true] at h ⊢
  exact fun x hx => h x (List.mem_filter.mp hx).1
/-- the lists of slots among some values in flight become data -/
theorem run_refs {ws : List W} {vs : List V} (r : Run B σ0 F0 ρ0 Hs σ F ρ H) (rs : RWs B F ρ σ Hs H ws vs) (z : ws.all nz = true) :
    ∃ F'', Run B σ0 F0 ρ0 Hs σ F'' (frzs (ws.filter anyRef) ρ) H ∧ Stp B σ F ρ H F'' (frzs (ws.filter anyRef) ρ) H := by
  obtain ⟨us, hu⟩ := RWs.refs rs
  obtain ⟨F2, s, _⟩ := settle (F' := F) (ρ' := ρ) r.env (.refl r.env) hu (all_filter z)
  exact ⟨F2, r.trans s.run, s⟩
theorem frz_ref {ws : List W} {j : Nat} (E : EnvD B F ρ σ H) (E2 : EnvD B F' (frzs ws ρ) σ H) (hw : W.ref j ∈ ws) (r : RW B F ρ σ Hs H (.ref j) v) : Rep B.K F' H v (val ρ (.ref j)) := by
  obtain ⟨h1, s, h2, h3⟩ := r
  have e : (frzs ws ρ)[j]? = some (.dat (val ρ (.ref j))) := by
    rw [frzs_get, h2, Option.map_some]
    show some (frzAt ws j s) = some (.dat (match ρ[j]? with | some (.own l) => .lst l | some (.dat d) => d | _ => .non))
    rw [h2]
    cases s with
    | un => exact absurd rfl h3
    | dat d => rfl
    | own l =>
      unfold frzAt
      dsimp only
      rw [if_pos (anyRef_mem.mpr hw)]
  obtain ⟨v', e1, q⟩ := E2.dat j _ e
  rw [h1] at e1; cases e1
  exact q
/-- several values for several slots -/
inductive PRs (B : Bg) (F : Addr → Prop) (ρb ρ : Rho) (σ : L2.St) (Hs H : Hp) : List W → List V → Prop
  | nil : PRs B F ρb ρ σ Hs H [] []
  | cons {w : W} {ws : List W} {v : V} {vs : List V} : (∀ d, slotW ρb w = .dat d → Rep B.K F H v d) → (∀ l, w = .new l → RW B F ρ σ Hs H w v) → PRs B F ρb ρ σ Hs H ws vs → Apt w v ws vs → PRs B F ρb ρ σ Hs H (w :: ws) (v :: vs)
def setsS : List Nat → List V → L2.St → L2.St
  | i :: is, v :: vs, σ => setsS is vs (σ.set i (some v))
  | _, _, σ => σ
def setsR : List Nat → List Slot → Rho → Rho
  | i :: is, s :: ss, ρ => setsR is ss (ρ.set i s)
  | _, _, ρ => ρ
theorem own_set {i : Nat} {sl : Slot} {b : Addr} (len : ρ.length = σ.length) (h : OwnA (ρ.set i sl) (σ.set i (some v)) b) : OwnA ρ σ b ∨ (v = .ref b ∧ ∃ l, sl = .own l) := by
  obtain ⟨j, l, h1, h2⟩ := h
  rw [List.getElem?_set] at h1
  split at h1
  · rename_i e
    subst e
    split at h1
    · rename_i hl
      rw [List.getElem?_set_self (by rw [← len]; exact hl)] at h2
      exact .inr ⟨Option.some.inj (Option.some.inj h2), l, Option.some.inj h1⟩
    · cases h1
  · rename_i e
    rw [List.getElem?_set_ne e] at h2
    exact .inl ⟨j, l, h1, h2⟩
theorem slotW_own {w : W} {l : List D} (h : slotW ρ w = .own l) : w = .new l := by
  cases w with
  | dat d => cases h
  | ref j => cases h
  | new l' => cases h; rfl
theorem PRs.set {ρb : Rho} {i : Nat} {w1 : W} {v1 : V} (len : ρ.length = σ.length) : ∀ {ws : List W} {vs : List V}, PRs B F ρb ρ σ Hs H ws vs → Apt w1 v1 ws vs → PRs B F ρb (ρ.set i (slotW ρb w1)) (σ.set i (some v1)) Hs H ws vs := fun h => by
  induction h with
  | nil => exact fun _ => .nil
  | @cons w ws v vs a b _ n ih =>
    intro ap
    refine .cons a (fun l e => ?_) (ih fun l e k l' hk => by have := ap l e (k + 1) l' (by simpa using hk); simpa using this) n
    obtain ⟨p, us, e1, h1, h2, h3, h4, h5⟩ : RW B F ρ σ Hs H (.new l) v := e ▸ b l e
    rw [e]
    refine ⟨p, us, e1, h1, h2, h3, fun q => ?_, h5⟩
    rcases own_set len q with q | ⟨q, l', ql⟩
    · exact h4 q
    · have := ap l' (slotW_own ql) 0 l (by simp [e])
      exact this (by rw [q, e1]; rfl)
theorem par_all {ρb : Rho} : ∀ {is : List Nat} {ws : List W} {vs : List V} {ρ : Rho} {σ : L2.St}, EnvD B F0 ρ0 σ0 Hs → Run B σ0 F0 ρ0 Hs σ F ρ H → ((∀ i ∈ is, i ≠ 0) ∨ B.M = none) → PRs B F ρb ρ σ Hs H ws vs →
    Run B σ0 F0 ρ0 Hs (setsS is vs σ) F (setsR is (ws.map (slotW ρb)) ρ) H
  | [], ws, vs, ρ, σ, E0, r, _, _ => r
  | i :: is, _, _, ρ, σ, E0, r, _, .nil => r
  | i :: is, w :: ws, v :: vs, ρ, σ, E0, r, hM, .cons a b p n => by
    refine par_all (ρ := ρ.set i (slotW ρb w)) (σ := σ.set i (some v)) E0 (run_put r (hM.imp (fun h => h i (by simp)) id) a (fun l e => ?_) (fun l q e1 e2 => ?_)) (hM.imp (fun h j hj => h j (by simp [hj])) id) (PRs.set r.env.len p n)
    · obtain ⟨p, us, e1, h1, h2, h3, h4, h5⟩ : RW B F ρ σ Hs H (.new l) v := slotW_own e ▸ b l (slotW_own e)
      refine ⟨p, us, e1, h1, h2, h3, h4, ?_⟩
      cases q : B.H0 p with
      | none => rfl
      | some o => exact absurd h5 (E0.there p (by rw [q]; exact fun y => nomatch y))
    · obtain ⟨p, us, e3, h1, h2, h3, h4, h5⟩ : RW B F ρ σ Hs H (.new l) v := slotW_own e1 ▸ b l (slotW_own e1)
      rw [e2] at e3; cases e3
      exact h5
theorem prs_of {ws0 : List W} (E : EnvD B F ρ σ H) (s : Stp B σ F ρ H F' (frzs ws0 ρ) H) : ∀ {ws : List W} {vs : List V}, RWs B F ρ σ Hs H ws vs → (∀ j, W.ref j ∈ ws → W.ref j ∈ ws0) → PRs B F' ρ (frzs ws0 ρ) σ Hs H ws vs := fun h => by
  induction h with
  | nil => exact fun _ => .nil
  | @cons w ws v vs a _ n ih =>
    intro hw
    refine .cons (fun d e => ?_) (fun l e => RW.stp E a s) (ih fun j hj => hw j (by simp [hj])) n
    cases w with
    | dat d' => cases e; exact Rep.stp E a s
    | new l => cases e
    | ref j => cases e; exact frz_ref E s.env (hw j (by simp)) a
theorem par_ok {is : List Nat} {ws : List W} {vs : List V} {L : LEnds} {D : Ends} (E : EnvD B F0 ρ0 σ Hs) (s : Stp B σ F0 ρ0 Hs F ρ H) (rs : RWs B F ρ σ Hs H ws vs) (hM : (∀ i ∈ is, i ≠ 0) ∨ B.M = none) (z : ws.all nz = true) (c : LC B σ F0 ρ0 Hs L D)
    (q : L.nx (setsR is (ws.map (slotW ρ)) (frzs (ws.filter anyRef) ρ))) : D.nx (setsS is vs σ) H := by
  obtain ⟨F2, r2, s2⟩ := run_refs s.run rs z
  exact c.nx _ _ _ _ (par_all (ρb := ρ) E r2 hM (prs_of s.env s2 rs fun j hj => List.mem_filter.mpr ⟨hj, rfl⟩)) q
def tParL (is : List Nat) (u : LTA) : LTS := fun L ρ => u ρ fun ws ρ1 => (ws.all nz = true ∧ ws.length = is.length) ∧ L.nx (setsR is (ws.map (slotW ρ1)) (frzs (ws.filter anyRef) ρ1))
theorem ds_par {i j : Nat} {x y : Str} {a b : Expr} {px py pt : Pos} {kt k2 pt2} (hM : (∀ k ∈ [i, j], k ≠ 0) ∨ B.M = none) (hc : X.calm = true) (hN : X.N.Nodup) (hi : X.N[i]? = some x) (hj : X.N[j]? = some y) (hij : i ≠ j)
    (hx : X.env.scope.names.lookup x = some .local) (hy : X.env.scope.names.lookup y = some .local) (ha : DA X B [a, b] u)
    (hw : swappedStores [.Tuple [.Name x px, .Name y py] kt pt] (.Tuple [a, b] k2 pt2) X.env = pure (some [x, y]))
    (hs : swapsWithSole [.Tuple [.Name x px, .Name y py] kt pt] (.Tuple [a, b] k2 pt2) pos.line X.env = pure false := by rfl) :
    DSt X B (.Assign [.Tuple [.Name x px, .Name y py] kt pt] (.Tuple [a, b] k2 pt2) pos) (tParL [i, j] u) := by
  refine ⟨ha.hk, ps_imp (ps_par hc hN hi hj hij hx hy ha.pa hw hs) ?_⟩
  rintro D σ H ⟨F, ρ, L, E, c, q⟩
  refine ⟨F, ρ, E, ha.mono _ _ _ (fun ws ρ1 z => ?_) q⟩
  intro vs F1 H1 s1 rs
  match ws, vs, rs, z with
  | [w1, w2], [v1, v2], rs, z => exact ⟨v1, v2, rfl, par_ok E s1 rs hM z.1.1 c z.2⟩
  | [], _, _, z => exact absurd z.1.2 (by simp)
  | [_], _, _, z => exact absurd z.1.2 (by simp)
  | _ :: _ :: _ :: _, _, _, z => exact absurd z.1.2 (by simp)
  | [_, _], [], rs, z => nomatch rs
  | [_, _], [_], rs, z => exact absurd (RWs.length rs) (by simp)
  | [_, _], _ :: _ :: _ :: _, rs, z => exact absurd (RWs.length rs) (by simp)
theorem ds_par3 {i j l : Nat} {x y z' : Str} {a b c' : Expr} {px py pz pt : Pos} {kt k2 pt2} (hM : (∀ k ∈ [i, j, l], k ≠ 0) ∨ B.M = none) (hc : X.calm = true) (hN : X.N.Nodup) (hi : X.N[i]? = some x) (hj : X.N[j]? = some y) (hl : X.N[l]? = some z') (hij : i ≠ j) (hil : i ≠ l) (hjl : j ≠ l)
    (hx : X.env.scope.names.lookup x = some .local) (hy : X.env.scope.names.lookup y = some .local) (hz : X.env.scope.names.lookup z' = some .local) (ha : DA X B [a, b, c'] u)
    (hw : swappedStores [.Tuple [.Name x px, .Name y py, .Name z' pz] kt pt] (.Tuple [a, b, c'] k2 pt2) X.env = pure (some [x, y, z']))
    (hs : swapsWithSole [.Tuple [.Name x px, .Name y py, .Name z' pz] kt pt] (.Tuple [a, b, c'] k2 pt2) pos.line X.env = pure false := by rfl) :
    DSt X B (.Assign [.Tuple [.Name x px, .Name y py, .Name z' pz] kt pt] (.Tuple [a, b, c'] k2 pt2) pos) (tParL [i, j, l] u) := by
  refine ⟨ha.hk, ps_imp (ps_par3 hc hN hi hj hl hij hil hjl hx hy hz ha.pa hw hs) ?_⟩
  rintro D σ H ⟨F, ρ, L, E, c, q⟩
  refine ⟨F, ρ, E, ha.mono _ _ _ (fun ws ρ1 z => ?_) q⟩
  intro vs F1 H1 s1 rs
  match ws, vs, rs, z with
  | [w1, w2, w3], [v1, v2, v3], rs, z => exact ⟨v1, v2, v3, rfl, par_ok E s1 rs hM z.1.1 c z.2⟩
  | [], _, _, z => exact absurd z.1.2 (by simp)
  | [_], _, _, z => exact absurd z.1.2 (by simp)
  | [_, _], _, _, z => exact absurd z.1.2 (by simp)
  | _ :: _ :: _ :: _ :: _, _, _, z => exact absurd z.1.2 (by simp)
  | [_, _, _], [], rs, z => nomatch rs
  | [_, _, _], [_], rs, z => exact absurd (RWs.length rs) (by simp)
  | [_, _, _], [_, _], rs, z => exact absurd (RWs.length rs) (by simp)
  | [_, _, _], _ :: _ :: _ :: _ :: _, rs, z => exact absurd (RWs.length rs) (by simp)

def tAugL (i : Nat) (f : Int → Int → Int) (te : LTE) : LTS := fun L ρ => match ρ[i]? with
  | some (.dat (.int a)) => te ρ fun w ρ1 => match val ρ1 w with
    | .int b => L.nx (ρ1.set i (.dat (.int (f a b))))
    | _ => False
  | _ => False
theorem ds_aug {i : Nat} {x : Str} {op : Operator} {f : Int → Int → Int} {pos' : Pos} (hM : i ≠ 0 ∨ B.M = none) (hN : X.N.Nodup) (hi : X.N[i]? = some x) (hx : Loc X.env.scope x) (he : DE X B e te) (ho : PIp X op (ipI f))
    (hf : X.fn x = true ∨ X.env.scope.names.lookup x = some .local := by first | exact .inl rfl | exact .inr rfl | assumption) : DSt X B (.AugAssign (.Name x pos') op e pos) (tAugL i f te) := by
  refine ⟨he.hk, ps_imp (ps_aug hN hi hx he.pe ho hf) ?_⟩
  rintro D σ H ⟨F, ρ, L, E, c, q⟩
  unfold tAugL at q
  split at q
  · rename_i a ea
    obtain ⟨v, e1, e2⟩ := E.dat i _ ea
    have e2 := Rep.int_inv e2
    subst e2
    refine ⟨.int a, e1, F, ρ, E, he.mono _ _ _ (fun w ρ1 z => ?_) q⟩
    intro v F1 H1 s1 r1
    split at z
    · rename_i b eb
      refine ⟨a, b, rfl, RW.int s1.env r1 eb, c.nx _ _ _ _ (run_put s1.run hM (fun d e => ?_) (fun l e => by cases e) fun l p e => by cases e) z⟩
      cases e
      exact Rep.int _
    · exact z.elim
  · exact q.elim

abbrev LTI := Rho → (List D → Rho → Prop) → Prop
def Wk (B : Bg) (σ : L2.St) (F : Addr → Prop) (ρ : Rho) (H : Hp) (J : It) (ds : List D) : Prop := ∀ (i : Nat) (σ2 : L2.St) (F2 : Addr → Prop) (ρ2 : Rho) (H2 : Hp), Run B σ F ρ H σ2 F2 ρ2 H2 →
  (i < ds.length → J.go i H2 ∧ ∀ x H3, J.yld i H2 x H3 → ∃ d F3, ds[i]? = some d ∧ Stp B σ2 F2 ρ2 H2 F3 ρ2 H3 ∧ Rep B.K F3 H3 x d) ∧ (ds.length ≤ i → J.stop i H2)
def liftI (B : Bg) (t : LTI) : TI := fun σ H R => ∃ F ρ, EnvD B F ρ σ H ∧ t ρ fun ds ρ1 => ∀ J F' H', Stp B σ F ρ H F' ρ1 H' → Wk B σ F' ρ1 H' J ds → R J H'
structure DI (X : Cx) (B : Bg) (tg iter : Expr) (t : LTI) : Prop where
  hk : B.K = X.K
  mono : Mono t
  pi : PI X tg iter (liftI B t)
theorem pi_imp {t t' : TI} (h : PI X tg iter t) (i : ∀ σ H R, t' σ H R → t σ H R) : PI X tg iter t' := ⟨fun pins s σ H R I q => h.run pins s σ H R I (i σ H R q)⟩
/-- a list or a tuple -/
def iSeq (K : PySem.W.Frag) (tl : TE) : TI := fun σ H R => tl σ H fun x H1 => ∃ a, x = .ref a ∧ (((∃ xs, SqL K H1 a xs) ∧ R (Itl K a) H1) ∨ ((∃ xs, SqT K H1 a xs) ∧ R (Itt K a) H1))
theorem pi_seq {l : Expr} {tl : TE} (hl : PE X l tl) : PI X tg l (iSeq X.K tl) := by
  refine ⟨fun pins s σ H R I h => ?_⟩
  refine thn (hl.run pins s σ H _ I h) fun v s1 ⟨x, H1, I1, r1, q1⟩ => ?_
  obtain ⟨a, e, ⟨⟨xs, hq⟩, q⟩ | ⟨⟨xs, hq⟩, q⟩⟩ := q1
  · subst e
    cases r1
    obtain ⟨its, rv, p, hz⟩ := I1.list hq
    refine wpAny_pyIter_list p.isList ?_
    refine ⟨s1.heap.objs.size, [s1.heap.objs.size], _, _, H1, rfl, I1.kept (t' := s1.toks) fun b o e => Heap.get?_push_of_some _ e, turn_list a _, ⟨_, Heap.get?_push_size _ rfl, rfl, rfl⟩, fun b hb => ?_, q⟩
    have e : b = s1.heap.objs.size := by simpa using hb
    subst e
    exact I1.fpOk (Nat.le_refl _) (I1.hok.fresh (Nat.le_refl _))
  · subst e
    cases r1
    obtain ⟨its, rv, p, hz⟩ := I1.tuple hq
    refine wpAny_pyIter_tuple (show s1.heap.IsTuple a its.toArray from p) ?_
    refine ⟨s1.heap.objs.size, [s1.heap.objs.size], _, _, H1, rfl, I1.kept (t' := s1.toks) fun b o e => Heap.get?_push_of_some _ e, turn_tuple a _, ⟨_, Heap.get?_push_size _ rfl, rfl, rfl⟩, fun b hb => ?_, q⟩
    have e : b = s1.heap.objs.size := by simpa using hb
    subst e
    exact I1.fpOk (Nat.le_refl _) (I1.hok.fresh (Nat.le_refl _))
def walkOf : D → Option (List D)
  | .tup l => some l
  | .lst l => some l
  | .scr l => some l
  | _ => none
def tItv (t : LTE) : LTI := fun ρ Q => t ρ fun w ρ1 => match walkOf (val ρ1 w) with
  | some ds => nz w = true ∧ Q ds (frzs [w] ρ1)
  | none => False
theorem Reps.eqs {K : PySem.W.Frag} {vs us : List V} {ds es : List D} (h : vs = us) (r : Reps K F H vs ds) : Reps K F H us ds := h ▸ r
theorem di_val (he : DE X B iter te) : DI X B tg iter (tItv te) := by
  refine ⟨he.hk, fun ρ Q Q' h q => he.mono _ _ _ (fun w ρ1 z => ?_) q, pi_imp (pi_seq he.pe) ?_⟩
  · split at z
    · exact ⟨z.1, h _ _ z.2⟩
    · exact z
  rintro σ H R ⟨F, ρ, E, q⟩
  refine ⟨F, ρ, E, he.mono _ _ _ (fun w ρ1 z => ?_) q⟩
  intro v F1 H1 s1 r1
  split at z
  · rename_i ds ed
    obtain ⟨F2, r2, q2⟩ := run_frz E s1.run r1 z.1
    have s2 : Stp B σ F ρ H F2 (frzs [w] ρ1) H1 := ⟨r2.env, r2.ext, r2.own, s1.kn.trans kn_frzs⟩
    have wkL : ∀ a vs, (∀ σ3 F3 ρ3 H3, Run B σ F2 (frzs [w] ρ1) H1 σ3 F3 ρ3 H3 → SqL X.K H3 a vs ∧ Reps B.K F3 H3 vs ds) → Wk B σ F2 (frzs [w] ρ1) H1 (Itl X.K a) ds := fun a vs hv i σ3 F3 ρ3 H3 r3 => by
      obtain ⟨h1, h2⟩ := hv _ _ _ _ r3
      have hl := Reps.length h2
      refine ⟨fun hi => ⟨⟨vs, vs[i]'(by omega), h1, by simp [hl, hi]⟩, fun x H4 hy => ?_⟩, fun hi => ⟨vs, h1, by omega⟩⟩
      obtain ⟨e4, hy⟩ := hy
      subst e4
      obtain ⟨d, e5, e6⟩ := Reps.getV h2 (hy vs h1)
      exact ⟨d, F3, e5, .refl r3.env, e6⟩
    have wkT : ∀ a vs, (∀ σ3 F3 ρ3 H3, Run B σ F2 (frzs [w] ρ1) H1 σ3 F3 ρ3 H3 → SqT X.K H3 a vs ∧ Reps B.K F3 H3 vs ds) → Wk B σ F2 (frzs [w] ρ1) H1 (Itt X.K a) ds := fun a vs hv i σ3 F3 ρ3 H3 r3 => by
      obtain ⟨h1, h2⟩ := hv _ _ _ _ r3
      have hl := Reps.length h2
      refine ⟨fun hi => ⟨⟨vs, vs[i]'(by omega), h1, by simp [hl, hi]⟩, fun x H4 hy => ?_⟩, fun hi => ⟨vs, h1, by omega⟩⟩
      obtain ⟨e4, hy⟩ := hy
      subst e4
      obtain ⟨d, e5, e6⟩ := Reps.getV h2 (hy vs h1)
      exact ⟨d, F3, e5, .refl r3.env, e6⟩
    have key : ∀ d, val ρ1 w = d → walkOf d = some ds → ∃ a, v = .ref a ∧ (((∃ xs, SqL X.K H1 a xs) ∧ R (Itl X.K a) H1) ∨ ((∃ xs, SqT X.K H1 a xs) ∧ R (Itt X.K a) H1)) := fun d ev ew => by
      rw [ev] at q2
      cases q2 with
      | @tup a vs ds' h1 h2 =>
        cases ew
        refine ⟨a, rfl, .inr ⟨⟨vs, he.hk ▸ h1⟩, z.2 _ F2 H1 s2 (wkT a vs fun σ3 F3 ρ3 H3 r3 => ⟨he.hk ▸ SqT.keep h1 r3.ext r2.env.ownL, Reps.run r2.env h2 r3⟩)⟩⟩
      | @lst a vs ds' hf h1 h2 =>
        cases ew
        refine ⟨a, rfl, .inl ⟨⟨vs, SqL.of h1⟩, z.2 _ F2 H1 s2 (wkL a vs fun σ3 F3 ρ3 H3 r3 => ⟨SqL.of (r3.ext.keep _ _ h1 (r2.env.ownF _ hf) fun ps q => by cases q), Reps.run r2.env h2 r3⟩)⟩⟩
      | @scr a vs ds' h1 h2 =>
        cases ew
        refine ⟨a, rfl, .inl ⟨⟨vs, he.hk ▸ h1.sql⟩, z.2 _ F2 H1 s2 (wkL a vs fun σ3 F3 ρ3 H3 r3 => ⟨he.hk ▸ (ScL.keep h1 r3.ext r2.env.ownL r2.env.ownF).sql, Reps.run r2.env h2 r3⟩)⟩⟩
      | non => cases ew
      | bl b => cases ew
      | int b => cases ew
      | str b => cases ew
      | ty b => cases ew
      | fn b => cases ew
    exact key _ rfl ed
  · exact z.elim
def BndI (j : Int) : Prop := -(2 ^ 62) ≤ j ∧ j < 2 ^ 62
theorem wk_range {lo : Int} {n : Nat} (E : EnvD B F ρ σ H) : Wk B σ F ρ H (Itr lo n) ((List.range n).map fun k : Nat => .int (lo + k)) := fun i σ2 F2 ρ2 H2 r => by
  refine ⟨fun hi => ?_, fun hi => (show n ≤ i by simpa using hi)⟩
  have hi : i < n := by simpa using hi
  refine ⟨hi, fun x H3 hy => ?_⟩
  obtain ⟨e1, e2⟩ := hy
  subst e1 e2
  exact ⟨.int (lo + i), F2, by simp [hi], .refl r.env, Rep.int _⟩
def tRng1 (u : LTA) : LTI := fun ρ Q => u ρ fun ws ρ1 => match ws.map (val ρ1) with
  | [.int j] => BndI j ∧ Q ((List.range j.toNat).map fun k : Nat => .int k) ρ1
  | _ => False
theorem RWs.one {ws : List W} {vs : List V} {d : D} (rs : RWs B F ρ σ Hs H ws vs) (e : ws.map (val ρ) = [d]) : ∃ w v, ws = [w] ∧ vs = [v] ∧ RW B F ρ σ Hs H w v ∧ val ρ w = d := by
  cases rs with
  | nil => cases e
  | cons a b n =>
    rw [List.map_cons] at e
    have e1 := (List.cons.inj e).1
    have e2 := (List.cons.inj e).2
    cases b with
    | nil => exact ⟨_, _, rfl, rfl, a, e1⟩
    | cons _ _ _ => cases e2
theorem RWs.hd {ws : List W} {vs : List V} {d : D} {ds : List D} (rs : RWs B F ρ σ Hs H ws vs) (e : ws.map (val ρ) = d :: ds) : ∃ w v us xs, ws = w :: us ∧ vs = v :: xs ∧ RW B F ρ σ Hs H w v ∧ val ρ w = d ∧ RWs B F ρ σ Hs H us xs ∧ us.map (val ρ) = ds := by
  cases rs with
  | nil => cases e
  | cons a b n =>
    rw [List.map_cons] at e
    exact ⟨_, _, _, _, rfl, rfl, a, (List.cons.inj e).1, b, (List.cons.inj e).2⟩
theorem RWs.int1 {ws : List W} {vs : List V} {i : Int} (E : EnvD B F ρ σ H) (rs : RWs B F ρ σ Hs H ws vs) (e : ws.map (val ρ) = [.int i]) : vs = [.int i] := by
  obtain ⟨w, v, rfl, rfl, r, e⟩ := RWs.one rs e
  rw [RW.int E r e]
theorem RWs.int2 {ws : List W} {vs : List V} {i j : Int} (E : EnvD B F ρ σ H) (rs : RWs B F ρ σ Hs H ws vs) (e : ws.map (val ρ) = [.int i, .int j]) : vs = [.int i, .int j] := by
  obtain ⟨w, v, us, xs, rfl, rfl, r, e1, rs2, e2⟩ := RWs.hd rs e
  rw [RW.int E r e1, RWs.int1 E rs2 e2]
theorem RWs.int3 {ws : List W} {vs : List V} {i j k : Int} (E : EnvD B F ρ σ H) (rs : RWs B F ρ σ Hs H ws vs) (e : ws.map (val ρ) = [.int i, .int j, .int k]) : vs = [.int i, .int j, .int k] := by
  obtain ⟨w, v, us, xs, rfl, rfl, r, e1, rs2, e2⟩ := RWs.hd rs e
  rw [RW.int E r e1, RWs.int2 E rs2 e2]
theorem di_range1 {a : Expr} {p : Pos} (hg : Gl X "range") (hm : X.mg "range" = none) (ha : DA X B [a] u) (hs : starEach [a] X.env = [(false, eval a X.env)] := by rfl) : DI X B tg (.Call (.Name "range" p) [a] [] pos) (tRng1 u) := by
  refine ⟨ha.hk, fun ρ Q Q' h q => ha.mono _ _ _ (fun ws ρ1 z => ?_) q, pi_imp (pi_range1 hg hm ha.pa hs) ?_⟩
  · split at z
    · exact ⟨z.1, h _ _ z.2⟩
    · exact z
  rintro σ H R ⟨F, ρ, E, q⟩
  refine ⟨F, ρ, E, ha.mono _ _ _ (fun ws ρ1 z => ?_) q⟩
  intro vs F1 H1 s1 r1
  split at z
  · rename_i j ej
    refine ⟨j, RWs.int1 s1.env r1 ej, z.1.1, z.1.2, z.2 _ F1 H1 s1 ?_⟩
    have := wk_range (lo := 0) (n := j.toNat) s1.env
    simpa using this
  · exact z.elim
def tRng2 (u : LTA) : LTI := fun ρ Q => u ρ fun ws ρ1 => match ws.map (val ρ1) with
  | [.int i, .int j] => (BndI i ∧ BndI j) ∧ Q ((List.range (j - i).toNat).map fun k : Nat => .int (i + k)) ρ1
  | _ => False
theorem di_range2 {a b : Expr} {p : Pos} (hg : Gl X "range") (hm : X.mg "range" = none) (ha : DA X B [a, b] u) (hs : starEach [a, b] X.env = [(false, eval a X.env), (false, eval b X.env)] := by rfl) (hs2 : starEach [b] X.env = [(false, eval b X.env)] := by rfl) :
    DI X B tg (.Call (.Name "range" p) [a, b] [] pos) (tRng2 u) := by
  refine ⟨ha.hk, fun ρ Q Q' h q => ha.mono _ _ _ (fun ws ρ1 z => ?_) q, pi_imp (pi_range2 hg hm ha.pa hs hs2) ?_⟩
  · split at z
    · exact ⟨z.1, h _ _ z.2⟩
    · exact z
  rintro σ H R ⟨F, ρ, E, q⟩
  refine ⟨F, ρ, E, ha.mono _ _ _ (fun ws ρ1 z => ?_) q⟩
  intro vs F1 H1 s1 r1
  split at z
  · rename_i i j ej
    exact ⟨i, j, RWs.int2 s1.env r1 ej, ⟨z.1.1.1, z.1.1.2, z.1.2.1, z.1.2.2⟩, z.2 _ F1 H1 s1 (wk_range s1.env)⟩
  · exact z.elim

def forD (g : LTG) (t : LTS) (L : LEnds) : List D → Rho → Prop
  | [], ρ => L.nx ρ
  | d :: ds, ρ => g (.dat d) ρ fun ρ1 => t { L with nx := forD g t L ds, ct := forD g t L ds, bk := L.nx } ρ1
def tForL (ti : LTI) (g : LTG) (t : LTS) : LTS := fun L ρ => ti ρ fun ds ρ1 => forD g t L ds ρ1
theorem ds_for {ti : LTI} {g : LTG} {S : List Nat} (hp : PassesOwn (model X.prog X.w) X.A X.env X.xe) (hc : X.calm = true) (hi : DI X B tg iter ti) (hg : DG X B tg S g) (hb : DSs X B body t)
    (hs : ∀ x, foldedSetIterable iter X.env x = pure x := by intro _; rfl) : DSt X B (.For tg iter body [] pos) (tForL ti g t) := by
  refine ⟨hi.hk, ps_imp (ps_for hp hc hi.pi hg.pg hb.ps hs) ?_⟩
  rintro D σ H ⟨F, ρ, L, E, c, q⟩
  refine ⟨F, ρ, E, hi.mono _ _ _ (fun ds ρ1 z => ?_) q⟩
  intro J F1 H1 s1 wk
  have r1 := s1.run
  refine ⟨fun i m σ' H' => m = ds.length - i ∧ i ≤ ds.length ∧ ∃ F' ρ', Run B σ F1 ρ1 H1 σ' F' ρ' H' ∧ forD g t L (ds.drop i) ρ', ⟨ds.length, rfl, Nat.zero_le _, F1, ρ1, .refl r1.env, z⟩, ?_⟩
  rintro i m σ2 H2 ⟨rfl, hi, F2, ρ2, r2, h2⟩
  obtain ⟨k1, k2⟩ := wk i σ2 F2 ρ2 H2 r2
  by_cases hlt : i < ds.length
  · obtain ⟨go, yl⟩ := k1 hlt
    refine .inr ⟨go, fun σ' H' => ∃ F' ρ', Run B σ F1 ρ1 H1 σ' F' ρ' H' ∧ forD g t L (ds.drop (i + 1)) ρ', fun σ' H' hn => ⟨ds.length - (i + 1), by omega, rfl, hlt, hn⟩, fun x H3 hy => ?_⟩
    obtain ⟨d, F3, e3, s3, q3⟩ := yl x H3 hy
    have r3 := r2.trans s3.run
    have e4 : ds.drop i = d :: ds.drop (i + 1) := by
      rw [List.drop_eq_getElem_cons hlt]
      rw [List.getElem?_eq_getElem hlt] at e3
      rw [Option.some.inj e3]
    rw [e4] at h2
    refine ⟨σ2, F3, ρ2, H3, F3, ρ2, .dat d, s3.env, .refl s3.env, q3, hg.mono _ _ _ _ (fun ρ4 z4 => ?_) h2⟩
    intro σ4 F4 H4 r4 _
    have r14 := r1.trans (r3.trans r4)
    refine ⟨F4, ρ4, _, r4.env, ⟨?_, ?_, ?_, ?_⟩, z4⟩
    · exact fun σ5 F5 ρ5 H5 r5 h5 => ⟨F5, ρ5, (r3.trans r4).trans r5, h5⟩
    · exact fun w v σ5 F5 ρ5 H5 r5 rv h5 => c.rt w v _ _ _ _ (r14.trans r5) rv h5
    · exact fun σ5 F5 ρ5 H5 r5 h5 => c.nx _ _ _ _ (r14.trans r5) h5
    · exact fun σ5 F5 ρ5 H5 r5 h5 => ⟨F5, ρ5, (r3.trans r4).trans r5, h5⟩
  · have e : i = ds.length := by omega
    subst e
    refine .inl ⟨k2 (Nat.le_refl _), ?_⟩
    rw [List.drop_length] at h2
    exact c.nx _ _ _ _ (r1.trans r2) h2
end
end L3

set_option Elab.async false
set_option linter.all false
set_option maxRecDepth 100000
set_option maxHeartbeats 2000000
namespace L3
open PySem PySem.Spec PyProof.Rows L2

def wipeR (ρ : Rho) : List Nat → Rho
  | [] => ρ
  | v :: vs => (wipeR ρ vs).set v .un
def unwipe (ρ1 ρ2 : Rho) : List Nat → Rho
  | [] => ρ2
  | v :: vs => (unwipe ρ1 ρ2 vs).set v (ρ1.getD v .un)
def noOwn (ρ : Rho) (vs : List Nat) : Bool := vs.all fun j => !isOwn ρ j
section
variable {X : Cx} {B : Bg} {F0 F F' F'' F1 : Addr → Prop} {ρ0 ρ ρ' ρ'' ρ1 : Rho} {σ0 σ σ' σ'' : L2.St} {H H' H'' Hs H1 : Hp} {w : W} {v : V} {vs : List Nat}
theorem wipe_get (j : Nat) : ∀ vs : List Nat, (wipe σ vs)[j]? = if j ∈ vs then (if j < σ.length then some none else none) else σ[j]?
  | [] => by simp [wipe]
  | v :: vs => by
    unfold wipe
    rw [List.getElem?_set, wipe_length]
    by_cases e : v = j
    · subst e; simp
    · rw [if_neg e, wipe_get j vs]
      have e' : ¬ j = v := fun z => e z.symm
      simp [List.mem_cons, e']
theorem wipeR_length (ρ : Rho) : ∀ vs : List Nat, (wipeR ρ vs).length = ρ.length
  | [] => rfl
  | v :: vs => by unfold wipeR; rw [List.length_set, wipeR_length ρ vs]
theorem wipeR_get (j : Nat) : ∀ vs : List Nat, (wipeR ρ vs)[j]? = if j ∈ vs then (if j < ρ.length then some .un else none) else ρ[j]?
  | [] => by simp [wipeR]
  | v :: vs => by
    unfold wipeR
    rw [List.getElem?_set, wipeR_length]
    by_cases e : v = j
    · subst e; simp
    · rw [if_neg e, wipeR_get j vs]
      have e' : ¬ j = v := fun z => e z.symm
      simp [List.mem_cons, e']
theorem unwipe_length (ρ1 ρ2 : Rho) : ∀ vs : List Nat, (unwipe ρ1 ρ2 vs).length = ρ2.length
  | [] => rfl
  | v :: vs => by unfold unwipe; rw [List.length_set, unwipe_length ρ1 ρ2 vs]
theorem unwipe_get (j : Nat) : ∀ vs : List Nat, (unwipe ρ1 ρ vs)[j]? = if j ∈ vs then (if j < ρ.length then some (ρ1.getD j .un) else none) else ρ[j]?
  | [] => by simp [unwipe]
  | v :: vs => by
    unfold unwipe
    rw [List.getElem?_set, unwipe_length]
    by_cases e : v = j
    · subst e; simp
    · rw [if_neg e, unwipe_get j vs]
      have e' : ¬ j = v := fun z => e z.symm
      simp [List.mem_cons, e']
theorem wipe_eq {S : List Nat} (hS : ∀ j ∈ S, j ∈ vs) (o : Off S (wipe σ vs) ρ σ' ρ') : wipe σ' vs = wipe σ vs := by
  apply List.ext_getElem?
  intro j
  rw [wipe_get, wipe_get, o.len, wipe_length]
  by_cases e : j ∈ vs
  · rw [if_pos e, if_pos e]
  · rw [if_neg e, if_neg e, o.at_ j (fun h => e (hS j h)), wipe_get, if_neg e]
/-- fewer slots are known -/
theorem env_wipe (hM : 0 ∉ vs ∨ B.M = none) (E : EnvD B F ρ σ H) : EnvD B F (wipeR ρ vs) (wipe σ vs) H := by
  have gr : ∀ j s, (wipeR ρ vs)[j]? = some s → s ≠ .un → j ∉ vs ∧ ρ[j]? = some s := fun j s h n => by
    rw [wipeR_get] at h
    split at h
    · split at h
      · exact absurd (Option.some.inj h).symm n
      · cases h
    · exact ⟨‹_›, h⟩
  have gs : ∀ j, j ∉ vs → (wipe σ vs)[j]? = σ[j]? := fun j h => by rw [wipe_get, if_neg h]
  refine ⟨fun i d h => ?_, fun i l h => ?_, fun i j l l' p h1 h2 h3 h4 => ?_, by rw [wipeR_length, wipe_length]; exact E.len, E.base, E.there, E.fz, E.fz0, E.fh, fun p h => ?_, E.tabs⟩
  · obtain ⟨n, h⟩ := gr i _ h (fun z => nomatch z)
    rw [gs i n]; exact E.dat i d h
  · obtain ⟨n, h⟩ := gr i _ h (fun z => nomatch z)
    rw [gs i n]; exact E.own i l h
  · obtain ⟨n1, h1⟩ := gr i _ h1 (fun z => nomatch z)
    obtain ⟨n2, h2⟩ := gr j _ h2 (fun z => nomatch z)
    rw [gs i n1] at h3
    rw [gs j n2] at h4
    exact E.apart i j l l' p h1 h2 h3 h4
  · rcases hM with hM | hM
    · rw [gs 0 hM, wipeR_get, if_neg hM]; exact E.mp p h
    · rw [hM] at h; cases h
theorem own_wipe {b : Addr} (h : OwnA (wipeR ρ vs) (wipe σ vs) b) : OwnA ρ σ b := by
  obtain ⟨i, l, h1, h2⟩ := h
  rw [wipeR_get] at h1
  split at h1
  · split at h1 <;> cases h1
  · rename_i n
    rw [wipe_get, if_neg n] at h2
    exact ⟨i, l, h1, h2⟩
theorem run_wipe (hM : 0 ∉ vs ∨ B.M = none) (r : Run B σ0 F0 ρ0 Hs σ F ρ H) : Run B σ0 F0 ρ0 Hs (wipe σ vs) F (wipeR ρ vs) H := ⟨env_wipe hM r.env, r.ext, fun b h => r.own b (own_wipe h)⟩
theorem kn_wipe (k : Kn (wipeR ρ1 vs) ρ) : Kn (wipeR ρ1 vs) (wipeR ρ vs) := fun j s h n => by
  obtain ⟨s', h', n'⟩ := k j s h n
  refine ⟨s', ?_, n'⟩
  rw [wipeR_get] at h ⊢
  split at h
  · split at h
    · exact absurd (Option.some.inj h).symm n
    · cases h
  · rw [if_neg ‹_›]; exact h'
theorem stp_unwipe (hM : 0 ∉ vs ∨ B.M = none) (E1 : EnvD B F1 ρ1 σ H1) (no : noOwn ρ1 vs = true) (s : Stp B (wipe σ vs) F1 (wipeR ρ1 vs) H1 F' ρ' H') : Stp B σ F1 ρ1 H1 F' (unwipe ρ1 ρ' vs) H' ∧ ∀ b, OwnA (unwipe ρ1 ρ' vs) σ b → OwnA ρ' (wipe σ vs) b := by
  have E := s.env
  have hl : ρ'.length = σ.length := by rw [E.len, wipe_length]
  have nown : ∀ j l, j ∈ vs → ρ1[j]? ≠ some (.own l) := fun j l hj h => by
    have := List.all_eq_true.mp no j hj
    unfold isOwn at this
    rw [h] at this
    cases this
  have x : Ext (OwnA ρ1 σ) F1 F' H1 H' := ⟨fun b o h n t => s.ext.keep b o h (fun z => n (own_wipe z)) t, s.ext.there, s.ext.up, fun b h => (s.ext.new b h).imp id (.imp id own_wipe)⟩
  have gr : ∀ j sl, (unwipe ρ1 ρ' vs)[j]? = some sl → (j ∈ vs ∧ sl = ρ1.getD j .un) ∨ (j ∉ vs ∧ ρ'[j]? = some sl) := fun j sl h => by
    rw [unwipe_get] at h
    split at h
    · split at h
      · exact .inl ⟨‹_›, (Option.some.inj h).symm⟩
      · cases h
    · exact .inr ⟨‹_›, h⟩
  have gd : ∀ j sl, sl = ρ1.getD j .un → sl ≠ .un → ρ1[j]? = some sl := fun j sl h n => by
    rw [List.getD_eq_getElem?_getD] at h
    cases q : ρ1[j]? with
    | none => rw [q] at h; exact absurd h n
    | some z => rw [q] at h; rw [h]; rfl
  have gs : ∀ j, j ∉ vs → (wipe σ vs)[j]? = σ[j]? := fun j h => by rw [wipe_get, if_neg h]
  have ow : ∀ b, OwnA (unwipe ρ1 ρ' vs) σ b → OwnA ρ' (wipe σ vs) b := fun b ⟨j, l, h1, h2⟩ => by
    rcases gr j _ h1 with ⟨hj, e⟩ | ⟨hj, e⟩
    · exact absurd (gd j _ e (fun z => nomatch z)) (nown j l hj)
    · exact ⟨j, l, e, by rw [gs j hj]; exact h2⟩
  refine ⟨⟨⟨fun i d h => ?_, fun i l h => ?_, fun i j l l' p h1 h2 h3 h4 => ?_, by rw [unwipe_length]; exact hl, E.base, E.there, E.fz, E.fz0, E.fh, fun p h => ?_, E.tabs⟩, x, fun b h => (s.own b (ow b h)).imp own_wipe id, fun j sl h n => ?_⟩, ow⟩
  · rcases gr i _ h with ⟨hj, e⟩ | ⟨hj, e⟩
    · obtain ⟨v, e1, e2⟩ := E1.dat i d (gd i _ e (fun z => nomatch z))
      exact ⟨v, e1, Rep.keep x E1.ownL E1.ownF d e2⟩
    · rw [← gs i hj]; exact E.dat i d e
  · rcases gr i _ h with ⟨hj, e⟩ | ⟨hj, e⟩
    · exact absurd (gd i _ e (fun z => nomatch z)) (nown i l hj)
    · rw [← gs i hj]; exact E.own i l e
  · rcases gr i _ h1 with ⟨hi, e1⟩ | ⟨hi, e1⟩
    · exact absurd (gd i _ e1 (fun z => nomatch z)) (nown i l hi)
    · rcases gr j _ h2 with ⟨hj, e2⟩ | ⟨hj, e2⟩
      · exact absurd (gd j _ e2 (fun z => nomatch z)) (nown j l' hj)
      · rw [← gs i hi] at h3
        rw [← gs j hj] at h4
        exact E.apart i j l l' p e1 e2 h3 h4
  · rcases hM with hM | hM
    · obtain ⟨h0, l, h1⟩ := E.mp p h
      rw [gs 0 hM] at h0
      exact ⟨h0, l, by rw [unwipe_get, if_neg hM]; exact h1⟩
    · rw [hM] at h; cases h
  · by_cases hj : j ∈ vs
    · refine ⟨sl, ?_, n⟩
      have hlt := (List.getElem?_eq_some_iff.mp h).1
      rw [unwipe_get, if_pos hj, if_pos (by rw [hl, ← E1.len]; exact hlt), List.getD_eq_getElem?_getD, h]; rfl
    · obtain ⟨s', h', n'⟩ := s.kn j sl (by rw [wipeR_get, if_neg hj]; exact h) n
      exact ⟨s', by rw [unwipe_get, if_neg hj]; exact h', n'⟩
/-- a list that no slot holds is written -/
theorem env_upd {p : Addr} {us us' : List V} (E : EnvD B F ρ σ H) (h : H p = some (.lst us)) (nf : ¬ F p) (no : ¬ OwnA ρ σ p) (hb : B.H0 p = none) : EnvD B F ρ σ (upd H p (.lst us')) ∧ Ext (fun b => b = p) F F H (upd H p (.lst us')) := by
  have x : Ext (fun b => b = p) F F H (upd H p (.lst us')) := ⟨fun b o h' n _ => by rw [upd_ne n]; exact h', fun b h' => by
    by_cases z : b = p
    · subst z; rw [upd_same]; exact fun y => nomatch y
    · rw [upd_ne z]; exact h', fun _ h => h, fun _ h => .inl h⟩
  have xl : ∀ b, b = p → ∃ l, H b = some (.lst l) := fun b e => ⟨us, by rw [e]; exact h⟩
  have xf : ∀ b, F b → ¬ b = p := fun b hf e => nf (e ▸ hf)
  refine ⟨⟨fun i d h' => ?_, fun i l h' => ?_, E.apart, E.len, fun b o h' n t => ?_, fun b h' => x.there b (E.there b h'), E.fz, E.fz0, fun b h' => x.there b (E.fh b h'), E.mp, tabs_upd E.tabs h⟩, x⟩
  · obtain ⟨v, e1, e2⟩ := E.dat i d h'
    exact ⟨v, e1, Rep.keep x xl xf d e2⟩
  · obtain ⟨q, us, e1, e2, e3, e4, e5⟩ := E.own i l h'
    have hq : q ≠ p := fun e => no ⟨i, l, h', by rw [e1, e]⟩
    exact ⟨q, us, e1, by rw [upd_ne hq]; exact e2, Reps.keep x xl xf l e3, e4, e5⟩
  · rw [upd_ne (fun e => by rw [e, hb] at h'; cases h')]
    exact E.base b o h' n t
end

structure DTs (X : Cx) (B : Bg) (ifs : List Expr) (t : LTT) : Prop where
  mono : Mono t
  pts : PTs X ifs (liftT B t)
def tYesL : LTT := fun ρ Q => Q true ρ
def dcomp (g : LTG) (tt : LTT) (te : LTE) (vs : List Nat) : List D → List D → Rho → (List D → Rho → Prop) → Prop
  | [], acc, ρ, Q => Q acc ρ
  | d :: ds, acc, ρ, Q => g (.dat d) ρ fun ρ2 => tt ρ2 fun b ρ3 => if b = true then te ρ3 fun w ρ4 => (nz w = true ∧ acc.length < sizeLine) ∧ dcomp g tt te vs ds (acc ++ [val ρ4 w]) (wipeR (frzs [w] ρ4) vs) Q else dcomp g tt te vs ds acc (wipeR ρ3 vs) Q
def tComp (ti : LTI) (g : LTG) (tt : LTT) (te : LTE) (vs : List Nat) : LTE := fun ρ Q => ti ρ fun ds ρ1 => noOwn ρ1 vs = true ∧ dcomp g tt te vs ds [] (wipeR ρ1 vs) fun acc ρ2 => Q (.new acc) (unwipe ρ1 ρ2 vs)
theorem dcomp_mono {g : LTG} {tt : LTT} {te : LTE} {vs : List Nat} (mg : MonoG g) (mt : Mono tt) (me : Mono te) {Q Q' : List D → Rho → Prop} (h : ∀ a ρ, Q a ρ → Q' a ρ) : ∀ (ds acc : List D) (ρ : Rho), dcomp g tt te vs ds acc ρ Q → dcomp g tt te vs ds acc ρ Q'
  | [], acc, ρ, q => h _ _ q
  | d :: ds, acc, ρ, q => mg _ _ _ _ (fun ρ2 q2 => mt _ _ _ (fun b ρ3 q3 => by
      split at q3
      · rename_i e; rw [if_pos e]; exact me _ _ _ (fun w ρ4 q4 => ⟨q4.1, dcomp_mono mg mt me h ds _ _ q4.2⟩) q3
      · rename_i e; rw [if_neg e]; exact dcomp_mono mg mt me h ds _ _ q3) q2) q
section
variable {X : Cx} {B : Bg} {F0 F F' F'' F1 : Addr → Prop} {ρ0 ρ ρ' ρ'' ρ1 : Rho} {σ0 σ σ' σ'' : L2.St} {H H' H'' Hs H1 : Hp} {w : W} {v : V} {vs : List Nat} {pos : Pos} {c : Expr} {u : LTT}
theorem pts_imp {ifs : List Expr} {t t' : TT} (h : PTs X ifs t) (i : ∀ σ H Q, t' σ H Q → t σ H Q) : PTs X ifs t' := ⟨fun pins s σ H Q I q => h.run pins s σ H Q I (i σ H Q q)⟩
theorem dts_nil : DTs X B [] tYesL := ⟨fun _ _ _ h q => h _ _ q, pts_imp pts_nil fun σ H Q ⟨F, ρ, E, q⟩ => q F H (.refl E)⟩
theorem dts_one (h : DT X B c u) : DTs X B [c] u := ⟨h.mono, pts_one h.pt⟩
theorem comp_lift {ti : LTI} {g : LTG} {S : List Nat} {tt : LTT} {te : LTE} (hM : 0 ∉ vs ∨ B.M = none) (hS : ∀ j ∈ S, j ∈ vs) (mi : Mono ti) (mg : MonoG g) (mt : Mono tt) (me : Mono te) (σ : L2.St) (H : Hp) (Q : VK)
    (h : lift B (tComp ti g tt te vs) σ H Q) : tLc (liftI B ti) (liftG B S g) (liftT B tt) (lift B te) vs σ H Q := by
  obtain ⟨F, ρ, E, q⟩ := h
  refine ⟨F, ρ, E, mi _ _ _ (fun ds ρ1 z => ?_) q⟩
  intro J F1 H1 s1 wk D hD
  obtain ⟨no, z⟩ := z
  have E1 := s1.env
  have Ew := env_wipe hM E1
  have hb : B.H0 D = none := by
    cases q : B.H0 D with
    | none => rfl
    | some o => exact absurd hD (E1.there D (by rw [q]; exact fun y => nomatch y))
  have rw0 : Run B σ F1 ρ1 H1 (wipe σ vs) F1 (wipeR ρ1 vs) H1 := run_wipe hM (.refl E1)
  refine ⟨fun i m H' => m = ds.length - i ∧ i ≤ ds.length ∧ ∃ F' ρ' accV acc, Stp B (wipe σ vs) F1 (wipeR ρ1 vs) H1 F' ρ' H' ∧ H' D = some (.lst accV) ∧ Reps B.K F' H' accV acc ∧ ¬ F' D ∧ ¬ OwnA ρ' (wipe σ vs) D ∧
    dcomp g tt te vs (ds.drop i) acc ρ' fun acc ρ2 => ∀ v F' H', Stp B σ F ρ H F' (unwipe ρ1 ρ2 vs) H' → RW B F' (unwipe ρ1 ρ2 vs) σ H H' (.new acc) v → Q v H', ?_, ?_⟩
  · obtain ⟨s, p, us, e, h1, h2, h3, h4, h5⟩ := new_lst Ew hD (.nil (K := B.K))
    cases e
    exact ⟨ds.length, rfl, Nat.zero_le _, F1, _, [], [], s, upd_same, .nil, h3, h4, z⟩
  rintro i m H2 ⟨rfl, hi, F2, ρ2, accV, acc, s2, hDl, rA, nF, nO, hd⟩
  obtain ⟨k1, k2⟩ := wk i _ F2 ρ2 H2 (rw0.trans s2.run)
  by_cases hlt : i < ds.length
  · obtain ⟨go, yl⟩ := k1 hlt
    refine .inr ⟨go, _, fun H' hn => ⟨ds.length - (i + 1), by omega, rfl, hlt, hn⟩, fun x H3 hy => ?_⟩
    obtain ⟨d, F3, e3, s3, q3⟩ := yl x H3 hy
    have e4 : ds.drop i = d :: ds.drop (i + 1) := by
      rw [List.drop_eq_getElem_cons hlt]
      rw [List.getElem?_eq_getElem hlt] at e3
      rw [Option.some.inj e3]
    rw [e4] at hd
    refine ⟨wipe σ vs, F3, ρ2, H3, F3, ρ2, .dat d, s3.env, .refl s3.env, q3, mg _ _ _ _ (fun ρ4 z4 => ?_) hd⟩
    intro σ4 F4 H4 r4 o4
    have ew := wipe_eq hS o4
    -- what stays of the new list up to a later state
    have stay : ∀ {F9 ρ9 H9}, Run B (wipe σ vs) F2 ρ2 H2 σ4 F9 ρ9 H9 → H9 D = some (.lst accV) ∧ Reps B.K F9 H9 accV acc ∧ ¬ F9 D ∧ ¬ OwnA ρ9 σ4 D := fun r9 => by
      refine ⟨r9.ext.keep _ _ hDl nO (fun ps q => by cases q), Reps.run s2.env rA r9, fun q => ?_, fun q => ?_⟩
      · rcases r9.ext.new D q with q | q | q
        · exact nF q
        · rw [hDl] at q; cases q
        · exact nO q
      · rcases r9.own D q with q | q
        · exact nO q
        · rw [hDl] at q; cases q
    have back : ∀ {F9 ρ9 H9}, Run B (wipe σ vs) F2 ρ2 H2 σ4 F9 ρ9 H9 → Kn ρ2 ρ9 → Stp B (wipe σ vs) F1 (wipeR ρ1 vs) H1 F9 (wipeR ρ9 vs) H9 := fun r9 k9 => by
      have r := run_wipe (vs := vs) hM (s2.run.trans r9)
      rw [ew] at r
      exact ⟨r.env, r.ext, r.own, kn_wipe (s2.kn.trans k9)⟩
    refine ⟨ew, F4, ρ4, r4.env, mt _ _ _ (fun b ρ5 z5 => ?_) z4⟩
    intro F5 H5 s5
    have r5 := (s3.run.trans r4).trans s5.run
    have kn5 := (s3.kn.trans o4.kn).trans s5.kn
    split at z5
    · rename_i eb
      rw [if_pos eb]
      refine ⟨F5, ρ5, s5.env, me _ _ _ (fun w ρ6 z6 => ?_) z5⟩
      intro y F6 H6 s6 r6
      obtain ⟨F7, r7, q7⟩ := run_frz s5.env s6.run r6 z6.1.1
      have r57 := r5.trans r7
      obtain ⟨g1, g2, g3, g4⟩ := stay r57
      have s7 := back r57 ((kn5.trans s6.kn).trans kn_frzs)
      have hlen := Reps.length g2
      refine ⟨accV, g1, by rw [hlen]; exact z6.1.2, F7, wipeR (frzs [w] ρ6) vs, accV ++ [y], acc ++ [val ρ6 w], ?_, upd_same, ?_, g3, ?_, z6.2⟩
      · have no' : ¬ OwnA (wipeR (frzs [w] ρ6) vs) (wipe σ vs) D := fun q => g4 (own_wipe (by rw [ew]; exact q))
        obtain ⟨E9, x9⟩ := env_upd (us' := accV ++ [y]) s7.env g1 g3 no' hb
        refine ⟨E9, ⟨fun b o h n t => ?_, fun b h => x9.there b (s7.ext.there b h), s7.ext.up, s7.ext.new⟩, s7.own, s7.kn⟩
        rw [upd_ne (fun e => by rw [e, hD] at h; cases h)]
        exact s7.ext.keep b o h n t
      · have x9 : Ext (fun b => b = D) F7 F7 H6 (upd H6 D (.lst (accV ++ [y]))) := ⟨fun b o h' n _ => by rw [upd_ne n]; exact h', fun b h' => by
          by_cases z : b = D
          · subst z; rw [upd_same]; exact fun y => nomatch y
          · rw [upd_ne z]; exact h', fun _ h => h, fun _ h => .inl h⟩
        have xl : ∀ b, b = D → ∃ l, H6 b = some (.lst l) := fun b e => ⟨accV, by rw [e]; exact g1⟩
        have xf : ∀ b, F7 b → ¬ b = D := fun b hf e => g3 (e ▸ hf)
        exact Reps.append (Reps.keep x9 xl xf _ g2) (.cons (Rep.keep x9 xl xf _ q7) .nil)
      · exact fun q => g4 (own_wipe (by rw [ew]; exact q))
    · rename_i eb
      rw [if_neg eb]
      obtain ⟨g1, g2, g3, g4⟩ := stay r5
      exact ⟨F5, wipeR ρ5 vs, accV, acc, back r5 kn5, g1, g2, g3, fun q => g4 (own_wipe (by rw [ew]; exact q)), z5⟩
  · have e : i = ds.length := by omega
    subst e
    refine .inl ⟨k2 (Nat.le_refl _), ?_⟩
    rw [List.drop_length] at hd
    obtain ⟨s9, o9⟩ := stp_unwipe hM E1 no s2
    refine hd (.ref D) F2 H2 (s1.trans E s9) ⟨D, accV, rfl, hDl, rA, nF, fun q => nO (o9 D q), ?_⟩
    cases q : H D with
    | none => rfl
    | some o => exact absurd hD (s1.ext.there D (by rw [q]; exact fun y => nomatch y))
end
section
variable {X : Cx} {B : Bg} {pos : Pos} {elt tg iter : Expr} {ifs : List Expr} {scope : Scope} {own : List (Str × Nat)} {ti : LTI} {g : LTG} {S : List Nat} {tt : LTT} {te : LTE}
theorem comp_mono (mi : Mono ti) (mg : MonoG g) (mt : Mono tt) (me : Mono te) {vs : List Nat} : Mono (tComp ti g tt te vs) := fun ρ Q Q' h q => mi _ _ _ (fun ds ρ1 z => ⟨z.1, dcomp_mono mg mt me (fun a ρ2 z2 => h _ _ z2) _ _ _ z.2⟩) q
theorem de_lc (hM : 0 ∉ own.map (·.2) ∨ B.M = none) (hS : ∀ j ∈ S, j ∈ own.map (·.2)) (hc : X.calm = true) (hN : X.N.Nodup) (hi : DI X B tg iter ti) (ok : BlkOk X.N X.env.scope scope own)
    (hg : ∀ (s : Shared) (H : Hp) (C : Addr) (cl : List (Str × Addr)) (fp : List Addr), DG (X.blk s H scope (compEnvC scope cl C X.env) fp) B tg S g) (ht : ∀ (s : Shared) (H : Hp) (C : Addr) (cl : List (Str × Addr)) (fp : List Addr), DTs (X.blk s H scope (compEnvC scope cl C X.env) fp) B ifs tt)
    (he : ∀ (s : Shared) (H : Hp) (C : Addr) (cl : List (Str × Addr)) (fp : List Addr), DE (X.blk s H scope (compEnvC scope cl C X.env) fp) B elt te) (hs : ∀ x, foldedSetIterable iter X.env x = pure x := by intro _; rfl) :
    DE X B (.ListComp elt [⟨tg, iter, ifs, 0⟩] scope pos) (tComp ti g tt te (own.map (·.2))) := by
  have mg := (hg X.s_0 X.H_0 0 [] []).mono
  have mt := (ht X.s_0 X.H_0 0 [] []).mono
  have me := (he X.s_0 X.H_0 0 [] []).mono
  exact ⟨hi.hk, comp_mono hi.mono mg mt me, pe_imp (pe_lc hc hN hi.pi ok (fun s H C cl fp => (hg s H C cl fp).pg) (fun s H C cl fp => (ht s H C cl fp).pts) (fun s H C cl fp => (he s H C cl fp).pe) hs) (comp_lift hM hS hi.mono mg mt me)⟩
theorem ds_setLc {i : Nat} {y : Str} {py spos : Pos} (hM0 : i ≠ 0 ∨ B.M = none) (hM : 0 ∉ own.map (·.2) ∨ B.M = none) (hS : ∀ j ∈ S, j ∈ own.map (·.2)) (hc : X.calm = true) (hN : X.N.Nodup) (hy : X.N[i]? = some y) (hyl : X.env.scope.names.lookup y = some .local)
    (hsw : swapsWith (.ListComp elt [⟨tg, iter, ifs, 0⟩] scope pos) (some (.Name y py)) spos.line X.env = pure true) (hi : DI X B tg iter ti) (ok : BlkOk X.N X.env.scope scope own)
    (hg : ∀ (s : Shared) (H : Hp) (C : Addr) (cl : List (Str × Addr)) (fp : List Addr), DG (X.blk s H scope (compEnvC scope cl C X.env) fp) B tg S g) (ht : ∀ (s : Shared) (H : Hp) (C : Addr) (cl : List (Str × Addr)) (fp : List Addr), DTs (X.blk s H scope (compEnvC scope cl C X.env) fp) B ifs tt)
    (he : ∀ (s : Shared) (H : Hp) (C : Addr) (cl : List (Str × Addr)) (fp : List Addr), DE (X.blk s H scope (compEnvC scope cl C X.env) fp) B elt te) (hs : ∀ x, foldedSetIterable iter X.env x = pure x := by intro _; rfl) :
    DSt X B (.Assign [.Name y py] (.ListComp elt [⟨tg, iter, ifs, 0⟩] scope pos) spos) (tAsgL (tComp ti g tt te (own.map (·.2))) (gNm i)) := by
  have mg := (hg X.s_0 X.H_0 0 [] []).mono
  have mt := (ht X.s_0 X.H_0 0 [] []).mono
  have me := (he X.s_0 X.H_0 0 [] []).mono
  refine ⟨hi.hk, ps_imp (ps_setLc hc hN hy hyl hsw hi.pi ok (fun s H C cl fp => (hg s H C cl fp).pg) (fun s H C cl fp => (ht s H C cl fp).pts) (fun s H C cl fp => (he s H C cl fp).pe) hs) ?_⟩
  rintro D σ H ⟨F, ρ, L, E, c, q⟩
  refine comp_lift hM hS hi.mono mg mt me σ H _ ⟨F, ρ, E, comp_mono hi.mono mg mt me _ _ _ (fun w ρ1 z => ?_) q⟩
  intro v F1 H1 s1 r1
  exact gname_ok (P := D.nx) hM0 E s1.run r1 z fun F' ρ' r' _ k => c.nx _ _ _ _ r' k
end
end L3

set_option Elab.async false
set_option linter.all false
set_option maxRecDepth 100000
set_option maxHeartbeats 2000000
namespace L3
open PySem PySem.Spec PyProof.Rows L2

abbrev Prm := List D → (W → Prop) → Prop
structure PrmOk (n : Nat) (P : Prm) : Prop where
  mono : ∀ ds Q Q', (∀ w, Q w → Q' w) → P ds Q → P ds Q'
  len : ∀ ds Q, P ds Q → ds.length = n
structure After (T : List (Addr × Option Str)) (F : Addr → Prop) (H : Hp) (F' : Addr → Prop) (H' : Hp) : Prop where
  keep : ∀ b o, H b = some o → NoTbl o → H' b = some o
  there : ∀ b, H b ≠ none → H' b ≠ none
  up : ∀ b, F b → F' b
  new : ∀ b, F' b → F b ∨ H b = none
  fh : ∀ b, F' b → H' b ≠ none
  tabs : Tbs T H'
def RVk (K : PySem.W.Frag) (F' : Addr → Prop) (H H' : Hp) : W → V → Prop
  | .dat d, v => Rep K F' H' v d
  | .new l, v => ∃ p vs, v = .ref p ∧ H' p = some (.lst vs) ∧ Reps K F' H' vs l ∧ ¬ F' p ∧ H p = none
  | .ref _, _ => False
def toSp (K : PySem.W.Frag) (T : List (Addr × Option Str)) (n : Nat) (P : Prm) : Sp := fun vs H Q _ => ∃ F ds, Reps K F H vs ds ∧ ds.length = n ∧ (∀ b, F b → H b ≠ none) ∧ Tbs T H ∧ P ds fun w => ∀ v F' H', After T F H F' H' → RVk K F' H H' w v → Q v H'
def startR (n : Nat) (ds : List D) : Rho := ds.map .dat ++ List.replicate (n - ds.length) .un
section
variable {X : Cx} {B : Bg} {F0 F F' F'' F1 : Addr → Prop} {ρ0 ρ ρ' ρ'' ρ1 : Rho} {σ0 σ σ' σ'' : L2.St} {H H' H'' Hs H1 : Hp} {w : W} {v : V} {K : PySem.W.Frag} {T : List (Addr × Option Str)}
theorem start_get {N : List Str} {vs : List V} {j : Nat} {v : V} (h : vs[j]? = some v) : (L2.start N vs)[j]? = some (some v) := by
  unfold L2.start
  rw [List.getElem?_append_left (by simpa using (List.getElem?_eq_some_iff.mp h).1), List.getElem?_map, h]; rfl
theorem startR_get {n j : Nat} {ds : List D} {s : Slot} (h : (startR n ds)[j]? = some s) (u : s ≠ .un) : ∃ d, ds[j]? = some d ∧ s = .dat d := by
  unfold startR at h
  by_cases hj : j < ds.length
  · rw [List.getElem?_append_left (by simpa using hj), List.getElem?_map, List.getElem?_eq_getElem hj] at h
    exact ⟨ds[j], List.getElem?_eq_getElem hj, (Option.some.inj h).symm⟩
  · rw [List.getElem?_append_right (by simpa using hj), List.getElem?_replicate] at h
    split at h
    · exact absurd (Option.some.inj h).symm u
    · cases h
theorem env_start {N : List Str} {vs : List V} {ds : List D} (hM : B.M = none) (h0 : B.H0 = H) (f0 : B.F0 = F) (r : Reps B.K F H vs ds) (fh : ∀ b, F b → H b ≠ none) (tb : Tbs B.T H) : EnvD B F (startR N.length ds) (L2.start N vs) H := by
  subst h0 f0
  have hl := Reps.length r
  refine ⟨fun i d h => ?_, fun i l h => ?_, fun i j l l' p h1 => ?_, ?_, fun b o h _ _ => h, fun b h => h, fun b h => .inl h, fun b h => h, fh, fun p h => ?_, tb⟩
  · obtain ⟨d', e1, e2⟩ := startR_get h (fun z => nomatch z)
    cases e2
    obtain ⟨v, e3, e4⟩ := Reps.get r e1
    exact ⟨v, start_get e3, e4⟩
  · obtain ⟨d', e1, e2⟩ := startR_get h (fun z => nomatch z)
    cases e2
  · obtain ⟨d', e1, e2⟩ := startR_get h1 (fun z => nomatch z)
    cases e2
  · unfold L2.start startR
    rw [List.length_append, List.length_append, List.length_map, List.length_map, List.length_replicate, List.length_replicate, hl]
  · rw [hM] at h; cases h
/-- a def by its body, its code object known -/
theorem fun_okC {P0 : Program} {w : World} {mg : Str → Option Value} {base : Heap} {x qual : Str} {params : Arguments} {body : List Stmt} {scope : Scope} {f : Addr} {fd : FuncData} {N ps : List Str} {k : Nat} {sp : Sp} {dvs : List V} {kws : List (Str × V)} (FD : FunD K x qual params body scope dvs kws f fd) (S : FnScope N ps scope)
    (len : ∀ vs H Q E, sp vs H Q E → vs.length = ps.length)
    (hbody : ∀ (cdv : Value), cdv = fd.code → ∀ (A : Around) (outer : List Env) (s : Shared) (H : Hp) (vs : List V) (Q : VK) (E : XK), Room k (A.deeper (envOfC qual scope s.heap.objs.size f cdv)) → sp vs H Q E →
      ∃ t, PSs (cxOf CX0 P0 w K mg base N qual scope f cdv A outer s H E) body t ∧ t { nx := fun _ H' => Q .non H', rt := Q } (L2.start N vs) H) : FnOk P0 w K mg base CX0 (k + 1) f fd ps sp := by
  obtain ⟨oc, od, dV, kV, doc, pm, an, cdv, ct, osl, rfl, lk, hcd, _, _⟩ := FD.ex
  exact fn_of lk hcd S len fun A outer s H vs Q E hr hsp => hbody cdv rfl A outer s H vs Q E hr hsp
/-- a def of the text keeps its promise -/
theorem fun_ok {P0 : Program} {w : World} {mg : Str → Option Value} {base : Heap} {x qual : Str} {st : Stmt} {f : Addr} {fd : FuncData} {N ps : List Str} {k : Nat} {P : Prm} {dvs : List V} {kws : List (Str × V)} (FD : FunD K x qual (defArgs st) (defBody st) (defScope st) dvs kws f fd) (S : FnScope N ps (defScope st)) (t : LTS)
    (hb : ∀ (cdv : Value), cdv = fd.code → ∀ (A : Around) (outer : List Env) (s : Shared) (H : Hp) (E : XK) (B : Bg), B.K = K → B.T = T → B.M = none → Room k (A.deeper (envOfC qual (defScope st) s.heap.objs.size f cdv)) → DSs (cxOf CX0 P0 w K mg base N qual (defScope st) f cdv A outer s H E).nox B (defBody st) t)
    (hP : PrmOk ps.length P) (ht : ∀ ds Q, P ds Q → t { nx := fun _ => Q (.dat .non), rt := fun w _ => Q w } (startR N.length ds)) : FnOk P0 w K mg base CX0 (k + 1) f fd ps (toSp K T ps.length P) := by
  refine fun_okC FD S (fun vs H Q E h => ?_) (fun cdv hcd A outer s H vs Q E hr h => ?_)
  · obtain ⟨F, ds, r, hl, _⟩ := h
    rw [Reps.length r, hl]
  · obtain ⟨F, ds, r, hl, fh, tb, h⟩ := h
    let B : Bg := ⟨K, T, H, F, none⟩
    refine ⟨_, (hb cdv hcd A outer s H E B rfl rfl rfl hr).ps.nox, F, startR N.length ds, _, env_start (B := B) rfl rfl rfl r fh tb, ?_, ht ds _ h⟩
    have fin : ∀ {σ' F' ρ' H'}, Run B (L2.start N vs) F (startR N.length ds) H σ' F' ρ' H' → After T F H F' H' := fun r' =>
      ⟨fun b o e t => r'.env.base b o e (fun z => nomatch z) t, r'.env.there, r'.env.fz0, r'.env.fz, r'.env.fh, r'.env.tabs⟩
    refine ⟨fun σ' F' ρ' H' r' q => q _ F' H' (fin r') Rep.non, fun w v σ' F' ρ' H' r' rv q => q _ F' H' (fin r') ?_, fun _ _ _ _ _ q => q.elim, fun _ _ _ _ _ q => q.elim⟩
    cases w with
    | dat d => exact rv
    | new l => exact rv
    | ref i => exact rv
def tCallL (P : Prm) (dd : List D) (u : LTA) : LTE := fun ρ Q => u ρ fun ws ρ1 => ws.all nz = true ∧ P (ws.map (val ρ1) ++ dd) fun w => Q w (frzs ws ρ1)
theorem after_stp (E : EnvD B F ρ σ H) (a : After B.T F H F' H') : Stp B σ F ρ H F' ρ H' := stp_same E a.keep a.there a.tabs a.up a.new a.fh
theorem RVk.rw (E : EnvD B F ρ σ H) (h : RVk B.K F' H H' w v) : RW B F' ρ σ H H' w v := by
  cases w with
  | dat d => exact h
  | ref i => exact h.elim
  | new l =>
    obtain ⟨p, vs, e, h1, h2, h3, h4⟩ := h
    exact ⟨p, vs, e, h1, h2, h3, (fun q => by obtain ⟨l, z⟩ := E.ownL p q; rw [h4] at z; cases z), h4⟩
theorem callL_mono {n : Nat} {P : Prm} {dd : List D} {u : LTA} (hP : PrmOk n P) (m : Mono u) : Mono (tCallL P dd u) := fun ρ Q Q' h q => m _ _ _ (fun ws ρ1 z => ⟨z.1, hP.mono _ _ _ (fun w => h w _) z.2⟩) q
theorem callL_lift {P : Prm} {u : LTA} {n : Nat} {E : XK} {dvs : List V} {dd : List D} (hd : ∀ F H, Reps B.K F H dvs dd) (hP : PrmOk n P) (m : Mono u) (σ : L2.St) (H : Hp) (Q : VK) (h : lift B (tCallL P dd u) σ H Q) : tCall (toSp B.K B.T n P) dvs E (liftA B u) σ H Q := by
  obtain ⟨F, ρ, E0, q⟩ := h
  refine ⟨F, ρ, E0, m _ _ _ (fun ws ρ1 z => ?_) q⟩
  intro vs F1 H1 s1 r1
  obtain ⟨F2, s2, r2⟩ := settle E0 s1 r1 z.1
  refine ⟨F2, ws.map (val ρ1) ++ dd, Reps.append r2 (hd _ _), hP.len _ _ z.2, s2.env.fh, s2.env.tabs, hP.mono _ _ _ (fun w q1 => ?_) z.2⟩
  intro v F' H' a rv
  exact q1 v F' H' (s2.trans E0 (after_stp s2.env a)) (RW.back (RVk.rw s2.env rv) s2.ext.there)
end
section
variable {X : Cx} {B : Bg} {k n : Nat} {f : Addr} {fd : FuncData} {ps : List Str} {P : Prm} {x : Str} {p pos : Pos} {e : Expr} {es : List Expr} {u : LTA} {T : List (Addr × Option Str)} {K : PySem.W.Frag}
theorem de_callD (F : FnOk X.prog X.w X.K X.mg X.base CX0 k f fd ps (toSp X.K T n P)) (hP : PrmOk n P) (hT : B.T = T) (hr : Room k X.A) (hg : Gl X x) (hm : X.mg x = some (.ref f)) (hk : PySem.W.keepIn X.K (.ref f) = true) {dvs : List V} {ds : List Value} {dd : List D} (hb : Binds X.K fd ps ds) (hd : Vals dvs ds) (hdd : ∀ F H, Reps X.K F H dvs dd) (ha : DA X B (e :: es) u)
    (hdb : (x == ("__debug__" : Str)) = false := by decide) (he : starEach (e :: es) X.env = (false, eval e X.env) :: starEach es X.env := by rfl) (hpl : (backTo pos (starEach es X.env)).any (·.1) = false := by rfl) :
    DE X B (.Call (.Name x p) (e :: es) [] pos) (tCallL P dd u) := by
  refine ⟨ha.hk, callL_mono hP ha.mono, pe_imp (pe_call F hr hg hm hk hb hd pass0 ha.pa hdb he hpl) fun σ H Q h => ?_⟩
  have := callL_lift (E := E0) (dvs := dvs) (by rw [ha.hk]; exact hdd) hP ha.mono σ H Q h
  rw [ha.hk, hT] at this
  exact this
theorem de_call (F : FnOk X.prog X.w X.K X.mg X.base CX0 k f fd ps (toSp X.K T n P)) (hP : PrmOk n P) (hT : B.T = T) (hr : Room k X.A) (hg : Gl X x) (hm : X.mg x = some (.ref f)) (hk : PySem.W.keepIn X.K (.ref f) = true) (hb : Binds X.K fd ps []) (ha : DA X B (e :: es) u)
    (hdb : (x == ("__debug__" : Str)) = false := by decide) (he : starEach (e :: es) X.env = (false, eval e X.env) :: starEach es X.env := by rfl) (hpl : (backTo pos (starEach es X.env)).any (·.1) = false := by rfl) :
    DE X B (.Call (.Name x p) (e :: es) [] pos) (tCallL P [] u) := de_callD F hP hT hr hg hm hk hb .nil (fun _ _ => .nil) ha hdb he hpl
end

abbrev PrmM := List D → List D → (W → List D → Prop) → Prop
structure PrmMOk (n : Nat) (P : PrmM) : Prop where
  mono : ∀ l ds Q Q', (∀ w l', Q w l' → Q' w l') → P l ds Q → P l ds Q'
  len : ∀ l ds Q, P l ds Q → ds.length + 1 = n
structure AfterM (T : List (Addr × Option Str)) (p : Addr) (F : Addr → Prop) (H : Hp) (F' : Addr → Prop) (H' : Hp) : Prop where
  keep : ∀ b o, H b = some o → b ≠ p → NoTbl o → H' b = some o
  there : ∀ b, H b ≠ none → H' b ≠ none
  up : ∀ b, F b → F' b
  new : ∀ b, F' b → F b ∨ H b = none
  fh : ∀ b, F' b → H' b ≠ none
  tabs : Tbs T H'
def toSpM (K : PySem.W.Frag) (T : List (Addr × Option Str)) (n : Nat) (P : PrmM) : Sp := fun vs H Q _ => ∃ F p us l vs' ds, vs = .ref p :: vs' ∧ H p = some (.lst us) ∧ Reps K F H us l ∧ ¬ F p ∧ Reps K F H vs' ds ∧ ds.length + 1 = n ∧ (∀ b, F b → H b ≠ none) ∧ Tbs T H ∧
  P l ds fun w l' => ∀ v F' H' us', AfterM T p F H F' H' → H' p = some (.lst us') → Reps K F' H' us' l' → ¬ F' p → RVk K F' H H' w v → Q v H'
def startM (n : Nat) (l : List D) (ds : List D) : Rho := .own l :: startR (n - 1) ds
section
variable {X : Cx} {B : Bg} {F0 F F' F'' F1 : Addr → Prop} {ρ0 ρ ρ' ρ'' ρ1 : Rho} {σ0 σ σ' σ'' : L2.St} {H H' H'' Hs H1 : Hp} {w : W} {v : V} {K : PySem.W.Frag} {T : List (Addr × Option Str)}
theorem env_startM {N : List Str} {p : Addr} {us vs : List V} {l ds : List D} (hN : 1 ≤ N.length) (hM : B.M = some p) (h0 : B.H0 = H) (f0 : B.F0 = F) (hp : H p = some (.lst us)) (rl : Reps B.K F H us l) (nf : ¬ F p) (r : Reps B.K F H vs ds) (fh : ∀ b, F b → H b ≠ none) (tb : Tbs B.T H) :
    EnvD B F (startM N.length l ds) (L2.start N (.ref p :: vs)) H := by
  subst h0 f0
  have hl := Reps.length r
  have g0 : (L2.start N (.ref p :: vs))[0]? = some (some (.ref p)) := start_get rfl
  have gs : ∀ j s, (startM N.length l ds)[j + 1]? = some s → s ≠ .un → ∃ d, ds[j]? = some d ∧ s = .dat d := fun j s h u => startR_get (show (startR (N.length - 1) ds)[j]? = some s from h) u
  refine ⟨fun i d h => ?_, fun i l' h => ?_, fun i j l1 l2 q h1 h2 _ _ => ?_, ?_, fun b o h _ _ => h, fun b h => h, fun b h => .inl h, fun b h => h, fh, fun q h => ?_, tb⟩
  · cases i with
    | zero => cases h
    | succ i =>
      obtain ⟨d', e1, e2⟩ := gs i _ h (fun z => nomatch z)
      cases e2
      obtain ⟨v, e3, e4⟩ := Reps.get r e1
      exact ⟨v, start_get (by simpa using e3), e4⟩
  · cases i with
    | zero => cases h; exact ⟨p, us, g0, hp, rl, nf, .inr hM⟩
    | succ i =>
      obtain ⟨d', e1, e2⟩ := gs i _ h (fun z => nomatch z)
      cases e2
  · cases i with
    | zero =>
      cases j with
      | zero => rfl
      | succ j => obtain ⟨d', e1, e2⟩ := gs j _ h2 (fun z => nomatch z); cases e2
    | succ i => obtain ⟨d', e1, e2⟩ := gs i _ h1 (fun z => nomatch z); cases e2
  · unfold L2.start startM startR
    rw [List.length_append, List.length_cons, List.length_append, List.length_map, List.length_map, List.length_replicate, List.length_replicate, List.length_cons, hl]
    omega
  · rw [hM] at h; cases h
    exact ⟨g0, l, rfl⟩
theorem fun_okM {P0 : Program} {w : World} {mg : Str → Option Value} {base : Heap} {x qual : Str} {st : Stmt} {f : Addr} {fd : FuncData} {N ps : List Str} {k : Nat} {P : PrmM} {dvs : List V} {kws : List (Str × V)} (FD : FunD K x qual (defArgs st) (defBody st) (defScope st) dvs kws f fd) (S : FnScope N ps (defScope st)) (hN : 1 ≤ N.length) (t : LTS)
    (hb : ∀ (cdv : Value), cdv = fd.code → ∀ (A : Around) (outer : List Env) (s : Shared) (H : Hp) (E : XK) (B : Bg), B.K = K → B.T = T → Room k (A.deeper (envOfC qual (defScope st) s.heap.objs.size f cdv)) → DSs (cxOf CX0 P0 w K mg base N qual (defScope st) f cdv A outer s H E).nox B (defBody st) t)
    (hP : PrmMOk ps.length P) (ht : ∀ l ds Q, P l ds Q → t { nx := fun ρ => ∃ l', ρ[0]? = some (.own l') ∧ Q (.dat .non) l', rt := fun w ρ => ∃ l', ρ[0]? = some (.own l') ∧ Q w l' } (startM N.length l ds)) : FnOk P0 w K mg base CX0 (k + 1) f fd ps (toSpM K T ps.length P) := by
  refine fun_okC FD S (fun vs H Q E h => ?_) (fun cdv hcd A outer s H vs Q E hr h => ?_)
  · obtain ⟨F, p, us, l, vs', ds, rfl, _, _, _, r, hl, _⟩ := h
    rw [List.length_cons, Reps.length r, hl]
  · obtain ⟨F, p, us, l, vs', ds, rfl, hp, rl, nf, r, hl, fh, tb, h⟩ := h
    let B : Bg := ⟨K, T, H, F, some p⟩
    refine ⟨_, (hb cdv hcd A outer s H E B rfl rfl hr).ps.nox, F, startM N.length l ds, _, env_startM (B := B) hN rfl rfl rfl hp rl nf r fh tb, ?_, ht l ds _ h⟩
    have fin : ∀ {σ' F' ρ' H' l' w v}, Run B (L2.start N (.ref p :: vs')) F (startM N.length l ds) H σ' F' ρ' H' → ρ'[0]? = some (.own l') → RVk K F' H H' w v →
        (∀ v F' H' us', AfterM T p F H F' H' → H' p = some (.lst us') → Reps K F' H' us' l' → ¬ F' p → RVk K F' H H' w v → Q v H') → Q v H' := fun {σ' F' ρ' H' l' w v} r' e rv q => by
      obtain ⟨h0, _⟩ := r'.env.mp p rfl
      obtain ⟨p', us', e1, e2, e3, e4, _⟩ := r'.env.own 0 l' e
      rw [h0] at e1; cases e1
      exact q v F' H' us' ⟨fun b o e n t => r'.env.base b o e (fun z => n (Option.some.inj z).symm) t, r'.env.there, r'.env.fz0, r'.env.fz, r'.env.fh, r'.env.tabs⟩ e2 e3 e4 rv
    refine ⟨fun σ' F' ρ' H' r' ⟨l', e, q⟩ => fin r' e (show RVk K F' H H' (.dat .non) .non from Rep.non) q, fun w v σ' F' ρ' H' r' rv ⟨l', e, q⟩ => fin r' e ?_ q, fun _ _ _ _ _ q => q.elim, fun _ _ _ _ _ q => q.elim⟩
    cases w with
    | dat d => exact rv
    | new l => exact rv
    | ref i => exact rv
/-- a list of its own behind a call that may change it -/
theorem stp_callM {i : Nat} {p : Addr} {l l' : List D} {us' : List V} (E : EnvD B F ρ σ H) (h1 : ρ[i]? = some (.own l)) (h2 : σ[i]? = some (some (.ref p))) (a : AfterM B.T p F H F' H') (hp : H' p = some (.lst us')) (r : Reps B.K F' H' us' l') (nf : ¬ F' p) : Stp B σ F ρ H F' (ρ.set i (.own l')) H' := by
  have o : OwnA ρ σ p := ⟨i, l, h1, h2⟩
  obtain ⟨p', vs, e1, e2, e3, e4, e5⟩ := E.own i l h1
  rw [h2] at e1; cases e1
  have x : Ext (OwnA ρ σ) F F' H H' := ⟨fun b o' h n t => a.keep b o' h (fun z => n (by rw [z]; exact o)) t, a.there, a.up, fun b h => (a.new b h).imp id .inl⟩
  have lz : ∀ j s', (ρ.set i (.own l'))[j]? = some s' → (j = i ∧ s' = .own l') ∨ (j ≠ i ∧ ρ[j]? = some s') := fun j s' h => by
    rw [List.getElem?_set] at h
    split at h
    · rename_i e
      split at h
      · exact .inl ⟨e.symm, (Option.some.inj h).symm⟩
      · cases h
    · rename_i e
      exact .inr ⟨fun z => e z.symm, h⟩
  have ow : ∀ b, OwnA (ρ.set i (.own l')) σ b → OwnA ρ σ b := fun b ⟨j, l2, g1, g2⟩ => by
    rcases lz j _ g1 with ⟨rfl, _⟩ | ⟨n, g⟩
    · exact ⟨j, l, h1, g2⟩
    · exact ⟨j, l2, g, g2⟩
  refine ⟨⟨fun j d h => ?_, fun j l2 h => ?_, fun j k l2 l3 q g1 g2 g3 g4 => ?_, by simp [E.len], fun b o' h n t => ?_, fun b h => x.there b (E.there b h), fun b h => ?_, fun b h => x.up b (E.fz0 b h), a.fh, fun q h => ?_, a.tabs⟩, x, fun b h => .inl (ow b h), fun j s' h n => ?_⟩
  · rcases lz j _ h with ⟨_, z⟩ | ⟨n, g⟩
    · cases z
    · obtain ⟨v, g1, g2⟩ := E.dat j d g
      exact ⟨v, g1, Rep.keep x E.ownL E.ownF d g2⟩
  · rcases lz j _ h with ⟨rfl, z⟩ | ⟨n, g⟩
    · cases z
      exact ⟨p, us', h2, hp, r, nf, e5⟩
    · obtain ⟨q, us, g1, g2, g3, g4, g5⟩ := E.own j l2 g
      have hq : q ≠ p := fun z => n (E.apart j i l2 l p g h1 (by rw [← z]; exact g1) h2)
      refine ⟨q, us, g1, a.keep _ _ g2 hq (fun ps z => by cases z), Reps.keep x E.ownL E.ownF _ g3, fun z => ?_, g5⟩
      rcases a.new q z with z | z
      · exact g4 z
      · rw [g2] at z; cases z
  · rcases lz j _ g1 with ⟨rfl, _⟩ | ⟨n1, g⟩
    · rcases lz k _ g2 with ⟨rfl, _⟩ | ⟨n2, g'⟩
      · rfl
      · exact E.apart j k l l3 q h1 g' g3 g4
    · rcases lz k _ g2 with ⟨rfl, _⟩ | ⟨n2, g'⟩
      · exact E.apart j k l2 l q g h1 g3 g4
      · exact E.apart j k l2 l3 q g g' g3 g4
  · have hb := E.base b o' h n t
    refine a.keep b o' hb (fun z => ?_) t
    subst z
    rcases e5 with e5 | e5
    · rw [h] at e5; cases e5
    · exact n e5
  · rcases a.new b h with h | h
    · exact E.fz b h
    · refine .inr ?_
      cases q : B.H0 b with
      | none => rfl
      | some o => exact absurd h (E.there b (by rw [q]; exact fun y => nomatch y))
  · obtain ⟨h0, l0, hl⟩ := E.mp q h
    refine ⟨h0, ?_⟩
    by_cases z : i = 0
    · subst z
      exact ⟨l', by rw [List.getElem?_set_self]; exact (List.getElem?_eq_some_iff.mp h1).1⟩
    · exact ⟨l0, by rw [List.getElem?_set_ne z]; exact hl⟩
  · by_cases z : i = j
    · subst z
      exact ⟨.own l', by rw [List.getElem?_set_self]; exact (List.getElem?_eq_some_iff.mp h1).1, fun y => nomatch y⟩
    · exact ⟨s', by rw [List.getElem?_set_ne z]; exact h, n⟩
def tCallM (P : PrmM) (u : LTA) : LTE := fun ρ Q => u ρ fun ws ρ1 => match ws with
  | .ref i :: rest => (rest.all nz = true ∧ rest.any (isRef i) = false) ∧ (match ρ1[i]? with
    | some (.own l) => P l (rest.map (val ρ1)) fun w l' => Q w ((frzs rest ρ1).set i (.own l'))
    | _ => False)
  | [.new l] => P l [] fun w _ => Q w ρ1
  | _ => False
/-- a new list is handed over and changed there -/
theorem stp_callN {p : Addr} {us : List V} (E0 : EnvD B F ρ σ H) (s1 : Stp B σ F ρ H F1 ρ1 H1) (hp : H p = none) (h1 : H1 p = some (.lst us)) (nf : ¬ F1 p) (no : ¬ OwnA ρ1 σ p) (a : AfterM B.T p F1 H1 F' H') : Stp B σ F ρ H F' ρ1 H' := by
  have E := s1.env
  have x : Ext (fun b => b = p) F1 F' H1 H' := ⟨fun b o' h n t => a.keep b o' h n t, a.there, a.up, fun b h => (a.new b h).imp id .inl⟩
  have ho : ∀ b, b = p → ∃ l, H1 b = some (.lst l) := fun b e => by subst e; exact ⟨us, h1⟩
  have hf : ∀ b, F1 b → ¬ b = p := fun b f e => by subst e; exact nf f
  have back : ∀ b, H1 b = none → H b = none := fun b h => by
    cases q : H b with
    | none => rfl
    | some o => exact absurd h (s1.ext.there b (by rw [q]; exact fun z => nomatch z))
  have h0p : B.H0 p = none := by
    cases q : B.H0 p with
    | none => rfl
    | some o => exact absurd hp (E0.there p (by rw [q]; exact fun z => nomatch z))
  refine ⟨⟨fun j d h => ?_, fun j l2 h => ?_, E.apart, E.len, fun b o' h n t => ?_, fun b h => x.there b (E.there b h), fun b h => ?_, fun b h => x.up b (E.fz0 b h), a.fh, E.mp, a.tabs⟩, ⟨fun b o h n t => a.keep b o (s1.ext.keep b o h n t) (fun z => by subst z; rw [hp] at h; cases h) t, fun b h => a.there b (s1.ext.there b h), fun b h => a.up b (s1.ext.up b h), fun b h => ?_⟩, s1.own, s1.kn⟩
  · obtain ⟨v, g1, g2⟩ := E.dat j d h
    exact ⟨v, g1, Rep.keep x ho hf d g2⟩
  · obtain ⟨q, vs, g1, g2, g3, g4, g5⟩ := E.own j l2 h
    have hq : q ≠ p := fun z => no ⟨j, l2, h, by rw [← z]; exact g1⟩
    refine ⟨q, vs, g1, a.keep _ _ g2 hq (fun ps z => by cases z), Reps.keep x ho hf _ g3, fun z => ?_, g5⟩
    rcases a.new q z with z | z
    · exact g4 z
    · rw [g2] at z; cases z
  · exact a.keep b o' (E.base b o' h n t) (fun z => by subst z; rw [h0p] at h; cases h) t
  · rcases a.new b h with h | h
    · exact E.fz b h
    · refine .inr ?_
      cases q : B.H0 b with
      | none => rfl
      | some o => exact absurd h (E.there b (by rw [q]; exact fun y => nomatch y))
  · rcases a.new b h with h | h
    · exact s1.ext.new b h
    · exact .inr (.inl (back b h))
theorem callM_mono {n : Nat} {P : PrmM} {u : LTA} (hP : PrmMOk n P) (m : Mono u) : Mono (tCallM P u) := fun ρ Q Q' h q => m _ _ _ (fun ws ρ1 z => by
  split at z
  · refine ⟨z.1, ?_⟩
    have z := z.2
    split at z
    · exact hP.mono _ _ _ _ (fun w l' => h w _) z
    · exact z
  · exact hP.mono _ _ _ _ (fun w l' => h w _) z
  · exact z) q
theorem callM_lift {P : PrmM} {u : LTA} {n : Nat} {E : XK} (hP : PrmMOk n P) (m : Mono u) (σ : L2.St) (H : Hp) (Q : VK) (h : lift B (tCallM P u) σ H Q) : tCall (toSpM B.K B.T n P) [] E (liftA B u) σ H Q := by
  obtain ⟨F, ρ, E0, q⟩ := h
  refine ⟨F, ρ, E0, m _ _ _ (fun ws ρ1 z => ?_) q⟩
  intro vs F1 H1 s1 r1
  split at z
  · rename_i i rest
    obtain ⟨z1, z⟩ := z
    split at z
    · rename_i l el
      cases r1 with
      | @cons _ _ v vs a rs n =>
        obtain ⟨F2, s2, r2⟩ := settle E0 s1 rs z1.1
        have e1 := frzs_keep (ws := rest) el z1.2
        obtain ⟨p, us, e2, e3, e4, e5, e6⟩ := s2.env.own i l e1
        obtain ⟨a1, _⟩ := a
        rw [e2] at a1
        cases a1
        refine ⟨F2, p, us, l, vs, rest.map (val ρ1), by rw [List.append_nil], e3, e4, e5, r2, hP.len _ _ _ z, s2.env.fh, s2.env.tabs, hP.mono _ _ _ _ (fun w l' q1 => ?_) z⟩
        intro v F' H' us' af hp' r' nf rv
        have s3 := stp_callM s2.env e1 e2 af hp' r' nf
        refine q1 v F' H' (s2.trans E0 s3) (RW.back (?_ : RW B F' ((frzs rest ρ1).set i (.own l')) σ H1 H' w v) s2.ext.there)
        cases w with
        | dat d => exact rv
        | ref i => exact rv.elim
        | new l2 =>
          obtain ⟨p2, vs2, e, h1, h2, h3, h4⟩ := rv
          refine ⟨p2, vs2, e, h1, h2, h3, fun q => ?_, h4⟩
          obtain ⟨j, lj, g1, g2⟩ := q
          rw [List.getElem?_set] at g1
          split at g1
          · rename_i eij
            subst eij
            rw [e2] at g2
            cases g2
            rw [e3] at h4; cases h4
          · obtain ⟨l, z⟩ := s2.env.ownL p2 ⟨j, lj, g1, g2⟩
            rw [h4] at z; cases z
    · exact z.elim
  · rename_i l
    cases r1 with
    | @cons _ _ v vs a rs n =>
      cases rs with
      | nil =>
        obtain ⟨p, us, e, h1, h2, h3, h4, h5⟩ := a
        subst e
        refine ⟨F1, p, us, l, [], [], rfl, h1, h2, h3, .nil, hP.len _ _ _ z, s1.env.fh, s1.env.tabs, hP.mono _ _ _ _ (fun w l' q1 => ?_) z⟩
        intro v F' H' us' af hp' r' nf rv
        refine q1 v F' H' (stp_callN E0 s1 h5 h1 h3 h4 af) ?_
        cases w with
        | dat d => exact rv
        | ref i => exact rv.elim
        | new l2 =>
          obtain ⟨p2, vs2, e, g1, g2, g3, g4⟩ := rv
          refine ⟨p2, vs2, e, g1, g2, g3, fun q => ?_, ?_⟩
          · obtain ⟨l, z⟩ := s1.env.ownL p2 q
            rw [g4] at z; cases z
          · cases q : H p2 with
            | none => rfl
            | some o => exact absurd g4 (s1.ext.there p2 (by rw [q]; exact fun z => nomatch z))
  · exact z.elim
end
section
variable {X : Cx} {B : Bg} {k n : Nat} {f : Addr} {fd : FuncData} {ps : List Str} {P : PrmM} {x : Str} {p pos : Pos} {e : Expr} {es : List Expr} {u : LTA} {T : List (Addr × Option Str)} {K : PySem.W.Frag}
theorem de_callM (F : FnOk X.prog X.w X.K X.mg X.base CX0 k f fd ps (toSpM X.K T n P)) (hP : PrmMOk n P) (hT : B.T = T) (hr : Room k X.A) (hg : Gl X x) (hm : X.mg x = some (.ref f)) (hk : PySem.W.keepIn X.K (.ref f) = true) (hb : Binds X.K fd ps []) (ha : DA X B (e :: es) u)
    (hdb : (x == ("__debug__" : Str)) = false := by decide) (he : starEach (e :: es) X.env = (false, eval e X.env) :: starEach es X.env := by rfl) (hpl : (backTo pos (starEach es X.env)).any (·.1) = false := by rfl) :
    DE X B (.Call (.Name x p) (e :: es) [] pos) (tCallM P u) := by
  refine ⟨ha.hk, callM_mono hP ha.mono, pe_imp (pe_call F hr hg hm hk hb .nil pass0 ha.pa hdb he hpl) fun σ H Q h => ?_⟩
  have := callM_lift (E := E0) hP ha.mono σ H Q h
  rw [ha.hk, hT] at this
  exact this
end
end L3

set_option Elab.async false
set_option linter.all false
set_option maxRecDepth 100000
set_option maxHeartbeats 2000000
namespace L3T
open PySem PySem.Spec PyProof.Rows Srt SrtO
section
variable {prog : Program} {w : World} {A : Around} {E : Value → Shared → Prop} {s : Shared} {l : Addr} {its : List Value} {ns : List Int} {Q : Value → Shared → Prop} {xs : Array (Int × Tok)}
theorem old_two {h h' : Heap} {l : Addr} {o1 : Obj} (hk : ∀ b o, b ∉ [h.objs.size] → (h.push o1).get? b = some o → h'.get? b = some o) : ∀ b o, h.get? b = some o → h'.get? b = some o := fun b o e =>
  hk b o (fun hm => absurd (Heap.lt_size e) ((List.mem_singleton.mp hm) ▸ Nat.lt_irrefl _)) (Heap.get?_push_of_some _ e)
theorem max_intTuple (hh : A.handled = none) (hl : s.heap.IsTuple l (intItems xs)) (hne : 0 < xs.size)
    (h : ∀ v h' tk, (intItems xs)[argBest (fun i j => decide (numAt xs i > numAt xs j)) (xs.size - 1)]? = some v → (∀ b o, s.heap.get? b = some o → h'.get? b = some o) → Q v { s with heap := h', toks := tk }) :
    wpAny (model prog w) A (call (.builtin "max") [.ref l]) Q E s := by
  have hlt : l < s.heap.objs.size := by obtain ⟨_, e, _⟩ := hl; exact Heap.lt_size e
  refine call_max_walk (wpAny_pyIter_tuple hl ?_)
  refine ⟨_, [_, l], [_], _, _, _, _, rfl, Walks.tuple (A := A.in1) hh s.heap.objs.size l (Nat.ne_of_lt hlt) (intItems xs), ⟨⟨_, Heap.get?_push_size _ rfl, rfl, rfl⟩, hl.push _⟩, fun c hc => ?_, by simpa [intItems] using hne, CmpOf.ints_gt (numAt xs) (fun _ _ => intItems_at), fun v h' tk hP hk => ?_⟩
  · show c < (s.heap.push _).objs.size
    rw [Heap.size_push]
    rcases List.mem_cons.mp hc with rfl | hc
    · exact Nat.lt_succ_self _
    · rcases List.mem_cons.mp hc with rfl | hc
      · exact Nat.lt_succ_of_lt hlt
      · cases hc
  · exact h v h' tk (by simpa [intItems] using hP) (old_two (l := l) fun b o n e => hk b o n e)
theorem min_intTuple (hh : A.handled = none) (hl : s.heap.IsTuple l (intItems xs)) (hne : 0 < xs.size)
    (h : ∀ v h' tk, (intItems xs)[argBest (fun i j => decide (numAt xs i < numAt xs j)) (xs.size - 1)]? = some v → (∀ b o, s.heap.get? b = some o → h'.get? b = some o) → Q v { s with heap := h', toks := tk }) :
    wpAny (model prog w) A (call (.builtin "min") [.ref l]) Q E s := by
  have hlt : l < s.heap.objs.size := by obtain ⟨_, e, _⟩ := hl; exact Heap.lt_size e
  refine call_min_walk (wpAny_pyIter_tuple hl ?_)
  refine ⟨_, [_, l], [_], _, _, _, _, rfl, Walks.tuple (A := A.in1) hh s.heap.objs.size l (Nat.ne_of_lt hlt) (intItems xs), ⟨⟨_, Heap.get?_push_size _ rfl, rfl, rfl⟩, hl.push _⟩, fun c hc => ?_, by simpa [intItems] using hne, CmpOf.ints_lt (numAt xs) (fun _ _ => intItems_at), fun v h' tk hP hk => ?_⟩
  · show c < (s.heap.push _).objs.size
    rw [Heap.size_push]
    rcases List.mem_cons.mp hc with rfl | hc
    · exact Nat.lt_succ_self _
    · rcases List.mem_cons.mp hc with rfl | hc
      · exact Nat.lt_succ_of_lt hlt
      · cases hc
  · exact h v h' tk (by simpa [intItems] using hP) (old_two (l := l) fun b o n e => hk b o n e)
theorem sumT_raw (hh : A.handled = none) (hl : s.heap.IsTuple l its.toArray) (hi : IntsAre its ns)
    (h : ∀ h' tk t', (∀ b o, s.heap.get? b = some o → h'.get? b = some o) → Q (.int ns.sum t') { s with heap := h', toks := tk }) : wpAny (model prog w) A (call (.builtin "sum") [.ref l]) Q E s := by
  obtain ⟨xs, e⟩ := hi.allInts.items
  have hn : numsOf (intItems xs).toList = ns := by rw [← e]; exact hi.numsOf
  rw [nums_intItems] at hn
  rw [e] at hl
  refine PySem.W.ktm_sumG hh hl fun h' tk t' hk => ?_
  have := h h' tk t' hk
  rw [preSum_eq, List.take_of_length_le (by simp), hn]; exact this
theorem maxT_raw (hh : A.handled = none) (hl : s.heap.IsTuple l its.toArray) (hi : IntsAre its ns) (hne : 0 < ns.length)
    (h : ∀ h' tk M t', (∀ b o, s.heap.get? b = some o → h'.get? b = some o) → M ∈ ns → (∀ a, a ∈ ns → a ≤ M) → Q (.int M t') { s with heap := h', toks := tk }) : wpAny (model prog w) A (call (.builtin "max") [.ref l]) Q E s := by
  obtain ⟨xs, e⟩ := hi.allInts.items
  have hn : numsOf (intItems xs).toList = ns := by rw [← e]; exact hi.numsOf
  rw [nums_intItems] at hn
  subst hn
  rw [e] at hl
  have hsz : 0 < xs.size := by simpa using hne
  refine max_intTuple hh hl hsz fun v h' tk hv hk => ?_
  obtain ⟨t, rfl⟩ := intItems_at hv
  obtain ⟨h1, h2⟩ := argBest_gt (numAt xs) (xs.size - 1)
  refine h h' tk _ t hk ?_ fun a ha => ?_
  · rw [numAt_eq]; exact PySem.getD_mem (by rw [List.length_map, Array.length_toList]; omega)
  · obtain ⟨j, hj, rfl⟩ := mem_getD ha
    rw [List.length_map, Array.length_toList] at hj
    rw [← numAt_eq]; exact h2 j (by omega)
theorem minT_raw (hh : A.handled = none) (hl : s.heap.IsTuple l its.toArray) (hi : IntsAre its ns) (hne : 0 < ns.length)
    (h : ∀ h' tk M t', (∀ b o, s.heap.get? b = some o → h'.get? b = some o) → M ∈ ns → (∀ a, a ∈ ns → M ≤ a) → Q (.int M t') { s with heap := h', toks := tk }) : wpAny (model prog w) A (call (.builtin "min") [.ref l]) Q E s := by
  obtain ⟨xs, e⟩ := hi.allInts.items
  have hn : numsOf (intItems xs).toList = ns := by rw [← e]; exact hi.numsOf
  rw [nums_intItems] at hn
  subst hn
  rw [e] at hl
  have hsz : 0 < xs.size := by simpa using hne
  refine min_intTuple hh hl hsz fun v h' tk hv hk => ?_
  obtain ⟨t, rfl⟩ := intItems_at hv
  obtain ⟨h1, h2⟩ := argBest_lt (numAt xs) (xs.size - 1)
  refine h h' tk _ t hk ?_ fun a ha => ?_
  · rw [numAt_eq]; exact PySem.getD_mem (by rw [List.length_map, Array.length_toList]; omega)
  · obtain ⟨j, hj, rfl⟩ := mem_getD ha
    rw [List.length_map, Array.length_toList] at hj
    rw [← numAt_eq]; exact h2 j (by omega)
/-- all items of a tuple, as sorted takes them -/
theorem collect_tup {l : Addr} {vs : List Value} {Q : List Value → Shared → Prop} (hl : s.heap.IsTuple l vs.toArray)
    (h : Q vs { s with heap := (s.heap.push (seqObj "list" #[] 0)).update s.heap.objs.size (Obj.mapSeq (· ++ vs.toArray)) }) (hsz : vs.length ≤ sizeLine) :
    wpAny (model prog w) A (collect (.ref l)) Q E s := by
  obtain ⟨o, ho, hc, n, hd⟩ := id hl
  unfold collect
  refine wpAny_bind (wpAny_runValue (codeAny_builtin entry_proto_collect' ?_))
  show wpAny _ _ (do again (.builtin "list.__iadd__" ⟨[← newList [], .ref l], []⟩)) _ _ s
  refine wpAny_bind (wpAny_newList (wpAny_pure ⟨Code.quiet_builtin _ (by decide +kernel), codeAny_builtin entry_list_iadd' ?_⟩))
  show wpAny _ _ (Builtin.List.listExtendWith (.ref s.heap.objs.size) (.ref l) (.ref s.heap.objs.size)) _ _ { s with heap := s.heap.push (seqObj "list" #[] 0) }
  unfold Builtin.List.listExtendWith
  have ho' : (s.heap.push (seqObj "list" #[] 0)).get? l = some o := Heap.get?_push_of_some _ ho
  refine wpAny_bind (wpAny_typeOf (T := "tuple") ⟨o, ho', hc⟩ ?_)
  have ht : (Value.type "tuple" == Value.type "tuple") = true := by rfl
  rw [if_pos (by rw [ht]; simp)]
  refine wpAny_bind (listItems_at ho' hd ?_)
  refine wpAny_bind (listItems_at (xs := #[]) (n := 0) (Heap.get?_push_size _ rfl) rfl ?_)
  rw [if_neg (by simp)]
  refine wpAny_bind (listUpdate_at (xs := #[]) (n := 0) (Heap.get?_push_size _ rfl) rfl ?_ (Nat.zero_le _) (by show (#[] ++ vs.toArray).size ≤ sizeLine + 1; simp only [Array.size_append, List.size_toArray, List.length_nil]; omega))
  refine wpAny_pure ?_
  show wpAny (model prog w) A (do
      let o ← load s.heap.objs.size
      match o.data with
      | .seq xs _ => pure xs.toList
      | _ => unsupported "internal:collect") Q E { s with heap := (s.heap.push (seqObj "list" #[] 0)).update s.heap.objs.size (Obj.mapSeq (· ++ vs.toArray)) }
  refine wpAny_bind (wpAny_load (get?_update_seq (Heap.get?_push_size _ rfl) _) ?_)
  show wpAny _ _ (pure ((#[] : Array Value) ++ vs.toArray).toList) Q E _
  rw [show ((#[] : Array Value) ++ vs.toArray).toList = vs by simp]
  exact wpAny_pure h
theorem sortedT_ord {vs : List Value} {ltv : Value → Value → Bool} (O : Swo ltv) (hl : s.heap.IsTuple l vs.toArray) (hz : vs.length ≤ sizeLine)
    (hS : 2 ≤ vs.length → ∀ (h₁ : Heap) (a : Addr), h₁.get? a = some (seqObj "list" vs.toArray 0) → (∀ b o, s.heap.get? b = some o → b ≠ a ∧ h₁.get? b = some o) → SortableO prog w A.in1.in1 { s with heap := h₁ } a vs ltv)
    (h : ∀ out : List Value, Srtd ltv out → Stb ltv out vs → Q (.ref (s.heap.objs.size + 1)) { s with heap := sortedAll s.heap vs out.toArray }) :
    wpAny (model prog w) A (call (.builtin "sorted") [.ref l]) Q E s := by
  refine Calls.call_function_entry kind_sorted plain_sorted entry_sorted (args_sorted1 _) ?_
  unfold Builtin.«sorted»
  refine wpAny_bind (m := checkCount "sorted" 1 1 _) (wpAny_pure ?_)
  refine wpAny_bind (collect_tup hl ?_ hz)
  refine wpAny_bind (wpAny_newList ?_ hz)
  have hsz : ((s.heap.push (seqObj "list" #[] 0)).update s.heap.objs.size (Obj.mapSeq (· ++ vs.toArray))).objs.size = s.heap.objs.size + 1 := by
    rw [Heap.size_update, size_push']
  have hoL : (((s.heap.push (seqObj "list" #[] 0)).update s.heap.objs.size (Obj.mapSeq (· ++ vs.toArray))).push (seqObj "list" vs.toArray 0)).get? (s.heap.objs.size + 1) = some (seqObj "list" vs.toArray 0) := by
    rw [← hsz]; exact Heap.get?_push_size _ rfl
  have keep : ∀ b o, s.heap.get? b = some o → b ≠ s.heap.objs.size + 1 ∧ (((s.heap.push (seqObj "list" #[] 0)).update s.heap.objs.size (Obj.mapSeq (· ++ vs.toArray))).push (seqObj "list" vs.toArray 0)).get? b = some o := fun b o q => by
    have hlt : b < s.heap.objs.size := Heap.lt_size q
    refine ⟨Nat.ne_of_lt (Nat.lt_succ_of_lt hlt), Heap.get?_push_of_some _ ?_⟩
    rw [Heap.get?_update_ne _ _ _ _ (Nat.ne_of_lt hlt)]
    exact Heap.get?_push_of_some _ q
  show wpAny _ _ _ _ _ { s with heap := ((s.heap.push (seqObj "list" #[] 0)).update s.heap.objs.size (Obj.mapSeq (· ++ vs.toArray))).push (seqObj "list" vs.toArray 0) }
  rw [hsz]
  refine wpAny_bind (wpAny_holding (wpAny_call_entry slot_list_sort ⟨_, hoL, rfl⟩ entry_list_sort (list_sort_ord O hoL hz (fun h2 => hS h2 _ _ hoL keep) fun out hs hb => ⟨_, rfl, ?_⟩) (args_list_sort _)))
  exact wpAny_pure ⟨_, rfl, h out hs hb⟩
theorem sortedT_ordK {vs : List Value} {b : Bool} {kw : List (Str × Value)} {ltv : Value → Value → Bool} (hk : ∀ a, Builtin.«list.sort» ⟨[.ref a], kw⟩ = Builtin.«list.sort» ⟨[.ref a], [(Str.ofString "reverse", .bool b)]⟩)
    (ha1 : argsOk "sorted" ⟨[.ref l], kw⟩) (ha2 : ∀ a, argsOk "list.sort" ⟨[a], kw⟩) (O : Swo ltv) (hl : s.heap.IsTuple l vs.toArray) (hz : vs.length ≤ sizeLine)
    (hS : 2 ≤ vs.length → ∀ (h₁ : Heap) (a : Addr), h₁.get? a = some (seqObj "list" vs.toArray 0) → (∀ b o, s.heap.get? b = some o → b ≠ a ∧ h₁.get? b = some o) → SortableO prog w A.in1.in1 { s with heap := h₁ } a vs ltv)
    (h : ∀ out : List Value, Srtd ltv out → Stb ltv out (if b = true then vs.reverse else vs) → Q (.ref (s.heap.objs.size + 1)) { s with heap := sortedAll s.heap vs (if b = true then out.toArray.reverse else out.toArray) }) :
    wpAny (model prog w) A (call (.builtin "sorted") [.ref l] kw) Q E s := by
  refine call_function_entry_kw kind_sorted plain_sorted entry_sorted ha1 ?_
  unfold Builtin.«sorted»
  refine wpAny_bind (m := checkCount "sorted" 1 1 _) (wpAny_pure ?_)
  refine wpAny_bind (collect_tup hl ?_ hz)
  refine wpAny_bind (wpAny_newList ?_ hz)
  have hsz : ((s.heap.push (seqObj "list" #[] 0)).update s.heap.objs.size (Obj.mapSeq (· ++ vs.toArray))).objs.size = s.heap.objs.size + 1 := by
    rw [Heap.size_update, size_push']
  have hoL : (((s.heap.push (seqObj "list" #[] 0)).update s.heap.objs.size (Obj.mapSeq (· ++ vs.toArray))).push (seqObj "list" vs.toArray 0)).get? (s.heap.objs.size + 1) = some (seqObj "list" vs.toArray 0) := by
    rw [← hsz]; exact Heap.get?_push_size _ rfl
  have keep : ∀ b o, s.heap.get? b = some o → b ≠ s.heap.objs.size + 1 ∧ (((s.heap.push (seqObj "list" #[] 0)).update s.heap.objs.size (Obj.mapSeq (· ++ vs.toArray))).push (seqObj "list" vs.toArray 0)).get? b = some o := fun b o q => by
    have hlt : b < s.heap.objs.size := Heap.lt_size q
    refine ⟨Nat.ne_of_lt (Nat.lt_succ_of_lt hlt), Heap.get?_push_of_some _ ?_⟩
    rw [Heap.get?_update_ne _ _ _ _ (Nat.ne_of_lt hlt)]
    exact Heap.get?_push_of_some _ q
  show wpAny _ _ _ _ _ { s with heap := ((s.heap.push (seqObj "list" #[] 0)).update s.heap.objs.size (Obj.mapSeq (· ++ vs.toArray))).push (seqObj "list" vs.toArray 0) }
  rw [hsz]
  refine wpAny_bind (wpAny_holding (wpAny_call_entry_kw slot_list_sort ⟨_, hoL, rfl⟩ entry_list_sort ?_ (ha2 _)))
  rw [hk]
  refine SrtR.list_sort_ordR O hoL hz (fun h2 => hS h2 _ _ hoL keep) fun out hs hb => ⟨_, rfl, ?_⟩
  exact wpAny_pure ⟨_, rfl, h out hs hb⟩
end
end L3T

set_option Elab.async false
set_option linter.all false
set_option maxRecDepth 100000
set_option maxHeartbeats 2000000
namespace L3
open PySem PySem.Spec PyProof.Rows L2

def intsOf : List D → Option (List Int)
  | [] => some []
  | .int i :: r => (intsOf r).map (i :: ·)
  | _ => none
theorem intsOf_ok : ∀ {ds : List D} {ns : List Int}, intsOf ds = some ns → ds = ns.map .int
  | [], ns, h => by cases h; rfl
  | .int i :: r, ns, h => by
    unfold intsOf at h
    cases q : intsOf r with
    | none => rw [q] at h; cases h
    | some ms => rw [q] at h; cases h; rw [intsOf_ok q]; rfl
  | .non :: _, _, h => by cases h
  | .bl _ :: _, _, h => by cases h
  | .str _ :: _, _, h => by cases h
  | .ty _ :: _, _, h => by cases h
  | .fn _ :: _, _, h => by cases h
  | .tup _ :: _, _, h => by cases h
  | .lst _ :: _, _, h => by cases h
  | .scr _ :: _, _, h => by cases h
@[simp] theorem intsOf_map (ns : List Int) : intsOf (ns.map .int) = some ns := by
  induction ns with
  | nil => rfl
  | cons n ns ih => rw [List.map_cons, intsOf, ih]; rfl
def blsOf : List D → Option (List Bool)
  | [] => some []
  | .bl i :: r => (blsOf r).map (i :: ·)
  | _ => none
theorem blsOf_ok : ∀ {ds : List D} {ns : List Bool}, blsOf ds = some ns → ds = ns.map .bl
  | [], ns, h => by cases h; rfl
  | .bl i :: r, ns, h => by
    unfold blsOf at h
    cases q : blsOf r with
    | none => rw [q] at h; cases h
    | some ms => rw [q] at h; cases h; rw [blsOf_ok q]; rfl
  | .non :: _, _, h => by cases h
  | .int _ :: _, _, h => by cases h
  | .str _ :: _, _, h => by cases h
  | .ty _ :: _, _, h => by cases h
  | .fn _ :: _, _, h => by cases h
  | .tup _ :: _, _, h => by cases h
  | .lst _ :: _, _, h => by cases h
  | .scr _ :: _, _, h => by cases h
@[simp] theorem blsOf_map (ns : List Bool) : blsOf (ns.map .bl) = some ns := by
  induction ns with
  | nil => rfl
  | cons n ns ih => rw [List.map_cons, blsOf, ih]; rfl
def seqI (d : D) : Option (List Int) := (walkOf d).bind intsOf

def insI (x : Int) : List Int → List Int
  | [] => [x]
  | y :: r => if x ≤ y then x :: y :: r else y :: insI x r
def srtI : List Int → List Int
  | [] => []
  | x :: r => insI x (srtI r)
theorem insI_perm (x : Int) : ∀ l, (insI x l).Perm (x :: l)
  | [] => .refl _
  | y :: r => by
    unfold insI
    split
    · exact .refl _
    · exact ((insI_perm x r).cons y).trans (.swap x y r)
theorem srtI_perm : ∀ l, (srtI l).Perm l
  | [] => .refl _
  | x :: r => (insI_perm x _).trans ((srtI_perm r).cons x)
theorem insI_sorted (x : Int) : ∀ l : List Int, l.Pairwise (· ≤ ·) → (insI x l).Pairwise (· ≤ ·)
  | [], _ => List.pairwise_singleton _ _
  | y :: r, h => by
    unfold insI
    split
    · rename_i hxy
      refine List.pairwise_cons.mpr ⟨fun z hz => ?_, h⟩
      rcases List.mem_cons.mp hz with rfl | hz
      · exact hxy
      · exact Int.le_trans hxy ((List.pairwise_cons.mp h).1 z hz)
    · rename_i hxy
      refine List.pairwise_cons.mpr ⟨fun z hz => ?_, insI_sorted x r (List.pairwise_cons.mp h).2⟩
      rcases List.mem_cons.mp ((insI_perm x r).mem_iff.mp hz) with rfl | hz
      · omega
      · exact (List.pairwise_cons.mp h).1 z hz
theorem srtI_sorted : ∀ l : List Int, (srtI l).Pairwise (· ≤ ·)
  | [] => .nil
  | x :: r => insI_sorted x _ (srtI_sorted r)
theorem srt_unique : ∀ {a b : List Int}, a.Perm b → a.Pairwise (· ≤ ·) → b.Pairwise (· ≤ ·) → a = b
  | [], b, p, _, _ => (List.nil_perm.mp p).symm
  | x :: a, [], p, _, _ => by have := p.length_eq; simp at this
  | x :: a, y :: b, p, ha, hb => by
    have hx : y ≤ x := by
      rcases List.mem_cons.mp (p.mem_iff.mp (by simp : x ∈ x :: a)) with h | h
      · omega
      · exact (List.pairwise_cons.mp hb).1 x h
    have hy : x ≤ y := by
      rcases List.mem_cons.mp (p.mem_iff.mpr (by simp : y ∈ y :: b)) with h | h
      · omega
      · exact (List.pairwise_cons.mp ha).1 y h
    have e : x = y := by omega
    subst e
    rw [srt_unique (List.Perm.cons_inv p) (List.pairwise_cons.mp ha).2 (List.pairwise_cons.mp hb).2]
theorem srt_eq {a l : List Int} (p : a.Perm l) (s : a.Pairwise (· ≤ ·)) : a = srtI l := srt_unique (p.trans (srtI_perm l).symm) s (srtI_sorted l)
theorem srt_rev {a l : List Int} (p : a.Perm l) (s : a.Pairwise (· ≥ ·)) : a = (srtI l).reverse := by
  have h : a.reverse = srtI l := srt_eq (a.reverse_perm.trans p) (by rw [List.pairwise_reverse]; exact s)
  rw [← h, List.reverse_reverse]

def maxI : List Int → Int
  | [] => 0
  | [x] => x
  | x :: y :: r => max x (maxI (y :: r))
def minI : List Int → Int
  | [] => 0
  | [x] => x
  | x :: y :: r => min x (minI (y :: r))
theorem maxI_mem : ∀ {l : List Int}, l ≠ [] → maxI l ∈ l ∧ ∀ y ∈ l, y ≤ maxI l
  | [], h => absurd rfl h
  | [x], _ => by simp [maxI]
  | x :: y :: r, _ => by
    obtain ⟨h1, h2⟩ := maxI_mem (l := y :: r) (by simp)
    unfold maxI
    refine ⟨?_, fun z hz => ?_⟩
    · by_cases h : x ≤ maxI (y :: r)
      · rw [Int.max_eq_right h]; exact List.mem_cons_of_mem _ h1
      · rw [Int.max_eq_left (by omega)]; simp
    · rcases List.mem_cons.mp hz with rfl | hz
      · exact Int.le_max_left _ _
      · exact Int.le_trans (h2 z hz) (Int.le_max_right _ _)
theorem minI_mem : ∀ {l : List Int}, l ≠ [] → minI l ∈ l ∧ ∀ y ∈ l, minI l ≤ y
  | [], h => absurd rfl h
  | [x], _ => by simp [minI]
  | x :: y :: r, _ => by
    obtain ⟨h1, h2⟩ := minI_mem (l := y :: r) (by simp)
    unfold minI
    refine ⟨?_, fun z hz => ?_⟩
    · by_cases h : x ≤ minI (y :: r)
      · rw [Int.min_eq_left h]; simp
      · rw [Int.min_eq_right (by omega)]; exact List.mem_cons_of_mem _ h1
    · rcases List.mem_cons.mp hz with rfl | hz
      · exact Int.min_le_left _ _
      · exact Int.le_trans (Int.min_le_right _ _) (h2 z hz)

section
variable {X : Cx} {B : Bg} {F F' : Addr → Prop} {ρ : Rho} {σ : L2.St} {H Hs : Hp} {w : W} {v : V} {ws : List W} {vs : List V}
/-- what is walked: a list, a tuple -/
theorem RW.walk {ds : List D} (E : EnvD B F ρ σ H) (h : RW B F ρ σ Hs H w v) (e : walkOf (val ρ w) = some ds) : ∃ a us, v = .ref a ∧ (SqL B.K H a us ∨ SqT B.K H a us) ∧ Reps B.K F H us ds := by
  unfold walkOf at e
  split at e
  · rename_i l ev
    cases e
    obtain ⟨a, us, e1, h1, h2⟩ := RW.tup E h ev
    exact ⟨a, us, e1, .inr h1, h2⟩
  · rename_i l ev
    cases e
    obtain ⟨a, us, e1, h1, h2⟩ := RW.lst E h ev
    exact ⟨a, us, e1, .inl (SqL.of h1), h2⟩
  · rename_i l ev
    cases e
    obtain ⟨a, us, e1, h1, h2⟩ := RW.scr E h ev
    exact ⟨a, us, e1, .inl h1.sql, h2⟩
  · cases e
theorem RW.seqI {ns : List Int} (E : EnvD B F ρ σ H) (h : RW B F ρ σ Hs H w v) (e : L3.seqI (val ρ w) = some ns) : ∃ a, v = .ref a ∧ (SqL B.K H a (ns.map V.int) ∨ SqT B.K H a (ns.map V.int)) := by
  unfold L3.seqI at e
  cases q : walkOf (val ρ w) with
  | none => rw [q] at e; cases e
  | some ds =>
    rw [q] at e
    have e : intsOf ds = some ns := e
    obtain ⟨a, us, e1, h1, h2⟩ := RW.walk E h q
    rw [intsOf_ok e] at h2
    rw [Reps.ints h2] at h1
    exact ⟨a, e1, h1⟩
theorem new_lstI {p : Addr} {ns : List Int} (E : EnvD B F ρ σ H) (hp : H p = none) : Stp B σ F ρ H F ρ (upd H p (.lst (ns.map V.int))) ∧ RW B F ρ σ H (upd H p (.lst (ns.map V.int))) (.new (ns.map D.int)) (.ref p) := new_lst E hp Reps.ints'

def rSumT (K : PySem.W.Frag) : List V → Hp → VK → Prop := fun vs H Q => ∃ (a : Addr) (ns : List Int), vs = [V.ref a] ∧ SqT K H a (ns.map V.int) ∧ Q (.int ns.sum) H
def rMaxT (K : PySem.W.Frag) : List V → Hp → VK → Prop := fun vs H Q => ∃ (a : Addr) (ns : List Int), vs = [V.ref a] ∧ SqT K H a (ns.map V.int) ∧ 0 < ns.length ∧ ∀ m, m ∈ ns → (∀ y, y ∈ ns → y ≤ m) → Q (.int m) H
def rMinT (K : PySem.W.Frag) : List V → Hp → VK → Prop := fun vs H Q => ∃ (a : Addr) (ns : List Int), vs = [V.ref a] ∧ SqT K H a (ns.map V.int) ∧ 0 < ns.length ∧ ∀ m, m ∈ ns → (∀ y, y ∈ ns → m ≤ y) → Q (.int m) H
def rSortedT' (K : PySem.W.Frag) : List V → Hp → VK → Prop := fun vs H Q => ∃ (a : Addr) (ns : List Int), vs = [V.ref a] ∧ SqT K H a (ns.map V.int) ∧
  ∀ (ns' : List Int) (p : Addr), ns'.Perm ns → ns'.Pairwise (· ≤ ·) → H p = none → Q (.ref p) (upd H p (.lst (ns'.map V.int)))
def rSortedTR (K : PySem.W.Frag) (b : Bool) : List V → List V → Hp → VK → Prop := fun vs zs H Q => ∃ (a : Addr) (ns : List Int), vs = [V.ref a] ∧ zs = [.bl b] ∧ SqT K H a (ns.map V.int) ∧
  ∀ (ns' : List Int) (p : Addr), ns'.Perm ns → OrdB b ns' → H p = none → Q (.ref p) (upd H p (.lst (ns'.map V.int)))
theorem cr_sumT (hc : X.calm = true) : CallR X (.builtin "sum") (rSumT X.K) := by
  intro pins s σ H vs us Q I r h
  obtain ⟨a, ns, rfl, hs, q⟩ := h
  obtain ⟨its, rv, hl, _⟩ := I.tuple hs
  rw [Vals.ref1 r]
  exact L3T.sumT_raw (I.ok.hd hc) (show s.heap.IsTuple a its.toArray from hl) rv.ints fun h' tk t' hk => ⟨.int _, H, I.kept hk, ⟨_, rfl⟩, q⟩
theorem cr_maxT (hc : X.calm = true) : CallR X (.builtin "max") (rMaxT X.K) := by
  intro pins s σ H vs us Q I r h
  obtain ⟨a, ns, rfl, hs, hn, q⟩ := h
  obtain ⟨its, rv, hl, _⟩ := I.tuple hs
  rw [Vals.ref1 r]
  exact L3T.maxT_raw (I.ok.hd hc) (show s.heap.IsTuple a its.toArray from hl) rv.ints hn fun h' tk m t' hk h1 h2 => ⟨.int _, H, I.kept hk, ⟨_, rfl⟩, q m h1 h2⟩
theorem cr_minT (hc : X.calm = true) : CallR X (.builtin "min") (rMinT X.K) := by
  intro pins s σ H vs us Q I r h
  obtain ⟨a, ns, rfl, hs, hn, q⟩ := h
  obtain ⟨its, rv, hl, _⟩ := I.tuple hs
  rw [Vals.ref1 r]
  exact L3T.minT_raw (I.ok.hd hc) (show s.heap.IsTuple a its.toArray from hl) rv.ints hn fun h' tk m t' hk h1 h2 => ⟨.int _, H, I.kept hk, ⟨_, rfl⟩, q m h1 h2⟩
theorem cr_sortedT' : CallR X (.builtin "sorted") (rSortedT' X.K) := by
  intro pins s σ H vs us Q I r h
  obtain ⟨a, ns, rfl, hs, q⟩ := h
  obtain ⟨its, rv, hl, hz⟩ := I.tuple hs
  rw [Vals.ref1 r]
  have hi := rv.ints
  refine L3T.sortedT_ord SrtO.swo_int (show s.heap.IsTuple a its.toArray from hl) (by rw [← rv.length]; exact hz) (fun h2 h₁ a' _ _ => SrtO.ints_sortable hi h2) fun out h1 h2 => ?_
  obtain ⟨k1, k2, k3⟩ := SrtO.ints_out hi h1 h2
  obtain ⟨ep, he'⟩ := PyProof.Rows.sortedAll_at s.heap its out.toArray
  have hlen : ((out.map SrtO.iv).map V.int).length ≤ sizeLine := by
    rw [List.length_map, k2.length_eq]
    rw [List.length_map] at hz
    exact hz
  exact ⟨.ref _, upd H (s.heap.objs.size + 1) (.lst ((out.map SrtO.iv).map V.int)), I.laid (t' := s.toks) (fun _ _ => PyProof.Rows.sortedAll_old) (Nat.le_succ _) ⟨hlen, out, ep, vals_of_ints k1, he'⟩, rfl, q _ _ k2 k3 (I.hok.fresh (Nat.le_succ _))⟩
theorem cr_sortedTRev {b : Bool} : CallRK X (.builtin "sorted") [Str.ofString "reverse"] (rSortedTR X.K b) := by
  intro pins s σ H vs zs us ws Q I r rz h
  obtain ⟨a, ns, rfl, rfl, hs, q⟩ := h
  obtain rfl := Vals.ref1 r
  obtain ⟨w1, rfl, e1⟩ := vals1 rz
  obtain rfl : w1 = Value.bool b := e1
  obtain ⟨its, rv, hl, hz⟩ := I.tuple hs
  have hi := rv.ints
  refine L3T.sortedT_ordK (fun _ => rfl) (PyProof.Rows.args_sorted_rev _ _) (fun _ => PyProof.Rows.args_list_sort_rev _ _) SrtO.swo_int (show s.heap.IsTuple a its.toArray from hl) (by rw [← rv.length]; exact hz) (fun h2 h₁ a' _ _ => SrtO.ints_sortable hi h2) fun out h1 h2 => ?_
  obtain ⟨ns', k1, k2, k3⟩ := SrtR.ints_outR hi h1 h2
  obtain ⟨ep, he'⟩ := PyProof.Rows.sortedAll_at s.heap its (if b = true then out.toArray.reverse else out.toArray)
  have hlen : (ns'.map V.int).length ≤ sizeLine := by
    rw [List.length_map, k2.length_eq]
    rw [List.length_map] at hz
    exact hz
  have e0 : ((if b = true then out.toArray.reverse else out.toArray).toList).toArray = (if b = true then out.toArray.reverse else out.toArray) := by rw [Array.toArray_toList]
  exact ⟨.ref _, upd H (s.heap.objs.size + 1) (.lst (ns'.map V.int)), I.laid (t' := s.toks) (fun _ _ => PyProof.Rows.sortedAll_old) (Nat.le_succ _) ⟨hlen, _, ep, vals_of_ints k1, by rw [e0]; exact he'⟩, rfl, q _ _ k2 k3 (I.hok.fresh (Nat.le_succ _))⟩

def rdLen : RdC := fun l Q => match l with
  | [.str x] => x.length ≤ sizeLine ∧ Q (.dat (.int x.length))
  | [d] => match walkOf d with
    | some ds => Q (.dat (.int ds.length))
    | none => False
  | _ => False
theorem cd_len : CallD X (.builtin "len") rdLen := by
  refine ⟨⟨_, .or call_len_seq call_len_str, ?_⟩, fun l Q Q' h q => ?_⟩
  · intro B F ρ σ Hs H ws vs Q hk E rs h
    unfold rdLen at h
    split at h
    · rename_i x e
      obtain ⟨w, v, rfl, rfl, r, e⟩ := RWs.one rs e
      exact .inr ⟨x, by rw [RW.str E r e], h.1, h.2 _ F H (.refl E) (Rep.int _)⟩
    · rename_i d e
      obtain ⟨w, v, rfl, rfl, r, e⟩ := RWs.one rs e
      split at h
      · rename_i ds ed
        obtain ⟨a, us, e1, h1, h2⟩ := RW.walk E r (e ▸ ed)
        refine .inl ⟨a, us, by rw [e1], hk ▸ h1, ?_⟩
        rw [Reps.length h2]
        exact h _ F H (.refl E) (Rep.int _)
      · exact h.elim
    · exact h.elim
  · unfold rdLen at q ⊢
    split at q
    · exact ⟨q.1, h _ q.2⟩
    · split at q
      · rename_i e; exact h _ q
      · exact q
    · exact q
/-- one list or tuple of ints -/
def rdNs (g : List Int → (W → Prop) → Prop) : RdC := fun l Q => match l with
  | [d] => match seqI d with
    | some ns => g ns Q
    | none => False
  | _ => False
theorem cd_ns {f : Value} {r r' : List V → Hp → VK → Prop} {g : List Int → (W → Prop) → Prop} (h1 : CallR X f r) (h2 : CallR X f r') (m : ∀ ns Q Q', (∀ w, Q w → Q' w) → g ns Q → g ns Q')
    (k1 : ∀ (B : Bg) (F : Addr → Prop) (ρ : Rho) (σ : L2.St) (H : Hp) (a : Addr) (ns : List Int) (Q : VK), EnvD B F ρ σ H → SqL X.K H a (ns.map V.int) → g ns (fun w => ∀ v F' H', Stp B σ F ρ H F' ρ H' → RW B F' ρ σ H H' w v → Q v H') → r [.ref a] H Q)
    (k2 : ∀ (B : Bg) (F : Addr → Prop) (ρ : Rho) (σ : L2.St) (H : Hp) (a : Addr) (ns : List Int) (Q : VK), EnvD B F ρ σ H → SqT X.K H a (ns.map V.int) → g ns (fun w => ∀ v F' H', Stp B σ F ρ H F' ρ H' → RW B F' ρ σ H H' w v → Q v H') → r' [.ref a] H Q) : CallD X f (rdNs g) := by
  refine ⟨⟨_, .or h1 h2, ?_⟩, fun l Q Q' h q => ?_⟩
  · intro B F ρ σ Hs H ws vs Q hk E rs h
    unfold rdNs at h
    split at h
    · rename_i d e
      obtain ⟨w, v, rfl, rfl, r, e⟩ := RWs.one rs e
      split at h
      · rename_i ns ed
        obtain ⟨a, e1, h1 | h1⟩ := RW.seqI E r (e ▸ ed)
        · subst e1; exact .inl (k1 B F ρ σ H a ns Q E (hk ▸ h1) h)
        · subst e1; exact .inr (k2 B F ρ σ H a ns Q E (hk ▸ h1) h)
      · exact h.elim
    · exact h.elim
  · unfold rdNs at q ⊢
    split at q
    · split at q
      · rename_i e; exact m _ _ _ h q
      · exact q
    · exact q
def gSum (ns : List Int) (Q : W → Prop) : Prop := Q (.dat (.int ns.sum))
def gMax (ns : List Int) (Q : W → Prop) : Prop := ns ≠ [] ∧ Q (.dat (.int (maxI ns)))
def gMin (ns : List Int) (Q : W → Prop) : Prop := ns ≠ [] ∧ Q (.dat (.int (minI ns)))
def gSrt (ns : List Int) (Q : W → Prop) : Prop := Q (.new ((srtI ns).map .int))
theorem cd_sum (hc : X.calm = true) : CallD X (.builtin "sum") (rdNs gSum) :=
  cd_ns (cr_sum hc) (cr_sumT hc) (fun _ _ _ h q => h _ q) (fun B F ρ σ H a ns Q E hs q => ⟨a, ns, rfl, hs, q _ F H (.refl E) (Rep.int _)⟩) (fun B F ρ σ H a ns Q E hs q => ⟨a, ns, rfl, hs, q _ F H (.refl E) (Rep.int _)⟩)
theorem max_uniq {ns : List Int} {m : Int} (h : ns ≠ []) (h1 : m ∈ ns) (h2 : ∀ y, y ∈ ns → y ≤ m) : m = maxI ns := by
  obtain ⟨g1, g2⟩ := maxI_mem h
  have := g2 m h1
  have := h2 _ g1
  omega
theorem min_uniq {ns : List Int} {m : Int} (h : ns ≠ []) (h1 : m ∈ ns) (h2 : ∀ y, y ∈ ns → m ≤ y) : m = minI ns := by
  obtain ⟨g1, g2⟩ := minI_mem h
  have := g2 m h1
  have := h2 _ g1
  omega
theorem cd_maxS (hc : X.calm = true) : CallD X (.builtin "max") (rdNs gMax) :=
  cd_ns (cr_max hc) (cr_maxT hc) (fun _ _ _ h q => ⟨q.1, h _ q.2⟩)
    (fun B F ρ σ H a ns Q E hs q => ⟨a, ns, rfl, hs, List.length_pos_iff.mpr q.1, fun m h1 h2 => by rw [max_uniq q.1 h1 h2]; exact q.2 _ F H (.refl E) (Rep.int _)⟩)
    (fun B F ρ σ H a ns Q E hs q => ⟨a, ns, rfl, hs, List.length_pos_iff.mpr q.1, fun m h1 h2 => by rw [max_uniq q.1 h1 h2]; exact q.2 _ F H (.refl E) (Rep.int _)⟩)
theorem cd_minS (hc : X.calm = true) : CallD X (.builtin "min") (rdNs gMin) :=
  cd_ns (cr_min hc) (cr_minT hc) (fun _ _ _ h q => ⟨q.1, h _ q.2⟩)
    (fun B F ρ σ H a ns Q E hs q => ⟨a, ns, rfl, hs, List.length_pos_iff.mpr q.1, fun m h1 h2 => by rw [min_uniq q.1 h1 h2]; exact q.2 _ F H (.refl E) (Rep.int _)⟩)
    (fun B F ρ σ H a ns Q E hs q => ⟨a, ns, rfl, hs, List.length_pos_iff.mpr q.1, fun m h1 h2 => by rw [min_uniq q.1 h1 h2]; exact q.2 _ F H (.refl E) (Rep.int _)⟩)
theorem cd_sorted : CallD X (.builtin "sorted") (rdNs gSrt) :=
  cd_ns cr_sortedI cr_sortedT' (fun _ _ _ h q => h _ q)
    (fun B F ρ σ H a ns Q E hs q => ⟨a, ns, rfl, hs, fun ns' p h1 h2 hp => by rw [srt_eq h1 h2]; exact q _ F _ (new_lstI E hp).1 (new_lstI E hp).2⟩)
    (fun B F ρ σ H a ns Q E hs q => ⟨a, ns, rfl, hs, fun ns' p h1 h2 hp => by rw [srt_eq h1 h2]; exact q _ F _ (new_lstI E hp).1 (new_lstI E hp).2⟩)
def rdII (g : Int → Int → Int) : RdC := fun l Q => match l with
  | [.int i, .int j] => Q (.dat (.int (g i j)))
  | _ => False
theorem cd_II {f : Value} {r : List V → Hp → VK → Prop} {g : Int → Int → Int} (h1 : CallR X f r) (k : ∀ i j H Q, Q (.int (g i j)) H → r [.int i, .int j] H Q) : CallD X f (rdII g) := by
  refine ⟨⟨_, h1, ?_⟩, fun l Q Q' h q => ?_⟩
  · intro B F ρ σ Hs H ws vs Q hk E rs h
    unfold rdII at h
    split at h
    · rename_i i j e
      rw [RWs.int2 E rs e]
      exact k _ _ _ _ (h _ F H (.refl E) (Rep.int _))
    · exact h.elim
  · unfold rdII at q ⊢
    split at q
    · exact h _ q
    · exact q
theorem cd_max2 (hc : X.calm = true) : CallD X (.builtin "max") (rdII max) := cd_II (call_max2 hc) fun i j H Q q => ⟨i, j, rfl, by
  have : (if j > i then j else i) = max i j := by rw [Int.max_def]; split <;> split <;> omega
  rw [this]; exact q⟩
theorem cd_min2 (hc : X.calm = true) : CallD X (.builtin "min") (rdII min) := cd_II (call_min2 hc) fun i j H Q q => ⟨i, j, rfl, by
  have : (if j < i then j else i) = min i j := by rw [Int.min_def]; split <;> split <;> omega
  rw [this]; exact q⟩
def rdAbs : RdC := fun l Q => match l with
  | [.int i] => Q (.dat (.int i.natAbs))
  | _ => False
theorem cd_abs : CallD X (.builtin "abs") rdAbs := by
  refine ⟨⟨_, call_abs, ?_⟩, fun l Q Q' h q => ?_⟩
  · intro B F ρ σ Hs H ws vs Q hk E rs h
    unfold rdAbs at h
    split at h
    · rename_i i e
      rw [RWs.int1 E rs e]
      refine ⟨i, rfl, ?_⟩
      have : (if i < 0 then -i else i) = (i.natAbs : Int) := by split <;> omega
      rw [this]
      exact h _ F H (.refl E) (Rep.int _)
    · exact h.elim
  · unfold rdAbs at q ⊢
    split at q
    · exact h _ q
    · exact q
def rdInt : RdC := fun l Q => match l with
  | [.int i] => Q (.dat (.int i))
  | [.bl b] => Q (.dat (.int (if b then 1 else 0)))
  | _ => False
theorem cd_int : CallD X (.type "int") rdInt := by
  refine ⟨⟨_, call_int1, ?_⟩, fun l Q Q' h q => ?_⟩
  · intro B F ρ σ Hs H ws vs Q hk E rs h
    unfold rdInt at h
    split at h
    · rename_i i e
      rw [RWs.int1 E rs e]
      exact .inl ⟨i, rfl, h _ F H (.refl E) (Rep.int _)⟩
    · rename_i b e
      obtain ⟨w, v, rfl, rfl, r, e⟩ := RWs.one rs e
      rw [RW.bl E r e]
      exact .inr ⟨b, rfl, h _ F H (.refl E) (Rep.int _)⟩
    · exact h.elim
  · unfold rdInt at q ⊢
    split at q
    · exact h _ q
    · exact h _ q
    · exact q
def rdList : RdC := fun l Q => match l with
  | [d] => match walkOf d with
    | some ds => Q (.new ds)
    | none => False
  | _ => False
theorem cd_list : CallD X (.type "list") rdList := by
  refine ⟨⟨_, call_list_of, ?_⟩, fun l Q Q' h q => ?_⟩
  · intro B F ρ σ Hs H ws vs Q hk E rs h
    unfold rdList at h
    split at h
    · rename_i d e
      obtain ⟨w, v, rfl, rfl, r, e⟩ := RWs.one rs e
      split at h
      · rename_i ds ed
        obtain ⟨a, us, e1, h1, h2⟩ := RW.walk E r (e ▸ ed)
        refine ⟨a, us, by rw [e1], hk ▸ h1, fun p hp => ?_⟩
        have n := new_lst E hp h2
        exact h _ F _ n.1 n.2
      · exact h.elim
    · exact h.elim
  · unfold rdList at q ⊢
    split at q
    · split at q
      · rename_i e; exact h _ q
      · exact q
    · exact q
def rdTuple : RdC := fun l Q => match l with
  | [d] => match walkOf d with
    | some ds => Q (.dat (.tup ds))
    | none => False
  | _ => False
theorem cd_tuple : CallD X (.type "tuple") rdTuple := by
  refine ⟨⟨_, call_tuple_of, ?_⟩, fun l Q Q' h q => ?_⟩
  · intro B F ρ σ Hs H ws vs Q hk E rs h
    unfold rdTuple at h
    split at h
    · rename_i d e
      obtain ⟨w, v, rfl, rfl, r, e⟩ := RWs.one rs e
      split at h
      · rename_i ds ed
        obtain ⟨a, us, e1, h1, h2⟩ := RW.walk E r (e ▸ ed)
        rcases h1 with h1 | h1
        · refine ⟨a, us, by rw [e1], .inl ⟨hk ▸ h1, fun p hp => ?_⟩⟩
          have n := new_tup E hp h2
          exact h _ F _ n.1 n.2
        · exact ⟨a, us, by rw [e1], .inr ⟨hk ▸ h1, h _ F H (.refl E) (Rep.tup h1 h2)⟩⟩
      · exact h.elim
    · exact h.elim
  · unfold rdTuple at q ⊢
    split at q
    · split at q
      · rename_i e; exact h _ q
      · exact q
    · exact q
def rdBs (g : List Bool → Bool) : RdC := fun l Q => match l with
  | [.lst ds] => match blsOf ds with
    | some bs => Q (.dat (.bl (g bs)))
    | none => False
  | _ => False
theorem Reps.bls {K : PySem.W.Frag} : ∀ {bs : List Bool} {vs : List V}, Reps K F H vs (bs.map D.bl) → vs = bs.map V.bl
  | [], _, .nil => rfl
  | _ :: _, _, .cons (.bl _) r => by rw [Reps.bls r]; rfl
theorem cd_bs {f : Value} {g : List Bool → Bool} {r : List V → Hp → VK → Prop} (h1 : CallR X f r) (k : ∀ a bs H Q, SqL X.K H a (bs.map V.bl) → Q (.bl (g bs)) H → r [.ref a] H Q) : CallD X f (rdBs g) := by
  refine ⟨⟨_, h1, ?_⟩, fun l Q Q' h q => ?_⟩
  · intro B F ρ σ Hs H ws vs Q hk E rs h
    unfold rdBs at h
    split at h
    · rename_i d e
      obtain ⟨w, v, rfl, rfl, r, e⟩ := RWs.one rs e
      split at h
      · rename_i bs ed
        obtain ⟨a, us, e1, h1, h2⟩ := RW.lst E r e
        rw [blsOf_ok ed] at h2
        rw [Reps.bls h2] at h1
        rw [e1]
        exact k a bs H Q (SqL.of h1) (h _ F H (.refl E) (Rep.bl _))
      · exact h.elim
    · exact h.elim
  · unfold rdBs at q ⊢
    split at q
    · split at q
      · rename_i e; exact h _ q
      · exact q
    · exact q
theorem cd_all (hc : X.calm = true) : CallD X (.builtin "all") (rdBs fun bs => bs.all id) := cd_bs (cr_all hc) fun a bs H Q h q => ⟨a, bs, rfl, h, q⟩
theorem cd_any (hc : X.calm = true) : CallD X (.builtin "any") (rdBs fun bs => bs.any id) := cd_bs (cr_any hc) fun a bs H Q h q => ⟨a, bs, rfl, h, q⟩

def tyD : D → Option String
  | .non => some "NoneType"
  | .bl _ => some "bool"
  | .int _ => some "int"
  | .str _ => some "str"
  | .tup _ => some "tuple"
  | .lst _ => some "list"
  | .scr _ => none
  | _ => none
def isS (a b : String) : Bool := a == b || (a == "bool" && b == "int")
def tyAll : List String := ["NoneType", "bool", "int", "str", "tuple", "list"]
def tyTo : List String := ["bool", "int", "str", "tuple", "list"]
theorem kit_all : ∀ a ∈ tyAll, ∀ b ∈ tyTo, kitB a b = some (isS a b) := by decide +kernel
theorem tyD_mem {d : D} {t : String} (h : tyD d = some t) : t ∈ tyAll := by
  cases d <;> simp [tyD] at h <;> subst h <;> decide
def rdIsi : RdC := fun l Q => match l with
  | [d, .ty T] => match tyD d with
    | some t => T ∈ tyTo ∧ Q (.dat (.bl (isS t T)))
    | none => False
  | _ => False
theorem SqT.tyx {a : Addr} {us : List V} {K : PySem.W.Frag} (h : SqT K H a us) : TyX K H (.ref a) (.type "tuple") := by
  rcases h with (h | ⟨o, h⟩) | ⟨o, its, n, h1, h2, _⟩
  · exact .base (.tup h)
  · exact .fTuple h
  · exact .kTuple h1 h2
theorem RW.tyx {t : String} (E : EnvD B F ρ σ H) (h : RW B F ρ σ Hs H w v) (e : tyD (val ρ w) = some t) : TyX B.K H v (.type t) := by
  cases hv : val ρ w with
  | non => rw [hv] at e; cases e; rw [RW.non E h hv]; exact .base .non
  | bl b => rw [hv] at e; cases e; rw [RW.bl E h hv]; exact .base (.bl b)
  | int b => rw [hv] at e; cases e; rw [RW.int E h hv]; exact .base (.int b)
  | str b => rw [hv] at e; cases e; rw [RW.str E h hv]; exact .base (.str b)
  | ty b => rw [hv] at e; cases e
  | fn b => rw [hv] at e; cases e
  | tup l =>
    rw [hv] at e; cases e
    obtain ⟨a, us, e1, h1, h2⟩ := RW.tup E h hv
    rw [e1]; exact SqT.tyx h1
  | lst l =>
    rw [hv] at e; cases e
    obtain ⟨a, us, e1, h1, h2⟩ := RW.lst E h hv
    rw [e1]; exact .base (.lst h1)
  | scr l =>
    rw [hv] at e; cases e
theorem cd_isi : CallD X (.builtin "isinstance") rdIsi := by
  refine ⟨⟨_, call_isi, ?_⟩, fun l Q Q' h q => ?_⟩
  · intro B F ρ σ Hs H ws vs Q hk E rs h
    unfold rdIsi at h
    split at h
    · rename_i d T e
      obtain ⟨w, v, us, xs, rfl, rfl, r, e1, rs2, e2⟩ := RWs.hd rs e
      obtain ⟨w2, v2, rfl, rfl, r2, e2⟩ := RWs.one rs2 e2
      split at h
      · rename_i t et
        have q2 := RW.flat E r2 e2 (fun _ q => nomatch q)
        cases q2
        exact ⟨v, .ty T, .type t, .type T, _, rfl, .ty T, hk ▸ RW.tyx E r (e1 ▸ et), kit_ty (kit_all t (tyD_mem et) T h.1), h.2 _ F H (.refl E) (Rep.bl _)⟩
      · exact h.elim
    · exact h.elim
  · unfold rdIsi at q ⊢
    split at q
    · split at q
      · rename_i e; exact ⟨q.1, h _ q.2⟩
      · exact q
    · exact q
end
end L3

set_option Elab.async false
set_option linter.all false
set_option maxRecDepth 100000
set_option maxHeartbeats 4000000
namespace L3T
open PySem PySem.Spec PyProof.Rows HT
section
variable {prog : Program} {w : World} {A : Around} {E : Value → Shared → Prop} {s : Shared}
theorem adjust_rev (n : Nat) : Builtin.Slice.sliceAdjust none none (-1) (n : Int) = ((n : Int) - 1, -1) := by
  unfold Builtin.Slice.sliceAdjust
  first
    | rfl
    | simp
theorem places_rev (n : Nat) : Builtin.Slice.slicePlaces ((n : Int) - 1) (-1) (-1) = n := by
  unfold Builtin.Slice.slicePlaces
  have h1 : ¬ ((-1 : Int) > 0) := by decide
  simp only [h1, if_false]
  first
    | omega
    | (split <;> simp <;> omega)
    | (split
       · rw [show (- -1 : Int) = 1 by decide, Int.ediv_one]; omega
       · omega)
theorem sliceApplied_rev {sl : Addr} {vl vu vs : Value} {n : Nat} {Q : Int × Int × Nat → Shared → Prop} (hs : s.heap.IsSliceOf sl vl vu vs) (pl : IsPart vl none) (pu : IsPart vu none) (ps : IsPart vs (some (-1)))
    (h : Q ((n : Int) - 1, -1, n) s) : wpAny (model prog w) A (Builtin.Slice.sliceApplied (.ref sl) (pure (n : Int))) Q E s := by
  obtain ⟨os, hos, hcs, hds⟩ := id hs
  unfold Builtin.Slice.sliceApplied Builtin.Slice.sliceFields
  refine wpAny_bind (wpAny_bind (wpAny_field hos hds (x := vl) rfl (wpAny_bind (wpAny_field hos hds (x := vu) rfl (wpAny_bind (wpAny_field hos hds (x := vs) rfl (wpAny_pure ?_)))))))
  refine wpAny_bind (slicePart_ ps ?_)
  show wpAny _ _ (if ((-1 : Int) == 0) = true then _ else _) _ _ s
  rw [if_neg (by decide)]
  refine wpAny_bind (slicePart_ pl (wpAny_bind (slicePart_ pu (wpAny_bind (wpAny_pure ?_)))))
  show wpAny _ _ (match Builtin.Slice.sliceAdjust none none (-1) (n : Int) with | (lo, hi) => pure (lo, (-1 : Int), Builtin.Slice.slicePlaces lo hi (-1))) _ _ s
  rw [adjust_rev n]
  show wpAny _ _ (pure ((n : Int) - 1, (-1 : Int), Builtin.Slice.slicePlaces ((n : Int) - 1) (-1) (-1))) _ _ s
  rw [places_rev]
  exact wpAny_pure h
theorem fm_congr {α β : Type} {f g : α → Option β} : ∀ l : List α, (∀ x ∈ l, f x = g x) → l.filterMap f = l.filterMap g
  | [], _ => rfl
  | x :: l, h => by
    rw [List.filterMap_cons, List.filterMap_cons, h x (by simp), fm_congr l fun y hy => h y (by simp [hy])]
theorem pick_rev (xs : Array Value) : ((List.range xs.size).filterMap fun (k : Nat) => xs[(((xs.size : Nat) : Int) - 1 + (k : Int) * -1).toNat]?).toArray = xs.toList.reverse.toArray := by
  have e : (List.range xs.size).filterMap (fun (k : Nat) => xs[(((xs.size : Nat) : Int) - 1 + (k : Int) * -1).toNat]?) = ((List.range xs.size).map (fun k => xs.size - 1 - k)).filterMap (xs[·]?) := by
    rw [List.filterMap_map]
    refine fm_congr _ fun k hk => ?_
    have := List.mem_range.mp hk
    show xs[(((xs.size : Nat) : Int) - 1 + (k : Int) * -1).toNat]? = xs[xs.size - 1 - k]?
    have e : (((xs.size : Nat) : Int) - 1 + (k : Int) * -1).toNat = xs.size - 1 - k := by omega
    rw [e]
  rw [e, PySem.W.krv_range, List.filterMap_reverse, PySem.W.krv_all]
theorem getItem_tuple_rev {t sl : Addr} {items : Array Value} {vl vu vs : Value} {Q : Value → Shared → Prop} (ht : IsTup s.heap t items) (hs : s.heap.IsSliceOf sl vl vu vs) (pl : IsPart vl none) (pu : IsPart vu none) (ps : IsPart vs (some (-1)))
    (h : Q (.ref s.heap.objs.size) { s with heap := s.heap.push { cls := .type "tuple", data := .seq items.toList.reverse.toArray } })
    (hsz : items.size ≤ sizeLine) : wpAny (model prog w) A (getItem (.ref t) (.ref sl)) Q E s := by
  have htake : sizeOk (.seq items.toList.reverse.toArray) := by
    show items.toList.reverse.toArray.size ≤ sizeLine
    rw [List.size_toArray, List.length_reverse, Array.length_toList]
    exact hsz
  obtain ⟨os, hos, hcs, hds⟩ := id hs
  have hTs : s.TypeIs (.ref sl) "slice" := ⟨os, hos, hcs⟩
  unfold getItem
  try with_reducible refine wpAny_holding ?_
  first | refine wpAny_bind (wpAny_pure ?_) | skip
  refine wpAny_bind (wpAny_sequenceKey ht.typeIs (by decide) ?_)
  refine wpAny_bind (wpAny_callSpecial?_slot (name := Str.ofString "__getitem__") ht.typeIs PyProof.Rows.slot_tuple_getitem
    (wpAny_call_entry PyProof.Rows.slot_tuple_getitem ht.typeIs entry_tuple_getitem ?_ (args_tuple_getitem _ _)))
  show wpAny _ _ (Builtin.Tuple.tupleItemsOf (.ref t) >>= _) _ _ s
  refine wpAny_bind (tupleItemsOf_ ht ?_)
  refine wpAny_bind (wpAny_typeOf hTs ?_)
  rw [if_pos (by decide)]
  refine wpAny_bind (sliceApplied_rev hs pl pu ps ?_)
  show wpAny _ _ (if ((((items.size : Nat) : Int) - 1 == 0) && ((-1 : Int) == 1) && (items.size == items.size)) = true then _ else _) _ _ s
  rw [if_neg (by rw [show ((-1 : Int) == 1) = false by decide, Bool.and_false, Bool.false_and]; exact Bool.false_ne_true), pick_rev]
  first
    | exact wpAny_bind (m := Builtin.Tuple.tupleExact _) (wpAny_newObj_type (wpAny_pure ⟨_, rfl, wpAny_pure h⟩) htake)
    | exact wpAny_bind (m := Builtin.Tuple.tupleExact _) (wpAny_newObj_type (wpAny_bind (wpAny_pure (wpAny_pure ⟨_, rfl, wpAny_pure h⟩))) htake)
    | exact wpAny_bind (wpAny_bind (m := Builtin.Tuple.tupleExact _) (wpAny_newObj_type (wpAny_pure (wpAny_pure ⟨_, rfl, wpAny_pure h⟩)) htake))
    | exact wpAny_bind (wpAny_bind (m := Builtin.Tuple.tupleExact _) (wpAny_newObj_type (wpAny_pure ⟨_, rfl, wpAny_pure h⟩) htake))
end
theorem tuple_mul_same (l : Addr) (items : Array Value) (n : Nat) (sl : Array (Option Value)) (dd : Option Addr) (x : Int) (u : Tok) (c0 : (decide (x < -(2 ^ 63)) || decide (x ≥ 2 ^ 63)) = false) (c1 : (items.isEmpty || x == 1) = true) :
    Meets (Builtin.«tuple.__mul__» ⟨[.ref l, .int x u], []⟩) (fun _ R s => s.heap.get? l = some { cls := .type "tuple", dict := dd, data := .seq items n, slots := sl } ∧ R (.ok (.ret (Value.ref l))) s) :=
  .of_wp fun prog w A R s h => by
    obtain ⟨hp, g, d, tk, os⟩ := s
    obtain ⟨hl, h⟩ := h
    have f1 := AutoSeq1.idx_int
    wp_walk using wpAny_loadPart' hl
    repeat (first
      | (refine wpAny_ite_false (decide_eq_false (by rw [c0]; exact Bool.false_ne_true)) ?_; wp_walk using wpAny_loadPart' hl)
      | (refine wpAny_ite_true (decide_eq_true (by rw [c1])) ?_; wp_walk using wpAny_loadPart' hl))
    exact ⟨_, rfl, h⟩
theorem tuple_mul_none (l : Addr) (items : Array Value) (n : Nat) (sl : Array (Option Value)) (dd : Option Addr) (x : Int) (u : Tok) (c0 : (decide (x < -(2 ^ 63)) || decide (x ≥ 2 ^ 63)) = false) (c1 : (items.isEmpty || x == 1) = false) (c2 : (decide (x ≤ 0) || items.isEmpty) = true) :
    Meets (Builtin.«tuple.__mul__» ⟨[.ref l, .int x u], []⟩) (fun _ R s => s.heap.get? l = some { cls := .type "tuple", dict := dd, data := .seq items n, slots := sl } ∧
      R (.ok (.ret (Value.ref s.heap.objs.size))) { s with heap := s.heap.push { cls := Value.type "tuple", data := Data.seq #[] }, toks := s.toks }) :=
  .of_wp fun prog w A R s h => by
    obtain ⟨hp, g, d, tk, os⟩ := s
    obtain ⟨hl, h⟩ := h
    have f1 := AutoSeq1.idx_int
    wp_walk using wpAny_loadPart' hl
    repeat (first
      | (refine wpAny_ite_false (decide_eq_false (by rw [c0]; exact Bool.false_ne_true)) ?_; wp_walk using wpAny_loadPart' hl)
      | (refine wpAny_ite_false (decide_eq_false (by rw [c1]; exact Bool.false_ne_true)) ?_; wp_walk using wpAny_loadPart' hl)
      | (refine wpAny_ite_true (decide_eq_true (by rw [c2])) ?_; wp_walk using wpAny_loadPart' hl))
    exact ⟨_, rfl, h⟩
end L3T
namespace L3
open PySem PySem.Spec PyProof.Rows L2
/-- t * k for k up to 1 -/
def rRepZ (K : PySem.W.Frag) : R2 := fun x y H Q => ∃ l k xs, x = .ref l ∧ y = .int k ∧ SqT K H l xs ∧ -(2 ^ 63) ≤ k ∧ k < 2 ^ 63 ∧ (xs = [] ∨ k ≤ 1) ∧ ((xs = [] ∨ k = 1) → Q (.ref l) H) ∧ (¬ (xs = [] ∨ k = 1) → ∀ p, H p = none → Q (.ref p) (upd H p (.tup [])))
theorem op_repZ {X : Cx} : OpR X (binaryOp .Mult) (rRepZ X.K) := by
  intro pins s σ H x y v u Q I rx ry h
  obtain ⟨l, k, xs, rfl, rfl, hT, h0, h01, h1, q1, q2⟩ := h
  cases rx
  obtain ⟨t, rfl⟩ := ry
  obtain ⟨its, r, ⟨⟨cls, dd, data, sl⟩, ho, hc, n, hd⟩, hs⟩ := I.tuple hT
  simp only at hc hd
  subst hc hd
  have hle : its.length = xs.length := r.length.symm
  have c0 : (decide (k < -(2 ^ 63)) || decide (k ≥ 2 ^ 63)) = false := by
    rw [decide_eq_false (by omega), decide_eq_false (by omega)] <;> rfl
  have em : its.toArray.isEmpty = xs.isEmpty := by
    cases its with
    | nil => cases xs with
      | nil => rfl
      | cons _ _ => simp at hle
    | cons a b => cases xs with
      | nil => simp at hle
      | cons _ _ => rfl
  by_cases hk : xs = [] ∨ k = 1
  · have c1 : (its.toArray.isEmpty || k == 1) = true := by
      rw [em]
      rcases hk with e | e
      · subst e; rfl
      · subst e; simp
    exact wpAny_binaryOp_repeat_ref (T := "tuple") (U := "int") (by decide) ⟨_, ho, rfl⟩ (fun s' => typeIs_int s' k t) noFill_tuple_mul F.fills_int_mul F.slot_int_rmul repeat_tuple F.slot_int_index.lookup
      (call_meets F.slot_int_rmul (typeIs_int s k t) F.entry_int_rmul (F.args_int_rmul_2 _ _) (int_rmul_tuple k t l its.toArray n dd sl)
        ⟨ho, rfl, ⟨_, ho, rfl⟩, call_meets F.slot_tuple_mul ⟨_, ho, rfl⟩ F.entry_tuple_mul (F.args_tuple_mul_2 _ _) (L3T.tuple_mul_same l its.toArray n sl dd k t c0 c1) ⟨ho, ⟨.ref l, H, I, rfl, q1 hk⟩⟩⟩)
  · have hx : xs ≠ [] := fun e => hk (.inl e)
    have hk1 : k ≠ 1 := fun e => hk (.inr e)
    have e1 : xs.isEmpty = false := by cases xs with
      | nil => exact absurd rfl hx
      | cons _ _ => rfl
    have c1 : (its.toArray.isEmpty || k == 1) = false := by
      rw [em, e1, Bool.false_or]; exact beq_eq_false_iff_ne.mpr hk1
    have c2 : (decide (k ≤ 0) || its.toArray.isEmpty) = true := by
      have h1 := h1.resolve_left hx
      rw [decide_eq_true (by omega), Bool.true_or]
    refine wpAny_binaryOp_repeat_ref (T := "tuple") (U := "int") (by decide) ⟨_, ho, rfl⟩ (fun s' => typeIs_int s' k t) noFill_tuple_mul F.fills_int_mul F.slot_int_rmul repeat_tuple F.slot_int_index.lookup
      (call_meets F.slot_int_rmul (typeIs_int s k t) F.entry_int_rmul (F.args_int_rmul_2 _ _) (int_rmul_tuple k t l its.toArray n dd sl)
        ⟨ho, rfl, ⟨_, ho, rfl⟩, call_meets F.slot_tuple_mul ⟨_, ho, rfl⟩ F.entry_tuple_mul (F.args_tuple_mul_2 _ _) (L3T.tuple_mul_none l its.toArray n sl dd k t c0 c1 c2) ⟨ho, ?_⟩⟩)
    refine ⟨.ref s.heap.objs.size, _, I.laid (t' := s.toks) (o := .tup []) (fun b ob q => Heap.get?_push_of_some _ q) (Nat.le_refl _) ?_, rfl, q2 hk _ (I.hok.fresh (Nat.le_refl _))⟩
    exact ⟨Nat.zero_le _, [], .nil, IsTup.new _ _⟩
/-- powers of great ints -/
def CPowW (i j : Int) : Prop := 0 ≤ j ∧ (Builtin.Int.intBits i : Int) * j ≤ 2 ^ 27
theorem op_powW {X : Cx} : OpR X (binaryOp .Pow) (rI CPowW fun i j => .int (i ^ j.toNat)) := opI fun _ _ _ _ _ _ _ hc q => pow_int hc.1 hc.2 q
theorem od_pow {X : Cx} : OpD X (binaryOp .Pow) (rdI CPowW fun i j => .int (i ^ j.toNat)) := od_I op_powW fun _ _ _ _ _ => .int _
/-- a * b, all cases -/
def rdMulA : Rd2 := fun a b Q => match a, b with
  | .int i, .int j => CMulW i j ∧ Q (.dat (.int (i * j)))
  | .lst xs, .int k => (-(2 ^ 63) ≤ k ∧ k < 2 ^ 63 ∧ xs.length * k.toNat ≤ sizeLine) ∧ Q (.new (List.replicate k.toNat xs).flatten)
  | .tup xs, .int k => (-(2 ^ 63) ≤ k ∧ k ≤ 1000 ∧ xs.length ≤ 1000) ∧ Q (.dat (.tup (List.replicate k.toNat xs).flatten))
  | _, _ => False
theorem flat_nil {α : Type} : ∀ n : Nat, (List.replicate n ([] : List α)).flatten = []
  | 0 => rfl
  | n + 1 => by rw [List.replicate_succ, List.flatten_cons, flat_nil n]; rfl
theorem od_mulA {X : Cx} : OpD X (binaryOp .Mult) rdMulA := by
  refine ⟨⟨_, .or op_mulW (.or op_rep (.or op_repT op_repZ)), ?_⟩, fun a b Q Q' h q => ?_⟩
  · intro B F ρ σ Hs H x y vx vy Q hk E rx ry h
    unfold rdMulA at h
    split at h
    · rename_i i j ex ey
      exact .inl ⟨i, j, RW.int E rx ex, RW.int E ry ey, h.1, h.2 _ F H (.refl E) (Rep.int _)⟩
    · rename_i xs k ex ey
      obtain ⟨a, vs, rfl, h1, h2⟩ := RW.lst E rx ex
      refine .inr (.inl ⟨a, k, vs, rfl, RW.int E ry ey, h1, h.1.1, h.1.2.1, by rw [Reps.length h2]; exact h.1.2.2, fun p hp => ?_⟩)
      have n := new_lst E hp (Reps.rep h2 k.toNat)
      exact h.2 _ F _ n.1 n.2
    · rename_i xs k ex ey
      obtain ⟨a, vs, rfl, h1, h2⟩ := RW.tup E rx ex
      have hl := Reps.length h2
      by_cases hc : vs ≠ [] ∧ 2 ≤ k
      · refine .inr (.inr (.inl ⟨a, k, vs, rfl, RW.int E ry ey, hk ▸ h1, hc.1, hc.2, h.1.2.1, by rw [hl]; exact h.1.2.2, fun p hp => ?_⟩))
        have n := new_tup E hp (Reps.rep h2 k.toNat)
        exact h.2 _ F _ n.1 n.2
      · by_cases hx : vs = []
        · subst hx
          have : xs = [] := by cases h2; rfl
          subst this
          refine .inr (.inr (.inr ⟨a, k, [], rfl, RW.int E ry ey, hk ▸ h1, h.1.1, by have := h.1.2.1; omega, .inl rfl, fun _ => h.2 _ F H (.refl E) ?_, fun n => absurd (.inl rfl) n⟩))
          rw [flat_nil]
          exact Rep.tup h1 .nil
        · have h2' : k ≤ 1 := by
            have : ¬ 2 ≤ k := fun z => hc ⟨hx, z⟩
            omega
          refine .inr (.inr (.inr ⟨a, k, vs, rfl, RW.int E ry ey, hk ▸ h1, h.1.1, by omega, .inr h2', fun e => ?_, fun n p hp => ?_⟩))
          · have e : k = 1 := e.resolve_left hx
            subst e
            refine h.2 _ F H (.refl E) ?_
            have : (List.replicate (1 : Int).toNat xs).flatten = xs := by simp
            rw [this]
            exact Rep.tup h1 h2
          · have hk0 : k.toNat = 0 := by
              have : k ≠ 1 := fun z => n (.inr z)
              omega
            have m := new_tup (l := []) E hp .nil
            have h3 := h.2
            rw [hk0] at h3
            exact h3 _ F _ m.1 m.2
    · exact h.elim
  · unfold rdMulA at q ⊢
    split at q
    · exact ⟨q.1, h _ q.2⟩
    · exact ⟨q.1, h _ q.2⟩
    · exact ⟨q.1, h _ q.2⟩
    · exact q
/-- e[::-1] -/
def tRevA (K : PySem.W.Frag) (te : TE) : TE := fun σ H Q => te σ H fun x H1 => ∃ a xs, x = .ref a ∧ ((SqL K H1 a xs ∧ ∀ p, H1 p = none → Q (.ref p) (upd H1 p (.lst xs.reverse))) ∨ (SqT K H1 a xs ∧ ∀ p, H1 p = none → Q (.ref p) (upd H1 p (.tup xs.reverse))))
theorem pe_revA {X : Cx} {e : Expr} {te : TE} {k : Nat} {p1 p2 p3 pos : Pos} (he : PE X e te) : PE X (.Subscript e (.Slice none none (some (.UnaryOp .USub (.Constant (.int 1) k p1) p2)) p3) pos) (tRevA X.K te) := by
  refine ⟨fun pins s σ H Q I h => ?_⟩
  refine Subscript_ (thn (he.run pins s σ H _ I h) fun v s1 ⟨x, H1, I1, r1, q1⟩ => ?_)
  obtain ⟨a, xs, ex, q1⟩ := q1
  subst ex
  cases r1
  have hst : PO X (some (.UnaryOp .USub (.Constant (.int 1) k p1) p2)) (tPart (tUn (rU fun i => .int (-i)) (tC (.int 1)))) := po_some (pe_un un_neg pe_int)
  refine wpAny_Slice (thn (po_none.run pins s1 σ H1 (fun o H2 => o = none ∧ H2 = H1) I1 ⟨rfl, rfl⟩) fun vl s2 ⟨l, H2, I2, pl, el, e2⟩ => ?_)
  subst el e2
  refine thn (po_none.run pins s2 σ H2 (fun o H3 => o = none ∧ H3 = H2) I2 ⟨rfl, rfl⟩) fun vu s3 ⟨u, H3, I3, pu, eu, e3⟩ => ?_
  subst eu e3
  refine thn (hst.run pins s3 σ H3 (fun o H4 => o = some (-1) ∧ H4 = H3) I3 ⟨1, rfl, -1, rfl, rfl, rfl⟩) fun vs s4 ⟨o, H4, I4, ps, eo, e4⟩ => ?_
  subst eo e4
  have I5 : Inv X pins σ H4 { s4 with heap := s4.heap.push { cls := .type "slice", data := .fields #[vl, vu, vs] } } := I4.kept (t' := s4.toks) fun b ob q => Heap.get?_push_of_some _ q
  show wpAny (model X.prog X.w) X.A (subscriptTail e (.Slice none none (some (.UnaryOp .USub (.Constant (.int 1) k p1) p2)) p3) (.ref a) (.ref s4.heap.objs.size)) (EP X pins σ Q) X.xe { s4 with heap := s4.heap.push { cls := .type "slice", data := .fields #[vl, vu, vs] } }
  rcases q1 with ⟨hx, q⟩ | ⟨hx, q⟩
  · obtain ⟨its, r, ht, hz⟩ := I5.list hx
    have hlen := r.length
    refine tail_any (ops := [.ref a, .ref s4.heap.objs.size]) ht.isList.typeIs (PySem.slot_list_getitem.lookup) ?_ (by with_unfolding_all rfl)
    refine wpAny_getItem_list_slice ht.isList (Heap.IsSliceOf.new _ vl vu vs) pl pu ps (by decide) ?_ (by rw [List.size_toArray]; omega)
    rw [PySem.W.krv_pick]
    refine ⟨.ref _, _, I5.laid (t' := s4.toks) (o := .lst xs.reverse) (fun b ob q => Heap.get?_push_of_some _ q) (Nat.le_refl _) ?_, rfl, q _ (I5.hok.fresh (Nat.le_refl _))⟩
    exact ⟨by rw [List.length_reverse]; exact hz, _, 0, r.reverse, Heap.get?_push_size _ rfl⟩
  · obtain ⟨its, r, ht, hz⟩ := I5.tuple hx
    have hlen := r.length
    refine tail_any (ops := [.ref a, .ref s4.heap.objs.size]) ht.typeIs (PyProof.Rows.slot_tuple_getitem.lookup) ?_ (by with_unfolding_all rfl)
    refine L3T.getItem_tuple_rev ht (Heap.IsSliceOf.new _ vl vu vs) pl pu ps ?_ (by rw [List.size_toArray]; omega)
    refine ⟨.ref _, _, I5.laid (t' := s4.toks) (o := .tup xs.reverse) (fun b ob q => Heap.get?_push_of_some _ q) (Nat.le_refl _) ?_, rfl, q _ (I5.hok.fresh (Nat.le_refl _))⟩
    exact ⟨by rw [List.length_reverse]; exact hz, its.reverse, r.reverse, IsTup.new _ _⟩
section
variable {X : Cx} {B : Bg} {e : Expr} {es : List Expr} {t : LTE} {u : LTA} {pos : Pos}
theorem Reps.reverse {K : PySem.W.Frag} {F : Addr → Prop} {H : Hp} {vs : List V} {ds : List D} (h : Reps K F H vs ds) : Reps K F H vs.reverse ds.reverse := by
  induction ds generalizing vs with
  | nil => cases h; exact .nil
  | cons d ds ih =>
    cases h with
    | cons a r => rw [List.reverse_cons, List.reverse_cons]; exact Reps.append (ih r) (.cons a .nil)
def tRevL' (t : LTE) : LTE := fun ρ Q => t ρ fun w ρ1 => match val ρ1 w with
  | .lst l => Q (.new l.reverse) ρ1
  | .tup l => Q (.dat (.tup l.reverse)) ρ1
  | _ => False
theorem de_rev {k : Nat} {p1 p2 p3 : Pos} (he : DE X B e t) : DE X B (.Subscript e (.Slice none none (some (.UnaryOp .USub (.Constant (.int 1) k p1) p2)) p3) pos) (tRevL' t) := by
  refine ⟨he.hk, fun ρ Q Q' h q => he.mono _ _ _ (fun w ρ1 z => ?_) q, pe_imp (pe_revA he.pe) ?_⟩
  · split at z
    · exact h _ _ z
    · exact h _ _ z
    · exact z
  rintro σ H Q ⟨F, ρ, E, q⟩
  refine ⟨F, ρ, E, he.mono _ _ _ (fun w ρ1 z => ?_) q⟩
  intro v F1 H1 s1 r1
  split at z
  · rename_i l ev
    obtain ⟨a, vs, rfl, h1, h2⟩ := RW.lst s1.env r1 ev
    refine ⟨a, vs, rfl, .inl ⟨SqL.of h1, fun p hp => ?_⟩⟩
    have n := new_lst s1.env hp (Reps.reverse h2)
    exact z _ F1 _ (s1.trans E n.1) (RW.back n.2 s1.ext.there)
  · rename_i l ev
    obtain ⟨a, vs, rfl, h1, h2⟩ := RW.tup s1.env r1 ev
    refine ⟨a, vs, rfl, .inr ⟨he.hk ▸ h1, fun p hp => ?_⟩⟩
    have n := new_tup s1.env hp (Reps.reverse h2)
    exact z _ F1 _ (s1.trans E n.1) (RW.back n.2 s1.ext.there)
  · exact z.elim
/-- -e -/
def tNeg (t : LTE) : LTE := fun ρ Q => t ρ fun w ρ1 => match val ρ1 w with
  | .int i => Q (.dat (.int (-i))) ρ1
  | _ => False
theorem de_neg (he : DE X B e t) : DE X B (.UnaryOp .USub e pos) (tNeg t) := by
  refine ⟨he.hk, fun ρ Q Q' h q => he.mono _ _ _ (fun w ρ1 z => ?_) q, pe_imp (pe_un un_neg he.pe) ?_⟩
  · split at z
    · exact h _ _ z
    · exact z
  rintro σ H Q ⟨F, ρ, E, q⟩
  refine ⟨F, ρ, E, he.mono _ _ _ (fun w ρ1 z => ?_) q⟩
  intro v F1 H1 s1 r1
  split at z
  · rename_i i ev
    exact ⟨i, RW.int s1.env r1 ev, z _ F1 H1 s1 (Rep.int _)⟩
  · exact z.elim
end
end L3

set_option Elab.async false
set_option linter.all false
set_option maxRecDepth 100000
set_option maxHeartbeats 2000000
namespace L3
open PySem PySem.Spec PyProof.Rows L2
section
variable {X : Cx} {B : Bg} {F F' : Addr → Prop} {ρ ρ' ρ1 : Rho} {σ : L2.St} {H H' Hs : Hp} {w : W} {v : V} {pos apos cpos : Pos} {e o : Expr} {es : List Expr} {t : LTE} {u : LTA} {tg : Expr}

theorem de_gint {x : Str} {i : Int} (hg : Gl X x) (hm : ∃ t, X.mg x = some (.int i t)) (hd : (x == ("__debug__" : Str)) = false := by decide) (hk : B.K = X.K := by rfl) : DE X B (.Name x pos) (tK (.int i)) := by
  obtain ⟨t, hm⟩ := hm
  exact de_const (pe_glob hg hm (v := .int i) ⟨t, rfl⟩ hd) (fun _ _ _ => .int i) hk
theorem de_gstr {x z : Str} (hg : Gl X x) (hm : ∃ t, X.mg x = some (.str z t)) (hd : (x == ("__debug__" : Str)) = false := by decide) (hk : B.K = X.K := by rfl) : DE X B (.Name x pos) (tK (.str z)) := by
  obtain ⟨t, hm⟩ := hm
  exact de_const (pe_glob hg hm (v := .str z) ⟨t, rfl⟩ hd) (fun _ _ _ => .str z) hk
theorem de_ty {x : Str} {T : String} (hg : Gl X x) (hm : X.mg x = none) (hv : bootBuiltins x = some (.type T)) (hn : x ≠ "__name__" := by decide) (hd : (x == ("__debug__" : Str)) = false := by decide) (hk : B.K = X.K := by rfl) : DE X B (.Name x pos) (tK (.ty T)) :=
  de_const (pe_bltn hg hm hv (v := .ty T) rfl hn hd) (fun _ _ _ => .ty T) hk

def tApp (i : Nat) (u : LTA) : LTE := fun ρ Q => isOwn ρ i = true ∧ u ρ fun ws ρ1 => match ws, ρ1[i]? with
  | [w], some (.own l) => (fitI i w = true ∧ l.length < sizeLine) ∧ Q (.dat .non) ((frzs [w] ρ1).set i (.own (l ++ [val ρ1 w])))
  | _, _ => False
theorem stp_frz (E0 : EnvD B F ρ σ Hs) (s : Stp B σ F ρ Hs F' ρ' H) (r : RW B F' ρ' σ Hs H w v) (z : nz w = true) : ∃ F'', Stp B σ F ρ Hs F'' (frzs [w] ρ') H ∧ Rep B.K F'' H v (val ρ' w) := by
  obtain ⟨F2, r2, q2⟩ := run_frz E0 s.run r z
  exact ⟨F2, ⟨r2.env, r2.ext, r2.own, s.kn.trans kn_frzs⟩, q2⟩
theorem own_slot {i : Nat} (E : EnvD B F ρ σ H) (h : isOwn ρ i = true) : ∃ p, σ[i]? = some (some (.ref p)) ∧ tyV B.K "list" (.ref p) H := by
  obtain ⟨l, e⟩ := isOwn_get h
  obtain ⟨p, us, e1, e2, _⟩ := E.own i l e
  exact ⟨p, e1, .inl ⟨rfl, us, SqL.of e2⟩⟩
theorem de_append {i : Nat} (ho : PE X o (tVar i)) (ha : DA X B (e :: es) u)
    (hbase : attributeBase o "append" X.env (eval o X.env) = eval o X.env := by rfl)
    (hfew : ((backTo cpos (starEach (e :: es) X.env)).all (fun x => !x.1) && (backToKw cpos (keywordEach [] X.env)).all (fun x => x.1.isSome)
      && decide ((e :: es).length + ([] : List Keyword).length + (if ([] : List Keyword).isEmpty then 0 else 1) < 30)) = true := by rfl)
    (hline : (apos.endLine == cpos.line) = true := by rfl) (hs : starEach (e :: es) X.env = (false, eval e X.env) :: starEach es X.env := by rfl) (hplain : (backTo cpos (starEach es X.env)).any (·.1) = false := by rfl) :
    DE X B (.Call (.Attribute o "append" apos) (e :: es) [] cpos) (tApp i u) := by
  refine ⟨ha.hk, fun ρ Q Q' h q => ⟨q.1, ha.mono _ _ _ (fun ws ρ1 z => ?_) q.2⟩, pe_imp (pe_bm PySem.F.plainAttrs_list PySem.F.slot_list_append PySem.F.type_list_append mt_append ho ha.pa hbase hfew hline hs hplain) ?_⟩
  · split at z
    · exact ⟨z.1, h _ _ z.2⟩
    · exact z
  rintro σ H Q ⟨F, ρ, E, q0, q⟩
  obtain ⟨p, ep, ty⟩ := own_slot E q0
  refine ⟨.ref p, ep, ha.hk ▸ ty, F, ρ, E, ha.mono _ _ _ (fun ws ρ1 z => ?_) q⟩
  intro vs F1 H1 s1 rs
  split at z
  · rename_i w l el
    obtain ⟨⟨z1, z2⟩, z⟩ := z
    have z1' : nz w = true ∧ isRef i w = false := by simpa [fitI] using z1
    cases rs with
    | @cons _ _ v vs a rs n =>
      cases rs
      obtain ⟨F2, s2, q2⟩ := stp_frz E s1 a z1'.1
      have e1 := frzs_keep (ws := [w]) el (by simpa using z1'.2)
      obtain ⟨p', us, e2, e3, e4, e5, e6⟩ := s2.env.own i l e1
      rw [ep] at e2; cases e2
      have s3 := stp_mut (vs' := us ++ [v]) s2.env e1 ep (Reps.append e4 (.cons q2 .nil))
      exact ⟨p, us, v, rfl, rfl, e3, by rw [Reps.length e4]; exact z2, z _ F2 _ (s2.trans E s3) Rep.non⟩
  · exact z.elim
def tExt (i : Nat) (u : LTA) : LTE := fun ρ Q => isOwn ρ i = true ∧ u ρ fun ws ρ1 => match ws, ρ1[i]? with
  | [w], some (.own l) => (match val ρ1 w with
    | .lst l2 => (fitI i w = true ∧ l.length + l2.length ≤ sizeLine) ∧ Q (.dat .non) ((frzs [w] ρ1).set i (.own (l ++ l2)))
    | _ => False)
  | _, _ => False
theorem de_extend {i : Nat} (ho : PE X o (tVar i)) (ha : DA X B (e :: es) u)
    (hbase : attributeBase o "extend" X.env (eval o X.env) = eval o X.env := by rfl)
    (hfew : ((backTo cpos (starEach (e :: es) X.env)).all (fun x => !x.1) && (backToKw cpos (keywordEach [] X.env)).all (fun x => x.1.isSome)
      && decide ((e :: es).length + ([] : List Keyword).length + (if ([] : List Keyword).isEmpty then 0 else 1) < 30)) = true := by rfl)
    (hline : (apos.endLine == cpos.line) = true := by rfl) (hs : starEach (e :: es) X.env = (false, eval e X.env) :: starEach es X.env := by rfl) (hplain : (backTo cpos (starEach es X.env)).any (·.1) = false := by rfl) :
    DE X B (.Call (.Attribute o "extend" apos) (e :: es) [] cpos) (tExt i u) := by
  refine ⟨ha.hk, fun ρ Q Q' h q => ⟨q.1, ha.mono _ _ _ (fun ws ρ1 z => ?_) q.2⟩, pe_imp (pe_bm PySem.F.plainAttrs_list PySem.F.slot_list_extend PySem.F.type_list_extend mt_extend ho ha.pa hbase hfew hline hs hplain) ?_⟩
  · split at z
    · split at z
      · exact ⟨z.1, h _ _ z.2⟩
      · exact z
    · exact z
  rintro σ H Q ⟨F, ρ, E, q0, q⟩
  obtain ⟨p, ep, ty⟩ := own_slot E q0
  refine ⟨.ref p, ep, ha.hk ▸ ty, F, ρ, E, ha.mono _ _ _ (fun ws ρ1 z => ?_) q⟩
  intro vs F1 H1 s1 rs
  split at z
  · rename_i w l el
    split at z
    · rename_i l2 el2
      obtain ⟨⟨z1, z2⟩, z⟩ := z
      have z1' : nz w = true ∧ isRef i w = false := by simpa [fitI] using z1
      cases rs with
      | @cons _ _ v vs a rs n =>
        cases rs
        obtain ⟨F2, s2, q2⟩ := stp_frz E s1 a z1'.1
        rw [el2] at q2
        have e1 := frzs_keep (ws := [w]) el (by simpa using z1'.2)
        obtain ⟨p', us, e2, e3, e4, e5, e6⟩ := s2.env.own i l e1
        rw [ep] at e2; cases e2
        cases q2 with
        | @lst b zs _ hf hb rb =>
          have s3 := stp_mut (vs' := us ++ zs) s2.env e1 ep (Reps.append e4 rb)
          exact ⟨p, b, us, zs, rfl, rfl, e3, hb, by rw [Reps.length e4, Reps.length rb]; exact z2, z _ F2 _ (s2.trans E s3) Rep.non⟩
    · exact z.elim
  · exact z.elim
def tPop (i : Nat) (u : LTA) : LTE := fun ρ Q => isOwn ρ i = true ∧ u ρ fun ws ρ1 => match ws.map (val ρ1), ρ1[i]? with
  | [.int z], some (.own l) => (match ixN l.length z with
    | some j => (match l[j]? with
      | some d => BndI z ∧ Q (.dat d) (ρ1.set i (.own (l.eraseIdx j)))
      | none => False)
    | none => False)
  | _, _ => False
theorem Reps.erase {K : PySem.W.Frag} : ∀ {ds : List D} {vs : List V} (i : Nat), Reps K F H vs ds → Reps K F H (vs.eraseIdx i) (ds.eraseIdx i)
  | [], _, _, .nil => .nil
  | _ :: _, _, 0, .cons _ r => r
  | _ :: _, _, i + 1, .cons q r => .cons q (Reps.erase i r)
theorem de_pop {i : Nat} (ho : PE X o (tVar i)) (ha : DA X B (e :: es) u)
    (hbase : attributeBase o "pop" X.env (eval o X.env) = eval o X.env := by rfl)
    (hfew : ((backTo cpos (starEach (e :: es) X.env)).all (fun x => !x.1) && (backToKw cpos (keywordEach [] X.env)).all (fun x => x.1.isSome)
      && decide ((e :: es).length + ([] : List Keyword).length + (if ([] : List Keyword).isEmpty then 0 else 1) < 30)) = true := by rfl)
    (hline : (apos.endLine == cpos.line) = true := by rfl) (hs : starEach (e :: es) X.env = (false, eval e X.env) :: starEach es X.env := by rfl) (hplain : (backTo cpos (starEach es X.env)).any (·.1) = false := by rfl) :
    DE X B (.Call (.Attribute o "pop" apos) (e :: es) [] cpos) (tPop i u) := by
  refine ⟨ha.hk, fun ρ Q Q' h q => ⟨q.1, ha.mono _ _ _ (fun ws ρ1 z => ?_) q.2⟩, pe_imp (pe_bm PySem.F.plainAttrs_list PySem.F.slot_list_pop PySem.F.type_list_pop mt_popAt ho ha.pa hbase hfew hline hs hplain) ?_⟩
  · split at z
    · split at z
      · split at z
        · exact ⟨z.1, h _ _ z.2⟩
        · exact z
      · exact z
    · exact z
  rintro σ H Q ⟨F, ρ, E, q0, q⟩
  obtain ⟨p, ep, ty⟩ := own_slot E q0
  refine ⟨.ref p, ep, ha.hk ▸ ty, F, ρ, E, ha.mono _ _ _ (fun ws ρ1 z => ?_) q⟩
  intro vs F1 H1 s1 rs
  split at z
  · rename_i k l ek el
    split at z
    · rename_i j ej
      split at z
      · rename_i d ed
        rw [RWs.int1 s1.env rs ek]
        obtain ⟨p', us, e2, e3, e4, e5, e6⟩ := s1.env.own i l el
        rw [ep] at e2; cases e2
        obtain ⟨v, hv, rv⟩ := Reps.get e4 ed
        obtain ⟨hj, _⟩ := ixN_seq ej
        have s3 := stp_mut (vs' := us.eraseIdx j) s1.env el ep (Reps.erase j e4)
        exact ⟨p, us, k, j, v, rfl, rfl, e3, by have := z.1.1; omega, by have := z.1.2; omega, by rw [Reps.length e4]; exact hj, hv, z.2 _ F1 _ (s1.trans E s3) (Rep.stp s1.env rv s3)⟩
      · exact z.elim
    · exact z.elim
  · exact z.elim

def zipD : List D → List D → List D
  | a :: as, b :: bs => .tup [a, b] :: zipD as bs
  | _, _ => []
theorem zipD_length : ∀ as bs : List D, (zipD as bs).length = min as.length bs.length
  | [], _ => by simp [zipD]
  | _ :: _, [] => by simp [zipD]
  | a :: as, b :: bs => by simp [zipD, zipD_length as bs]
theorem zipD_get : ∀ (as bs : List D) (i : Nat) {a b : D}, as[i]? = some a → bs[i]? = some b → (zipD as bs)[i]? = some (.tup [a, b])
  | [], _, _, _, _, h, _ => by simp at h
  | _ :: _, [], _, _, _, _, h => by simp at h
  | _ :: _, _ :: _, 0, _, _, h1, h2 => by simp at h1 h2; subst h1 h2; rfl
  | _ :: as, _ :: bs, i + 1, _, _, h1, h2 => zipD_get as bs i (by simpa using h1) (by simpa using h2)
def tZip (u : LTA) : LTI := fun ρ Q => u ρ fun ws ρ1 => match ws.map (val ρ1) with
  | [.tup as, .tup bs] => ws.all nz = true ∧ Q (zipD as bs) (frzs ws ρ1)
  | [.lst as, .lst bs] => ws.all nz = true ∧ Q (zipD as bs) (frzs ws ρ1)
  | _ => False
theorem di_zip {e2 : Expr} {p tpos : Pos} {elts : List Expr} {kk : Nat} (hg : Gl X "zip") (hm : X.mg "zip" = none) (ha : DA X B [e, e2] u)
    (hs : starEach [e, e2] X.env = (false, eval e X.env) :: starEach [e2] X.env := by rfl) (hpl : (backTo pos (starEach [e2] X.env)).any (·.1) = false := by rfl) :
    DI X B (.Tuple elts kk tpos) (.Call (.Name "zip" p) [e, e2] [] pos) (tZip u) := by
  refine ⟨ha.hk, fun ρ Q Q' h q => ha.mono _ _ _ (fun ws ρ1 z => ?_) q, pi_imp (RZ.pi_zipA hg hm ha.pa hs hpl) ?_⟩
  · split at z
    · exact ⟨z.1, h _ _ z.2⟩
    · exact ⟨z.1, h _ _ z.2⟩
    · exact z
  rintro σ H R ⟨F, ρ, E, q⟩
  refine ⟨F, ρ, E, ha.mono _ _ _ (fun ws ρ1 z => ?_) q⟩
  intro vs F1 H1 s1 rs
  have keyT : ∀ {as bs : List D} {a b : Addr} {xs ys : List V} {F2 : Addr → Prop} {ρ2 : Rho}, EnvD B F2 ρ2 σ H1 → SqT B.K H1 a xs → Reps B.K F2 H1 xs as → SqT B.K H1 b ys → Reps B.K F2 H1 ys bs → Wk B σ F2 ρ2 H1 (RZ.ItzT X.K a b) (zipD as bs) := fun {as bs a b xs ys F2 ρ2} E2 hx rx hy ry i σ3 F3 ρ3 H3 r3 => by
    have hx3 : SqT X.K H3 a xs := ha.hk ▸ SqT.keep hx r3.ext E2.ownL
    have hy3 : SqT X.K H3 b ys := ha.hk ▸ SqT.keep hy r3.ext E2.ownL
    have rx3 := Reps.run E2 rx r3
    have ry3 := Reps.run E2 ry r3
    have l1 := Reps.length rx
    have l2 := Reps.length ry
    rw [zipD_length]
    refine ⟨fun hi => ⟨⟨xs, ys, xs[i]'(by omega), ys[i]'(by omega), hx3, hy3, by simp, by simp⟩, fun x H4 hyl => ?_⟩, fun hi => ⟨xs, ys, hx3, hy3, by omega⟩⟩
    obtain ⟨T, x1, y1, rfl, hT, rfl, f1, f2⟩ := hyl
    obtain ⟨d1, g1, g2⟩ := Reps.getV rx3 (f1 xs hx3)
    obtain ⟨d2, g3, g4⟩ := Reps.getV ry3 (f2 ys hy3)
    have n := new_tup r3.env hT (.cons g2 (.cons g4 .nil))
    exact ⟨_, F3, zipD_get _ _ i g1 g3, n.1, n.2⟩
  have keyL : ∀ {as bs : List D} {a b : Addr} {xs ys : List V} {F2 : Addr → Prop} {ρ2 : Rho}, EnvD B F2 ρ2 σ H1 → F2 a → H1 a = some (.lst xs) → Reps B.K F2 H1 xs as → F2 b → H1 b = some (.lst ys) → Reps B.K F2 H1 ys bs → Wk B σ F2 ρ2 H1 (Itz X.K a b) (zipD as bs) := fun {as bs a b xs ys F2 ρ2} E2 fa hx rx fb hy ry i σ3 F3 ρ3 H3 r3 => by
    have hx3 : SqL X.K H3 a xs := SqL.of (r3.ext.keep _ _ hx (E2.ownF _ fa) fun ps q => by cases q)
    have hy3 : SqL X.K H3 b ys := SqL.of (r3.ext.keep _ _ hy (E2.ownF _ fb) fun ps q => by cases q)
    have rx3 := Reps.run E2 rx r3
    have ry3 := Reps.run E2 ry r3
    have l1 := Reps.length rx
    have l2 := Reps.length ry
    rw [zipD_length]
    refine ⟨fun hi => ⟨⟨xs, ys, xs[i]'(by omega), ys[i]'(by omega), hx3, hy3, by simp, by simp⟩, fun x H4 hyl => ?_⟩, fun hi => ⟨xs, ys, hx3, hy3, by omega⟩⟩
    obtain ⟨T, x1, y1, rfl, hT, rfl, f1, f2⟩ := hyl
    obtain ⟨d1, g1, g2⟩ := Reps.getV rx3 (f1 xs hx3)
    obtain ⟨d2, g3, g4⟩ := Reps.getV ry3 (f2 ys hy3)
    have n := new_tup r3.env hT (.cons g2 (.cons g4 .nil))
    exact ⟨_, F3, zipD_get _ _ i g1 g3, n.1, n.2⟩
  split at z
  · rename_i as bs ev
    obtain ⟨F2, s2, q2⟩ := settle E s1 rs z.1
    rw [ev] at q2
    cases q2 with
    | cons qa q2 => cases q2 with
      | cons qb q2 =>
        cases q2
        cases qa with
        | tup h1 r1 => cases qb with
          | tup h2 r2 => exact ⟨_, _, _, _, rfl, .inr ⟨ha.hk ▸ h1, ha.hk ▸ h2, z.2 _ F2 H1 s2 (keyT s2.env h1 r1 h2 r2)⟩⟩
  · rename_i as bs ev
    obtain ⟨F2, s2, q2⟩ := settle E s1 rs z.1
    rw [ev] at q2
    cases q2 with
    | cons qa q2 => cases q2 with
      | cons qb q2 =>
        cases q2
        cases qa with
        | lst f1 h1 r1 => cases qb with
          | lst f2 h2 r2 => exact ⟨_, _, _, _, rfl, .inl ⟨SqL.of h1, SqL.of h2, z.2 _ F2 H1 s2 (keyL s2.env f1 h1 r1 f2 h2 r2)⟩⟩
  · exact z.elim
def tRng3 (u : LTA) : LTI := fun ρ Q => u ρ fun ws ρ1 => match ws.map (val ρ1) with
  | [.int i, .int j, .int c] => ∃ n, RgC i j c n ∧ Q ((List.range n).map fun k : Nat => .int (i + k * c)) ρ1
  | _ => False
theorem di_range3 {a b c : Expr} {p : Pos} (hg : Gl X "range") (hm : X.mg "range" = none) (ha : DA X B [a, b, c] u)
    (hs : starEach [a, b, c] X.env = (false, eval a X.env) :: starEach [b, c] X.env := by rfl) (hpl : (backTo pos (starEach [b, c] X.env)).any (·.1) = false := by rfl) :
    DI X B tg (.Call (.Name "range" p) [a, b, c] [] pos) (tRng3 u) := by
  refine ⟨ha.hk, fun ρ Q Q' h q => ha.mono _ _ _ (fun ws ρ1 z => ?_) q, pi_imp (pi_range3 hg hm ha.pa hs hpl) ?_⟩
  · split at z
    · obtain ⟨n, z1, z2⟩ := z; exact ⟨n, z1, h _ _ z2⟩
    · exact z
  rintro σ H R ⟨F, ρ, E, q⟩
  refine ⟨F, ρ, E, ha.mono _ _ _ (fun ws ρ1 z => ?_) q⟩
  intro vs F1 H1 s1 rs
  split at z
  · rename_i i j c ej
    obtain ⟨n, z1, z2⟩ := z
    refine ⟨i, j, c, n, RWs.int3 s1.env rs ej, z1, z2 _ F1 H1 s1 fun k σ2 F2 ρ2 H2 r => ?_⟩
    refine ⟨fun hi => ?_, fun hi => (show n ≤ k by simpa using hi)⟩
    have hi : k < n := by simpa using hi
    refine ⟨hi, fun x H3 hy => ?_⟩
    obtain ⟨e1, e2⟩ := hy
    subst e1 e2
    exact ⟨.int (i + k * c), F2, by simp [hi], .refl r.env, Rep.int _⟩
  · exact z.elim

def RgB (a b : Int) : Prop := BndI a ∧ BndI b ∧ (b - a).toNat ≤ 2 ^ 24
def rngD (a b : Int) : List D := (List.range (b - a).toNat).map fun k : Nat => .int (a + k)
theorem reps_rng {K : PySem.W.Frag} (a b : Int) : Reps K F H (rgV a b) (rngD a b) := by
  have h : ∀ l : List Nat, Reps K F H (l.map fun i => V.int (a + (i : Nat))) (l.map fun k : Nat => D.int (a + k)) := fun l => by
    induction l with
    | nil => exact .nil
    | cons x l ih => exact .cons (Rep.int _) ih
  exact h _
def tLRg1 (t : LTE) : LTE := fun ρ Q => t ρ fun w ρ1 => match val ρ1 w with
  | .int n => RgB 0 n ∧ Q (.new (rngD 0 n)) ρ1
  | _ => False
theorem de_listRg1 {a : Expr} {p p2 : Pos} {pos2 : Pos} (hc : X.calm = true) (hg : Gl X "list") (hm : X.mg "list" = none) (hg2 : Gl X "range") (hm2 : X.mg "range" = none) (ha : DE X B a t)
    (na : starEach [a] X.env = (false, eval a X.env) :: starEach [] X.env := by rfl)
    (na2 : starEach [.Call (.Name "range" p2) [a] [] pos2] X.env = (false, eval (.Call (.Name "range" p2) [a] [] pos2) X.env) :: starEach [] X.env := by rfl) : DE X B (.Call (.Name "list" p) [.Call (.Name "range" p2) [a] [] pos2] [] pos) (tLRg1 t) := by
  refine ⟨ha.hk, fun ρ Q Q' h q => ha.mono _ _ _ (fun w ρ1 z => ?_) q, pe_imp (pe_listRg hc hg hm (prg_1 hg2 hm2 ha.pe na) na2) ?_⟩
  · split at z
    · exact ⟨z.1, h _ _ z.2⟩
    · exact z
  rintro σ H Q ⟨F, ρ, E, q⟩
  refine ⟨F, ρ, E, ha.mono _ _ _ (fun w ρ1 z => ?_) q⟩
  intro v F1 H1 s1 r1
  split at z
  · rename_i n en
    refine ⟨n, RW.int s1.env r1 en, ⟨by omega, by omega, z.1.2.1.1, z.1.2.1.2, z.1.2.2⟩, fun p hp => ?_⟩
    have nn := new_lst s1.env hp (reps_rng 0 n)
    exact z.2 _ F1 _ (s1.trans E nn.1) (RW.back nn.2 s1.ext.there)
  · exact z.elim
def tLRg2 (t t' : LTE) : LTE := fun ρ Q => t ρ fun w ρ1 => t' ρ1 fun w' ρ2 => match val ρ2 w, val ρ2 w' with
  | .int a, .int b => RgB a b ∧ Q (.new (rngD a b)) ρ2
  | _, _ => False
theorem de_listRg2 {a b : Expr} {t' : LTE} {p p2 : Pos} {pos2 : Pos} (hc : X.calm = true) (hg : Gl X "list") (hm : X.mg "list" = none) (hg2 : Gl X "range") (hm2 : X.mg "range" = none) (ha : DE X B a t) (hb : DE X B b t')
    (na : starEach [a, b] X.env = (false, eval a X.env) :: starEach [b] X.env := by rfl) (nb : starEach [b] X.env = (false, eval b X.env) :: starEach [] X.env := by rfl) (hp : (backTo pos2 (starEach [b] X.env)).any (·.1) = false := by rfl)
    (na2 : starEach [.Call (.Name "range" p2) [a, b] [] pos2] X.env = (false, eval (.Call (.Name "range" p2) [a, b] [] pos2) X.env) :: starEach [] X.env := by rfl) : DE X B (.Call (.Name "list" p) [.Call (.Name "range" p2) [a, b] [] pos2] [] pos) (tLRg2 t t') := by
  refine ⟨ha.hk, fun ρ Q Q' h q => ha.mono _ _ _ (fun w ρ1 z => hb.mono _ _ _ (fun w' ρ2 z2 => ?_) z) q, pe_imp (pe_listRg hc hg hm (prg_2 hg2 hm2 ha.pe hb.pe na nb hp) na2) ?_⟩
  · split at z2
    · exact ⟨z2.1, h _ _ z2.2⟩
    · exact z2
  rintro σ H Q ⟨F, ρ, E, q⟩
  refine ⟨F, ρ, E, ha.mono _ _ _ (fun w ρ1 z => ?_) q⟩
  intro v F1 H1 s1 r1
  refine ⟨F1, ρ1, s1.env, hb.mono _ _ _ (fun w' ρ2 z2 => ?_) z⟩
  intro v2 F2 H2 s2 r2
  have s12 := s1.trans E s2
  split at z2
  · rename_i i j ei ej
    refine ⟨i, j, RW.int s2.env (RW.stp s1.env r1 s2) ei, RW.int s2.env r2 ej, ⟨z2.1.1.1, z2.1.1.2, z2.1.2.1.1, z2.1.2.1.2, z2.1.2.2⟩, fun p hp => ?_⟩
    have nn := new_lst s2.env hp (reps_rng i j)
    exact z2.2 _ F2 _ (s12.trans E nn.1) (RW.back nn.2 s12.ext.there)
  · exact z2.elim

def gSrtR (ns : List Int) (Q : W → Prop) : Prop := Q (.new ((srtI ns).reverse.map .int))
theorem CallRK.or {f : Value} {ks : List Str} {r r' : List V → List V → Hp → VK → Prop} (h : CallRK X f ks r) (h' : CallRK X f ks r') : CallRK X f ks (fun xs zs H Q => r xs zs H Q ∨ r' xs zs H Q) :=
  fun pins s σ H xs zs us ws Q I a b q => q.elim (h pins s σ H xs zs us ws Q I a b) (h' pins s σ H xs zs us ws Q I a b)
theorem de_sortedRev {p : Pos} {kp : Pos} {j : Nat} {cp : Pos} (hg : Gl X "sorted") (hm : X.mg "sorted" = none) (ha : DA X B (e :: es) u)
    (he : backTo pos (starEach (e :: es) X.env) = (false, eval e X.env) :: backTo pos (starEach es X.env) := by rfl) (hpl : (backTo pos (starEach (e :: es) X.env)).any (·.1) = false := by rfl) :
    DE X B (.Call (.Name "sorted" p) (e :: es) [⟨some "reverse", .Constant (.bool true) j cp, kp⟩] pos) (tCD (rdNs gSrtR) u) := by
  have m : MonoC (rdNs gSrtR) := fun l Q Q' h q => by
    unfold rdNs at q ⊢
    split at q
    · split at q
      · rename_i e; exact h _ q
      · exact q
    · exact q
  refine ⟨ha.hk, tCD_mono m ha.mono, pe_imp (pe_callBK (CallRK.or (cr_sortedRev (b := true)) (cr_sortedTRev (b := true))) hg hm PyProof.Rows.boot_sorted ha.pa (pk_cons pe_bl pk_nil) (by decide) (by decide) he hpl) ?_⟩
  rintro σ H Q ⟨F, ρ, E, q⟩
  refine ⟨F, ρ, E, ha.mono _ _ _ (fun ws ρ1 z => ?_) q⟩
  intro vs F1 H1 s1 rs
  unfold rdNs at z
  split at z
  · rename_i d ed
    obtain ⟨w, v, rfl, rfl, r, ed⟩ := RWs.one rs ed
    split at z
    · rename_i ns en
      obtain ⟨a, e1, h1⟩ := RW.seqI s1.env r (ed ▸ en)
      subst e1
      have fin : ∀ (ns' : List Int) (p : Addr), ns'.Perm ns → OrdB true ns' → H1 p = none → Q (.ref p) (upd H1 p (.lst (ns'.map V.int))) := fun ns' p h2 h3 hp => by
        rw [srt_rev h2 h3]
        have n := new_lstI (ns := (srtI ns).reverse) s1.env hp
        exact z _ F1 _ (s1.trans E n.1) (RW.back n.2 s1.ext.there)
      rcases h1 with h1 | h1
      · exact .inl ⟨a, ns, rfl, rfl, ha.hk ▸ h1, fin⟩
      · exact .inr ⟨a, ns, rfl, rfl, ha.hk ▸ h1, fin⟩
    · exact z.elim
  · exact z.elim
end
end L3

set_option Elab.async false
set_option linter.all false
set_option maxRecDepth 100000
set_option maxHeartbeats 2000000
namespace L3
open PySem PySem.Spec PyProof.Rows L2
abbrev rdSub : Rd2 := rdI0 fun i j => .int (i - j)
abbrev rdFdiv : Rd2 := rdI CDivW fun i j => .int (i / j)
abbrev rdMod : Rd2 := rdI (fun _ j => 0 < j) fun i j => .int (i % j)
abbrev rdPow : Rd2 := rdI CPowW fun i j => .int (i ^ j.toNat)
abbrev rdLt : Rd2 := rdI0 fun i j => .bl (decide (i < j))
abbrev rdLe : Rd2 := rdI0 fun i j => .bl (decide (i ≤ j))
abbrev rdGt : Rd2 := rdI0 fun i j => .bl (decide (j < i))
abbrev rdGe : Rd2 := rdI0 fun i j => .bl (decide (j ≤ i))

/-- a def of the module keeps its promise, by its name -/
structure GF (P0 : Program) (w : World) (K : PySem.W.Frag) (mg : Str → Option Value) (base : Heap) (T : List (Addr × Option Str)) (k n : Nat) (x : Str) (P : Prm) (dd : List D) : Prop where
  ex : ∃ (f : Addr) (fd : FuncData) (ps : List Str) (dvs : List V) (ds : List Value), FnOk P0 w K mg base CX0 k f fd ps (toSp K T n P) ∧ mg x = some (.ref f) ∧ PySem.W.keepIn K (.ref f) = true ∧ Binds K fd ps ds ∧ Vals dvs ds ∧ ∀ F H, Reps K F H dvs dd
  pr : PrmOk n P
structure GM (P0 : Program) (w : World) (K : PySem.W.Frag) (mg : Str → Option Value) (base : Heap) (T : List (Addr × Option Str)) (k n : Nat) (x : Str) (P : PrmM) : Prop where
  ex : ∃ (f : Addr) (fd : FuncData) (ps : List Str), FnOk P0 w K mg base CX0 k f fd ps (toSpM K T n P) ∧ mg x = some (.ref f) ∧ PySem.W.keepIn K (.ref f) = true ∧ Binds K fd ps []
  pr : PrmMOk n P
section
variable {X : Cx} {B : Bg} {k k' n : Nat} {x : Str} {p pos : Pos} {e : Expr} {es : List Expr} {u : LTA} {T : List (Addr × Option Str)}
theorem de_gf {P : Prm} {dd : List D} (G : GF X.prog X.w X.K X.mg X.base T k n x P dd) (hT : B.T = T) (hr : Room k' X.A) (hl : k ≤ k') (hg : Gl X x) (ha : DA X B (e :: es) u)
    (hdb : (x == ("__debug__" : Str)) = false := by decide) (he : starEach (e :: es) X.env = (false, eval e X.env) :: starEach es X.env := by rfl) (hpl : (backTo pos (starEach es X.env)).any (·.1) = false := by rfl) :
    DE X B (.Call (.Name x p) (e :: es) [] pos) (tCallL P dd u) := by
  obtain ⟨⟨f, fd, ps, dvs, ds, h1, h2, h3, h4, h5, h6⟩, hP⟩ := G
  exact de_callD h1 hP hT (hr.mono hl) hg h2 h3 h4 h5 h6 ha hdb he hpl
theorem de_gm {P : PrmM} (G : GM X.prog X.w X.K X.mg X.base T k n x P) (hT : B.T = T) (hr : Room k' X.A) (hl : k ≤ k') (hg : Gl X x) (ha : DA X B (e :: es) u)
    (hdb : (x == ("__debug__" : Str)) = false := by decide) (he : starEach (e :: es) X.env = (false, eval e X.env) :: starEach es X.env := by rfl) (hpl : (backTo pos (starEach es X.env)).any (·.1) = false := by rfl) :
    DE X B (.Call (.Name x p) (e :: es) [] pos) (tCallM P u) := by
  obtain ⟨⟨f, fd, ps, h1, h2, h3, h4⟩, hP⟩ := G
  exact de_callM h1 hP hT (hr.mono hl) hg h2 h3 h4 ha hdb he hpl
/-- two facts of room -/
theorem room64 {A : Around} (h : Room k A) : A.units + 64 < cLine := by have := h.un; omega
theorem room65 {A : Around} (h : Room k A) : A.units + 65 < cLine := by have := h.un; omega
end
end L3

set_option Elab.async false
set_option linter.all false
set_option maxRecDepth 100000
set_option maxHeartbeats 4000000
namespace L3
open PySem PySem.Spec PyProof.Rows L2
/-- the scope of the generator's code: one name, no cells -/
abbrev GScope := GxR.GenS
/-- the first number other than 0 -/
def nzI (ns : List Int) (d : D) : D := match ns.find? (fun n => n != 0) with
  | some n => .int n
  | none => d
/-- the int at place i -/
def intAt (ns : List Int) (i : Nat) : Int := ns.getD i 0
theorem pass_first (ns : List Int) (pz : Nat → Bool) (hp : ∀ i, i < ns.length → pz i = (intAt ns i != 0)) : ∀ m i, ns.length - i = m → i ≤ ns.length →
    (passing pz ns.length i = [] ∧ (ns.drop i).find? (fun n => n != 0) = none) ∨ ∃ j r, passing pz ns.length i = j :: r ∧ (ns.drop i).find? (fun n => n != 0) = some (intAt ns j)
  | 0, i, hm, hi => by
    have e : i = ns.length := by omega
    subst e
    exact .inl ⟨passing_end pz _, by rw [List.drop_length]; rfl⟩
  | m + 1, i, hm, hi => by
    have hlt : i < ns.length := by omega
    have ed : ns.drop i = intAt ns i :: ns.drop (i + 1) := by
      rw [List.drop_eq_getElem_cons hlt]
      unfold intAt
      rw [List.getD_eq_getElem?_getD, List.getElem?_eq_getElem hlt]; rfl
    rw [ed]
    cases hz : pz i with
    | true =>
      refine .inr ⟨i, passing pz ns.length (i + 1), ?_, ?_⟩
      · unfold passing
        rw [range_drop hlt, List.filter_cons_of_pos hz]
      · rw [List.find?_cons_of_pos (by rw [← hp i hlt]; exact hz)]
    | false =>
      rw [passing_false hlt hz, List.find?_cons_of_neg (by rw [← hp i hlt, hz]; exact Bool.false_ne_true)]
      exact pass_first ns pz hp m (i + 1) (by omega) hlt
section
variable {X : Cx} {pins : List (Addr × Obj)} {σ : L2.St} {H : Hp} {s : Shared}
/-- next(g, d) of a generator that is walked -/
theorem call_nextG {P : Program} {w : World} {A : Around} {E : Value → Shared → Prop} {s : Shared} {g : Addr} {fp wr : List Addr} {G : Array GenState → Array GenState → Prop} {n : Nat} {F : Nat → Value → Prop} {St : Nat → Shared → Prop} {d : Value} {Q : Value → Shared → Prop}
    (W : WalksS P w A.in1 g fp wr G n F St) (hst : St 0 s) (hT : s.TypeIs (.ref g) "generator") (h1 : 0 < n → ∀ v s', F 0 v → Moved wr G s s' → Q v s') (h0 : n = 0 → ∀ s', Moved wr G s s' → Q d s') : wpAny (model P w) A (call (.builtin "next") [.ref g, d]) Q E s := by
  refine Calls.call_function_entry (by decide +kernel) (by decide +kernel) PySem.W.kdk_entry_next (by unfold argsOk; kernel_rfl) ?_
  unfold Builtin.«next»
  refine wpAny_bind (m := someArgs "next" 1 2 _) (wpAny_of_eq (a := [Value.ref g, d]) (by first | rfl | kernel_rfl!) ?_)
  dsimp only
  refine wpAny_bind (wpAny_specialOf (name := Str.ofString "__next__") hT slot_gen_next.lookup ?_)
  refine wpAny_ite_split (fun hab => absurd hab (by decide)) (fun _ => ?_)
  by_cases hn : 0 < n
  · exact wpAny_bind (W.item 0 s _ _ hn hst fun v s' hv _ hm => wpAny_pure ⟨_, rfl, h1 hn v s' hv hm⟩)
  · have e : n = 0 := by omega
    subst e
    exact wpAny_bind (W.done s _ _ hst fun s' hm => wpAny_pure ⟨_, rfl, h0 rfl s' hm⟩)
/-- the generator g over the numbers other than 0 among ns, ready to be walked, in the state s5; H1: what was held before -/
def ReadyZ (X : Cx) (pins : List (Addr × Obj)) (σ : L2.St) (H1 : Hp) (P : Addr) (ns : List Int) (pz : Nat → Bool) (g : Addr) (s5 : Shared) : Prop :=
  ∃ (fp wr : List Addr) (G : Array GenState → Array GenState → Prop) (F : Nat → Value → Prop) (St : Nat → Shared → Prop),
    WalksS X.prog X.w X.A.in1 g fp wr G (passing pz ns.length 0).length F St ∧ St 0 s5 ∧ (∀ i s9, St i s9 → s9.TypeIs (.ref g) "generator") ∧
    (∀ i, i < ns.length → pz i = (intAt ns i != 0)) ∧ (∀ j v, F j v → ∃ (i : Nat) (t : Tok), (passing pz ns.length 0)[j]? = some i ∧ v = .int (intAt ns i) t) ∧
    ∀ s', Moved wr G s5 s' → ∃ H2, GxR.Tabbed P H1 H2 ∧ Inv X pins σ H2 s'
theorem gen_tupZ {c P : Addr} {iter : Expr} {x : Str} {px gpos p1 p2 p3 p4 : Pos} {j : Nat} {scope : Scope} {te : TE} {k : Nat} {Q' : Value → Shared → Prop} {R : List Int → Hp → Prop}
    (hr : Room k X.A) (TB : GxR.TabB X.base X.mg c P) (hcode : X.env.code = .ref c) (S : GxR.GenS X.env scope x) (hi : PE X iter te) (hdb : (x == ("__debug__" : Str)) = false)
    (hs : ∀ v, genFold iter X.env v = pure v) (I : Inv X pins σ H s) (h : te σ H fun v H1 => ∃ (a : Addr) (ns : List Int), v = .ref a ∧ SqT X.K H1 a (ns.map V.int) ∧ GxR.TabG H1 P ∧ R ns H1)
    (hQ : ∀ ns pz H1 g s5, R ns H1 → ReadyZ X pins σ H1 P ns pz g s5 → Q' (.ref g) s5) :
    wpAny (model X.prog X.w) X.A (eval (.GeneratorExp (.Name x p1) [⟨.Name x px, iter, [.Compare (.Name x p2) [.NotEq] [.Constant (.int 0) j p3] p4], 0⟩] scope gpos) X.env) Q' X.xe s := by
  refine wpAny_GeneratorExp_walksQ hr.hd S.co (closure_ok S.free) S.cell S.dot S.loc S.kind (by have := hr.dp; omega) ?_ hs
  refine thn (hi.run pins s σ H _ I h) fun xv s1 ⟨v, H1, I1, r1, q1⟩ => ?_
  obtain ⟨yl, ns, rfl, hyl, ⟨ps, hP, ht⟩, q1⟩ := q1
  obtain rfl : xv = Value.ref yl := r1
  obtain ⟨its, rv, hl, hz⟩ := I1.tuple hyl
  have hIL : s1.heap.IsTuple yl its.toArray := hl
  have hlen : its.length = ns.length := by rw [← rv.length, List.length_map]
  have hat : ∀ (i : Nat) (v : Value), its.toArray[i]? = some v → i < ns.length ∧ ∃ u : Tok, v = .int (intAt ns i) u := fun i v hv => by
    have hv2 : its[i]? = some v := by simpa using hv
    have hi2 : i < its.length := (List.getElem?_eq_some_iff.mp hv2).1
    have hi3 : i < ns.length := by omega
    have hb : (ns.map V.int)[i]? = some (V.int (intAt ns i)) := by
      unfold intAt
      rw [List.getElem?_map, List.getD_eq_getElem?_getD, List.getElem?_eq_getElem hi3]; rfl
    obtain ⟨u, hu, ru⟩ := rv.get hb
    rw [hv2] at hu
    cases hu
    exact ⟨hi3, ru⟩
  refine wpAny_pyIter_tuple hIL ?_
  generalize ho : ({ cls := .type "tuple_iterator", data := .fields #[.ref yl, .int 0 0] } : Obj) = o
  have hitr : (s1.heap.push o).IsTupleIter s1.heap.objs.size yl 0 := by
    subst ho
    exact ⟨_, Heap.get?_push_size _ rfl, rfl, rfl⟩
  have hylt : yl < s1.heap.objs.size := by
    obtain ⟨_, e, _⟩ := id hIL
    exact Heap.lt_size e
  have hPs : s1.heap.get? P = some { cls := .none, data := .fields ps } := I1.hok P _ hP
  have hPlt : P < s1.heap.objs.size := Heap.lt_size hPs
  have hP2 : (s1.heap.push o).get? P = some { cls := .none, data := .fields ps } := Heap.get?_push_of_some _ hPs
  have cd : PySem.W.CodeHd (s1.heap.push o) c P := TB.code.keeps fun b u e => Heap.get?_push_of_some _ (I1.bk b u e)
  have lim2 : (s1.heap.push o).NoLimit := I1.nolimit.push o
  have cont : ∀ (code : Value) (h3 : Heap) (tk : Nat) (ps' : Array Value), Heap.ExtBut P (s1.heap.push o) h3 → (s1.heap.push o).objs.size ≤ h3.objs.size → h3.get? P = some { cls := .none, data := .fields ps' } → (∃ more, ps' = ps ++ more) → TriplesOk ps'.toList →
      wpAny (model X.prog X.w) X.A (builtinsFor X.env.globals X.env.builtins) (fun bi s₄ =>
        ∃ Ia fp wr n₀ Pf St₀ pz F, Value.ref s1.heap.objs.size = .ref Ia ∧ (∀ A' : Around, A'.handled = none → Walks X.prog X.w A' Ia fp wr n₀ Pf St₀) ∧ St₀ 0 s₄.heap ∧ (∀ b ∈ fp, b < s₄.heap.objs.size) ∧ s₄.heap.NoLimit ∧ cStatics ∉ wr ∧
          (∀ href : Heap, (∀ b o, s₄.heap.get? b = some o → href.get? b = some o) →
            QuietGen X.prog X.w (genEnv scope (cloFrom X.env.cells scope.names []) s₄.heap.objs.size code bi X.env) x [.Compare (.Name x p2) [.NotEq] [.Constant (.int 0) j p3] p4] (.Name x p1) (List.range s₄.heap.objs.size) wr Pf pz F href) ∧
          (∀ a h₅ tk gs, gs.bare = true → s₄.heap.objs.size < a → h₅.objs.size = a + 1 → (∀ b o, s₄.heap.get? b = some o → h₅.get? b = some o) →
            WalksS X.prog X.w X.A.in4 a (a :: s₄.heap.objs.size :: List.range s₄.heap.objs.size) (s₄.heap.objs.size :: wr) (GenOnlyQ s₄.gens.size) (passing pz n₀ 0).length
              (fun j y => ∃ i, (passing pz n₀ 0)[j]? = some i ∧ F i y) (GenAt X.prog X.w X.A.in4 a s₄.gens.size s₄.heap.objs.size (List.range s₄.heap.objs.size) wr pz n₀ F) →
            GenAt X.prog X.w X.A.in4 a s₄.gens.size s₄.heap.objs.size (List.range s₄.heap.objs.size) wr pz n₀ F 0 { s₄ with gens := s₄.gens.push gs, toks := tk, heap := h₅ } →
            Q' (.ref a) { s₄ with gens := s₄.gens.push gs, toks := tk, heap := h₅ })) X.xe { s1 with heap := h3, toks := tk } := by
    intro code h3 tk ps' hx hsz hP3 hmore ht3
    obtain ⟨bm, ob, e1, e2, e3, e4, e5, e6, e7, e8⟩ := TB.bm
    have hcP : cStatics ≠ P := fun e => by
      obtain ⟨_, hns, _⟩ := I1.nolimit
      obtain ⟨o', es, ep, ho, hd, _⟩ := hns
      rw [e, hPs] at ho
      cases ho
      cases hd
    have hcl : cStatics < s1.heap.objs.size := let ⟨_, hns, _⟩ := I1.nolimit; hns.lt
    have sz2 : (s1.heap.push o).objs.size = s1.heap.objs.size + 1 := Heap.size_push ..
    have keep3 : ∀ b u, b ≠ P → s1.heap.get? b = some u → h3.get? b = some u := fun b u hb e => hx b u hb (Heap.get?_push_of_some _ e)
    refine wpAny_builtinsFor (m := X.mg) (by rw [I1.ok.glob]; exact ((I1.mod.glob.keeps I1.bk).push o).extBut hx TB.gP) e1 e2 (keep3 _ _ e4 (I1.bk _ _ e5)) e6 e7 e8 ?_
    have hylP : yl ≠ P := fun z => by
      obtain ⟨_, e, hc1, _, hd1⟩ := id hIL
      rw [z, hPs] at e
      cases e
      cases hd1
    have hIL3 : h3.IsTuple yl its.toArray := by
      obtain ⟨ob, e, r⟩ := id hIL
      exact ⟨ob, keep3 _ _ hylP e, r⟩
    have hItr3 : h3.IsTupleIter s1.heap.objs.size yl 0 := hitr.at fun u e => hx _ u (Nat.ne_of_gt hPlt) e
    let pz : Nat → Bool := fun i => intAt ns i != 0
    refine ⟨s1.heap.objs.size, [s1.heap.objs.size, yl], [s1.heap.objs.size], its.toArray.size, (fun i v => its.toArray[i]? = some v), (fun i h => h.IsTupleIter s1.heap.objs.size yl i ∧ h.IsTuple yl its.toArray), pz,
      (fun i y => ∃ t : Tok, y = .int (intAt ns i) t), rfl, (fun A' hA => Walks.tuple hA _ _ (Nat.ne_of_lt hylt) _), ⟨hItr3, hIL3⟩, ?_, lim2.extBut hx hcP, ?_, ?_, ?_⟩
    · intro b hb
      rcases List.mem_cons.mp hb with z | z
      · rw [z]; show s1.heap.objs.size < h3.objs.size; omega
      · rcases List.mem_cons.mp z with z | z
        · rw [z]
          have e9 : s1.heap.objs.size ≤ h3.objs.size := by omega
          exact Nat.lt_of_lt_of_le hylt e9
        · cases z
    · intro z
      rcases List.mem_cons.mp z with z | z
      · exact Nat.ne_of_lt hcl z
      · cases z
    · intro href hhref
      refine ⟨fun A' E' i v s₂ m₂ hA hPv hn hm hk => ?_, fun A' E' i v s₂ m₂ hA hPv hp hn hm hk => ?_⟩
      · obtain ⟨hi3, u, rfl⟩ := hat i v hPv
        rw [List.forIn_cons]
        dsimp only
        rw [if_pos rfl]
        refine wpAny_bind (wpAny_bind (wpAny_isTrue_Compare1 (wpAny_Name (wpAny_loadName_local S.kind S.loc hn hm ?_) hdb)))
        refine wpAny_Constant_int ?_
        refine ne_int (wpAny_truthy_bool ?_)
        refine wpAny_pure ?_
        dsimp only
        rw [List.forIn_nil]
        refine wpAny_pure ⟨?_, ⟨_, _, rfl, fun _ _ e => e⟩⟩
        rfl
      · obtain ⟨hi3, u, rfl⟩ := hat i v hPv
        exact wpAny_Name (wpAny_loadName_local S.kind S.loc hn hm ⟨⟨u, rfl⟩, GxR.keeps_refl _⟩) hdb
    · intro g h5 tk5 gs hgb hag hsz5 hk5 W5 hgat
      have hn5 : its.toArray.size = ns.length := by rw [List.size_toArray, hlen]
      rw [hn5] at W5 hgat
      refine hQ ns pz H1 g _ q1 ⟨_, _, _, _, _, W5.in4_1, hgat, fun i s9 h9 => ?_, fun i _ => rfl, ?_, fun s' hm => ?_⟩
      · obtain ⟨hg9, _⟩ := h9
        exact hg9.typeIs
      · intro j v hv
        obtain ⟨i, hij, t, e⟩ := hv
        exact ⟨i, t, hij, e⟩
      · obtain ⟨more, em⟩ := hmore
        have nwr : ∀ b u, s1.heap.get? b = some u → b ∉ h3.objs.size :: [s1.heap.objs.size] := fun b u e hb => by
          have hl := Heap.lt_size e
          rcases List.mem_cons.mp hb with z | z
          · rw [z] at hl
            have h9 : (h3.objs.size : Nat) < s1.heap.objs.size := hl
            omega
          · rcases List.mem_cons.mp z with z | z
            · rw [z] at hl
              exact Nat.lt_irrefl _ hl
            · cases z
        have J := GxR.inv_tab (more := more) (h' := s'.heap) (g' := s'.gens) (d' := s'.drawn) (t' := s'.toks) I1 hP (fun b u hb e => hm.heap b u (nwr b u e) (hk5 b u (keep3 b u hb e)))
          (by rw [← em]; exact hm.heap P _ (nwr P _ hPs) (hk5 P _ hP3)) (AllBare.movedS (I1.bare.push hgb) hm)
        rw [GxR.sh_eta s1 s' hm.os] at J
        exact ⟨upd H1 P (.tbl (ps ++ more)), ⟨⟨ps ++ more, upd_same, by rw [← em]; exact ht3⟩, fun b hb => upd_ne hb⟩, J⟩

  refine ⟨lim2, ?_⟩
  cases hf : codeAmong gpos ps.toList with
  | none =>
    refine wpAny_genexprCodeX hcode (cd.code hP2 ht) (cd.tab hP2) hf fun c' h' tk hx hge hlt hco' _ htab' _ => ?_
    obtain ⟨o1, vs, f1, tf, fl, tg, inF, tx, tt, op, _, _, _, _, _, _, _, _, _, htr, _⟩ := hco'
    exact cont _ h' tk _ hx (Nat.le_trans hge (Nat.le_of_lt hlt)) htab'.2 ⟨_, rfl⟩ htr
  | some cv =>
    refine wpAny_genexprCode_hit hcode (cd.code hP2 ht) hf ?_
    exact cont cv (s1.heap.push o) s1.toks ps (Heap.ExtBut.refl _ _) (Nat.le_refl _) hP2 ⟨#[], by simp⟩ ht
/-- next(x for x in te if x != 0, i) -/
def nz1 (ns : List Int) (d : Int) : Int := (ns.find? (fun n => n != 0)).getD d
def tNextZ (K : PySem.W.Frag) (P : Addr) (te : TE) (d : Int) : TE := fun σ H Q => te σ H fun v H1 => ∃ (a : Addr) (ns : List Int), v = .ref a ∧ SqT K H1 a (ns.map V.int) ∧ GxR.TabG H1 P ∧ ∀ H2, GxR.Tabbed P H1 H2 → Q (.int (nz1 ns d)) H2
theorem pe_nextZ {c P : Addr} {iter : Expr} {x : Str} {px p pos gpos p1 p2 p3 p4 p5 : Pos} {j j2 : Nat} {d : Int} {scope : Scope} {te : TE} {k : Nat}
    (hr : Room k X.A) (hg : Gl X "next") (hm : X.mg "next" = none) (TB : GxR.TabB X.base X.mg c P) (hcode : X.env.code = .ref c) (S : GxR.GenS X.env scope x) (hi : PE X iter te) (hdb : (x == ("__debug__" : Str)) = false)
    (hs : ∀ v, genFold iter X.env v = pure v)
    (he : starEach [.GeneratorExp (.Name x p1) [⟨.Name x px, iter, [.Compare (.Name x p2) [.NotEq] [.Constant (.int 0) j p3] p4], 0⟩] scope gpos, .Constant (.int d) j2 p5] X.env = (false, eval (.GeneratorExp (.Name x p1) [⟨.Name x px, iter, [.Compare (.Name x p2) [.NotEq] [.Constant (.int 0) j p3] p4], 0⟩] scope gpos) X.env) :: (false, eval (.Constant (.int d) j2 p5) X.env) :: [] := by rfl) :
    PE X (.Call (.Name "next" p) [.GeneratorExp (.Name x p1) [⟨.Name x px, iter, [.Compare (.Name x p2) [.NotEq] [.Constant (.int 0) j p3] p4], 0⟩] scope gpos, .Constant (.int d) j2 p5] [] pos) (tNextZ X.K P te d) := by
  refine ⟨fun pins s σ H Q I h => ?_⟩
  refine wpAny_Call_Name_kw (ld_blt (u := .builtin "next") I hg hm (by decide +kernel) ?_)
  refine PyProof.Rows.callWith_builtin1 ?_ he (by rfl)
  rw [he]
  show wpAny _ _ (spliced ((false, eval (.GeneratorExp (.Name x p1) [⟨.Name x px, iter, [.Compare (.Name x p2) [.NotEq] [.Constant (.int 0) j p3] p4], 0⟩] scope gpos) X.env) :: (false, eval (.Constant (.int d) j2 p5) X.env) :: [])) _ _ s
  refine Calls.spliced_cons (gen_tupZ (R := fun ns H1 => ∀ H2, GxR.Tabbed P H1 H2 → Q (.int (nz1 ns d)) H2) hr TB hcode S hi hdb hs I h fun ns pz H1 g s5 hR hG => ?_)
  obtain ⟨fp, wr, G, F, St, W, hst, hT, hpz, hF, hI⟩ := hG
  refine Calls.spliced_cons (wpAny_Constant_int ?_)
  refine Calls.spliced_nil ?_
  have hst2 := W.frame 0 s5 s5.heap (s5.toks + 1) hst (Nat.le_succ _) fun b _ o e => e
  have mv : Moved wr G s5 { s5 with toks := s5.toks + 1 } := ⟨fun _ _ _ e => e, W.grefl _, rfl, rfl, Nat.le_succ _⟩
  refine call_nextG W hst2 (hT 0 _ hst2) (fun hn v s' hv hm => ?_) (fun hn s' hm => ?_)
  · obtain ⟨i, t, hi0, rfl⟩ := hF 0 v hv
    obtain ⟨H2, ht, J⟩ := hI s' (mv.trans W.gtrans hm)
    refine ⟨.int (nz1 ns d), H2, J, ?_, hR H2 ht⟩
    rcases pass_first ns pz hpz ns.length 0 rfl (Nat.zero_le _) with ⟨e, _⟩ | ⟨j', r, e, e2⟩
    · rw [e] at hi0; simp at hi0
    · rw [e] at hi0
      have : j' = i := by simpa using hi0
      subst this
      rw [List.drop_zero] at e2
      unfold nz1
      rw [e2]
      exact ⟨t, rfl⟩
  · obtain ⟨H2, ht, J⟩ := hI s' (mv.trans W.gtrans hm)
    refine ⟨.int (nz1 ns d), H2, J, ?_, hR H2 ht⟩
    rcases pass_first ns pz hpz ns.length 0 rfl (Nat.zero_le _) with ⟨e, e2⟩ | ⟨j', r, e, _⟩
    · rw [List.drop_zero] at e2
      unfold nz1
      rw [e2]
      exact ⟨_, rfl⟩
    · rw [e] at hn; simp at hn
end
section
variable {B : Bg} {F F' : Addr → Prop} {ρ ρ' : Rho} {σ : L2.St} {H H' : Hp}
/-- the table at P grows -/
theorem stp_tab {P : Addr} (E : EnvD B F ρ σ H) (hP : GxR.TabG H P) (hT : ∀ p ∈ B.T, p.1 = P → p.2 = none) (t : GxR.Tabbed P H H') : Stp B σ F ρ H F ρ H' := by
  obtain ⟨ps, e, _⟩ := hP
  refine stp_same E (fun b o h n => ?_) (fun b h => ?_) (fun p hp => ?_) (fun _ h => h) (fun _ h => .inl h) fun b h => ?_
  · rw [t.2 b (fun z => by rw [z, e] at h; cases h; exact n ps rfl)]; exact h
  · by_cases z : b = P
    · obtain ⟨qs, e2, _⟩ := t.1
      rw [z, e2]; exact fun y => nomatch y
    · rw [t.2 b z]; exact h
  · have h0 := E.tabs p hp
    by_cases z : p.1 = P
    · rw [hT p hp z, z]; exact t.1
    · revert h0
      cases p.2 with
      | none => exact fun ⟨qs, h1, h2⟩ => ⟨qs, by rw [t.2 _ z]; exact h1, h2⟩
      | some q => exact fun ⟨qs, h1, h2, h3⟩ => ⟨qs, by rw [t.2 _ z]; exact h1, h2, fun pos cv hc => let ⟨c, e1, e2⟩ := h3 pos cv hc; ⟨c, e1, by
          rw [t.2 c (fun z => by rw [z, e] at e2; cases e2)]
          exact e2⟩⟩
  · by_cases z : b = P
    · obtain ⟨qs, e2, _⟩ := t.1
      rw [z, e2]; exact fun y => nomatch y
    · rw [t.2 b z]; exact E.fh b h
end
section
variable {X : Cx} {B : Bg} {t : LTE}
/-- the ints of a tuple of ints -/
def tNextL (t : LTE) (d : Int) : LTE := fun ρ Q => t ρ fun w ρ1 => ∃ ns : List Int, val ρ1 w = .tup (ns.map D.int) ∧ Q (.dat (.int (nz1 ns d))) ρ1
theorem de_nextZ {c P : Addr} {iter : Expr} {x : Str} {px p pos gpos p1 p2 p3 p4 p5 : Pos} {j j2 : Nat} {d : Int} {scope : Scope} {k : Nat}
    (hr : Room k X.A) (hg : Gl X "next") (hm : X.mg "next" = none) (TB : GxR.TabB X.base X.mg c P) (hcode : X.env.code = .ref c) (hin : (P, none) ∈ B.T) (hT : ∀ p ∈ B.T, p.1 = P → p.2 = none) (S : GxR.GenS X.env scope x) (hi : DE X B iter t) (hdb : (x == ("__debug__" : Str)) = false := by decide)
    (hs : ∀ v, genFold iter X.env v = pure v := by intro v; rfl)
    (he : starEach [.GeneratorExp (.Name x p1) [⟨.Name x px, iter, [.Compare (.Name x p2) [.NotEq] [.Constant (.int 0) j p3] p4], 0⟩] scope gpos, .Constant (.int d) j2 p5] X.env = (false, eval (.GeneratorExp (.Name x p1) [⟨.Name x px, iter, [.Compare (.Name x p2) [.NotEq] [.Constant (.int 0) j p3] p4], 0⟩] scope gpos) X.env) :: (false, eval (.Constant (.int d) j2 p5) X.env) :: [] := by rfl) :
    DE X B (.Call (.Name "next" p) [.GeneratorExp (.Name x p1) [⟨.Name x px, iter, [.Compare (.Name x p2) [.NotEq] [.Constant (.int 0) j p3] p4], 0⟩] scope gpos, .Constant (.int d) j2 p5] [] pos) (tNextL t d) := by
  refine ⟨hi.hk, fun ρ Q Q' h q => hi.mono _ _ _ (fun w ρ1 ⟨ns, e, z⟩ => ⟨ns, e, h _ _ z⟩) q, pe_imp (pe_nextZ hr hg hm TB hcode S hi.pe hdb hs he) ?_⟩
  rintro σ H Q ⟨F, ρ, E, q⟩
  refine ⟨F, ρ, E, hi.mono _ _ _ (fun w ρ1 z => ?_) q⟩
  intro v F1 H1 s1 r1
  obtain ⟨ns, ev, z⟩ := z
  obtain ⟨a, vs, rfl, h1, h2⟩ := RW.tup s1.env r1 ev
  have e := Reps.ints h2
  subst e
  have hP : GxR.TabG H1 P := s1.env.tabs _ hin
  refine ⟨a, ns, rfl, hi.hk ▸ h1, hP, fun H2 t2 => ?_⟩
  exact z _ F1 _ (s1.trans E (stp_tab s1.env hP hT t2)) (Rep.int _)
end
end L3

set_option Elab.async false
set_option linter.all false
set_option maxRecDepth 100000
set_option maxHeartbeats 4000000
namespace L3
open PySem PySem.Spec PyProof.Rows L2
/-- what has been kept since s -/
structure Since (X : Cx) (s : Shared) (H : Hp) (s' : Shared) (H' : Hp) : Prop where
  os : s'.os = s.os
  bare : AllBare s'.gens
  un : Un (frs X.stack) [] H H' s.heap s'.heap
  hok : HOk X.prog X.w H' s'.heap
namespace Since
variable {X : Cx} {pins : List (Addr × Obj)} {σ : L2.St} {H H' : Hp} {s s' s'' : Shared} {h' : Heap} {tk : Nat} {b : Addr}
theorem refl (I : Inv X pins σ H s) : Since X s H s H := ⟨rfl, I.bare, Un.refl, I.hok⟩
theorem inv (I : Inv X pins σ H s) (t : Since X s H s' H') : Inv X pins σ H' s' := I.call' (ch := []) t.os t.un t.hok t.bare (fun _ z => nomatch z)
theorem call {Q : VK} {u : Value} (t : Since X s H s' H') (c : CE X.stack X.prog X.w H' s' Q u s'') : ∃ v H'', Since X s H s'' H'' ∧ Un (frs X.stack) [] H' H'' s'.heap s''.heap ∧ RelV v u ∧ Q v H'' := by
  obtain ⟨v, H'', os, bare, un, hok, r, q⟩ := c
  exact ⟨v, H'', ⟨os.trans t.os, bare, t.un.trans un, hok⟩, un, r, q⟩
theorem kept (t : Since X s H s' H') (k : ∀ b o, s'.heap.get? b = some o → h'.get? b = some o) : Since X s H { s' with heap := h', toks := tk } H' := ⟨t.os, t.bare, t.un.trans (Un.kept k), t.hok.kept k⟩
/-- a thing of our own, unknown outside, is written -/
theorem own (t : Since X s H s' H') (hb : s.heap.get? b = none) (hn : H' b = none) (k : ∀ c o, c ≠ b → s'.heap.get? c = some o → h'.get? c = some o) : Since X s H { s' with heap := h', toks := tk } H' := by
  have ne : ∀ {c : Addr} {o : Obj}, s.heap.get? c = some o → c ≠ b := fun {c o} e z => by
    rw [z, hb] at e
    cases e
  refine ⟨t.os, t.bare, ⟨fun c o e n h1 h2 => k c o (ne e) (t.un.keep c o e n h1 h2), fun c o e n h1 h2 => ?_, t.un.free, fun c o e h2 => ?_, t.un.tups, t.un.frzs, t.un.tbls⟩, fun a o e => ?_⟩
  · obtain ⟨sl, q⟩ := t.un.slot c o e n h1 h2
    exact ⟨sl, k c _ (ne e) q⟩
  · obtain ⟨o', q⟩ := t.un.there c o e h2
    exact ⟨o', k c _ (ne e) q⟩
  · refine (t.hok a o e).stay (fun c u hc q => k c u (fun z => ?_) q) (fun _ q => q) fun _ _ q => q
    rw [z] at hc
    rcases hc with z2 | z2
    · rw [← z2, hn] at e; cases e
    · rw [hn] at z2; cases z2
theorem lay {o : HO} (t : Since X s H s' H') (hb : s.heap.get? b = none) (hn : H' b = none) (new : ObjOk X.prog X.w (upd H' b o) s'.heap b o) : Since X s H s' (upd H' b o) := by
  have ne : ∀ {c : Addr} {o : Obj}, s.heap.get? c = some o → c ≠ b := fun {c o} e z => by
    rw [z, hb] at e
    cases e
  have up : ∀ c u, H' c = some u → upd H' b o c = some u := fun c u e => by
    rw [upd_ne (ne_of_none e hn)]; exact e
  refine ⟨t.os, t.bare, ⟨t.un.keep, t.un.slot, fun c u e n h => ?_, t.un.there, fun c xs e => up _ _ (t.un.tups c xs e), fun c x u e => up _ _ (t.un.frzs c x u e), fun c ps e => ?_⟩, fun c u e => ?_⟩
  · rw [upd_ne (ne e)]; exact t.un.free c u e n h
  · obtain ⟨more, q⟩ := t.un.tbls c ps e
    exact ⟨more, up _ _ q⟩
  · by_cases hc : c = b
    · subst hc
      rw [upd_same] at e; cases e
      exact new
    · rw [upd_ne hc] at e
      exact (t.hok c u e).stay (fun _ _ _ q => q) (fun d q => up _ _ q) fun d xs q => up _ _ q
end Since

/-- a key: a pair of ints, or an int -/
def KeyU (K : PySem.W.Frag) (pr : Bool) (H : Hp) (u : Value) (k : Int × Int) : Prop := if pr = true then ∃ t, u = .ref t ∧ SqT K H t [.int k.1, .int k.2] else k.2 = 0 ∧ ∃ t, u = .int k.1 t
def KeyV (K : PySem.W.Frag) (pr : Bool) (H : Hp) (v : V) (k : Int × Int) : Prop := if pr = true then ∃ t, v = .ref t ∧ SqT K H t [.int k.1, .int k.2] else k.2 = 0 ∧ v = .int k.1
theorem KeyV.u {K : PySem.W.Frag} {pr : Bool} {H : Hp} {v : V} {u : Value} {k : Int × Int} (h : KeyV K pr H v k) (r : RelV v u) : KeyU K pr H u k := by
  unfold KeyV at h
  unfold KeyU
  split at h
  · rename_i e
    rw [if_pos e]
    obtain ⟨t, rfl, h2⟩ := h
    exact ⟨t, r, h2⟩
  · rename_i e
    rw [if_neg e]
    obtain ⟨h1, rfl⟩ := h
    exact ⟨h1, r⟩
theorem SqT.un {K : PySem.W.Frag} {fs : List Addr} {H H' : Hp} {h h' : Heap} {a : Addr} {xs : List V} (x : SqT K H a xs) (n : Un fs [] H H' h h') : SqT K H' a xs := by
  rcases x with (x | ⟨o, x⟩) | x
  · exact .inl (.inl (n.tups _ _ x))
  · exact .inl (.inr ⟨o, n.frzs _ _ _ x⟩)
  · exact .inr x
theorem KeyU.un {K : PySem.W.Frag} {pr : Bool} {fs : List Addr} {H H' : Hp} {h h' : Heap} {u : Value} {k : Int × Int} (x : KeyU K pr H u k) (n : Un fs [] H H' h h') : KeyU K pr H' u k := by
  unfold KeyU at x ⊢
  split at x
  · rename_i e
    rw [if_pos e]
    obtain ⟨t, h1, h2⟩ := x
    exact ⟨t, h1, SqT.un h2 n⟩
  · rename_i e
    rw [if_neg e]
    exact x
theorem pair_of {X : Cx} {pins : List (Addr × Obj)} {σ : L2.St} {s : Shared} {H : Hp} {t : Addr} {i j : Int} (I : Inv X pins σ H s) (e : SqT X.K H t [.int i, .int j]) : Srt.IsPair s.heap (.ref t) i j := by
  obtain ⟨its2, r2, ⟨o, ho, hc, n, hd⟩, _⟩ := I.tuple e
  obtain ⟨u1, u2, rfl, ri, rj⟩ := vals2 r2
  obtain ⟨t1, rfl⟩ := ri
  obtain ⟨t2, rfl⟩ := rj
  exact ⟨t, o, t1, t2, n, rfl, ho, hc, hd⟩
theorem pair_inj {h : Heap} {v : Value} {i j i' j' : Int} (a : Srt.IsPair h v i j) (b : Srt.IsPair h v i' j') : i = i' ∧ j = j' := by
  obtain ⟨a1, o, t, u, n, rfl, ho, hc, hd⟩ := a
  obtain ⟨a2, o', t', u', n', e, ho', hc', hd'⟩ := b
  cases e
  rw [ho] at ho'; cases ho'
  rw [hd] at hd'
  cases hd'
  exact ⟨rfl, rfl⟩
abbrev ltK (κ : Value → Int × Int) : Keyed → Keyed → Bool := fun p q => SrtO.lexB (κ p.2) (κ q.2)
theorem ltK_swo (κ : Value → Int × Int) : SrtO.Swo (ltK κ) := ⟨fun x y => (SrtO.swo_lex κ).asym x.2 y.2, fun x y z => (SrtO.swo_lex κ).tr x.2 y.2 z.2⟩
section
variable {X : Cx} {pins : List (Addr × Obj)} {σ : L2.St} {H H' : Hp} {s s' : Shared}
/-- the keys' kind is found, and they compare as they should -/
theorem keys_sortable {A1 : Around} {pr : Bool} {keys vs : List Value} {κ : Value → Int × Int} (ok : Inv X pins σ H' s') (h2 : 2 ≤ keys.length) (hl : keys.length = vs.length) (hk : ∀ p ∈ keys.zip vs, KeyU X.K pr H' p.1 (κ p.2)) : ∃ kd,
    (∀ (Q : SortKind → Shared → Prop) (E : Value → Shared → Prop), Q kd s' → wpAny (model X.prog X.w) A1 (keyKind' keys.toArray) Q E s') ∧ SrtO.Cmp X.prog X.w A1 s' kd (fun p => p ∈ keys.zip vs) (ltK κ) := by
  have hmem : ∀ u ∈ keys, ∃ v, (u, v) ∈ keys.zip vs := fun u hu => by
    obtain ⟨i, hi⟩ := List.getElem?_of_mem hu
    have h3 : i < keys.length := (List.getElem?_eq_some_iff.mp hi).1
    refine ⟨vs[i]'(by omega), List.mem_of_getElem? (i := i) ?_⟩
    rw [List.getElem?_zip_eq_some]
    exact ⟨hi, List.getElem?_eq_getElem _⟩
  cases pr with
  | true =>
    have hp : ∀ p ∈ keys.zip vs, Srt.IsPair s'.heap p.1 (κ p.2).1 (κ p.2).2 := fun p hm => by
      obtain ⟨t, e1, e2⟩ := (show ∃ t, p.1 = Value.ref t ∧ SqT X.K H' t [.int (κ p.2).1, .int (κ p.2).2] from by simpa [KeyU] using hk p hm)
      rw [e1]
      exact pair_of ok e2
    classical
    let k2 : Value → Int × Int := fun v => if h : ∃ k : Int × Int, Srt.IsPair s'.heap v k.1 k.2 then h.choose else (0, 0)
    have hk2 : ∀ v (k : Int × Int), Srt.IsPair s'.heap v k.1 k.2 → k2 v = k := fun v k hv => by
      have h : ∃ k : Int × Int, Srt.IsPair s'.heap v k.1 k.2 := ⟨k, hv⟩
      show (if h : ∃ k : Int × Int, Srt.IsPair s'.heap v k.1 k.2 then h.choose else (0, 0)) = k
      rw [dif_pos h]
      have q := pair_inj h.choose_spec hv
      exact Prod.ext q.1 q.2
    have hp2 : ∀ v ∈ keys, Srt.IsPair s'.heap v (k2 v).1 (k2 v).2 := fun v hv => by
      obtain ⟨u, hu⟩ := hmem v hv
      have q := hp _ hu
      rw [hk2 v _ q]; exact q
    obtain ⟨fs, h3, h4, h5⟩ := Srt.firsts_of fun v hm => ⟨_, _, hp2 v hm⟩
    refine ⟨tuples' true, fun Q E hq => ?_, fun p q hm hm' => ?_⟩
    · refine PySem.W.kat_kind (T := .type "int") h3 (by omega) (fun f hm => ?_) (by rfl) ?_
      · obtain ⟨x, t, rfl⟩ := h5 f hm
        exact PySem.W.Looks.now
      · have e : (Value.type "int" != Value.type "tuple") = true := by first | decide +kernel | rfl | decide
        rw [e]
        exact hq
    · refine wpAny_mono (SrtO.pair_cmp (A := A1) hp2 p q (List.of_mem_zip hm).1 (List.of_mem_zip hm').1) (fun r s2 h => ⟨h.1, ?_⟩) fun _ _ e => e
      rw [h.2]
      show SrtO.lexB (k2 p.1) (k2 q.1) = _
      rw [hk2 _ _ (hp p hm), hk2 _ _ (hp q hm')]
  | false =>
    have hp : ∀ p ∈ keys.zip vs, (κ p.2).2 = 0 ∧ ∃ t, p.1 = Value.int (κ p.2).1 t := fun p hm => by simpa [KeyU] using hk p hm
    have hI : IntsAre keys (keys.map SrtO.iv) := SrtO.ints_iv fun v hv => by
      obtain ⟨u, hu⟩ := hmem v hv
      obtain ⟨_, t, e⟩ := hp _ hu
      exact ⟨_, t, e⟩
    refine ⟨oneType', fun Q E hq => ?_, fun p q hm hm' => ?_⟩
    · match keys, hI, h2 with
      | v1 :: v2 :: rest, hI, _ =>
        rw [keyKind_ints hI]
        exact wpAny_pure hq
      | [], _, h => exact absurd h (by decide)
      | [v], _, h => exact absurd h (by simp)
    · refine wpAny_mono (SrtO.int_cmp (A := A1) hI p q (List.of_mem_zip hm).1 (List.of_mem_zip hm').1) (fun r s2 h => ⟨h.1, ?_⟩) fun _ _ e => e
      rw [h.2]
      obtain ⟨z1, t1, e1⟩ := hp p hm
      obtain ⟨z2, t2, e2⟩ := hp q hm'
      show SrtO.ltIv p.1 q.1 = SrtO.lexB (κ p.2) (κ q.2)
      rw [e1, e2]
      unfold SrtO.ltIv SrtO.lexB
      rw [z1, z2]
      by_cases h : (κ p.2).1 = (κ q.2).1
      · rw [if_pos h]; simp [SrtO.iv, h]
      · rw [if_neg h]; rfl

/-- the end of the sort: the keys are gathered at kS, the list stands empty at a -/
theorem end_lam {A1 : Around} {pr : Bool} {vs : List Value} {κ : Value → Int × Int} {T : Hp → Prop} {a kS : Addr} {e1 : Nat} {kA : Array Value} {R : PySem.Fin → Shared → Prop} {E : Value → Shared → Prop}
    (I : Inv X pins σ H s) (t : Since X s H s' H') (hkS : s.heap.get? kS = none) (haS : s.heap.get? a = none) (hka : kS ≠ a) (nk : H' kS = none) (na : H' a = none) (hz : vs.length ≤ sizeLine)
    (ok : ∃ n, s'.heap.get? kS = some (seqObj "list" kA n)) (oa : s'.heap.get? a = some (seqObj "list" #[] e1)) (hl : kA.toList.length = vs.length) (hk : ∀ p ∈ kA.toList.zip vs, KeyU X.K pr H' p.1 (κ p.2))
    (fin : ∀ (s2 : Shared) (out : List Value), Since X s H s2 H' → (∃ n, s2.heap.get? a = some (seqObj "list" out.toArray n)) → SrtO.Srtd (fun v u => SrtO.lexB (κ v) (κ u)) out → SrtO.Stb (fun v u => SrtO.lexB (κ v) (κ u)) out vs → R (.done (.ret .none)) s2) :
    wpAny (model X.prog X.w) A1 (ksk_end a false vs.toArray e1 (.ref kS) kA) R E s' := by
  obtain ⟨n, ok⟩ := ok
  have ez : (kA.zip vs.toArray).toList = kA.toList.zip vs := ksk_zip kA vs
  have hkAs : kA.size ≤ sizeLine := by rw [← Array.length_toList, hl]; exact hz
  have tail : ∀ st : SortSt, SrtO.Srtd (ltK κ) (arrOf st).toList → SrtO.Stb (ltK κ) (arrOf st).toList (kA.toList.zip vs) → failedOf st = none → wpAny (model X.prog X.w) A1 (ksk_tail a false e1 (.ref kS) st) R E s' := by
    intro st h1 h2 hfl
    have hsz2 : ((arrOf st).map (·.2)).size = vs.length := by
      rw [Array.size_map, ← Array.length_toList, h2.perm.length_eq, List.length_zip, hl, Nat.min_self]
    have t1 : Since X s H { s' with heap := s'.heap.update kS (Obj.mapSeq fun _ => (#[] : Array Value)), toks := s'.toks } H' := t.own hkS nk fun c o hc e => (Heap.get?_update_ne _ _ _ _ hc).trans e
    have oa1 : (s'.heap.update kS (Obj.mapSeq fun _ => (#[] : Array Value))).get? a = some (seqObj "list" #[] e1) := (Heap.get?_update_ne _ _ _ _ hka.symm).trans oa
    have t2 : Since X s H { s' with heap := (s'.heap.update kS (Obj.mapSeq fun _ => (#[] : Array Value))).update a (Obj.mapSeq fun _ => (arrOf st).map (·.2)), toks := s'.toks } H' := t1.own haS na fun c o hc e => (Heap.get?_update_ne _ _ _ _ hc).trans e
    obtain ⟨c2, hc2⟩ : ∃ c2, ((s'.heap.update kS (Obj.mapSeq fun _ => (#[] : Array Value))).update a (Obj.mapSeq fun _ => (arrOf st).map (·.2))).get? a = some (seqObj "list" ((arrOf st).map (·.2)) c2) := ⟨_, get?_update_seq oa1 fun _ => (arrOf st).map (·.2)⟩
    unfold ksk_tail
    try dsimp only
    refine wpAny_bind (listUpdate_at ok rfl ?_ hkAs (Nat.zero_le _))
    refine wpAny_bind (wpAny_letGo ?_)
    refine wpAny_bind (seqEpoch_at oa1 rfl ?_)
    refine wpAny_bind (listUpdate_at oa1 rfl ?_ (Nat.zero_le _) ?_)
    · rw [hfl]
      simp only [bne_self_eq_false, Bool.false_eq_true, if_false]
      refine wpAny_pure (fin _ ((arrOf st).toList.map (·.2)) t2 ⟨c2, ?_⟩ (SrtO.srtd_map h1) ?_)
      · rw [← Array.toList_map, Array.toArray_toList]
        exact hc2
      · have q := SrtO.Stb.map (lt := fun v u => SrtO.lexB (κ v) (κ u)) (SrtO.swo_lex κ) (fun p : Keyed => p.2) h2
        rw [List.map_snd_zip (by omega)] at q
        exact q
    · simp only [Bool.false_eq_true, if_false]
      rw [hsz2]; omega
  unfold ksk_end
  try dsimp only
  rw [if_neg Bool.false_ne_true]
  try simp only [Bool.false_eq_true, if_false]
  by_cases h2 : vs.toArray.size < 2
  · rw [if_pos h2, if_pos h2]
    refine wpAny_bind (wpAny_pure ?_)
    rw [StateT.run_pure]
    refine wpAny_bind (wpAny_pure ?_)
    try dsimp only
    refine tail (SortSt.mk' general' (kA.zip vs.toArray) #[] 7 none) ?_ ?_ rfl
    · show SrtO.Srtd (ltK κ) (kA.zip vs.toArray).toList
      rw [ez]
      rw [List.size_toArray] at h2
      match q : kA.toList.zip vs with
      | [] => exact List.Pairwise.nil
      | [v] => exact List.pairwise_singleton _ _
      | x :: y :: l =>
        have : (kA.toList.zip vs).length = l.length + 2 := by rw [q]; rfl
        rw [List.length_zip, hl, Nat.min_self] at this
        omega
    · show SrtO.Stb (ltK κ) (kA.zip vs.toArray).toList _
      rw [ez]
      exact SrtO.Stb.refl _
  · rw [if_neg h2, if_neg h2]
    rw [List.size_toArray] at h2
    obtain ⟨kd, hkind, hT⟩ := keys_sortable (s' := s') (A1 := A1) (t.inv I) (by omega) hl hk
    rw [show kA.toList.toArray = kA from Array.toArray_toList] at hkind
    refine wpAny_bind (hkind _ _ ?_)
    have hall : SrtO.AllL (fun p : Keyed => p ∈ kA.toList.zip vs) (kA.zip vs.toArray).toList := fun p hm => by
      rw [ez] at hm
      exact hm
    refine wpAny_bind (wpAny_mono (SrtO.wpS_sortO (st0 := SortSt.mk' kd (kA.zip vs.toArray) #[] 7 none)
      (Q := fun _ st' => SrtO.Srtd (ltK κ) (arrOf st').toList ∧ SrtO.Stb (ltK κ) (arrOf st').toList (kA.zip vs.toArray).toList ∧ failedOf st' = none) (ltK_swo κ) hT rfl hall rfl rfl fun st' a1 a2 a3 => ⟨a1, a2, a3⟩) ?_ fun _ _ e => e)
    rintro ⟨⟨⟩, st'⟩ s2 ⟨rfl, hp1, hp2, hf⟩
    try dsimp only
    rw [ez] at hp2
    exact tail st' hp1 hp2 hf

/-- the keys are made, one by one -/
theorem rest_lam {A1 : Around} {pr : Bool} {f : Value} {vs : List Value} {κ : Value → Int × Int} {T : Hp → Prop} {a kS : Addr} {e1 : Nat} {R : PySem.Fin → Shared → Prop} {E : Value → Shared → Prop}
    (I : Inv X pins σ H s) (t : Since X s H s' H') (t0 : T H') (hkS : s.heap.get? kS = none) (haS : s.heap.get? a = none) (hka : kS ≠ a) (nk : H' kS = none) (na : H' a = none) (hz : vs.length ≤ sizeLine) (nfk : kS ∉ frs X.stack) (nfa : a ∉ frs X.stack)
    (ok : s'.heap.get? kS = some (seqObj "list" #[] 0)) (oa : s'.heap.get? a = some (seqObj "list" #[] e1))
    (turn : ∀ (v : Value) (s1 : Shared) (H1 : Hp), v ∈ vs → Since X s H s1 H1 → T H1 → wpAny (model X.prog X.w) A1 (call f [v]) (fun r s2 => CE X.stack X.prog X.w H1 s1 (fun u H2 => KeyV X.K pr H2 u (κ v) ∧ T H2) r s2) (fun _ _ => False) s1)
    (fin : ∀ (s2 : Shared) (H2 : Hp) (out : List Value), Since X s H s2 H2 → T H2 → H2 a = none → (∃ n, s2.heap.get? a = some (seqObj "list" out.toArray n)) → SrtO.Srtd (fun v u => SrtO.lexB (κ v) (κ u)) out → SrtO.Stb (fun v u => SrtO.lexB (κ v) (κ u)) out vs → R (.done (.ret .none)) s2) :
    wpAny (model X.prog X.w) A1 (ksk_rest a f false vs.toArray e1 (.ref kS)) R E s' := by
  unfold ksk_rest
  refine wpAny_bind (wpAny_rule ?_)
  rw [List.forIn_toArray]
  refine wpAny_bind (ksk_fold (fun i s1 => ∃ H1 kA, Since X s H s1 H1 ∧ T H1 ∧ H1 kS = none ∧ H1 a = none ∧ (∃ n, s1.heap.get? kS = some (seqObj "list" kA n)) ∧ s1.heap.get? a = some (seqObj "list" #[] e1) ∧ kA.toList.length = i ∧ ∀ p ∈ kA.toList.zip vs, KeyU X.K pr H1 p.1 (κ p.2)) vs 0 s'
    ⟨H', #[], t, t0, nk, na, ⟨0, ok⟩, oa, rfl, fun p hp => by simp at hp⟩ ?step ?done)
  case step =>
    rintro j x s1 hx ⟨H1, kA, t1, T1, nk1, na1, ⟨n, ok1⟩, oa1, hl1, hk1⟩
    simp only [Nat.zero_add] at hl1 ⊢
    have hj : j < vs.length := (List.getElem?_eq_some_iff.mp hx).1
    refine wpAny_bind (wpAny_attempt (wpAny_mono (turn x s1 H1 (List.mem_of_getElem? hx) t1 T1) (fun r s2 he => ?_) fun _ _ hF => hF.elim))
    obtain ⟨v, H2, t2, un2, rv, kv, T2⟩ := t1.call he
    try dsimp only
    have ok2 : s2.heap.get? kS = some (seqObj "list" kA n) := un2.keep kS _ ok1 nk1 nfk (by simp)
    have oa2 : s2.heap.get? a = some (seqObj "list" #[] e1) := un2.keep a _ oa1 na1 nfa (by simp)
    have nk2 : H2 kS = none := un2.free kS _ ok1 nk1 (by simp)
    have na2 : H2 a = none := un2.free a _ oa1 na1 (by simp)
    have hsz : kA.size ≤ sizeLine := by rw [← Array.length_toList, hl1]; omega
    refine wpAny_bind (listUpdate_at ok2 rfl ?_ hsz (by rw [Array.size_push]; omega))
    refine wpAny_pure ⟨rfl, H2, kA.push r, t2.own (tk := s2.toks) hkS nk2 fun c o hc e => (Heap.get?_update_ne _ _ _ _ hc).trans e, T2, nk2, na2, ⟨_, get?_update_seq ok2 (·.push r)⟩, (Heap.get?_update_ne _ _ _ _ hka.symm).trans oa2, ?_, ?_⟩
    · rw [Array.toList_push, List.length_append, hl1]; rfl
    · intro p hp
      rw [Array.toList_push] at hp
      obtain ⟨i, hi⟩ := List.getElem?_of_mem hp
      obtain ⟨h1, h2⟩ := List.getElem?_zip_eq_some.mp hi
      by_cases hlt : i < kA.toList.length
      · rw [List.getElem?_append_left hlt] at h1
        exact (hk1 p (List.mem_of_getElem? (List.getElem?_zip_eq_some.mpr ⟨h1, h2⟩))).un un2
      · rw [List.getElem?_append_right (by omega)] at h1
        have e0 : i - kA.toList.length = 0 := by
          have := (List.getElem?_eq_some_iff.mp h1).1
          simp at this
          omega
        rw [e0] at h1
        have e1 : r = p.1 := by simpa using h1
        have e2 : i = j := by omega
        subst e2
        rw [hx] at h2
        have e3 : x = p.2 := by simpa using h2
        rw [← e1, ← e3]
        exact kv.u rv
  case done =>
    rintro s1 ⟨H1, kA, t1, T1, nk1, na1, ok1, oa1, hl1, hk1⟩
    try dsimp only
    obtain ⟨n, ok1'⟩ := ok1
    refine wpAny_bind (listItems_at ok1' rfl ?_)
    exact end_lam (T := T) I t1 hkS haS hka nk1 na1 hz ⟨n, ok1'⟩ oa1 (by omega) hk1 fun s2 out t2 o2 h1 h2 => fin s2 H1 out t2 T1 na1 o2 h1 h2

theorem nofr (I : Inv X pins σ H s) : ∀ b, s.heap.objs.size ≤ b → b ∉ frs X.stack := fun b hf z => by
  rcases List.mem_cons.mp (I.stkSub _ z) with e | e
  · have h1 := I.lt
    rw [← e] at h1
    exact Nat.lt_irrefl _ (Nat.lt_of_lt_of_le h1 hf)
  · exact I.nofs hf e
theorem tree_lam {A1 : Around} {pr : Bool} {f : Value} {vs : List Value} {κ : Value → Int × Int} {T : Hp → Prop} {a : Addr} {n : Nat} {R : PySem.Fin → Shared → Prop} {E : Value → Shared → Prop}
    (I : Inv X pins σ H s) (t : Since X s H s' H') (t0 : T H') (haS : s.heap.get? a = none) (nfa : a ∉ frs X.stack) (na : H' a = none) (hz : vs.length ≤ sizeLine)
    (oa : s'.heap.get? a = some (seqObj "list" vs.toArray n))
    (turn : ∀ (v : Value) (s1 : Shared) (H1 : Hp), v ∈ vs → Since X s H s1 H1 → T H1 → wpAny (model X.prog X.w) A1 (call f [v]) (fun r s2 => CE X.stack X.prog X.w H1 s1 (fun u H2 => KeyV X.K pr H2 u (κ v) ∧ T H2) r s2) (fun _ _ => False) s1)
    (fin : ∀ (s2 : Shared) (H2 : Hp) (out : List Value), Since X s H s2 H2 → T H2 → H2 a = none → (∃ n, s2.heap.get? a = some (seqObj "list" out.toArray n)) → SrtO.Srtd (fun v u => SrtO.lexB (κ v) (κ u)) out → SrtO.Stb (fun v u => SrtO.lexB (κ v) (κ u)) out vs → R (.done (.ret .none)) s2) :
    wpAny (model X.prog X.w) A1 (ksk_tree a f false) R E s' := by
  have ha : a < s'.heap.objs.size := Heap.lt_size oa
  obtain ⟨e1, ho1⟩ : ∃ e1, (s'.heap.update a (Obj.mapSeq fun _ => (#[] : Array Value))).get? a = some (seqObj "list" #[] e1) := ⟨_, get?_update_seq oa fun _ => #[]⟩
  have hkS : ((s'.heap.update a (Obj.mapSeq fun _ => (#[] : Array Value))).push (seqObj "tuple" vs.toArray 0)).objs.size = s'.heap.objs.size + 1 := by rw [size_push', Heap.size_update]
  unfold ksk_tree
  refine wpAny_bind (listItems_at oa rfl ?_)
  refine wpAny_bind (listUpdate_at oa rfl ?_ (by rw [List.size_toArray]; exact hz) (Nat.zero_le _))
  refine wpAny_bind (seqEpoch_at ho1 rfl ?_)
  refine wpAny_bind (wpAny_newTuple ?_ (by show vs.length ≤ _; exact hz))
  refine wpAny_bind (wpAny_newList ?_ (Nat.zero_le _))
  refine wpAny_holding ?_
  have t1 : Since X s H { s' with heap := s'.heap.update a (Obj.mapSeq fun _ => (#[] : Array Value)), toks := s'.toks } H' := t.own haS na fun c o hc e => (Heap.get?_update_ne _ _ _ _ hc).trans e
  have t2 : Since X s H { s' with heap := ((s'.heap.update a (Obj.mapSeq fun _ => (#[] : Array Value))).push (seqObj "tuple" vs.toArray 0)).push (seqObj "list" #[] 0), toks := s'.toks } H' :=
    t1.kept fun b o e => Heap.get?_push_of_some _ (Heap.get?_push_of_some _ e)
  refine rest_lam (s' := { s' with heap := ((s'.heap.update a (Obj.mapSeq fun _ => (#[] : Array Value))).push (seqObj "tuple" vs.toArray 0)).push (seqObj "list" #[] 0) }) (kS := ((s'.heap.update a (Obj.mapSeq fun _ => (#[] : Array Value))).push (seqObj "tuple" vs.toArray 0)).objs.size)
    I t2 t0 ?_ haS ?_ ?_ na hz ?_ nfa (Heap.get?_push_size _ rfl) (Heap.get?_push_of_some _ (Heap.get?_push_of_some _ ho1)) turn fin
  · rw [hkS]
    cases q : s.heap.get? (s'.heap.objs.size + 1) with
    | none => rfl
    | some o =>
      obtain ⟨o', q'⟩ := t.un.there _ o q (by simp)
      exact absurd (Heap.lt_size q') (Nat.not_lt.mpr (Nat.le_succ _))
  · rw [hkS]; exact Nat.ne_of_gt (Nat.lt_succ_of_lt ha)
  · exact t.hok.fresh (by rw [hkS]; exact Nat.le_succ _)
  · exact nofr (t.inv I) _ (by rw [hkS]; exact Nat.le_succ _)
/-- sorted(l, key=f) -/
theorem call_sortedLam {A : Around} {pr : Bool} {f l : Addr} {IV : List Value → Prop} {κ : Value → Int × Int} {T : Hp → Prop} {Q : Value → Shared → Prop} {E : Value → Shared → Prop}
    (I : Inv X pins σ H s) (t0 : T H)
    (hcoll : ∀ Q' : List Value → Shared → Prop, (∀ (h' : Heap) (tk : Nat) (vs : List Value), (∀ b o, s.heap.get? b = some o → h'.get? b = some o) → IV vs → vs.length ≤ sizeLine → Q' vs { s with heap := h', toks := tk }) → wpAny (model X.prog X.w) A.in1 (collect (.ref l)) Q' E s)
    (turn : ∀ (vs : List Value) (v : Value) (s1 : Shared) (H1 : Hp), IV vs → v ∈ vs → Since X s H s1 H1 → T H1 → wpAny (model X.prog X.w) A.in1.in1 (call (.ref f) [v]) (fun r s2 => CE X.stack X.prog X.w H1 s1 (fun u H2 => KeyV X.K pr H2 u (κ v) ∧ T H2) r s2) (fun _ _ => False) s1)
    (fin : ∀ (s2 : Shared) (H2 : Hp) (d : Addr) (vs out : List Value), IV vs → Since X s H s2 H2 → T H2 → H2 d = none → s.heap.get? d = none → (∃ n, s2.heap.get? d = some (seqObj "list" out.toArray n)) → out.length ≤ sizeLine → SrtO.Srtd (fun v u => SrtO.lexB (κ v) (κ u)) out → SrtO.Stb (fun v u => SrtO.lexB (κ v) (κ u)) out vs → Q (.ref d) s2) :
    wpAny (model X.prog X.w) A (call (.builtin "sorted") [.ref l] [(Str.ofString "key", .ref f)]) Q E s := by
  refine call_function_entry_kw kind_sorted plain_sorted entry_sorted (ksk_s1 _ _) ?_
  unfold Builtin.«sorted»
  refine wpAny_bind (m := checkCount "sorted" 1 1 _) (wpAny_pure ?_)
  refine wpAny_bind (hcoll _ fun h' tk vs k hv hz => ?_)
  refine wpAny_bind (wpAny_newList ?_ hz)
  have hsz : s.heap.get? h'.objs.size = none := by
    cases q : s.heap.get? h'.objs.size with
    | none => rfl
    | some o => exact absurd (Heap.lt_size (k _ o q)) (Nat.lt_irrefl _)
  have t1' : Since X s H { s with heap := h', toks := tk } H := (Since.refl I).kept k
  have hoL : (h'.push (seqObj "list" vs.toArray 0)).get? h'.objs.size = some (seqObj "list" vs.toArray 0) := Heap.get?_push_size _ rfl
  have t1 : Since X s H { s with heap := h'.push (seqObj "list" vs.toArray 0), toks := tk } H := (Since.refl I).kept fun b o e => Heap.get?_push_of_some _ (k b o e)
  refine wpAny_bind (wpAny_holding (wpAny_call_entry_kw slot_list_sort ⟨_, hoL, rfl⟩ entry_list_sort ?body (ksk_l1 _ _)))
  show wpAny (model X.prog X.w) A.in1.in1 (Builtin.«list.sort» ⟨[.ref h'.objs.size], [(Str.ofString "key", .ref f)]⟩) _ _ _
  rw [ksk_t1]
  refine tree_lam (s' := { s with heap := h'.push (seqObj "list" vs.toArray 0), toks := tk }) I t1 t0 hsz (nofr (t1'.inv I) _ (Nat.le_refl _)) (t1'.hok.fresh (Nat.le_refl _)) hz hoL
    (fun v s1 H1 hm ts tt => turn vs v s1 H1 hv hm ts tt) fun s2 H2 out ts tt nd hd h1 h2 => ⟨_, rfl, wpAny_pure ⟨_, rfl, fin s2 H2 _ vs out hv ts tt nd hsz hd (by rw [h2.perm.length_eq]; exact hz) h1 h2⟩⟩
end
end L3

set_option Elab.async false
set_option linter.all false
set_option maxRecDepth 100000
set_option maxHeartbeats 4000000
namespace L3
open PySem PySem.Spec PyProof.Rows L2
/-- one parameter; captured names and globals -/
structure LamS1 (sc scope : Scope) (a : Str) : Prop where
  kind : scope.kind = .function
  co : scope.isCoroutine = false
  gen : scope.isGenerator = false
  own : ∀ y ∈ scope.names, (y.2 = .local → y.1 = a) ∧ y.2 ≠ .cell
  loc : scope.names.lookup a = some .local
  free : ∀ y ∈ scope.names, y.2 = .free → sc.names.lookup y.1 = some .cell ∨ sc.names.lookup y.1 = some .free
def lamS1B (sc scope : Scope) (a : Str) : Bool :=
  decide (scope.kind = .function) && !scope.isCoroutine && !scope.isGenerator && decide (scope.names.lookup a = some .local) && scope.names.all fun y => (!decide (y.2 = .local) || decide (y.1 = a)) && !decide (y.2 = .cell) && (!decide (y.2 = .free) || decide (sc.names.lookup y.1 = some .cell) || decide (sc.names.lookup y.1 = some .free))
theorem lamS1_by {sc scope : Scope} {a : Str} (h : lamS1B sc scope a = true) : LamS1 sc scope a := by
  unfold lamS1B at h
  simp only [Bool.and_eq_true, Bool.or_eq_true, Bool.not_eq_true', decide_eq_true_eq, decide_eq_false_iff_not, List.all_eq_true] at h
  obtain ⟨⟨⟨⟨h1, h2⟩, h3⟩, h5⟩, h4⟩ := h
  refine ⟨h1, h2, h3, fun y hy => ⟨fun e => (h4 y hy).1.1.elim (absurd e) id, (h4 y hy).1.2⟩, h5, fun y hy e => ?_⟩
  rcases (h4 y hy).2 with (z | z) | z
  · exact absurd e z
  · exact .inl z
  · exact .inr z
theorem LamS1.has {X : Cx} {scope : Scope} {a : Str} (L : LamS1 X.env.scope scope a) (ok : X.Ok) : ∀ y ∈ scope.names, y.2 = .free → ∃ c, X.env.cells.lookup y.1 = some c := fun y hy e => by
  rcases L.free y hy e with k | k
  · exact ok.has _ (.inl k)
  · exact ok.has _ (.inr k)
/-- the context of the lambda's body, entered at s from the frames outer -/
def lamCx1 (X : Cx) (A : Around) (outer : List Env) (s : Shared) (H : Hp) (scope : Scope) (a : Str) (f c' : Addr) : Cx where
  prog := X.prog
  w := X.w
  K := X.K
  mg := X.mg
  base := X.base
  A := A.deeper (LamX.lamEnv X scope s.heap.objs.size f c')
  N := X.N ++ [a]
  s_0 := s
  H_0 := H
  env := LamX.lamEnv X scope s.heap.objs.size f c'
  outer := outer
  stack := LamX.lamEnv X scope s.heap.objs.size f c' :: outer
  ex := []
  fn := fun _ => false
  calm := true
  pn := []
  xe := fun e s' => wpAny (model X.prog X.w) (A.deeper (LamX.lamEnv X scope s.heap.objs.size f c')) (leaving (LamX.lamEnv X scope s.heap.objs.size f c') e) (fun _ s'' => L2.CX X.prog X.w outer H s (fun _ _ _ => False) e s'') (fun e' s'' => L2.CX X.prog X.w outer H s (fun _ _ _ => False) e' s'') s'
section
variable {X : Cx} {pins : List (Addr × Obj)} {σ : L2.St} {H HZ : Hp} {s s1 : Shared}
theorem lam_start1 {A : Around} {outer : List Env} {scope : Scope} {a : Str} {f c' : Addr} {h₁ : Heap} {tk : Nat} {v : V} {u : Value} (I : Inv X pins σ H s) (L : LamS1 X.env.scope scope a) (ha : a ∉ X.N) (e0 : Env0 X.prog X.w X.K X.mg X.base A outer s1 HZ) (hd : A.handled = none)
    (un : Un (frs X.stack) [] H HZ s.heap s1.heap) (hns : h₁.Ns s1.heap.objs.size fun y => ([(a, u)] : List (Str × Value)).reverse.lookup y) (kp : ∀ b o, s1.heap.get? b = some o → h₁.get? b = some o) (r : RelV v u) :
    Inv (lamCx1 X A outer s1 HZ scope a f c') [] (σ ++ [some v]) HZ { s1 with heap := h₁, toks := tk } := by
  have hfree := L.has I.ok
  have cm : ∀ {y c}, (cloFrom X.env.cells scope.names []).lookup y = some c → X.env.cells.lookup y = some c := fun {y c} e => by
    rcases cloFrom_mem (PySem.mem_of_lookup e) with hm | ⟨h1, h2⟩
    · cases hm
    · obtain ⟨c1, hc⟩ := hfree _ h1 rfl
      have hc : X.env.cells.lookup y = some c1 := hc
      have e2 : c = c1 := by
        rw [h2, hc] <;> rfl
      rw [e2]
      exact hc
  have look : ∀ {y}, scope.names.lookup y = some .free → ∃ c, (cloFrom X.env.cells scope.names []).lookup y = some c := fun {y} hl => by
    have hy : (y, NameKind.free) ∈ scope.names := PySem.mem_of_lookup hl
    exact mem_lookup (cloFrom_has (cells := X.env.cells) (acc := []) hy)
  have cellK : ∀ {c : Addr} {v : Option Value}, H c = none → s.heap.IsCell c v → h₁.IsCell c v := fun {c v} n ⟨o, ho, hd⟩ => by
    obtain ⟨sl, q⟩ := un.any ho n (by simp)
    exact ⟨_, kp _ _ q, hd⟩
  have noA : ∀ b : Addr, b ∉ (lamCx1 X A outer s1 HZ scope a f c').ex := fun b z => absurd (show b ∈ ([] : List Addr) from z) (by simp)
  have hlen : σ.length = X.N.length := I.len
  refine ⟨⟨e0.mod, L.kind, rfl, rfl, Nat.le_refl _, fun y z c e1 e2 => I.ok.inj y z c (cm e1) (cm e2), fun y hy => ?_, fun y c z _ => ?_, fun _ => hd, Around.frames_deeper e0.frames, .inr ⟨rfl, rfl⟩, fun b z => absurd z (noA b), e0.bs, e0.bsz, fun b _ _ => noA b,
      fun b z => absurd z (noA b), e0.funs, e0.frf⟩,
    rfl, e0.bare, Un.kept kp, ⟨_, hns, fun i y v' e1 e2 e3 => ?_⟩, fun y c e => ?_, e0.hok.fresh (Nat.le_refl _), fun y c e => ?_, fun q hq => absurd (show q ∈ ([] : List (Addr × Obj)) ++ [] from hq) (by simp), e0.hok.kept kp, ?_⟩
  · have hy : scope.names.lookup y = some .cell ∨ scope.names.lookup y = some .free := hy
    rcases hy with hy | hy
    · exact absurd rfl (L.own _ (PySem.mem_of_lookup hy)).2
    · exact look hy
  · have z : false = true := z
    cases z
  · have e3 : Vis scope y := e3
    have f1 : (X.N ++ [a])[i]? = some y := e1
    clear e1
    have e1 := f1
    clear f1
    by_cases hi : i < X.N.length
    · rw [List.getElem?_append_left hi] at e1
      rw [List.getElem?_append_left (by omega)] at e2
      rcases e3 with k | k | k
      · have ea := (L.own _ (PySem.mem_of_lookup k)).1 rfl
        have ea : y = a := ea
        subst ea
        exact absurd (show y ∈ X.N from List.mem_of_getElem? e1) ha
      · exact absurd rfl (L.own _ (PySem.mem_of_lookup k)).2
      · obtain ⟨m, hn, hl⟩ := I.loc
        have hvis : Vis X.env.scope y := (L.free _ (PySem.mem_of_lookup k) rfl).elim (fun k => .inr (.inl k)) (fun k => .inr (.inr k))
        obtain ⟨w', r, q⟩ := hl i y v' e1 e2 hvis
        obtain ⟨c2, h2⟩ := look k
        refine ⟨w', r, .inr ⟨.inr k, c2, h2, ?_⟩⟩
        have c1 := cm h2
        rcases q with ⟨k', _⟩ | ⟨_, c3, e', z⟩
        · have k' : X.env.scope.names.lookup y = some .local := k'
          rcases L.free _ (PySem.mem_of_lookup k) rfl with k2 | k2 <;> rw [show X.env.scope.names.lookup y = _ from k2] at k' <;> cases k'
        · rw [c1] at e'
          cases e'
          exact cellK (I.freeC y _ c1) z
    · rw [List.getElem?_append_right (by omega)] at e1 e2
      have e0' : i - X.N.length = 0 := by
        have := (List.getElem?_eq_some_iff.mp e1).1
        simp at this
        omega
      rw [e0'] at e1
      rw [hlen, e0'] at e2
      have ey : a = y := by simpa using e1
      have ev : v = v' := by simpa using e2
      subst ey ev
      exact ⟨u, r, .inl ⟨L.loc, by simp⟩⟩
  · obtain ⟨w', z⟩ := I.cell y c (cm e)
    exact ⟨w', cellK (I.freeC y c (cm e)) z⟩
  · obtain ⟨v, o, ho, hd⟩ := I.cell y c (cm e)
    exact un.free c o ho (I.freeC y c (cm e)) (by simp)
  · show (σ ++ [some v]).length = (X.N ++ [a]).length
    rw [List.length_append, List.length_append, hlen]; rfl
/-- the lambda is called by a built-in function -/
theorem lam_turn {f c' : Addr} {pm ctv : Value} {params : Arguments} {body : Expr} {scope : Scope} {a : Str} {k : Nat} {tb : TE} {v : V} {u : Value} {Qb : VK}
    (I : Inv X pins σ H s) (L : LamS1 X.env.scope scope a) (ha : a ∉ X.N) (hf : s.heap.get? f = some (PySem.W.kla_obj "<lambda>" (X.env.qual ++ "<lambda>") params body scope (cloFrom X.env.cells scope.names []) pm c' ctv)) (hfn : H f = none) (hfr : f ∉ frs X.stack)
    (hbind : ∀ u : Value, bindArgs (PySem.W.kla_fn "<lambda>" (X.env.qual ++ "<lambda>") params body scope (cloFrom X.env.cells scope.names []) pm (.ref c') ctv) ⟨[u], []⟩ = pure [(a, u)]) (hr : Room (k + 3) X.A)
    (hbody : ∀ (A : Around) (outer : List Env) (s : Shared) (H : Hp), Room k (A.deeper (LamX.lamEnv X scope s.heap.objs.size f c')) → PE (lamCx1 X A outer s H scope a f c') body tb)
    {H1 : Hp} (t : Since X s H s1 H1) (hc : H1 c' = some (LamX.CodeO c' (X.env.qual ++ "<lambda>"))) (rv : RelV v u) (hq : tb (σ ++ [some v]) H1 Qb) :
    wpAny (model X.prog X.w) X.A.in1.in1 (call (.ref f) [u]) (fun r s2 => CE X.stack X.prog X.w H1 s1 Qb r s2) (fun _ _ => False) s1 := by
  have I1 : Inv X pins σ H1 s1 := t.inv I
  have of1 := t.un.keep f _ hf hfn hfr (by simp)
  obtain ⟨⟨oc, vs, tq, hoc, hdc, hvc⟩, _, _⟩ := I1.hok c' _ hc
  have hr1 : Room (k + 1) X.A.in1.in1 := (show Room ((k + 1) + 1) X.A.in1 from (show Room ((k + 2) + 1) X.A from hr).in1).in1
  have rc : codeAny (model X.prog X.w) X.A.in1.in1 (.call (.ref f) ⟨[u], []⟩) (CR (L2.CX X.prog X.w) X.stack X.prog X.w H1 s1 Qb (fun _ _ _ => False)) s1 := by
    refine PySem.W.kla_callFunE hr1.depth of1 rfl L.co L.gen rfl ⟨c', oc, vs, tq, rfl, hoc, hdc, hvc⟩ ?_
    rw [hbind]
    refine wpAny_pure (wpAny_newFunctionEnv (fun y hy => (L.own y hy).2) (fun y hy => ?_) (fun h₁ hns hsb => ⟨I1.nolimit.fresh _ hsb, ?_⟩) L.kind)
    · have e : y = (a, u) := by simpa using hy
      rw [e]; exact L.loc
    show codeAny _ _ (.expr body (LamX.lamEnv X scope s1.heap.objs.size f c')) _ _
    have kp : ∀ b o, s1.heap.get? b = some o → h₁.get? b = some o := fun b o e => hsb.extBut b o (Nat.ne_of_lt (Heap.lt_size e)) (Heap.get?_push_of_some _ e)
    have J : Inv (lamCx1 X X.A.in1.in1 X.stack s1 H1 scope a f c') [] (σ ++ [some v]) H1 { s1 with heap := h₁, toks := s1.toks + ([(a, u)] : List (Str × Value)).length } :=
      lam_start1 I L ha I1.env0.in1.in1 hr1.hd t.un hns kp rv
    refine PySem.W.kla_codeExpr (wpAny_mono ((hbody _ _ s1 H1 (hr1.deeper _)).run [] _ _ H1 Qb J hq) (fun v s' hq => ?_) fun e s' hq => hq)
    obtain ⟨w', H', J', rv, q⟩ := hq
    exact ⟨w', H', J'.os, J'.bare, J'.base, J'.hok, rv, q⟩
  refine wpAny_call (codeAny_mono rc fun r s' hq => ?_)
  cases r with
  | error e =>
    obtain ⟨_, _, _, _, _, _, _, _, _, _, _, _, z⟩ := hq
    exact z
  | ok fl =>
    cases fl with
    | ret u => exact hq
    | next => exact False.elim hq
    | brk => exact False.elim hq
    | cont => exact False.elim hq
/-- the lambda is made; all but the table P is kept -/
theorem lam_make3 {c P : Addr} {params : Arguments} {body : Expr} {scope : Scope} {pos : Pos} {E : Value → Shared → Prop} {Q : Value → Shared → Prop} (I : Inv X pins σ H s) (TB : LamX.TabB X.base X.mg c P) (hcode : X.env.code = .ref c)
    (hT : LamX.TabS H P (X.env.qual ++ "<lambda>")) (hdef : defaultsOf params X.env = ([], [])) (hfree : ∀ y ∈ scope.names, y.2 = .free → ∃ c, X.env.cells.lookup y.1 = some c)
    (h : ∀ (f c' : Addr) (pm ctv : Value) (H1 : Hp) (s' : Shared), Inv X pins σ H1 s' → (∀ b o, H b = some o → b ≠ P → H1 b = some o) → LamX.TabS H1 P (X.env.qual ++ "<lambda>") →
      s'.heap.get? f = some (PySem.W.kla_obj "<lambda>" (X.env.qual ++ "<lambda>") params body scope (cloFrom X.env.cells scope.names []) pm c' ctv) → H1 f = none → f ∉ frs X.stack → H1 c' = some (LamX.CodeO c' (X.env.qual ++ "<lambda>")) → Q (.ref f) s') :
    wpAny (model X.prog X.w) X.A (eval (.Lambda params body scope pos) X.env) Q E s := by
  obtain ⟨ps, hP, ht, ha⟩ := hT
  refine PySem.W.kla_eval hdef ?_
  have bP : s.heap.BuiltinsAt X.mg P := TB.bm.keeps I.bk
  have hP' : s.heap.get? P = some { cls := .none, data := .fields ps } := I.hok P _ hP
  cases hc : codeAmong pos ps.toList with
  | none =>
    refine PySem.W.kla_makeFunction (mg := X.mg) (c := c) (P := P) (ps := ps) (closure_ok hfree) I.ok.glob (I.mod.glob.keeps I.bk) hcode (TB.code.keeps I.bk) hP' ht hc TB.gP bP fun c' ctv h' tk hx hge hlt hrec htb => ?_
    obtain ⟨c2, oc, vs, t, e2, hoc, hd, hv⟩ := hrec
    cases e2
    have hsz : s.heap.objs.size ≤ h'.objs.size := Nat.le_trans hge (Nat.le_of_lt hlt)
    have nC : H c' = none := I.hok.fresh hge
    have I1 := LamX.inv_table (t' := tk) (more := #[rawInt pos.line, rawInt pos.col, .ref c']) (h' := h'.push (PySem.W.kla_obj "<lambda>" (X.env.qual ++ "<lambda>") params body scope (cloFrom X.env.cells scope.names []) ((X.mg "__name__").getD .none) c' ctv)) I hP
      (fun b o hb e => Heap.get?_push_of_some _ (hx b o hb e)) (Heap.get?_push_of_some _ htb) hge ⟨oc, vs, t, Heap.get?_push_of_some _ hoc, hd, hv⟩
    have hE : ∀ b o, H b = some o → b ≠ P → upd (upd H P (.tbl (ps ++ #[rawInt pos.line, rawInt pos.col, .ref c']))) c' (LamX.CodeO c' (X.env.qual ++ "<lambda>")) b = some o := fun b o e n => by
      rw [upd_ne (ne_of_none e nC), upd_ne n]
      exact e
    have eL : (ps ++ #[rawInt pos.line, rawInt pos.col, .ref c']).toList = ps.toList ++ [rawInt pos.line, rawInt pos.col, .ref c'] := by simp
    refine h h'.objs.size c' ((X.mg "__name__").getD .none) ctv _ _ I1 hE ?_ (Heap.get?_push_size _ rfl) ?_ (nofr I _ hsz) upd_same
    · refine ⟨_, by rw [upd_ne (ne_of_none hP nC), upd_same], by rw [eL]; exact PySem.TriplesOk_snoc _ _ _ _ ht, fun p' cv hcv => ?_⟩
      rw [eL] at hcv
      rcases LamX.among_app _ ht hcv with z | z
      · obtain ⟨c0, e1, e2⟩ := ha p' cv z
        exact ⟨c0, e1, hE _ _ e2 fun z => by rw [z, hP] at e2; exact LamX.codeO_ne _ (Option.some.inj e2).symm⟩
      · exact ⟨c', z, upd_same⟩
    · have n1 : h'.objs.size ≠ c' := Nat.ne_of_gt hlt
      have n2 : h'.objs.size ≠ P := Nat.ne_of_gt (Nat.lt_of_lt_of_le (Heap.lt_size hP') hsz)
      rw [upd_ne n1, upd_ne n2]
      exact I.hok.fresh hsz
  | some cv =>
    obtain ⟨c', e, hco⟩ := ha pos cv hc
    subst e
    refine PySem.W.kla_makeFunctionHit (mg := X.mg) (c := c) (P := P) (ps := ps) (closure_ok hfree) I.ok.glob (I.mod.glob.keeps I.bk) hcode (TB.code.keeps I.bk) hP' ht hc bP fun ctv h' tk hx hsz => ?_
    have I1 : Inv X pins σ H { s with heap := h'.push (PySem.W.kla_obj "<lambda>" (X.env.qual ++ "<lambda>") params body scope (cloFrom X.env.cells scope.names []) ((X.mg "__name__").getD .none) c' ctv), toks := tk } := I.kept fun b o e => Heap.get?_push_of_some _ (hx b o e)
    exact h h'.objs.size c' ((X.mg "__name__").getD .none) ctv H _ I1 (fun _ _ e _ => e) ⟨ps, hP, ht, ha⟩ (Heap.get?_push_size _ rfl) (I.hok.fresh hsz) (nofr I _ hsz) hco
end
end L3

set_option Elab.async false
set_option linter.all false
set_option maxRecDepth 100000
set_option maxHeartbeats 4000000
namespace L3
open PySem PySem.Spec PyProof.Rows L2

abbrev ltD (k : D → Int × Int) (x y : D) : Bool := SrtO.lexB (k x) (k y)
theorem ltD_swo (k : D → Int × Int) : SrtO.Swo (ltD k) := ⟨fun x y h => by
    have a := SrtO.lexB_iff.mp h
    refine SrtO.lexB_no.mpr ?_
    omega, fun x y z h1 h2 => by
    have a := SrtO.lexB_no.mp h1
    have b := SrtO.lexB_no.mp h2
    refine SrtO.lexB_no.mpr ?_
    omega⟩
def insK (k : D → Int × Int) (d : D) : List D → List D
  | [] => [d]
  | e :: l => if SrtO.lexB (k e) (k d) = true then e :: insK k d l else d :: e :: l
def srtK (k : D → Int × Int) (ds : List D) : List D := ds.foldr (insK k) []
theorem insK_perm (k : D → Int × Int) (d : D) : ∀ l, (insK k d l).Perm (d :: l)
  | [] => .refl _
  | e :: l => by
    unfold insK
    split
    · exact ((insK_perm k d l).cons e).trans (List.Perm.swap _ _ _)
    · exact .refl _
theorem insK_srtd (k : D → Int × Int) (d : D) : ∀ l, SrtO.Srtd (ltD k) l → SrtO.Srtd (ltD k) (insK k d l)
  | [], _ => SrtO.srtd_one d
  | e :: l, h => by
    unfold insK
    split
    · rename_i c
      refine List.pairwise_cons.mpr ⟨fun y hy => ?_, insK_srtd k d l (List.pairwise_cons.mp h).2⟩
      rcases List.mem_cons.mp ((insK_perm k d l).mem_iff.mp hy) with z | z
      · rw [z]; exact (ltD_swo k).asym e d c
      · exact SrtO.srtd_head h y z
    · rename_i c
      have c : ltD k e d = false := by
        rcases SrtO.bcase (ltD k e d) with q | q
        · exact absurd q c
        · exact q
      exact List.pairwise_cons.mpr ⟨fun y hy => (ltD_swo k).le_all h c y hy, h⟩
theorem insK_stb (k : D → Int × Int) (d : D) : ∀ l, SrtO.Stb (ltD k) (insK k d l) (d :: l)
  | [] => SrtO.Stb.refl _
  | e :: l => by
    unfold insK
    split
    · rename_i c
      refine (SrtO.Stb.app (a := [e]) (b := [e]) (SrtO.Stb.refl _) (insK_stb k d l)).trans ?_
      exact SrtO.Stb.app (a := [e] ++ [d]) (b := [d] ++ [e]) (c := l) (d := l) (SrtO.Stb.swap (ltD_swo k) fun a ha b hb => by rw [List.mem_singleton.mp ha, List.mem_singleton.mp hb]; exact c) (SrtO.Stb.refl _)
    · exact SrtO.Stb.refl _
theorem srtK_srtd (k : D → Int × Int) : ∀ ds, SrtO.Srtd (ltD k) (srtK k ds)
  | [] => List.Pairwise.nil
  | d :: ds => insK_srtd k d _ (srtK_srtd k ds)
theorem srtK_stb (k : D → Int × Int) : ∀ ds, SrtO.Stb (ltD k) (srtK k ds) ds
  | [] => SrtO.Stb.refl _
  | d :: ds => (insK_stb k d _).trans (SrtO.Stb.app (a := [d]) (b := [d]) (SrtO.Stb.refl _) (srtK_stb k ds))
theorem srtK_uniq {k : D → Int × Int} {es ds : List D} (h1 : SrtO.Srtd (ltD k) es) (h2 : SrtO.Stb (ltD k) es ds) : es = srtK k ds :=
  SrtO.stb_uniq (ltD_swo k) h1 (srtK_srtd k ds) (h2.trans ⟨(srtK_stb k ds).perm.symm, fun x => ((srtK_stb k ds).cls x).symm⟩)

section
variable {X : Cx} {pins : List (Addr × Obj)} {σ : L2.St} {F : Addr → Prop} {H : Hp} {s : Shared}
theorem lst_tup {a : Addr} {vs vs' : List V} (I : Inv X pins σ H s) (h : H a = some (.lst vs)) (h' : SqT X.K H a vs') : False := by
  obtain ⟨its, r, ⟨o, n, e, hc, _, _⟩, _⟩ := I.list (SqL.of h)
  obtain ⟨its', r', ⟨o', e', hc', _⟩, _⟩ := I.tuple h'
  rw [e] at e'; cases e'
  rw [hc] at hc'
  exact absurd hc' (by decide)
mutual
theorem Rep.uniq (I : Inv X pins σ H s) : ∀ (d : D) {v : V} {d' : D}, isPy d = true → isPy d' = true → Rep X.K F H v d → Rep X.K F H v d' → d = d'
  | .non, _, d', _, hp, .non, h => by cases h; rfl
  | .bl _, _, d', _, hp, .bl _, h => by cases h; rfl
  | .int _, _, d', _, hp, .int _, h => by cases h; rfl
  | .str _, _, d', _, hp, .str _, h => by cases h; rfl
  | .tup l, _, d', hp1, hp, .tup s1 r1, h => by
    cases h with
    | fn a => simp [isPy] at hp
    | scr h1 r2 => simp [isPy] at hp
    | lst f1 h1 r2 => exact (lst_tup I h1 s1).elim
    | tup s2 r2 =>
      have e := I.tuple_inj s1 s2
      subst e
      rw [Reps.uniq I l (by simpa [isPy] using hp1) (by simpa [isPy] using hp) r1 r2]
  | .lst l, _, d', hp1, hp, .lst f1 s1 r1, h => by
    cases h with
    | fn a => simp [isPy] at hp
    | scr h1 r2 => simp [isPy] at hp
    | tup s2 r2 => exact (lst_tup I s1 s2).elim
    | lst f2 s2 r2 =>
      have e := I.list_inj (SqL.of s1) (SqL.of s2)
      subst e
      rw [Reps.uniq I l (by simpa [isPy] using hp1) (by simpa [isPy] using hp) r1 r2]
  | .ty _, _, _, h, _, _, _ => by simp [isPy] at h
  | .fn _, _, _, h, _, _, _ => by simp [isPy] at h
  | .scr _, _, _, h, _, _, _ => by simp [isPy] at h
theorem Reps.uniq (I : Inv X pins σ H s) : ∀ (ds : List D) {vs : List V} {es : List D}, isPys ds = true → isPys es = true → Reps X.K F H vs ds → Reps X.K F H vs es → ds = es
  | [], _, _, _, _, .nil, .nil => rfl
  | d :: ds, _, es, h, h', .cons a r, q => by
    cases q with
    | @cons v0 vs0 e es a' r' =>
      have h2 : isPy d = true ∧ isPys ds = true := by simpa [isPys] using h
      have h3 : isPy e = true ∧ isPys es = true := by simpa [isPys] using h'
      rw [Rep.uniq I d h2.1 h3.1 a a', Reps.uniq I ds h2.2 h3.2 r r']
end
theorem isPys_mem : ∀ {ds : List D} {d : D}, isPys ds = true → d ∈ ds → isPy d = true
  | e :: ds, d, h, hd => by
    have h2 : isPy e = true ∧ isPys ds = true := by simpa [isPys] using h
    rcases List.mem_cons.mp hd with z | z
    · rw [z]; exact h2.1
    · exact isPys_mem h2.2 z
/-- what the values stand for, as a function -/
noncomputable def phi (K : PySem.W.Frag) (F : Addr → Prop) (H : Hp) (ds : List D) (u : Value) : D :=
  @dite D (∃ d, d ∈ ds ∧ ∃ v, L2.RelV v u ∧ Rep K F H v d) (Classical.propDecidable _) (fun h => h.choose) (fun _ => .non)
theorem phi_key (I : Inv X pins σ H s) {ds : List D} {vs : List V} {us : List Value} (hp : isPys ds = true) (r : Reps X.K F H vs ds) (rv : Vals vs us) (i : Nat) (u : Value) (hu : us[i]? = some u) :
    ds[i]? = some (phi X.K F H ds u) ∧ ∃ v, vs[i]? = some v ∧ L2.RelV v u ∧ Rep X.K F H v (phi X.K F H ds u) := by
  have l1 := rv.length
  have hi : i < us.length := (List.getElem?_eq_some_iff.mp hu).1
  have hv : vs[i]? = some (vs[i]'(by omega)) := List.getElem?_eq_getElem _
  obtain ⟨u', hu', ru⟩ := rv.get hv
  rw [hu] at hu'; cases hu'
  obtain ⟨d, hd, rd⟩ := Reps.getV r hv
  have h : ∃ d, d ∈ ds ∧ ∃ v, L2.RelV v u ∧ Rep X.K F H v d := ⟨d, List.mem_of_getElem? hd, _, ru, rd⟩
  have e : phi X.K F H ds u = h.choose := by unfold phi; exact dif_pos h
  obtain ⟨hm, v', ru', rd'⟩ := h.choose_spec
  have ev := L2.RelV.inj ru ru'
  rw [← ev] at rd'
  have e2 : d = phi X.K F H ds u := by rw [e]; exact Rep.uniq I d (isPys_mem hp (List.mem_of_getElem? hd)) (isPys_mem hp hm) rd rd'
  rw [← e2]
  exact ⟨hd, _, hv, ru, rd⟩
theorem phi_map (I : Inv X pins σ H s) {ds : List D} {vs : List V} {us : List Value} (hp : isPys ds = true) (r : Reps X.K F H vs ds) (rv : Vals vs us) : us.map (phi X.K F H ds) = ds := by
  refine List.ext_getElem? fun i => ?_
  rw [List.getElem?_map]
  cases q : us[i]? with
  | none =>
    have l1 := rv.length
    have l2 := Reps.length r
    rw [List.getElem?_eq_none_iff] at q
    symm
    show ds[i]? = none
    rw [List.getElem?_eq_none_iff]; omega
  | some u => exact (phi_key I hp r rv i u q).1.symm
theorem phi_back {φ : Value → D} : ∀ (out : List Value), (∀ u ∈ out, ∃ v, L2.RelV v u ∧ Rep X.K F H v (φ u)) → ∃ ws : List V, Vals ws out ∧ Reps X.K F H ws (out.map φ)
  | [], _ => ⟨[], .nil, .nil⟩
  | u :: out, h => by
    obtain ⟨v, h1, h2⟩ := h u List.mem_cons_self
    obtain ⟨ws, h3, h4⟩ := phi_back out fun x hx => h x (List.mem_cons_of_mem _ hx)
    exact ⟨v :: ws, .cons h1 h3, .cons h2 h4⟩
end

def SqR (K : PySem.W.Frag) (F : Addr → Prop) (H : Hp) (r : Addr) (ds : List D) : Prop :=
  (∃ lo hi, H r = some (.rng lo hi) ∧ RgOk lo hi ∧ ds = rngD lo hi) ∨ ∃ vs, (H r = some (.lst vs) ∨ SqT K H r vs) ∧ Reps K F H vs ds
abbrev LTQ := Rho → (List D → Rho → Prop) → Prop
def liftQ (B : Bg) (t : LTQ) : TE := fun σ H Q => ∃ F ρ, EnvD B F ρ σ H ∧ t ρ fun ds ρ' => ∀ r F' H', Stp B σ F ρ H F' ρ' H' → SqR B.K F' H' r ds → Q (.ref r) H'
structure DQ (X : Cx) (B : Bg) (e : Expr) (t : LTQ) : Prop where
  hk : B.K = X.K
  mono : Mono t
  pe : PE X e (liftQ B t)
section
variable {X : Cx} {B : Bg} {t : LTE} {pos : Pos}
def tQRg1 (t : LTE) : LTQ := fun ρ Q => t ρ fun w ρ1 => match val ρ1 w with
  | .int n => RgB 0 n ∧ Q (rngD 0 n) ρ1
  | _ => False
theorem dq_rng1 {a : Expr} {p : Pos} (hg : Gl X "range") (hm : X.mg "range" = none) (ha : DE X B a t) (na : starEach [a] X.env = (false, eval a X.env) :: starEach [] X.env := by rfl) : DQ X B (.Call (.Name "range" p) [a] [] pos) (tQRg1 t) := by
  refine ⟨ha.hk, fun ρ Q Q' h q => ha.mono _ _ _ (fun w ρ1 z => ?_) q, ⟨fun pins s σ H Q I ⟨F, ρ, E, q⟩ => ?_⟩⟩
  · split at z
    · exact ⟨z.1, h _ _ z.2⟩
    · exact z
  have q2 : lift B t σ H fun v H1 => ∃ n, v = V.int n ∧ ∀ p, H1 p = none → Q (.ref p) (upd H1 p (.rng 0 n)) := by
    refine ⟨F, ρ, E, ha.mono _ _ _ (fun w ρ1 z => ?_) q⟩
    intro v F1 H1 s1 r1
    split at z
    · rename_i n en
      refine ⟨n, RW.int s1.env r1 en, fun p hp => ?_⟩
      refine z.2 p F1 _ (s1.trans E (stp_upd s1.env hp)) (.inl ⟨0, n, upd_same, ⟨by omega, by omega, z.1.2.1.1, z.1.2.1.2, z.1.2.2⟩, rfl⟩)
    · exact z.elim
  refine Call_ (ld_blt I hg hm boot_range (PyProof.Rows.callWith_type1 (one_arg ha.pe I q2 (fun v s2 x H2 I2 r q => ?_) na) na))
  obtain ⟨n, rfl, q⟩ := q
  obtain ⟨t, rfl⟩ := r
  refine call_range_1 ⟨.ref s2.heap.objs.size, upd H2 s2.heap.objs.size (.rng 0 n), I2.laid (t' := s2.toks + 1 + 1) (fun b o e => Heap.get?_push_of_some _ e) (Nat.le_refl _) ?_, rfl, q _ (I2.hok.fresh (Nat.le_refl _))⟩
  exact ⟨s2.toks, t, s2.toks + 1, Heap.get?_push_size _ rfl⟩
def tQV (t : LTE) : LTQ := fun ρ Q => t ρ fun w ρ1 => match val ρ1 w with
  | .lst l => Q l ρ1
  | .tup l => Q l ρ1
  | _ => False
theorem dq_val {e : Expr} (he : DE X B e t) : DQ X B e (tQV t) := by
  refine ⟨he.hk, fun ρ Q Q' h q => he.mono _ _ _ (fun w ρ1 z => ?_) q, pe_imp he.pe ?_⟩
  · split at z
    · exact h _ _ z
    · exact h _ _ z
    · exact z
  rintro σ H Q ⟨F, ρ, E, q⟩
  refine ⟨F, ρ, E, he.mono _ _ _ (fun w ρ1 z => ?_) q⟩
  intro v F1 H1 s1 r1
  split at z
  · rename_i l ev
    obtain ⟨a, vs, rfl, h1, h2⟩ := RW.lst s1.env r1 ev
    exact z a F1 H1 s1 (.inr ⟨vs, .inl h1, h2⟩)
  · rename_i l ev
    obtain ⟨a, vs, rfl, h1, h2⟩ := RW.tup s1.env r1 ev
    exact z a F1 H1 s1 (.inr ⟨vs, .inr h1, h2⟩)
  · exact z.elim
end
end L3

set_option Elab.async false
set_option linter.all false
set_option maxRecDepth 100000
set_option maxHeartbeats 4000000
namespace L3
open PySem PySem.Spec PyProof.Rows L2
section
variable {X : Cx} {B : Bg} {F F' : Addr → Prop} {ρ ρ' : Rho} {σ : L2.St} {H H' : Hp} {v : V} {d : D}
theorem own_snoc {b : Addr} (hl : ρ.length = σ.length) : OwnA (ρ ++ [.dat d]) (σ ++ [some v]) b ↔ OwnA ρ σ b := by
  constructor
  · rintro ⟨i, l, h1, h2⟩
    have hi : i < ρ.length := by
      by_cases hi : i < ρ.length
      · exact hi
      · rw [List.getElem?_append_right (by omega)] at h1
        have : i - ρ.length = 0 := by
          have := (List.getElem?_eq_some_iff.mp h1).1
          simp at this; omega
        rw [this] at h1; simp at h1
    rw [List.getElem?_append_left hi] at h1
    rw [List.getElem?_append_left (by omega)] at h2
    exact ⟨i, l, h1, h2⟩
  · rintro ⟨i, l, h1, h2⟩
    have hi : i < ρ.length := (List.getElem?_eq_some_iff.mp h1).1
    exact ⟨i, l, by rw [List.getElem?_append_left hi]; exact h1, by rw [List.getElem?_append_left (by omega)]; exact h2⟩
theorem snoc_own {i : Nat} {l : List D} (h : (ρ ++ [.dat d])[i]? = some (.own l)) : i < ρ.length ∧ ρ[i]? = some (.own l) := by
  by_cases hi : i < ρ.length
  · rw [List.getElem?_append_left hi] at h; exact ⟨hi, h⟩
  · rw [List.getElem?_append_right (by omega)] at h
    have : i - ρ.length = 0 := by
      have := (List.getElem?_eq_some_iff.mp h).1
      simp at this; omega
    rw [this] at h; simp at h
theorem env_snoc (E : EnvD B F ρ σ H) (r : Rep B.K F H v d) : EnvD B F (ρ ++ [.dat d]) (σ ++ [some v]) H := by
  have hl := E.len
  refine ⟨fun i e h => ?_, fun i l h => ?_, fun i j l l' p h1 h2 h3 h4 => ?_, by simp [hl], E.base, E.there, E.fz, E.fz0, E.fh, fun p hp => ?_, E.tabs⟩
  · by_cases hi : i < ρ.length
    · rw [List.getElem?_append_left hi] at h
      rw [List.getElem?_append_left (by omega)]
      exact E.dat i e h
    · rw [List.getElem?_append_right (by omega)] at h
      have z : i - ρ.length = 0 := by
        have := (List.getElem?_eq_some_iff.mp h).1
        simp at this; omega
      rw [z] at h
      have e2 : d = e := by simpa using h
      subst e2
      refine ⟨v, ?_, r⟩
      rw [List.getElem?_append_right (by omega), ← hl, z]; rfl
  · obtain ⟨hi, h⟩ := snoc_own h
    rw [List.getElem?_append_left (by omega)]
    exact E.own i l h
  · obtain ⟨hi, h1⟩ := snoc_own h1
    obtain ⟨hj, h2⟩ := snoc_own h2
    rw [List.getElem?_append_left (by omega)] at h3 h4
    exact E.apart i j l l' p h1 h2 h3 h4
  · obtain ⟨h1, l, h2⟩ := E.mp p hp
    have h3 : 0 < ρ.length := (List.getElem?_eq_some_iff.mp h2).1
    exact ⟨by rw [List.getElem?_append_left (by omega)]; exact h1, l, by rw [List.getElem?_append_left h3]; exact h2⟩
theorem env_drop (hl : ρ.length = σ.length) (E : EnvD B F (ρ ++ [.dat d]) (σ ++ [some v]) H) : EnvD B F ρ σ H := by
  have up : ∀ {i : Nat} {s : Slot}, ρ[i]? = some s → (ρ ++ [.dat d])[i]? = some s ∧ i < σ.length := fun {i s} h => by
    have hi : i < ρ.length := (List.getElem?_eq_some_iff.mp h).1
    exact ⟨by rw [List.getElem?_append_left hi]; exact h, by omega⟩
  refine ⟨fun i e h => ?_, fun i l h => ?_, fun i j l l' p h1 h2 h3 h4 => ?_, hl, E.base, E.there, E.fz, E.fz0, E.fh, fun p hp => ?_, E.tabs⟩
  · obtain ⟨w, h1, h2⟩ := E.dat i e (up h).1
    rw [List.getElem?_append_left (up h).2] at h1
    exact ⟨w, h1, h2⟩
  · obtain ⟨p, vs, h1, h2⟩ := E.own i l (up h).1
    rw [List.getElem?_append_left (up h).2] at h1
    exact ⟨p, vs, h1, h2⟩
  · exact E.apart i j l l' p (up h1).1 (up h2).1 (by rw [List.getElem?_append_left (up h1).2]; exact h3) (by rw [List.getElem?_append_left (up h2).2]; exact h4)
  · obtain ⟨h1, l, h2⟩ := E.mp p hp
    obtain ⟨h3, h2⟩ := snoc_own h2
    rw [List.getElem?_append_left (by omega)] at h1
    exact ⟨h1, l, h2⟩
theorem stp_drop (hl : ρ.length = σ.length) (s : Stp B (σ ++ [some v]) F (ρ ++ [.dat d]) H F' (ρ ++ [.dat d]) H') : Stp B σ F ρ H F' ρ H' :=
  ⟨env_drop hl s.env, ⟨fun b o h n => s.ext.keep b o h fun z => n ((own_snoc hl).mp z), s.ext.there, s.ext.up, fun b h => (s.ext.new b h).imp id (Or.imp id fun z => (own_snoc hl).mp z)⟩, fun b h => .inl h, .refl⟩
/-- a lambda is made: the table at P grows, all else is kept -/
theorem stp_lam {P : Addr} {q : Str} (E : EnvD B F ρ σ H) (hin : (P, some q) ∈ B.T) (hT : ∀ p ∈ B.T, p.1 = P → p.2 = some q) (k : ∀ b o, H b = some o → b ≠ P → H' b = some o) (t : LamX.TabS H' P q) : Stp B σ F ρ H F ρ H' := by
  obtain ⟨ps, e, _⟩ : LamX.TabS H P q := E.tabs _ hin
  have th : ∀ b, H b ≠ none → H' b ≠ none := fun b h => by
    by_cases z : b = P
    · obtain ⟨qs, e2, _⟩ := t
      rw [z, e2]; exact fun y => nomatch y
    · cases q : H b with
      | none => exact absurd q h
      | some o => rw [k b o q z]; exact fun y => nomatch y
  have nP : ∀ b o, H b = some o → NoTbl o → b ≠ P := fun b o h n z => by
    rw [z, e] at h; cases h; exact n ps rfl
  refine stp_same E (fun b o h n => k b o h (nP b o h n)) th (fun p hp => ?_) (fun _ h => h) (fun _ h => .inl h) fun b h => th b (E.fh b h)
  have h0 := E.tabs p hp
  by_cases z : p.1 = P
  · rw [hT p hp z, z]; exact t
  · revert h0
    cases p.2 with
    | none => exact fun ⟨qs, h1, h2⟩ => ⟨qs, k _ _ h1 z, h2⟩
    | some q => exact fun ⟨qs, h1, h2, h3⟩ => ⟨qs, k _ _ h1 z, h2, fun pos cv hc => let ⟨c, e1, e2⟩ := h3 pos cv hc; ⟨c, e1, k _ _ e2 (nP c _ e2 fun ps z => LamX.codeO_ne ps z)⟩⟩
theorem SqR.keep {K : PySem.W.Frag} {P r : Addr} {ds : List D} {ps : Array Value} (hP : H P = some (.tbl ps)) (k : ∀ b o, H b = some o → b ≠ P → H' b = some o) (hr : ∀ vs, Reps K F H vs ds → Reps K F H' vs ds) (h : SqR K F H r ds) : SqR K F H' r ds := by
  have ne : ∀ o, H r = some o → NoTbl o → r ≠ P := fun o e n z => by
    rw [z, hP] at e; cases e; exact n ps rfl
  rcases h with ⟨lo, hi, h1, h2⟩ | ⟨vs, h1, h2⟩
  · exact .inl ⟨lo, hi, k _ _ h1 (ne _ h1 fun ps z => nomatch z), h2⟩
  · refine .inr ⟨vs, ?_, hr vs h2⟩
    rcases h1 with h1 | (h1 | ⟨o, h1⟩) | h1
    · exact .inl (k _ _ h1 (ne _ h1 fun ps z => nomatch z))
    · exact .inr (.inl (.inl (k _ _ h1 (ne _ h1 fun ps z => nomatch z))))
    · exact .inr (.inl (.inr ⟨o, k _ _ h1 (ne _ h1 fun ps z => nomatch z)⟩))
    · exact .inr (.inr h1)
/-- the key that a lambda gives -/
def keyD (pr : Bool) (d : D) (k : Int × Int) : Prop := if pr = true then d = .tup [.int k.1, .int k.2] else k.2 = 0 ∧ d = .int k.1
theorem keyD_v {pr : Bool} {w : W} {u : V} {k : Int × Int} {Hs : Hp} (E : EnvD B F ρ σ H) (r : RW B F ρ σ Hs H w u) (h : keyD pr (val ρ w) k) : KeyV B.K pr H u k := by
  unfold keyD at h
  unfold KeyV
  split at h
  · rename_i e
    rw [if_pos e]
    obtain ⟨a, vs, rfl, h1, h2⟩ := RW.tup E r h
    refine ⟨a, rfl, ?_⟩
    have e2 : vs = [V.int k.1, V.int k.2] := by
      have := Reps.ints (ns := [k.1, k.2]) h2
      simpa using this
    rw [← e2]; exact h1
  · rename_i e
    rw [if_neg e]
    exact ⟨h.1, RW.int E r h.2⟩
theorem coll_sqR {pins : List (Addr × Obj)} {s : Shared} {r : Addr} {ds : List D} {A : Around} {E : Value → Shared → Prop} (hk : B.K = X.K) (I : Inv X pins σ H s) (hd : A.handled = none) (h : SqR B.K F H r ds) :
    ∀ Q' : List Value → Shared → Prop, (∀ (h' : Heap) (tk : Nat) (us : List Value), (∀ b o, s.heap.get? b = some o → h'.get? b = some o) → (∃ vs, Vals vs us ∧ Reps B.K F H vs ds) → us.length ≤ sizeLine → Q' us { s with heap := h', toks := tk }) → wpAny (model X.prog X.w) A (collect (.ref r)) Q' E s := fun Q' hQ => by
  rcases h with ⟨lo, hi, h1, ⟨b1, b2, b3, b4, b5⟩, rfl⟩ | ⟨vs, h1, h2⟩
  · obtain ⟨t, u, v, e⟩ := I.hok _ _ h1
    refine collect_range (n := (hi - lo).toNat) hd (show IsRange s.heap r lo hi 1 t u v from e) (small_one b1 b2 b3 b4) (rangeSize_nat lo hi) b5 fun h' tk acc k ha => ?_
    refine hQ h' tk acc.toList k ⟨rgV lo hi, vals_rg ha, reps_rng lo hi⟩ ?_
    rw [Array.length_toList, ha.1, sizeLine_eq]; omega
  · rcases h1 with h1 | h1
    · obtain ⟨its, rv, pl, hz⟩ := I.list (SqL.of h1)
      have hz2 : its.length ≤ sizeLine := by rw [← rv.length]; exact hz
      refine collect_list (A := A) pl.isList (hQ ((s.heap.push (seqObj "list" #[] 0)).update s.heap.objs.size (Obj.mapSeq (· ++ its.toArray))) s.toks its (fun b o e => ?_) ⟨vs, rv, h2⟩ hz2) hz2
      rw [Heap.get?_update_ne _ _ _ _ (Nat.ne_of_lt (Heap.lt_size e))]
      exact Heap.get?_push_of_some _ e
    · rw [hk] at h1
      obtain ⟨its, rv, pl, hz⟩ := I.tuple h1
      have hz2 : its.length ≤ sizeLine := by rw [← rv.length]; exact hz
      refine L3T.collect_tup (A := A) pl (hQ ((s.heap.push (seqObj "list" #[] 0)).update s.heap.objs.size (Obj.mapSeq (· ++ its.toArray))) s.toks its (fun b o e => ?_) ⟨vs, rv, h2⟩ hz2) hz2
      rw [Heap.get?_update_ne _ _ _ _ (Nat.ne_of_lt (Heap.lt_size e))]
      exact Heap.get?_push_of_some _ e
end
section
variable {X : Cx} {B : Bg} {ti : LTQ} {tb : LTE} {pos : Pos}
/-- sorted(e, key=lambda x: body) -/
def tSortLam (pr : Bool) (ti : LTQ) (tb : LTE) : LTE := fun ρ Q => ti ρ fun ds ρ1 => ∃ k : D → Int × Int, isPys ds = true ∧ (∀ d ∈ ds, tb (ρ1 ++ [.dat d]) fun w ρ' => ρ' = ρ1 ++ [.dat d] ∧ keyD pr (val ρ' w) (k d)) ∧ Q (.new (srtK k ds)) ρ1
theorem de_sortLam {c P : Addr} {params : Arguments} {body e : Expr} {scope : Scope} {a : Str} {pr : Bool} {k : Nat} {p lpos kp : Pos}
    (hg : Gl X "sorted") (hm : X.mg "sorted" = none) (TB : LamX.TabB X.base X.mg c P) (hcode : X.env.code = .ref c) (hin : (P, some (X.env.qual ++ "<lambda>")) ∈ B.T) (hT : ∀ p ∈ B.T, p.1 = P → p.2 = some (X.env.qual ++ "<lambda>"))
    (hr : Room (k + 3) X.A) (dq : DQ X B e ti) (L : LamS1 X.env.scope scope a) (ha : a ∉ X.N) (hdef : defaultsOf params X.env = ([], []))
    (hbind : ∀ (cl : List (Str × Addr)) (pm cv ctv u : Value), bindArgs (PySem.W.kla_fn "<lambda>" (X.env.qual ++ "<lambda>") params body scope cl pm cv ctv) ⟨[u], []⟩ = pure [(a, u)])
    (hbody : ∀ (A : Around) (outer : List Env) (s : Shared) (H : Hp) (f c' : Addr), Room k (A.deeper (LamX.lamEnv X scope s.heap.objs.size f c')) → DE (lamCx1 X A outer s H scope a f c') B body tb)
    (he : starEach [e] X.env = (false, eval e X.env) :: starEach [] X.env := by rfl) :
    DE X B (.Call (.Name "sorted" p) [e] [⟨some "key", .Lambda params body scope lpos, kp⟩] pos) (tSortLam pr ti tb) := by
  refine ⟨dq.hk, fun ρ Q Q' h q => dq.mono _ _ _ (fun ds ρ1 ⟨k, z1, z2, z3⟩ => ⟨k, z1, z2, h _ _ z3⟩) q, ⟨fun pins s σ H Q I ⟨F, ρ, E, q⟩ => ?_⟩⟩
  refine wpAny_Call_Name_kw (ld_blt (u := .builtin "sorted") I hg hm (by decide +kernel) ?_)
  refine PyProof.Rows.callWith_kw ?_ (by rw [he]; rfl) (by rw [he]; rfl) (by rfl) (by rfl)
  rw [he]
  show wpAny _ _ (spliced ((false, eval e X.env) :: [])) _ _ s
  have q0 : liftQ B ti σ H fun v H1 => ∃ r ds ρ1 F1 κ, v = V.ref r ∧ Stp B σ F ρ H F1 ρ1 H1 ∧ SqR B.K F1 H1 r ds ∧ isPys ds = true ∧ (∀ d ∈ ds, tb (ρ1 ++ [.dat d]) fun w ρ' => ρ' = ρ1 ++ [.dat d] ∧ keyD pr (val ρ' w) (κ d)) ∧
      ∀ v F' H', Stp B σ F ρ H F' ρ1 H' → RW B F' ρ1 σ H H' (.new (srtK κ ds)) v → Q v H' := by
    refine ⟨F, ρ, E, dq.mono _ _ _ (fun ds ρ1 ⟨κ, z1, z2, z3⟩ => ?_) q⟩
    exact fun r F1 H1 s1 sq => ⟨r, ds, ρ1, F1, κ, rfl, s1, sq, z1, z2, z3⟩
  refine Calls.spliced_cons (thn (dq.pe.run pins s σ H _ I q0) fun v s1 ⟨x, H1, I1, r1, q1⟩ => ?_)
  obtain ⟨r, ds, ρ1, F1, κ, rfl, st1, sq, hpy, hkey, fin⟩ := q1
  obtain rfl : v = Value.ref r := r1
  refine Calls.spliced_nil (kwAll_cons ?_)
  have hTab : LamX.TabS H1 P (X.env.qual ++ "<lambda>") := st1.env.tabs _ hin
  obtain ⟨ps, hP, _⟩ := id hTab
  refine lam_make3 I1 TB hcode hTab hdef (L.has I1.ok) fun f c' pm ctv H2 s2 I2 kp2 tab2 hf hfn hfr hc => kwAll_nil ?_
  show wpAny _ _ (call (.builtin "sorted") [.ref r] [(Str.ofString "key", .ref f)]) _ _ s2
  have st2 : Stp B σ F1 ρ1 H1 F1 ρ1 H2 := stp_lam st1.env hin hT kp2 tab2
  have sq2 : SqR B.K F1 H2 r ds := SqR.keep hP kp2 (fun vs rr => Reps.stp st1.env rr st2) sq
  have hcx : ∀ {F' : Addr → Prop} {H' : Hp}, Stp B σ F1 ρ1 H2 F' ρ1 H' → H' c' = some (LamX.CodeO c' (X.env.qual ++ "<lambda>")) := fun st => st.ext.keep _ _ hc (fun z => by
    obtain ⟨l, e⟩ := st2.env.ownL _ z
    rw [hc] at e
    unfold LamX.CodeO at e
    cases e) fun ps z => LamX.codeO_ne ps z
  have hk : B.K = X.K := dq.hk
  have hr1 : Room (k + 1) X.A.in1.in1 := (show Room ((k + 1) + 1) X.A.in1 from (show Room ((k + 2) + 1) X.A from hr).in1).in1
  have mb : Mono tb := (hbody X.A.in1.in1 X.stack s2 H2 f c' (hr1.deeper _)).mono
  refine call_sortedLam (pr := pr) (IV := fun us => ∃ vs, Vals vs us ∧ Reps B.K F1 H2 vs ds) (κ := fun u => κ (phi X.K F1 H2 ds u)) (T := fun H' => ∃ F', Stp B σ F1 ρ1 H2 F' ρ1 H') I2 ⟨F1, .refl st2.env⟩
    (coll_sqR hk I2 hr.hd sq2) (fun us u s3 H3 iv hu sn T3 => ?_) fun s3 H3 d us out iv sn T3 nd hd0 hd hz h1 h2 => ?_
  · obtain ⟨vs, rv, rr⟩ := iv
    obtain ⟨F3, st3⟩ := T3
    obtain ⟨i, hi⟩ := List.getElem?_of_mem hu
    rw [hk] at rr
    obtain ⟨hd, v, _, ru, rd⟩ := phi_key I2 hpy rr rv i u hi
    have rd3 := Rep.stp st2.env (show Rep B.K F1 H2 v (phi X.K F1 H2 ds u) from by rw [hk]; exact rd) st3
    have hl := st3.env.len
    refine lam_turn I2 L ha hf hfn hfr (fun u => hbind _ _ _ _ u) hr (tb := lift B tb) (fun A outer s H hr' => (hbody A outer s H f c' ?_).pe) sn (hcx st3) ru ?_
    · exact hr'
    refine ⟨F3, ρ1 ++ [.dat (phi X.K F1 H2 ds u)], env_snoc st3.env rd3, mb _ _ _ (fun w ρ' z => ?_) (hkey _ (List.mem_of_getElem? hd))⟩
    intro v' F4 H4 s4 r4
    obtain ⟨rfl, kd⟩ := z
    have kv := keyD_v s4.env r4 kd
    rw [show B.K = X.K from hk] at kv
    refine ⟨kv, F4, st3.trans st2.env (stp_drop hl s4)⟩
  · obtain ⟨vs, rv, rr⟩ := iv
    obtain ⟨F3, st3⟩ := T3
    rw [hk] at rr
    have e1 : us.map (phi X.K F1 H2 ds) = ds := phi_map I2 hpy rr rv
    have e2 : out.map (phi X.K F1 H2 ds) = srtK κ ds := by
      refine srtK_uniq (SrtO.srtd_map h1) ?_
      have q := SrtO.Stb.map (lt := ltD κ) (ltD_swo κ) (phi X.K F1 H2 ds) h2
      rw [e1] at q
      exact q
    obtain ⟨ws, rw1, rw2⟩ := phi_back (X := X) (F := F1) (H := H2) (φ := phi X.K F1 H2 ds) out fun u hu => by
      obtain ⟨i, hi⟩ := List.getElem?_of_mem (h2.perm.mem_iff.mp hu)
      obtain ⟨_, v, _, ru, rd⟩ := phi_key I2 hpy rr rv i u hi
      exact ⟨v, ru, rd⟩
    rw [e2, ← hk] at rw2
    have rw3 := Reps.stp st2.env rw2 st3
    obtain ⟨n, hn⟩ := hd
    have sn2 : Since X s2 H2 s3 (upd H3 d (.lst ws)) := sn.lay hd0 nd ⟨by rw [rw1.length]; exact hz, out, n, rw1, hn⟩
    have nn := new_lst st3.env nd rw3
    refine ⟨.ref d, upd H3 d (.lst ws), sn2.inv I2, rfl, fin _ F3 _ (st1.trans E (st2.trans st1.env (st3.trans st2.env nn.1))) ?_⟩
    exact RW.back (RW.back (RW.back nn.2 st3.ext.there) st2.ext.there) st1.ext.there
end
end L3

set_option Elab.async false
set_option linter.all false
set_option maxRecDepth 100000
set_option maxHeartbeats 4000000
namespace L3
open PySem PySem.Spec PyProof.Rows L2
section
variable {P : Program} {w : World} {A : Around} {E : Value → Shared → Prop} {s : Shared}
theorem call_set_tupsT {l : Addr} {items : Array Value} (ks : List (Addr × List Int)) {Q : Value → Shared → Prop} (hh : A.handled = none) (hl : s.heap.IsTuple l items) (hit : items.toList = ks.map fun p => Value.ref p.1)
    (hk : ∀ p ∈ ks, IsT P w s.heap p.2 p.1) (hfew : ks.length < 64) (hu : A.units + 3 < cLine)
    (h : ∀ (h' : Heap) (tk : Nat) L es ep t, SetTR P w h' s.heap.objs.size L es ep t → Got ks ks.length L → (∀ b o, s.heap.get? b = some o → h'.get? b = some o) → Q (.ref s.heap.objs.size) { s with heap := h', toks := tk }) :
    wpAny (model P w) A (call (.type "set") [.ref l]) Q E s := by
  have hisz : items.size = ks.length := by
    have q := congrArg List.length hit
    rw [Array.length_toList, List.length_map] at q
    exact q
  obtain ⟨c, tl, hmro⟩ := F.called_set.mro
  have hmade := F.called_set.made
  have hsub := F.called_set.sub
  refine wpAny_call (codeAny_of_tree ?_)
  show wpAny _ _ (callAny (.type "set") _) _ _ _
  refine wpAny_pure ⟨Code.quiet_builtin _ (by decide +kernel), codeAny_builtin F.entry_type_call ?_⟩
  rw [Around.under_plain (weight_type_call_type "set" [.ref l] []) rfl]
  have h1 := F.called_set.notType
  have h2 := F.called_set.canCreate
  have hct := F.typeCall_set_1 (.ref l)
  repeat (any_goals (first | assumption | wp_step))

  refine codeAny_mono (code_set_led1 (.ref l) (E := E) (Q₁ := fun obj s₁ => obj = .ref s.heap.objs.size ∧ s₁ = { s with heap := s.heap.push { cls := .type "set", dict := none, data := .set #[] 0 (.fresh 0 0 (!w.params.followText "set-order")) } }) ⟨rfl, rfl⟩) fun r s₁ hr => ?_
  cases r with
  | error e => exact hr
  | ok fl =>
    cases fl with
    | ret obj =>
      obtain ⟨rfl, rfl⟩ := hr
      have hS : (s.heap.push { cls := .type "set", dict := none, data := .set #[] 0 (.fresh 0 0 (!w.params.followText "set-order")) }).get? s.heap.objs.size = some { cls := .type "set", dict := none, data := .set #[] 0 (.fresh 0 0 (!w.params.followText "set-order")) } := Heap.get?_push_size _ rfl
      have hT : Shared.TypeIs { s with heap := s.heap.push { cls := .type "set", dict := none, data := .set #[] 0 (.fresh 0 0 (!w.params.followText "set-order")) } } (.ref s.heap.objs.size) "set" := ⟨_, hS, rfl⟩
      have hli := F.called_set.init.lookup
      have hbi := F.called_set.init.bind (.ref s.heap.objs.size)
      repeat (any_goals (first | assumption | wp_step))

      refine codeAny_mono (codeAny_call_builtin (R := wants (fun r s₂ => r = .none ∧ ∃ h' tk L es ep t, s₂ = { s with heap := h', toks := tk } ∧ SetTR P w h' s.heap.objs.size L es ep t ∧ Got ks ks.length L ∧
          (∀ b o, s.heap.get? b = some o → h'.get? b = some o)) E) F.called_set.init.plain F.entry_set_init (check_set_init_1 hT ?_)) fun r₂ s₂ hr₂ => ?_
      · obtain ⟨ol, hol, hcl, nl, hdl⟩ := _root_.id hl
        obtain ⟨ocls, odict, odata, oslots⟩ := ol
        simp only at hcl hdl
        subst hcl; subst hdl
        have hol' : (s.heap.push { cls := .type "set", dict := none, data := .set #[] 0 (.fresh 0 0 (!w.params.followText "set-order")) }).get? l = some { cls := .type "tuple", dict := odict, data := .seq items nl, slots := oslots } := Heap.get?_push_of_some _ hol
        have hsls := F.sub_tuple_set
        have hslf := F.sub_tuple_frozenset
        have hne : (Value.type "tuple" == Value.type "dict") = false := by decide
        have hl1 : (s.heap.push { cls := .type "set", dict := none, data := .set #[] 0 (.fresh 0 0 (!w.params.followText "set-order")) }).IsTuple l items := ⟨_, hol', rfl, nl, rfl⟩
        unfold Builtin.«set.__init__» noKeywords Builtin.Frozenset.updateFrom
        generalize hPI : pyIter = PI
        wp_walk
        subst hPI

        refine wpAny_pyIter_tuple hl1 ?_
        refine wpAny_bind (wpAny_runValue ?_)
        have hlS : l < s.heap.objs.size := Heap.lt_size hol
        have hh3 : A.in1.in1.in1.handled = none := by simp [hh]
        have hz1 : (s.heap.push { cls := .type "set", dict := none, data := .set #[] 0 (.fresh 0 0 (!w.params.followText "set-order")) }).objs.size = s.heap.objs.size + 1 := Heap.size_push ..
        have hneI : l ≠ (s.heap.push { cls := .type "set", dict := none, data := .set #[] 0 (.fresh 0 0 (!w.params.followText "set-order")) }).objs.size := by
          rw [Heap.size_push]; exact Nat.ne_of_lt (Nat.lt_succ_of_lt hlS)
        have hSf : s.heap.objs.size ∉ [(s.heap.push { cls := .type "set", dict := none, data := .set #[] 0 (.fresh 0 0 (!w.params.followText "set-order")) }).objs.size, l] := by
          rw [Heap.size_push]; simp only [List.mem_cons, List.mem_singleton, List.not_mem_nil, or_false, not_or]
          exact ⟨Nat.ne_of_lt (Nat.lt_succ_self _), Nat.ne_of_gt hlS⟩
        have hval : ∀ (i : Nat) (v : Value), items[i]? = some v → ∃ p, ks[i]? = some p ∧ v = .ref p.1 := fun i v hv => by
          have q : items.toList[i]? = some v := by rw [Array.getElem?_toList]; exact hv
          rw [hit, List.getElem?_map] at q
          cases hq : ks[i]? with
          | none => rw [hq] at q; cases q
          | some p =>
            rw [hq] at q
            exact ⟨p, rfl, (Option.some.inj q).symm⟩
        have none_of : ∀ b, s.heap.objs.size ≤ b → s.heap.get? b = none := fun b hb => by
          cases q : s.heap.get? b with
          | none => rfl
          | some o => exact absurd (Nat.lt_of_lt_of_le (Heap.lt_size q) hb) (Nat.lt_irrefl _)
        refine set_update_tups ((Walks.tuple hh3 _ l hneI items).toS) s.heap.objs.size
          hSf ks hisz hfew hval s.heap hk (none_of _ (Nat.le_refl _)) (fun b hb => none_of b (by
            rw [List.mem_singleton.mp hb, Heap.size_push]
            exact Nat.le_succ _)) hu (items.size - 0) 0 _ (by omega) (Nat.zero_le _)
          ⟨⟨_, Heap.get?_push_size _ rfl, rfl, rfl⟩, (hl1.push _)⟩ (fun b o e => Heap.get?_push_of_some _ (Heap.get?_push_of_some _ e)) ?hS0 ?hR
        case hS0 =>
          have hget : ((s.heap.push { cls := .type "set", dict := none, data := .set #[] 0 (.fresh 0 0 (!w.params.followText "set-order")) }).push { cls := .type "tuple_iterator", data := .fields #[.ref l, .int 0 0] }).get? s.heap.objs.size
              = some { cls := .type "set", dict := none, data := .set #[] 0 (.fresh 0 0 (!w.params.followText "set-order")) } := Heap.get?_push_of_some _ hS
          exact ⟨[], #[], 0, _, setTR_fresh hget, Got.zero ks⟩
        case hR =>
          intro s' L es ep t hm hS' g' hkp
          obtain ⟨h', g2, d', tk', os'⟩ := s'
          have eg : g2 = s.gens := hm.gens
          have ed : d' = s.drawn := hm.drawn
          have eo : os' = s.os := hm.os
          subst eg; subst ed; subst eo
          show wpAny _ _ _ _ _ _
          refine wpAny_pure ?_
          show wpAny _ _ (ret Value.none) _ _ _
          rw [hisz] at g'
          exact wpAny_pure ⟨rfl, h', tk', L, es, ep, t, rfl, hS', g', hkp⟩

      · cases r₂ with
        | error e => exact hr₂
        | ok fl₂ =>
          cases fl₂ with
          | ret r =>
            obtain ⟨rfl, h', tk, L, es, ep, t, rfl, hS', g', hk'⟩ := hr₂
            repeat (any_goals (first | assumption | wp_step))
            exact h _ _ _ _ _ _ hS' g' hk'
          | _ => exact hr₂.elim
    | _ => exact hr.elim
end
/-- how many there are, each counted once -/
def ddL (l : List (List Int)) : List (List Int) := l.foldr (fun x r => if x ∈ r then r else x :: r) []
theorem ddL_mem (x : List Int) : ∀ l : List (List Int), x ∈ ddL l ↔ x ∈ l
  | [] => Iff.rfl
  | y :: l => by
    show x ∈ (if y ∈ ddL l then ddL l else y :: ddL l) ↔ _
    have ih := ddL_mem x l
    split
    · rename_i h
      rw [ih, List.mem_cons]
      exact ⟨.inr, fun z => z.elim (fun e => by rw [e]; exact (ddL_mem y l).mp h) id⟩
    · rw [List.mem_cons, List.mem_cons, ih]
theorem ddL_nodup : ∀ l : List (List Int), (ddL l).Nodup
  | [] => List.nodup_nil
  | y :: l => by
    show (if y ∈ ddL l then ddL l else y :: ddL l).Nodup
    split
    · exact ddL_nodup l
    · rename_i h
      exact List.nodup_cons.mpr ⟨h, ddL_nodup l⟩
theorem ddL_id : ∀ l : List (List Int), l.Nodup → ddL l = l
  | [], _ => rfl
  | y :: l, h => by
    have h2 := List.nodup_cons.mp h
    show (if y ∈ ddL l then ddL l else y :: ddL l) = _
    rw [ddL_id l h2.2, if_neg h2.1]
theorem nodup_len {l m : List (List Int)} (h1 : l.Nodup) (h2 : m.Nodup) (h : ∀ x, x ∈ l ↔ x ∈ m) : l.length = m.length :=
  ((List.perm_ext_iff_of_nodup h1 h2).mpr h).length_eq
def tupI (n : List Int) : D := .tup (n.map D.int)
theorem reps_tups {K : PySem.W.Frag} {F : Addr → Prop} {H : Hp} : ∀ {nss : List (List Int)} {vs : List V}, Reps K F H vs (nss.map tupI) → ∃ ks : List (Addr × List Int), vs = ks.map (fun p => V.ref p.1) ∧ ks.map (·.2) = nss ∧ ∀ p ∈ ks, SqT K H p.1 (p.2.map V.int)
  | [], _, .nil => ⟨[], rfl, rfl, fun p h => nomatch h⟩
  | n :: nss, _, .cons a r => by
    obtain ⟨ks, rfl, e2, h⟩ := reps_tups r
    match a with
    | .tup (a := a0) h1 r1 =>
      have e := Reps.ints r1
      subst e
      refine ⟨(a0, n) :: ks, rfl, by rw [List.map_cons, e2], fun p hp => ?_⟩
      rcases List.mem_cons.mp hp with z | z
      · rw [z]; exact h1
      · exact h p z
section
variable {X : Cx} {B : Bg} {t : LTE} {pos : Pos}
def tLenSetT (t : LTE) : LTE := fun ρ Q => t ρ fun w ρ1 => ∃ nss : List (List Int), val ρ1 w = .tup (nss.map tupI) ∧ nss.length < 64 ∧ Q (.dat (.int (ddL nss).length)) ρ1
theorem de_lenSetT {a : Expr} {k : Nat} {p p2 q : Pos} (hc : X.calm = true) (hr : Room k X.A) (hg : Gl X "len") (hm : X.mg "len" = none) (hg2 : Gl X "set") (hm2 : X.mg "set" = none) (ha : DE X B a t)
    (na : starEach [a] X.env = (false, eval a X.env) :: starEach [] X.env := by rfl) : DE X B (.Call (.Name "len" p) [.Call (.Name "set" p2) [a] [] q] [] pos) (tLenSetT t) := by
  refine ⟨ha.hk, fun ρ Q Q' h q => ha.mono _ _ _ (fun w ρ1 ⟨n, z1, z2, z3⟩ => ⟨n, z1, z2, h _ _ z3⟩) q, ⟨fun pins s σ H Q I ⟨F, ρ, E, qq⟩ => ?_⟩⟩
  have q0 : lift B t σ H fun v H1 => ∃ (l : Addr) (ks : List (Addr × List Int)), v = V.ref l ∧ SqT B.K H1 l (ks.map fun p => V.ref p.1) ∧ (∀ p ∈ ks, SqT B.K H1 p.1 (p.2.map V.int)) ∧ ks.length < 64 ∧ Q (.int (ddL (ks.map (·.2))).length) H1 := by
    refine ⟨F, ρ, E, ha.mono _ _ _ (fun w ρ1 z => ?_) qq⟩
    intro v F1 H1 s1 r1
    obtain ⟨nss, ev, hl, z⟩ := z
    obtain ⟨l, vs, rfl, h1, h2⟩ := RW.tup s1.env r1 ev
    obtain ⟨ks, rfl, e2, hk⟩ := reps_tups h2
    refine ⟨l, ks, rfl, h1, hk, by rw [← e2, List.length_map] at hl; exact hl, ?_⟩
    rw [e2]
    exact z _ F1 H1 s1 (Rep.int _)
  refine Call_ (ld_blt I hg hm PySem.boot_len ?_)
  refine PyProof.Rows.callWith_builtin1 (PyProof.Rows.args_cons ?_ rfl) rfl rfl
  refine Call_ (ld_blt I hg2 hm2 PyProof.Rows.boot_set ?_)
  refine PyProof.Rows.callWith_type1 (PyProof.Rows.args_cons (thn (ha.pe.run pins s σ H _ I q0) fun v s1 ⟨x, H1, I1, r1, q1⟩ => PyProof.Rows.args_nil ?_) na) na rfl
  obtain ⟨l, ks, rfl, hq, hk, h1, q1⟩ := q1
  cases r1
  rw [show B.K = X.K from ha.hk] at hq hk
  obtain ⟨its, r, pl, hz⟩ := I1.tuple hq
  have hu := hr.units0
  refine call_set_tupsT (P := X.prog) (w := X.w) ks (I1.ok.hd hc) pl (by simpa using refs_of_vals r) (fun p hp => I1.isT (hk p hp)) h1 (by have := hr.un; omega) fun h' tk L es ep t R g k => ?_
  refine PyProof.Rows.args_nil ?_
  obtain ⟨o, ho, hex, hd⟩ := R.ob
  have I2 : Inv X pins σ H1 { s1 with heap := h', toks := tk } := I1.kept k
  have hn : es.size = (ddL (ks.map (·.2))).length := by
    rw [SetTR.size (s := { s1 with heap := h', toks := tk }) R, ← List.length_map (f := (·.2))]
    refine nodup_len R.nd (ddL_nodup _) fun x => ?_
    rw [ddL_mem]
    constructor
    · intro hx
      obtain ⟨p, hp, rfl⟩ := List.mem_map.mp hx
      exact List.mem_map.mpr ⟨p, List.mem_of_mem_take (g.sub p hp), rfl⟩
    · intro hx
      obtain ⟨p, hp, rfl⟩ := List.mem_map.mp hx
      exact g.all p (by rw [List.take_length]; exact hp)
  have hf := R.few
  have hsz := SetTR.size (s := { s1 with heap := h', toks := tk }) R
  refine call_len_set ho hex hd (SetTR.fits (s := { s1 with heap := h', toks := tk }) R) (by rw [hsz]; omega) ⟨.int (ddL (ks.map (·.2))).length, H1, I2.tok _, ⟨_, by rw [hn]⟩, q1⟩
end
end L3

set_option Elab.async false
set_option linter.all false
set_option maxRecDepth 100000
set_option maxHeartbeats 4000000
namespace L3
open PySem PySem.Spec PyProof.Rows L2
/-- the module's dict x holds these keys -/
def TabOf (K : PySem.W.Frag) (w : World) (mg : Str → Option Value) (x : Str) (tab : List (Str × Int)) : Prop :=
  ∃ d es n, mg x = some (.ref d) ∧ KDict K w d es n ∧ ∀ z i, (z, i) ∈ tab → ∃ t, PySem.W.nsIn K d z = some (some (.int i t))
section
variable {X : Cx} {B : Bg} {t : LTE} {pos : Pos} {x : Str} {tab : List (Str × Int)}
def tKGet (tab : List (Str × Int)) (t : LTE) : LTE := fun ρ Q => t ρ fun w ρ1 => ∃ z i, val ρ1 w = .str z ∧ (z, i) ∈ tab ∧ Q (.dat (.int i)) ρ1
theorem de_kget {e : Expr} {p p2 apos : Pos} {i j : Int} {k : Nat} (hT : TabOf X.K X.w X.mg x tab) (hg : Gl X x) (he : DE X B e t) (hdb : (x == ("__debug__" : Str)) = false := by decide)
    (m : M2 X (.Name x p) "get" apos e (.Constant (.int i) k p2) pos := by exact ⟨by rfl, by rfl, by rfl, by rfl⟩) :
    DE X B (.Call (.Attribute (.Name x p) "get" apos) [e, .Constant (.int i) k p2] [] pos) (tKGet tab t) := by
  obtain ⟨d, es, n, hm, D, hk⟩ := hT
  refine ⟨he.hk, fun ρ Q Q' h q => he.mono _ _ _ (fun w ρ1 ⟨z, i, z1, z2, z3⟩ => ⟨z, i, z1, z2, h _ _ z3⟩) q, ⟨fun pins s σ H Q I ⟨F, ρ, E, qq⟩ => ?_⟩⟩
  have q0 : lift B t σ H fun v H1 => ∃ z i, v = V.str z ∧ (z, i) ∈ tab ∧ Q (.int i) H1 := by
    refine ⟨F, ρ, E, he.mono _ _ _ (fun w ρ1 z => ?_) qq⟩
    intro v F1 H1 s1 r1
    obtain ⟨z, i, ev, hi, q⟩ := z
    exact ⟨z, i, RW.str s1.env r1 ev, hi, q _ F1 H1 s1 (Rep.int _)⟩
  refine wpAny_Call_method m.base m.few m.line PySem.F.plainAttrs_dict PySem.F.slot_dict_get PySem.F.type_dict_get (thn ((pe_glob (pos := p) hg hm (v := .ref d) rfl hdb).run pins s σ H (fun v H1 => v = .ref d ∧ H1 = H) I ⟨rfl, rfl⟩) fun u s1 ⟨v, H1, I1, rx, ex, eH⟩ => ?_)
  subst ex eH
  obtain rfl : u = Value.ref d := rx
  refine ⟨kd_type D I1, fun b q => ?_, ?_⟩
  · cases q
    exact ⟨_, I1.kIn _ _ D.at_, rfl⟩
  rw [m.trees]
  refine Calls.callWith_builtin rfl (Calls.evalArgs_plain (Calls.spliced_cons (thn (he.pe.run pins s1 σ H1 _ I1 q0) fun iv s2 ⟨y, H2, I2, ry, z, i', ey, hi, q2⟩ => Calls.spliced_cons (wpAny_Constant_int (Calls.spliced_nil ?_)))))
  subst ey
  obtain ⟨tk, rfl⟩ := ry
  obtain ⟨tt, ht⟩ := hk z i' hi
  refine call_meetsIn PySem.F.slot_dict_get (kd_type D (I2.tok _)) PySem.F.entry_dict_get (PySem.F.args_dict_get_3 _ _ _) (meets_dict_get_default (PySem.strKind X.prog X.w) d (PySem.strKind_is X.prog X.w z tk) D.low _) ⟨_, PySem.W.mapOf_K (prog := X.prog) I2.kIn D.at_ D.lit, ?_⟩
  rw [PySem.W.find_K D.at_ ht]
  exact ⟨.int i', H2, (I2.tok _).tok _, ⟨tt, rfl⟩, q2⟩
def tKIn (b : Bool) (tab : List (Str × Int)) (t : LTE) : LTT := fun ρ Q => t ρ fun w ρ1 => ∃ z i, val ρ1 w = .str z ∧ (z, i) ∈ tab ∧ Q b ρ1
theorem dt_knotin {e : Expr} {p : Pos} (hT : TabOf X.K X.w X.mg x tab) (hg : Gl X x) (he : DE X B e t) (hdb : (x == ("__debug__" : Str)) = false := by decide) (hm2 : behindInMarks .NotIn (.Name x p) = false := by first | exact nobehind _ (by decide) (by decide) | rfl) :
    DT X B (.Compare e [.NotIn] [.Name x p] pos) (tKIn false tab t) := by
  obtain ⟨d, es, n, hm, D, hk⟩ := hT
  refine ⟨he.hk, fun ρ Q Q' h q => he.mono _ _ _ (fun w ρ1 ⟨z, i, z1, z2, z3⟩ => ⟨z, i, z1, z2, h _ _ z3⟩) q, pt_imp (pt_cmpR (op_notIn_kd D) he.pe (pe_glob (pos := p) hg hm (v := .ref d) rfl hdb) hm2) ?_⟩
  rintro σ H Q ⟨F, ρ, E, qq⟩
  refine ⟨F, ρ, E, he.mono _ _ _ (fun w ρ1 z => ?_) qq⟩
  intro v F1 H1 s1 r1
  obtain ⟨z, i, ev, hi, q⟩ := z
  obtain ⟨tt, ht⟩ := hk z i hi
  exact ⟨z, _, RW.str s1.env r1 ev, rfl, ht, false, rfl, q F1 H1 s1⟩
end
end L3

set_option Elab.async false
set_option linter.all false
set_option maxRecDepth 100000
set_option maxHeartbeats 4000000
namespace L3
open PySem PySem.Spec PyProof.Rows L2
/-- a def's code object and its table of code objects: the table is known by q -/
structure TabAt (mg : Str → Option Value) (base : Heap) (T : List (Addr × Option Str)) (cdv : Value) (q : Option Str) : Prop where
  ex : ∃ c P, cdv = .ref c ∧ PySem.W.CodeHd base c P ∧ base.BuiltinsAt mg P ∧ mainGlobals ≠ P ∧ (P, q) ∈ T ∧ ∀ p ∈ T, p.1 = P → p.2 = q
def genSB (scope : Scope) (x : Str) : Bool :=
  decide (scope.kind = .function) && !scope.isCoroutine && decide (scope.names.lookup (".0" : Str) = some NameKind.local) && decide (scope.names.lookup x = some NameKind.local) && scope.names.all fun y => !decide (y.2 = .cell) && !decide (y.2 = .free)
theorem genS_by {env : Env} {scope : Scope} {x : Str} (h : genSB scope x = true) : GxR.GenS env scope x := by
  unfold genSB at h
  simp only [Bool.and_eq_true, Bool.not_eq_true', decide_eq_true_eq, decide_eq_false_iff_not, List.all_eq_true] at h
  obtain ⟨⟨⟨⟨h1, h2⟩, h3⟩, h5⟩, h4⟩ := h
  exact ⟨h1, h2, fun y hy => (h4 y hy).1, h3, h5, fun y hy e => absurd e (h4 y hy).2⟩
section
variable {X : Cx} {B : Bg} {t : LTE} {ti : LTQ} {tb : LTE} {pos : Pos}
theorem de_nextT {iter : Expr} {x : Str} {px p gpos p1 p2 p3 p4 p5 : Pos} {j j2 : Nat} {d : Int} {scope : Scope} {k : Nat} {T : List (Addr × Option Str)}
    (C : TabAt X.mg X.base T X.env.code none) (hBT : B.T = T) (hr : Room k X.A) (hg : Gl X "next") (hm : X.mg "next" = none) (S : genSB scope x = true) (hi : DE X B iter t) (hdb : (x == ("__debug__" : Str)) = false := by decide)
    (hs : ∀ v, genFold iter X.env v = pure v := by intro v; rfl)
    (he : starEach [.GeneratorExp (.Name x p1) [⟨.Name x px, iter, [.Compare (.Name x p2) [.NotEq] [.Constant (.int 0) j p3] p4], 0⟩] scope gpos, .Constant (.int d) j2 p5] X.env = (false, eval (.GeneratorExp (.Name x p1) [⟨.Name x px, iter, [.Compare (.Name x p2) [.NotEq] [.Constant (.int 0) j p3] p4], 0⟩] scope gpos) X.env) :: (false, eval (.Constant (.int d) j2 p5) X.env) :: [] := by rfl) :
    DE X B (.Call (.Name "next" p) [.GeneratorExp (.Name x p1) [⟨.Name x px, iter, [.Compare (.Name x p2) [.NotEq] [.Constant (.int 0) j p3] p4], 0⟩] scope gpos, .Constant (.int d) j2 p5] [] pos) (tNextL t d) := by
  obtain ⟨c, P, h1, h2, h3, h4, h5, h6⟩ := C
  exact de_nextZ hr hg hm ⟨h2, h3, h4⟩ h1 (hBT ▸ h5) (hBT ▸ h6) (genS_by S) hi hdb hs he
theorem de_sortL {params : Arguments} {body e : Expr} {scope : Scope} {a : Str} {k : Nat} {p lpos kp : Pos} {T : List (Addr × Option Str)} (pr : Bool)
    (C : TabAt X.mg X.base T X.env.code (some (X.env.qual ++ "<lambda>"))) (hBT : B.T = T) (hg : Gl X "sorted") (hm : X.mg "sorted" = none)
    (hr : Room (k + 3) X.A) (dq : DQ X B e ti) (L : lamS1B X.env.scope scope a = true) (ha : a ∉ X.N)
    (hbody : ∀ (A : Around) (outer : List Env) (s : Shared) (H : Hp) (f c' : Addr), Room k (A.deeper (LamX.lamEnv X scope s.heap.objs.size f c')) → DE (lamCx1 X A outer s H scope a f c') B body tb)
    (hdef : defaultsOf params X.env = ([], []) := by rfl)
    (hbind : ∀ (cl : List (Str × Addr)) (pm cv ctv u : Value), bindArgs (PySem.W.kla_fn "<lambda>" (X.env.qual ++ "<lambda>") params body scope cl pm cv ctv) ⟨[u], []⟩ = pure [(a, u)] := by intro _ _ _ _ _; rfl)
    (he : starEach [e] X.env = (false, eval e X.env) :: starEach [] X.env := by rfl) :
    DE X B (.Call (.Name "sorted" p) [e] [⟨some "key", .Lambda params body scope lpos, kp⟩] pos) (tSortLam pr ti tb) := by
  obtain ⟨c, P, h1, h2, h3, h4, h5, h6⟩ := C
  exact de_sortLam hg hm ⟨h2, h3, h4⟩ h1 (hBT ▸ h5) (hBT ▸ h6) hr dq (lamS1_by L) ha hdef hbind hbody he
end
end L3

set_option Elab.async false
set_option linter.all false
set_option maxRecDepth 100000
set_option maxHeartbeats 4000000
namespace L3
open PySem PySem.Spec PyProof.Rows L2
theorem dcomp_run {α : Type} {g : LTG} {tt : LTT} {te : LTE} {vs : List Nat} {ρ0 : Rho} {Q : List D → Rho → Prop} (i : α → D) (p : α → Bool) (f : α → D) : ∀ (xs : List α) (acc : List D),
    (∀ x ∈ xs, ∀ (C : W → Rho → Prop) (C2 : Rho → Prop), (p x = true → ∀ w ρ4, nz w = true → val ρ4 w = f x → wipeR (frzs [w] ρ4) vs = ρ0 → C w ρ4) → (p x = false → ∀ ρ3, wipeR ρ3 vs = ρ0 → C2 ρ3) →
      g (.dat (i x)) ρ0 fun ρ2 => tt ρ2 fun b ρ3 => if b = true then te ρ3 C else C2 ρ3) →
    acc.length + xs.length ≤ sizeLine → Q (acc ++ (xs.filter p).map f) ρ0 → dcomp g tt te vs (xs.map i) acc ρ0 Q
  | [], acc, _, _, q => by simpa [dcomp] using q
  | x :: xs, acc, h, hl, q => by
    have hl' : acc.length + (xs.length + 1) ≤ sizeLine := hl
    refine h x List.mem_cons_self _ _ (fun hp w ρ4 h1 h2 h3 => ⟨⟨h1, by omega⟩, ?_⟩) (fun hp ρ3 h3 => ?_)
    · rw [h3, h2]
      refine dcomp_run i p f xs _ (fun y hy => h y (List.mem_cons_of_mem _ hy)) (by simp; omega) ?_
      rw [List.filter_cons_of_pos hp] at q
      simpa using q
    · rw [h3]
      refine dcomp_run i p f xs _ (fun y hy => h y (List.mem_cons_of_mem _ hy)) (by omega) ?_
      rw [List.filter_cons_of_neg (by rw [hp]; exact Bool.false_ne_true)] at q
      exact q
/-- all of them, each to f -/
theorem dcomp_all {α : Type} {g : LTG} {te : LTE} {vs : List Nat} {ρ0 : Rho} {Q : List D → Rho → Prop} (i : α → D) (f : α → D) (xs : List α)
    (h : ∀ x ∈ xs, ∀ (C : W → Rho → Prop), (∀ w ρ4, nz w = true → val ρ4 w = f x → wipeR (frzs [w] ρ4) vs = ρ0 → C w ρ4) → g (.dat (i x)) ρ0 fun ρ2 => te ρ2 C)
    (hl : xs.length ≤ sizeLine) (q : Q (xs.map f) ρ0) : dcomp g tYesL te vs (xs.map i) [] ρ0 Q := by
  refine dcomp_run i (fun _ => true) f xs [] (fun x hx C C2 h1 _ => ?_) (by simpa using hl) (by rw [List.filter_eq_self.mpr (fun _ _ => rfl), List.nil_append]; exact q)
  exact h x hx C (h1 rfl)
theorem forD_run {g : LTG} {t : LTS} {L : LEnds} (I : List D → Rho → Prop)
    (h : ∀ d ds ρ, I (d :: ds) ρ → ∀ C : Rho → Prop, (∀ ρ', I ds ρ' → C ρ') → g (.dat d) ρ fun ρ1 => t { L with nx := C, ct := C, bk := L.nx } ρ1) (hn : ∀ ρ, I [] ρ → L.nx ρ) : ∀ (ds : List D) (ρ : Rho), I ds ρ → forD g t L ds ρ
  | [], ρ, i => hn ρ i
  | d :: ds, ρ, i => h d ds ρ i _ fun ρ' i' => forD_run I h hn ds ρ' i'
theorem ints_inj : ∀ {r s : List Int}, r.map D.int = s.map D.int → r = s
  | [], [], _ => rfl
  | [], _ :: _, h => by simp at h
  | _ :: _, [], h => by simp at h
  | a :: r, b :: s, h => by
    simp only [List.map_cons, List.cons.injEq, D.int.injEq] at h
    rw [h.1, ints_inj h.2]
theorem ints_eq (r s : List Int) : (r.map D.int = s.map D.int) = (r = s) := propext ⟨ints_inj, fun h => by rw [h]⟩
theorem tupI_eq (r s : List Int) : (tupI r = tupI s) = (r = s) := propext ⟨fun h => ints_inj (D.tup.inj h), fun h => by rw [h]⟩
theorem tups_inj : ∀ {r s : List (List Int)}, r.map tupI = s.map tupI → r = s
  | [], [], _ => rfl
  | [], _ :: _, h => by simp at h
  | _ :: _, [], h => by simp at h
  | a :: r, b :: s, h => by
    simp only [List.map_cons, List.cons.injEq, tupI_eq] at h
    rw [h.1, tups_inj h.2]
theorem tups_eq (r s : List (List Int)) : (r.map tupI = s.map tupI) = (r = s) := propext ⟨tups_inj, fun h => by rw [h]⟩
theorem all_tt {α : Type} (l : List α) : (l.all fun _ => true) = true := by induction l <;> simp_all
/-- a row of ints as data -/
abbrev rowD (r : List Int) : D := tupI r
theorem blsOf_mapF {α : Type} (f : α → Bool) : ∀ xs : List α, blsOf (xs.map fun x => D.bl (f x)) = some (xs.map f)
  | [] => rfl
  | x :: xs => by simp [blsOf, blsOf_mapF f xs]
theorem sz {n : Nat} (h : n ≤ 1000000) : n ≤ sizeLine := by rw [sizeLine_eq]; omega
theorem shp_int (i : Int) : shp (.int i) = true := rfl
theorem shp_bl (x : Bool) : shp (.bl x) = true := rfl
theorem eqD_int (i j : Int) : eqD (.int i) (.int j) = (i == j) := rfl
theorem eqD_str (i j : Str) : eqD (.str i) (.str j) = (i == j) := rfl
theorem eqvAll_ints : ∀ r s : List Int, PyData.eqvAll (pys (r.map D.int)) (pys (s.map D.int)) = (r == s)
  | [], [] => rfl
  | [], _ :: _ => rfl
  | _ :: _, [] => rfl
  | a :: r, b :: s => by
    show (PyData.eqv (.int a) (.int b) && PyData.eqvAll (pys (r.map D.int)) (pys (s.map D.int))) = _
    rw [eqvAll_ints r s]
    rfl
theorem isPys_ints : ∀ r : List Int, isPys (r.map D.int) = true
  | [] => rfl
  | a :: r => by
    show (isPy (.int a) && isPys (r.map D.int)) = true
    rw [isPys_ints r]; rfl
theorem eqD_lst (r s : List Int) : eqD (.lst (r.map D.int)) (.lst (s.map D.int)) = (r == s) := eqvAll_ints r s
theorem eqD_row (r s : List Int) : eqD (.tup (r.map D.int)) (.tup (s.map D.int)) = (r == s) := eqvAll_ints r s
theorem lay_ints : ∀ r : List Int, PyData.canLayAll0 (pys (r.map D.int)) = true
  | [] => rfl
  | a :: r => by
    show (PyData.canLay0 (.int a) && PyData.canLayAll0 (pys (r.map D.int))) = true
    rw [lay_ints r]; rfl
theorem depth_ints : ∀ r : List Int, PyData.depthAll (pys (r.map D.int)) = 0
  | [] => rfl
  | a :: r => by
    show max (PyData.depth (.int a)) (PyData.depthAll (pys (r.map D.int))) = 0
    rw [depth_ints r]; rfl
theorem shp_row (r : List Int) : shp (.tup (r.map D.int)) = true := by
  unfold shp SeqAt.shaped
  have h1 : isPy (.tup (r.map D.int)) = true := isPys_ints r
  have h2 : (py (.tup (r.map D.int))).canLay0 = true := lay_ints r
  have h3 : (py (.tup (r.map D.int))).depth = 1 := congrArg (· + 1) (depth_ints r)
  rw [h1, h2, h3]; rfl
theorem shp_lst (r : List Int) : shp (.lst (r.map D.int)) = true := by
  unfold shp SeqAt.shaped
  have h1 : isPy (.lst (r.map D.int)) = true := isPys_ints r
  have h2 : (py (.lst (r.map D.int))).canLay0 = true := lay_ints r
  have h3 : (py (.lst (r.map D.int))).depth = 1 := congrArg (· + 1) (depth_ints r)
  rw [h1, h2, h3]; rfl
theorem atD_ok (l : List D) (z : Int) (h0 : 0 ≤ z) (h1 : z < l.length) : atD l z = l[z.toNat]? := by
  unfold atD ixN
  simp [h0, h1]
theorem atD_zero (d : D) (l : List D) : atD (d :: l) 0 = some d := by rw [atD_ok _ _ (by omega) (by simp only [List.length_cons]; omega)]; rfl
theorem atD_row (r : List Int) (z : Int) (h0 : 0 ≤ z) (h1 : z < r.length) : atD (r.map D.int) z = some (.int (r.getD z.toNat 0)) := by
  rw [atD_ok _ _ h0 (by simpa using h1), List.getElem?_map, List.getD_eq_getElem?_getD]
  have : z.toNat < r.length := by omega
  rw [List.getElem?_eq_getElem this]; rfl
theorem cut_tl (l : List D) : cutD l (some 1) none = l.tail := by
  unfold cutD HT.sIx
  cases l with
  | nil => simp
  | cons d l => simp
theorem cut_to (l : List D) (n : Nat) : cutD l none (some (n : Int)) = l.take n := by
  unfold cutD
  rw [HT.sIx_none, HT.sIx_nat, List.drop_zero, Nat.sub_zero]
  by_cases h : n ≤ l.length
  · rw [Nat.min_eq_left h]
  · rw [Nat.min_eq_right (by omega), List.take_of_length_le (Nat.le_refl _), List.take_of_length_le (by omega)]
theorem intsOf_mapF {α : Type} (f : α → Int) : ∀ xs : List α, intsOf (xs.map fun x => D.int (f x)) = some (xs.map f)
  | [] => rfl
  | x :: xs => by simp [intsOf, intsOf_mapF f xs]
theorem cmw {i j : Int} (h1 : i.natAbs < 2 ^ 1000) (h2 : j.natAbs < 2 ^ 1000) : CMulW i j := by
  unfold CMulW
  have g : ∀ n : Nat, n < 2 ^ 1000 → n.log2 < 1001 := fun n h => by
    by_cases z : n = 0
    · subst z; decide
    · have := (Nat.log2_lt z).mpr h
      omega
  have a := g _ h1
  have b := g _ h2
  omega
end L3

set_option Elab.async false
set_option linter.all false
set_option maxRecDepth 100000
set_option maxHeartbeats 4000000
namespace L3
open PySem PySem.Spec PyProof.Rows L2
section
variable {L : LEnds} {ρ : Rho} {t u : LTS} {te ta tb : LTE} {c tt : LTT} {g : LTG} {ti : LTI} {ua : LTA} {Q : W → Rho → Prop} {QT : Bool → Rho → Prop} {QA : List W → Rho → Prop} {QI : List D → Rho → Prop} {QG : Rho → Prop} {d e : D} {ds : List D} {l : List D} {i j : Nat} {rd : Rd2} {rc : RdC} {P : Prm} {dd : List D} {R : W → Prop} {x y : Int} {r s : List Int} {w : W}
theorem w_seq (h : t { L with nx := u L } ρ) : tSeqL t u L ρ := h
theorem w_nx (h : L.nx ρ) : tNxL L ρ := h
theorem w_ret (h : te ρ fun w ρ' => nz w = true ∧ L.rt (retW ρ' w) ρ') : tRetL te L ρ := h
theorem w_retN (h : L.rt (.dat .non) ρ) : tRetNL L ρ := h
theorem w_drop (h : te ρ fun _ ρ' => L.nx ρ') : tDropL te L ρ := h
theorem w_ifS (h : c ρ fun b ρ1 => if b = true then t L ρ1 else u L ρ1) : tIfSL c t u L ρ := h
theorem w_asg (h : te ρ fun w ρ1 => g w ρ1 L.nx) : tAsgL te g L ρ := h
theorem w_for (h : ti ρ fun ds ρ1 => forD g t L ds ρ1) : tForL ti g t L ρ := h
theorem w_forN (h : L.nx ρ) : forD g t L [] ρ := h
theorem w_forC (h : g (.dat d) ρ fun ρ1 => t { L with nx := forD g t L ds, ct := forD g t L ds, bk := L.nx } ρ1) : forD g t L (d :: ds) ρ := h
theorem w_K (q : Q (.dat d) ρ) : tK d ρ Q := q
theorem w_N (h : ρ[i]? = some (.dat d)) (q : Q (.dat d) ρ) : tN i ρ Q := by unfold tN; rw [h]; exact q
theorem w_No (h : ρ[i]? = some (.own l)) (q : Q (.ref i) ρ) : tN i ρ Q := by unfold tN; rw [h]; exact q
theorem w_2 (h : ta ρ fun x ρ1 => tb ρ1 fun y ρ2 => rd (val ρ2 x) (val ρ2 y) fun w => Q w ρ2) : t2 rd ta tb ρ Q := h
theorem w_nilA (h : QA [] ρ) : aNil ρ QA := h
theorem w_consA (h : te ρ fun w ρ1 => ua ρ1 fun ws ρ2 => QA (w :: ws) ρ2) : aCons te ua ρ QA := h
theorem w_CD (h : ua ρ fun ws ρ1 => rc (ws.map (val ρ1)) fun w => Q w ρ1) : tCD rc ua ρ Q := h
theorem w_call (h : ua ρ fun ws ρ1 => ws.all nz = true ∧ P (ws.map (val ρ1) ++ dd) fun w => Q w (frzs ws ρ1)) : tCallL P dd ua ρ Q := h
theorem w_add (q : R (.dat (.int (x + y)))) : rdAdd (.int x) (.int y) R := q
theorem w_sub (q : R (.dat (.int (x - y)))) : rdSub (.int x) (.int y) R := q
theorem w_mul (h : CMulW x y) (q : R (.dat (.int (x * y)))) : rdMulA (.int x) (.int y) R := ⟨h, q⟩
theorem w_mod (h : 0 < y) (q : R (.dat (.int (x % y)))) : rdMod (.int x) (.int y) R := ⟨h, q⟩
theorem w_fdiv (h : CDivW x y) (q : R (.dat (.int (x / y)))) : rdFdiv (.int x) (.int y) R := ⟨h, q⟩
theorem w_lt (q : R (.dat (.bl (decide (x < y))))) : rdLt (.int x) (.int y) R := q
theorem w_le (q : R (.dat (.bl (decide (x ≤ y))))) : rdLe (.int x) (.int y) R := q
theorem w_gt (q : R (.dat (.bl (decide (y < x))))) : rdGt (.int x) (.int y) R := q
theorem w_ge (q : R (.dat (.bl (decide (y ≤ x))))) : rdGe (.int x) (.int y) R := q
theorem w_eqI (q : R (.dat (.bl (x == y)))) : rdEq (.int x) (.int y) R := ⟨⟨rfl, rfl⟩, q⟩
theorem w_neI (q : R (.dat (.bl (!(x == y))))) : rdNe (.int x) (.int y) R := ⟨⟨rfl, rfl⟩, q⟩
theorem w_eqR (q : R (.dat (.bl (r == s)))) : rdEq (.tup (r.map D.int)) (.tup (s.map D.int)) R := ⟨⟨shp_row _, shp_row _⟩, by rw [eqD_row]; exact q⟩
theorem w_eqL (q : R (.dat (.bl (r == s)))) : rdEq (.lst (r.map D.int)) (.lst (s.map D.int)) R := ⟨⟨shp_lst _, shp_lst _⟩, by rw [eqD_lst]; exact q⟩
theorem w_ixR (h0 : 0 ≤ x) (h1 : x < r.length) (q : R (.dat (.int (r.getD x.toNat 0)))) : rdIx (.tup (r.map D.int)) (.int x) R := by
  unfold rdIx
  simp only [atD_row r x h0 h1]
  exact q
theorem w_ixL (h0 : 0 ≤ x) (h1 : x < r.length) (q : R (.dat (.int (r.getD x.toNat 0)))) : rdIx (.lst (r.map D.int)) (.int x) R := by
  unfold rdIx
  simp only [atD_row r x h0 h1]
  exact q
theorem w_gNm (h : nz (.dat d) = true) (q : QG (ρ.set i (.dat d))) : gNm i (.dat d) ρ QG := ⟨h, q⟩
theorem w_gNn (q : QG (ρ.set i (.own l))) : gNm i (.new l) ρ QG := ⟨rfl, q⟩
theorem val_dat : val ρ (.dat d) = d := rfl
theorem val_new : val ρ (.new l) = .lst l := rfl
theorem bd {k : Nat} (h : ∀ i ∈ r, i.natAbs < 10 ^ 100) : (r.getD k 0).natAbs < 2 ^ 1000 := by
  rw [List.getD_eq_getElem?_getD]
  cases q : r[k]? with
  | none => exact Nat.two_pow_pos _
  | some z => exact Nat.lt_trans (h z (List.mem_of_getElem? q)) (by decide +kernel)
theorem w_slcT (h : te ρ fun w ρ1 => rdSl (val ρ1 w) (some 1) none fun w' => Q w' ρ1) : tSlc te (tPrt (tK (.int 1))) tNoP ρ Q := h
theorem w_slR (q : R (.dat (.tup (r.tail.map D.int)))) : rdSl (.tup (r.map D.int)) (some 1) none R := by
  show R (.dat (.tup (cutD (r.map D.int) (some 1) none)))
  rw [cut_tl, ← List.map_tail]; exact q
theorem seq_tup : seqI (.tup (r.map D.int)) = some r := intsOf_mapF id r |>.trans (by simp)
theorem seq_lst : seqI (.lst (r.map D.int)) = some r := intsOf_mapF id r |>.trans (by simp)
theorem w_sumT (q : R (.dat (.int r.sum))) : rdNs gSum [.tup (r.map D.int)] R := by
  unfold rdNs
  simp only [seq_tup]
  exact q
theorem w_sumL (q : R (.dat (.int r.sum))) : rdNs gSum [.lst (r.map D.int)] R := by
  unfold rdNs
  simp only [seq_lst]
  exact q
theorem w_comp {vs : List Nat} (h : ti ρ fun ds ρ1 => noOwn ρ1 vs = true ∧ dcomp g tt te vs ds [] (wipeR ρ1 vs) fun acc ρ2 => Q (.new acc) (unwipe ρ1 ρ2 vs)) : tComp ti g tt te vs ρ Q := h
def zipK (ws : List W) (ρ1 : Rho) (vs : List D) (QI : List D → Rho → Prop) : Prop := match vs with
  | [.tup as, .tup bs] => ws.all nz = true ∧ QI (zipD as bs) (frzs ws ρ1)
  | [.lst as, .lst bs] => ws.all nz = true ∧ QI (zipD as bs) (frzs ws ρ1)
  | _ => False
theorem w_zip (h : ua ρ fun ws ρ1 => zipK ws ρ1 (ws.map (val ρ1)) QI) : tZip ua ρ QI := h
theorem w_zipT {ws : List W} {as bs : List D} (z : ws.all nz = true) (q : QI (zipD as bs) (frzs ws ρ)) : zipK ws ρ [.tup as, .tup bs] QI := ⟨z, q⟩
theorem w_zipL {ws : List W} {as bs : List D} (z : ws.all nz = true) (q : QI (zipD as bs) (frzs ws ρ)) : zipK ws ρ [.lst as, .lst bs] QI := ⟨z, q⟩
def itvK (w : W) (ρ1 : Rho) (d : D) (QI : List D → Rho → Prop) : Prop := match walkOf d with
  | some ds => nz w = true ∧ QI ds (frzs [w] ρ1)
  | none => False
theorem w_itv (h : te ρ fun w ρ1 => itvK w ρ1 (val ρ1 w) QI) : tItv te ρ QI := h
theorem w_itvT (z : nz w = true) (q : QI l (frzs [w] ρ)) : itvK w ρ (.tup l) QI := ⟨z, q⟩
theorem w_itvL (z : nz w = true) (q : QI l (frzs [w] ρ)) : itvK w ρ (.lst l) QI := ⟨z, q⟩
theorem w_par {is : List Nat} (h : ua ρ fun ws ρ1 => (ws.all nz = true ∧ ws.length = is.length) ∧ L.nx (setsR is (ws.map (slotW ρ1)) (frzs (ws.filter anyRef) ρ1))) : tParL is ua L ρ := h
theorem w_tup (h : ua ρ fun ws ρ1 => (ws.all nz = true ∧ ws.length ≤ sizeLine) ∧ Q (.dat (.tup (ws.map (val ρ1)))) (frzs ws ρ1)) : tTupL ua ρ Q := h
theorem w_lst (h : ua ρ fun ws ρ1 => (ws.all nz = true ∧ ws.length ≤ sizeLine) ∧ Q (.new (ws.map (val ρ1))) (frzs ws ρ1)) : tLstL ua ρ Q := h
theorem w_toL (q : R (.new l)) : rdList [.tup l] R := q
theorem w_toLL (q : R (.new l)) : rdList [.lst l] R := q
theorem w_toT (q : R (.dat (.tup l))) : rdTuple [.lst l] R := q
def gIxK (i : Nat) (v : D) (z : D) (ρ1 : Rho) (QG : Rho → Prop) : Prop := match z, ρ1[i]? with
  | .int z, some (.own l) => match ixN l.length z with
    | some j => QG (ρ1.set i (.own (l.set j v)))
    | none => False
  | _, _ => False
theorem w_gIx (h0 : fitI i w = true ∧ isOwn ρ i = true) (h : te (frzs [w] ρ) fun k ρ1 => gIxK i (val ρ w) (val ρ1 k) ρ1 QG) : gIx i te w ρ QG := ⟨h0, h⟩
theorem w_gIxR (h : ρ[i]? = some (.own (r.map D.int))) (h0 : 0 ≤ x) (h1 : x < r.length) (q : QG (ρ.set i (.own ((r.set x.toNat y).map D.int)))) : gIxK i (.int y) (.int x) ρ QG := by
  unfold gIxK ixN
  rw [h]
  simp only [List.length_map, h0, h1, if_true]
  rw [← List.map_set]
  exact q
theorem val_ref : val ρ (.ref i) = (match ρ[i]? with
    | some (.own l) => .lst l
    | some (.dat d) => d
    | _ => .non) := rfl
theorem w_gNil (q : QG ρ) : gNilL [] ρ QG := ⟨rfl, q⟩
theorem w_gCons {gs : LTGs} (q : g (.dat d) ρ fun ρ1 => gs ds ρ1 QG) : gConsL g gs (d :: ds) ρ QG := q
theorem w_gTup {gs : LTGs} {n : Nat} (h : ds.length = n) (q : gs ds ρ QG) : gTupL n gs (.dat (.tup ds)) ρ QG := ⟨h, q⟩
theorem seq_lstF {α : Type} (f : α → Int) (xs : List α) : seqI (.lst (xs.map fun x => D.int (f x))) = some (xs.map f) := intsOf_mapF f xs
theorem w_sumF {α : Type} (f : α → Int) (xs : List α) (q : R (.dat (.int (xs.map f).sum))) : rdNs gSum [.lst (xs.map fun x => D.int (f x))] R := by
  unfold rdNs
  simp only [seq_lstF]
  exact q
def tstK (d : D) (QT : Bool → Rho → Prop) (ρ : Rho) : Prop := match d with
  | .bl c => QT c ρ
  | _ => False
theorem w_tst (h : te ρ fun w ρ1 => tstK (val ρ1 w) QT ρ1) : tTst te ρ QT := h
theorem w_tstB {b : Bool} (q : QT b ρ) : tstK (.bl b) QT ρ := q
def truK (d : D) (QT : Bool → Rho → Prop) (ρ : Rho) : Prop := match truD d with
  | some k => QT k ρ
  | none => False
theorem w_tru (h : te ρ fun w ρ1 => truK (val ρ1 w) QT ρ1) : tTru te ρ QT := h
theorem w_truB {b : Bool} (q : QT b ρ) : truK (.bl b) QT ρ := q
theorem w_orL {cu cv : LTT} (h : cu ρ fun c ρ1 => if c = true then QT true ρ1 else cv ρ1 QT) : tOrL cu cv ρ QT := h
theorem w_andL {cu cv : LTT} (h : cu ρ fun c ρ1 => if c = true then cv ρ1 QT else QT false ρ1) : tAndL cu cv ρ QT := h
theorem w_notL {cu : LTT} (h : cu ρ fun c ρ1 => QT (!c) ρ1) : tNotL cu ρ QT := h
theorem w_t {A C : Prop} {b : Bool} (h : b = true) (q : A) : if b = true then A else C := by rw [if_pos h]; exact q
theorem w_f {A C : Prop} {b : Bool} (h : b = false) (q : C) : if b = true then A else C := by rw [if_neg (by rw [h]; exact Bool.false_ne_true)]; exact q
theorem w_yes (q : QT true ρ) : tYesL ρ QT := q
theorem w_ixC (h : atD l x = some d) (q : R (.dat d)) : rdIx (.tup l) (.int x) R := by
  unfold rdIx
  simp only [h]
  exact q
theorem w_lenT (q : R (.dat (.int l.length))) : rdLen [.tup l] R := q
theorem w_lenL (q : R (.dat (.int l.length))) : rdLen [.lst l] R := q
theorem w_isi {T ty : String} {b : Bool} (h1 : tyD d = some ty) (h2 : T ∈ tyTo) (h3 : isS ty T = b) (q : R (.dat (.bl b))) : rdIsi [d, .ty T] R := by
  unfold rdIsi
  simp only [h1]
  exact ⟨h2, by rw [h3]; exact q⟩
theorem w_bs {f : List Bool → Bool} {bs : List Bool} {b : Bool} (h1 : blsOf l = some bs) (h2 : f bs = b) (q : R (.dat (.bl b))) : rdBs f [.lst l] R := by
  unfold rdBs
  simp only [h1, h2]
  exact q
theorem bls_tt {α : Type} (xs : List α) : blsOf (xs.map fun _ => D.bl true) = some (xs.map fun _ => true) := blsOf_mapF (fun _ => true) xs
theorem w_allT {α : Type} {xs : List α} (q : R (.dat (.bl true))) : rdBs (fun bs => bs.all id) [.lst (xs.map fun _ => D.bl true)] R := w_bs (bls_tt xs) (by simp) q
theorem w_neg (h : te ρ fun w ρ1 => ∃ z, val ρ1 w = .int z ∧ Q (.dat (.int (-z))) ρ1) (m : Mono te) : tNeg te ρ Q := m _ _ _ (fun w ρ1 ⟨z, h1, h2⟩ => by
  show (match val ρ1 w with | .int i => Q (.dat (.int (-i))) ρ1 | _ => False)
  rw [h1]; exact h2) h
theorem w_eqC {a b : D} (h1 : shp a = true) (h2 : shp b = true) {k : Bool} (h3 : eqD a b = k) (q : R (.dat (.bl k))) : rdEq a b R := ⟨⟨h1, h2⟩, by rw [h3]; exact q⟩
theorem w_isiT {T ty : String} (h1 : tyD d = some ty) (h2 : T ∈ tyTo) (h3 : isS ty T = true) (q : R (.dat (.bl true))) : rdIsi [d, .ty T] R := w_isi h1 h2 h3 q
theorem w_isiF {T ty : String} (h1 : tyD d = some ty) (h2 : T ∈ tyTo) (h3 : isS ty T = false) (q : R (.dat (.bl false))) : rdIsi [d, .ty T] R := w_isi h1 h2 h3 q
theorem w_kin {tab : List (Str × Int)} {b : Bool} (h : te ρ fun w ρ1 => ∃ z i, val ρ1 w = .str z ∧ (z, i) ∈ tab ∧ QT b ρ1) : tKIn b tab te ρ QT := h
theorem w_kget {tab : List (Str × Int)} (h : te ρ fun w ρ1 => ∃ z i, val ρ1 w = .str z ∧ (z, i) ∈ tab ∧ Q (.dat (.int i)) ρ1) : tKGet tab te ρ Q := h
theorem w_slc {tl th : LTO} (h : te ρ fun x ρ1 => tl ρ1 fun lo ρ2 => th ρ2 fun hi ρ3 => rdSl (val ρ3 x) lo hi fun w => Q w ρ3) : tSlc te tl th ρ Q := h
theorem w_nop {QO : Option Int → Rho → Prop} (h : QO none ρ) : tNoP ρ QO := h
def prtK (d : D) (QO : Option Int → Rho → Prop) (ρ : Rho) : Prop := match d with
  | .int i => QO (some i) ρ
  | _ => False
theorem w_prt {QO : Option Int → Rho → Prop} (h : te ρ fun w ρ1 => prtK (val ρ1 w) QO ρ1) : tPrt te ρ QO := h
theorem w_prtI {QO : Option Int → Rho → Prop} (h : QO (some x) ρ) : prtK (.int x) QO ρ := h
theorem w_slC {lo hi : Option Int} {m : List D} (h : cutD l lo hi = m) (q : R (.dat (.tup m))) : rdSl (.tup l) lo hi R := by
  show R (.dat (.tup (cutD l lo hi)))
  rw [h]; exact q
theorem w_slCL {lo hi : Option Int} {m : List D} (h : cutD l lo hi = m) (q : R (.new m)) : rdSl (.lst l) lo hi R := by
  show R (.new (cutD l lo hi))
  rw [h]; exact q
end
end L3

set_option Elab.async false
set_option linter.all false
set_option maxRecDepth 100000
set_option maxHeartbeats 4000000
namespace L3
open PySem PySem.Spec PyProof.Rows L2
section
variable {L : LEnds} {ρ : Rho} {t u : LTS} {te ta tb : LTE} {c tt : LTT} {g : LTG} {ti : LTI} {tq : LTQ} {ua : LTA} {Q : W → Rho → Prop} {QT : Bool → Rho → Prop} {QA : List W → Rho → Prop} {QI : List D → Rho → Prop} {QG : Rho → Prop} {d e : D} {ds : List D} {l m : List D} {i j : Nat} {rd : Rd2} {rc : RdC} {R : W → Prop} {x y : Int} {r s : List Int} {w : W}
theorem w_bk (h : L.bk ρ) : tBkL L ρ := h
theorem w_ifE (h : c ρ fun b ρ1 => if b = true then ta ρ1 Q else tb ρ1 Q) : tIfL c ta tb ρ Q := h
def negK (d : D) (Q : W → Rho → Prop) (ρ : Rho) : Prop := match d with
  | .int i => Q (.dat (.int (-i))) ρ
  | _ => False
theorem w_ng (h : te ρ fun w ρ1 => negK (val ρ1 w) Q ρ1) : tNeg te ρ Q := h
theorem w_ngI (h : Q (.dat (.int (-x))) ρ) : negK (.int x) Q ρ := h
def andK (d : D) (tb : LTE) (Q : W → Rho → Prop) (ρ : Rho) : Prop := match d with
  | .bl c => if c = true then tb ρ Q else Q (.dat (.bl false)) ρ
  | _ => False
theorem w_andV (h : ta ρ fun w ρ1 => andK (val ρ1 w) tb Q ρ1) : L3.tAndV ta tb ρ Q := h
theorem w_andB {b : Bool} (h : if b = true then tb ρ Q else Q (.dat (.bl false)) ρ) : andK (.bl b) tb Q ρ := h
def orK (d : D) (tb : LTE) (Q : W → Rho → Prop) (ρ : Rho) : Prop := match d with
  | .bl c => if c = true then Q (.dat (.bl true)) ρ else tb ρ Q
  | _ => False
theorem w_orV (h : ta ρ fun w ρ1 => orK (val ρ1 w) tb Q ρ1) : L3.tOrV ta tb ρ Q := h
theorem w_orB {b : Bool} (h : if b = true then Q (.dat (.bl true)) ρ else tb ρ Q) : orK (.bl b) tb Q ρ := h
def notK (d : D) (Q : W → Rho → Prop) (ρ : Rho) : Prop := match d with
  | .bl c => Q (.dat (.bl (!c))) ρ
  | _ => False
theorem w_notV (h : ta ρ fun w ρ1 => notK (val ρ1 w) Q ρ1) : L3.tNotV ta ρ Q := h
theorem w_notB {b : Bool} (h : Q (.dat (.bl (!b))) ρ) : notK (.bl b) Q ρ := h
theorem w_isNt (h : R (.dat (.bl (!isNon d)))) : rdIs true d .non R := h
theorem w_isNf (h : R (.dat (.bl (isNon d)))) : rdIs false d .non R := h
theorem w_ifT {A C : Prop} (q : A) : if True then A else C := by rw [if_pos trivial]; exact q
theorem w_tt {A C : Prop} (q : A) : if true = true then A else C := by rw [if_pos rfl]; exact q
theorem w_ff {A C : Prop} (q : C) : if false = true then A else C := by rw [if_neg Bool.false_ne_true]; exact q
theorem perm_sum {r s : List Int} (h : r.Perm s) : r.sum = s.sum := by
  induction h with
  | nil => rfl
  | cons x _ ih => rw [List.sum_cons, List.sum_cons, ih]
  | swap x y l => simp only [List.sum_cons]; omega
  | trans _ _ a b => rw [a, b]
theorem w_isN {b : Bool} (h : R (.dat (.bl (if b then !isNon d else isNon d)))) : rdIs b d .non R := h
def starK (d : D) (ua : LTA) (QA : List W → Rho → Prop) (ρ : Rho) : Prop := match itemsOf d with
  | some l => ua ρ fun ws ρ2 => QA (l.map .dat ++ ws) ρ2
  | none => False
theorem w_star (h : te ρ fun w ρ1 => starK (val ρ1 w) ua QA ρ1) : aStar te ua ρ QA := h
theorem w_starL (h : ua ρ fun ws ρ2 => QA (l.map .dat ++ ws) ρ2) : starK (.lst l) ua QA ρ := h
theorem w_starT (h : ua ρ fun ws ρ2 => QA (l.map .dat ++ ws) ρ2) : starK (.tup l) ua QA ρ := h
def revK (d : D) (Q : W → Rho → Prop) (ρ : Rho) : Prop := match d with
  | .lst l => Q (.new l.reverse) ρ
  | .tup l => Q (.dat (.tup l.reverse)) ρ
  | _ => False
theorem w_rev (h : te ρ fun w ρ1 => revK (val ρ1 w) Q ρ1) : tRevL' te ρ Q := h
theorem w_revL (h : Q (.new l.reverse) ρ) : revK (.lst l) Q ρ := h
theorem w_revT (h : Q (.dat (.tup l.reverse)) ρ) : revK (.tup l) Q ρ := h
def rngK (l : List D) (QI : List D → Rho → Prop) (ρ : Rho) : Prop := match l with
  | [.int j] => BndI j ∧ QI ((List.range j.toNat).map fun k : Nat => .int k) ρ
  | _ => False
theorem w_rng1 (h : ua ρ fun ws ρ1 => rngK (ws.map (val ρ1)) QI ρ1) : tRng1 ua ρ QI := h
theorem w_rngI (h : BndI x) (q : QI ((List.range x.toNat).map fun k : Nat => .int k) ρ) : rngK [.int x] QI ρ := ⟨h, q⟩
def rgK (d : D) (Q : List D → Rho → Prop) (ρ : Rho) : Prop := match d with
  | .int n => RgB 0 n ∧ Q (rngD 0 n) ρ
  | _ => False
theorem w_lrg1 (h : te ρ fun w ρ1 => rgK (val ρ1 w) (fun l => Q (.new l)) ρ1) : tLRg1 te ρ Q := h
theorem w_qrg1 (h : te ρ fun w ρ1 => rgK (val ρ1 w) QI ρ1) : tQRg1 te ρ QI := h
theorem w_rgI {n : Nat} (hn : n ≤ 1000000) (q : QI ((List.range n).map fun k : Nat => D.int k) ρ) : rgK (.int n) QI ρ := by
  refine ⟨?_, ?_⟩
  · unfold RgB BndI; omega
  · have e : rngD 0 (n : Int) = (List.range n).map fun k : Nat => D.int k := by
      unfold rngD
      rw [show ((n : Int) - 0).toNat = n by omega]
      exact List.map_congr_left fun k _ => by rw [Int.zero_add]
    rw [e]; exact q
def rg2K (d d' : D) (Q : W → Rho → Prop) (ρ : Rho) : Prop := match d, d' with
  | .int a, .int b => RgB a b ∧ Q (.new (rngD a b)) ρ
  | _, _ => False
theorem w_lrg2 (h : ta ρ fun w ρ1 => tb ρ1 fun w' ρ2 => rg2K (val ρ2 w) (val ρ2 w') Q ρ2) : tLRg2 ta tb ρ Q := h
theorem w_lrg2I (h : RgB x y) (q : Q (.new (rngD x y)) ρ) : rg2K (.int x) (.int y) Q ρ := ⟨h, q⟩
def appK (i : Nat) (ws : List W) (ρ1 : Rho) (Q : W → Rho → Prop) : Prop := match ws, ρ1[i]? with
  | [w], some (.own l) => (fitI i w = true ∧ l.length < sizeLine) ∧ Q (.dat .non) ((frzs [w] ρ1).set i (.own (l ++ [val ρ1 w])))
  | _, _ => False
theorem w_app (h0 : isOwn ρ i = true) (h : ua ρ fun ws ρ1 => appK i ws ρ1 Q) : tApp i ua ρ Q := ⟨h0, h⟩
theorem w_appI (h : ρ[i]? = some (.own l)) (h1 : fitI i w = true) (h2 : l.length < 1000000) (q : Q (.dat .non) ((frzs [w] ρ).set i (.own (l ++ [val ρ w])))) : appK i [w] ρ Q := by
  unfold appK
  rw [h]
  exact ⟨⟨h1, by rw [sizeLine_eq]; omega⟩, q⟩
def popK (i : Nat) (ds : List D) (ρ1 : Rho) (Q : W → Rho → Prop) : Prop := match ds, ρ1[i]? with
  | [.int z], some (.own l) => (match ixN l.length z with
    | some j => (match l[j]? with
      | some d => BndI z ∧ Q (.dat d) (ρ1.set i (.own (l.eraseIdx j)))
      | none => False)
    | none => False)
  | _, _ => False
theorem w_pop (h0 : isOwn ρ i = true) (h : ua ρ fun ws ρ1 => popK i (ws.map (val ρ1)) ρ1 Q) : tPop i ua ρ Q := ⟨h0, h⟩
theorem w_popI {k : Nat} (h : ρ[i]? = some (.own l)) (hk : l[k]? = some d) (hb : k < 1000000) (hx : x = k) (q : Q (.dat d) (ρ.set i (.own (l.eraseIdx k)))) : popK i [.int x] ρ Q := by
  subst hx
  have hl : k < l.length := (List.getElem?_eq_some_iff.mp hk).1
  have e : ixN l.length (k : Int) = some k := by
    unfold ixN
    rw [if_pos (by omega), if_pos (by omega)]
    simp
  unfold popK
  rw [h]
  simp only [e, hk]
  exact ⟨by unfold BndI; omega, q⟩
def callMK (P : PrmM) (ws : List W) (ρ1 : Rho) (Q : W → Rho → Prop) : Prop := match ws with
  | .ref i :: rest => (rest.all nz = true ∧ rest.any (isRef i) = false) ∧ (match ρ1[i]? with
    | some (.own l) => P l (rest.map (val ρ1)) fun w l' => Q w ((frzs rest ρ1).set i (.own l'))
    | _ => False)
  | [.new l] => P l [] fun w _ => Q w ρ1
  | _ => False
theorem w_callMN {P : PrmM} (q : P l [] fun w _ => Q w ρ) : callMK P [.new l] ρ Q := q
theorem w_callM {P : PrmM} (h : ua ρ fun ws ρ1 => callMK P ws ρ1 Q) : tCallM P ua ρ Q := h
theorem w_callMI {P : PrmM} {rest : List W} (h1 : rest.all nz = true) (h2 : rest.any (isRef i) = false) (h : ρ[i]? = some (.own l)) (q : P l (rest.map (val ρ)) fun w l' => Q w ((frzs rest ρ).set i (.own l'))) : callMK P (.ref i :: rest) ρ Q := by
  unfold callMK
  refine ⟨⟨h1, h2⟩, ?_⟩
  rw [h]; exact q
theorem w_II {f : Int → Int → Int} (q : R (.dat (.int (f x y)))) : rdII f [.int x, .int y] R := q
theorem w_abs (q : R (.dat (.int x.natAbs))) : rdAbs [.int x] R := q
theorem w_intI (q : R (.dat (.int x))) : rdInt [.int x] R := q
theorem w_intB {b : Bool} (q : R (.dat (.int (if b then 1 else 0)))) : rdInt [.bl b] R := q
theorem w_pow (h : CPowW x y) (q : R (.dat (.int (x ^ y.toNat)))) : rdPow (.int x) (.int y) R := ⟨h, q⟩
theorem w_srtL (q : R (.new ((srtI r).map .int))) : rdNs gSrt [.lst (r.map D.int)] R := by
  unfold rdNs
  simp only [seq_lst]
  exact q
theorem w_srtT (q : R (.new ((srtI r).map .int))) : rdNs gSrt [.tup (r.map D.int)] R := by
  unfold rdNs
  simp only [seq_tup]
  exact q
theorem w_srtRT (q : R (.new ((srtI r).reverse.map .int))) : rdNs gSrtR [.tup (r.map D.int)] R := by
  unfold rdNs
  simp only [seq_tup]
  exact q
theorem w_maxT (h : r ≠ []) (q : R (.dat (.int (maxI r)))) : rdNs gMax [.tup (r.map D.int)] R := by
  unfold rdNs
  simp only [seq_tup]
  exact ⟨h, q⟩
theorem w_maxL (h : r ≠ []) (q : R (.dat (.int (maxI r)))) : rdNs gMax [.lst (r.map D.int)] R := by
  unfold rdNs
  simp only [seq_lst]
  exact ⟨h, q⟩
theorem w_minT (h : r ≠ []) (q : R (.dat (.int (minI r)))) : rdNs gMin [.tup (r.map D.int)] R := by
  unfold rdNs
  simp only [seq_tup]
  exact ⟨h, q⟩
theorem w_addT {l m : List D} (h : l.length + m.length ≤ 1000000) (q : R (.dat (.tup (l ++ m)))) : rdAdd (.tup l) (.tup m) R := ⟨by rw [sizeLine_eq]; omega, q⟩
theorem w_addL {l m : List D} (h : l.length + m.length ≤ 1000000) (q : R (.new (l ++ m))) : rdAdd (.lst l) (.lst m) R := ⟨by rw [sizeLine_eq]; omega, q⟩
theorem flat_one {α : Type} (a : α) : ∀ n : Nat, (List.replicate n [a]).flatten = List.replicate n a
  | 0 => rfl
  | n + 1 => by rw [List.replicate_succ, List.flatten_cons, flat_one a n]; rfl
theorem w_repT {n : Nat} (h : n ≤ 1000) (hx : x.toNat = n) (h2 : -1000 ≤ x) (q : R (.dat (.tup (List.replicate n d)))) : rdMulA (.tup [d]) (.int x) R := by
  subst hx
  refine ⟨⟨by omega, by omega, by simp⟩, ?_⟩
  rw [flat_one]; exact q
theorem w_repL {n : Nat} (h : n ≤ 1000) (hx : x.toNat = n) (h2 : -1000 ≤ x) (q : R (.new (List.replicate n d))) : rdMulA (.lst [d]) (.int x) R := by
  subst hx
  refine ⟨⟨by omega, by omega, by rw [sizeLine_eq]; simp; omega⟩, ?_⟩
  rw [flat_one]; exact q
theorem w_slTo {n : Nat} (q : R (.dat (.tup ((r.take n).map D.int)))) : rdSl (.tup (r.map D.int)) none (some (n : Int)) R := by
  show R (.dat (.tup (cutD (r.map D.int) none (some (n : Int)))))
  rw [cut_to, ← List.map_take]; exact q
theorem w_slToL {l : List D} {n : Nat} (q : R (.new (l.take n))) : rdSl (.lst l) none (some (n : Int)) R := by
  show R (.new (cutD l none (some (n : Int))))
  rw [cut_to]; exact q
theorem w_while (I : Nat → Rho → Prop) (m0 : Nat) (h0 : I m0 ρ) (h : ∀ m ρ1, I m ρ1 → c ρ1 fun b ρ2 => if b = true then t { L with nx := fun ρ3 => ∃ m', m' < m ∧ I m' ρ3, ct := fun ρ3 => ∃ m', m' < m ∧ I m' ρ3, bk := L.nx } ρ2 else L.nx ρ2) : tWhileL c t L ρ := ⟨I, ⟨m0, h0⟩, h⟩
def augK (d : D) (a : Int) (f : Int → Int → Int) (i : Nat) (L : LEnds) (ρ1 : Rho) : Prop := match d with
  | .int b => L.nx (ρ1.set i (.dat (.int (f a b))))
  | _ => False
theorem w_aug {f : Int → Int → Int} (h : ρ[i]? = some (.dat (.int x))) (q : te ρ fun w ρ1 => augK (val ρ1 w) x f i L ρ1) : tAugL i f te L ρ := by
  unfold tAugL
  rw [h]; exact q
theorem w_augI {f : Int → Int → Int} (q : L.nx (ρ.set i (.dat (.int (f x y))))) : augK (.int y) x f i L ρ := q
def unK (n : Nat) (gs : LTGs) (d : D) (ρ : Rho) (Q : Rho → Prop) : Prop := match d with
  | .lst ds => ds.length = n ∧ gs ds ρ Q
  | _ => False
theorem w_gUn {gs : LTGs} {n : Nat} (h : unK n gs (val ρ w) ρ QG) : gUnL n gs w ρ QG := h
theorem w_unL {gs : LTGs} {n : Nat} (h : ds.length = n) (q : gs ds ρ QG) : unK n gs (.lst ds) ρ QG := ⟨h, q⟩
def tupK (n : Nat) (gs : LTGs) (d : D) (ρ : Rho) (Q : Rho → Prop) : Prop := match d with
  | .tup ds => ds.length = n ∧ gs ds ρ Q
  | _ => False
theorem w_gT {gs : LTGs} {n : Nat} (h : tupK n gs (val ρ w) ρ QG) : gTupL n gs w ρ QG := h
theorem w_tupT {gs : LTGs} {n : Nat} (h : ds.length = n) (q : gs ds ρ QG) : tupK n gs (.tup ds) ρ QG := ⟨h, q⟩
theorem w_sortLam {pr : Bool} (h : tq ρ fun ds ρ1 => ∃ k : D → Int × Int, isPys ds = true ∧ (∀ d ∈ ds, tb (ρ1 ++ [.dat d]) fun w ρ' => ρ' = ρ1 ++ [.dat d] ∧ keyD pr (val ρ' w) (k d)) ∧ Q (.new (srtK k ds)) ρ1) : tSortLam pr tq tb ρ Q := h
theorem w_neL (q : R (.dat (.bl (!(r == s))))) : rdNe (.lst (r.map D.int)) (.lst (s.map D.int)) R := ⟨⟨shp_lst _, shp_lst _⟩, by rw [eqD_lst]; exact q⟩
theorem w_neC {a b : D} (h1 : shp a = true) (h2 : shp b = true) {k : Bool} (h3 : eqD a b = k) (q : R (.dat (.bl (!k)))) : rdNe a b R := ⟨⟨h1, h2⟩, by rw [h3]; exact q⟩
theorem w_neB {a b : Bool} (q : R (.dat (.bl (!(a == b))))) : rdNe (.bl a) (.bl b) R := ⟨⟨rfl, rfl⟩, by
  have : eqD (.bl a) (.bl b) = (a == b) := by cases a <;> cases b <;> rfl
  rw [this]; exact q⟩
theorem w_ixI (k : Nat) (hk : l[k]? = some d) (hx : x = k) (q : R (.dat d)) : rdIx (.tup l) (.int x) R := by
  subst hx
  have hl : k < l.length := (List.getElem?_eq_some_iff.mp hk).1
  have e : atD l (k : Int) = some d := by rw [atD_ok _ _ (by omega) (by omega)]; simpa using hk
  unfold rdIx
  simp only [e]
  exact q
theorem w_ixIL (k : Nat) (hk : l[k]? = some d) (hx : x = k) (q : R (.dat d)) : rdIx (.lst l) (.int x) R := by
  subst hx
  have hl : k < l.length := (List.getElem?_eq_some_iff.mp hk).1
  have e : atD l (k : Int) = some d := by rw [atD_ok _ _ (by omega) (by omega)]; simpa using hk
  unfold rdIx
  simp only [e]
  exact q
/-- all of them, walked at once: a call at each, the slots kept in an invariant -/
theorem isPys_rng : ∀ l : List Nat, isPys (l.map fun k : Nat => D.int k) = true
  | [] => rfl
  | _ :: l => by
    show (isPy _ && isPys (l.map fun k : Nat => D.int k)) = true
    rw [isPys_rng l]; rfl
def s1K (w : W) (d : D) (ρ2 : Rho) (Q : W → Rho → Prop) : Prop := match itemsOf d with
  | some l => ((w :: (l.map W.dat ++ [])).all nz = true ∧ (w :: (l.map W.dat ++ [])).length ≤ sizeLine) ∧ Q (.dat (.tup ((w :: (l.map W.dat ++ [])).map (val ρ2)))) (frzs (w :: (l.map W.dat ++ [])) ρ2)
  | none => False
theorem w_tup1S (h : ta ρ fun w ρ1 => tb ρ1 fun w' ρ2 => s1K w (val ρ2 w') ρ2 Q) : tTupL (aCons ta (aStar tb aNil)) ρ Q := by
  have e : (fun (w : W) (ρ1 : Rho) => tb ρ1 fun w' ρ2 => s1K w (val ρ2 w') ρ2 Q) = fun (w : W) (ρ1 : Rho) => tb ρ1 fun w' ρ2 => match itemsOf (val ρ2 w') with
    | some l => ((w :: (l.map W.dat ++ [])).all nz = true ∧ (w :: (l.map W.dat ++ [])).length ≤ sizeLine) ∧ Q (.dat (.tup ((w :: (l.map W.dat ++ [])).map (val ρ2)))) (frzs (w :: (l.map W.dat ++ [])) ρ2)
    | none => False := rfl
  rw [e] at h
  exact h
theorem dat_all (l : List D) : (l.map W.dat).all nz = true := by induction l <;> simp_all [nz]
theorem dat_any (l : List D) : (l.map W.dat).any anyRef = false := by induction l <;> simp_all [anyRef]
theorem dat_val (l : List D) : (l.map W.dat).map (val ρ) = l := by
  induction l with
  | nil => rfl
  | cons d l ih => rw [List.map_cons, List.map_cons, ih]; rfl
theorem s1K_of (h : itemsOf e = some l) (hl : l.length ≤ 100000) (q : Q (.dat (.tup (d :: l))) ρ) : s1K (.dat d) e ρ Q := by
  unfold s1K
  rw [h]
  simp only [List.append_nil]
  rw [show (W.dat d :: l.map W.dat) = (d :: l).map W.dat from rfl]
  refine ⟨⟨dat_all _, by rw [sizeLine_eq, List.length_map, List.length_cons]; omega⟩, ?_⟩
  have e : frzs ((d :: l).map W.dat) ρ = ρ := by unfold frzs; rw [dat_any]; rfl
  rw [dat_val, e]; exact q
theorem w_s1L (hl : l.length ≤ 100000) (q : Q (.dat (.tup (d :: l))) ρ) : s1K (.dat d) (.lst l) ρ Q := s1K_of rfl hl q
theorem w_s1T (hl : l.length ≤ 100000) (q : Q (.dat (.tup (d :: l))) ρ) : s1K (.dat d) (.tup l) ρ Q := s1K_of rfl hl q
theorem nn {r : List Int} (h : 0 < r.length) : r ≠ [] := fun e => by subst e; cases h
theorem maxI_eq {r : List Int} {m : Int} (h : m ∈ r) (g : ∀ y ∈ r, y ≤ m) : maxI r = m := by
  have := maxI_mem (l := r) (fun e => by subst e; cases h)
  exact Int.le_antisymm (g _ this.1) (this.2 _ h)
theorem minI_eq {r : List Int} {m : Int} (h : m ∈ r) (g : ∀ y ∈ r, m ≤ y) : minI r = m := by
  have := minI_mem (l := r) (fun e => by subst e; cases h)
  exact Int.le_antisymm (this.2 _ h) (g _ this.1)
def chnK (d : D) (rd' : Rd2) (tc : LTE) (y : W) (ρ2 : Rho) (Q : W → Rho → Prop) : Prop := match d with
  | .bl c => if c = true then tc ρ2 fun z' ρ3 => rd' (val ρ3 y) (val ρ3 z') fun w => Q w ρ3 else Q (.dat (.bl false)) ρ2
  | _ => False
theorem w_chn {rd' : Rd2} {tc : LTE} (h : ta ρ fun x ρ1 => tb ρ1 fun y ρ2 => rd (val ρ2 x) (val ρ2 y) fun z => chnK (val ρ2 z) rd' tc y ρ2 Q) : tChn rd rd' ta tb tc ρ Q := h
theorem w_chnB {rd' : Rd2} {tc : LTE} {b : Bool} {y : W} (h : if b = true then tc ρ fun z' ρ3 => rd' (val ρ3 y) (val ρ3 z') fun w => Q w ρ3 else Q (.dat (.bl false)) ρ) : chnK (.bl b) rd' tc y ρ Q := h
theorem w_ixCL (h : atD l x = some d) (q : R (.dat d)) : rdIx (.lst l) (.int x) R := by
  unfold rdIx
  simp only [h]
  exact q
theorem w_gIxC {k : Nat} (h : ρ[i]? = some (.own l)) (hx : ixN l.length x = some k) (q : QG (ρ.set i (.own (l.set k d)))) : gIxK i d (.int x) ρ QG := by
  unfold gIxK
  rw [h]
  simp only [hx]
  exact q
theorem cm2 {i j : Int} (h1 : i.natAbs < 2 ^ 200) (h2 : j.natAbs < 2 ^ 200) : CMulW i j := cmw (Nat.lt_trans h1 (by decide +kernel)) (Nat.lt_trans h2 (by decide +kernel))
theorem w_lenS (q : R (.dat (.int l.length))) : rdLen [.scr l] R := q
theorem w_fd {y : Int} (h1 : 0 < y) (h2 : y.natAbs < 2 ^ 200) (q : R (.dat (.int (x / y)))) : rdFdiv (.int x) (.int y) R := ⟨⟨h1, by
  by_cases z : y.natAbs = 0
  · rw [z]; decide
  · have := (Nat.log2_lt z).mpr h2
    omega⟩, q⟩
theorem w_ixS (k : Nat) (hk : l[k]? = some d) (hx : x = k) (q : R (.dat d)) : rdIx (.scr l) (.int x) R := by
  subst hx
  have hl : k < l.length := (List.getElem?_eq_some_iff.mp hk).1
  have e : atD l (k : Int) = some d := by rw [atD_ok _ _ (by omega) (by omega)]; simpa using hk
  unfold rdIx
  simp only [e]
  exact q
theorem w_repT2 (h : x ≤ 1000) (h2 : -1000 ≤ x) (q : R (.dat (.tup (List.replicate x.toNat d)))) : rdMulA (.tup [d]) (.int x) R := w_repT (n := x.toNat) (by omega) rfl h2 q
/-- a comprehension whose elements change slots: an invariant over what is left and what is made -/
theorem dcomp_inv {g : LTG} {tt : LTT} {te : LTE} {vs : List Nat} {Q : List D → Rho → Prop} (I : List D → List D → Rho → Prop)
    (h : ∀ d ds acc ρ, I (d :: ds) acc ρ → acc.length < sizeLine → ∀ C : List D → Rho → Prop, (∀ acc' ρ', acc'.length ≤ acc.length + 1 → I ds acc' ρ' → C acc' ρ') →
      g (.dat d) ρ fun ρ2 => tt ρ2 fun b ρ3 => if b = true then te ρ3 fun w ρ4 => (nz w = true ∧ acc.length < sizeLine) ∧ C (acc ++ [val ρ4 w]) (wipeR (frzs [w] ρ4) vs) else C acc (wipeR ρ3 vs))
    (hn : ∀ acc ρ, I [] acc ρ → Q acc ρ) : ∀ (ds acc : List D) (ρ : Rho), acc.length + ds.length ≤ 1000000 → I ds acc ρ → dcomp g tt te vs ds acc ρ Q
  | [], acc, ρ, _, i => hn acc ρ i
  | d :: ds, acc, ρ, hl, i => by
    have hl' : acc.length + (ds.length + 1) ≤ 1000000 := hl
    exact h d ds acc ρ i (by rw [sizeLine_eq]; omega) (fun acc' ρ' => dcomp g tt te vs ds acc' ρ' Q) fun acc' ρ' hle i' => dcomp_inv I h hn ds acc' ρ' (by omega) i'
end
end L3

set_option Elab.async false
set_option linter.all false
namespace K82
open L3 L2 PyProof.Rows
def prodR (r s : List Int) : Int := r.getD 0 0 * s.getD 0 0 - (List.zipWith (· * ·) r.tail s.tail).sum
def cubR (r : List Int) : Int := 3 * r.getD 0 0 - r.tail.sum
def cntR (r : List Int) : Int := (prodR r r + cubR r) / 2 + 1
def addAt (c : Int) (r : List Int) (p : Nat) : List Int := r.set p (r.getD p 0 + c)
def moreR (r : List Int) (i j k : Nat) : Int := r.getD 0 0 - r.getD (i + 1) 0 - r.getD (j + 1) 0 - r.getD (k + 1) 0
def turnR (r : List Int) (i j k : Nat) : List Int := [0, i + 1, j + 1, k + 1].foldl (addAt (moreR r i j k)) r
def keyR (r : List Int) (d : D) : Int × Int := match d with
  | .int z => (-(r.getD (1 + z).toNat 0), z)
  | _ => (0, 0)
def keyN (r : List Int) (p : Nat) : Int × Int := (-(r.getD (1 + p) 0), p)
def insN (k : Nat → Int × Int) (d : Nat) : List Nat → List Nat
  | [] => [d]
  | e :: l => if SrtO.lexB (k e) (k d) = true then e :: insN k d l else d :: e :: l
def srtN (k : Nat → Int × Int) (ds : List Nat) : List Nat := ds.foldr (insN k) []
def ordR (r : List Int) : List Nat := srtN (keyN r) (List.range (r.length - 1))
def g3L (r : List Int) : List Int := srtI (((ordR r).take 3).map fun x : Nat => (x : Int))
def g3 (r : List Int) : Nat × Nat × Nat := (((g3L r).getD 0 0).toNat, ((g3L r).getD 1 0).toNat, ((g3L r).getD 2 0).toNat)
def turnT (r : List Int) (t : Nat × Nat × Nat) : List Int := turnR r t.1 t.2.1 t.2.2
def abvR (r : List Int) (t : Nat × Nat × Nat) : Bool := decide (moreR r t.1 t.2.1 t.2.2 < 0)
def clipR (r : List Int) : List Int := r.getD 0 0 :: r.tail.map fun x => max 0 x
def stdF : Nat → List Int → Option (List Int)
  | 0, _ => none
  | f + 1, r => if (clipR r).getD 0 0 < 0 then none else if abvR (clipR r) (g3 (clipR r)) = true then stdF f (turnT (clipR r) (g3 (clipR r))) else some ((clipR r).getD 0 0 :: (srtI (clipR r).tail).reverse)
def lowF : Option (List Int) → Int
  | none => 0
  | some e => max 0 (cntR e)
def barR (r : List Int) : Bool := decide (r.length = 17 ∧ 4 * r.getD 0 0 ≤ r.tail.sum ∧ 0 < maxI r)
def goR (r : List Int) : Bool := decide (0 ≤ minI r.tail ∧ 0 < r.getD 0 0)
def walkF : Nat → List Int → List (Nat × Nat × Nat) × List Int
  | 0, r => ([], r)
  | f + 1, r => if (goR r && abvR r (g3 r)) = true then (g3 r :: (walkF f (turnT r (g3 r))).1, (walkF f (turnT r (g3 r))).2) else ([], r)
def isPtR (r : List Int) : Bool := decide (r.getD 0 0 = 0 ∧ srtI r = -1 :: List.replicate (r.length - 1) 0)
def mixI (b c : Int) : Int := ((b + 1000403 * c) % 2305843009213693951 * ((b + 1000403 * c) % 2305843009213693951) % 2305843009213693921 * ((b + 1000403 * c) % 2305843009213693951) + 9473 * c) % 2305843009213693907
def rollF (a b c s : Int) : Int × Int × Int := if 0 < a then (a % s, a / s, c) else (mixI b (c + 1) / 4096 % s, a, c + 1)
end K82

set_option linter.all false
set_option Elab.async false
namespace K82
theorem crt1 (A : Int) : ∃ q t : Int, 0 ≤ t ∧ t < 5316911983139663385546449817291456557 ∧ 5316911983139663385546449817291456557 * q + t = A := ⟨A / 5316911983139663385546449817291456557, A % 5316911983139663385546449817291456557, by omega, by omega, by omega⟩
theorem crt2 (X Y q t : Int) (d : 5316911983139663385546449817291456557 * q + t = 547696302429179493095957515891446877 * X + 984601755195650863959008382061628788 * Y) : X + 2000806 * t = 2305843009213693951 * (475242262243951625486513 * X + 854350053986446387747528 * Y - 4613544527892814051289042 * q) := by omega
theorem crt3 (X Y q t : Int) (d : 5316911983139663385546449817291456557 * q + t = 547696302429179493095957515891446877 * X + 984601755195650863959008382061628788 * Y) : 18946 * t = Y + 2305843009213693907 * (4500156387212907032606 * X + 8089997792303308552221 * Y - 43686501652562645595646 * q) := by omega
theorem crt (X Y : Int) : ∃ t : Int, 0 ≤ t ∧ t < 5316911983139663385546449817291456557 ∧ ∃ k l : Int, X + 2000806 * t = 2305843009213693951 * k ∧ 18946 * t = Y + 2305843009213693907 * l :=
  (crt1 (547696302429179493095957515891446877 * X + 984601755195650863959008382061628788 * Y)).elim fun q h => h.elim fun t h => ⟨t, h.1, h.2.1, _, _, crt2 X Y q t h.2.2, crt3 X Y q t h.2.2⟩
/-- some later mixed number is a told small one -/
theorem mix_some (b c v : Int) (hv : 0 ≤ v) (hv2 : v ≤ 15) : ∃ t : Nat, (t : Int) < 5316911983139663385546449817291456557 ∧ mixI b (c + 2 * t + 1) / 4096 = v := by
  obtain ⟨t, h0, ht, k, l, h1, h2⟩ := crt (b + 1000403 * (c + 1)) (4096 * v - 9473 * (c + 1))
  obtain ⟨n, rfl⟩ := Int.eq_ofNat_of_zero_le h0
  refine ⟨n, ht, ?_⟩
  have e1 : (b + 1000403 * (c + 2 * n + 1)) % 2305843009213693951 = 0 := by
    rw [show b + 1000403 * (c + 2 * (n : Int) + 1) = 2305843009213693951 * k by rw [← h1]; omega]
    exact Int.mul_emod_right _ _
  have e2 : (9473 * (c + 2 * n + 1)) % 2305843009213693907 = 4096 * v := by
    rw [show 9473 * (c + 2 * (n : Int) + 1) = 4096 * v + 2305843009213693907 * l by omega, Int.add_mul_emod_self_left]
    exact Int.emod_eq_of_lt (by omega) (by omega)
  unfold mixI
  rw [e1]
  simp only [Int.zero_mul, Int.mul_zero, Int.zero_emod, Int.zero_add]
  rw [e2]
  exact Int.mul_ediv_cancel_left _ (by decide)
end K82

set_option linter.all false
namespace K82
/-- rows as functions: the degree at 0, the numbers at 1, 2, .. -/
abbrev Fr := Nat → Int
def mor (r : Fr) (i j k : Nat) : Int := r 0 - r i - r j - r k
def trn (r : Fr) (i j k : Nat) : Fr := fun x => if x = 0 ∨ x = i ∨ x = j ∨ x = k then r x + mor r i j k else r x
def tau (a b x : Nat) : Nat := if x = a then b else if x = b then a else x
def swp (r : Fr) (a b : Nat) : Fr := fun x => r (tau a b x)
structure Tri (n i j k : Nat) : Prop where
  i0 : 0 < i
  j0 : 0 < j
  k0 : 0 < k
  i1 : i ≤ n
  j1 : j ≤ n
  k1 : k ≤ n
  ij : i ≠ j
  ik : i ≠ k
  jk : j ≠ k
theorem tau_tau (a b x : Nat) : tau a b (tau a b x) = x := by unfold tau; grind
theorem tau_iff (a b x i : Nat) : tau a b x = i ↔ x = tau a b i := by unfold tau; grind
theorem tau_pos {a b x : Nat} (ha : 0 < a) (hb : 0 < b) (hx : 0 < x) : 0 < tau a b x := by unfold tau; grind
theorem tau_le {a b x n : Nat} (ha : a ≤ n) (hb : b ≤ n) (hx : x ≤ n) : tau a b x ≤ n := by unfold tau; grind
theorem tau_zero {a b : Nat} (ha : 0 < a) (hb : 0 < b) : tau a b 0 = 0 := by unfold tau; grind
theorem Tri.tau {n i j k a b : Nat} (h : Tri n i j k) (ha : 0 < a) (hb : 0 < b) (ha' : a ≤ n) (hb' : b ≤ n) : Tri n (tau a b i) (tau a b j) (tau a b k) := by
  refine ⟨tau_pos ha hb h.i0, tau_pos ha hb h.j0, tau_pos ha hb h.k0, tau_le ha' hb' h.i1, tau_le ha' hb' h.j1, tau_le ha' hb' h.k1, fun e => h.ij ?_, fun e => h.ik ?_, fun e => h.jk ?_⟩
  · rw [← tau_tau a b i, e, tau_tau]
  · rw [← tau_tau a b i, e, tau_tau]
  · rw [← tau_tau a b j, e, tau_tau]
theorem swp_trn {a b : Nat} (ha : 0 < a) (hb : 0 < b) (r : Fr) (i j k : Nat) : swp (trn r i j k) a b = trn (swp r a b) (tau a b i) (tau a b j) (tau a b k) := by
  funext x
  have h0 : tau a b x = 0 ↔ x = 0 := by rw [tau_iff, tau_zero ha hb]
  have hi := tau_iff a b x i
  have hj := tau_iff a b x j
  have hk := tau_iff a b x k
  have e : mor (swp r a b) (tau a b i) (tau a b j) (tau a b k) = mor r i j k := by
    unfold mor swp
    rw [tau_tau, tau_tau, tau_tau, tau_zero ha hb]
  unfold trn
  rw [e]
  unfold swp
  simp only [h0, hi, hj, hk]
theorem trn_same {r : Fr} {i j k : Nat} (h : mor r i j k = 0) : trn r i j k = r := by
  funext x
  unfold trn
  rw [h]
  split <;> omega
/-- what turns upward make of some rows -/
inductive U (n : Nat) (B : Fr → Prop) : Fr → Prop
  | base {r : Fr} : B r → U n B r
  | up {r : Fr} {i j k : Nat} : U n B r → Tri n i j k → 0 < mor r i j k → U n B (trn r i j k)
/-- rows from which no turn leads down -/
structure Std (n : Nat) (d0 : Int) (B : Fr → Prop) : Prop where
  mor : ∀ r, B r → ∀ i j k, Tri n i j k → 0 ≤ mor r i j k
  swp : ∀ r, B r → ∀ a b, 0 < a → 0 < b → a ≤ n → b ≤ n → B (swp r a b)
  deg : ∀ r, B r → d0 ≤ r 0
variable {n : Nat} {d0 : Int} {B : Fr → Prop}
theorem U.swap (h : Std n d0 B) {r : Fr} (u : U n B r) {a b : Nat} (ha : 0 < a) (hb : 0 < b) (ha' : a ≤ n) (hb' : b ≤ n) : U n B (K82.swp r a b) := by
  induction u with
  | base hr => exact .base (h.swp _ hr a b ha hb ha' hb')
  | @up r i j k u t m ih =>
    rw [swp_trn ha hb]
    refine .up ih (t.tau ha hb ha' hb') ?_
    have e : K82.mor (K82.swp r a b) (tau a b i) (tau a b j) (tau a b k) = K82.mor r i j k := by
      unfold K82.mor K82.swp
      rw [tau_tau, tau_tau, tau_tau, tau_zero ha hb]
    rw [e]; exact m
theorem trn_zero (r : Fr) (i j k : Nat) : trn r i j k 0 = r 0 + K82.mor r i j k := by unfold trn; simp
theorem U.deg (h : Std n d0 B) {r : Fr} (u : U n B r) : d0 ≤ r 0 := by
  induction u with
  | base hr => exact h.deg _ hr
  | @up r i j k u t m ih => rw [trn_zero]; omega
theorem trn_perm1 (r : Fr) (i j k : Nat) : trn r i j k = trn r j i k := by unfold trn mor; grind
theorem trn_perm2 (r : Fr) (i j k : Nat) : trn r i j k = trn r i k j := by unfold trn mor; grind
theorem two_three {r : Fr} {i j k : Nat} (t : Tri n i j k) : trn (trn r i j k) i j k = r := by
  obtain ⟨h1, h2, h3, h4, h5, h6, h7, h8, h9⟩ := t
  funext x; unfold trn mor; grind
theorem two_two {r : Fr} {i j k l : Nat} (t : Tri n i j k) (s : Tri n i j l) (hl : l ≠ k) : trn (trn r i j k) i j l = trn (K82.swp r k l) i j k := by
  obtain ⟨h1, h2, h3, h4, h5, h6, h7, h8, h9⟩ := t
  obtain ⟨g1, g2, g3, g4, g5, g6, g7, g8, g9⟩ := s
  funext x; unfold trn mor swp tau; grind
theorem two_one {r : Fr} {i j k l m : Nat} (t : Tri n i j k) (s : Tri n i l m) (a1 : l ≠ j) (a2 : l ≠ k) (a3 : m ≠ j) (a4 : m ≠ k) : trn (trn r i j k) i l m = trn (trn r i l m) i j k := by
  obtain ⟨h1, h2, h3, h4, h5, h6, h7, h8, h9⟩ := t
  obtain ⟨g1, g2, g3, g4, g5, g6, g7, g8, g9⟩ := s
  funext x; unfold trn mor; grind
theorem two_none {r : Fr} {i j k l m o : Nat} (t : Tri n i j k) (s : Tri n l m o) (a1 : l ≠ i) (a2 : l ≠ j) (a3 : l ≠ k) (b1 : m ≠ i) (b2 : m ≠ j) (b3 : m ≠ k) (c1 : o ≠ i) (c2 : o ≠ j) (c3 : o ≠ k) :
    trn (trn r i j k) l m o = trn (trn (trn (trn r l m o) i j k) l m o) i j k := by
  obtain ⟨h1, h2, h3, h4, h5, h6, h7, h8, h9⟩ := t
  obtain ⟨g1, g2, g3, g4, g5, g6, g7, g8, g9⟩ := s
  have e0 : ∀ r : Fr, trn r i j k 0 = r 0 + mor r i j k := fun r => trn_zero r i j k
  have e0' : ∀ r : Fr, trn r l m o 0 = r 0 + mor r l m o := fun r => trn_zero r l m o
  have f : ∀ (r : Fr) x, trn r i j k x = if x = 0 ∨ x = i ∨ x = j ∨ x = k then r x + mor r i j k else r x := fun r x => rfl
  have f' : ∀ (r : Fr) x, trn r l m o x = if x = 0 ∨ x = l ∨ x = m ∨ x = o then r x + mor r l m o else r x := fun r x => rfl
  have A : ∀ r : Fr, mor (trn r i j k) l m o = mor r l m o + mor r i j k := fun r => by
    show trn r i j k 0 - trn r i j k l - trn r i j k m - trn r i j k o = _
    rw [f r 0, f r l, f r m, f r o, if_pos (Or.inl rfl), if_neg (by omega), if_neg (by omega), if_neg (by omega)]
    unfold mor; omega
  have A' : ∀ r : Fr, mor (trn r l m o) i j k = mor r i j k + mor r l m o := fun r => by
    show trn r l m o 0 - trn r l m o i - trn r l m o j - trn r l m o k = _
    rw [f' r 0, f' r i, f' r j, f' r k, if_pos (Or.inl rfl), if_neg (by omega), if_neg (by omega), if_neg (by omega)]
    unfold mor; omega
  have S : ∀ r : Fr, mor (trn r i j k) i j k = - mor r i j k := fun r => by
    show trn r i j k 0 - trn r i j k i - trn r i j k j - trn r i j k k = _
    rw [f r 0, f r i, f r j, f r k, if_pos (by omega), if_pos (by omega), if_pos (by omega), if_pos (by omega)]
    unfold mor; omega
  have S' : ∀ r : Fr, mor (trn r l m o) l m o = - mor r l m o := fun r => by
    show trn r l m o 0 - trn r l m o l - trn r l m o m - trn r l m o o = _
    rw [f' r 0, f' r l, f' r m, f' r o, if_pos (by omega), if_pos (by omega), if_pos (by omega), if_pos (by omega)]
    unfold mor; omega
  funext x
  rw [f' (trn r i j k) x, f r x, A r, f (trn (trn (trn r l m o) i j k) l m o) x, A' (trn (trn r l m o) i j k), S (trn r l m o), A' r, A (trn r l m o), S' r, A' r, f' (trn (trn r l m o) i j k) x, f (trn r l m o) x, A' r, A (trn r l m o), S' r, A' r, f' r x]
  by_cases q : x = 0 ∨ x = i ∨ x = j ∨ x = k
  · by_cases q' : x = 0 ∨ x = l ∨ x = m ∨ x = o
    · simp only [q, q', if_true]; omega
    · simp only [q, q', if_true, if_false]; omega
  · by_cases q' : x = 0 ∨ x = l ∨ x = m ∨ x = o
    · simp only [q, q', if_true, if_false]; omega
    · simp only [q, q', if_false]
theorem Tri.p1 {i j k : Nat} (t : Tri n i j k) : Tri n j i k := ⟨t.j0, t.i0, t.k0, t.j1, t.i1, t.k1, t.ij.symm, t.jk, t.ik⟩
theorem Tri.p2 {i j k : Nat} (t : Tri n i j k) : Tri n i k j := ⟨t.i0, t.k0, t.j0, t.i1, t.k1, t.j1, t.ik, t.ij, t.jk.symm⟩
theorem mor_p1 (r : Fr) (i j k : Nat) : mor r j i k = mor r i j k := by unfold mor; omega
theorem mor_p2 (r : Fr) (i j k : Nat) : mor r i k j = mor r i j k := by unfold mor; omega
/-- the case of a row that a turn has led up, and another turn that leads down -/
theorem U.diam (h : Std n d0 B) {u : Fr} (hu : U n B u) (N : Int) (hN : u 0 < N) (ih : ∀ r, U n B r → r 0 < N → ∀ i j k, Tri n i j k → U n B (trn r i j k))
    {i j k l m o : Nat} (t : Tri n i j k) (s : Tri n l m o) (up : 0 < K82.mor u i j k) (hNr : N = u 0 + K82.mor u i j k) (dn : K82.mor (trn u i j k) l m o < 0) : U n B (trn (trn u i j k) l m o) := by
  -- two in common
  have two : ∀ i j k l : Nat, Tri n i j k → Tri n i j l → U n B (trn (trn u i j k) i j l) := fun i j k l t s => by
    by_cases q : l = k
    · subst q; rw [two_three t]; exact hu
    · rw [two_two t s q]
      refine ih _ (hu.swap h t.k0 s.k0 t.k1 s.k1) ?_ _ _ _ t
      have : K82.swp u k l 0 = u 0 := by unfold K82.swp; rw [tau_zero t.k0 s.k0]
      omega
  have one : ∀ i j k l m : Nat, Tri n i j k → Tri n i l m → 0 < K82.mor u i j k → K82.mor (trn u i j k) i l m < 0 → N = u 0 + K82.mor u i j k → U n B (trn (trn u i j k) i l m) := fun i j k l m t s up dn hNr => by
    by_cases q1 : l = j
    · subst q1; exact two _ _ _ _ t s
    by_cases q2 : l = k
    · subst q2; rw [trn_perm2 u]; exact two _ _ _ _ t.p2 s
    by_cases q3 : m = j
    · subst q3; rw [trn_perm2 _ i l m]; exact two _ _ _ _ t s.p2
    by_cases q4 : m = k
    · subst q4; rw [trn_perm2 _ i l m, trn_perm2 u]; exact two _ _ _ _ t.p2 s.p2
    rw [two_one t s q1 q2 q3 q4]
    have e : K82.mor (trn u i j k) i l m = K82.mor u i l m := by
      obtain ⟨h1, h2, h3, h4, h5, h6, h7, h8, h9⟩ := t
      obtain ⟨g1, g2, g3, g4, g5, g6, g7, g8, g9⟩ := s
      unfold trn K82.mor; grind
    refine ih _ (ih _ hu hN _ _ _ s) ?_ _ _ _ t
    rw [trn_zero]; omega
  have ha : ∀ l m o : Nat, Tri n l m o → K82.mor (trn u i j k) l m o < 0 → (l = i ∨ l = j ∨ l = k) → U n B (trn (trn u i j k) l m o) := fun l m o s dn q => by
    rcases q with q | q | q
    · subst q; exact one _ _ _ _ _ t s up dn hNr
    · subst q
      rw [trn_perm1 u i l k] at dn ⊢
      exact one _ _ _ _ _ t.p1 s (by rw [mor_p1]; exact up) dn (by rw [mor_p1]; exact hNr)
    · subst q
      rw [trn_perm2 u i j l, trn_perm1 u i l j] at dn ⊢
      exact one _ _ _ _ _ t.p2.p1 s (by rw [mor_p1, mor_p2]; exact up) dn (by rw [mor_p1, mor_p2]; exact hNr)
  by_cases q : l = i ∨ l = j ∨ l = k
  · exact ha _ _ _ s dn q
  by_cases q' : m = i ∨ m = j ∨ m = k
  · rw [trn_perm1 _ l m o]
    exact ha _ _ _ s.p1 (by rw [mor_p1]; exact dn) q'
  by_cases q'' : o = i ∨ o = j ∨ o = k
  · rw [trn_perm2 _ l m o, trn_perm1 _ l o m]
    exact ha _ _ _ s.p2.p1 (by rw [mor_p1, mor_p2]; exact dn) q''
  rw [two_none t s (by omega) (by omega) (by omega) (by omega) (by omega) (by omega) (by omega) (by omega) (by omega)]
  have A : ∀ r : Fr, K82.mor (trn r i j k) l m o = K82.mor r l m o + K82.mor r i j k := fun r => by
    obtain ⟨h1, h2, h3, h4, h5, h6, h7, h8, h9⟩ := t
    obtain ⟨g1, g2, g3, g4, g5, g6, g7, g8, g9⟩ := s
    unfold trn K82.mor; grind
  have A' : ∀ r : Fr, K82.mor (trn r l m o) i j k = K82.mor r i j k + K82.mor r l m o := fun r => by
    obtain ⟨h1, h2, h3, h4, h5, h6, h7, h8, h9⟩ := t
    obtain ⟨g1, g2, g3, g4, g5, g6, g7, g8, g9⟩ := s
    unfold trn K82.mor; grind
  have S' : ∀ r : Fr, K82.mor (trn r l m o) l m o = - K82.mor r l m o := fun r => by
    obtain ⟨g1, g2, g3, g4, g5, g6, g7, g8, g9⟩ := s
    unfold trn K82.mor; grind
  have e1 := A u
  have u1 := ih u hu hN _ _ _ s
  have d1 : trn u l m o 0 = u 0 + K82.mor u l m o := trn_zero ..
  have u2 := ih _ u1 (by omega) _ _ _ t
  have d2 : trn (trn u l m o) i j k 0 = trn u l m o 0 + K82.mor (trn u l m o) i j k := trn_zero ..
  have e2 := A' u
  have u3 := ih _ u2 (by omega) _ _ _ s
  have d3 : trn (trn (trn u l m o) i j k) l m o 0 = trn (trn u l m o) i j k 0 + K82.mor (trn (trn u l m o) i j k) l m o := trn_zero ..
  have e3 := A (trn u l m o)
  have e4 := S' u
  exact ih _ u3 (by omega) _ _ _ t
theorem U.turn (h : Std n d0 B) : ∀ (N : Nat) (r : Fr), U n B r → r 0 < d0 + N → ∀ i j k, Tri n i j k → U n B (trn r i j k) := by
  intro N
  induction N with
  | zero => intro r u hr; have := u.deg h; omega
  | succ N ih =>
    intro r u hr l m o s
    cases u with
    | base hb =>
      have := h.mor _ hb _ _ _ s
      by_cases q : K82.mor r l m o = 0
      · rw [trn_same q]; exact .base hb
      · exact .up (.base hb) s (by omega)
    | @up u i j k hu t up =>
      by_cases q0 : K82.mor (trn u i j k) l m o = 0
      · rw [trn_same q0]; exact .up hu t up
      by_cases q1 : 0 < K82.mor (trn u i j k) l m o
      · exact .up (.up hu t up) s q1
      rw [trn_zero] at hr
      exact hu.diam h _ (by omega) (fun r hr' hd => ih r hr' (by omega)) t s up rfl (by omega)
theorem U.all (h : Std n d0 B) {r : Fr} (u : U n B r) {i j k : Nat} (t : Tri n i j k) : U n B (trn r i j k) :=
  U.turn h (r 0 - d0 + 1).toNat r u (by have := u.deg h; omega) i j k t
/-- a row of the orbit from which no turn leads down is one of the rows themselves -/
theorem U.low {r : Fr} (u : U n B r) : B r ∨ ∃ i j k, Tri n i j k ∧ K82.mor r i j k < 0 := by
  cases u with
  | base h => exact .inl h
  | @up u i j k hu t up =>
    refine .inr ⟨i, j, k, t, ?_⟩
    obtain ⟨h1, h2, h3, h4, h5, h6, h7, h8, h9⟩ := t
    unfold trn K82.mor at *; grind
end K82

set_option Elab.async false
set_option linter.all false
set_option maxRecDepth 100000
set_option maxHeartbeats 4000000
namespace K82
open PySem PySem.Spec PyProof.Rows L2 L3
def topS (i : Nat) : Stmt := PySem.Challenge.pw_timesthrough_k82_rows_led_to_points_and.main.body.getD i (.Pass ⟨0, 0, 0, 0⟩)
def K_HUNDRED_DIGITS : Int := 10 ^ 100
def K_TOO_LONG : Int := 10 ^ 200
/-- what the module's names stand for -/
structure Fx (K : PySem.W.Frag) (w : World) (mg : Str → Option Value) : Prop where
  z_int : mg "int" = none
  z_isinstance : mg "isinstance" = none
  z_bool : mg "bool" = none
  z_abs : mg "abs" = none
  z_range : mg "range" = none
  z_all : mg "all" = none
  z_tuple : mg "tuple" = none
  z_len : mg "len" = none
  z_next : mg "next" = none
  z_set : mg "set" = none
  z_zip : mg "zip" = none
  z_sum : mg "sum" = none
  z_str : mg "str" = none
  z_list : mg "list" = none
  z_sorted : mg "sorted" = none
  z_max : mg "max" = none
  z_min : mg "min" = none
  c_HUNDRED_DIGITS : ∃ t, mg "HUNDRED_DIGITS" = some (.int K_HUNDRED_DIGITS t)
  c_MOST_PRIME : ∃ t, mg "MOST_PRIME" = some (.int 65521 t)
  c_LEAST_PRIME : ∃ t, mg "LEAST_PRIME" = some (.int 5 t)
  c_LEAST_POINTS_TOLD : ∃ t, mg "LEAST_POINTS_TOLD" = some (.int 3 t)
  c_MAX_POINTS : ∃ t, mg "MAX_POINTS" = some (.int 16 t)
  c_LEAST_POINTS : ∃ t, mg "LEAST_POINTS" = some (.int 3 t)
  c_MOST_POINTS : ∃ t, mg "MOST_POINTS" = some (.int 16 t)
  c_MAX_WORD : ∃ t, mg "MAX_WORD" = some (.int 2000 t)
  c_TOO_LONG : ∃ t, mg "TOO_LONG" = some (.int K_TOO_LONG t)
  c_SWAP : ∃ t, mg "SWAP" = some (.str "swap" t)
  c_MOST_BOUNDED : ∃ t, mg "MOST_BOUNDED" = some (.int 16 t)
  c_FEWEST : ∃ t, mg "FEWEST" = some (.int 10 t)
  c_MOST_STEPS : ∃ t, mg "MOST_STEPS" = some (.int 2000 t)
  c_SQUARE_DEGREE : ∃ t, mg "SQUARE_DEGREE" = some (.int 4 t)
  t_SIZES : TabOf K w mg "SIZES" [(("swap" : Str), (2 : Int)), (("turn" : Str), (3 : Int))]
def RowOk (r : List Int) : Prop := 4 ≤ r.length ∧ r.length ≤ 17 ∧ ∀ i ∈ r, i.natAbs < 10 ^ 100
def PrimeOk (p : Int) : Prop := p ∈ [32003, 65521, 10007, 30011]
def PtOk (p : Int) (t : List Int) : Prop := t.length = 3 ∧ (∀ i ∈ t, 0 ≤ i ∧ i ≤ p - 1) ∧ nz1 t.reverse 0 = 1
def PtsOk (p : Int) (ts : List (List Int)) : Prop := 3 ≤ ts.length ∧ ts.length ≤ 16 ∧ (∀ t ∈ ts, PtOk p t) ∧ ts.Nodup
def ptsD (ts : List (List Int)) : D := .tup (ts.map tupI)
def P_is_whole : Prm := fun ds Q => ∃ i : Int, ds = [.int i] ∧ Q (.dat (.bl true))
def P_is_integer : Prm := fun ds Q => ∃ i : Int, ds = [.int i] ∧ i.natAbs < 10 ^ 200 ∧ Q (.dat (.bl true))
def P_is_within : Prm := fun ds Q => ∃ i a b : Int, ds = [.int i, .int a, .int b] ∧ Q (.dat (.bl (decide (a ≤ i ∧ i ≤ b))))
def P_is_prime_in : Prm := fun ds Q => ∃ p : Int, ds = [.int p] ∧ PrimeOk p ∧ Q (.dat (.bl true))
def P_require_prime : Prm := fun ds Q => ∃ p : Int, ds = [.int p] ∧ PrimeOk p ∧ Q (.dat .non)
def P_is_point_in : Prm := fun ds Q => ∃ (p : Int) (t : List Int), ds = [.int p, tupI t] ∧ PtOk p t ∧ Q (.dat (.bl true))
def P_are_points_in : Prm := fun ds Q => ∃ (p : Int) (ts : List (List Int)), ds = [.int p, ptsD ts] ∧ PtsOk p ts ∧ Q (.dat (.bl true))
def P_require_points : Prm := fun ds Q => ∃ (p : Int) (ts : List (List Int)), ds = [.int p, ptsD ts] ∧ PrimeOk p ∧ PtsOk p ts ∧ Q (.dat .non)
def P_points_of : Prm := fun ds Q => ∃ r : List Int, ds = [rowD r] ∧ Q (.dat (.int (r.length - 1 : Int)))
def P_is_row_in : Prm := fun ds Q => ∃ r : List Int, ds = [rowD r] ∧ RowOk r ∧ Q (.dat (.bl true))
def D_require_row : List D := [.int 3, .int 16]
def P_require_row : Prm := fun ds Q => ∃ (r : List Int) (a b : Int), ds = [rowD r, .int a, .int b] ∧ RowOk r ∧ a ≤ r.length - 1 ∧ (r.length : Int) - 1 ≤ b ∧ Q (.dat (.int (r.length - 1 : Int)))
def P_product_in : Prm := fun ds Q => ∃ r s : List Int, ds = [rowD r, rowD s] ∧ RowOk r ∧ RowOk s ∧ Q (.dat (.int (prodR r s)))
def P_square_in : Prm := fun ds Q => ∃ r : List Int, ds = [rowD r] ∧ RowOk r ∧ Q (.dat (.int (prodR r r)))
def P_with_cubic_in : Prm := fun ds Q => ∃ r : List Int, ds = [rowD r] ∧ RowOk r ∧ Q (.dat (.int (cubR r)))
def P_counting_in : Prm := fun ds Q => ∃ r : List Int, ds = [rowD r] ∧ RowOk r ∧ Q (.dat (.int (cntR r)))
def P_is_index_below : Prm := fun ds Q => ∃ n v : Int, ds = [.int n, .int v] ∧ 0 ≤ v ∧ v < n ∧ Q (.dat (.bl true))
/-- a told turn -/
def mvD (t : Nat × Nat × Nat) : D := .tup [.str "turn", .int t.1, .int t.2.1, .int t.2.2]
def MvOk (n : Nat) (t : Nat × Nat × Nat) : Prop := t.1 < t.2.1 ∧ t.2.1 < t.2.2 ∧ t.2.2 < n
def P_is_move_in : Prm := fun ds Q => ∃ (n : Nat) (t : Nat × Nat × Nat), ds = [.int n, mvD t] ∧ MvOk n t ∧ Q (.dat (.bl true))
def P_is_word_in : Prm := fun ds Q => ∃ (n : Nat) (ts : List (Nat × Nat × Nat)), ds = [.int n, .tup (ts.map mvD)] ∧ ts.length ≤ 2000 ∧ (∀ t ∈ ts, MvOk n t) ∧ Q (.dat (.bl true))
def P_require_word : Prm := fun ds Q => ∃ (n : Nat) (ts : List (Nat × Nat × Nat)), ds = [.int n, .tup (ts.map mvD)] ∧ ts.length ≤ 2000 ∧ (∀ t ∈ ts, MvOk n t) ∧ Q (.dat .non)
def P_is_passable : Prm := fun ds Q => ∃ r : List Int, ds = [rowD r] ∧ r.length ≤ 17 ∧ (∀ i ∈ r, i.natAbs < 10 ^ 100) ∧ Q (.dat (.bl true))
def P_require_passable : Prm := fun ds Q => ∃ r : List Int, ds = [.tup [rowD r]] ∧ r.length ≤ 17 ∧ (∀ i ∈ r, i.natAbs < 10 ^ 100) ∧ Q (.dat .non)
def P_turn_in : Prm := fun ds Q => ∃ (r : List Int) (i j k : Nat), ds = [rowD r, .int i, .int j, .int k] ∧ i + 1 < r.length ∧ j + 1 < r.length ∧ k + 1 < r.length ∧ Q (.dat (rowD (turnR r i j k)))
def P_moved_once : Prm := fun ds Q => ∃ (r : List Int) (t : Nat × Nat × Nat), ds = [rowD r, mvD t] ∧ MvOk (r.length - 1) t ∧ Q (.dat (rowD (turnT r t)))
def P_moved_in : Prm := fun ds Q => ∃ (r : List Int) (ts : List (Nat × Nat × Nat)), ds = [rowD r, .tup (ts.map mvD)] ∧ (∀ t ∈ ts, MvOk (r.length - 1) t) ∧ Q (.dat (rowD (ts.foldl turnT r)))
def P_moved : Prm := fun ds Q => ∃ (r : List Int) (ts : List (Nat × Nat × Nat)), ds = [rowD r, .tup (ts.map mvD)] ∧ RowOk r ∧ RowOk (ts.foldl turnT r) ∧ ts.length ≤ 2000 ∧ (∀ t ∈ ts, MvOk (r.length - 1) t) ∧ Q (.dat (rowD (ts.foldl turnT r)))
def P_require_many : Prm := fun ds Q => ∃ r : List Int, ds = [rowD r] ∧ RowOk r ∧ 11 ≤ r.length ∧ Q (.dat .non)
def tr3 (t : Nat × Nat × Nat) : D := .tup [.int t.1, .int t.2.1, .int t.2.2]
def optD : Option (List Int) → D
  | none => .non
  | some e => rowD e
def Len (r : List Int) : Prop := 4 ≤ r.length ∧ r.length ≤ 17
def P_greatest_three : Prm := fun ds Q => ∃ r : List Int, ds = [rowD r] ∧ Len r ∧ Q (.dat (tr3 (g3 r)))
def P_is_triple_above : Prm := fun ds Q => ∃ (r : List Int) (t : Nat × Nat × Nat), ds = [rowD r, tr3 t] ∧ MvOk (r.length - 1) t ∧ Q (.dat (.bl (abvR r t)))
def P_clipped : Prm := fun ds Q => ∃ r : List Int, ds = [rowD r] ∧ Len r ∧ Q (.dat (rowD (clipR r)))
def P_standard_end : Prm := fun ds Q => ∃ r : List Int, ds = [rowD r] ∧ Len r ∧ r.getD 0 0 < 2000 ∧ Q (.dat (optD (stdF (r.getD 0 0 + 1).toNat r)))
def P_lower_of : Prm := fun ds Q => ∃ o : Option (List Int), ds = [optD o] ∧ (∀ e, o = some e → RowOk e) ∧ Q (.dat (.int (lowF o)))
def P_is_barred_in : Prm := fun ds Q => ∃ r : List Int, ds = [rowD r] ∧ RowOk r ∧ Q (.dat (.bl (barR r)))
def P_upper_of : Prm := fun ds Q => ∃ (p : Int) (ts : List (List Int)) (r : List Int) (o : Option (List Int)), ds = [.int p, ptsD ts, rowD r, optD o] ∧ RowOk r ∧ barR r = true ∧ Q (.dat (.int 0))
def P_walk_to_point : Prm := fun ds Q => ∃ r : List Int, ds = [rowD r] ∧ Len r ∧ r.getD 0 0 ≤ 2000 ∧ Q (.dat (.tup [.tup ((walkF (r.getD 0 0).toNat r).1.map mvD), rowD (walkF (r.getD 0 0).toNat r).2]))
def P_is_row_of_point : Prm := fun ds Q => ∃ r : List Int, ds = [rowD r] ∧ Len r ∧ Q (.dat (.bl (isPtR r)))
def BndOk (p : Int) (ts : List (List Int)) (r : List Int) : Prop := PrimeOk p ∧ PtsOk p ts ∧ RowOk r ∧ 11 ≤ r.length ∧ ts.length = r.length - 1
def P_require_bounded : Prm := fun ds Q => ∃ (p : Int) (ts : List (List Int)) (r : List Int), ds = [.int p, ptsD ts, rowD r] ∧ BndOk p ts r ∧ Q (.dat .non)
def P_is_square_barred : Prm := fun ds Q => ∃ r : List Int, ds = [rowD r] ∧ RowOk r ∧ 11 ≤ r.length ∧ Q (.dat (.bl (barR r)))
def P_row_above : Prm := fun ds Q => ∃ (p : Int) (ts : List (List Int)) (r : List Int), ds = [.int p, ptsD ts, rowD r] ∧ BndOk p ts r ∧ r.getD 0 0 < 2000 ∧ barR r = true ∧ Q (.dat (.int 0))
def P_bounds : Prm := fun ds Q => ∃ (p : Int) (ts : List (List Int)) (r : List Int), ds = [.int p, ptsD ts, rowD r] ∧ BndOk p ts r ∧ r.getD 0 0 < 2000 ∧ barR r = true ∧ (∀ e, stdF (r.getD 0 0 + 1).toNat r = some e → RowOk e) ∧ lowF (stdF (r.getD 0 0 + 1).toNat r) = 0 ∧ Q (.dat (.tup [.str "exact", .int 0]))
def endR (r : List Int) : List Int := (walkF (r.getD 0 0).toNat r).2
def wordR (r : List Int) : List (Nat × Nat × Nat) := (walkF (r.getD 0 0).toNat r).1
def P_is_led_to_point : Prm := fun ds Q => ∃ r : List Int, ds = [rowD r] ∧ RowOk r ∧ 11 ≤ r.length ∧ r.getD 0 0 ≤ 2000 ∧ Q (.dat (.bl (isPtR (endR r))))
def P_word_to_point : Prm := fun ds Q => ∃ r : List Int, ds = [rowD r] ∧ RowOk r ∧ 11 ≤ r.length ∧ r.getD 0 0 ≤ 2000 ∧ Q (.dat (if isPtR (endR r) = true then .tup ((wordR r).map mvD) else .non))
def dice (a b c : Int) : List D := [.int a, .int b, .int c]
structure Dok (N a b c : Int) : Prop where
  a0 : 0 ≤ a
  a1 : a < 10 ^ 600
  b0 : 0 ≤ b
  b1 : b < 2 ^ 31
  c0 : 0 ≤ c
  c1 : c ≤ N
def DB (N : Int) (l : List D) : Prop := ∃ a b c, l = dice a b c ∧ Dok N a b c
def P__law_dice : Prm := fun ds Q => ∃ (ns : List Int) (k : Nat), ds = [.scr (ns.map .int), .int k] ∧ k ≤ 4 ∧ ∀ l, DB 0 l → Q (.new l)
def P__law_roll : PrmM := fun l ds Q => ∃ a b c s N : Int, l = dice a b c ∧ ds = [.int s] ∧ Dok N a b c ∧ N ≤ 2 ^ 140 ∧ 1 ≤ s ∧ s < 2 ^ 62 ∧ Q (.dat (.int (rollF a b c s).1)) (dice (rollF a b c s).2.1 b (rollF a b c s).2.2)
def P__law_one_of : PrmM := fun l ds Q => ∃ (N : Int) (xs : List D), ds = [.lst xs] ∧ DB N l ∧ N ≤ 2 ^ 140 ∧ xs ≠ [] ∧ xs.length < 1000 ∧ ∀ d ∈ xs, ∀ l', DB (N + 1) l' → Q (.dat d) l'
def P__law_mixed : PrmM := fun l ds Q => ∃ (N : Int) (xs : List Int), ds = [.lst (xs.map .int)] ∧ DB N l ∧ N + 100 ≤ 2 ^ 140 ∧ xs.length ≤ 100 ∧ ∀ ys : List Int, ys.Perm xs → ∀ l', DB (N + 100) l' → Q (.new (ys.map .int)) l'
def P__law_times : Prm := fun ds Q => ∃ r s : List Int, ds = [rowD r, rowD s] ∧ RowOk r ∧ RowOk s ∧ Q (.dat (.int (prodR r s)))
def cubicR (n : Nat) : List Int := 3 :: List.replicate n 1
def P__law_cubic : Prm := fun ds Q => ∃ n : Nat, ds = [.int n] ∧ n ≤ 16 ∧ Q (.dat (rowD (cubicR n)))
def ptR (n : Nat) (k : Int) : List Int := 0 :: (List.range n).map fun i : Nat => if (i : Int) = k then -1 else 0
def P__law_point_row : Prm := fun ds Q => ∃ (n : Nat) (k : Int), ds = [.int n, .int k] ∧ n ≤ 16 ∧ Q (.dat (rowD (ptR n k)))
def P__law_small_row : PrmM := fun l ds Q => ∃ (N : Int) (n : Nat), ds = [.int n, .int 2] ∧ DB N l ∧ N + 100 ≤ 2 ^ 140 ∧ n ≤ 16 ∧ ∀ r : List Int, r.length = n + 1 → (∀ i ∈ r, i.natAbs ≤ 100) → ∀ l', DB (N + 100) l' → Q (.dat (rowD r)) l'
inductive Mv where
  | swap (i j : Nat) | turn (i j k : Nat)
def Mv.d : Mv → D
  | .swap i j => .tup [.str "swap", .int i, .int j]
  | .turn i j k => .tup [.str "turn", .int i, .int j, .int k]
def Mv.Ok (n : Nat) : Mv → Prop
  | .swap i j => i < j ∧ j < n
  | .turn i j k => i < j ∧ j < k ∧ k < n
def Mv.r (r : List Int) : Mv → List Int
  | .swap i j => (r.set (1 + i) (r.getD (1 + j) 0)).set (1 + j) (r.getD (1 + i) 0)
  | .turn i j k => turnR r i j k
def P__law_word : PrmM := fun l ds Q => ∃ (N : Int) (n k : Nat), ds = [.int n, .int k] ∧ DB N l ∧ N + 2000 ≤ 2 ^ 140 ∧ 3 ≤ n ∧ n ≤ 16 ∧ k ≤ 10 ∧ ∀ ms : List Mv, ms.length ≤ k → (∀ m ∈ ms, m.Ok n) → ∀ l', DB (N + 2000) l' → Q (.dat (.tup (ms.map Mv.d))) l'
def P__law_move : Prm := fun ds Q => ∃ (r : List Int) (m : Mv), ds = [rowD r, m.d] ∧ Len r ∧ m.Ok (r.length - 1) ∧ Q (.dat (rowD (m.r r)))
def P__law_moved : Prm := fun ds Q => ∃ (r : List Int) (ms : List Mv), ds = [rowD r, .tup (ms.map Mv.d)] ∧ Len r ∧ (∀ m ∈ ms, m.Ok (r.length - 1)) ∧ Q (.dat (rowD (ms.foldl Mv.r r)))
def P__law_prime : PrmM := fun l ds Q => ∃ N : Int, ds = [] ∧ DB N l ∧ N ≤ 2 ^ 140 ∧ ∀ p, PrimeOk p → ∀ l', DB (N + 1) l' → Q (.dat (.int p)) l'
def bkI (p t : Int) : Int := if t = 1 then 1 else (p + 1) / 2
def P__law_back : Prm := fun ds Q => ∃ p t : Int, ds = [.int p, .int t] ∧ PrimeOk p ∧ (t = 1 ∨ t = 2) ∧ Q (.dat (.int (bkI p t)))
def nrmP (p x y t : Int) : List Int := [x * bkI p t % p, y * bkI p t % p, 1]
def P__law_normal : Prm := fun ds Q => ∃ p x y t : Int, ds = [.int p, tupI [x, y, t]] ∧ PrimeOk p ∧ (0 ≤ x ∧ x < p) ∧ (0 ≤ y ∧ y < p) ∧ (t = 1 ∨ t = 2) ∧ Q (.dat (rowD (nrmP p x y t)))
def P__law_points : PrmM := fun l ds Q => ∃ (N p : Int) (n : Nat), ds = [.int p, .int n] ∧ DB N l ∧ N ≤ 10000 ∧ PrimeOk p ∧ 3 ≤ n ∧ n ≤ 16 ∧ ∀ ts, PtsOk p ts → ts.length = n → ∀ l', DB (2 ^ 140) l' → Q (.new (ts.map tupI)) l'
def P__law_is_point_row : Prm := fun ds Q => ∃ r : List Int, ds = [rowD r] ∧ Len r ∧ Q (.dat (.bl (isPtR r)))
def P__law_leads : Prm := fun ds Q => ∃ r : List Int, ds = [rowD r] ∧ RowOk r ∧ Q (.dat (.bl (isPtR (endR r))))
def SmallR (r : List Int) : Prop := 11 ≤ r.length ∧ r.length ≤ 17 ∧ r.getD 0 0 ≤ 2000 ∧ ∀ i ∈ r, i.natAbs < 10 ^ 50
def P__law_told_right : Prm := fun ds Q => ∃ r : List Int, ds = [rowD r] ∧ SmallR r ∧ Q (.dat (.bl true))
def falseR (n : Nat) : List (List Int) := [[5, 3, 3] ++ List.replicate 8 1 ++ List.replicate (n - 10) 0, [3] ++ List.replicate 9 1 ++ [-1] ++ List.replicate (n - 10) 0, [-3] ++ List.replicate 10 (-1) ++ List.replicate (n - 10) 0]
def P__law_false_ones : Prm := fun ds Q => ∃ n : Nat, ds = [.int n] ∧ 10 ≤ n ∧ n ≤ 16 ∧ Q (.new ((falseR n).map rowD))
def P__law_cell_right : PrmM := fun l ds Q => ds = [] ∧ DB 0 l ∧ ∀ l', DB (2 ^ 140) l' → Q (.dat (.bl true)) l'
def P__law_squares_right : PrmM := fun l ds Q => ds = [] ∧ DB 0 l ∧ ∀ l', DB (2 ^ 140) l' → Q (.dat (.bl true)) l'
def P_law : Prm := fun ds Q => ∃ ns : List Int, ds = [.scr (ns.map .int)] ∧ Q (.dat (.bl true))
abbrev s_is_whole : Stmt := topS 11
abbrev N_is_whole : List Str := ["value"]
theorem sc_is_whole : FnScope N_is_whole ["value"] (defScope s_is_whole) := ⟨rfl, rfl, rfl, by decide +kernel, rfl, by decide +kernel, by decide +kernel⟩
def t_is_whole : LTS :=
  (tRetL (L3.tAndV (tCD rdIsi (aCons (tN 0) (aCons (tK (.ty "int")) aNil))) (L3.tNotV (tCD rdIsi (aCons (tN 0) (aCons (tK (.ty "bool")) aNil))))))
abbrev s_is_integer : Stmt := topS 12
abbrev N_is_integer : List Str := ["value"]
theorem sc_is_integer : FnScope N_is_integer ["value"] (defScope s_is_integer) := ⟨rfl, rfl, rfl, by decide +kernel, rfl, by decide +kernel, by decide +kernel⟩
def t_is_integer : LTS :=
  (tRetL (L3.tAndV (tCallL P_is_whole [] (aCons (tN 0) aNil)) (t2 rdLt (tCD rdAbs (aCons (tN 0) aNil)) (t2 rdMulA (tK (.int K_HUNDRED_DIGITS)) (tK (.int K_HUNDRED_DIGITS))))))
abbrev s_is_within : Stmt := topS 13
abbrev N_is_within : List Str := ["value", "least", "most"]
theorem sc_is_within : FnScope N_is_within ["value", "least", "most"] (defScope s_is_within) := ⟨rfl, rfl, rfl, by decide +kernel, rfl, by decide +kernel, by decide +kernel⟩
def t_is_within : LTS :=
  (tRetL (L3.tAndV (tCallL P_is_whole [] (aCons (tN 0) aNil)) (tChn rdLe rdLe (tN 1) (tN 0) (tN 2))))
abbrev s_is_prime_in : Stmt := topS 14
abbrev N_is_prime_in : List Str := ["value", "divisor"]
theorem sc_is_prime_in : FnScope N_is_prime_in ["value"] (defScope s_is_prime_in) := ⟨rfl, rfl, rfl, by decide +kernel, rfl, by decide +kernel, by decide +kernel⟩
def t_is_prime_in : LTS :=
  (tSeqL (tIfSL (tOrL (tNotL (tTru (tCallL P_is_within [] (aCons (tN 0) (aCons (tK (.int 5)) (aCons (tK (.int 65521)) aNil)))))) (tTst (t2 rdEq (t2 rdMod (tN 0) (tK (.int 2))) (tK (.int 0))))) (tRetL (tK (.bl false))) tNxL)
  (tRetL (tCD (rdBs fun bs => bs.all id) (aCons (tComp (tRng3 (aCons (tK (.int 3)) (aCons (tK (.int 256)) (aCons (tK (.int 2)) aNil)))) (gNm 1) (tTst (t2 rdLe (t2 rdMulA (tN 1) (tN 1)) (tN 0))) (t2 rdNe (t2 rdMod (tN 0) (tN 1)) (tK (.int 0))) [1]) aNil))))
abbrev s_require_prime : Stmt := topS 15
abbrev N_require_prime : List Str := ["prime"]
theorem sc_require_prime : FnScope N_require_prime ["prime"] (defScope s_require_prime) := ⟨rfl, rfl, rfl, by decide +kernel, rfl, by decide +kernel, by decide +kernel⟩
def t_require_prime : LTS :=
  (tIfSL (tNotL (tTru (tCallL P_is_prime_in [] (aCons (tN 0) aNil)))) tNevL tNxL)
abbrev s_is_point_in : Stmt := topS 25
abbrev N_is_point_in : List Str := ["prime", "value", "one"]
theorem sc_is_point_in : FnScope N_is_point_in ["prime", "value"] (defScope s_is_point_in) := ⟨rfl, rfl, rfl, by decide +kernel, rfl, by decide +kernel, by decide +kernel⟩
def t_is_point_in : LTS :=
  (tSeqL (tIfSL (tOrL (tNotL (tTru (tCD rdIsi (aCons (tN 1) (aCons (tK (.ty "tuple")) aNil))))) (tOrL (tTst (t2 rdNe (tCD rdLen (aCons (tN 1) aNil)) (tK (.int 3)))) (tNotL (tTru (tCD (rdBs fun bs => bs.all id) (aCons (tComp (tItv (tN 1)) (gNm 2) tYesL (tCallL P_is_within [] (aCons (tN 2) (aCons (tK (.int 0)) (aCons (t2 rdSub (tN 0) (tK (.int 1))) aNil)))) [2]) aNil)))))) (tRetL (tK (.bl false))) tNxL)
  (tRetL (t2 rdEq (tNextL (tRevL' (tN 1)) 0) (tK (.int 1)))))
abbrev s_are_points_in : Stmt := topS 26
abbrev N_are_points_in : List Str := ["prime", "value", "one"]
theorem sc_are_points_in : FnScope N_are_points_in ["prime", "value"] (defScope s_are_points_in) := ⟨rfl, rfl, rfl, by decide +kernel, rfl, by decide +kernel, by decide +kernel⟩
def t_are_points_in : LTS :=
  (tSeqL (tIfSL (tOrL (tNotL (tTru (tCD rdIsi (aCons (tN 1) (aCons (tK (.ty "tuple")) aNil))))) (tNotL (tTst (tChn rdLe rdLe (tK (.int 3)) (tCD rdLen (aCons (tN 1) aNil)) (tK (.int 16)))))) (tRetL (tK (.bl false))) tNxL)
  (tSeqL (tIfSL (tNotL (tTru (tCD (rdBs fun bs => bs.all id) (aCons (tComp (tItv (tN 1)) (gNm 2) tYesL (tCallL P_is_point_in [] (aCons (tN 0) (aCons (tN 2) aNil))) [2]) aNil)))) (tRetL (tK (.bl false))) tNxL)
  (tRetL (t2 rdEq (tLenSetT (tN 1)) (tCD rdLen (aCons (tN 1) aNil))))))
abbrev s_require_points : Stmt := topS 27
abbrev N_require_points : List Str := ["prime", "points"]
theorem sc_require_points : FnScope N_require_points ["prime", "points"] (defScope s_require_points) := ⟨rfl, rfl, rfl, by decide +kernel, rfl, by decide +kernel, by decide +kernel⟩
def t_require_points : LTS :=
  (tSeqL (tDropL (tCallL P_require_prime [] (aCons (tN 0) aNil)))
  (tIfSL (tNotL (tTru (tCallL P_are_points_in [] (aCons (tN 0) (aCons (tN 1) aNil))))) tNevL tNxL))
abbrev s_points_of : Stmt := topS 31
abbrev N_points_of : List Str := ["row"]
theorem sc_points_of : FnScope N_points_of ["row"] (defScope s_points_of) := ⟨rfl, rfl, rfl, by decide +kernel, rfl, by decide +kernel, by decide +kernel⟩
def t_points_of : LTS :=
  (tRetL (t2 rdSub (tCD rdLen (aCons (tN 0) aNil)) (tK (.int 1))))
abbrev s_is_row_in : Stmt := topS 32
abbrev N_is_row_in : List Str := ["value", "entry"]
theorem sc_is_row_in : FnScope N_is_row_in ["value"] (defScope s_is_row_in) := ⟨rfl, rfl, rfl, by decide +kernel, rfl, by decide +kernel, by decide +kernel⟩
def t_is_row_in : LTS :=
  (tSeqL (tIfSL (tOrL (tNotL (tTru (tCD rdIsi (aCons (tN 0) (aCons (tK (.ty "tuple")) aNil))))) (tNotL (tTst (tChn rdLe rdLe (tK (.int 3)) (t2 rdSub (tCD rdLen (aCons (tN 0) aNil)) (tK (.int 1))) (tK (.int 16)))))) (tRetL (tK (.bl false))) tNxL)
  (tRetL (tCD (rdBs fun bs => bs.all id) (aCons (tComp (tItv (tN 0)) (gNm 1) tYesL (tCallL P_is_integer [] (aCons (tN 1) aNil)) [1]) aNil))))
abbrev s_require_row : Stmt := topS 33
abbrev N_require_row : List Str := ["value", "least", "most"]
theorem sc_require_row : FnScope N_require_row ["value", "least", "most"] (defScope s_require_row) := ⟨rfl, rfl, rfl, by decide +kernel, rfl, by decide +kernel, by decide +kernel⟩
def t_require_row : LTS :=
  (tSeqL (tIfSL (tOrL (tNotL (tTru (tCallL P_is_row_in [] (aCons (tN 0) aNil)))) (tNotL (tTst (tChn rdLe rdLe (tN 1) (tCallL P_points_of [] (aCons (tN 0) aNil)) (tN 2))))) tNevL tNxL)
  (tRetL (tCallL P_points_of [] (aCons (tN 0) aNil))))
abbrev s_product_in : Stmt := topS 34
abbrev N_product_in : List Str := ["one", "other", "left", "right"]
theorem sc_product_in : FnScope N_product_in ["one", "other"] (defScope s_product_in) := ⟨rfl, rfl, rfl, by decide +kernel, rfl, by decide +kernel, by decide +kernel⟩
def t_product_in : LTS :=
  (tRetL (t2 rdSub (t2 rdMulA (t2 rdIx (tN 0) (tK (.int 0))) (t2 rdIx (tN 1) (tK (.int 0)))) (tCD (rdNs gSum) (aCons (tComp (tZip (aCons (tSlc (tN 0) (tPrt (tK (.int 1))) tNoP) (aCons (tSlc (tN 1) (tPrt (tK (.int 1))) tNoP) aNil))) (gTupL 2 (gConsL (gNm 2) (gConsL (gNm 3) gNilL))) tYesL (t2 rdMulA (tN 2) (tN 3)) [2, 3]) aNil))))
abbrev s_square_in : Stmt := topS 35
abbrev N_square_in : List Str := ["row"]
theorem sc_square_in : FnScope N_square_in ["row"] (defScope s_square_in) := ⟨rfl, rfl, rfl, by decide +kernel, rfl, by decide +kernel, by decide +kernel⟩
def t_square_in : LTS :=
  (tRetL (tCallL P_product_in [] (aCons (tN 0) (aCons (tN 0) aNil))))
abbrev s_with_cubic_in : Stmt := topS 36
abbrev N_with_cubic_in : List Str := ["row"]
theorem sc_with_cubic_in : FnScope N_with_cubic_in ["row"] (defScope s_with_cubic_in) := ⟨rfl, rfl, rfl, by decide +kernel, rfl, by decide +kernel, by decide +kernel⟩
def t_with_cubic_in : LTS :=
  (tRetL (t2 rdSub (t2 rdMulA (tK (.int 3)) (t2 rdIx (tN 0) (tK (.int 0)))) (tCD (rdNs gSum) (aCons (tSlc (tN 0) (tPrt (tK (.int 1))) tNoP) aNil))))
abbrev s_counting_in : Stmt := topS 37
abbrev N_counting_in : List Str := ["row"]
theorem sc_counting_in : FnScope N_counting_in ["row"] (defScope s_counting_in) := ⟨rfl, rfl, rfl, by decide +kernel, rfl, by decide +kernel, by decide +kernel⟩
def t_counting_in : LTS :=
  (tRetL (t2 rdAdd (t2 rdFdiv (t2 rdAdd (tCallL P_square_in [] (aCons (tN 0) aNil)) (tCallL P_with_cubic_in [] (aCons (tN 0) aNil))) (tK (.int 2))) (tK (.int 1))))
abbrev s_is_index_below : Stmt := topS 57
abbrev N_is_index_below : List Str := ["n", "value"]
theorem sc_is_index_below : FnScope N_is_index_below ["n", "value"] (defScope s_is_index_below) := ⟨rfl, rfl, rfl, by decide +kernel, rfl, by decide +kernel, by decide +kernel⟩
def t_is_index_below : LTS :=
  (tRetL (L3.tAndV (tCD rdIsi (aCons (tN 1) (aCons (tK (.ty "int")) aNil))) (L3.tAndV (L3.tNotV (tCD rdIsi (aCons (tN 1) (aCons (tK (.ty "bool")) aNil)))) (tChn rdLe rdLt (tK (.int 0)) (tN 1) (tN 0)))))
abbrev s_is_move_in : Stmt := topS 58
abbrev N_is_move_in : List Str := ["n", "value", "one", "other"]
theorem sc_is_move_in : FnScope N_is_move_in ["n", "value"] (defScope s_is_move_in) := ⟨rfl, rfl, rfl, by decide +kernel, rfl, by decide +kernel, by decide +kernel⟩
def t_is_move_in : LTS :=
  (tSeqL (tIfSL (tOrL (tNotL (tTru (tCD rdIsi (aCons (tN 1) (aCons (tK (.ty "tuple")) aNil))))) (tOrL (tTst (t2 rdEq (tN 1) (tTupL aNil))) (tNotL (tTru (tCD rdIsi (aCons (t2 rdIx (tN 1) (tK (.int 0))) (aCons (tK (.ty "str")) aNil))))))) (tRetL (tK (.bl false))) tNxL)
  (tSeqL (tIfSL (tOrL (tTst (t2 rdNe (tCD rdLen (aCons (tN 1) aNil)) (t2 rdAdd (tK (.int 1)) (tKGet [(("swap" : Str), (2 : Int)), (("turn" : Str), (3 : Int))] (t2 rdIx (tN 1) (tK (.int 0))))))) (tKIn false [(("swap" : Str), (2 : Int)), (("turn" : Str), (3 : Int))] (t2 rdIx (tN 1) (tK (.int 0))))) (tRetL (tK (.bl false))) tNxL)
  (tSeqL (tIfSL (tNotL (tTru (tCD (rdBs fun bs => bs.all id) (aCons (tComp (tItv (tSlc (tN 1) (tPrt (tK (.int 1))) tNoP)) (gNm 2) tYesL (tCallL P_is_index_below [] (aCons (tN 0) (aCons (tN 2) aNil))) [2]) aNil)))) (tRetL (tK (.bl false))) tNxL)
  (tRetL (tCD (rdBs fun bs => bs.all id) (aCons (tComp (tZip (aCons (tSlc (tN 1) (tPrt (tK (.int 1))) tNoP) (aCons (tSlc (tN 1) (tPrt (tK (.int 2))) tNoP) aNil))) (gTupL 2 (gConsL (gNm 2) (gConsL (gNm 3) gNilL))) tYesL (t2 rdLt (tN 2) (tN 3)) [2, 3]) aNil))))))
abbrev s_is_word_in : Stmt := topS 59
abbrev N_is_word_in : List Str := ["n", "value", "move"]
theorem sc_is_word_in : FnScope N_is_word_in ["n", "value"] (defScope s_is_word_in) := ⟨rfl, rfl, rfl, by decide +kernel, rfl, by decide +kernel, by decide +kernel⟩
def t_is_word_in : LTS :=
  (tRetL (L3.tAndV (tCD rdIsi (aCons (tN 1) (aCons (tK (.ty "tuple")) aNil))) (L3.tAndV (t2 rdLe (tCD rdLen (aCons (tN 1) aNil)) (tK (.int 2000))) (tCD (rdBs fun bs => bs.all id) (aCons (tComp (tItv (tN 1)) (gNm 2) tYesL (tCallL P_is_move_in [] (aCons (tN 0) (aCons (tN 2) aNil))) [2]) aNil)))))
abbrev s_require_word : Stmt := topS 60
abbrev N_require_word : List Str := ["n", "value"]
theorem sc_require_word : FnScope N_require_word ["n", "value"] (defScope s_require_word) := ⟨rfl, rfl, rfl, by decide +kernel, rfl, by decide +kernel, by decide +kernel⟩
def t_require_word : LTS :=
  (tIfSL (tNotL (tTru (tCallL P_is_word_in [] (aCons (tN 0) (aCons (tN 1) aNil))))) tNevL tNxL)
abbrev s_is_passable : Stmt := topS 61
abbrev N_is_passable : List Str := ["row", "one"]
theorem sc_is_passable : FnScope N_is_passable ["row"] (defScope s_is_passable) := ⟨rfl, rfl, rfl, by decide +kernel, rfl, by decide +kernel, by decide +kernel⟩
def t_is_passable : LTS :=
  (tRetL (tCD (rdBs fun bs => bs.all id) (aCons (tComp (tItv (tN 0)) (gNm 1) tYesL (tChn rdLt rdLt (tNeg (tK (.int K_TOO_LONG))) (tN 1) (tK (.int K_TOO_LONG))) [1]) aNil)))
abbrev s_require_passable : Stmt := topS 62
abbrev N_require_passable : List Str := ["rows", "row"]
theorem sc_require_passable : FnScope N_require_passable ["rows"] (defScope s_require_passable) := ⟨rfl, rfl, rfl, by decide +kernel, rfl, by decide +kernel, by decide +kernel⟩
def t_require_passable : LTS :=
  (tIfSL (tNotL (tTru (tCD (rdBs fun bs => bs.all id) (aCons (tComp (tItv (tN 0)) (gNm 1) tYesL (tCallL P_is_passable [] (aCons (tN 1) aNil)) [1]) aNil)))) tNevL tNxL)
abbrev s_turn_in : Stmt := topS 64
abbrev N_turn_in : List Str := ["row", "i", "j", "k", "found", "more", "place"]
theorem sc_turn_in : FnScope N_turn_in ["row", "i", "j", "k"] (defScope s_turn_in) := ⟨rfl, rfl, rfl, by decide +kernel, rfl, by decide +kernel, by decide +kernel⟩
def t_turn_in : LTS :=
  (tSeqL (tParL [4, 5] (aCons (tCD rdList (aCons (tN 0) aNil)) (aCons (t2 rdSub (t2 rdSub (t2 rdSub (t2 rdIx (tN 0) (tK (.int 0))) (t2 rdIx (tN 0) (t2 rdAdd (tN 1) (tK (.int 1))))) (t2 rdIx (tN 0) (t2 rdAdd (tN 2) (tK (.int 1))))) (t2 rdIx (tN 0) (t2 rdAdd (tN 3) (tK (.int 1))))) aNil)))
  (tSeqL (tForL (tItv (tTupL (aCons (tK (.int 0)) (aCons (t2 rdAdd (tN 1) (tK (.int 1))) (aCons (t2 rdAdd (tN 2) (tK (.int 1))) (aCons (t2 rdAdd (tN 3) (tK (.int 1))) aNil)))))) (gNm 6)
  (tAsgL (t2 rdAdd (t2 rdIx (tN 4) (tN 6)) (tN 5)) (gIx 4 (tN 6))))
  (tRetL (tCD rdTuple (aCons (tN 4) aNil)))))
abbrev s_moved_once : Stmt := topS 65
abbrev N_moved_once : List Str := ["row", "move"]
theorem sc_moved_once : FnScope N_moved_once ["row", "move"] (defScope s_moved_once) := ⟨rfl, rfl, rfl, by decide +kernel, rfl, by decide +kernel, by decide +kernel⟩
def t_moved_once : LTS :=
  (tSeqL (tIfSL (tTst (t2 rdEq (t2 rdIx (tN 1) (tK (.int 0))) (tK (.str "swap")))) tNevL tNxL)
  (tRetL (tCallL P_turn_in [] (aCons (tN 0) (aCons (t2 rdIx (tN 1) (tK (.int 1))) (aCons (t2 rdIx (tN 1) (tK (.int 2))) (aCons (t2 rdIx (tN 1) (tK (.int 3))) aNil)))))))
abbrev s_moved_in : Stmt := topS 66
abbrev N_moved_in : List Str := ["row", "word", "found", "move"]
theorem sc_moved_in : FnScope N_moved_in ["row", "word"] (defScope s_moved_in) := ⟨rfl, rfl, rfl, by decide +kernel, rfl, by decide +kernel, by decide +kernel⟩
def t_moved_in : LTS :=
  (tSeqL (tAsgL (tN 0) (gNm 2))
  (tSeqL (tForL (tItv (tN 1)) (gNm 3)
  (tAsgL (tCallL P_moved_once [] (aCons (tN 2) (aCons (tN 3) aNil))) (gNm 2)))
  (tRetL (tN 2))))
abbrev s_moved : Stmt := topS 67
abbrev N_moved : List Str := ["row", "word", "found"]
theorem sc_moved : FnScope N_moved ["row", "word"] (defScope s_moved) := ⟨rfl, rfl, rfl, by decide +kernel, rfl, by decide +kernel, by decide +kernel⟩
def t_moved : LTS :=
  (tSeqL (tDropL (tCallL P_require_row D_require_row (aCons (tN 0) aNil)))
  (tSeqL (tDropL (tCallL P_require_word [] (aCons (t2 rdSub (tCD rdLen (aCons (tN 0) aNil)) (tK (.int 1))) (aCons (tN 1) aNil))))
  (tSeqL (tAsgL (tCallL P_moved_in [] (aCons (tN 0) (aCons (tN 1) aNil))) (gNm 2))
  (tSeqL (tDropL (tCallL P_require_passable [] (aCons (tTupL (aCons (tN 2) aNil)) aNil)))
  (tRetL (tN 2))))))
abbrev s_require_many : Stmt := topS 73
abbrev N_require_many : List Str := ["row"]
theorem sc_require_many : FnScope N_require_many ["row"] (defScope s_require_many) := ⟨rfl, rfl, rfl, by decide +kernel, rfl, by decide +kernel, by decide +kernel⟩
def t_require_many : LTS :=
  (tDropL (tCallL P_require_row [] (aCons (tN 0) (aCons (tK (.int 10)) (aCons (tK (.int 16)) aNil)))))
abbrev s_greatest_three : Stmt := topS 74
abbrev N_greatest_three : List Str := ["row", "order"]
theorem sc_greatest_three : FnScope N_greatest_three ["row"] (defScope s_greatest_three) := ⟨rfl, rfl, rfl, by decide +kernel, rfl, by decide +kernel, by decide +kernel⟩
def t_greatest_three : LTS :=
  (tSeqL (tAsgL (tSortLam true (tQRg1 (tCallL P_points_of [] (aCons (tN 0) aNil))) (tTupL (aCons (tNeg (t2 rdIx (tN 0) (t2 rdAdd (tK (.int 1)) (tN 2)))) (aCons (tN 2) aNil)))) (gNm 1))
  (tRetL (tCD rdTuple (aCons (tCD (rdNs gSrt) (aCons (tSlc (tN 1) tNoP (tPrt (tK (.int 3)))) aNil)) aNil))))
abbrev s_is_triple_above : Stmt := topS 75
abbrev N_is_triple_above : List Str := ["row", "triple", "index"]
theorem sc_is_triple_above : FnScope N_is_triple_above ["row", "triple"] (defScope s_is_triple_above) := ⟨rfl, rfl, rfl, by decide +kernel, rfl, by decide +kernel, by decide +kernel⟩
def t_is_triple_above : LTS :=
  (tRetL (t2 rdGt (tCD (rdNs gSum) (aCons (tComp (tItv (tN 1)) (gNm 2) tYesL (t2 rdIx (tN 0) (t2 rdAdd (tK (.int 1)) (tN 2))) [2]) aNil)) (t2 rdIx (tN 0) (tK (.int 0)))))
abbrev s_clipped : Stmt := topS 76
abbrev N_clipped : List Str := ["row", "number"]
theorem sc_clipped : FnScope N_clipped ["row"] (defScope s_clipped) := ⟨rfl, rfl, rfl, by decide +kernel, rfl, by decide +kernel, by decide +kernel⟩
def t_clipped : LTS :=
  (tRetL (tTupL (aCons (t2 rdIx (tN 0) (tK (.int 0))) (aStar (tComp (tItv (tSlc (tN 0) (tPrt (tK (.int 1))) tNoP)) (gNm 1) tYesL (tCD (rdII max) (aCons (tK (.int 0)) (aCons (tN 1) aNil))) [1]) aNil))))
abbrev s_standard_end : Stmt := topS 77
abbrev N_standard_end : List Str := ["row", "turns", "triple"]
theorem sc_standard_end : FnScope N_standard_end ["row"] (defScope s_standard_end) := ⟨rfl, rfl, rfl, by decide +kernel, rfl, by decide +kernel, by decide +kernel⟩
def t_standard_end : LTS :=
  (tSeqL (tAsgL (tK (.int 0)) (gNm 1))
  (tWhileL (tTru (tK (.bl true)))
  (tSeqL (tAsgL (tCallL P_clipped [] (aCons (tN 0) aNil)) (gNm 0))
  (tSeqL (tIfSL (tTst (t2 rdLt (t2 rdIx (tN 0) (tK (.int 0))) (tK (.int 0)))) (tRetL (tK .non)) tNxL)
  (tSeqL (tAsgL (tCallL P_greatest_three [] (aCons (tN 0) aNil)) (gNm 2))
  (tSeqL (tIfSL (tNotL (tTru (tCallL P_is_triple_above [] (aCons (tN 0) (aCons (tN 2) aNil))))) (tRetL (tTupL (aCons (t2 rdIx (tN 0) (tK (.int 0))) (aStar (tCD (rdNs gSrtR) (aCons (tSlc (tN 0) (tPrt (tK (.int 1))) tNoP) aNil)) aNil)))) tNxL)
  (tSeqL (tIfSL (tTst (t2 rdEq (tN 1) (tK (.int 2000)))) tNevL tNxL)
  (tSeqL (tAugL 1 (fun i j => i + j) (tK (.int 1)))
  (tAsgL (tCallL P_turn_in [] (aCons (tN 0) (aCons (t2 rdIx (tN 2) (tK (.int 0))) (aCons (t2 rdIx (tN 2) (tK (.int 1))) (aCons (t2 rdIx (tN 2) (tK (.int 2))) aNil))))) (gNm 0))))))))))
abbrev s_lower_of : Stmt := topS 78
abbrev N_lower_of : List Str := ["end"]
theorem sc_lower_of : FnScope N_lower_of ["end"] (defScope s_lower_of) := ⟨rfl, rfl, rfl, by decide +kernel, rfl, by decide +kernel, by decide +kernel⟩
def t_lower_of : LTS :=
  (tRetL (tIfL (tTst (t2 (rdIs true) (tN 0) (tK .non))) (tCD (rdII max) (aCons (tK (.int 0)) (aCons (tCallL P_counting_in [] (aCons (tN 0) aNil)) aNil))) (tK (.int 0))))
abbrev s_is_barred_in : Stmt := topS 79
abbrev N_is_barred_in : List Str := ["row"]
theorem sc_is_barred_in : FnScope N_is_barred_in ["row"] (defScope s_is_barred_in) := ⟨rfl, rfl, rfl, by decide +kernel, rfl, by decide +kernel, by decide +kernel⟩
def t_is_barred_in : LTS :=
  (tSeqL (tIfSL (tOrL (tTst (t2 rdNe (tCallL P_points_of [] (aCons (tN 0) aNil)) (t2 rdMulA (tK (.int 4)) (tK (.int 4))))) (tTst (t2 rdGt (t2 rdMulA (tK (.int 4)) (t2 rdIx (tN 0) (tK (.int 0)))) (tCD (rdNs gSum) (aCons (tSlc (tN 0) (tPrt (tK (.int 1))) tNoP) aNil))))) (tRetL (tK (.bl false))) tNxL)
  (tRetL (t2 rdGt (tCD (rdNs gMax) (aCons (tN 0) aNil)) (tK (.int 0)))))
abbrev s_upper_of : Stmt := topS 80
abbrev N_upper_of : List Str := ["prime", "points", "row", "end"]
theorem sc_upper_of : FnScope N_upper_of ["prime", "points", "row", "end"] (defScope s_upper_of) := ⟨rfl, rfl, rfl, by decide +kernel, rfl, by decide +kernel, by decide +kernel⟩
def t_upper_of : LTS :=
  (tSeqL (tIfSL (tOrL (tTst (t2 (rdIs false) (tN 3) (tK .non))) (tTru (tCallL P_is_barred_in [] (aCons (tN 2) aNil)))) (tRetL (tK (.int 0))) tNxL)
  tNevL)
abbrev s_walk_to_point : Stmt := topS 81
abbrev N_walk_to_point : List Str := ["row", "word", "triple"]
theorem sc_walk_to_point : FnScope N_walk_to_point ["row"] (defScope s_walk_to_point) := ⟨rfl, rfl, rfl, by decide +kernel, rfl, by decide +kernel, by decide +kernel⟩
def t_walk_to_point : LTS :=
  (tSeqL (tAsgL (tLstL aNil) (gNm 1))
  (tSeqL (tWhileL (tAndL (tTst (t2 rdGe (tCD (rdNs gMin) (aCons (tSlc (tN 0) (tPrt (tK (.int 1))) tNoP) aNil)) (tK (.int 0)))) (tTst (t2 rdGt (t2 rdIx (tN 0) (tK (.int 0))) (tK (.int 0)))))
  (tSeqL (tAsgL (tCallL P_greatest_three [] (aCons (tN 0) aNil)) (gNm 2))
  (tSeqL (tIfSL (tNotL (tTru (tCallL P_is_triple_above [] (aCons (tN 0) (aCons (tN 2) aNil))))) tBkL tNxL)
  (tSeqL (tIfSL (tTst (t2 rdEq (tCD rdLen (aCons (tN 1) aNil)) (tK (.int 2000)))) tNevL tNxL)
  (tSeqL (tDropL (tApp 1 (aCons (tTupL (aCons (tK (.str "turn")) (aStar (tN 2) aNil))) aNil)))
  (tAsgL (tCallL P_turn_in [] (aCons (tN 0) (aCons (t2 rdIx (tN 2) (tK (.int 0))) (aCons (t2 rdIx (tN 2) (tK (.int 1))) (aCons (t2 rdIx (tN 2) (tK (.int 2))) aNil))))) (gNm 0)))))))
  (tRetL (tTupL (aCons (tCD rdTuple (aCons (tN 1) aNil)) (aCons (tN 0) aNil))))))
abbrev s_is_row_of_point : Stmt := topS 82
abbrev N_is_row_of_point : List Str := ["row"]
theorem sc_is_row_of_point : FnScope N_is_row_of_point ["row"] (defScope s_is_row_of_point) := ⟨rfl, rfl, rfl, by decide +kernel, rfl, by decide +kernel, by decide +kernel⟩
def t_is_row_of_point : LTS :=
  (tRetL (L3.tAndV (t2 rdEq (t2 rdIx (tN 0) (tK (.int 0))) (tK (.int 0))) (L3.tAndV (t2 rdEq (tCD (rdNs gMin) (aCons (tN 0) aNil)) (tNeg (tK (.int 1)))) (L3.tAndV (t2 rdEq (tCD (rdNs gSum) (aCons (tN 0) aNil)) (tNeg (tK (.int 1)))) (t2 rdEq (tCD (rdNs gMax) (aCons (tN 0) aNil)) (tK (.int 0)))))))
abbrev s_require_bounded : Stmt := topS 83
abbrev N_require_bounded : List Str := ["prime", "points", "row"]
theorem sc_require_bounded : FnScope N_require_bounded ["prime", "points", "row"] (defScope s_require_bounded) := ⟨rfl, rfl, rfl, by decide +kernel, rfl, by decide +kernel, by decide +kernel⟩
def t_require_bounded : LTS :=
  (tSeqL (tDropL (tCallL P_require_points [] (aCons (tN 0) (aCons (tN 1) aNil))))
  (tIfSL (tOrL (tNotL (tTru (tCallL P_is_row_in [] (aCons (tN 2) aNil)))) (tOrL (tNotL (tTst (tChn rdLe rdLe (tK (.int 10)) (tCallL P_points_of [] (aCons (tN 2) aNil)) (tK (.int 16))))) (tTst (t2 rdNe (tCallL P_points_of [] (aCons (tN 2) aNil)) (tCD rdLen (aCons (tN 1) aNil)))))) tNevL tNxL))
abbrev s_is_square_barred : Stmt := topS 84
abbrev N_is_square_barred : List Str := ["row"]
theorem sc_is_square_barred : FnScope N_is_square_barred ["row"] (defScope s_is_square_barred) := ⟨rfl, rfl, rfl, by decide +kernel, rfl, by decide +kernel, by decide +kernel⟩
def t_is_square_barred : LTS :=
  (tSeqL (tDropL (tCallL P_require_many [] (aCons (tN 0) aNil)))
  (tRetL (tCallL P_is_barred_in [] (aCons (tN 0) aNil))))
abbrev s_row_above : Stmt := topS 85
abbrev N_row_above : List Str := ["prime", "points", "row"]
theorem sc_row_above : FnScope N_row_above ["prime", "points", "row"] (defScope s_row_above) := ⟨rfl, rfl, rfl, by decide +kernel, rfl, by decide +kernel, by decide +kernel⟩
def t_row_above : LTS :=
  (tSeqL (tDropL (tCallL P_require_bounded [] (aCons (tN 0) (aCons (tN 1) (aCons (tN 2) aNil)))))
  (tRetL (tCallL P_upper_of [] (aCons (tN 0) (aCons (tN 1) (aCons (tN 2) (aCons (tCallL P_standard_end [] (aCons (tN 2) aNil)) aNil)))))))
abbrev s_bounds : Stmt := topS 86
abbrev N_bounds : List Str := ["prime", "points", "row", "end", "low", "high"]
theorem sc_bounds : FnScope N_bounds ["prime", "points", "row"] (defScope s_bounds) := ⟨rfl, rfl, rfl, by decide +kernel, rfl, by decide +kernel, by decide +kernel⟩
def t_bounds : LTS :=
  (tSeqL (tDropL (tCallL P_require_bounded [] (aCons (tN 0) (aCons (tN 1) (aCons (tN 2) aNil)))))
  (tSeqL (tAsgL (tCallL P_standard_end [] (aCons (tN 2) aNil)) (gNm 3))
  (tSeqL (tParL [4, 5] (aCons (tCallL P_lower_of [] (aCons (tN 3) aNil)) (aCons (tCallL P_upper_of [] (aCons (tN 0) (aCons (tN 1) (aCons (tN 2) (aCons (tN 3) aNil))))) aNil)))
  (tRetL (tIfL (tTst (t2 rdEq (tN 4) (tN 5))) (tTupL (aCons (tK (.str "exact")) (aCons (tN 4) aNil))) (tTupL (aCons (tK (.str "open")) (aCons (tN 4) (aCons (tN 5) aNil)))))))))
abbrev s_is_led_to_point : Stmt := topS 87
abbrev N_is_led_to_point : List Str := ["row"]
theorem sc_is_led_to_point : FnScope N_is_led_to_point ["row"] (defScope s_is_led_to_point) := ⟨rfl, rfl, rfl, by decide +kernel, rfl, by decide +kernel, by decide +kernel⟩
def t_is_led_to_point : LTS :=
  (tSeqL (tDropL (tCallL P_require_many [] (aCons (tN 0) aNil)))
  (tRetL (tCallL P_is_row_of_point [] (aCons (t2 rdIx (tCallL P_walk_to_point [] (aCons (tN 0) aNil)) (tK (.int 1))) aNil))))
abbrev s_word_to_point : Stmt := topS 88
abbrev N_word_to_point : List Str := ["row", "word", "end"]
theorem sc_word_to_point : FnScope N_word_to_point ["row"] (defScope s_word_to_point) := ⟨rfl, rfl, rfl, by decide +kernel, rfl, by decide +kernel, by decide +kernel⟩
def t_word_to_point : LTS :=
  (tSeqL (tDropL (tCallL P_require_many [] (aCons (tN 0) aNil)))
  (tSeqL (tAsgL (tCallL P_walk_to_point [] (aCons (tN 0) aNil)) (gTupL 2 (gConsL (gNm 1) (gConsL (gNm 2) gNilL))))
  (tRetL (tIfL (tTru (tCallL P_is_row_of_point [] (aCons (tN 2) aNil))) (tN 1) (tK .non)))))
abbrev s__law_dice : Stmt := topS 90
abbrev N__law_dice : List Str := ["script", "at", "cell", "great", "left", "mixed"]
theorem sc__law_dice : FnScope N__law_dice ["script", "at"] (defScope s__law_dice) := ⟨rfl, rfl, rfl, by decide +kernel, rfl, by decide +kernel, by decide +kernel⟩
def t__law_dice : LTS :=
  (tSeqL (tAsgL (t2 rdAdd (t2 rdMulA (tK (.int 97)) (tN 1)) (tK (.int 53))) (gNm 2))
  (tSeqL (tIfSL (tTst (t2 rdLt (tN 1) (tCD rdLen (aCons (tN 0) aNil)))) (tAsgL (t2 rdIx (tN 0) (tN 1)) (gNm 2)) tNxL)
  (tSeqL (tAsgL (t2 rdMod (tCD rdInt (aCons (tCD rdAbs (aCons (tN 2) aNil)) aNil)) (t2 rdPow (t2 rdPow (tK (.int 10)) (tK (.int 60))) (tK (.int 10)))) (gNm 3))
  (tSeqL (tAsgL (t2 rdFdiv (tN 3) (t2 rdPow (tK (.int 10)) (tK (.int 18)))) (gNm 4))
  (tSeqL (tAsgL (t2 rdAdd (t2 rdAdd (t2 rdAdd (t2 rdMulA (t2 rdMod (tN 3) (tK (.int 2147482811))) (tK (.int 60493))) (t2 rdMulA (tK (.int 3517)) (tN 1))) (t2 rdMulA (tK (.int 83)) (tCD rdInt (aCons (t2 rdLt (tN 2) (tK (.int 0))) aNil)))) (tK (.int 107))) (gNm 5))
  (tRetL (tLstL (aCons (tN 4) (aCons (t2 rdMod (tN 5) (tK (.int 2147482763))) (aCons (tK (.int 0)) aNil))))))))))
abbrev s__law_roll : Stmt := topS 91
abbrev N__law_roll : List Str := ["dice", "total", "size", "drawn", "one", "two"]
theorem sc__law_roll : FnScope N__law_roll ["dice", "total"] (defScope s__law_roll) := ⟨rfl, rfl, rfl, by decide +kernel, rfl, by decide +kernel, by decide +kernel⟩
def t__law_roll : LTS :=
  (tSeqL (tAsgL (tCD rdInt (aCons (tN 1) aNil)) (gNm 2))
  (tSeqL (tIfSL (tTst (t2 rdGt (t2 rdIx (tN 0) (tK (.int 0))) (tK (.int 0)))) (tSeqL (tAsgL (t2 rdMod (t2 rdIx (tN 0) (tK (.int 0))) (tN 2)) (gNm 3))
  (tSeqL (tAsgL (t2 rdFdiv (t2 rdIx (tN 0) (tK (.int 0))) (tN 2)) (gIx 0 (tK (.int 0))))
  (tRetL (tCD rdInt (aCons (tN 3) aNil))))) tNxL)
  (tSeqL (tAsgL (t2 rdAdd (t2 rdIx (tN 0) (tK (.int 2))) (tK (.int 1))) (gIx 0 (tK (.int 2))))
  (tSeqL (tAsgL (t2 rdMod (t2 rdAdd (t2 rdIx (tN 0) (tK (.int 1))) (t2 rdMulA (tK (.int 1000403)) (t2 rdIx (tN 0) (tK (.int 2))))) (tK (.int 2305843009213693951))) (gNm 4))
  (tSeqL (tAsgL (t2 rdAdd (t2 rdMulA (t2 rdMod (t2 rdMulA (tN 4) (tN 4)) (tK (.int 2305843009213693921))) (tN 4)) (t2 rdMulA (tK (.int 9473)) (t2 rdIx (tN 0) (tK (.int 2))))) (gNm 5))
  (tSeqL (tAsgL (t2 rdMod (tN 5) (tK (.int 2305843009213693907))) (gNm 5))
  (tRetL (tCD rdInt (aCons (t2 rdMod (t2 rdFdiv (tN 5) (tK (.int 4096))) (tN 2)) aNil)))))))))
abbrev s__law_one_of : Stmt := topS 92
abbrev N__law_one_of : List Str := ["dice", "items"]
theorem sc__law_one_of : FnScope N__law_one_of ["dice", "items"] (defScope s__law_one_of) := ⟨rfl, rfl, rfl, by decide +kernel, rfl, by decide +kernel, by decide +kernel⟩
def t__law_one_of : LTS :=
  (tRetL (t2 rdIx (tN 1) (tCallM P__law_roll (aCons (tN 0) (aCons (tCD rdLen (aCons (tN 1) aNil)) aNil)))))
abbrev s__law_mixed : Stmt := topS 93
abbrev N__law_mixed : List Str := ["dice", "items", "left", "found"]
theorem sc__law_mixed : FnScope N__law_mixed ["dice", "items"] (defScope s__law_mixed) := ⟨rfl, rfl, rfl, by decide +kernel, rfl, by decide +kernel, by decide +kernel⟩
def t__law_mixed : LTS :=
  (tSeqL (tParL [2, 3] (aCons (tCD rdList (aCons (tN 1) aNil)) (aCons (tLstL aNil) aNil)))
  (tSeqL (tWhileL (tTst (t2 rdNe (tN 2) (tLstL aNil)))
  (tDropL (tApp 3 (aCons (tPop 2 (aCons (tCallM P__law_roll (aCons (tN 0) (aCons (tCD rdLen (aCons (tN 2) aNil)) aNil))) aNil)) aNil))))
  (tRetL (tN 3))))
abbrev s__law_times : Stmt := topS 94
abbrev N__law_times : List Str := ["one", "other", "left", "right"]
theorem sc__law_times : FnScope N__law_times ["one", "other"] (defScope s__law_times) := ⟨rfl, rfl, rfl, by decide +kernel, rfl, by decide +kernel, by decide +kernel⟩
def t__law_times : LTS :=
  (tRetL (t2 rdSub (t2 rdMulA (t2 rdIx (tN 0) (tK (.int 0))) (t2 rdIx (tN 1) (tK (.int 0)))) (tCD (rdNs gSum) (aCons (tComp (tZip (aCons (tSlc (tN 0) (tPrt (tK (.int 1))) tNoP) (aCons (tSlc (tN 1) (tPrt (tK (.int 1))) tNoP) aNil))) (gTupL 2 (gConsL (gNm 2) (gConsL (gNm 3) gNilL))) tYesL (t2 rdMulA (tN 2) (tN 3)) [2, 3]) aNil))))
abbrev s__law_cubic : Stmt := topS 95
abbrev N__law_cubic : List Str := ["n"]
theorem sc__law_cubic : FnScope N__law_cubic ["n"] (defScope s__law_cubic) := ⟨rfl, rfl, rfl, by decide +kernel, rfl, by decide +kernel, by decide +kernel⟩
def t__law_cubic : LTS :=
  (tRetL (t2 rdAdd (tTupL (aCons (tK (.int 3)) aNil)) (t2 rdMulA (tTupL (aCons (tK (.int 1)) aNil)) (tN 0))))
abbrev s__law_point_row : Stmt := topS 96
abbrev N__law_point_row : List Str := ["n", "at", "place"]
theorem sc__law_point_row : FnScope N__law_point_row ["n", "at"] (defScope s__law_point_row) := ⟨rfl, rfl, rfl, by decide +kernel, rfl, by decide +kernel, by decide +kernel⟩
def t__law_point_row : LTS :=
  (tRetL (tCD rdTuple (aCons (t2 rdAdd (tLstL (aCons (tK (.int 0)) aNil)) (tComp (tRng1 (aCons (tN 0) aNil)) (gNm 2) tYesL (t2 rdSub (tK (.int 0)) (tCD rdInt (aCons (t2 rdEq (tN 2) (tN 1)) aNil))) [2])) aNil)))
abbrev s__law_small_row : Stmt := topS 97
abbrev N__law_small_row : List Str := ["dice", "n", "most", "least", "numbers", "at"]
theorem sc__law_small_row : FnScope N__law_small_row ["dice", "n", "most"] (defScope s__law_small_row) := ⟨rfl, rfl, rfl, by decide +kernel, rfl, by decide +kernel, by decide +kernel⟩
def t__law_small_row : LTS :=
  (tSeqL (tAsgL (tCallM P__law_one_of (aCons (tN 0) (aCons (tLstL (aCons (tK (.int 0)) (aCons (tK (.int 0)) (aCons (tNeg (tK (.int 1))) (aCons (tNeg (tK (.int 2))) aNil))))) aNil))) (gNm 3))
  (tSeqL (tAsgL (tComp (tRng1 (aCons (tN 1) aNil)) (gNm 5) tYesL (t2 rdAdd (tN 3) (tCallM P__law_roll (aCons (tN 0) (aCons (t2 rdAdd (t2 rdSub (tN 2) (tN 3)) (tK (.int 1))) aNil)))) [5]) (gNm 4))
  (tRetL (t2 rdAdd (tTupL (aCons (t2 rdAdd (tCallM P__law_one_of (aCons (tN 0) (aCons (tLstL (aCons (tNeg (tK (.int 1))) (aCons (tK (.int 0)) (aCons (tK (.int 1)) (aCons (tK (.int 2)) aNil))))) aNil))) (tCallM P__law_roll (aCons (tN 0) (aCons (t2 rdAdd (t2 rdMulA (tK (.int 2)) (tN 2)) (tK (.int 1))) aNil)))) aNil)) (tCD rdTuple (aCons (tN 4) aNil))))))
abbrev s__law_word : Stmt := topS 98
abbrev N__law_word : List Str := ["dice", "n", "most", "found", "turn", "places", "way"]
theorem sc__law_word : FnScope N__law_word ["dice", "n", "most"] (defScope s__law_word) := ⟨rfl, rfl, rfl, by decide +kernel, rfl, by decide +kernel, by decide +kernel⟩
def t__law_word : LTS :=
  (tSeqL (tAsgL (tLstL aNil) (gNm 3))
  (tSeqL (tForL (tRng1 (aCons (tCallM P__law_roll (aCons (tN 0) (aCons (t2 rdAdd (tN 2) (tK (.int 1))) aNil))) aNil)) (gNm 4)
  (tSeqL (tAsgL (tCD (rdNs gSrt) (aCons (tSlc (tCallM P__law_mixed (aCons (tN 0) (aCons (tLRg1 (tN 1)) aNil))) tNoP (tPrt (tK (.int 3)))) aNil)) (gNm 5))
  (tSeqL (tAsgL (tCallM P__law_roll (aCons (tN 0) (aCons (tK (.int 3)) aNil))) (gNm 6))
  (tDropL (tApp 3 (aCons (tIfL (tTst (t2 rdEq (tN 6) (tK (.int 0)))) (tTupL (aCons (tK (.str "swap")) (aCons (t2 rdIx (tN 5) (tK (.int 0))) (aCons (t2 rdIx (tN 5) (tK (.int 1))) aNil)))) (tTupL (aCons (tK (.str "turn")) (aCons (t2 rdIx (tN 5) (tK (.int 0))) (aCons (t2 rdIx (tN 5) (tK (.int 1))) (aCons (t2 rdIx (tN 5) (tK (.int 2))) aNil)))))) aNil))))))
  (tRetL (tCD rdTuple (aCons (tN 3) aNil)))))
abbrev s__law_move : Stmt := topS 99
abbrev N__law_move : List Str := ["row", "move", "found", "more", "at"]
theorem sc__law_move : FnScope N__law_move ["row", "move"] (defScope s__law_move) := ⟨rfl, rfl, rfl, by decide +kernel, rfl, by decide +kernel, by decide +kernel⟩
def t__law_move : LTS :=
  (tSeqL (tAsgL (tCD rdList (aCons (tN 0) aNil)) (gNm 2))
  (tSeqL (tIfSL (tTst (t2 rdEq (t2 rdIx (tN 1) (tK (.int 0))) (tK (.str "swap")))) (tSeqL (tAsgL (tTupL (aCons (t2 rdIx (tN 0) (t2 rdAdd (tK (.int 1)) (t2 rdIx (tN 1) (tK (.int 2))))) (aCons (t2 rdIx (tN 0) (t2 rdAdd (tK (.int 1)) (t2 rdIx (tN 1) (tK (.int 1))))) aNil))) (gTupL 2 (gConsL (gIx 2 (t2 rdAdd (tK (.int 1)) (t2 rdIx (tN 1) (tK (.int 1))))) (gConsL (gIx 2 (t2 rdAdd (tK (.int 1)) (t2 rdIx (tN 1) (tK (.int 2))))) gNilL))))
  (tRetL (tCD rdTuple (aCons (tN 2) aNil)))) tNxL)
  (tSeqL (tAsgL (t2 rdSub (t2 rdSub (t2 rdSub (t2 rdIx (tN 0) (tK (.int 0))) (t2 rdIx (tN 0) (t2 rdAdd (tK (.int 1)) (t2 rdIx (tN 1) (tK (.int 1)))))) (t2 rdIx (tN 0) (t2 rdAdd (tK (.int 1)) (t2 rdIx (tN 1) (tK (.int 2)))))) (t2 rdIx (tN 0) (t2 rdAdd (tK (.int 1)) (t2 rdIx (tN 1) (tK (.int 3)))))) (gNm 3))
  (tSeqL (tForL (tItv (tTupL (aCons (tK (.int 0)) (aCons (t2 rdAdd (tK (.int 1)) (t2 rdIx (tN 1) (tK (.int 1)))) (aCons (t2 rdAdd (tK (.int 1)) (t2 rdIx (tN 1) (tK (.int 2)))) (aCons (t2 rdAdd (tK (.int 1)) (t2 rdIx (tN 1) (tK (.int 3)))) aNil)))))) (gNm 4)
  (tAsgL (t2 rdAdd (t2 rdIx (tN 2) (tN 4)) (tN 3)) (gIx 2 (tN 4))))
  (tRetL (tCD rdTuple (aCons (tN 2) aNil)))))))
abbrev s__law_moved : Stmt := topS 100
abbrev N__law_moved : List Str := ["row", "word", "move"]
theorem sc__law_moved : FnScope N__law_moved ["row", "word"] (defScope s__law_moved) := ⟨rfl, rfl, rfl, by decide +kernel, rfl, by decide +kernel, by decide +kernel⟩
def t__law_moved : LTS :=
  (tSeqL (tForL (tItv (tN 1)) (gNm 2)
  (tAsgL (tCallL P__law_move [] (aCons (tN 0) (aCons (tN 2) aNil))) (gNm 0)))
  (tRetL (tN 0)))
abbrev s__law_prime : Stmt := topS 101
abbrev N__law_prime : List Str := ["dice"]
theorem sc__law_prime : FnScope N__law_prime ["dice"] (defScope s__law_prime) := ⟨rfl, rfl, rfl, by decide +kernel, rfl, by decide +kernel, by decide +kernel⟩
def t__law_prime : LTS :=
  (tRetL (tCallM P__law_one_of (aCons (tN 0) (aCons (tLstL (aCons (tK (.int 32003)) (aCons (tK (.int 65521)) (aCons (tK (.int 10007)) (aCons (tK (.int 30011)) aNil))))) aNil))))
abbrev s__law_back : Stmt := topS 102
abbrev N__law_back : List Str := ["prime", "rest", "one", "other", "left", "right", "times"]
theorem sc__law_back : FnScope N__law_back ["prime", "rest"] (defScope s__law_back) := ⟨rfl, rfl, rfl, by decide +kernel, rfl, by decide +kernel, by decide +kernel⟩
def t__law_back : LTS :=
  (tSeqL (tAsgL (tTupL (aCons (tN 0) (aCons (tN 1) (aCons (tK (.int 0)) (aCons (tK (.int 1)) aNil))))) (gTupL 4 (gConsL (gNm 2) (gConsL (gNm 3) (gConsL (gNm 4) (gConsL (gNm 5) gNilL))))))
  (tSeqL (tWhileL (tTst (t2 rdNe (tN 3) (tK (.int 0))))
  (tSeqL (tAsgL (t2 rdFdiv (tN 2) (tN 3)) (gNm 6))
  (tAsgL (tTupL (aCons (tN 3) (aCons (t2 rdSub (tN 2) (t2 rdMulA (tN 6) (tN 3))) (aCons (tN 5) (aCons (t2 rdSub (tN 4) (t2 rdMulA (tN 6) (tN 5))) aNil))))) (gTupL 4 (gConsL (gNm 2) (gConsL (gNm 3) (gConsL (gNm 4) (gConsL (gNm 5) gNilL))))))))
  (tRetL (t2 rdMod (tN 4) (tN 0)))))
abbrev s__law_normal : Stmt := topS 103
abbrev N__law_normal : List Str := ["prime", "triple", "rests", "last", "back", "one"]
theorem sc__law_normal : FnScope N__law_normal ["prime", "triple"] (defScope s__law_normal) := ⟨rfl, rfl, rfl, by decide +kernel, rfl, by decide +kernel, by decide +kernel⟩
def t__law_normal : LTS :=
  (tSeqL (tAsgL (tComp (tItv (tN 1)) (gNm 5) tYesL (t2 rdMod (tN 5) (tN 0)) [5]) (gNm 2))
  (tSeqL (tAsgL (t2 rdIx (tComp (tItv (tN 2)) (gNm 5) (tTst (t2 rdNe (tN 5) (tK (.int 0)))) (tN 5) [5]) (tNeg (tK (.int 1)))) (gNm 3))
  (tSeqL (tAsgL (tCallL P__law_back [] (aCons (tN 0) (aCons (tN 3) aNil))) (gNm 4))
  (tRetL (tCD rdTuple (aCons (tComp (tItv (tN 2)) (gNm 5) tYesL (t2 rdMod (t2 rdMulA (tN 5) (tN 4)) (tN 0)) [5]) aNil))))))
abbrev s__law_points : Stmt := topS 104
abbrev N__law_points : List Str := ["dice", "prime", "n", "found", "at"]
theorem sc__law_points : FnScope N__law_points ["dice", "prime", "n"] (defScope s__law_points) := ⟨rfl, rfl, rfl, by decide +kernel, rfl, by decide +kernel, by decide +kernel⟩
def t__law_points : LTS :=
  (tSeqL (tAsgL (tLstL aNil) (gNm 3))
  (tSeqL (tWhileL (tTst (t2 rdLt (tCD rdLen (aCons (tN 3) aNil)) (tN 2)))
  (tSeqL (tDropL (tApp 3 (aCons (tCallL P__law_normal [] (aCons (tN 1) (aCons (tTupL (aCons (tCallM P__law_roll (aCons (tN 0) (aCons (tN 1) aNil))) (aCons (tCallM P__law_roll (aCons (tN 0) (aCons (tN 1) aNil))) (aCons (t2 rdAdd (tK (.int 1)) (t2 rdMod (tCD rdLen (aCons (tN 3) aNil)) (tK (.int 2)))) aNil)))) aNil))) aNil)))
  (tAsgL (tComp (tRng1 (aCons (tCD rdLen (aCons (tN 3) aNil)) aNil)) (gNm 4) (tTst (t2 (rdIn true) (t2 rdIx (tN 3) (tN 4)) (tSlc (tN 3) tNoP (tPrt (tN 4))))) (t2 rdIx (tN 3) (tN 4)) [4]) (gNm 3))))
  (tRetL (tN 3))))
abbrev s__law_is_point_row : Stmt := topS 105
abbrev N__law_is_point_row : List Str := ["row"]
theorem sc__law_is_point_row : FnScope N__law_is_point_row ["row"] (defScope s__law_is_point_row) := ⟨rfl, rfl, rfl, by decide +kernel, rfl, by decide +kernel, by decide +kernel⟩
def t__law_is_point_row : LTS :=
  (tRetL (L3.tAndV (t2 rdEq (t2 rdIx (tN 0) (tK (.int 0))) (tK (.int 0))) (t2 rdEq (tCD (rdNs gSrt) (aCons (tN 0) aNil)) (t2 rdAdd (tLstL (aCons (tNeg (tK (.int 1))) aNil)) (t2 rdMulA (tLstL (aCons (tK (.int 0)) aNil)) (t2 rdSub (tCD rdLen (aCons (tN 0) aNil)) (tK (.int 1))))))))
abbrev s__law_leads : Stmt := topS 106
abbrev N__law_leads : List Str := ["row", "numbers", "more", "at"]
theorem sc__law_leads : FnScope N__law_leads ["row"] (defScope s__law_leads) := ⟨rfl, rfl, rfl, by decide +kernel, rfl, by decide +kernel, by decide +kernel⟩
def t__law_leads : LTS :=
  (tSeqL (tWhileL (tAndL (tTst (t2 rdGt (t2 rdIx (tN 0) (tK (.int 0))) (tK (.int 0)))) (tTst (t2 rdGe (tCD (rdNs gMin) (aCons (tSlc (tN 0) (tPrt (tK (.int 1))) tNoP) aNil)) (tK (.int 0)))))
  (tSeqL (tAsgL (tRevL' (tCD (rdNs gSrt) (aCons (tSlc (tN 0) (tPrt (tK (.int 1))) tNoP) aNil))) (gNm 1))
  (tSeqL (tAsgL (t2 rdSub (t2 rdIx (tN 0) (tK (.int 0))) (tCD (rdNs gSum) (aCons (tSlc (tN 1) tNoP (tPrt (tK (.int 3)))) aNil))) (gNm 2))
  (tSeqL (tIfSL (tTst (t2 rdGe (tN 2) (tK (.int 0)))) (tRetL (tK (.bl false))) tNxL)
  (tAsgL (t2 rdAdd (tTupL (aCons (t2 rdAdd (t2 rdIx (tN 0) (tK (.int 0))) (tN 2)) aNil)) (tCD rdTuple (aCons (tComp (tRng1 (aCons (tCD rdLen (aCons (tN 1) aNil)) aNil)) (gNm 3) tYesL (t2 rdAdd (t2 rdIx (tN 1) (tN 3)) (t2 rdMulA (tN 2) (tCD rdInt (aCons (t2 rdLt (tN 3) (tK (.int 3))) aNil)))) [3]) aNil))) (gNm 0))))))
  (tRetL (tCallL P__law_is_point_row [] (aCons (tN 0) aNil))))
abbrev s__law_told_right : Stmt := topS 107
abbrev N__law_told_right : List Str := ["row", "due", "word"]
theorem sc__law_told_right : FnScope N__law_told_right ["row"] (defScope s__law_told_right) := ⟨rfl, rfl, rfl, by decide +kernel, rfl, by decide +kernel, by decide +kernel⟩
def t__law_told_right : LTS :=
  (tSeqL (tParL [1, 2] (aCons (tCallL P__law_leads [] (aCons (tN 0) aNil)) (aCons (tCallL P_word_to_point [] (aCons (tN 0) aNil)) aNil)))
  (tSeqL (tIfSL (tOrL (tTst (t2 rdNe (tCallL P_is_led_to_point [] (aCons (tN 0) aNil)) (tN 1))) (tTst (t2 rdNe (t2 (rdIs true) (tN 2) (tK .non)) (tN 1)))) (tRetL (tK (.bl false))) tNxL)
  (tRetL (L3.tOrV (t2 (rdIs false) (tN 2) (tK .non)) (tCallL P__law_is_point_row [] (aCons (tCallL P_moved [] (aCons (tN 0) (aCons (tN 2) aNil))) aNil))))))
abbrev s__law_false_ones : Stmt := topS 108
abbrev N__law_false_ones : List Str := ["n", "found"]
theorem sc__law_false_ones : FnScope N__law_false_ones ["n"] (defScope s__law_false_ones) := ⟨rfl, rfl, rfl, by decide +kernel, rfl, by decide +kernel, by decide +kernel⟩
def t__law_false_ones : LTS :=
  (tSeqL (tAsgL (tLstL (aCons (t2 rdAdd (t2 rdAdd (tTupL (aCons (tK (.int 5)) (aCons (tK (.int 3)) (aCons (tK (.int 3)) aNil)))) (t2 rdMulA (tTupL (aCons (tK (.int 1)) aNil)) (tK (.int 8)))) (t2 rdMulA (tTupL (aCons (tK (.int 0)) aNil)) (t2 rdSub (tN 0) (tK (.int 10))))) (aCons (t2 rdAdd (t2 rdAdd (t2 rdAdd (tTupL (aCons (tK (.int 3)) aNil)) (t2 rdMulA (tTupL (aCons (tK (.int 1)) aNil)) (tK (.int 9)))) (tTupL (aCons (tNeg (tK (.int 1))) aNil))) (t2 rdMulA (tTupL (aCons (tK (.int 0)) aNil)) (t2 rdSub (tN 0) (tK (.int 10))))) aNil))) (gNm 1))
  (tRetL (t2 rdAdd (tN 1) (tLstL (aCons (t2 rdAdd (t2 rdAdd (tTupL (aCons (tNeg (tK (.int 3))) aNil)) (t2 rdMulA (tTupL (aCons (tNeg (tK (.int 1))) aNil)) (tK (.int 10)))) (t2 rdMulA (tTupL (aCons (tK (.int 0)) aNil)) (t2 rdSub (tN 0) (tK (.int 10))))) aNil)))))
abbrev s__law_squares_right : Stmt := topS 109
abbrev N__law_squares_right : List Str := ["dice", "numbers", "total", "prime", "points", "degree", "row", "due", "at"]
theorem sc__law_squares_right : FnScope N__law_squares_right ["dice"] (defScope s__law_squares_right) := ⟨rfl, rfl, rfl, by decide +kernel, rfl, by decide +kernel, by decide +kernel⟩
def t__law_squares_right : LTS :=
  (tSeqL (tAsgL (tComp (tRng1 (aCons (tK (.int 16)) aNil)) (gNm 8) tYesL (t2 rdSub (tCallM P__law_roll (aCons (tN 0) (aCons (tK (.int 9)) aNil))) (tK (.int 1))) [8]) (gNm 1))
  (tSeqL (tAsgL (tCD (rdNs gSum) (aCons (tN 1) aNil)) (gNm 2))
  (tSeqL (tAsgL (tCallM P__law_prime (aCons (tN 0) aNil)) (gNm 3))
  (tSeqL (tAsgL (tCD rdTuple (aCons (tCallM P__law_points (aCons (tN 0) (aCons (tN 3) (aCons (tK (.int 16)) aNil)))) aNil)) (gNm 4))
  (tSeqL (tForL (tItv (tTupL (aCons (t2 rdSub (t2 rdFdiv (tN 2) (tK (.int 4))) (tK (.int 1))) (aCons (t2 rdFdiv (tN 2) (tK (.int 4))) (aCons (t2 rdAdd (t2 rdFdiv (tN 2) (tK (.int 4))) (tK (.int 1))) (aCons (tK (.int 0)) (aCons (tNeg (tK (.int 2))) aNil))))))) (gNm 5)
  (tSeqL (tAsgL (t2 rdAdd (tTupL (aCons (tN 5) aNil)) (tCD rdTuple (aCons (tN 1) aNil))) (gNm 6))
  (tSeqL (tAsgL (L3.tAndV (t2 rdLe (t2 rdMulA (tK (.int 4)) (tN 5)) (tN 2)) (L3.tOrV (t2 rdGt (tN 5) (tK (.int 0))) (t2 rdGt (tCD (rdNs gMax) (aCons (tN 1) aNil)) (tK (.int 0))))) (gNm 7))
  (tSeqL (tIfSL (tTst (t2 rdNe (tCallL P_is_square_barred [] (aCons (tN 6) aNil)) (tN 7))) (tRetL (tK (.bl false))) tNxL)
  (tIfSL (tAndL (tTru (tN 7)) (tOrL (tTst (t2 rdNe (tCallL P_row_above [] (aCons (tN 3) (aCons (tN 4) (aCons (tN 6) aNil)))) (tK (.int 0)))) (tTst (t2 rdNe (tCallL P_bounds [] (aCons (tN 3) (aCons (tN 4) (aCons (tN 6) aNil)))) (tTupL (aCons (tK (.str "exact")) (aCons (tK (.int 0)) aNil))))))) (tRetL (tK (.bl false))) tNxL)))))
  (tRetL (L3.tAndV (L3.tNotV (tCallL P_is_square_barred [] (aCons (t2 rdMulA (tTupL (aCons (tK (.int 0)) aNil)) (tK (.int 17))) aNil))) (L3.tNotV (tCallL P_is_square_barred [] (aCons (tCD rdTuple (aCons (t2 rdAdd (tLstL (aCons (tN 5) aNil)) (tSlc (tN 1) tNoP (tPrt (tK (.int 15))))) aNil)) aNil))))))))))
abbrev s__law_cell_right : Stmt := topS 110
abbrev N__law_cell_right : List Str := ["dice", "n", "row", "at", "to", "bent", "other", "one", "there"]
theorem sc__law_cell_right : FnScope N__law_cell_right ["dice"] (defScope s__law_cell_right) := ⟨rfl, rfl, rfl, by decide +kernel, rfl, by decide +kernel, by decide +kernel⟩
def t__law_cell_right : LTS :=
  (tSeqL (tAsgL (t2 rdAdd (tK (.int 10)) (tCallM P__law_roll (aCons (tN 0) (aCons (tK (.int 7)) aNil)))) (gNm 1))
  (tSeqL (tAsgL (tCallL P__law_moved [] (aCons (tCallL P__law_point_row [] (aCons (tN 1) (aCons (tCallM P__law_roll (aCons (tN 0) (aCons (tN 1) aNil))) aNil))) (aCons (tCallM P__law_word (aCons (tN 0) (aCons (tN 1) (aCons (tK (.int 10)) aNil)))) aNil))) (gNm 2))
  (tSeqL (tIfSL (tOrL (tNotL (tTru (tCallL P_is_led_to_point [] (aCons (tN 2) aNil)))) (tNotL (tTru (tCallL P__law_told_right [] (aCons (tN 2) aNil))))) (tRetL (tK (.bl false))) tNxL)
  (tSeqL (tAsgL (tSlc (tCallM P__law_mixed (aCons (tN 0) (aCons (tLRg2 (tK (.int 1)) (t2 rdAdd (tN 1) (tK (.int 1)))) aNil))) tNoP (tPrt (tK (.int 2)))) (gUnL 2 (gConsL (gNm 3) (gConsL (gNm 4) gNilL))))
  (tSeqL (tAsgL (tCD rdList (aCons (tN 2) aNil)) (gNm 5))
  (tSeqL (tAsgL (tTupL (aCons (t2 rdAdd (t2 rdIx (tN 5) (tN 3)) (tK (.int 1))) (aCons (t2 rdSub (t2 rdIx (tN 5) (tN 4)) (tK (.int 1))) aNil))) (gTupL 2 (gConsL (gIx 5 (tN 3)) (gConsL (gIx 5 (tN 4)) gNilL))))
  (tSeqL (tForL (tItv (tTupL (aCons (tCD rdTuple (aCons (tN 5) aNil)) (aCons (tCallM P__law_small_row (aCons (tN 0) (aCons (tN 1) (aCons (tK (.int 2)) aNil)))) (aCons (tCallL P__law_cubic [] (aCons (tN 1) aNil)) (aCons (t2 rdMulA (tTupL (aCons (tK (.int 0)) aNil)) (t2 rdAdd (tN 1) (tK (.int 1)))) aNil)))))) (gNm 6)
  (tIfSL (tNotL (tTru (tCallL P__law_told_right [] (aCons (tN 6) aNil)))) (tRetL (tK (.bl false))) tNxL))
  (tSeqL (tAsgL (tCallM P__law_one_of (aCons (tN 0) (aCons (tCallL P__law_false_ones [] (aCons (tN 1) aNil)) aNil))) (gNm 7))
  (tSeqL (tAsgL (tCallL P__law_moved [] (aCons (tN 7) (aCons (tCallM P__law_word (aCons (tN 0) (aCons (tN 1) (aCons (tK (.int 5)) aNil)))) aNil))) (gNm 8))
  (tSeqL (tIfSL (tOrL (tTst (t2 rdNe (tCallL P__law_times [] (aCons (tN 8) (aCons (tN 8) aNil))) (tNeg (tK (.int 1))))) (tTst (t2 rdNe (tCallL P__law_times [] (aCons (tN 8) (aCons (tCallL P__law_cubic [] (aCons (tN 1) aNil)) aNil))) (tK (.int 1))))) (tRetL (tK (.bl false))) tNxL)
  (tRetL (L3.tAndV (L3.tNotV (tCallL P_is_led_to_point [] (aCons (tN 8) aNil))) (L3.tAndV (t2 (rdIs false) (tCallL P_word_to_point [] (aCons (tN 8) aNil)) (tK .non)) (t2 (rdIs false) (tCallL P_word_to_point [] (aCons (tN 7) aNil)) (tK .non)))))))))))))))
abbrev s_law : Stmt := topS 111
abbrev N_law : List Str := ["script", "at", "dice"]
theorem sc_law : FnScope N_law ["script"] (defScope s_law) := ⟨rfl, rfl, rfl, by decide +kernel, rfl, by decide +kernel, by decide +kernel⟩
def t_law : LTS :=
  (tSeqL (tForL (tRng1 (aCons (tCD (rdII max) (aCons (tK (.int 1)) (aCons (tCD (rdII min) (aCons (tK (.int 5)) (aCons (tCD rdLen (aCons (tN 0) aNil)) aNil))) aNil))) aNil)) (gNm 1)
  (tSeqL (tAsgL (tCallL P__law_dice [] (aCons (tN 0) (aCons (tN 1) aNil))) (gNm 2))
  (tIfSL (tNotL (tTru (tCallM P__law_cell_right (aCons (tN 2) aNil)))) (tRetL (tK (.bl false))) tNxL)))
  (tRetL (tCallM P__law_squares_right (aCons (tCallL P__law_dice [] (aCons (tN 0) (aCons (tK (.int 0)) aNil))) aNil))))
end K82

set_option Elab.async false
set_option linter.all false
set_option maxRecDepth 100000
set_option maxHeartbeats 4000000
namespace K82
open PySem PySem.Spec PyProof.Rows L2 L3
section
variable {P0 : Program} {w : World} {K : PySem.W.Frag} {mg : Str → Option Value} {base : Heap} {T : List (Addr × Option Str)} {f : Addr}
theorem der_is_whole (hx : Fx K w mg)  {cdv : Value} {A : Around} {outer : List Env} {s : Shared} {H : Hp} {E : XK} {B : Bg} (hk : B.K = K) (hT : B.T = T) (hM : B.M = none) (hr : Room 0 (A.deeper (envOfC "is_whole" (defScope s_is_whole) s.heap.objs.size f cdv))) :
    DSs (cxOf CX0 P0 w K mg base N_is_whole "is_whole" (defScope s_is_whole) f cdv A outer s H E).nox B (defBody s_is_whole) t_is_whole := by
  have hu64 := room64 hr
  have hu65 := room65 hr
  exact (dss_one (ds_ret (de_and (de_callB cd_isi (by rfl) hx.z_isinstance PyProof.Rows.boot_isinstance (da_cons (de_name (pv 0) hk) (da_cons (de_ty (by rfl) hx.z_int PyProof.Rows.boot_int (hk := hk)) (da_nil hk)))) (de_one (de_not (de_callB cd_isi (by rfl) hx.z_isinstance PyProof.Rows.boot_isinstance (da_cons (de_name (pv 0) hk) (da_cons (de_ty (by rfl) hx.z_bool PyProof.Rows.boot_bool (hk := hk)) (da_nil hk)))))))))
theorem der_is_integer (hx : Fx K w mg) (G_is_whole : GF P0 w K mg base T 1 1 "is_whole" P_is_whole []) {cdv : Value} {A : Around} {outer : List Env} {s : Shared} {H : Hp} {E : XK} {B : Bg} (hk : B.K = K) (hT : B.T = T) (hM : B.M = none) (hr : Room 1 (A.deeper (envOfC "is_integer" (defScope s_is_integer) s.heap.objs.size f cdv))) :
    DSs (cxOf CX0 P0 w K mg base N_is_integer "is_integer" (defScope s_is_integer) f cdv A outer s H E).nox B (defBody s_is_integer) t_is_integer := by
  have hu64 := room64 hr
  have hu65 := room65 hr
  exact (dss_one (ds_ret (de_and (de_gf G_is_whole hT hr (by decide) (by rfl) (da_cons (de_name (pv 0) hk) (da_nil hk))) (de_one (de_cmp od_lt (de_callB cd_abs (by rfl) hx.z_abs PyProof.Rows.boot_abs (da_cons (de_name (pv 0) hk) (da_nil hk))) (de_op od_mulA (de_gint (by rfl) hx.c_HUNDRED_DIGITS (hk := hk)) (de_gint (by rfl) hx.c_HUNDRED_DIGITS (hk := hk))))))))
theorem der_is_within (hx : Fx K w mg) (G_is_whole : GF P0 w K mg base T 1 1 "is_whole" P_is_whole []) {cdv : Value} {A : Around} {outer : List Env} {s : Shared} {H : Hp} {E : XK} {B : Bg} (hk : B.K = K) (hT : B.T = T) (hM : B.M = none) (hr : Room 1 (A.deeper (envOfC "is_within" (defScope s_is_within) s.heap.objs.size f cdv))) :
    DSs (cxOf CX0 P0 w K mg base N_is_within "is_within" (defScope s_is_within) f cdv A outer s H E).nox B (defBody s_is_within) t_is_within := by
  have hu64 := room64 hr
  have hu65 := room65 hr
  exact (dss_one (ds_ret (de_and (de_gf G_is_whole hT hr (by decide) (by rfl) (da_cons (de_name (pv 0) hk) (da_nil hk))) (de_one (de_chain od_le od_le (de_name (pv 1) hk) (de_name (pv 0) hk) (de_name (pv 2) hk))))))
theorem der_is_prime_in (hx : Fx K w mg) (G_is_within : GF P0 w K mg base T 2 3 "is_within" P_is_within []) {cdv : Value} {A : Around} {outer : List Env} {s : Shared} {H : Hp} {E : XK} {B : Bg} (hk : B.K = K) (hT : B.T = T) (hM : B.M = none) (hr : Room 2 (A.deeper (envOfC "is_prime_in" (defScope s_is_prime_in) s.heap.objs.size f cdv))) :
    DSs (cxOf CX0 P0 w K mg base N_is_prime_in "is_prime_in" (defScope s_is_prime_in) f cdv A outer s H E).nox B (defBody s_is_prime_in) t_is_prime_in := by
  have hu64 := room64 hr
  have hu65 := room65 hr
  exact (dss_cons (ds_if (DW.dt (dw_or (dt_not (dt_truth (de_gf G_is_within hT hr (by decide) (by rfl) (da_cons (de_name (pv 0) hk) (da_cons (de_gint (by rfl) hx.c_LEAST_PRIME (hk := hk)) (da_cons (de_gint (by rfl) hx.c_MOST_PRIME (hk := hk)) (da_nil hk))))))) (dw_or1 (dt_cmp (od_eq hu64) (de_op od_mod (de_name (pv 0) hk) (de_int hk)) (de_int hk))))) (dss_one (ds_ret (de_bl hk))) (dss_nil hk))
    (dss_one (ds_ret (de_callB (cd_all rfl) (by rfl) hx.z_all PyProof.Rows.boot_all (da_cons (de_lc (own := [("divisor", 1)]) (.inl (by decide)) (by decide) rfl sc_is_prime_in.nd (di_range3 (by rfl) hx.z_range (da_cons (de_int hk) (da_cons (de_int hk) (da_cons (de_int hk) (da_nil hk))))) (blkOk_by (own := [("divisor", 1)]) (N := N_is_prime_in) (sc := defScope s_is_prime_in) (by decide +kernel)) (fun _ _ _ _ _ => (dg_name (i := 1) (.inl (by decide)) (pg_name (i := 1) sc_is_prime_in.nd rfl (.inl rfl)) hk)) (fun _ _ _ _ _ => (dts_one (dt_cmp od_le (de_op od_mulA (de_name (pv 1) hk) (de_name (pv 1) hk)) (de_name (pv 0) hk)))) (fun _ _ _ _ _ => (de_cmp (od_ne hu64) (de_op od_mod (de_name (pv 0) hk) (de_name (pv 1) hk)) (de_int hk)))) (da_nil hk))))))
theorem der_require_prime (hx : Fx K w mg) (G_is_prime_in : GF P0 w K mg base T 3 1 "is_prime_in" P_is_prime_in []) {cdv : Value} {A : Around} {outer : List Env} {s : Shared} {H : Hp} {E : XK} {B : Bg} (hk : B.K = K) (hT : B.T = T) (hM : B.M = none) (hr : Room 3 (A.deeper (envOfC "require_prime" (defScope s_require_prime) s.heap.objs.size f cdv))) :
    DSs (cxOf CX0 P0 w K mg base N_require_prime "require_prime" (defScope s_require_prime) f cdv A outer s H E).nox B (defBody s_require_prime) t_require_prime := by
  have hu64 := room64 hr
  have hu65 := room65 hr
  exact (dss_one (ds_if (dt_not (dt_truth (de_gf G_is_prime_in hT hr (by decide) (by rfl) (da_cons (de_name (pv 0) hk) (da_nil hk))))) (dss_never hk) (dss_nil hk)))
theorem der_is_point_in (hx : Fx K w mg) (G_is_within : GF P0 w K mg base T 2 3 "is_within" P_is_within []) {cdv : Value} {A : Around} {outer : List Env} {s : Shared} {H : Hp} {E : XK} {B : Bg} (hk : B.K = K) (hT : B.T = T) (hM : B.M = none) (hC : TabAt mg base T cdv none) (hr : Room 2 (A.deeper (envOfC "is_point_in" (defScope s_is_point_in) s.heap.objs.size f cdv))) :
    DSs (cxOf CX0 P0 w K mg base N_is_point_in "is_point_in" (defScope s_is_point_in) f cdv A outer s H E).nox B (defBody s_is_point_in) t_is_point_in := by
  have hu64 := room64 hr
  have hu65 := room65 hr
  exact (dss_cons (ds_if (DW.dt (dw_or (dt_not (dt_truth (de_callB cd_isi (by rfl) hx.z_isinstance PyProof.Rows.boot_isinstance (da_cons (de_name (pv 1) hk) (da_cons (de_ty (by rfl) hx.z_tuple PyProof.Rows.boot_tuple (hk := hk)) (da_nil hk)))))) (dw_or (dt_cmp (od_ne hu64) (de_callB cd_len (by rfl) hx.z_len PySem.boot_len (da_cons (de_name (pv 1) hk) (da_nil hk))) (de_int hk)) (dw_or1 (dt_not (dt_truth (de_callB (cd_all rfl) (by rfl) hx.z_all PyProof.Rows.boot_all (da_cons (de_lc (own := [("one", 2)]) (.inl (by decide)) (by decide) rfl sc_is_point_in.nd (di_val (de_name (pv 1) hk)) (blkOk_by (own := [("one", 2)]) (N := N_is_point_in) (sc := defScope s_is_point_in) (by decide +kernel)) (fun _ _ _ _ _ => (dg_name (i := 2) (.inl (by decide)) (pg_name (i := 2) sc_is_point_in.nd rfl (.inl rfl)) hk)) (fun _ _ _ _ _ => dts_nil) (fun _ _ _ _ _ => (de_gf G_is_within hT hr (by decide) (by rfl) (da_cons (de_name (pv 2) hk) (da_cons (de_int hk) (da_cons (de_op od_sub (de_name (pv 0) hk) (de_int hk)) (da_nil hk))))))) (da_nil hk))))))))) (dss_one (ds_ret (de_bl hk))) (dss_nil hk))
    (dss_one (ds_ret (de_cmp (od_eq hu64) (de_nextT hC hT hr (by rfl) hx.z_next (by decide +kernel) (de_rev (de_name (pv 1) hk))) (de_int hk)))))
theorem der_are_points_in (hx : Fx K w mg) (G_is_point_in : GF P0 w K mg base T 3 2 "is_point_in" P_is_point_in []) {cdv : Value} {A : Around} {outer : List Env} {s : Shared} {H : Hp} {E : XK} {B : Bg} (hk : B.K = K) (hT : B.T = T) (hM : B.M = none) (hr : Room 3 (A.deeper (envOfC "are_points_in" (defScope s_are_points_in) s.heap.objs.size f cdv))) :
    DSs (cxOf CX0 P0 w K mg base N_are_points_in "are_points_in" (defScope s_are_points_in) f cdv A outer s H E).nox B (defBody s_are_points_in) t_are_points_in := by
  have hu64 := room64 hr
  have hu65 := room65 hr
  exact (dss_cons (ds_if (DW.dt (dw_or (dt_not (dt_truth (de_callB cd_isi (by rfl) hx.z_isinstance PyProof.Rows.boot_isinstance (da_cons (de_name (pv 1) hk) (da_cons (de_ty (by rfl) hx.z_tuple PyProof.Rows.boot_tuple (hk := hk)) (da_nil hk)))))) (dw_or1 (dt_not (dt_chain od_le od_le (de_gint (by rfl) hx.c_LEAST_POINTS_TOLD (hk := hk)) (de_callB cd_len (by rfl) hx.z_len PySem.boot_len (da_cons (de_name (pv 1) hk) (da_nil hk))) (de_gint (by rfl) hx.c_MAX_POINTS (hk := hk))))))) (dss_one (ds_ret (de_bl hk))) (dss_nil hk))
    (dss_cons (ds_if (dt_not (dt_truth (de_callB (cd_all rfl) (by rfl) hx.z_all PyProof.Rows.boot_all (da_cons (de_lc (own := [("one", 2)]) (.inl (by decide)) (by decide) rfl sc_are_points_in.nd (di_val (de_name (pv 1) hk)) (blkOk_by (own := [("one", 2)]) (N := N_are_points_in) (sc := defScope s_are_points_in) (by decide +kernel)) (fun _ _ _ _ _ => (dg_name (i := 2) (.inl (by decide)) (pg_name (i := 2) sc_are_points_in.nd rfl (.inl rfl)) hk)) (fun _ _ _ _ _ => dts_nil) (fun _ _ _ _ _ => (de_gf G_is_point_in hT hr (by decide) (by rfl) (da_cons (de_name (pv 0) hk) (da_cons (de_name (pv 2) hk) (da_nil hk)))))) (da_nil hk))))) (dss_one (ds_ret (de_bl hk))) (dss_nil hk))
    (dss_one (ds_ret (de_cmp (od_eq hu64) (de_lenSetT rfl hr (by rfl) hx.z_len (by rfl) hx.z_set (de_name (pv 1) hk)) (de_callB cd_len (by rfl) hx.z_len PySem.boot_len (da_cons (de_name (pv 1) hk) (da_nil hk))))))))
theorem der_require_points (hx : Fx K w mg) (G_require_prime : GF P0 w K mg base T 4 1 "require_prime" P_require_prime []) (G_are_points_in : GF P0 w K mg base T 4 2 "are_points_in" P_are_points_in []) {cdv : Value} {A : Around} {outer : List Env} {s : Shared} {H : Hp} {E : XK} {B : Bg} (hk : B.K = K) (hT : B.T = T) (hM : B.M = none) (hr : Room 4 (A.deeper (envOfC "require_points" (defScope s_require_points) s.heap.objs.size f cdv))) :
    DSs (cxOf CX0 P0 w K mg base N_require_points "require_points" (defScope s_require_points) f cdv A outer s H E).nox B (defBody s_require_points) t_require_points := by
  have hu64 := room64 hr
  have hu65 := room65 hr
  exact (dss_cons (ds_expr (de_gf G_require_prime hT hr (by decide) (by rfl) (da_cons (de_name (pv 0) hk) (da_nil hk))))
    (dss_one (ds_if (dt_not (dt_truth (de_gf G_are_points_in hT hr (by decide) (by rfl) (da_cons (de_name (pv 0) hk) (da_cons (de_name (pv 1) hk) (da_nil hk)))))) (dss_never hk) (dss_nil hk))))
theorem der_points_of (hx : Fx K w mg)  {cdv : Value} {A : Around} {outer : List Env} {s : Shared} {H : Hp} {E : XK} {B : Bg} (hk : B.K = K) (hT : B.T = T) (hM : B.M = none) (hr : Room 0 (A.deeper (envOfC "points_of" (defScope s_points_of) s.heap.objs.size f cdv))) :
    DSs (cxOf CX0 P0 w K mg base N_points_of "points_of" (defScope s_points_of) f cdv A outer s H E).nox B (defBody s_points_of) t_points_of := by
  have hu64 := room64 hr
  have hu65 := room65 hr
  exact (dss_one (ds_ret (de_op od_sub (de_callB cd_len (by rfl) hx.z_len PySem.boot_len (da_cons (de_name (pv 0) hk) (da_nil hk))) (de_int hk))))
theorem der_is_row_in (hx : Fx K w mg) (G_is_integer : GF P0 w K mg base T 2 1 "is_integer" P_is_integer []) {cdv : Value} {A : Around} {outer : List Env} {s : Shared} {H : Hp} {E : XK} {B : Bg} (hk : B.K = K) (hT : B.T = T) (hM : B.M = none) (hr : Room 2 (A.deeper (envOfC "is_row_in" (defScope s_is_row_in) s.heap.objs.size f cdv))) :
    DSs (cxOf CX0 P0 w K mg base N_is_row_in "is_row_in" (defScope s_is_row_in) f cdv A outer s H E).nox B (defBody s_is_row_in) t_is_row_in := by
  have hu64 := room64 hr
  have hu65 := room65 hr
  exact (dss_cons (ds_if (DW.dt (dw_or (dt_not (dt_truth (de_callB cd_isi (by rfl) hx.z_isinstance PyProof.Rows.boot_isinstance (da_cons (de_name (pv 0) hk) (da_cons (de_ty (by rfl) hx.z_tuple PyProof.Rows.boot_tuple (hk := hk)) (da_nil hk)))))) (dw_or1 (dt_not (dt_chain od_le od_le (de_gint (by rfl) hx.c_LEAST_POINTS (hk := hk)) (de_op od_sub (de_callB cd_len (by rfl) hx.z_len PySem.boot_len (da_cons (de_name (pv 0) hk) (da_nil hk))) (de_int hk)) (de_gint (by rfl) hx.c_MOST_POINTS (hk := hk))))))) (dss_one (ds_ret (de_bl hk))) (dss_nil hk))
    (dss_one (ds_ret (de_callB (cd_all rfl) (by rfl) hx.z_all PyProof.Rows.boot_all (da_cons (de_lc (own := [("entry", 1)]) (.inl (by decide)) (by decide) rfl sc_is_row_in.nd (di_val (de_name (pv 0) hk)) (blkOk_by (own := [("entry", 1)]) (N := N_is_row_in) (sc := defScope s_is_row_in) (by decide +kernel)) (fun _ _ _ _ _ => (dg_name (i := 1) (.inl (by decide)) (pg_name (i := 1) sc_is_row_in.nd rfl (.inl rfl)) hk)) (fun _ _ _ _ _ => dts_nil) (fun _ _ _ _ _ => (de_gf G_is_integer hT hr (by decide) (by rfl) (da_cons (de_name (pv 1) hk) (da_nil hk))))) (da_nil hk))))))
theorem der_require_row (hx : Fx K w mg) (G_is_row_in : GF P0 w K mg base T 3 1 "is_row_in" P_is_row_in []) (G_points_of : GF P0 w K mg base T 1 1 "points_of" P_points_of []) {cdv : Value} {A : Around} {outer : List Env} {s : Shared} {H : Hp} {E : XK} {B : Bg} (hk : B.K = K) (hT : B.T = T) (hM : B.M = none) (hr : Room 3 (A.deeper (envOfC "require_row" (defScope s_require_row) s.heap.objs.size f cdv))) :
    DSs (cxOf CX0 P0 w K mg base N_require_row "require_row" (defScope s_require_row) f cdv A outer s H E).nox B (defBody s_require_row) t_require_row := by
  have hu64 := room64 hr
  have hu65 := room65 hr
  exact (dss_cons (ds_if (DW.dt (dw_or (dt_not (dt_truth (de_gf G_is_row_in hT hr (by decide) (by rfl) (da_cons (de_name (pv 0) hk) (da_nil hk))))) (dw_or1 (dt_not (dt_chain od_le od_le (de_name (pv 1) hk) (de_gf G_points_of hT hr (by decide) (by rfl) (da_cons (de_name (pv 0) hk) (da_nil hk))) (de_name (pv 2) hk)))))) (dss_never hk) (dss_nil hk))
    (dss_one (ds_ret (de_gf G_points_of hT hr (by decide) (by rfl) (da_cons (de_name (pv 0) hk) (da_nil hk))))))
theorem der_product_in (hx : Fx K w mg)  {cdv : Value} {A : Around} {outer : List Env} {s : Shared} {H : Hp} {E : XK} {B : Bg} (hk : B.K = K) (hT : B.T = T) (hM : B.M = none) (hr : Room 0 (A.deeper (envOfC "product_in" (defScope s_product_in) s.heap.objs.size f cdv))) :
    DSs (cxOf CX0 P0 w K mg base N_product_in "product_in" (defScope s_product_in) f cdv A outer s H E).nox B (defBody s_product_in) t_product_in := by
  have hu64 := room64 hr
  have hu65 := room65 hr
  exact (dss_one (ds_ret (de_op od_sub (de_op od_mulA (de_ix (de_name (pv 0) hk) (de_int hk)) (de_ix (de_name (pv 1) hk) (de_int hk))) (de_callB (cd_sum rfl) (by rfl) hx.z_sum PyProof.Rows.boot_sum (da_cons (de_lc (own := [("left", 2), ("right", 3)]) (.inl (by decide)) (by decide) rfl sc_product_in.nd (di_zip (by rfl) hx.z_zip (da_cons (de_slice (de_name (pv 0) hk) (do_some (de_int hk)) do_none) (da_cons (de_slice (de_name (pv 1) hk) (do_some (de_int hk)) do_none) (da_nil hk)))) (blkOk_by (own := [("left", 2), ("right", 3)]) (N := N_product_in) (sc := defScope s_product_in) (by decide +kernel)) (fun _ _ _ _ _ => (dg_tup rfl (dgs_cons (dg_name (i := 2) (.inl (by decide)) (pg_name (i := 2) sc_product_in.nd rfl (.inl rfl)) hk) (dgs_cons (dg_name (i := 3) (.inl (by decide)) (pg_name (i := 3) sc_product_in.nd rfl (.inl rfl)) hk) (dgs_nil hk))))) (fun _ _ _ _ _ => dts_nil) (fun _ _ _ _ _ => (de_op od_mulA (de_name (pv 2) hk) (de_name (pv 3) hk)))) (da_nil hk))))))
theorem der_square_in (hx : Fx K w mg) (G_product_in : GF P0 w K mg base T 1 2 "product_in" P_product_in []) {cdv : Value} {A : Around} {outer : List Env} {s : Shared} {H : Hp} {E : XK} {B : Bg} (hk : B.K = K) (hT : B.T = T) (hM : B.M = none) (hr : Room 1 (A.deeper (envOfC "square_in" (defScope s_square_in) s.heap.objs.size f cdv))) :
    DSs (cxOf CX0 P0 w K mg base N_square_in "square_in" (defScope s_square_in) f cdv A outer s H E).nox B (defBody s_square_in) t_square_in := by
  have hu64 := room64 hr
  have hu65 := room65 hr
  exact (dss_one (ds_ret (de_gf G_product_in hT hr (by decide) (by rfl) (da_cons (de_name (pv 0) hk) (da_cons (de_name (pv 0) hk) (da_nil hk))))))
theorem der_with_cubic_in (hx : Fx K w mg)  {cdv : Value} {A : Around} {outer : List Env} {s : Shared} {H : Hp} {E : XK} {B : Bg} (hk : B.K = K) (hT : B.T = T) (hM : B.M = none) (hr : Room 0 (A.deeper (envOfC "with_cubic_in" (defScope s_with_cubic_in) s.heap.objs.size f cdv))) :
    DSs (cxOf CX0 P0 w K mg base N_with_cubic_in "with_cubic_in" (defScope s_with_cubic_in) f cdv A outer s H E).nox B (defBody s_with_cubic_in) t_with_cubic_in := by
  have hu64 := room64 hr
  have hu65 := room65 hr
  exact (dss_one (ds_ret (de_op od_sub (de_op od_mulA (de_int hk) (de_ix (de_name (pv 0) hk) (de_int hk))) (de_callB (cd_sum rfl) (by rfl) hx.z_sum PyProof.Rows.boot_sum (da_cons (de_slice (de_name (pv 0) hk) (do_some (de_int hk)) do_none) (da_nil hk))))))
theorem der_counting_in (hx : Fx K w mg) (G_square_in : GF P0 w K mg base T 2 1 "square_in" P_square_in []) (G_with_cubic_in : GF P0 w K mg base T 1 1 "with_cubic_in" P_with_cubic_in []) {cdv : Value} {A : Around} {outer : List Env} {s : Shared} {H : Hp} {E : XK} {B : Bg} (hk : B.K = K) (hT : B.T = T) (hM : B.M = none) (hr : Room 2 (A.deeper (envOfC "counting_in" (defScope s_counting_in) s.heap.objs.size f cdv))) :
    DSs (cxOf CX0 P0 w K mg base N_counting_in "counting_in" (defScope s_counting_in) f cdv A outer s H E).nox B (defBody s_counting_in) t_counting_in := by
  have hu64 := room64 hr
  have hu65 := room65 hr
  exact (dss_one (ds_ret (de_op od_add (de_op od_fdiv (de_op od_add (de_gf G_square_in hT hr (by decide) (by rfl) (da_cons (de_name (pv 0) hk) (da_nil hk))) (de_gf G_with_cubic_in hT hr (by decide) (by rfl) (da_cons (de_name (pv 0) hk) (da_nil hk)))) (de_int hk)) (de_int hk))))
theorem der_is_index_below (hx : Fx K w mg)  {cdv : Value} {A : Around} {outer : List Env} {s : Shared} {H : Hp} {E : XK} {B : Bg} (hk : B.K = K) (hT : B.T = T) (hM : B.M = none) (hr : Room 0 (A.deeper (envOfC "is_index_below" (defScope s_is_index_below) s.heap.objs.size f cdv))) :
    DSs (cxOf CX0 P0 w K mg base N_is_index_below "is_index_below" (defScope s_is_index_below) f cdv A outer s H E).nox B (defBody s_is_index_below) t_is_index_below := by
  have hu64 := room64 hr
  have hu65 := room65 hr
  exact (dss_one (ds_ret (de_and (de_callB cd_isi (by rfl) hx.z_isinstance PyProof.Rows.boot_isinstance (da_cons (de_name (pv 1) hk) (da_cons (de_ty (by rfl) hx.z_int PyProof.Rows.boot_int (hk := hk)) (da_nil hk)))) (de_and (de_not (de_callB cd_isi (by rfl) hx.z_isinstance PyProof.Rows.boot_isinstance (da_cons (de_name (pv 1) hk) (da_cons (de_ty (by rfl) hx.z_bool PyProof.Rows.boot_bool (hk := hk)) (da_nil hk))))) (de_one (de_chain od_le od_lt (de_int hk) (de_name (pv 1) hk) (de_name (pv 0) hk)))))))
theorem der_is_move_in (hx : Fx K w mg) (G_is_index_below : GF P0 w K mg base T 1 2 "is_index_below" P_is_index_below []) {cdv : Value} {A : Around} {outer : List Env} {s : Shared} {H : Hp} {E : XK} {B : Bg} (hk : B.K = K) (hT : B.T = T) (hM : B.M = none) (hr : Room 1 (A.deeper (envOfC "is_move_in" (defScope s_is_move_in) s.heap.objs.size f cdv))) :
    DSs (cxOf CX0 P0 w K mg base N_is_move_in "is_move_in" (defScope s_is_move_in) f cdv A outer s H E).nox B (defBody s_is_move_in) t_is_move_in := by
  have hu64 := room64 hr
  have hu65 := room65 hr
  exact (dss_cons (ds_if (DW.dt (dw_or (dt_not (dt_truth (de_callB cd_isi (by rfl) hx.z_isinstance PyProof.Rows.boot_isinstance (da_cons (de_name (pv 1) hk) (da_cons (de_ty (by rfl) hx.z_tuple PyProof.Rows.boot_tuple (hk := hk)) (da_nil hk)))))) (dw_or (dt_cmp (od_eq hu64) (de_name (pv 1) hk) (de_tup (da_nil hk))) (dw_or1 (dt_not (dt_truth (de_callB cd_isi (by rfl) hx.z_isinstance PyProof.Rows.boot_isinstance (da_cons (de_ix (de_name (pv 1) hk) (de_int hk)) (da_cons (de_ty (by rfl) hx.z_str PyProof.Rows.boot_str (hk := hk)) (da_nil hk)))))))))) (dss_one (ds_ret (de_bl hk))) (dss_nil hk))
    (dss_cons (ds_if (DW.dt (dw_or (dt_cmp (od_ne hu64) (de_callB cd_len (by rfl) hx.z_len PySem.boot_len (da_cons (de_name (pv 1) hk) (da_nil hk))) (de_op od_add (de_int hk) (de_kget (j := 0) hx.t_SIZES (by rfl) (de_ix (de_name (pv 1) hk) (de_int hk))))) (dw_or1 (dt_knotin hx.t_SIZES (by rfl) (de_ix (de_name (pv 1) hk) (de_int hk)))))) (dss_one (ds_ret (de_bl hk))) (dss_nil hk))
    (dss_cons (ds_if (dt_not (dt_truth (de_callB (cd_all rfl) (by rfl) hx.z_all PyProof.Rows.boot_all (da_cons (de_lc (own := [("one", 2)]) (.inl (by decide)) (by decide) rfl sc_is_move_in.nd (di_val (de_slice (de_name (pv 1) hk) (do_some (de_int hk)) do_none)) (blkOk_by (own := [("one", 2)]) (N := N_is_move_in) (sc := defScope s_is_move_in) (by decide +kernel)) (fun _ _ _ _ _ => (dg_name (i := 2) (.inl (by decide)) (pg_name (i := 2) sc_is_move_in.nd rfl (.inl rfl)) hk)) (fun _ _ _ _ _ => dts_nil) (fun _ _ _ _ _ => (de_gf G_is_index_below hT hr (by decide) (by rfl) (da_cons (de_name (pv 0) hk) (da_cons (de_name (pv 2) hk) (da_nil hk)))))) (da_nil hk))))) (dss_one (ds_ret (de_bl hk))) (dss_nil hk))
    (dss_one (ds_ret (de_callB (cd_all rfl) (by rfl) hx.z_all PyProof.Rows.boot_all (da_cons (de_lc (own := [("one", 2), ("other", 3)]) (.inl (by decide)) (by decide) rfl sc_is_move_in.nd (di_zip (by rfl) hx.z_zip (da_cons (de_slice (de_name (pv 1) hk) (do_some (de_int hk)) do_none) (da_cons (de_slice (de_name (pv 1) hk) (do_some (de_int hk)) do_none) (da_nil hk)))) (blkOk_by (own := [("one", 2), ("other", 3)]) (N := N_is_move_in) (sc := defScope s_is_move_in) (by decide +kernel)) (fun _ _ _ _ _ => (dg_tup rfl (dgs_cons (dg_name (i := 2) (.inl (by decide)) (pg_name (i := 2) sc_is_move_in.nd rfl (.inl rfl)) hk) (dgs_cons (dg_name (i := 3) (.inl (by decide)) (pg_name (i := 3) sc_is_move_in.nd rfl (.inl rfl)) hk) (dgs_nil hk))))) (fun _ _ _ _ _ => dts_nil) (fun _ _ _ _ _ => (de_cmp od_lt (de_name (pv 2) hk) (de_name (pv 3) hk)))) (da_nil hk))))))))
theorem der_is_word_in (hx : Fx K w mg) (G_is_move_in : GF P0 w K mg base T 2 2 "is_move_in" P_is_move_in []) {cdv : Value} {A : Around} {outer : List Env} {s : Shared} {H : Hp} {E : XK} {B : Bg} (hk : B.K = K) (hT : B.T = T) (hM : B.M = none) (hr : Room 2 (A.deeper (envOfC "is_word_in" (defScope s_is_word_in) s.heap.objs.size f cdv))) :
    DSs (cxOf CX0 P0 w K mg base N_is_word_in "is_word_in" (defScope s_is_word_in) f cdv A outer s H E).nox B (defBody s_is_word_in) t_is_word_in := by
  have hu64 := room64 hr
  have hu65 := room65 hr
  exact (dss_one (ds_ret (de_and (de_callB cd_isi (by rfl) hx.z_isinstance PyProof.Rows.boot_isinstance (da_cons (de_name (pv 1) hk) (da_cons (de_ty (by rfl) hx.z_tuple PyProof.Rows.boot_tuple (hk := hk)) (da_nil hk)))) (de_and (de_cmp od_le (de_callB cd_len (by rfl) hx.z_len PySem.boot_len (da_cons (de_name (pv 1) hk) (da_nil hk))) (de_gint (by rfl) hx.c_MAX_WORD (hk := hk))) (de_one (de_callB (cd_all rfl) (by rfl) hx.z_all PyProof.Rows.boot_all (da_cons (de_lc (own := [("move", 2)]) (.inl (by decide)) (by decide) rfl sc_is_word_in.nd (di_val (de_name (pv 1) hk)) (blkOk_by (own := [("move", 2)]) (N := N_is_word_in) (sc := defScope s_is_word_in) (by decide +kernel)) (fun _ _ _ _ _ => (dg_name (i := 2) (.inl (by decide)) (pg_name (i := 2) sc_is_word_in.nd rfl (.inl rfl)) hk)) (fun _ _ _ _ _ => dts_nil) (fun _ _ _ _ _ => (de_gf G_is_move_in hT hr (by decide) (by rfl) (da_cons (de_name (pv 0) hk) (da_cons (de_name (pv 2) hk) (da_nil hk)))))) (da_nil hk))))))))
theorem der_require_word (hx : Fx K w mg) (G_is_word_in : GF P0 w K mg base T 3 2 "is_word_in" P_is_word_in []) {cdv : Value} {A : Around} {outer : List Env} {s : Shared} {H : Hp} {E : XK} {B : Bg} (hk : B.K = K) (hT : B.T = T) (hM : B.M = none) (hr : Room 3 (A.deeper (envOfC "require_word" (defScope s_require_word) s.heap.objs.size f cdv))) :
    DSs (cxOf CX0 P0 w K mg base N_require_word "require_word" (defScope s_require_word) f cdv A outer s H E).nox B (defBody s_require_word) t_require_word := by
  have hu64 := room64 hr
  have hu65 := room65 hr
  exact (dss_one (ds_if (dt_not (dt_truth (de_gf G_is_word_in hT hr (by decide) (by rfl) (da_cons (de_name (pv 0) hk) (da_cons (de_name (pv 1) hk) (da_nil hk)))))) (dss_never hk) (dss_nil hk)))
theorem der_is_passable (hx : Fx K w mg)  {cdv : Value} {A : Around} {outer : List Env} {s : Shared} {H : Hp} {E : XK} {B : Bg} (hk : B.K = K) (hT : B.T = T) (hM : B.M = none) (hr : Room 0 (A.deeper (envOfC "is_passable" (defScope s_is_passable) s.heap.objs.size f cdv))) :
    DSs (cxOf CX0 P0 w K mg base N_is_passable "is_passable" (defScope s_is_passable) f cdv A outer s H E).nox B (defBody s_is_passable) t_is_passable := by
  have hu64 := room64 hr
  have hu65 := room65 hr
  exact (dss_one (ds_ret (de_callB (cd_all rfl) (by rfl) hx.z_all PyProof.Rows.boot_all (da_cons (de_lc (own := [("one", 1)]) (.inl (by decide)) (by decide) rfl sc_is_passable.nd (di_val (de_name (pv 0) hk)) (blkOk_by (own := [("one", 1)]) (N := N_is_passable) (sc := defScope s_is_passable) (by decide +kernel)) (fun _ _ _ _ _ => (dg_name (i := 1) (.inl (by decide)) (pg_name (i := 1) sc_is_passable.nd rfl (.inl rfl)) hk)) (fun _ _ _ _ _ => dts_nil) (fun _ _ _ _ _ => (de_chain od_lt od_lt (de_neg (de_gint (by rfl) hx.c_TOO_LONG (hk := hk))) (de_name (pv 1) hk) (de_gint (by rfl) hx.c_TOO_LONG (hk := hk))))) (da_nil hk)))))
theorem der_require_passable (hx : Fx K w mg) (G_is_passable : GF P0 w K mg base T 1 1 "is_passable" P_is_passable []) {cdv : Value} {A : Around} {outer : List Env} {s : Shared} {H : Hp} {E : XK} {B : Bg} (hk : B.K = K) (hT : B.T = T) (hM : B.M = none) (hr : Room 1 (A.deeper (envOfC "require_passable" (defScope s_require_passable) s.heap.objs.size f cdv))) :
    DSs (cxOf CX0 P0 w K mg base N_require_passable "require_passable" (defScope s_require_passable) f cdv A outer s H E).nox B (defBody s_require_passable) t_require_passable := by
  have hu64 := room64 hr
  have hu65 := room65 hr
  exact (dss_one (ds_if (dt_not (dt_truth (de_callB (cd_all rfl) (by rfl) hx.z_all PyProof.Rows.boot_all (da_cons (de_lc (own := [("row", 1)]) (.inl (by decide)) (by decide) rfl sc_require_passable.nd (di_val (de_name (pv 0) hk)) (blkOk_by (own := [("row", 1)]) (N := N_require_passable) (sc := defScope s_require_passable) (by decide +kernel)) (fun _ _ _ _ _ => (dg_name (i := 1) (.inl (by decide)) (pg_name (i := 1) sc_require_passable.nd rfl (.inl rfl)) hk)) (fun _ _ _ _ _ => dts_nil) (fun _ _ _ _ _ => (de_gf G_is_passable hT hr (by decide) (by rfl) (da_cons (de_name (pv 1) hk) (da_nil hk))))) (da_nil hk))))) (dss_never hk) (dss_nil hk)))
theorem der_turn_in (hx : Fx K w mg)  {cdv : Value} {A : Around} {outer : List Env} {s : Shared} {H : Hp} {E : XK} {B : Bg} (hk : B.K = K) (hT : B.T = T) (hM : B.M = none) (hr : Room 0 (A.deeper (envOfC "turn_in" (defScope s_turn_in) s.heap.objs.size f cdv))) :
    DSs (cxOf CX0 P0 w K mg base N_turn_in "turn_in" (defScope s_turn_in) f cdv A outer s H E).nox B (defBody s_turn_in) t_turn_in := by
  have hu64 := room64 hr
  have hu65 := room65 hr
  exact (dss_cons (ds_par (i := 4) (j := 5) (.inl (by decide)) rfl sc_turn_in.nd rfl rfl (by decide) rfl rfl (da_cons (de_callTy cd_list (by rfl) hx.z_list PyProof.Rows.boot_list (da_cons (de_name (pv 0) hk) (da_nil hk))) (da_cons (de_op od_sub (de_op od_sub (de_op od_sub (de_ix (de_name (pv 0) hk) (de_int hk)) (de_ix (de_name (pv 0) hk) (de_op od_add (de_name (pv 1) hk) (de_int hk)))) (de_ix (de_name (pv 0) hk) (de_op od_add (de_name (pv 2) hk) (de_int hk)))) (de_ix (de_name (pv 0) hk) (de_op od_add (de_name (pv 3) hk) (de_int hk)))) (da_nil hk))) (by rfl))
    (dss_cons (ds_for PassesOwn.never rfl (di_val (de_tup (da_cons (de_int hk) (da_cons (de_op od_add (de_name (pv 1) hk) (de_int hk)) (da_cons (de_op od_add (de_name (pv 2) hk) (de_int hk)) (da_cons (de_op od_add (de_name (pv 3) hk) (de_int hk)) (da_nil hk))))))) (dg_name (i := 6) (.inl (by decide)) (pg_name (i := 6) sc_turn_in.nd rfl (.inl rfl)) hk)
    (dss_one (ds_asg (de_op od_add (de_ix (de_name (pv 4) hk) (de_name (pv 6) hk)) (de_name (pv 5) hk)) (dg_ix (pv 4) (de_name (pv 6) hk)))))
    (dss_one (ds_ret (de_callTy cd_tuple (by rfl) hx.z_tuple PyProof.Rows.boot_tuple (da_cons (de_name (pv 4) hk) (da_nil hk)))))))
theorem der_moved_once (hx : Fx K w mg) (G_turn_in : GF P0 w K mg base T 1 4 "turn_in" P_turn_in []) {cdv : Value} {A : Around} {outer : List Env} {s : Shared} {H : Hp} {E : XK} {B : Bg} (hk : B.K = K) (hT : B.T = T) (hM : B.M = none) (hr : Room 1 (A.deeper (envOfC "moved_once" (defScope s_moved_once) s.heap.objs.size f cdv))) :
    DSs (cxOf CX0 P0 w K mg base N_moved_once "moved_once" (defScope s_moved_once) f cdv A outer s H E).nox B (defBody s_moved_once) t_moved_once := by
  have hu64 := room64 hr
  have hu65 := room65 hr
  exact (dss_cons (ds_if (dt_cmp (od_eq hu64) (de_ix (de_name (pv 1) hk) (de_int hk)) (de_gstr (by rfl) hx.c_SWAP (hk := hk))) (dss_never hk) (dss_nil hk))
    (dss_one (ds_ret (de_gf G_turn_in hT hr (by decide) (by rfl) (da_cons (de_name (pv 0) hk) (da_cons (de_ix (de_name (pv 1) hk) (de_int hk)) (da_cons (de_ix (de_name (pv 1) hk) (de_int hk)) (da_cons (de_ix (de_name (pv 1) hk) (de_int hk)) (da_nil hk)))))))))
theorem der_moved_in (hx : Fx K w mg) (G_moved_once : GF P0 w K mg base T 2 2 "moved_once" P_moved_once []) {cdv : Value} {A : Around} {outer : List Env} {s : Shared} {H : Hp} {E : XK} {B : Bg} (hk : B.K = K) (hT : B.T = T) (hM : B.M = none) (hr : Room 2 (A.deeper (envOfC "moved_in" (defScope s_moved_in) s.heap.objs.size f cdv))) :
    DSs (cxOf CX0 P0 w K mg base N_moved_in "moved_in" (defScope s_moved_in) f cdv A outer s H E).nox B (defBody s_moved_in) t_moved_in := by
  have hu64 := room64 hr
  have hu65 := room65 hr
  exact (dss_cons (ds_asg (de_name (pv 0) hk) (dg_name (i := 2) (.inl (by decide)) (pg_name (i := 2) sc_moved_in.nd rfl (.inl rfl)) hk))
    (dss_cons (ds_for PassesOwn.never rfl (di_val (de_name (pv 1) hk)) (dg_name (i := 3) (.inl (by decide)) (pg_name (i := 3) sc_moved_in.nd rfl (.inl rfl)) hk)
    (dss_one (ds_asg (de_gf G_moved_once hT hr (by decide) (by rfl) (da_cons (de_name (pv 2) hk) (da_cons (de_name (pv 3) hk) (da_nil hk)))) (dg_name (i := 2) (.inl (by decide)) (pg_name (i := 2) sc_moved_in.nd rfl (.inl rfl)) hk))))
    (dss_one (ds_ret (de_name (pv 2) hk)))))
theorem der_moved (hx : Fx K w mg) (G_require_row : GF P0 w K mg base T 4 3 "require_row" P_require_row []) (G_require_row_d : GF P0 w K mg base T 4 3 "require_row" P_require_row D_require_row) (G_require_word : GF P0 w K mg base T 4 2 "require_word" P_require_word []) (G_moved_in : GF P0 w K mg base T 3 2 "moved_in" P_moved_in []) (G_require_passable : GF P0 w K mg base T 2 1 "require_passable" P_require_passable []) {cdv : Value} {A : Around} {outer : List Env} {s : Shared} {H : Hp} {E : XK} {B : Bg} (hk : B.K = K) (hT : B.T = T) (hM : B.M = none) (hr : Room 4 (A.deeper (envOfC "moved" (defScope s_moved) s.heap.objs.size f cdv))) :
    DSs (cxOf CX0 P0 w K mg base N_moved "moved" (defScope s_moved) f cdv A outer s H E).nox B (defBody s_moved) t_moved := by
  have hu64 := room64 hr
  have hu65 := room65 hr
  exact (dss_cons (ds_expr (de_gf G_require_row_d hT hr (by decide) (by rfl) (da_cons (de_name (pv 0) hk) (da_nil hk))))
    (dss_cons (ds_expr (de_gf G_require_word hT hr (by decide) (by rfl) (da_cons (de_op od_sub (de_callB cd_len (by rfl) hx.z_len PySem.boot_len (da_cons (de_name (pv 0) hk) (da_nil hk))) (de_int hk)) (da_cons (de_name (pv 1) hk) (da_nil hk)))))
    (dss_cons (ds_asg (de_gf G_moved_in hT hr (by decide) (by rfl) (da_cons (de_name (pv 0) hk) (da_cons (de_name (pv 1) hk) (da_nil hk)))) (dg_name (i := 2) (.inl (by decide)) (pg_name (i := 2) sc_moved.nd rfl (.inl rfl)) hk))
    (dss_cons (ds_expr (de_gf G_require_passable hT hr (by decide) (by rfl) (da_cons (de_tup (da_cons (de_name (pv 2) hk) (da_nil hk))) (da_nil hk))))
    (dss_one (ds_ret (de_name (pv 2) hk)))))))
theorem der_require_many (hx : Fx K w mg) (G_require_row : GF P0 w K mg base T 4 3 "require_row" P_require_row []) {cdv : Value} {A : Around} {outer : List Env} {s : Shared} {H : Hp} {E : XK} {B : Bg} (hk : B.K = K) (hT : B.T = T) (hM : B.M = none) (hr : Room 4 (A.deeper (envOfC "require_many" (defScope s_require_many) s.heap.objs.size f cdv))) :
    DSs (cxOf CX0 P0 w K mg base N_require_many "require_many" (defScope s_require_many) f cdv A outer s H E).nox B (defBody s_require_many) t_require_many := by
  have hu64 := room64 hr
  have hu65 := room65 hr
  exact (dss_one (ds_expr (de_gf G_require_row hT hr (by decide) (by rfl) (da_cons (de_name (pv 0) hk) (da_cons (de_gint (by rfl) hx.c_FEWEST (hk := hk)) (da_cons (de_gint (by rfl) hx.c_MOST_BOUNDED (hk := hk)) (da_nil hk)))))))
theorem der_greatest_three (hx : Fx K w mg) (G_points_of : GF P0 w K mg base T 1 1 "points_of" P_points_of []) {cdv : Value} {A : Around} {outer : List Env} {s : Shared} {H : Hp} {E : XK} {B : Bg} (hk : B.K = K) (hT : B.T = T) (hM : B.M = none) (hC : TabAt mg base T cdv (some ((("greatest_three" : Str) ++ ".<locals>.") ++ "<lambda>"))) (hr : Room 3 (A.deeper (envOfC "greatest_three" (defScope s_greatest_three) s.heap.objs.size f cdv))) :
    DSs (cxOf CX0 P0 w K mg base N_greatest_three "greatest_three" (defScope s_greatest_three) f cdv A outer s H E).nox B (defBody s_greatest_three) t_greatest_three := by
  have hu64 := room64 hr
  have hu65 := room65 hr
  exact (dss_cons (ds_asg (de_sortL (k := 0) true hC hT (by rfl) hx.z_sorted hr (dq_rng1 (by rfl) hx.z_range (de_gf G_points_of hT hr (by decide) (by rfl) (da_cons (de_name (pv 0) hk) (da_nil hk)))) (by show lamS1B (defScope s_greatest_three) _ _ = true; decide +kernel) (show ("index" : Str) ∉ N_greatest_three by decide) (fun _ _ _ _ _ _ hr => by
      have hu64 := room64 hr
      have hu65 := room65 hr
      exact (de_tup (da_cons (de_neg (de_ix (de_name (pv 0) hk) (de_op od_add (de_int hk) (de_name (pv 2) hk)))) (da_cons (de_name (pv 2) hk) (da_nil hk)))))) (dg_name (i := 1) (.inl (by decide)) (pg_name (i := 1) sc_greatest_three.nd rfl (.inl rfl)) hk))
    (dss_one (ds_ret (de_callTy cd_tuple (by rfl) hx.z_tuple PyProof.Rows.boot_tuple (da_cons (de_callB cd_sorted (by rfl) hx.z_sorted PyProof.Rows.boot_sorted (da_cons (de_slice (de_name (pv 1) hk) do_none (do_some (de_int hk))) (da_nil hk))) (da_nil hk))))))
theorem der_is_triple_above (hx : Fx K w mg)  {cdv : Value} {A : Around} {outer : List Env} {s : Shared} {H : Hp} {E : XK} {B : Bg} (hk : B.K = K) (hT : B.T = T) (hM : B.M = none) (hr : Room 0 (A.deeper (envOfC "is_triple_above" (defScope s_is_triple_above) s.heap.objs.size f cdv))) :
    DSs (cxOf CX0 P0 w K mg base N_is_triple_above "is_triple_above" (defScope s_is_triple_above) f cdv A outer s H E).nox B (defBody s_is_triple_above) t_is_triple_above := by
  have hu64 := room64 hr
  have hu65 := room65 hr
  exact (dss_one (ds_ret (de_cmp od_gt (de_callB (cd_sum rfl) (by rfl) hx.z_sum PyProof.Rows.boot_sum (da_cons (de_lc (own := [("index", 2)]) (.inl (by decide)) (by decide) rfl sc_is_triple_above.nd (di_val (de_name (pv 1) hk)) (blkOk_by (own := [("index", 2)]) (N := N_is_triple_above) (sc := defScope s_is_triple_above) (by decide +kernel)) (fun _ _ _ _ _ => (dg_name (i := 2) (.inl (by decide)) (pg_name (i := 2) sc_is_triple_above.nd rfl (.inl rfl)) hk)) (fun _ _ _ _ _ => dts_nil) (fun _ _ _ _ _ => (de_ix (de_name (pv 0) hk) (de_op od_add (de_int hk) (de_name (pv 2) hk))))) (da_nil hk))) (de_ix (de_name (pv 0) hk) (de_int hk)))))
theorem der_clipped (hx : Fx K w mg)  {cdv : Value} {A : Around} {outer : List Env} {s : Shared} {H : Hp} {E : XK} {B : Bg} (hk : B.K = K) (hT : B.T = T) (hM : B.M = none) (hr : Room 0 (A.deeper (envOfC "clipped" (defScope s_clipped) s.heap.objs.size f cdv))) :
    DSs (cxOf CX0 P0 w K mg base N_clipped "clipped" (defScope s_clipped) f cdv A outer s H E).nox B (defBody s_clipped) t_clipped := by
  have hu64 := room64 hr
  have hu65 := room65 hr
  exact (dss_one (ds_ret (de_tup (da_cons (de_ix (de_name (pv 0) hk) (de_int hk)) (da_star (de_lc (own := [("number", 1)]) (.inl (by decide)) (by decide) rfl sc_clipped.nd (di_val (de_slice (de_name (pv 0) hk) (do_some (de_int hk)) do_none)) (blkOk_by (own := [("number", 1)]) (N := N_clipped) (sc := defScope s_clipped) (by decide +kernel)) (fun _ _ _ _ _ => (dg_name (i := 1) (.inl (by decide)) (pg_name (i := 1) sc_clipped.nd rfl (.inl rfl)) hk)) (fun _ _ _ _ _ => dts_nil) (fun _ _ _ _ _ => (de_callB (cd_max2 rfl) (by rfl) hx.z_max PyProof.Rows.boot_max (da_cons (de_int hk) (da_cons (de_name (pv 1) hk) (da_nil hk)))))) (da_nil hk))))))
theorem der_standard_end (hx : Fx K w mg) (G_clipped : GF P0 w K mg base T 1 1 "clipped" P_clipped []) (G_greatest_three : GF P0 w K mg base T 4 1 "greatest_three" P_greatest_three []) (G_is_triple_above : GF P0 w K mg base T 1 2 "is_triple_above" P_is_triple_above []) (G_turn_in : GF P0 w K mg base T 1 4 "turn_in" P_turn_in []) {cdv : Value} {A : Around} {outer : List Env} {s : Shared} {H : Hp} {E : XK} {B : Bg} (hk : B.K = K) (hT : B.T = T) (hM : B.M = none) (hr : Room 4 (A.deeper (envOfC "standard_end" (defScope s_standard_end) s.heap.objs.size f cdv))) :
    DSs (cxOf CX0 P0 w K mg base N_standard_end "standard_end" (defScope s_standard_end) f cdv A outer s H E).nox B (defBody s_standard_end) t_standard_end := by
  have hu64 := room64 hr
  have hu65 := room65 hr
  exact (dss_cons (ds_asg (de_int hk) (dg_name (i := 1) (.inl (by decide)) (pg_name (i := 1) sc_standard_end.nd rfl (.inl rfl)) hk))
    (dss_one (ds_while PassesOwn.never (dt_truth (de_bl hk))
    (dss_cons (ds_asg (de_gf G_clipped hT hr (by decide) (by rfl) (da_cons (de_name (pv 0) hk) (da_nil hk))) (dg_name (i := 0) (.inr hM) (pg_name (i := 0) sc_standard_end.nd rfl (.inl rfl)) hk))
    (dss_cons (ds_if (dt_cmp od_lt (de_ix (de_name (pv 0) hk) (de_int hk)) (de_int hk)) (dss_one (ds_ret (de_non hk))) (dss_nil hk))
    (dss_cons (ds_asg (de_gf G_greatest_three hT hr (by decide) (by rfl) (da_cons (de_name (pv 0) hk) (da_nil hk))) (dg_name (i := 2) (.inl (by decide)) (pg_name (i := 2) sc_standard_end.nd rfl (.inl rfl)) hk))
    (dss_cons (ds_if (dt_not (dt_truth (de_gf G_is_triple_above hT hr (by decide) (by rfl) (da_cons (de_name (pv 0) hk) (da_cons (de_name (pv 2) hk) (da_nil hk)))))) (dss_one (ds_ret (de_tup (da_cons (de_ix (de_name (pv 0) hk) (de_int hk)) (da_star (de_sortedRev (by rfl) hx.z_sorted (da_cons (de_slice (de_name (pv 0) hk) (do_some (de_int hk)) do_none) (da_nil hk))) (da_nil hk)))))) (dss_nil hk))
    (dss_cons (ds_if (dt_cmp (od_eq hu64) (de_name (pv 1) hk) (de_gint (by rfl) hx.c_MOST_STEPS (hk := hk))) (dss_never hk) (dss_nil hk))
    (dss_cons (ds_aug (i := 1) (.inl (by decide)) sc_standard_end.nd rfl (.inl rfl) (de_int hk) ip_add)
    (dss_one (ds_asg (de_gf G_turn_in hT hr (by decide) (by rfl) (da_cons (de_name (pv 0) hk) (da_cons (de_ix (de_name (pv 2) hk) (de_int hk)) (da_cons (de_ix (de_name (pv 2) hk) (de_int hk)) (da_cons (de_ix (de_name (pv 2) hk) (de_int hk)) (da_nil hk)))))) (dg_name (i := 0) (.inr hM) (pg_name (i := 0) sc_standard_end.nd rfl (.inl rfl)) hk))))))))))))
theorem der_lower_of (hx : Fx K w mg) (G_counting_in : GF P0 w K mg base T 3 1 "counting_in" P_counting_in []) {cdv : Value} {A : Around} {outer : List Env} {s : Shared} {H : Hp} {E : XK} {B : Bg} (hk : B.K = K) (hT : B.T = T) (hM : B.M = none) (hr : Room 3 (A.deeper (envOfC "lower_of" (defScope s_lower_of) s.heap.objs.size f cdv))) :
    DSs (cxOf CX0 P0 w K mg base N_lower_of "lower_of" (defScope s_lower_of) f cdv A outer s H E).nox B (defBody s_lower_of) t_lower_of := by
  have hu64 := room64 hr
  have hu65 := room65 hr
  exact (dss_one (ds_ret (de_if (dt_cmp od_isNot (de_name (pv 0) hk) (de_non hk)) (de_callB (cd_max2 rfl) (by rfl) hx.z_max PyProof.Rows.boot_max (da_cons (de_int hk) (da_cons (de_gf G_counting_in hT hr (by decide) (by rfl) (da_cons (de_name (pv 0) hk) (da_nil hk))) (da_nil hk)))) (de_int hk))))
theorem der_is_barred_in (hx : Fx K w mg) (G_points_of : GF P0 w K mg base T 1 1 "points_of" P_points_of []) {cdv : Value} {A : Around} {outer : List Env} {s : Shared} {H : Hp} {E : XK} {B : Bg} (hk : B.K = K) (hT : B.T = T) (hM : B.M = none) (hr : Room 1 (A.deeper (envOfC "is_barred_in" (defScope s_is_barred_in) s.heap.objs.size f cdv))) :
    DSs (cxOf CX0 P0 w K mg base N_is_barred_in "is_barred_in" (defScope s_is_barred_in) f cdv A outer s H E).nox B (defBody s_is_barred_in) t_is_barred_in := by
  have hu64 := room64 hr
  have hu65 := room65 hr
  exact (dss_cons (ds_if (DW.dt (dw_or (dt_cmp (od_ne hu64) (de_gf G_points_of hT hr (by decide) (by rfl) (da_cons (de_name (pv 0) hk) (da_nil hk))) (de_op od_mulA (de_gint (by rfl) hx.c_SQUARE_DEGREE (hk := hk)) (de_gint (by rfl) hx.c_SQUARE_DEGREE (hk := hk)))) (dw_or1 (dt_cmp od_gt (de_op od_mulA (de_gint (by rfl) hx.c_SQUARE_DEGREE (hk := hk)) (de_ix (de_name (pv 0) hk) (de_int hk))) (de_callB (cd_sum rfl) (by rfl) hx.z_sum PyProof.Rows.boot_sum (da_cons (de_slice (de_name (pv 0) hk) (do_some (de_int hk)) do_none) (da_nil hk))))))) (dss_one (ds_ret (de_bl hk))) (dss_nil hk))
    (dss_one (ds_ret (de_cmp od_gt (de_callB (cd_maxS rfl) (by rfl) hx.z_max PyProof.Rows.boot_max (da_cons (de_name (pv 0) hk) (da_nil hk))) (de_int hk)))))
theorem der_upper_of (hx : Fx K w mg) (G_is_barred_in : GF P0 w K mg base T 2 1 "is_barred_in" P_is_barred_in []) {cdv : Value} {A : Around} {outer : List Env} {s : Shared} {H : Hp} {E : XK} {B : Bg} (hk : B.K = K) (hT : B.T = T) (hM : B.M = none) (hr : Room 2 (A.deeper (envOfC "upper_of" (defScope s_upper_of) s.heap.objs.size f cdv))) :
    DSs (cxOf CX0 P0 w K mg base N_upper_of "upper_of" (defScope s_upper_of) f cdv A outer s H E).nox B (defBody s_upper_of) t_upper_of := by
  have hu64 := room64 hr
  have hu65 := room65 hr
  exact (dss_cons (ds_if (DW.dt (dw_or (dt_cmp od_is (de_name (pv 3) hk) (de_non hk)) (dw_or1 (dt_truth (de_gf G_is_barred_in hT hr (by decide) (by rfl) (da_cons (de_name (pv 2) hk) (da_nil hk))))))) (dss_one (ds_ret (de_int hk))) (dss_nil hk))
    (dss_never hk))
theorem der_walk_to_point (hx : Fx K w mg) (G_greatest_three : GF P0 w K mg base T 4 1 "greatest_three" P_greatest_three []) (G_is_triple_above : GF P0 w K mg base T 1 2 "is_triple_above" P_is_triple_above []) (G_turn_in : GF P0 w K mg base T 1 4 "turn_in" P_turn_in []) {cdv : Value} {A : Around} {outer : List Env} {s : Shared} {H : Hp} {E : XK} {B : Bg} (hk : B.K = K) (hT : B.T = T) (hM : B.M = none) (hr : Room 4 (A.deeper (envOfC "walk_to_point" (defScope s_walk_to_point) s.heap.objs.size f cdv))) :
    DSs (cxOf CX0 P0 w K mg base N_walk_to_point "walk_to_point" (defScope s_walk_to_point) f cdv A outer s H E).nox B (defBody s_walk_to_point) t_walk_to_point := by
  have hu64 := room64 hr
  have hu65 := room65 hr
  exact (dss_cons (ds_asg (de_lst (da_nil hk)) (dg_name (i := 1) (.inl (by decide)) (pg_name (i := 1) sc_walk_to_point.nd rfl (.inl rfl)) hk))
    (dss_cons (ds_while PassesOwn.never (DW.dt (dw_and (dt_cmp od_ge (de_callB (cd_minS rfl) (by rfl) hx.z_min PyProof.Rows.boot_min (da_cons (de_slice (de_name (pv 0) hk) (do_some (de_int hk)) do_none) (da_nil hk))) (de_int hk)) (dw_and1 (dt_cmp od_gt (de_ix (de_name (pv 0) hk) (de_int hk)) (de_int hk)))))
    (dss_cons (ds_asg (de_gf G_greatest_three hT hr (by decide) (by rfl) (da_cons (de_name (pv 0) hk) (da_nil hk))) (dg_name (i := 2) (.inl (by decide)) (pg_name (i := 2) sc_walk_to_point.nd rfl (.inl rfl)) hk))
    (dss_cons (ds_if (dt_not (dt_truth (de_gf G_is_triple_above hT hr (by decide) (by rfl) (da_cons (de_name (pv 0) hk) (da_cons (de_name (pv 2) hk) (da_nil hk)))))) (dss_one (ds_break hk)) (dss_nil hk))
    (dss_cons (ds_if (dt_cmp (od_eq hu64) (de_callB cd_len (by rfl) hx.z_len PySem.boot_len (da_cons (de_name (pv 1) hk) (da_nil hk))) (de_gint (by rfl) hx.c_MOST_STEPS (hk := hk))) (dss_never hk) (dss_nil hk))
    (dss_cons (ds_expr (de_append (pv 1) (da_cons (de_tup (da_cons (de_str hk) (da_star (de_name (pv 2) hk) (da_nil hk)))) (da_nil hk))))
    (dss_one (ds_asg (de_gf G_turn_in hT hr (by decide) (by rfl) (da_cons (de_name (pv 0) hk) (da_cons (de_ix (de_name (pv 2) hk) (de_int hk)) (da_cons (de_ix (de_name (pv 2) hk) (de_int hk)) (da_cons (de_ix (de_name (pv 2) hk) (de_int hk)) (da_nil hk)))))) (dg_name (i := 0) (.inr hM) (pg_name (i := 0) sc_walk_to_point.nd rfl (.inl rfl)) hk))))))))
    (dss_one (ds_ret (de_tup (da_cons (de_callTy cd_tuple (by rfl) hx.z_tuple PyProof.Rows.boot_tuple (da_cons (de_name (pv 1) hk) (da_nil hk))) (da_cons (de_name (pv 0) hk) (da_nil hk))))))))
theorem der_is_row_of_point (hx : Fx K w mg)  {cdv : Value} {A : Around} {outer : List Env} {s : Shared} {H : Hp} {E : XK} {B : Bg} (hk : B.K = K) (hT : B.T = T) (hM : B.M = none) (hr : Room 0 (A.deeper (envOfC "is_row_of_point" (defScope s_is_row_of_point) s.heap.objs.size f cdv))) :
    DSs (cxOf CX0 P0 w K mg base N_is_row_of_point "is_row_of_point" (defScope s_is_row_of_point) f cdv A outer s H E).nox B (defBody s_is_row_of_point) t_is_row_of_point := by
  have hu64 := room64 hr
  have hu65 := room65 hr
  exact (dss_one (ds_ret (de_and (de_cmp (od_eq hu64) (de_ix (de_name (pv 0) hk) (de_int hk)) (de_int hk)) (de_and (de_cmp (od_eq hu64) (de_callB (cd_minS rfl) (by rfl) hx.z_min PyProof.Rows.boot_min (da_cons (de_name (pv 0) hk) (da_nil hk))) (de_neg (de_int hk))) (de_and (de_cmp (od_eq hu64) (de_callB (cd_sum rfl) (by rfl) hx.z_sum PyProof.Rows.boot_sum (da_cons (de_name (pv 0) hk) (da_nil hk))) (de_neg (de_int hk))) (de_one (de_cmp (od_eq hu64) (de_callB (cd_maxS rfl) (by rfl) hx.z_max PyProof.Rows.boot_max (da_cons (de_name (pv 0) hk) (da_nil hk))) (de_int hk))))))))
theorem der_require_bounded (hx : Fx K w mg) (G_require_points : GF P0 w K mg base T 5 2 "require_points" P_require_points []) (G_is_row_in : GF P0 w K mg base T 3 1 "is_row_in" P_is_row_in []) (G_points_of : GF P0 w K mg base T 1 1 "points_of" P_points_of []) {cdv : Value} {A : Around} {outer : List Env} {s : Shared} {H : Hp} {E : XK} {B : Bg} (hk : B.K = K) (hT : B.T = T) (hM : B.M = none) (hr : Room 5 (A.deeper (envOfC "require_bounded" (defScope s_require_bounded) s.heap.objs.size f cdv))) :
    DSs (cxOf CX0 P0 w K mg base N_require_bounded "require_bounded" (defScope s_require_bounded) f cdv A outer s H E).nox B (defBody s_require_bounded) t_require_bounded := by
  have hu64 := room64 hr
  have hu65 := room65 hr
  exact (dss_cons (ds_expr (de_gf G_require_points hT hr (by decide) (by rfl) (da_cons (de_name (pv 0) hk) (da_cons (de_name (pv 1) hk) (da_nil hk)))))
    (dss_one (ds_if (DW.dt (dw_or (dt_not (dt_truth (de_gf G_is_row_in hT hr (by decide) (by rfl) (da_cons (de_name (pv 2) hk) (da_nil hk))))) (dw_or (dt_not (dt_chain od_le od_le (de_gint (by rfl) hx.c_FEWEST (hk := hk)) (de_gf G_points_of hT hr (by decide) (by rfl) (da_cons (de_name (pv 2) hk) (da_nil hk))) (de_gint (by rfl) hx.c_MOST_BOUNDED (hk := hk)))) (dw_or1 (dt_cmp (od_ne hu64) (de_gf G_points_of hT hr (by decide) (by rfl) (da_cons (de_name (pv 2) hk) (da_nil hk))) (de_callB cd_len (by rfl) hx.z_len PySem.boot_len (da_cons (de_name (pv 1) hk) (da_nil hk)))))))) (dss_never hk) (dss_nil hk))))
theorem der_is_square_barred (hx : Fx K w mg) (G_require_many : GF P0 w K mg base T 5 1 "require_many" P_require_many []) (G_is_barred_in : GF P0 w K mg base T 2 1 "is_barred_in" P_is_barred_in []) {cdv : Value} {A : Around} {outer : List Env} {s : Shared} {H : Hp} {E : XK} {B : Bg} (hk : B.K = K) (hT : B.T = T) (hM : B.M = none) (hr : Room 5 (A.deeper (envOfC "is_square_barred" (defScope s_is_square_barred) s.heap.objs.size f cdv))) :
    DSs (cxOf CX0 P0 w K mg base N_is_square_barred "is_square_barred" (defScope s_is_square_barred) f cdv A outer s H E).nox B (defBody s_is_square_barred) t_is_square_barred := by
  have hu64 := room64 hr
  have hu65 := room65 hr
  exact (dss_cons (ds_expr (de_gf G_require_many hT hr (by decide) (by rfl) (da_cons (de_name (pv 0) hk) (da_nil hk))))
    (dss_one (ds_ret (de_gf G_is_barred_in hT hr (by decide) (by rfl) (da_cons (de_name (pv 0) hk) (da_nil hk))))))
theorem der_row_above (hx : Fx K w mg) (G_require_bounded : GF P0 w K mg base T 6 3 "require_bounded" P_require_bounded []) (G_upper_of : GF P0 w K mg base T 3 4 "upper_of" P_upper_of []) (G_standard_end : GF P0 w K mg base T 5 1 "standard_end" P_standard_end []) {cdv : Value} {A : Around} {outer : List Env} {s : Shared} {H : Hp} {E : XK} {B : Bg} (hk : B.K = K) (hT : B.T = T) (hM : B.M = none) (hr : Room 6 (A.deeper (envOfC "row_above" (defScope s_row_above) s.heap.objs.size f cdv))) :
    DSs (cxOf CX0 P0 w K mg base N_row_above "row_above" (defScope s_row_above) f cdv A outer s H E).nox B (defBody s_row_above) t_row_above := by
  have hu64 := room64 hr
  have hu65 := room65 hr
  exact (dss_cons (ds_expr (de_gf G_require_bounded hT hr (by decide) (by rfl) (da_cons (de_name (pv 0) hk) (da_cons (de_name (pv 1) hk) (da_cons (de_name (pv 2) hk) (da_nil hk))))))
    (dss_one (ds_ret (de_gf G_upper_of hT hr (by decide) (by rfl) (da_cons (de_name (pv 0) hk) (da_cons (de_name (pv 1) hk) (da_cons (de_name (pv 2) hk) (da_cons (de_gf G_standard_end hT hr (by decide) (by rfl) (da_cons (de_name (pv 2) hk) (da_nil hk))) (da_nil hk)))))))))
theorem der_bounds (hx : Fx K w mg) (G_require_bounded : GF P0 w K mg base T 6 3 "require_bounded" P_require_bounded []) (G_standard_end : GF P0 w K mg base T 5 1 "standard_end" P_standard_end []) (G_upper_of : GF P0 w K mg base T 3 4 "upper_of" P_upper_of []) (G_lower_of : GF P0 w K mg base T 4 1 "lower_of" P_lower_of []) {cdv : Value} {A : Around} {outer : List Env} {s : Shared} {H : Hp} {E : XK} {B : Bg} (hk : B.K = K) (hT : B.T = T) (hM : B.M = none) (hr : Room 6 (A.deeper (envOfC "bounds" (defScope s_bounds) s.heap.objs.size f cdv))) :
    DSs (cxOf CX0 P0 w K mg base N_bounds "bounds" (defScope s_bounds) f cdv A outer s H E).nox B (defBody s_bounds) t_bounds := by
  have hu64 := room64 hr
  have hu65 := room65 hr
  exact (dss_cons (ds_expr (de_gf G_require_bounded hT hr (by decide) (by rfl) (da_cons (de_name (pv 0) hk) (da_cons (de_name (pv 1) hk) (da_cons (de_name (pv 2) hk) (da_nil hk))))))
    (dss_cons (ds_asg (de_gf G_standard_end hT hr (by decide) (by rfl) (da_cons (de_name (pv 2) hk) (da_nil hk))) (dg_name (i := 3) (.inl (by decide)) (pg_name (i := 3) sc_bounds.nd rfl (.inl rfl)) hk))
    (dss_cons (ds_par (i := 4) (j := 5) (.inl (by decide)) rfl sc_bounds.nd rfl rfl (by decide) rfl rfl (da_cons (de_gf G_lower_of hT hr (by decide) (by rfl) (da_cons (de_name (pv 3) hk) (da_nil hk))) (da_cons (de_gf G_upper_of hT hr (by decide) (by rfl) (da_cons (de_name (pv 0) hk) (da_cons (de_name (pv 1) hk) (da_cons (de_name (pv 2) hk) (da_cons (de_name (pv 3) hk) (da_nil hk)))))) (da_nil hk))) (by rfl))
    (dss_one (ds_ret (de_if (dt_cmp (od_eq hu64) (de_name (pv 4) hk) (de_name (pv 5) hk)) (de_tup (da_cons (de_str hk) (da_cons (de_name (pv 4) hk) (da_nil hk)))) (de_tup (da_cons (de_str hk) (da_cons (de_name (pv 4) hk) (da_cons (de_name (pv 5) hk) (da_nil hk)))))))))))
theorem der_is_led_to_point (hx : Fx K w mg) (G_require_many : GF P0 w K mg base T 5 1 "require_many" P_require_many []) (G_is_row_of_point : GF P0 w K mg base T 1 1 "is_row_of_point" P_is_row_of_point []) (G_walk_to_point : GF P0 w K mg base T 5 1 "walk_to_point" P_walk_to_point []) {cdv : Value} {A : Around} {outer : List Env} {s : Shared} {H : Hp} {E : XK} {B : Bg} (hk : B.K = K) (hT : B.T = T) (hM : B.M = none) (hr : Room 5 (A.deeper (envOfC "is_led_to_point" (defScope s_is_led_to_point) s.heap.objs.size f cdv))) :
    DSs (cxOf CX0 P0 w K mg base N_is_led_to_point "is_led_to_point" (defScope s_is_led_to_point) f cdv A outer s H E).nox B (defBody s_is_led_to_point) t_is_led_to_point := by
  have hu64 := room64 hr
  have hu65 := room65 hr
  exact (dss_cons (ds_expr (de_gf G_require_many hT hr (by decide) (by rfl) (da_cons (de_name (pv 0) hk) (da_nil hk))))
    (dss_one (ds_ret (de_gf G_is_row_of_point hT hr (by decide) (by rfl) (da_cons (de_ix (de_gf G_walk_to_point hT hr (by decide) (by rfl) (da_cons (de_name (pv 0) hk) (da_nil hk))) (de_int hk)) (da_nil hk))))))
theorem der_word_to_point (hx : Fx K w mg) (G_require_many : GF P0 w K mg base T 5 1 "require_many" P_require_many []) (G_walk_to_point : GF P0 w K mg base T 5 1 "walk_to_point" P_walk_to_point []) (G_is_row_of_point : GF P0 w K mg base T 1 1 "is_row_of_point" P_is_row_of_point []) {cdv : Value} {A : Around} {outer : List Env} {s : Shared} {H : Hp} {E : XK} {B : Bg} (hk : B.K = K) (hT : B.T = T) (hM : B.M = none) (hr : Room 5 (A.deeper (envOfC "word_to_point" (defScope s_word_to_point) s.heap.objs.size f cdv))) :
    DSs (cxOf CX0 P0 w K mg base N_word_to_point "word_to_point" (defScope s_word_to_point) f cdv A outer s H E).nox B (defBody s_word_to_point) t_word_to_point := by
  have hu64 := room64 hr
  have hu65 := room65 hr
  exact (dss_cons (ds_expr (de_gf G_require_many hT hr (by decide) (by rfl) (da_cons (de_name (pv 0) hk) (da_nil hk))))
    (dss_cons (ds_asg (de_gf G_walk_to_point hT hr (by decide) (by rfl) (da_cons (de_name (pv 0) hk) (da_nil hk))) (dg_tup rfl (dgs_cons (dg_name (i := 1) (.inl (by decide)) (pg_name (i := 1) sc_word_to_point.nd rfl (.inl rfl)) hk) (dgs_cons (dg_name (i := 2) (.inl (by decide)) (pg_name (i := 2) sc_word_to_point.nd rfl (.inl rfl)) hk) (dgs_nil hk)))))
    (dss_one (ds_ret (de_if (dt_truth (de_gf G_is_row_of_point hT hr (by decide) (by rfl) (da_cons (de_name (pv 2) hk) (da_nil hk)))) (de_name (pv 1) hk) (de_non hk))))))
theorem der__law_dice (hx : Fx K w mg)  {cdv : Value} {A : Around} {outer : List Env} {s : Shared} {H : Hp} {E : XK} {B : Bg} (hk : B.K = K) (hT : B.T = T) (hM : B.M = none) (hr : Room 0 (A.deeper (envOfC "_law_dice" (defScope s__law_dice) s.heap.objs.size f cdv))) :
    DSs (cxOf CX0 P0 w K mg base N__law_dice "_law_dice" (defScope s__law_dice) f cdv A outer s H E).nox B (defBody s__law_dice) t__law_dice := by
  have hu64 := room64 hr
  have hu65 := room65 hr
  exact (dss_cons (ds_asg (de_op od_add (de_op od_mulA (de_int hk) (de_name (pv 1) hk)) (de_int hk)) (dg_name (i := 2) (.inl (by decide)) (pg_name (i := 2) sc__law_dice.nd rfl (.inl rfl)) hk))
    (dss_cons (ds_if (dt_cmp od_lt (de_name (pv 1) hk) (de_callB cd_len (by rfl) hx.z_len PySem.boot_len (da_cons (de_name (pv 0) hk) (da_nil hk)))) (dss_one (ds_asg (de_ix (de_name (pv 0) hk) (de_name (pv 1) hk)) (dg_name (i := 2) (.inl (by decide)) (pg_name (i := 2) sc__law_dice.nd rfl (.inl rfl)) hk))) (dss_nil hk))
    (dss_cons (ds_asg (de_op od_mod (de_callTy cd_int (by rfl) hx.z_int PyProof.Rows.boot_int (da_cons (de_callB cd_abs (by rfl) hx.z_abs PyProof.Rows.boot_abs (da_cons (de_name (pv 2) hk) (da_nil hk))) (da_nil hk))) (de_op od_pow (de_op od_pow (de_int hk) (de_int hk)) (de_int hk))) (dg_name (i := 3) (.inl (by decide)) (pg_name (i := 3) sc__law_dice.nd rfl (.inl rfl)) hk))
    (dss_cons (ds_asg (de_op od_fdiv (de_name (pv 3) hk) (de_op od_pow (de_int hk) (de_int hk))) (dg_name (i := 4) (.inl (by decide)) (pg_name (i := 4) sc__law_dice.nd rfl (.inl rfl)) hk))
    (dss_cons (ds_asg (de_op od_add (de_op od_add (de_op od_add (de_op od_mulA (de_op od_mod (de_name (pv 3) hk) (de_int hk)) (de_int hk)) (de_op od_mulA (de_int hk) (de_name (pv 1) hk))) (de_op od_mulA (de_int hk) (de_callTy cd_int (by rfl) hx.z_int PyProof.Rows.boot_int (da_cons (de_cmp od_lt (de_name (pv 2) hk) (de_int hk)) (da_nil hk))))) (de_int hk)) (dg_name (i := 5) (.inl (by decide)) (pg_name (i := 5) sc__law_dice.nd rfl (.inl rfl)) hk))
    (dss_one (ds_ret (de_lst (da_cons (de_name (pv 4) hk) (da_cons (de_op od_mod (de_name (pv 5) hk) (de_int hk)) (da_cons (de_int hk) (da_nil hk))))))))))))
theorem der__law_roll (hx : Fx K w mg)  {cdv : Value} {A : Around} {outer : List Env} {s : Shared} {H : Hp} {E : XK} {B : Bg} (hk : B.K = K) (hT : B.T = T) (hr : Room 0 (A.deeper (envOfC "_law_roll" (defScope s__law_roll) s.heap.objs.size f cdv))) :
    DSs (cxOf CX0 P0 w K mg base N__law_roll "_law_roll" (defScope s__law_roll) f cdv A outer s H E).nox B (defBody s__law_roll) t__law_roll := by
  have hu64 := room64 hr
  have hu65 := room65 hr
  exact (dss_cons (ds_asg (de_callTy cd_int (by rfl) hx.z_int PyProof.Rows.boot_int (da_cons (de_name (pv 1) hk) (da_nil hk))) (dg_name (i := 2) (.inl (by decide)) (pg_name (i := 2) sc__law_roll.nd rfl (.inl rfl)) hk))
    (dss_cons (ds_if (dt_cmp od_gt (de_ix (de_name (pv 0) hk) (de_int hk)) (de_int hk)) (dss_cons (ds_asg (de_op od_mod (de_ix (de_name (pv 0) hk) (de_int hk)) (de_name (pv 2) hk)) (dg_name (i := 3) (.inl (by decide)) (pg_name (i := 3) sc__law_roll.nd rfl (.inl rfl)) hk))
    (dss_cons (ds_asg (de_op od_fdiv (de_ix (de_name (pv 0) hk) (de_int hk)) (de_name (pv 2) hk)) (dg_ix (pv 0) (de_int hk)))
    (dss_one (ds_ret (de_callTy cd_int (by rfl) hx.z_int PyProof.Rows.boot_int (da_cons (de_name (pv 3) hk) (da_nil hk))))))) (dss_nil hk))
    (dss_cons (ds_asg (de_op od_add (de_ix (de_name (pv 0) hk) (de_int hk)) (de_int hk)) (dg_ix (pv 0) (de_int hk)))
    (dss_cons (ds_asg (de_op od_mod (de_op od_add (de_ix (de_name (pv 0) hk) (de_int hk)) (de_op od_mulA (de_int hk) (de_ix (de_name (pv 0) hk) (de_int hk)))) (de_int hk)) (dg_name (i := 4) (.inl (by decide)) (pg_name (i := 4) sc__law_roll.nd rfl (.inl rfl)) hk))
    (dss_cons (ds_asg (de_op od_add (de_op od_mulA (de_op od_mod (de_op od_mulA (de_name (pv 4) hk) (de_name (pv 4) hk)) (de_int hk)) (de_name (pv 4) hk)) (de_op od_mulA (de_int hk) (de_ix (de_name (pv 0) hk) (de_int hk)))) (dg_name (i := 5) (.inl (by decide)) (pg_name (i := 5) sc__law_roll.nd rfl (.inl rfl)) hk))
    (dss_cons (ds_asg (de_op od_mod (de_name (pv 5) hk) (de_int hk)) (dg_name (i := 5) (.inl (by decide)) (pg_name (i := 5) sc__law_roll.nd rfl (.inl rfl)) hk))
    (dss_one (ds_ret (de_callTy cd_int (by rfl) hx.z_int PyProof.Rows.boot_int (da_cons (de_op od_mod (de_op od_fdiv (de_name (pv 5) hk) (de_int hk)) (de_name (pv 2) hk)) (da_nil hk)))))))))))
theorem der__law_one_of (hx : Fx K w mg) (G__law_roll : GM P0 w K mg base T 1 2 "_law_roll" P__law_roll) {cdv : Value} {A : Around} {outer : List Env} {s : Shared} {H : Hp} {E : XK} {B : Bg} (hk : B.K = K) (hT : B.T = T) (hr : Room 1 (A.deeper (envOfC "_law_one_of" (defScope s__law_one_of) s.heap.objs.size f cdv))) :
    DSs (cxOf CX0 P0 w K mg base N__law_one_of "_law_one_of" (defScope s__law_one_of) f cdv A outer s H E).nox B (defBody s__law_one_of) t__law_one_of := by
  have hu64 := room64 hr
  have hu65 := room65 hr
  exact (dss_one (ds_ret (de_ix (de_name (pv 1) hk) (de_gm G__law_roll hT hr (by decide) (by rfl) (da_cons (de_name (pv 0) hk) (da_cons (de_callB cd_len (by rfl) hx.z_len PySem.boot_len (da_cons (de_name (pv 1) hk) (da_nil hk))) (da_nil hk)))))))
theorem der__law_mixed (hx : Fx K w mg) (G__law_roll : GM P0 w K mg base T 1 2 "_law_roll" P__law_roll) {cdv : Value} {A : Around} {outer : List Env} {s : Shared} {H : Hp} {E : XK} {B : Bg} (hk : B.K = K) (hT : B.T = T) (hr : Room 1 (A.deeper (envOfC "_law_mixed" (defScope s__law_mixed) s.heap.objs.size f cdv))) :
    DSs (cxOf CX0 P0 w K mg base N__law_mixed "_law_mixed" (defScope s__law_mixed) f cdv A outer s H E).nox B (defBody s__law_mixed) t__law_mixed := by
  have hu64 := room64 hr
  have hu65 := room65 hr
  exact (dss_cons (ds_par (i := 2) (j := 3) (.inl (by decide)) rfl sc__law_mixed.nd rfl rfl (by decide) rfl rfl (da_cons (de_callTy cd_list (by rfl) hx.z_list PyProof.Rows.boot_list (da_cons (de_name (pv 1) hk) (da_nil hk))) (da_cons (de_lst (da_nil hk)) (da_nil hk))) (by rfl))
    (dss_cons (ds_while PassesOwn.never (dt_cmp (od_ne hu64) (de_name (pv 2) hk) (de_lst (da_nil hk)))
    (dss_one (ds_expr (de_append (pv 3) (da_cons (de_pop (pv 2) (da_cons (de_gm G__law_roll hT hr (by decide) (by rfl) (da_cons (de_name (pv 0) hk) (da_cons (de_callB cd_len (by rfl) hx.z_len PySem.boot_len (da_cons (de_name (pv 2) hk) (da_nil hk))) (da_nil hk)))) (da_nil hk))) (da_nil hk))))))
    (dss_one (ds_ret (de_name (pv 3) hk)))))
theorem der__law_times (hx : Fx K w mg)  {cdv : Value} {A : Around} {outer : List Env} {s : Shared} {H : Hp} {E : XK} {B : Bg} (hk : B.K = K) (hT : B.T = T) (hM : B.M = none) (hr : Room 0 (A.deeper (envOfC "_law_times" (defScope s__law_times) s.heap.objs.size f cdv))) :
    DSs (cxOf CX0 P0 w K mg base N__law_times "_law_times" (defScope s__law_times) f cdv A outer s H E).nox B (defBody s__law_times) t__law_times := by
  have hu64 := room64 hr
  have hu65 := room65 hr
  exact (dss_one (ds_ret (de_op od_sub (de_op od_mulA (de_ix (de_name (pv 0) hk) (de_int hk)) (de_ix (de_name (pv 1) hk) (de_int hk))) (de_callB (cd_sum rfl) (by rfl) hx.z_sum PyProof.Rows.boot_sum (da_cons (de_lc (own := [("left", 2), ("right", 3)]) (.inl (by decide)) (by decide) rfl sc__law_times.nd (di_zip (by rfl) hx.z_zip (da_cons (de_slice (de_name (pv 0) hk) (do_some (de_int hk)) do_none) (da_cons (de_slice (de_name (pv 1) hk) (do_some (de_int hk)) do_none) (da_nil hk)))) (blkOk_by (own := [("left", 2), ("right", 3)]) (N := N__law_times) (sc := defScope s__law_times) (by decide +kernel)) (fun _ _ _ _ _ => (dg_tup rfl (dgs_cons (dg_name (i := 2) (.inl (by decide)) (pg_name (i := 2) sc__law_times.nd rfl (.inl rfl)) hk) (dgs_cons (dg_name (i := 3) (.inl (by decide)) (pg_name (i := 3) sc__law_times.nd rfl (.inl rfl)) hk) (dgs_nil hk))))) (fun _ _ _ _ _ => dts_nil) (fun _ _ _ _ _ => (de_op od_mulA (de_name (pv 2) hk) (de_name (pv 3) hk)))) (da_nil hk))))))
theorem der__law_cubic (hx : Fx K w mg)  {cdv : Value} {A : Around} {outer : List Env} {s : Shared} {H : Hp} {E : XK} {B : Bg} (hk : B.K = K) (hT : B.T = T) (hM : B.M = none) (hr : Room 0 (A.deeper (envOfC "_law_cubic" (defScope s__law_cubic) s.heap.objs.size f cdv))) :
    DSs (cxOf CX0 P0 w K mg base N__law_cubic "_law_cubic" (defScope s__law_cubic) f cdv A outer s H E).nox B (defBody s__law_cubic) t__law_cubic := by
  have hu64 := room64 hr
  have hu65 := room65 hr
  exact (dss_one (ds_ret (de_op od_add (de_tup (da_cons (de_int hk) (da_nil hk))) (de_op od_mulA (de_tup (da_cons (de_int hk) (da_nil hk))) (de_name (pv 0) hk)))))
theorem der__law_point_row (hx : Fx K w mg)  {cdv : Value} {A : Around} {outer : List Env} {s : Shared} {H : Hp} {E : XK} {B : Bg} (hk : B.K = K) (hT : B.T = T) (hM : B.M = none) (hr : Room 0 (A.deeper (envOfC "_law_point_row" (defScope s__law_point_row) s.heap.objs.size f cdv))) :
    DSs (cxOf CX0 P0 w K mg base N__law_point_row "_law_point_row" (defScope s__law_point_row) f cdv A outer s H E).nox B (defBody s__law_point_row) t__law_point_row := by
  have hu64 := room64 hr
  have hu65 := room65 hr
  exact (dss_one (ds_ret (de_callTy cd_tuple (by rfl) hx.z_tuple PyProof.Rows.boot_tuple (da_cons (de_op od_add (de_lst (da_cons (de_int hk) (da_nil hk))) (de_lc (own := [("place", 2)]) (.inl (by decide)) (by decide) rfl sc__law_point_row.nd (di_range1 (by rfl) hx.z_range (da_cons (de_name (pv 0) hk) (da_nil hk))) (blkOk_by (own := [("place", 2)]) (N := N__law_point_row) (sc := defScope s__law_point_row) (by decide +kernel)) (fun _ _ _ _ _ => (dg_name (i := 2) (.inl (by decide)) (pg_name (i := 2) sc__law_point_row.nd rfl (.inl rfl)) hk)) (fun _ _ _ _ _ => dts_nil) (fun _ _ _ _ _ => (de_op od_sub (de_int hk) (de_callTy cd_int (by rfl) hx.z_int PyProof.Rows.boot_int (da_cons (de_cmp (od_eq hu64) (de_name (pv 2) hk) (de_name (pv 1) hk)) (da_nil hk))))))) (da_nil hk)))))
theorem der__law_small_row (hx : Fx K w mg) (G__law_one_of : GM P0 w K mg base T 2 2 "_law_one_of" P__law_one_of) (G__law_roll : GM P0 w K mg base T 1 2 "_law_roll" P__law_roll) {cdv : Value} {A : Around} {outer : List Env} {s : Shared} {H : Hp} {E : XK} {B : Bg} (hk : B.K = K) (hT : B.T = T) (hr : Room 2 (A.deeper (envOfC "_law_small_row" (defScope s__law_small_row) s.heap.objs.size f cdv))) :
    DSs (cxOf CX0 P0 w K mg base N__law_small_row "_law_small_row" (defScope s__law_small_row) f cdv A outer s H E).nox B (defBody s__law_small_row) t__law_small_row := by
  have hu64 := room64 hr
  have hu65 := room65 hr
  exact (dss_cons (ds_asg (de_gm G__law_one_of hT hr (by decide) (by rfl) (da_cons (de_name (pv 0) hk) (da_cons (de_lst (da_cons (de_int hk) (da_cons (de_int hk) (da_cons (de_neg (de_int hk)) (da_cons (de_neg (de_int hk)) (da_nil hk)))))) (da_nil hk)))) (dg_name (i := 3) (.inl (by decide)) (pg_name (i := 3) sc__law_small_row.nd rfl (.inr rfl)) hk))
    (dss_cons (ds_setLc (i := 4) (own := [("at", 5)]) (.inl (by decide)) (.inl (by decide)) (by decide) rfl sc__law_small_row.nd rfl rfl (sw_true rfl rfl rfl (by decide +kernel)) (di_range1 (by rfl) hx.z_range (da_cons (de_name (pv 1) hk) (da_nil hk))) (blkOk_by (own := [("at", 5)]) (N := N__law_small_row) (sc := defScope s__law_small_row) (by decide +kernel)) (fun _ _ _ _ _ => (dg_name (i := 5) (.inl (by decide)) (pg_name (i := 5) sc__law_small_row.nd rfl (.inl rfl)) hk)) (fun _ _ _ _ _ => dts_nil) (fun _ _ _ _ _ => (de_op od_add (de_name (pv 3) hk) (de_gm G__law_roll hT hr (by decide) (by rfl) (da_cons (de_name (pv 0) hk) (da_cons (de_op od_add (de_op od_sub (de_name (pv 2) hk) (de_name (pv 3) hk)) (de_int hk)) (da_nil hk)))))))
    (dss_one (ds_ret (de_op od_add (de_tup (da_cons (de_op od_add (de_gm G__law_one_of hT hr (by decide) (by rfl) (da_cons (de_name (pv 0) hk) (da_cons (de_lst (da_cons (de_neg (de_int hk)) (da_cons (de_int hk) (da_cons (de_int hk) (da_cons (de_int hk) (da_nil hk)))))) (da_nil hk)))) (de_gm G__law_roll hT hr (by decide) (by rfl) (da_cons (de_name (pv 0) hk) (da_cons (de_op od_add (de_op od_mulA (de_int hk) (de_name (pv 2) hk)) (de_int hk)) (da_nil hk))))) (da_nil hk))) (de_callTy cd_tuple (by rfl) hx.z_tuple PyProof.Rows.boot_tuple (da_cons (de_name (pv 4) hk) (da_nil hk))))))))
theorem der__law_word (hx : Fx K w mg) (G__law_roll : GM P0 w K mg base T 1 2 "_law_roll" P__law_roll) (G__law_mixed : GM P0 w K mg base T 2 2 "_law_mixed" P__law_mixed) {cdv : Value} {A : Around} {outer : List Env} {s : Shared} {H : Hp} {E : XK} {B : Bg} (hk : B.K = K) (hT : B.T = T) (hr : Room 2 (A.deeper (envOfC "_law_word" (defScope s__law_word) s.heap.objs.size f cdv))) :
    DSs (cxOf CX0 P0 w K mg base N__law_word "_law_word" (defScope s__law_word) f cdv A outer s H E).nox B (defBody s__law_word) t__law_word := by
  have hu64 := room64 hr
  have hu65 := room65 hr
  exact (dss_cons (ds_asg (de_lst (da_nil hk)) (dg_name (i := 3) (.inl (by decide)) (pg_name (i := 3) sc__law_word.nd rfl (.inl rfl)) hk))
    (dss_cons (ds_for PassesOwn.never rfl (di_range1 (by rfl) hx.z_range (da_cons (de_gm G__law_roll hT hr (by decide) (by rfl) (da_cons (de_name (pv 0) hk) (da_cons (de_op od_add (de_name (pv 2) hk) (de_int hk)) (da_nil hk)))) (da_nil hk))) (dg_name (i := 4) (.inl (by decide)) (pg_name (i := 4) sc__law_word.nd rfl (.inl rfl)) hk)
    (dss_cons (ds_asg (de_callB cd_sorted (by rfl) hx.z_sorted PyProof.Rows.boot_sorted (da_cons (de_slice (de_gm G__law_mixed hT hr (by decide) (by rfl) (da_cons (de_name (pv 0) hk) (da_cons (de_listRg1 rfl (by rfl) hx.z_list (by rfl) hx.z_range (de_name (pv 1) hk)) (da_nil hk)))) do_none (do_some (de_int hk))) (da_nil hk))) (dg_name (i := 5) (.inl (by decide)) (pg_name (i := 5) sc__law_word.nd rfl (.inl rfl)) hk))
    (dss_cons (ds_asg (de_gm G__law_roll hT hr (by decide) (by rfl) (da_cons (de_name (pv 0) hk) (da_cons (de_int hk) (da_nil hk)))) (dg_name (i := 6) (.inl (by decide)) (pg_name (i := 6) sc__law_word.nd rfl (.inl rfl)) hk))
    (dss_one (ds_expr (de_append (pv 3) (da_cons (de_if (dt_cmp (od_eq hu64) (de_name (pv 6) hk) (de_int hk)) (de_tup (da_cons (de_str hk) (da_cons (de_ix (de_name (pv 5) hk) (de_int hk)) (da_cons (de_ix (de_name (pv 5) hk) (de_int hk)) (da_nil hk))))) (de_tup (da_cons (de_str hk) (da_cons (de_ix (de_name (pv 5) hk) (de_int hk)) (da_cons (de_ix (de_name (pv 5) hk) (de_int hk)) (da_cons (de_ix (de_name (pv 5) hk) (de_int hk)) (da_nil hk))))))) (da_nil hk))))))))
    (dss_one (ds_ret (de_callTy cd_tuple (by rfl) hx.z_tuple PyProof.Rows.boot_tuple (da_cons (de_name (pv 3) hk) (da_nil hk)))))))
theorem der__law_move (hx : Fx K w mg)  {cdv : Value} {A : Around} {outer : List Env} {s : Shared} {H : Hp} {E : XK} {B : Bg} (hk : B.K = K) (hT : B.T = T) (hM : B.M = none) (hr : Room 0 (A.deeper (envOfC "_law_move" (defScope s__law_move) s.heap.objs.size f cdv))) :
    DSs (cxOf CX0 P0 w K mg base N__law_move "_law_move" (defScope s__law_move) f cdv A outer s H E).nox B (defBody s__law_move) t__law_move := by
  have hu64 := room64 hr
  have hu65 := room65 hr
  exact (dss_cons (ds_asg (de_callTy cd_list (by rfl) hx.z_list PyProof.Rows.boot_list (da_cons (de_name (pv 0) hk) (da_nil hk))) (dg_name (i := 2) (.inl (by decide)) (pg_name (i := 2) sc__law_move.nd rfl (.inl rfl)) hk))
    (dss_cons (ds_if (dt_cmp (od_eq hu64) (de_ix (de_name (pv 1) hk) (de_int hk)) (de_str hk)) (dss_cons (ds_asg (de_tup (da_cons (de_ix (de_name (pv 0) hk) (de_op od_add (de_int hk) (de_ix (de_name (pv 1) hk) (de_int hk)))) (da_cons (de_ix (de_name (pv 0) hk) (de_op od_add (de_int hk) (de_ix (de_name (pv 1) hk) (de_int hk)))) (da_nil hk)))) (dg_tup rfl (dgs_cons (dg_ix (pv 2) (de_op od_add (de_int hk) (de_ix (de_name (pv 1) hk) (de_int hk)))) (dgs_cons (dg_ix (pv 2) (de_op od_add (de_int hk) (de_ix (de_name (pv 1) hk) (de_int hk)))) (dgs_nil hk)))))
    (dss_one (ds_ret (de_callTy cd_tuple (by rfl) hx.z_tuple PyProof.Rows.boot_tuple (da_cons (de_name (pv 2) hk) (da_nil hk)))))) (dss_nil hk))
    (dss_cons (ds_asg (de_op od_sub (de_op od_sub (de_op od_sub (de_ix (de_name (pv 0) hk) (de_int hk)) (de_ix (de_name (pv 0) hk) (de_op od_add (de_int hk) (de_ix (de_name (pv 1) hk) (de_int hk))))) (de_ix (de_name (pv 0) hk) (de_op od_add (de_int hk) (de_ix (de_name (pv 1) hk) (de_int hk))))) (de_ix (de_name (pv 0) hk) (de_op od_add (de_int hk) (de_ix (de_name (pv 1) hk) (de_int hk))))) (dg_name (i := 3) (.inl (by decide)) (pg_name (i := 3) sc__law_move.nd rfl (.inl rfl)) hk))
    (dss_cons (ds_for PassesOwn.never rfl (di_val (de_tup (da_cons (de_int hk) (da_cons (de_op od_add (de_int hk) (de_ix (de_name (pv 1) hk) (de_int hk))) (da_cons (de_op od_add (de_int hk) (de_ix (de_name (pv 1) hk) (de_int hk))) (da_cons (de_op od_add (de_int hk) (de_ix (de_name (pv 1) hk) (de_int hk))) (da_nil hk))))))) (dg_name (i := 4) (.inl (by decide)) (pg_name (i := 4) sc__law_move.nd rfl (.inl rfl)) hk)
    (dss_one (ds_asg (de_op od_add (de_ix (de_name (pv 2) hk) (de_name (pv 4) hk)) (de_name (pv 3) hk)) (dg_ix (pv 2) (de_name (pv 4) hk)))))
    (dss_one (ds_ret (de_callTy cd_tuple (by rfl) hx.z_tuple PyProof.Rows.boot_tuple (da_cons (de_name (pv 2) hk) (da_nil hk)))))))))
theorem der__law_moved (hx : Fx K w mg) (G__law_move : GF P0 w K mg base T 1 2 "_law_move" P__law_move []) {cdv : Value} {A : Around} {outer : List Env} {s : Shared} {H : Hp} {E : XK} {B : Bg} (hk : B.K = K) (hT : B.T = T) (hM : B.M = none) (hr : Room 1 (A.deeper (envOfC "_law_moved" (defScope s__law_moved) s.heap.objs.size f cdv))) :
    DSs (cxOf CX0 P0 w K mg base N__law_moved "_law_moved" (defScope s__law_moved) f cdv A outer s H E).nox B (defBody s__law_moved) t__law_moved := by
  have hu64 := room64 hr
  have hu65 := room65 hr
  exact (dss_cons (ds_for PassesOwn.never rfl (di_val (de_name (pv 1) hk)) (dg_name (i := 2) (.inl (by decide)) (pg_name (i := 2) sc__law_moved.nd rfl (.inl rfl)) hk)
    (dss_one (ds_asg (de_gf G__law_move hT hr (by decide) (by rfl) (da_cons (de_name (pv 0) hk) (da_cons (de_name (pv 2) hk) (da_nil hk)))) (dg_name (i := 0) (.inr hM) (pg_name (i := 0) sc__law_moved.nd rfl (.inl rfl)) hk))))
    (dss_one (ds_ret (de_name (pv 0) hk))))
theorem der__law_prime (hx : Fx K w mg) (G__law_one_of : GM P0 w K mg base T 2 2 "_law_one_of" P__law_one_of) {cdv : Value} {A : Around} {outer : List Env} {s : Shared} {H : Hp} {E : XK} {B : Bg} (hk : B.K = K) (hT : B.T = T) (hr : Room 2 (A.deeper (envOfC "_law_prime" (defScope s__law_prime) s.heap.objs.size f cdv))) :
    DSs (cxOf CX0 P0 w K mg base N__law_prime "_law_prime" (defScope s__law_prime) f cdv A outer s H E).nox B (defBody s__law_prime) t__law_prime := by
  have hu64 := room64 hr
  have hu65 := room65 hr
  exact (dss_one (ds_ret (de_gm G__law_one_of hT hr (by decide) (by rfl) (da_cons (de_name (pv 0) hk) (da_cons (de_lst (da_cons (de_int hk) (da_cons (de_int hk) (da_cons (de_int hk) (da_cons (de_int hk) (da_nil hk)))))) (da_nil hk))))))
theorem der__law_back (hx : Fx K w mg)  {cdv : Value} {A : Around} {outer : List Env} {s : Shared} {H : Hp} {E : XK} {B : Bg} (hk : B.K = K) (hT : B.T = T) (hM : B.M = none) (hr : Room 0 (A.deeper (envOfC "_law_back" (defScope s__law_back) s.heap.objs.size f cdv))) :
    DSs (cxOf CX0 P0 w K mg base N__law_back "_law_back" (defScope s__law_back) f cdv A outer s H E).nox B (defBody s__law_back) t__law_back := by
  have hu64 := room64 hr
  have hu65 := room65 hr
  exact (dss_cons (ds_asg (de_tup (da_cons (de_name (pv 0) hk) (da_cons (de_name (pv 1) hk) (da_cons (de_int hk) (da_cons (de_int hk) (da_nil hk)))))) (dg_tup rfl (dgs_cons (dg_name (i := 2) (.inl (by decide)) (pg_name (i := 2) sc__law_back.nd rfl (.inl rfl)) hk) (dgs_cons (dg_name (i := 3) (.inl (by decide)) (pg_name (i := 3) sc__law_back.nd rfl (.inl rfl)) hk) (dgs_cons (dg_name (i := 4) (.inl (by decide)) (pg_name (i := 4) sc__law_back.nd rfl (.inl rfl)) hk) (dgs_cons (dg_name (i := 5) (.inl (by decide)) (pg_name (i := 5) sc__law_back.nd rfl (.inl rfl)) hk) (dgs_nil hk)))))))
    (dss_cons (ds_while PassesOwn.never (dt_cmp (od_ne hu64) (de_name (pv 3) hk) (de_int hk))
    (dss_cons (ds_asg (de_op od_fdiv (de_name (pv 2) hk) (de_name (pv 3) hk)) (dg_name (i := 6) (.inl (by decide)) (pg_name (i := 6) sc__law_back.nd rfl (.inl rfl)) hk))
    (dss_one (ds_asg (de_tup (da_cons (de_name (pv 3) hk) (da_cons (de_op od_sub (de_name (pv 2) hk) (de_op od_mulA (de_name (pv 6) hk) (de_name (pv 3) hk))) (da_cons (de_name (pv 5) hk) (da_cons (de_op od_sub (de_name (pv 4) hk) (de_op od_mulA (de_name (pv 6) hk) (de_name (pv 5) hk))) (da_nil hk)))))) (dg_tup rfl (dgs_cons (dg_name (i := 2) (.inl (by decide)) (pg_name (i := 2) sc__law_back.nd rfl (.inl rfl)) hk) (dgs_cons (dg_name (i := 3) (.inl (by decide)) (pg_name (i := 3) sc__law_back.nd rfl (.inl rfl)) hk) (dgs_cons (dg_name (i := 4) (.inl (by decide)) (pg_name (i := 4) sc__law_back.nd rfl (.inl rfl)) hk) (dgs_cons (dg_name (i := 5) (.inl (by decide)) (pg_name (i := 5) sc__law_back.nd rfl (.inl rfl)) hk) (dgs_nil hk))))))))))
    (dss_one (ds_ret (de_op od_mod (de_name (pv 4) hk) (de_name (pv 0) hk))))))
theorem der__law_normal (hx : Fx K w mg) (G__law_back : GF P0 w K mg base T 1 2 "_law_back" P__law_back []) {cdv : Value} {A : Around} {outer : List Env} {s : Shared} {H : Hp} {E : XK} {B : Bg} (hk : B.K = K) (hT : B.T = T) (hM : B.M = none) (hr : Room 1 (A.deeper (envOfC "_law_normal" (defScope s__law_normal) s.heap.objs.size f cdv))) :
    DSs (cxOf CX0 P0 w K mg base N__law_normal "_law_normal" (defScope s__law_normal) f cdv A outer s H E).nox B (defBody s__law_normal) t__law_normal := by
  have hu64 := room64 hr
  have hu65 := room65 hr
  exact (dss_cons (ds_setLc (i := 2) (own := [("one", 5)]) (.inl (by decide)) (.inl (by decide)) (by decide) rfl sc__law_normal.nd rfl rfl (sw_true rfl rfl rfl (by decide +kernel)) (di_val (de_name (pv 1) hk)) (blkOk_by (own := [("one", 5)]) (N := N__law_normal) (sc := defScope s__law_normal) (by decide +kernel)) (fun _ _ _ _ _ => (dg_name (i := 5) (.inl (by decide)) (pg_name (i := 5) sc__law_normal.nd rfl (.inl rfl)) hk)) (fun _ _ _ _ _ => dts_nil) (fun _ _ _ _ _ => (de_op od_mod (de_name (pv 5) hk) (de_name (pv 0) hk))))
    (dss_cons (ds_asg (de_ix (de_lc (own := [("one", 5)]) (.inl (by decide)) (by decide) rfl sc__law_normal.nd (di_val (de_name (pv 2) hk)) (blkOk_by (own := [("one", 5)]) (N := N__law_normal) (sc := defScope s__law_normal) (by decide +kernel)) (fun _ _ _ _ _ => (dg_name (i := 5) (.inl (by decide)) (pg_name (i := 5) sc__law_normal.nd rfl (.inl rfl)) hk)) (fun _ _ _ _ _ => (dts_one (dt_cmp (od_ne hu64) (de_name (pv 5) hk) (de_int hk)))) (fun _ _ _ _ _ => (de_name (pv 5) hk))) (de_neg (de_int hk))) (dg_name (i := 3) (.inl (by decide)) (pg_name (i := 3) sc__law_normal.nd rfl (.inl rfl)) hk))
    (dss_cons (ds_asg (de_gf G__law_back hT hr (by decide) (by rfl) (da_cons (de_name (pv 0) hk) (da_cons (de_name (pv 3) hk) (da_nil hk)))) (dg_name (i := 4) (.inl (by decide)) (pg_name (i := 4) sc__law_normal.nd rfl (.inr rfl)) hk))
    (dss_one (ds_ret (de_callTy cd_tuple (by rfl) hx.z_tuple PyProof.Rows.boot_tuple (da_cons (de_lc (own := [("one", 5)]) (.inl (by decide)) (by decide) rfl sc__law_normal.nd (di_val (de_name (pv 2) hk)) (blkOk_by (own := [("one", 5)]) (N := N__law_normal) (sc := defScope s__law_normal) (by decide +kernel)) (fun _ _ _ _ _ => (dg_name (i := 5) (.inl (by decide)) (pg_name (i := 5) sc__law_normal.nd rfl (.inl rfl)) hk)) (fun _ _ _ _ _ => dts_nil) (fun _ _ _ _ _ => (de_op od_mod (de_op od_mulA (de_name (pv 5) hk) (de_name (pv 4) hk)) (de_name (pv 0) hk)))) (da_nil hk))))))))
theorem der__law_points (hx : Fx K w mg) (G__law_normal : GF P0 w K mg base T 2 2 "_law_normal" P__law_normal []) (G__law_roll : GM P0 w K mg base T 1 2 "_law_roll" P__law_roll) {cdv : Value} {A : Around} {outer : List Env} {s : Shared} {H : Hp} {E : XK} {B : Bg} (hk : B.K = K) (hT : B.T = T) (hr : Room 2 (A.deeper (envOfC "_law_points" (defScope s__law_points) s.heap.objs.size f cdv))) :
    DSs (cxOf CX0 P0 w K mg base N__law_points "_law_points" (defScope s__law_points) f cdv A outer s H E).nox B (defBody s__law_points) t__law_points := by
  have hu64 := room64 hr
  have hu65 := room65 hr
  exact (dss_cons (ds_asg (de_lst (da_nil hk)) (dg_name (i := 3) (.inl (by decide)) (pg_name (i := 3) sc__law_points.nd rfl (.inr rfl)) hk))
    (dss_cons (ds_while PassesOwn.never (dt_cmp od_lt (de_callB cd_len (by rfl) hx.z_len PySem.boot_len (da_cons (de_name (pv 3) hk) (da_nil hk))) (de_name (pv 2) hk))
    (dss_cons (ds_expr (de_append (pv 3) (da_cons (de_gf G__law_normal hT hr (by decide) (by rfl) (da_cons (de_name (pv 1) hk) (da_cons (de_tup (da_cons (de_gm G__law_roll hT hr (by decide) (by rfl) (da_cons (de_name (pv 0) hk) (da_cons (de_name (pv 1) hk) (da_nil hk)))) (da_cons (de_gm G__law_roll hT hr (by decide) (by rfl) (da_cons (de_name (pv 0) hk) (da_cons (de_name (pv 1) hk) (da_nil hk)))) (da_cons (de_op od_add (de_int hk) (de_op od_mod (de_callB cd_len (by rfl) hx.z_len PySem.boot_len (da_cons (de_name (pv 3) hk) (da_nil hk))) (de_int hk))) (da_nil hk))))) (da_nil hk)))) (da_nil hk))))
    (dss_one (ds_asg (de_lc (own := [("at", 4)]) (.inl (by decide)) (by decide) rfl sc__law_points.nd (di_range1 (by rfl) hx.z_range (da_cons (de_callB cd_len (by rfl) hx.z_len PySem.boot_len (da_cons (de_name (pv 3) hk) (da_nil hk))) (da_nil hk))) (blkOk_by (own := [("at", 4)]) (N := N__law_points) (sc := defScope s__law_points) (by decide +kernel)) (fun _ _ _ _ _ => (dg_name (i := 4) (.inl (by decide)) (pg_name (i := 4) sc__law_points.nd rfl (.inl rfl)) hk)) (fun _ _ _ _ _ => (dts_one (dt_cmp (od_notIn hu65) (de_ix (de_name (pv 3) hk) (de_name (pv 4) hk)) (de_slice (de_name (pv 3) hk) do_none (do_some (de_name (pv 4) hk)))))) (fun _ _ _ _ _ => (de_ix (de_name (pv 3) hk) (de_name (pv 4) hk)))) (dg_name (i := 3) (.inl (by decide)) (pg_name (i := 3) sc__law_points.nd rfl (.inr rfl)) hk)))))
    (dss_one (ds_ret (de_name (pv 3) hk)))))
theorem der__law_is_point_row (hx : Fx K w mg)  {cdv : Value} {A : Around} {outer : List Env} {s : Shared} {H : Hp} {E : XK} {B : Bg} (hk : B.K = K) (hT : B.T = T) (hM : B.M = none) (hr : Room 0 (A.deeper (envOfC "_law_is_point_row" (defScope s__law_is_point_row) s.heap.objs.size f cdv))) :
    DSs (cxOf CX0 P0 w K mg base N__law_is_point_row "_law_is_point_row" (defScope s__law_is_point_row) f cdv A outer s H E).nox B (defBody s__law_is_point_row) t__law_is_point_row := by
  have hu64 := room64 hr
  have hu65 := room65 hr
  exact (dss_one (ds_ret (de_and (de_cmp (od_eq hu64) (de_ix (de_name (pv 0) hk) (de_int hk)) (de_int hk)) (de_one (de_cmp (od_eq hu64) (de_callB cd_sorted (by rfl) hx.z_sorted PyProof.Rows.boot_sorted (da_cons (de_name (pv 0) hk) (da_nil hk))) (de_op od_add (de_lst (da_cons (de_neg (de_int hk)) (da_nil hk))) (de_op od_mulA (de_lst (da_cons (de_int hk) (da_nil hk))) (de_op od_sub (de_callB cd_len (by rfl) hx.z_len PySem.boot_len (da_cons (de_name (pv 0) hk) (da_nil hk))) (de_int hk)))))))))
theorem der__law_leads (hx : Fx K w mg) (G__law_is_point_row : GF P0 w K mg base T 1 1 "_law_is_point_row" P__law_is_point_row []) {cdv : Value} {A : Around} {outer : List Env} {s : Shared} {H : Hp} {E : XK} {B : Bg} (hk : B.K = K) (hT : B.T = T) (hM : B.M = none) (hr : Room 1 (A.deeper (envOfC "_law_leads" (defScope s__law_leads) s.heap.objs.size f cdv))) :
    DSs (cxOf CX0 P0 w K mg base N__law_leads "_law_leads" (defScope s__law_leads) f cdv A outer s H E).nox B (defBody s__law_leads) t__law_leads := by
  have hu64 := room64 hr
  have hu65 := room65 hr
  exact (dss_cons (ds_while PassesOwn.never (DW.dt (dw_and (dt_cmp od_gt (de_ix (de_name (pv 0) hk) (de_int hk)) (de_int hk)) (dw_and1 (dt_cmp od_ge (de_callB (cd_minS rfl) (by rfl) hx.z_min PyProof.Rows.boot_min (da_cons (de_slice (de_name (pv 0) hk) (do_some (de_int hk)) do_none) (da_nil hk))) (de_int hk)))))
    (dss_cons (ds_asg (de_rev (de_callB cd_sorted (by rfl) hx.z_sorted PyProof.Rows.boot_sorted (da_cons (de_slice (de_name (pv 0) hk) (do_some (de_int hk)) do_none) (da_nil hk)))) (dg_name (i := 1) (.inl (by decide)) (pg_name (i := 1) sc__law_leads.nd rfl (.inr rfl)) hk))
    (dss_cons (ds_asg (de_op od_sub (de_ix (de_name (pv 0) hk) (de_int hk)) (de_callB (cd_sum rfl) (by rfl) hx.z_sum PyProof.Rows.boot_sum (da_cons (de_slice (de_name (pv 1) hk) do_none (do_some (de_int hk))) (da_nil hk)))) (dg_name (i := 2) (.inl (by decide)) (pg_name (i := 2) sc__law_leads.nd rfl (.inr rfl)) hk))
    (dss_cons (ds_if (dt_cmp od_ge (de_name (pv 2) hk) (de_int hk)) (dss_one (ds_ret (de_bl hk))) (dss_nil hk))
    (dss_one (ds_asg (de_op od_add (de_tup (da_cons (de_op od_add (de_ix (de_name (pv 0) hk) (de_int hk)) (de_name (pv 2) hk)) (da_nil hk))) (de_callTy cd_tuple (by rfl) hx.z_tuple PyProof.Rows.boot_tuple (da_cons (de_lc (own := [("at", 3)]) (.inl (by decide)) (by decide) rfl sc__law_leads.nd (di_range1 (by rfl) hx.z_range (da_cons (de_callB cd_len (by rfl) hx.z_len PySem.boot_len (da_cons (de_name (pv 1) hk) (da_nil hk))) (da_nil hk))) (blkOk_by (own := [("at", 3)]) (N := N__law_leads) (sc := defScope s__law_leads) (by decide +kernel)) (fun _ _ _ _ _ => (dg_name (i := 3) (.inl (by decide)) (pg_name (i := 3) sc__law_leads.nd rfl (.inl rfl)) hk)) (fun _ _ _ _ _ => dts_nil) (fun _ _ _ _ _ => (de_op od_add (de_ix (de_name (pv 1) hk) (de_name (pv 3) hk)) (de_op od_mulA (de_name (pv 2) hk) (de_callTy cd_int (by rfl) hx.z_int PyProof.Rows.boot_int (da_cons (de_cmp od_lt (de_name (pv 3) hk) (de_int hk)) (da_nil hk))))))) (da_nil hk)))) (dg_name (i := 0) (.inr hM) (pg_name (i := 0) sc__law_leads.nd rfl (.inl rfl)) hk)))))))
    (dss_one (ds_ret (de_gf G__law_is_point_row hT hr (by decide) (by rfl) (da_cons (de_name (pv 0) hk) (da_nil hk))))))
theorem der__law_told_right (hx : Fx K w mg) (G_word_to_point : GF P0 w K mg base T 6 1 "word_to_point" P_word_to_point []) (G__law_leads : GF P0 w K mg base T 2 1 "_law_leads" P__law_leads []) (G_is_led_to_point : GF P0 w K mg base T 6 1 "is_led_to_point" P_is_led_to_point []) (G__law_is_point_row : GF P0 w K mg base T 1 1 "_law_is_point_row" P__law_is_point_row []) (G_moved : GF P0 w K mg base T 5 2 "moved" P_moved []) {cdv : Value} {A : Around} {outer : List Env} {s : Shared} {H : Hp} {E : XK} {B : Bg} (hk : B.K = K) (hT : B.T = T) (hM : B.M = none) (hr : Room 6 (A.deeper (envOfC "_law_told_right" (defScope s__law_told_right) s.heap.objs.size f cdv))) :
    DSs (cxOf CX0 P0 w K mg base N__law_told_right "_law_told_right" (defScope s__law_told_right) f cdv A outer s H E).nox B (defBody s__law_told_right) t__law_told_right := by
  have hu64 := room64 hr
  have hu65 := room65 hr
  exact (dss_cons (ds_par (i := 1) (j := 2) (.inl (by decide)) rfl sc__law_told_right.nd rfl rfl (by decide) rfl rfl (da_cons (de_gf G__law_leads hT hr (by decide) (by rfl) (da_cons (de_name (pv 0) hk) (da_nil hk))) (da_cons (de_gf G_word_to_point hT hr (by decide) (by rfl) (da_cons (de_name (pv 0) hk) (da_nil hk))) (da_nil hk))) (by rfl))
    (dss_cons (ds_if (DW.dt (dw_or (dt_cmp (od_ne hu64) (de_gf G_is_led_to_point hT hr (by decide) (by rfl) (da_cons (de_name (pv 0) hk) (da_nil hk))) (de_name (pv 1) hk)) (dw_or1 (dt_cmp (od_ne hu64) (de_cmp od_isNot (de_name (pv 2) hk) (de_non hk)) (de_name (pv 1) hk))))) (dss_one (ds_ret (de_bl hk))) (dss_nil hk))
    (dss_one (ds_ret (de_or (de_cmp od_is (de_name (pv 2) hk) (de_non hk)) (de_one (de_gf G__law_is_point_row hT hr (by decide) (by rfl) (da_cons (de_gf G_moved hT hr (by decide) (by rfl) (da_cons (de_name (pv 0) hk) (da_cons (de_name (pv 2) hk) (da_nil hk)))) (da_nil hk)))))))))
theorem der__law_false_ones (hx : Fx K w mg)  {cdv : Value} {A : Around} {outer : List Env} {s : Shared} {H : Hp} {E : XK} {B : Bg} (hk : B.K = K) (hT : B.T = T) (hM : B.M = none) (hr : Room 0 (A.deeper (envOfC "_law_false_ones" (defScope s__law_false_ones) s.heap.objs.size f cdv))) :
    DSs (cxOf CX0 P0 w K mg base N__law_false_ones "_law_false_ones" (defScope s__law_false_ones) f cdv A outer s H E).nox B (defBody s__law_false_ones) t__law_false_ones := by
  have hu64 := room64 hr
  have hu65 := room65 hr
  exact (dss_cons (ds_asg (de_lst (da_cons (de_op od_add (de_op od_add (de_tup (da_cons (de_int hk) (da_cons (de_int hk) (da_cons (de_int hk) (da_nil hk))))) (de_op od_mulA (de_tup (da_cons (de_int hk) (da_nil hk))) (de_int hk))) (de_op od_mulA (de_tup (da_cons (de_int hk) (da_nil hk))) (de_op od_sub (de_name (pv 0) hk) (de_int hk)))) (da_cons (de_op od_add (de_op od_add (de_op od_add (de_tup (da_cons (de_int hk) (da_nil hk))) (de_op od_mulA (de_tup (da_cons (de_int hk) (da_nil hk))) (de_int hk))) (de_tup (da_cons (de_neg (de_int hk)) (da_nil hk)))) (de_op od_mulA (de_tup (da_cons (de_int hk) (da_nil hk))) (de_op od_sub (de_name (pv 0) hk) (de_int hk)))) (da_nil hk)))) (dg_name (i := 1) (.inl (by decide)) (pg_name (i := 1) sc__law_false_ones.nd rfl (.inl rfl)) hk))
    (dss_one (ds_ret (de_op od_add (de_name (pv 1) hk) (de_lst (da_cons (de_op od_add (de_op od_add (de_tup (da_cons (de_neg (de_int hk)) (da_nil hk))) (de_op od_mulA (de_tup (da_cons (de_neg (de_int hk)) (da_nil hk))) (de_int hk))) (de_op od_mulA (de_tup (da_cons (de_int hk) (da_nil hk))) (de_op od_sub (de_name (pv 0) hk) (de_int hk)))) (da_nil hk)))))))
theorem der__law_squares_right (hx : Fx K w mg) (G__law_roll : GM P0 w K mg base T 1 2 "_law_roll" P__law_roll) (G__law_prime : GM P0 w K mg base T 3 1 "_law_prime" P__law_prime) (G__law_points : GM P0 w K mg base T 3 3 "_law_points" P__law_points) (G_is_square_barred : GF P0 w K mg base T 6 1 "is_square_barred" P_is_square_barred []) (G_row_above : GF P0 w K mg base T 7 3 "row_above" P_row_above []) (G_bounds : GF P0 w K mg base T 7 3 "bounds" P_bounds []) {cdv : Value} {A : Around} {outer : List Env} {s : Shared} {H : Hp} {E : XK} {B : Bg} (hk : B.K = K) (hT : B.T = T) (hr : Room 7 (A.deeper (envOfC "_law_squares_right" (defScope s__law_squares_right) s.heap.objs.size f cdv))) :
    DSs (cxOf CX0 P0 w K mg base N__law_squares_right "_law_squares_right" (defScope s__law_squares_right) f cdv A outer s H E).nox B (defBody s__law_squares_right) t__law_squares_right := by
  have hu64 := room64 hr
  have hu65 := room65 hr
  exact (dss_cons (ds_setLc (i := 1) (own := [("at", 8)]) (.inl (by decide)) (.inl (by decide)) (by decide) rfl sc__law_squares_right.nd rfl rfl (sw_true rfl rfl rfl (by decide +kernel)) (di_range1 (by rfl) hx.z_range (da_cons (de_int hk) (da_nil hk))) (blkOk_by (own := [("at", 8)]) (N := N__law_squares_right) (sc := defScope s__law_squares_right) (by decide +kernel)) (fun _ _ _ _ _ => (dg_name (i := 8) (.inl (by decide)) (pg_name (i := 8) sc__law_squares_right.nd rfl (.inl rfl)) hk)) (fun _ _ _ _ _ => dts_nil) (fun _ _ _ _ _ => (de_op od_sub (de_gm G__law_roll hT hr (by decide) (by rfl) (da_cons (de_name (pv 0) hk) (da_cons (de_int hk) (da_nil hk)))) (de_int hk))))
    (dss_cons (ds_asg (de_callB (cd_sum rfl) (by rfl) hx.z_sum PyProof.Rows.boot_sum (da_cons (de_name (pv 1) hk) (da_nil hk))) (dg_name (i := 2) (.inl (by decide)) (pg_name (i := 2) sc__law_squares_right.nd rfl (.inl rfl)) hk))
    (dss_cons (ds_asg (de_gm G__law_prime hT hr (by decide) (by rfl) (da_cons (de_name (pv 0) hk) (da_nil hk))) (dg_name (i := 3) (.inl (by decide)) (pg_name (i := 3) sc__law_squares_right.nd rfl (.inl rfl)) hk))
    (dss_cons (ds_asg (de_callTy cd_tuple (by rfl) hx.z_tuple PyProof.Rows.boot_tuple (da_cons (de_gm G__law_points hT hr (by decide) (by rfl) (da_cons (de_name (pv 0) hk) (da_cons (de_name (pv 3) hk) (da_cons (de_int hk) (da_nil hk))))) (da_nil hk))) (dg_name (i := 4) (.inl (by decide)) (pg_name (i := 4) sc__law_squares_right.nd rfl (.inl rfl)) hk))
    (dss_cons (ds_for PassesOwn.never rfl (di_val (de_tup (da_cons (de_op od_sub (de_op od_fdiv (de_name (pv 2) hk) (de_int hk)) (de_int hk)) (da_cons (de_op od_fdiv (de_name (pv 2) hk) (de_int hk)) (da_cons (de_op od_add (de_op od_fdiv (de_name (pv 2) hk) (de_int hk)) (de_int hk)) (da_cons (de_int hk) (da_cons (de_neg (de_int hk)) (da_nil hk)))))))) (dg_name (i := 5) (.inl (by decide)) (pg_name (i := 5) sc__law_squares_right.nd rfl (.inl rfl)) hk)
    (dss_cons (ds_asg (de_op od_add (de_tup (da_cons (de_name (pv 5) hk) (da_nil hk))) (de_callTy cd_tuple (by rfl) hx.z_tuple PyProof.Rows.boot_tuple (da_cons (de_name (pv 1) hk) (da_nil hk)))) (dg_name (i := 6) (.inl (by decide)) (pg_name (i := 6) sc__law_squares_right.nd rfl (.inl rfl)) hk))
    (dss_cons (ds_asg (de_and (de_cmp od_le (de_op od_mulA (de_int hk) (de_name (pv 5) hk)) (de_name (pv 2) hk)) (de_one (de_or (de_cmp od_gt (de_name (pv 5) hk) (de_int hk)) (de_one (de_cmp od_gt (de_callB (cd_maxS rfl) (by rfl) hx.z_max PyProof.Rows.boot_max (da_cons (de_name (pv 1) hk) (da_nil hk))) (de_int hk)))))) (dg_name (i := 7) (.inl (by decide)) (pg_name (i := 7) sc__law_squares_right.nd rfl (.inl rfl)) hk))
    (dss_cons (ds_if (dt_cmp (od_ne hu64) (de_gf G_is_square_barred hT hr (by decide) (by rfl) (da_cons (de_name (pv 6) hk) (da_nil hk))) (de_name (pv 7) hk)) (dss_one (ds_ret (de_bl hk))) (dss_nil hk))
    (dss_one (ds_if (DW.dt (dw_and (dt_truth (de_name (pv 7) hk)) (dw_and1 (DW.dt (dw_or (dt_cmp (od_ne hu64) (de_gf G_row_above hT hr (by decide) (by rfl) (da_cons (de_name (pv 3) hk) (da_cons (de_name (pv 4) hk) (da_cons (de_name (pv 6) hk) (da_nil hk))))) (de_int hk)) (dw_or1 (dt_cmp (od_ne hu64) (de_gf G_bounds hT hr (by decide) (by rfl) (da_cons (de_name (pv 3) hk) (da_cons (de_name (pv 4) hk) (da_cons (de_name (pv 6) hk) (da_nil hk))))) (de_tup (da_cons (de_str hk) (da_cons (de_int hk) (da_nil hk))))))))))) (dss_one (ds_ret (de_bl hk))) (dss_nil hk)))))))
    (dss_one (ds_ret (de_and (de_not (de_gf G_is_square_barred hT hr (by decide) (by rfl) (da_cons (de_op od_mulA (de_tup (da_cons (de_int hk) (da_nil hk))) (de_int hk)) (da_nil hk)))) (de_one (de_not (de_gf G_is_square_barred hT hr (by decide) (by rfl) (da_cons (de_callTy cd_tuple (by rfl) hx.z_tuple PyProof.Rows.boot_tuple (da_cons (de_op od_add (de_lst (da_cons (de_name (pv 5) hk) (da_nil hk))) (de_slice (de_name (pv 1) hk) do_none (do_some (de_int hk)))) (da_nil hk))) (da_nil hk)))))))))))))
theorem der__law_cell_right (hx : Fx K w mg) (G__law_roll : GM P0 w K mg base T 1 2 "_law_roll" P__law_roll) (G__law_moved : GF P0 w K mg base T 2 2 "_law_moved" P__law_moved []) (G__law_word : GM P0 w K mg base T 3 3 "_law_word" P__law_word) (G__law_point_row : GF P0 w K mg base T 1 2 "_law_point_row" P__law_point_row []) (G_is_led_to_point : GF P0 w K mg base T 6 1 "is_led_to_point" P_is_led_to_point []) (G__law_told_right : GF P0 w K mg base T 7 1 "_law_told_right" P__law_told_right []) (G__law_mixed : GM P0 w K mg base T 2 2 "_law_mixed" P__law_mixed) (G__law_cubic : GF P0 w K mg base T 1 1 "_law_cubic" P__law_cubic []) (G__law_small_row : GM P0 w K mg base T 3 3 "_law_small_row" P__law_small_row) (G__law_one_of : GM P0 w K mg base T 2 2 "_law_one_of" P__law_one_of) (G__law_false_ones : GF P0 w K mg base T 1 1 "_law_false_ones" P__law_false_ones []) (G__law_times : GF P0 w K mg base T 1 2 "_law_times" P__law_times []) (G_word_to_point : GF P0 w K mg base T 6 1 "word_to_point" P_word_to_point []) {cdv : Value} {A : Around} {outer : List Env} {s : Shared} {H : Hp} {E : XK} {B : Bg} (hk : B.K = K) (hT : B.T = T) (hr : Room 7 (A.deeper (envOfC "_law_cell_right" (defScope s__law_cell_right) s.heap.objs.size f cdv))) :
    DSs (cxOf CX0 P0 w K mg base N__law_cell_right "_law_cell_right" (defScope s__law_cell_right) f cdv A outer s H E).nox B (defBody s__law_cell_right) t__law_cell_right := by
  have hu64 := room64 hr
  have hu65 := room65 hr
  exact (dss_cons (ds_asg (de_op od_add (de_int hk) (de_gm G__law_roll hT hr (by decide) (by rfl) (da_cons (de_name (pv 0) hk) (da_cons (de_int hk) (da_nil hk))))) (dg_name (i := 1) (.inl (by decide)) (pg_name (i := 1) sc__law_cell_right.nd rfl (.inl rfl)) hk))
    (dss_cons (ds_asg (de_gf G__law_moved hT hr (by decide) (by rfl) (da_cons (de_gf G__law_point_row hT hr (by decide) (by rfl) (da_cons (de_name (pv 1) hk) (da_cons (de_gm G__law_roll hT hr (by decide) (by rfl) (da_cons (de_name (pv 0) hk) (da_cons (de_name (pv 1) hk) (da_nil hk)))) (da_nil hk)))) (da_cons (de_gm G__law_word hT hr (by decide) (by rfl) (da_cons (de_name (pv 0) hk) (da_cons (de_name (pv 1) hk) (da_cons (de_int hk) (da_nil hk))))) (da_nil hk)))) (dg_name (i := 2) (.inl (by decide)) (pg_name (i := 2) sc__law_cell_right.nd rfl (.inl rfl)) hk))
    (dss_cons (ds_if (DW.dt (dw_or (dt_not (dt_truth (de_gf G_is_led_to_point hT hr (by decide) (by rfl) (da_cons (de_name (pv 2) hk) (da_nil hk))))) (dw_or1 (dt_not (dt_truth (de_gf G__law_told_right hT hr (by decide) (by rfl) (da_cons (de_name (pv 2) hk) (da_nil hk)))))))) (dss_one (ds_ret (de_bl hk))) (dss_nil hk))
    (dss_cons (ds_asg (de_slice (de_gm G__law_mixed hT hr (by decide) (by rfl) (da_cons (de_name (pv 0) hk) (da_cons (de_listRg2 rfl (by rfl) hx.z_list (by rfl) hx.z_range (de_int hk) (de_op od_add (de_name (pv 1) hk) (de_int hk))) (da_nil hk)))) do_none (do_some (de_int hk))) (dg_unl rfl (dgs_cons (dg_name (i := 3) (.inl (by decide)) (pg_name (i := 3) sc__law_cell_right.nd rfl (.inl rfl)) hk) (dgs_cons (dg_name (i := 4) (.inl (by decide)) (pg_name (i := 4) sc__law_cell_right.nd rfl (.inl rfl)) hk) (dgs_nil hk)))))
    (dss_cons (ds_asg (de_callTy cd_list (by rfl) hx.z_list PyProof.Rows.boot_list (da_cons (de_name (pv 2) hk) (da_nil hk))) (dg_name (i := 5) (.inl (by decide)) (pg_name (i := 5) sc__law_cell_right.nd rfl (.inl rfl)) hk))
    (dss_cons (ds_asg (de_tup (da_cons (de_op od_add (de_ix (de_name (pv 5) hk) (de_name (pv 3) hk)) (de_int hk)) (da_cons (de_op od_sub (de_ix (de_name (pv 5) hk) (de_name (pv 4) hk)) (de_int hk)) (da_nil hk)))) (dg_tup rfl (dgs_cons (dg_ix (pv 5) (de_name (pv 3) hk)) (dgs_cons (dg_ix (pv 5) (de_name (pv 4) hk)) (dgs_nil hk)))))
    (dss_cons (ds_for PassesOwn.never rfl (di_val (de_tup (da_cons (de_callTy cd_tuple (by rfl) hx.z_tuple PyProof.Rows.boot_tuple (da_cons (de_name (pv 5) hk) (da_nil hk))) (da_cons (de_gm G__law_small_row hT hr (by decide) (by rfl) (da_cons (de_name (pv 0) hk) (da_cons (de_name (pv 1) hk) (da_cons (de_int hk) (da_nil hk))))) (da_cons (de_gf G__law_cubic hT hr (by decide) (by rfl) (da_cons (de_name (pv 1) hk) (da_nil hk))) (da_cons (de_op od_mulA (de_tup (da_cons (de_int hk) (da_nil hk))) (de_op od_add (de_name (pv 1) hk) (de_int hk))) (da_nil hk))))))) (dg_name (i := 6) (.inl (by decide)) (pg_name (i := 6) sc__law_cell_right.nd rfl (.inl rfl)) hk)
    (dss_one (ds_if (dt_not (dt_truth (de_gf G__law_told_right hT hr (by decide) (by rfl) (da_cons (de_name (pv 6) hk) (da_nil hk))))) (dss_one (ds_ret (de_bl hk))) (dss_nil hk))))
    (dss_cons (ds_asg (de_gm G__law_one_of hT hr (by decide) (by rfl) (da_cons (de_name (pv 0) hk) (da_cons (de_gf G__law_false_ones hT hr (by decide) (by rfl) (da_cons (de_name (pv 1) hk) (da_nil hk))) (da_nil hk)))) (dg_name (i := 7) (.inl (by decide)) (pg_name (i := 7) sc__law_cell_right.nd rfl (.inl rfl)) hk))
    (dss_cons (ds_asg (de_gf G__law_moved hT hr (by decide) (by rfl) (da_cons (de_name (pv 7) hk) (da_cons (de_gm G__law_word hT hr (by decide) (by rfl) (da_cons (de_name (pv 0) hk) (da_cons (de_name (pv 1) hk) (da_cons (de_int hk) (da_nil hk))))) (da_nil hk)))) (dg_name (i := 8) (.inl (by decide)) (pg_name (i := 8) sc__law_cell_right.nd rfl (.inl rfl)) hk))
    (dss_cons (ds_if (DW.dt (dw_or (dt_cmp (od_ne hu64) (de_gf G__law_times hT hr (by decide) (by rfl) (da_cons (de_name (pv 8) hk) (da_cons (de_name (pv 8) hk) (da_nil hk)))) (de_neg (de_int hk))) (dw_or1 (dt_cmp (od_ne hu64) (de_gf G__law_times hT hr (by decide) (by rfl) (da_cons (de_name (pv 8) hk) (da_cons (de_gf G__law_cubic hT hr (by decide) (by rfl) (da_cons (de_name (pv 1) hk) (da_nil hk))) (da_nil hk)))) (de_int hk))))) (dss_one (ds_ret (de_bl hk))) (dss_nil hk))
    (dss_one (ds_ret (de_and (de_not (de_gf G_is_led_to_point hT hr (by decide) (by rfl) (da_cons (de_name (pv 8) hk) (da_nil hk)))) (de_and (de_cmp od_is (de_gf G_word_to_point hT hr (by decide) (by rfl) (da_cons (de_name (pv 8) hk) (da_nil hk))) (de_non hk)) (de_one (de_cmp od_is (de_gf G_word_to_point hT hr (by decide) (by rfl) (da_cons (de_name (pv 7) hk) (da_nil hk))) (de_non hk)))))))))))))))))
theorem der_law (hx : Fx K w mg) (G__law_dice : GF P0 w K mg base T 1 2 "_law_dice" P__law_dice []) (G__law_cell_right : GM P0 w K mg base T 8 1 "_law_cell_right" P__law_cell_right) (G__law_squares_right : GM P0 w K mg base T 8 1 "_law_squares_right" P__law_squares_right) {cdv : Value} {A : Around} {outer : List Env} {s : Shared} {H : Hp} {E : XK} {B : Bg} (hk : B.K = K) (hT : B.T = T) (hM : B.M = none) (hr : Room 8 (A.deeper (envOfC "law" (defScope s_law) s.heap.objs.size f cdv))) :
    DSs (cxOf CX0 P0 w K mg base N_law "law" (defScope s_law) f cdv A outer s H E).nox B (defBody s_law) t_law := by
  have hu64 := room64 hr
  have hu65 := room65 hr
  exact (dss_cons (ds_for PassesOwn.never rfl (di_range1 (by rfl) hx.z_range (da_cons (de_callB (cd_max2 rfl) (by rfl) hx.z_max PyProof.Rows.boot_max (da_cons (de_int hk) (da_cons (de_callB (cd_min2 rfl) (by rfl) hx.z_min PyProof.Rows.boot_min (da_cons (de_int hk) (da_cons (de_callB cd_len (by rfl) hx.z_len PySem.boot_len (da_cons (de_name (pv 0) hk) (da_nil hk))) (da_nil hk)))) (da_nil hk)))) (da_nil hk))) (dg_name (i := 1) (.inl (by decide)) (pg_name (i := 1) sc_law.nd rfl (.inl rfl)) hk)
    (dss_cons (ds_asg (de_gf G__law_dice hT hr (by decide) (by rfl) (da_cons (de_name (pv 0) hk) (da_cons (de_name (pv 1) hk) (da_nil hk)))) (dg_name (i := 2) (.inl (by decide)) (pg_name (i := 2) sc_law.nd rfl (.inl rfl)) hk))
    (dss_one (ds_if (dt_not (dt_truth (de_gm G__law_cell_right hT hr (by decide) (by rfl) (da_cons (de_name (pv 2) hk) (da_nil hk))))) (dss_one (ds_ret (de_bl hk))) (dss_nil hk)))))
    (dss_one (ds_ret (de_gm G__law_squares_right hT hr (by decide) (by rfl) (da_cons (de_gf G__law_dice hT hr (by decide) (by rfl) (da_cons (de_name (pv 0) hk) (da_cons (de_int hk) (da_nil hk)))) (da_nil hk))))))
end
end K82

set_option Elab.async false
set_option linter.all false
set_option pp.deepTerms false
set_option maxRecDepth 100000
set_option maxHeartbeats 4000000
namespace K82
open PySem PySem.Spec PyProof.Rows L2 L3
local macro_rules | `(tactic| nofun) => `(tactic| repeat (first | with_reducible refine w_seq ?_ | with_reducible refine w_nx ?_ | with_reducible refine w_ret ?_ | with_reducible refine w_retN ?_ | with_reducible refine w_drop ?_ | with_reducible refine w_ifS ?_ | with_reducible refine w_asg ?_ | with_reducible refine w_for ?_ | with_reducible refine w_forC ?_ | with_reducible refine w_forN ?_ | with_reducible refine w_K ?_ | with_reducible refine w_N (by with_unfolding_all rfl) ?_ | with_reducible refine w_No (by with_unfolding_all rfl) ?_ | with_reducible refine w_2 ?_ | with_reducible refine w_nilA ?_ | with_reducible refine w_consA ?_ | with_reducible refine w_CD ?_ | with_reducible refine w_call ?_ | with_reducible refine w_add ?_ | with_reducible refine w_sub ?_ | with_reducible refine w_mul (cmw (by omega) (by omega)) ?_ | with_reducible refine w_mul (cmw (by first | decide | exact bd (by assumption)) (by first | decide | exact bd (by assumption))) ?_ | with_reducible refine w_slcT ?_ | with_reducible refine w_slR ?_ | with_reducible refine w_sumT ?_ | with_reducible refine w_sumL ?_ | with_reducible refine w_comp ?_ | with_reducible refine w_zip ?_ | with_reducible refine w_zipT (by with_unfolding_all rfl) ?_ | with_reducible refine w_zipL (by with_unfolding_all rfl) ?_ | with_reducible refine w_itv ?_ | with_reducible refine w_itvT (by with_unfolding_all rfl) ?_ | with_reducible refine w_itvL (by with_unfolding_all rfl) ?_ | with_reducible refine w_par ?_ | with_reducible refine w_tup1S ?_ | with_reducible refine w_s1L (by first | omega | (simp only [List.length_map, List.length_tail, List.length_reverse]; omega)) ?_ | with_reducible refine w_s1T (by first | omega | (simp only [List.length_map, List.length_tail, List.length_cons, List.length_nil]; omega)) ?_ | with_reducible refine w_minT (nn (by first | omega | (simp only [List.length_tail]; omega))) ?_ | with_reducible refine w_maxT (nn (by first | omega | (simp only [List.length_tail]; omega))) ?_ | with_reducible refine w_tup ?_ | with_reducible refine w_lst ?_ | with_reducible refine w_toL ?_ | with_reducible refine w_toLL ?_ | with_reducible refine w_toT ?_ | with_reducible refine w_gIx ⟨(by with_unfolding_all rfl), (by with_unfolding_all rfl)⟩ ?_ | with_reducible refine w_gIxR (by with_unfolding_all rfl) (by omega) (by first | omega | (simp only [List.length_set]; omega)) ?_ | with_reducible refine w_gNil ?_ | with_reducible refine w_gCons ?_ | with_reducible refine w_gTup (by with_unfolding_all rfl) ?_ | with_reducible refine w_tst ?_ | with_reducible refine w_tstB ?_ | with_reducible refine w_tru ?_ | with_reducible refine w_truB ?_ | with_reducible refine w_orL ?_ | with_reducible refine w_andL ?_ | with_reducible refine w_notL ?_ | with_reducible refine w_yes ?_ | with_reducible refine w_lenT ?_ | with_reducible refine w_lenL ?_ | with_reducible refine w_isiT (by with_unfolding_all rfl) (by with_unfolding_all decide) (by with_unfolding_all rfl) ?_ | with_reducible refine w_isiF (by with_unfolding_all rfl) (by with_unfolding_all decide) (by with_unfolding_all rfl) ?_ | with_reducible refine w_allT ?_ | with_reducible refine w_t (by with_unfolding_all rfl) ?_ | with_reducible refine w_f (by with_unfolding_all rfl) ?_ | with_reducible refine w_kin ?_ | with_reducible refine w_kget ?_ | with_reducible refine w_slc ?_ | with_reducible refine w_nop ?_ | with_reducible refine w_bk ?_ | with_reducible refine w_ifE ?_ | with_reducible refine w_ng ?_ | with_reducible refine w_ngI ?_ | with_reducible refine w_andV ?_ | with_reducible refine w_andB ?_ | with_reducible refine w_orV ?_ | with_reducible refine w_orB ?_ | with_reducible refine w_notV ?_ | with_reducible refine w_notB ?_ | with_reducible refine w_isNt ?_ | with_reducible refine w_maxL (nn (by first | omega | (simp only [List.length_tail]; omega))) ?_ | with_reducible refine w_addL (by simp only [List.length_append, List.length_replicate, List.length_cons, List.length_nil, List.length_map, List.length_take]; omega) ?_ | with_reducible refine w_repT2 (by first | decide | omega) (by first | decide | omega) ?_ | with_reducible refine w_addT (by simp only [List.length_append, List.length_replicate, List.length_cons, List.length_nil, List.length_map]; omega) ?_ | with_reducible refine w_toL ?_ | with_reducible refine w_toLL ?_ | with_reducible refine w_toT ?_ | with_reducible refine w_mul (cm2 (by first | decide | omega) (by first | decide | omega)) ?_ | with_reducible refine w_lenS ?_ | with_reducible refine w_fd (by first | assumption | decide | omega) (by first | decide | omega) ?_ | with_reducible refine w_ixCL (by with_unfolding_all rfl) ?_ | with_reducible refine w_gIxC (by with_unfolding_all rfl) (by with_unfolding_all rfl) ?_ | with_reducible refine w_mod (by first | assumption | omega) ?_ | with_reducible refine w_chn ?_ | with_reducible refine w_chnB ?_ | with_reducible refine w_isNf ?_ | with_reducible refine w_ifT ?_ | with_reducible refine w_tt ?_ | with_reducible refine w_ff ?_ | with_reducible refine w_star ?_ | with_reducible refine w_starL ?_ | with_reducible refine w_starT ?_ | with_reducible refine w_rev ?_ | with_reducible refine w_revL ?_ | with_reducible refine w_revT ?_ | with_reducible refine w_rng1 ?_ | with_reducible refine w_lrg1 ?_ | with_reducible refine w_qrg1 ?_ | with_reducible refine w_lrg2 ?_ | with_reducible refine w_app (by with_unfolding_all rfl) ?_ | with_reducible refine w_appI (by with_unfolding_all rfl) (by with_unfolding_all rfl) (by simp only [List.length_cons, List.length_nil, List.length_map]; omega) ?_ | with_reducible refine w_pop (by with_unfolding_all rfl) ?_ | with_reducible refine w_callM ?_ | with_reducible refine w_callMN ?_ | with_reducible refine w_callMI (by with_unfolding_all rfl) (by with_unfolding_all rfl) (by with_unfolding_all rfl) ?_ | with_reducible refine w_II ?_ | with_reducible refine w_abs ?_ | with_reducible refine w_intI ?_ | with_reducible refine w_intB ?_ | with_reducible refine w_srtL ?_ | with_reducible refine w_srtT ?_ | with_reducible refine w_srtRT ?_ | with_reducible refine w_slTo ?_ | with_reducible refine w_slToL ?_ | with_reducible refine w_aug (by with_unfolding_all rfl) ?_ | with_reducible refine w_augI ?_ | with_reducible refine w_gUn ?_ | with_reducible refine w_unL (by with_unfolding_all rfl) ?_ | with_reducible refine w_sortLam ?_ | with_reducible refine w_neL ?_ | with_reducible refine w_neB ?_ | with_reducible refine w_prt ?_ | with_reducible refine w_prtI ?_ | with_reducible refine w_lt ?_ | with_reducible refine w_le ?_ | with_reducible refine w_gt ?_ | with_reducible refine w_ge ?_ | with_reducible refine w_eqI ?_ | with_reducible refine w_neI ?_ | with_reducible refine w_eqR ?_ | with_reducible refine w_eqL ?_ | with_reducible refine w_ixR (by simp only [List.length_tail]; omega) (by simp only [List.length_tail]; omega) ?_ | with_reducible refine w_ixR (by omega) (by omega) ?_ | with_reducible refine w_ixL (by omega) (by first | omega | (simp only [List.length_set]; omega)) ?_ | with_reducible refine w_ixC (by with_unfolding_all rfl) ?_ | with_reducible refine w_gNm (by with_unfolding_all rfl) ?_ | with_reducible refine w_gNn ?_ | with_reducible refine ⟨(by with_unfolding_all rfl), ?_⟩ | with_reducible refine ⟨⟨(by with_unfolding_all rfl), (by with_unfolding_all rfl)⟩, ?_⟩ | with_reducible refine ⟨⟨(by with_unfolding_all rfl), sz (by simp only [List.length_cons, List.length_nil]; omega)⟩, ?_⟩ | (simp only [val_dat, val_new, val_ref, List.getElem?_cons_zero, List.getElem?_cons_succ, tupI, List.map_cons, List.map_nil, startR, startM, frzs, setsR, slotW, anyRef, wipeR, unwipe, List.any_cons, List.any_nil, List.filter_cons, List.filter_nil, List.length_cons, List.length_nil, List.replicate, List.set_cons_zero, List.set_cons_succ, List.cons_append, List.nil_append, Bool.or_false, Bool.or_self, Bool.false_eq_true, if_false, List.getD_cons_zero, List.getD_cons_succ, Nat.reduceSub, Nat.reduceAdd])))
theorem sem_is_whole (ds : List D) (Q : W → Prop) (h : P_is_whole ds Q) : t_is_whole { nx := fun _ => Q (.dat .non), rt := fun w _ => Q w } (startR N_is_whole.length ds) := by
  obtain ⟨i, rfl, q⟩ := h
  simp [ints_eq, tupI_eq, tups_eq, all_tt, and_assoc, shp_int, shp_bl, eqD_int, eqD_str, eqD_row, eqD_lst, shp_row, shp_lst, startR, tSeqL, tIfSL, tOrL, tAndL, tNotL, tTru, truD, tTst, tRetL, tRetNL, tNxL, tDropL, t2, tCD, aCons, aNil, tN, tK, val, rdLen, walkOf, rdAdd, rdSub, rdI0, rdI, setsR, slotW, fitI, isRef, gIx, tTupL, tLstL, tParL, rdList, rdTuple, tSlc, tPrt, tNoP, rdSl, cut_tl,  rdMulA, rdMod, rdFdiv, rdIsi, tyD, tyTo, isS, retW, nz, frzs, frzAt, anyRef, tChn, rdLe, rdLt, rdGt, rdGe, rdEq, rdNe, rdBs, rdAbs, rdNs, rdIx, tComp, tItv, noOwn, isOwn, wipeR, unwipe, tCallL, tAsgL, gNm, L3.tAndV, L3.tOrV, L3.tNotV, t_is_whole, q]
theorem sem_is_integer (ds : List D) (Q : W → Prop) (h : P_is_integer ds Q) : t_is_integer { nx := fun _ => Q (.dat .non), rt := fun w _ => Q w } (startR N_is_integer.length ds) := by
  obtain ⟨i, rfl, hi, q⟩ := h
  simp [ints_eq, tupI_eq, tups_eq, all_tt, and_assoc, shp_int, shp_bl, eqD_int, eqD_str, eqD_row, eqD_lst, shp_row, shp_lst, startR, tSeqL, tIfSL, tOrL, tAndL, tNotL, tTru, truD, tTst, tRetL, tRetNL, tNxL, tDropL, t2, tCD, aCons, aNil, tN, tK, val, rdLen, walkOf, rdAdd, rdSub, rdI0, rdI, setsR, slotW, fitI, isRef, gIx, tTupL, tLstL, tParL, rdList, rdTuple, tSlc, tPrt, tNoP, rdSl, cut_tl,  rdMulA, rdMod, rdFdiv, rdIsi, tyD, tyTo, isS, retW, nz, frzs, frzAt, anyRef, tChn, rdLe, rdLt, rdGt, rdGe, rdEq, rdNe, rdBs, rdAbs, rdNs, rdIx, tComp, tItv, noOwn, isOwn, wipeR, unwipe, tCallL, tAsgL, gNm, L3.tAndV, L3.tOrV, L3.tNotV, t_is_integer, P_is_whole, K_HUNDRED_DIGITS]
  refine ⟨by unfold CMulW; decide +kernel, ?_⟩
  rw [decide_eq_true (by omega)]
  exact q
theorem sem_is_within (ds : List D) (Q : W → Prop) (h : P_is_within ds Q) : t_is_within { nx := fun _ => Q (.dat .non), rt := fun w _ => Q w } (startR N_is_within.length ds) := by
  obtain ⟨i, a, b, rfl, q⟩ := h
  simp [ints_eq, tupI_eq, tups_eq, all_tt, and_assoc, shp_int, shp_bl, eqD_int, eqD_str, eqD_row, eqD_lst, shp_row, shp_lst, startR, tSeqL, tIfSL, tOrL, tAndL, tNotL, tTru, truD, tTst, tRetL, tRetNL, tNxL, tDropL, t2, tCD, aCons, aNil, tN, tK, val, rdLen, walkOf, rdAdd, rdSub, rdI0, rdI, setsR, slotW, fitI, isRef, gIx, tTupL, tLstL, tParL, rdList, rdTuple, tSlc, tPrt, tNoP, rdSl, cut_tl,  rdMulA, rdMod, rdFdiv, rdIsi, tyD, tyTo, isS, retW, nz, frzs, frzAt, anyRef, tChn, rdLe, rdLt, rdGt, rdGe, rdEq, rdNe, rdBs, rdAbs, rdNs, rdIx, tComp, tItv, noOwn, isOwn, wipeR, unwipe, tCallL, tAsgL, gNm, L3.tAndV, L3.tOrV, L3.tNotV, t_is_within, P_is_whole]
  by_cases h1 : a ≤ i
  · rw [if_pos h1]; simpa [h1] using q
  · rw [if_neg h1]; simpa [h1] using q
theorem prime_is {p : Int} (h : PrimeOk p) : p = 32003 ∨ p = 65521 ∨ p = 10007 ∨ p = 30011 := by simpa [PrimeOk] using h
theorem sem_is_prime_in (ds : List D) (Q : W → Prop) (h : P_is_prime_in ds Q) : t_is_prime_in { nx := fun _ => Q (.dat .non), rt := fun w _ => Q w } (startR N_is_prime_in.length ds) := by
  obtain ⟨p, rfl, hp, q⟩ := h
  have hb : 5 ≤ p ∧ p ≤ 65521 ∧ p % 2 = 1 := by rcases prime_is hp with h | h | h | h <;> subst h <;> decide
  simp [ints_eq, tupI_eq, tups_eq, all_tt, and_assoc, shp_int, shp_bl, eqD_int, eqD_str, eqD_row, eqD_lst, shp_row, shp_lst, startR, tSeqL, tIfSL, tOrL, tAndL, tNotL, tTru, truD, tTst, tRetL, tRetNL, tNxL, tDropL, t2, tCD, aCons, aNil, tN, tK, val, rdLen, walkOf, rdAdd, rdSub, rdI0, rdI, setsR, slotW, fitI, isRef, gIx, tTupL, tLstL, tParL, rdList, rdTuple, tSlc, tPrt, tNoP, rdSl, cut_tl,  rdMulA, rdMod, rdFdiv, rdIsi, tyD, tyTo, isS, retW, nz, frzs, frzAt, anyRef, tChn, rdLe, rdLt, rdGt, rdGe, rdEq, rdNe, rdBs, rdAbs, rdNs, rdIx, tComp, tItv, noOwn, isOwn, wipeR, unwipe, tCallL, tAsgL, gNm, L3.tAndV, L3.tOrV, L3.tNotV, t_is_prime_in, P_is_within]
  rw [if_neg (by omega), hb.2.2]
  simp [ints_eq, tupI_eq, tups_eq, all_tt, and_assoc, shp_int, shp_bl, eqD_int, eqD_str, eqD_row, eqD_lst, shp_row, shp_lst, startR, tSeqL, tIfSL, tOrL, tAndL, tNotL, tTru, truD, tTst, tRetL, tRetNL, tNxL, tDropL, t2, tCD, aCons, aNil, tN, tK, val, rdLen, walkOf, rdAdd, rdSub, rdI0, rdI, setsR, slotW, fitI, isRef, gIx, tTupL, tLstL, tParL, rdList, rdTuple, tSlc, tPrt, tNoP, rdSl, cut_tl,  rdMulA, rdMod, rdFdiv, rdIsi, tyD, tyTo, isS, retW, nz, frzs, frzAt, anyRef, tChn, rdLe, rdLt, rdGt, rdGe, rdEq, rdNe, rdBs, rdAbs, rdNs, rdIx, tComp, tItv, noOwn, isOwn, wipeR, unwipe, tCallL, tAsgL, gNm, L3.tAndV, L3.tOrV, L3.tNotV, tRng3]
  refine ⟨127, by unfold RgC; decide +kernel, ?_⟩
  rw [show ((List.range 127).map fun k : Nat => D.int (3 + k * 2)) = (List.range 127).map (fun k : Nat => D.int (3 + k * 2)) from rfl]
  refine dcomp_run (fun k : Nat => D.int (3 + k * 2)) (fun k => decide ((3 + (k : Int) * 2) * (3 + k * 2) ≤ p)) (fun k => .bl (p % (3 + k * 2) != 0)) (List.range 127) [] (fun x hx C C2 h1 h2 => ?_) (sz (by decide)) ?_
  · have hx2 : x < 127 := List.mem_range.mp hx
    have ep : p.natAbs < 2 ^ 1000 := Nat.lt_trans (by omega) (show 100000 < 2 ^ 1000 by decide +kernel)
    have ex : (3 + (x : Int) * 2).natAbs < 2 ^ 1000 := Nat.lt_trans (by omega) (show 100000 < 2 ^ 1000 by decide +kernel)
    nofun
    by_cases hle : (3 + (x : Int) * 2) * (3 + x * 2) ≤ p
    · refine w_t (decide_eq_true hle) ?_
      nofun
      exact h1 (decide_eq_true hle) _ _ rfl rfl rfl
    · refine w_f (decide_eq_false hle) ?_
      exact h2 (decide_eq_false hle) _ rfl
  · rw [List.nil_append, blsOf_mapF]
    have e : (List.map (fun k : Nat => p % (3 + (k : Int) * 2) != 0) (List.filter (fun k : Nat => decide ((3 + (k : Int) * 2) * (3 + k * 2) ≤ p)) (List.range 127))).all id = true := by
      rcases prime_is hp with h | h | h | h <;> subst h <;> decide +kernel
    simp only [e]
    exact q
theorem sem_require_prime (ds : List D) (Q : W → Prop) (h : P_require_prime ds Q) : t_require_prime { nx := fun _ => Q (.dat .non), rt := fun w _ => Q w } (startR N_require_prime.length ds) := by
  obtain ⟨p, rfl, hp, q⟩ := h
  simp [ints_eq, tupI_eq, tups_eq, all_tt, and_assoc, shp_int, shp_bl, eqD_int, eqD_str, eqD_row, eqD_lst, shp_row, shp_lst, startR, tSeqL, tIfSL, tOrL, tAndL, tNotL, tTru, truD, tTst, tRetL, tRetNL, tNxL, tDropL, t2, tCD, aCons, aNil, tN, tK, val, rdLen, walkOf, rdAdd, rdSub, rdI0, rdI, setsR, slotW, fitI, isRef, gIx, tTupL, tLstL, tParL, rdList, rdTuple, tSlc, tPrt, tNoP, rdSl, cut_tl,  rdMulA, rdMod, rdFdiv, rdIsi, tyD, tyTo, isS, retW, nz, frzs, frzAt, anyRef, tChn, rdLe, rdLt, rdGt, rdGe, rdEq, rdNe, rdBs, rdAbs, rdNs, rdIx, tComp, tItv, noOwn, isOwn, wipeR, unwipe, tCallL, tAsgL, gNm, L3.tAndV, L3.tOrV, L3.tNotV, t_require_prime, P_is_prime_in, hp, q]
theorem sem_is_point_in (ds : List D) (Q : W → Prop) (h : P_is_point_in ds Q) : t_is_point_in { nx := fun _ => Q (.dat .non), rt := fun w _ => Q w } (startR N_is_point_in.length ds) := by
  obtain ⟨p, t, rfl, ⟨h1, h2, h3⟩, q⟩ := h
  simp [ints_eq, tupI_eq, tups_eq, all_tt, and_assoc, shp_int, shp_bl, eqD_int, eqD_str, eqD_row, eqD_lst, shp_row, shp_lst, startR, tSeqL, tIfSL, tOrL, tAndL, tNotL, tTru, truD, tTst, tRetL, tRetNL, tNxL, tDropL, t2, tCD, aCons, aNil, tN, tK, val, rdLen, walkOf, rdAdd, rdSub, rdI0, rdI, setsR, slotW, fitI, isRef, gIx, tTupL, tLstL, tParL, rdList, rdTuple, tSlc, tPrt, tNoP, rdSl, cut_tl,  rdMulA, rdMod, rdFdiv, rdIsi, tyD, tyTo, isS, retW, nz, frzs, frzAt, anyRef, tChn, rdLe, rdLt, rdGt, rdGe, rdEq, rdNe, rdBs, rdAbs, rdNs, rdIx, tComp, tItv, noOwn, isOwn, wipeR, unwipe, tCallL, tAsgL, gNm, L3.tAndV, L3.tOrV, L3.tNotV, t_is_point_in, tupI, tNextL, tRevL']
  rw [if_pos (by omega)]
  refine dcomp_all D.int (fun _ => .bl true) t (fun x hx C hC => ?_) (sz (by omega)) ?_
  · have := h2 x hx
    simp [ints_eq, tupI_eq, tups_eq, all_tt, and_assoc, shp_int, shp_bl, eqD_int, eqD_str, eqD_row, eqD_lst, shp_row, shp_lst, startR, tSeqL, tIfSL, tOrL, tAndL, tNotL, tTru, truD, tTst, tRetL, tRetNL, tNxL, tDropL, t2, tCD, aCons, aNil, tN, tK, val, rdLen, walkOf, rdAdd, rdSub, rdI0, rdI, setsR, slotW, fitI, isRef, gIx, tTupL, tLstL, tParL, rdList, rdTuple, tSlc, tPrt, tNoP, rdSl, cut_tl,  rdMulA, rdMod, rdFdiv, rdIsi, tyD, tyTo, isS, retW, nz, frzs, frzAt, anyRef, tChn, rdLe, rdLt, rdGt, rdGe, rdEq, rdNe, rdBs, rdAbs, rdNs, rdIx, tComp, tItv, noOwn, isOwn, wipeR, unwipe, tCallL, tAsgL, gNm, L3.tAndV, L3.tOrV, L3.tNotV, P_is_within]
    rw [decide_eq_true this.1, decide_eq_true this.2]
    exact hC _ _ rfl rfl rfl
  · rw [blsOf_mapF]
    simp
    refine ⟨t.reverse, by simp, ?_⟩
    rw [h3]; exact q
theorem sem_are_points_in (ds : List D) (Q : W → Prop) (h : P_are_points_in ds Q) : t_are_points_in { nx := fun _ => Q (.dat .non), rt := fun w _ => Q w } (startR N_are_points_in.length ds) := by
  obtain ⟨p, ts, rfl, ⟨h1, h2, h3, h4⟩, q⟩ := h
  simp [ints_eq, tupI_eq, tups_eq, all_tt, and_assoc, shp_int, shp_bl, eqD_int, eqD_str, eqD_row, eqD_lst, shp_row, shp_lst, startR, tSeqL, tIfSL, tOrL, tAndL, tNotL, tTru, truD, tTst, tRetL, tRetNL, tNxL, tDropL, t2, tCD, aCons, aNil, tN, tK, val, rdLen, walkOf, rdAdd, rdSub, rdI0, rdI, setsR, slotW, fitI, isRef, gIx, tTupL, tLstL, tParL, rdList, rdTuple, tSlc, tPrt, tNoP, rdSl, cut_tl,  rdMulA, rdMod, rdFdiv, rdIsi, tyD, tyTo, isS, retW, nz, frzs, frzAt, anyRef, tChn, rdLe, rdLt, rdGt, rdGe, rdEq, rdNe, rdBs, rdAbs, rdNs, rdIx, tComp, tItv, noOwn, isOwn, wipeR, unwipe, tCallL, tAsgL, gNm, L3.tAndV, L3.tOrV, L3.tNotV, t_are_points_in, ptsD, tLenSetT]
  rw [if_pos (by omega), if_neg (by omega)]
  refine dcomp_all tupI (fun _ => .bl true) ts (fun x hx C hC => ?_) (sz (by omega)) ?_
  · simp [ints_eq, tupI_eq, tups_eq, all_tt, and_assoc, shp_int, shp_bl, eqD_int, eqD_str, eqD_row, eqD_lst, shp_row, shp_lst, startR, tSeqL, tIfSL, tOrL, tAndL, tNotL, tTru, truD, tTst, tRetL, tRetNL, tNxL, tDropL, t2, tCD, aCons, aNil, tN, tK, val, rdLen, walkOf, rdAdd, rdSub, rdI0, rdI, setsR, slotW, fitI, isRef, gIx, tTupL, tLstL, tParL, rdList, rdTuple, tSlc, tPrt, tNoP, rdSl, cut_tl,  rdMulA, rdMod, rdFdiv, rdIsi, tyD, tyTo, isS, retW, nz, frzs, frzAt, anyRef, tChn, rdLe, rdLt, rdGt, rdGe, rdEq, rdNe, rdBs, rdAbs, rdNs, rdIx, tComp, tItv, noOwn, isOwn, wipeR, unwipe, tCallL, tAsgL, gNm, L3.tAndV, L3.tOrV, L3.tNotV, P_is_point_in]
    exact ⟨h3 x hx, hC _ _ rfl rfl rfl⟩
  · rw [blsOf_mapF]
    simp [ints_eq, tupI_eq, tups_eq, all_tt, and_assoc, shp_int, shp_bl, eqD_int, eqD_str, eqD_row, eqD_lst, shp_row, shp_lst, startR, tSeqL, tIfSL, tOrL, tAndL, tNotL, tTru, truD, tTst, tRetL, tRetNL, tNxL, tDropL, t2, tCD, aCons, aNil, tN, tK, val, rdLen, walkOf, rdAdd, rdSub, rdI0, rdI, setsR, slotW, fitI, isRef, gIx, tTupL, tLstL, tParL, rdList, rdTuple, tSlc, tPrt, tNoP, rdSl, cut_tl,  rdMulA, rdMod, rdFdiv, rdIsi, tyD, tyTo, isS, retW, nz, frzs, frzAt, anyRef, tChn, rdLe, rdLt, rdGt, rdGe, rdEq, rdNe, rdBs, rdAbs, rdNs, rdIx, tComp, tItv, noOwn, isOwn, wipeR, unwipe, tCallL, tAsgL, gNm, L3.tAndV, L3.tOrV, L3.tNotV]
    refine ⟨by omega, ?_⟩
    rw [ddL_id _ h4]
    simpa using q
theorem sem_require_points (ds : List D) (Q : W → Prop) (h : P_require_points ds Q) : t_require_points { nx := fun _ => Q (.dat .non), rt := fun w _ => Q w } (startR N_require_points.length ds) := by
  obtain ⟨p, ts, rfl, h1, h2, q⟩ := h
  simp [ints_eq, tupI_eq, tups_eq, all_tt, and_assoc, shp_int, shp_bl, eqD_int, eqD_str, eqD_row, eqD_lst, shp_row, shp_lst, startR, tSeqL, tIfSL, tOrL, tAndL, tNotL, tTru, truD, tTst, tRetL, tRetNL, tNxL, tDropL, t2, tCD, aCons, aNil, tN, tK, val, rdLen, walkOf, rdAdd, rdSub, rdI0, rdI, setsR, slotW, fitI, isRef, gIx, tTupL, tLstL, tParL, rdList, rdTuple, tSlc, tPrt, tNoP, rdSl, cut_tl,  rdMulA, rdMod, rdFdiv, rdIsi, tyD, tyTo, isS, retW, nz, frzs, frzAt, anyRef, tChn, rdLe, rdLt, rdGt, rdGe, rdEq, rdNe, rdBs, rdAbs, rdNs, rdIx, tComp, tItv, noOwn, isOwn, wipeR, unwipe, tCallL, tAsgL, gNm, L3.tAndV, L3.tOrV, L3.tNotV, t_require_points, P_require_prime, P_are_points_in]
  refine ⟨h1, ts, rfl, h2, q⟩
theorem sem_points_of (ds : List D) (Q : W → Prop) (h : P_points_of ds Q) : t_points_of { nx := fun _ => Q (.dat .non), rt := fun w _ => Q w } (startR N_points_of.length ds) := by
  obtain ⟨r, rfl, q⟩ := h
  simp [ints_eq, tupI_eq, tups_eq, all_tt, and_assoc, shp_int, shp_bl, eqD_int, eqD_str, eqD_row, eqD_lst, shp_row, shp_lst, startR, tSeqL, tIfSL, tOrL, tAndL, tNotL, tTru, truD, tTst, tRetL, tRetNL, tNxL, tDropL, t2, tCD, aCons, aNil, tN, tK, val, rdLen, walkOf, rdAdd, rdSub, rdI0, rdI, setsR, slotW, fitI, isRef, gIx, tTupL, tLstL, tParL, rdList, rdTuple, tSlc, tPrt, tNoP, rdSl, cut_tl,  rdMulA, rdMod, rdFdiv, rdIsi, tyD, tyTo, isS, retW, nz, frzs, frzAt, anyRef, tChn, rdLe, rdLt, rdGt, rdGe, rdEq, rdNe, rdBs, rdAbs, rdNs, rdIx, tComp, tItv, noOwn, isOwn, wipeR, unwipe, tCallL, tAsgL, gNm, L3.tAndV, L3.tOrV, L3.tNotV, t_points_of, tupI, q]
theorem sem_is_row_in (ds : List D) (Q : W → Prop) (h : P_is_row_in ds Q) : t_is_row_in { nx := fun _ => Q (.dat .non), rt := fun w _ => Q w } (startR N_is_row_in.length ds) := by
  obtain ⟨r, rfl, ⟨h1, h2, h3⟩, q⟩ := h
  simp [ints_eq, tupI_eq, tups_eq, all_tt, and_assoc, shp_int, shp_bl, eqD_int, eqD_str, eqD_row, eqD_lst, shp_row, shp_lst, startR, tSeqL, tIfSL, tOrL, tAndL, tNotL, tTru, truD, tTst, tRetL, tRetNL, tNxL, tDropL, t2, tCD, aCons, aNil, tN, tK, val, rdLen, walkOf, rdAdd, rdSub, rdI0, rdI, setsR, slotW, fitI, isRef, gIx, tTupL, tLstL, tParL, rdList, rdTuple, tSlc, tPrt, tNoP, rdSl, cut_tl,  rdMulA, rdMod, rdFdiv, rdIsi, tyD, tyTo, isS, retW, nz, frzs, frzAt, anyRef, tChn, rdLe, rdLt, rdGt, rdGe, rdEq, rdNe, rdBs, rdAbs, rdNs, rdIx, tComp, tItv, noOwn, isOwn, wipeR, unwipe, tCallL, tAsgL, gNm, L3.tAndV, L3.tOrV, L3.tNotV, t_is_row_in, tupI]
  rw [if_pos (by omega), if_neg (by omega)]
  refine dcomp_all D.int (fun _ => .bl true) r (fun x hx C hC => ?_) (sz (by omega)) ?_
  · simp [ints_eq, tupI_eq, tups_eq, all_tt, and_assoc, shp_int, shp_bl, eqD_int, eqD_str, eqD_row, eqD_lst, shp_row, shp_lst, startR, tSeqL, tIfSL, tOrL, tAndL, tNotL, tTru, truD, tTst, tRetL, tRetNL, tNxL, tDropL, t2, tCD, aCons, aNil, tN, tK, val, rdLen, walkOf, rdAdd, rdSub, rdI0, rdI, setsR, slotW, fitI, isRef, gIx, tTupL, tLstL, tParL, rdList, rdTuple, tSlc, tPrt, tNoP, rdSl, cut_tl,  rdMulA, rdMod, rdFdiv, rdIsi, tyD, tyTo, isS, retW, nz, frzs, frzAt, anyRef, tChn, rdLe, rdLt, rdGt, rdGe, rdEq, rdNe, rdBs, rdAbs, rdNs, rdIx, tComp, tItv, noOwn, isOwn, wipeR, unwipe, tCallL, tAsgL, gNm, L3.tAndV, L3.tOrV, L3.tNotV, P_is_integer]
    refine ⟨?_, hC _ _ rfl rfl rfl⟩
    have := h3 x hx
    exact Nat.lt_trans this (by decide +kernel)
  · rw [blsOf_mapF]; simpa [all_tt] using q
theorem sem_require_row (ds : List D) (Q : W → Prop) (h : P_require_row ds Q) : t_require_row { nx := fun _ => Q (.dat .non), rt := fun w _ => Q w } (startR N_require_row.length ds) := by
  obtain ⟨r, a, b, rfl, h1, h2, h3, q⟩ := h
  simp [ints_eq, tupI_eq, tups_eq, all_tt, and_assoc, shp_int, shp_bl, eqD_int, eqD_str, eqD_row, eqD_lst, shp_row, shp_lst, startR, tSeqL, tIfSL, tOrL, tAndL, tNotL, tTru, truD, tTst, tRetL, tRetNL, tNxL, tDropL, t2, tCD, aCons, aNil, tN, tK, val, rdLen, walkOf, rdAdd, rdSub, rdI0, rdI, setsR, slotW, fitI, isRef, gIx, tTupL, tLstL, tParL, rdList, rdTuple, tSlc, tPrt, tNoP, rdSl, cut_tl,  rdMulA, rdMod, rdFdiv, rdIsi, tyD, tyTo, isS, retW, nz, frzs, frzAt, anyRef, tChn, rdLe, rdLt, rdGt, rdGe, rdEq, rdNe, rdBs, rdAbs, rdNs, rdIx, tComp, tItv, noOwn, isOwn, wipeR, unwipe, tCallL, tAsgL, gNm, L3.tAndV, L3.tOrV, L3.tNotV, t_require_row, P_is_row_in, P_points_of, h1, h2, h3]
  rw [if_neg (by omega)]
  exact q

end K82

set_option Elab.async false
set_option linter.all false
set_option pp.deepTerms false
set_option maxRecDepth 100000
set_option maxHeartbeats 4000000
namespace K82
open PySem PySem.Spec PyProof.Rows L2 L3
local macro_rules | `(tactic| nofun) => `(tactic| repeat (first | with_reducible refine w_seq ?_ | with_reducible refine w_nx ?_ | with_reducible refine w_ret ?_ | with_reducible refine w_retN ?_ | with_reducible refine w_drop ?_ | with_reducible refine w_ifS ?_ | with_reducible refine w_asg ?_ | with_reducible refine w_for ?_ | with_reducible refine w_forC ?_ | with_reducible refine w_forN ?_ | with_reducible refine w_K ?_ | with_reducible refine w_N (by with_unfolding_all rfl) ?_ | with_reducible refine w_No (by with_unfolding_all rfl) ?_ | with_reducible refine w_2 ?_ | with_reducible refine w_nilA ?_ | with_reducible refine w_consA ?_ | with_reducible refine w_CD ?_ | with_reducible refine w_call ?_ | with_reducible refine w_add ?_ | with_reducible refine w_sub ?_ | with_reducible refine w_mul (cmw (by omega) (by omega)) ?_ | with_reducible refine w_mul (cmw (by first | decide | exact bd (by assumption)) (by first | decide | exact bd (by assumption))) ?_ | with_reducible refine w_slcT ?_ | with_reducible refine w_slR ?_ | with_reducible refine w_sumT ?_ | with_reducible refine w_sumL ?_ | with_reducible refine w_comp ?_ | with_reducible refine w_zip ?_ | with_reducible refine w_zipT (by with_unfolding_all rfl) ?_ | with_reducible refine w_zipL (by with_unfolding_all rfl) ?_ | with_reducible refine w_itv ?_ | with_reducible refine w_itvT (by with_unfolding_all rfl) ?_ | with_reducible refine w_itvL (by with_unfolding_all rfl) ?_ | with_reducible refine w_par ?_ | with_reducible refine w_tup1S ?_ | with_reducible refine w_s1L (by first | omega | (simp only [List.length_map, List.length_tail, List.length_reverse]; omega)) ?_ | with_reducible refine w_s1T (by first | omega | (simp only [List.length_map, List.length_tail, List.length_cons, List.length_nil]; omega)) ?_ | with_reducible refine w_minT (nn (by first | omega | (simp only [List.length_tail]; omega))) ?_ | with_reducible refine w_maxT (nn (by first | omega | (simp only [List.length_tail]; omega))) ?_ | with_reducible refine w_tup ?_ | with_reducible refine w_lst ?_ | with_reducible refine w_toL ?_ | with_reducible refine w_toLL ?_ | with_reducible refine w_toT ?_ | with_reducible refine w_gIx ⟨(by with_unfolding_all rfl), (by with_unfolding_all rfl)⟩ ?_ | with_reducible refine w_gIxR (by with_unfolding_all rfl) (by omega) (by first | omega | (simp only [List.length_set]; omega)) ?_ | with_reducible refine w_gNil ?_ | with_reducible refine w_gCons ?_ | with_reducible refine w_gTup (by with_unfolding_all rfl) ?_ | with_reducible refine w_tst ?_ | with_reducible refine w_tstB ?_ | with_reducible refine w_tru ?_ | with_reducible refine w_truB ?_ | with_reducible refine w_orL ?_ | with_reducible refine w_andL ?_ | with_reducible refine w_notL ?_ | with_reducible refine w_yes ?_ | with_reducible refine w_lenT ?_ | with_reducible refine w_lenL ?_ | with_reducible refine w_isiT (by with_unfolding_all rfl) (by with_unfolding_all decide) (by with_unfolding_all rfl) ?_ | with_reducible refine w_isiF (by with_unfolding_all rfl) (by with_unfolding_all decide) (by with_unfolding_all rfl) ?_ | with_reducible refine w_allT ?_ | with_reducible refine w_t (by with_unfolding_all rfl) ?_ | with_reducible refine w_f (by with_unfolding_all rfl) ?_ | with_reducible refine w_kin ?_ | with_reducible refine w_kget ?_ | with_reducible refine w_slc ?_ | with_reducible refine w_nop ?_ | with_reducible refine w_bk ?_ | with_reducible refine w_ifE ?_ | with_reducible refine w_ng ?_ | with_reducible refine w_ngI ?_ | with_reducible refine w_andV ?_ | with_reducible refine w_andB ?_ | with_reducible refine w_orV ?_ | with_reducible refine w_orB ?_ | with_reducible refine w_notV ?_ | with_reducible refine w_notB ?_ | with_reducible refine w_isNt ?_ | with_reducible refine w_maxL (nn (by first | omega | (simp only [List.length_tail]; omega))) ?_ | with_reducible refine w_addL (by simp only [List.length_append, List.length_replicate, List.length_cons, List.length_nil, List.length_map, List.length_take]; omega) ?_ | with_reducible refine w_repT2 (by first | decide | omega) (by first | decide | omega) ?_ | with_reducible refine w_addT (by simp only [List.length_append, List.length_replicate, List.length_cons, List.length_nil, List.length_map]; omega) ?_ | with_reducible refine w_toL ?_ | with_reducible refine w_toLL ?_ | with_reducible refine w_toT ?_ | with_reducible refine w_mul (cm2 (by first | decide | omega) (by first | decide | omega)) ?_ | with_reducible refine w_lenS ?_ | with_reducible refine w_fd (by first | assumption | decide | omega) (by first | decide | omega) ?_ | with_reducible refine w_ixCL (by with_unfolding_all rfl) ?_ | with_reducible refine w_gIxC (by with_unfolding_all rfl) (by with_unfolding_all rfl) ?_ | with_reducible refine w_mod (by first | assumption | omega) ?_ | with_reducible refine w_chn ?_ | with_reducible refine w_chnB ?_ | with_reducible refine w_isNf ?_ | with_reducible refine w_ifT ?_ | with_reducible refine w_tt ?_ | with_reducible refine w_ff ?_ | with_reducible refine w_star ?_ | with_reducible refine w_starL ?_ | with_reducible refine w_starT ?_ | with_reducible refine w_rev ?_ | with_reducible refine w_revL ?_ | with_reducible refine w_revT ?_ | with_reducible refine w_rng1 ?_ | with_reducible refine w_lrg1 ?_ | with_reducible refine w_qrg1 ?_ | with_reducible refine w_lrg2 ?_ | with_reducible refine w_app (by with_unfolding_all rfl) ?_ | with_reducible refine w_appI (by with_unfolding_all rfl) (by with_unfolding_all rfl) (by simp only [List.length_cons, List.length_nil, List.length_map]; omega) ?_ | with_reducible refine w_pop (by with_unfolding_all rfl) ?_ | with_reducible refine w_callM ?_ | with_reducible refine w_callMN ?_ | with_reducible refine w_callMI (by with_unfolding_all rfl) (by with_unfolding_all rfl) (by with_unfolding_all rfl) ?_ | with_reducible refine w_II ?_ | with_reducible refine w_abs ?_ | with_reducible refine w_intI ?_ | with_reducible refine w_intB ?_ | with_reducible refine w_srtL ?_ | with_reducible refine w_srtT ?_ | with_reducible refine w_srtRT ?_ | with_reducible refine w_slTo ?_ | with_reducible refine w_slToL ?_ | with_reducible refine w_aug (by with_unfolding_all rfl) ?_ | with_reducible refine w_augI ?_ | with_reducible refine w_gUn ?_ | with_reducible refine w_unL (by with_unfolding_all rfl) ?_ | with_reducible refine w_sortLam ?_ | with_reducible refine w_neL ?_ | with_reducible refine w_neB ?_ | with_reducible refine w_prt ?_ | with_reducible refine w_prtI ?_ | with_reducible refine w_lt ?_ | with_reducible refine w_le ?_ | with_reducible refine w_gt ?_ | with_reducible refine w_ge ?_ | with_reducible refine w_eqI ?_ | with_reducible refine w_neI ?_ | with_reducible refine w_eqR ?_ | with_reducible refine w_eqL ?_ | with_reducible refine w_ixR (by simp only [List.length_tail]; omega) (by simp only [List.length_tail]; omega) ?_ | with_reducible refine w_ixR (by omega) (by omega) ?_ | with_reducible refine w_ixL (by omega) (by first | omega | (simp only [List.length_set]; omega)) ?_ | with_reducible refine w_ixC (by with_unfolding_all rfl) ?_ | with_reducible refine w_gNm (by with_unfolding_all rfl) ?_ | with_reducible refine w_gNn ?_ | with_reducible refine ⟨(by with_unfolding_all rfl), ?_⟩ | with_reducible refine ⟨⟨(by with_unfolding_all rfl), (by with_unfolding_all rfl)⟩, ?_⟩ | with_reducible refine ⟨⟨(by with_unfolding_all rfl), sz (by simp only [List.length_cons, List.length_nil]; omega)⟩, ?_⟩ | (simp only [val_dat, val_new, val_ref, List.getElem?_cons_zero, List.getElem?_cons_succ, tupI, List.map_cons, List.map_nil, startR, startM, frzs, setsR, slotW, anyRef, wipeR, unwipe, List.any_cons, List.any_nil, List.filter_cons, List.filter_nil, List.length_cons, List.length_nil, List.replicate, List.set_cons_zero, List.set_cons_succ, List.cons_append, List.nil_append, Bool.or_false, Bool.or_self, Bool.false_eq_true, if_false, List.getD_cons_zero, List.getD_cons_succ, Nat.reduceSub, Nat.reduceAdd])))
theorem bdm {r : List Int} {z : Int} (h : ∀ i ∈ r, i.natAbs < 10 ^ 100) (hz : z ∈ r) : z.natAbs < 2 ^ 1000 := Nat.lt_trans (h z hz) (by decide +kernel)
theorem sem_with_cubic_in (ds : List D) (Q : W → Prop) (h : P_with_cubic_in ds Q) : t_with_cubic_in { nx := fun _ => Q (.dat .non), rt := fun w _ => Q w } (startR N_with_cubic_in.length ds) := by
  obtain ⟨r, rfl, ⟨h1, h2, h3⟩, q⟩ := h
  unfold t_with_cubic_in
  nofun
  exact q
theorem zipD_ints : ∀ r s : List Int, zipD (r.map D.int) (s.map D.int) = (List.zip r s).map fun p => D.tup [.int p.1, .int p.2]
  | [], _ => by simp [zipD]
  | _ :: _, [] => by simp [zipD]
  | a :: r, b :: s => by
    have := zipD_ints r s
    simp_all [zipD]
theorem sem_product_in (ds : List D) (Q : W → Prop) (h : P_product_in ds Q) : t_product_in { nx := fun _ => Q (.dat .non), rt := fun w _ => Q w } (startR N_product_in.length ds) := by
  obtain ⟨r, s, rfl, ⟨h1, h2, h3⟩, ⟨g1, g2, g3⟩, q⟩ := h
  unfold t_product_in
  nofun
  rw [zipD_ints]
  refine dcomp_all _ (fun p : Int × Int => .int (p.1 * p.2)) _ (fun p hp C hC => ?_) (sz (by simp; omega)) ?_
  · have hm := List.of_mem_zip hp
    have b1 : p.1.natAbs < 2 ^ 1000 := bdm h3 (List.mem_of_mem_tail hm.1)
    have b2 : p.2.natAbs < 2 ^ 1000 := bdm g3 (List.mem_of_mem_tail hm.2)
    nofun
    exact hC _ _ rfl rfl rfl
  · nofun
    refine w_sumF (fun p : Int × Int => p.1 * p.2) _ ?_
    nofun
    rw [show (List.zip r.tail s.tail).map (fun p : Int × Int => p.1 * p.2) = List.zipWith (· * ·) r.tail s.tail from by rw [List.zip_eq_zipWith, List.map_zipWith]]
    exact q
theorem sem_square_in (ds : List D) (Q : W → Prop) (h : P_square_in ds Q) : t_square_in { nx := fun _ => Q (.dat .non), rt := fun w _ => Q w } (startR N_square_in.length ds) := by
  obtain ⟨r, rfl, h1, q⟩ := h
  unfold t_square_in
  nofun
  exact ⟨r, r, rfl, h1, h1, rfl, q⟩
theorem sem_counting_in (ds : List D) (Q : W → Prop) (h : P_counting_in ds Q) : t_counting_in { nx := fun _ => Q (.dat .non), rt := fun w _ => Q w } (startR N_counting_in.length ds) := by
  obtain ⟨r, rfl, h1, q⟩ := h
  unfold t_counting_in
  nofun
  refine ⟨r, rfl, h1, ?_⟩
  nofun
  refine ⟨r, rfl, h1, ?_⟩
  nofun
  exact q
theorem sem_is_index_below (ds : List D) (Q : W → Prop) (h : P_is_index_below ds Q) : t_is_index_below { nx := fun _ => Q (.dat .non), rt := fun w _ => Q w } (startR N_is_index_below.length ds) := by
  obtain ⟨n, v, rfl, h1, h2, q⟩ := h
  simp [ints_eq, tupI_eq, tups_eq, all_tt, and_assoc, shp_int, shp_bl, eqD_int, eqD_str, eqD_row, eqD_lst, shp_row, shp_lst, startR, tSeqL, tIfSL, tOrL, tAndL, tNotL, tTru, truD, tTst, tRetL, tRetNL, tNxL, tDropL, t2, tCD, aCons, aNil, tN, tK, val, rdLen, walkOf, rdAdd, rdSub, rdI0, rdI, setsR, slotW, fitI, isRef, gIx, tTupL, tLstL, tParL, rdList, rdTuple, tSlc, tPrt, tNoP, rdSl, cut_tl,  rdMulA, rdMod, rdFdiv, rdIsi, tyD, tyTo, isS, retW, nz, frzs, frzAt, anyRef, tChn, rdLe, rdLt, rdGt, rdGe, rdEq, rdNe, rdBs, rdAbs, rdNs, rdIx, tComp, tItv, noOwn, isOwn, wipeR, unwipe, tCallL, tAsgL, gNm, L3.tAndV, L3.tOrV, L3.tNotV, t_is_index_below, h1, h2, q]
theorem sem_turn_in (ds : List D) (Q : W → Prop) (h : P_turn_in ds Q) : t_turn_in { nx := fun _ => Q (.dat .non), rt := fun w _ => Q w } (startR N_turn_in.length ds) := by
  obtain ⟨r, i, j, k, rfl, gi, gj, gk, q⟩ := h
  unfold t_turn_in
  nofun
  exact q

end K82

set_option Elab.async false
set_option linter.all false
set_option pp.deepTerms false
set_option maxRecDepth 100000
set_option maxHeartbeats 4000000
namespace K82
open PySem PySem.Spec PyProof.Rows L2 L3
local macro_rules | `(tactic| nofun) => `(tactic| repeat (first | with_reducible refine w_seq ?_ | with_reducible refine w_nx ?_ | with_reducible refine w_ret ?_ | with_reducible refine w_retN ?_ | with_reducible refine w_drop ?_ | with_reducible refine w_ifS ?_ | with_reducible refine w_asg ?_ | with_reducible refine w_for ?_ | with_reducible refine w_forC ?_ | with_reducible refine w_forN ?_ | with_reducible refine w_K ?_ | with_reducible refine w_N (by with_unfolding_all rfl) ?_ | with_reducible refine w_No (by with_unfolding_all rfl) ?_ | with_reducible refine w_2 ?_ | with_reducible refine w_nilA ?_ | with_reducible refine w_consA ?_ | with_reducible refine w_CD ?_ | with_reducible refine w_call ?_ | with_reducible refine w_add ?_ | with_reducible refine w_sub ?_ | with_reducible refine w_mul (cmw (by omega) (by omega)) ?_ | with_reducible refine w_mul (cmw (by first | decide | exact bd (by assumption)) (by first | decide | exact bd (by assumption))) ?_ | with_reducible refine w_slcT ?_ | with_reducible refine w_slR ?_ | with_reducible refine w_sumT ?_ | with_reducible refine w_sumL ?_ | with_reducible refine w_comp ?_ | with_reducible refine w_zip ?_ | with_reducible refine w_zipT (by with_unfolding_all rfl) ?_ | with_reducible refine w_zipL (by with_unfolding_all rfl) ?_ | with_reducible refine w_itv ?_ | with_reducible refine w_itvT (by with_unfolding_all rfl) ?_ | with_reducible refine w_itvL (by with_unfolding_all rfl) ?_ | with_reducible refine w_par ?_ | with_reducible refine w_tup1S ?_ | with_reducible refine w_s1L (by first | omega | (simp only [List.length_map, List.length_tail, List.length_reverse]; omega)) ?_ | with_reducible refine w_s1T (by first | omega | (simp only [List.length_map, List.length_tail, List.length_cons, List.length_nil]; omega)) ?_ | with_reducible refine w_minT (nn (by first | omega | (simp only [List.length_tail]; omega))) ?_ | with_reducible refine w_maxT (nn (by first | omega | (simp only [List.length_tail]; omega))) ?_ | with_reducible refine w_tup ?_ | with_reducible refine w_lst ?_ | with_reducible refine w_toL ?_ | with_reducible refine w_toLL ?_ | with_reducible refine w_toT ?_ | with_reducible refine w_gIx ⟨(by with_unfolding_all rfl), (by with_unfolding_all rfl)⟩ ?_ | with_reducible refine w_gIxR (by with_unfolding_all rfl) (by omega) (by first | omega | (simp only [List.length_set]; omega)) ?_ | with_reducible refine w_gNil ?_ | with_reducible refine w_gCons ?_ | with_reducible refine w_gTup (by with_unfolding_all rfl) ?_ | with_reducible refine w_tst ?_ | with_reducible refine w_tstB ?_ | with_reducible refine w_tru ?_ | with_reducible refine w_truB ?_ | with_reducible refine w_orL ?_ | with_reducible refine w_andL ?_ | with_reducible refine w_notL ?_ | with_reducible refine w_yes ?_ | with_reducible refine w_lenT ?_ | with_reducible refine w_lenL ?_ | with_reducible refine w_isiT (by with_unfolding_all rfl) (by with_unfolding_all decide) (by with_unfolding_all rfl) ?_ | with_reducible refine w_isiF (by with_unfolding_all rfl) (by with_unfolding_all decide) (by with_unfolding_all rfl) ?_ | with_reducible refine w_allT ?_ | with_reducible refine w_t (by with_unfolding_all rfl) ?_ | with_reducible refine w_f (by with_unfolding_all rfl) ?_ | with_reducible refine w_kin ?_ | with_reducible refine w_kget ?_ | with_reducible refine w_slc ?_ | with_reducible refine w_nop ?_ | with_reducible refine w_bk ?_ | with_reducible refine w_ifE ?_ | with_reducible refine w_ng ?_ | with_reducible refine w_ngI ?_ | with_reducible refine w_andV ?_ | with_reducible refine w_andB ?_ | with_reducible refine w_orV ?_ | with_reducible refine w_orB ?_ | with_reducible refine w_notV ?_ | with_reducible refine w_notB ?_ | with_reducible refine w_isNt ?_ | with_reducible refine w_maxL (nn (by first | omega | (simp only [List.length_tail]; omega))) ?_ | with_reducible refine w_addL (by simp only [List.length_append, List.length_replicate, List.length_cons, List.length_nil, List.length_map, List.length_take]; omega) ?_ | with_reducible refine w_repT2 (by first | decide | omega) (by first | decide | omega) ?_ | with_reducible refine w_addT (by simp only [List.length_append, List.length_replicate, List.length_cons, List.length_nil, List.length_map]; omega) ?_ | with_reducible refine w_toL ?_ | with_reducible refine w_toLL ?_ | with_reducible refine w_toT ?_ | with_reducible refine w_mul (cm2 (by first | decide | omega) (by first | decide | omega)) ?_ | with_reducible refine w_lenS ?_ | with_reducible refine w_fd (by first | assumption | decide | omega) (by first | decide | omega) ?_ | with_reducible refine w_ixCL (by with_unfolding_all rfl) ?_ | with_reducible refine w_gIxC (by with_unfolding_all rfl) (by with_unfolding_all rfl) ?_ | with_reducible refine w_mod (by first | assumption | omega) ?_ | with_reducible refine w_chn ?_ | with_reducible refine w_chnB ?_ | with_reducible refine w_isNf ?_ | with_reducible refine w_ifT ?_ | with_reducible refine w_tt ?_ | with_reducible refine w_ff ?_ | with_reducible refine w_star ?_ | with_reducible refine w_starL ?_ | with_reducible refine w_starT ?_ | with_reducible refine w_rev ?_ | with_reducible refine w_revL ?_ | with_reducible refine w_revT ?_ | with_reducible refine w_rng1 ?_ | with_reducible refine w_lrg1 ?_ | with_reducible refine w_qrg1 ?_ | with_reducible refine w_lrg2 ?_ | with_reducible refine w_app (by with_unfolding_all rfl) ?_ | with_reducible refine w_appI (by with_unfolding_all rfl) (by with_unfolding_all rfl) (by simp only [List.length_cons, List.length_nil, List.length_map]; omega) ?_ | with_reducible refine w_pop (by with_unfolding_all rfl) ?_ | with_reducible refine w_callM ?_ | with_reducible refine w_callMN ?_ | with_reducible refine w_callMI (by with_unfolding_all rfl) (by with_unfolding_all rfl) (by with_unfolding_all rfl) ?_ | with_reducible refine w_II ?_ | with_reducible refine w_abs ?_ | with_reducible refine w_intI ?_ | with_reducible refine w_intB ?_ | with_reducible refine w_srtL ?_ | with_reducible refine w_srtT ?_ | with_reducible refine w_srtRT ?_ | with_reducible refine w_slTo ?_ | with_reducible refine w_slToL ?_ | with_reducible refine w_aug (by with_unfolding_all rfl) ?_ | with_reducible refine w_augI ?_ | with_reducible refine w_gUn ?_ | with_reducible refine w_unL (by with_unfolding_all rfl) ?_ | with_reducible refine w_sortLam ?_ | with_reducible refine w_neL ?_ | with_reducible refine w_neB ?_ | with_reducible refine w_prt ?_ | with_reducible refine w_prtI ?_ | with_reducible refine w_lt ?_ | with_reducible refine w_le ?_ | with_reducible refine w_gt ?_ | with_reducible refine w_ge ?_ | with_reducible refine w_eqI ?_ | with_reducible refine w_neI ?_ | with_reducible refine w_eqR ?_ | with_reducible refine w_eqL ?_ | with_reducible refine w_ixR (by simp only [List.length_tail]; omega) (by simp only [List.length_tail]; omega) ?_ | with_reducible refine w_ixR (by omega) (by omega) ?_ | with_reducible refine w_ixL (by omega) (by first | omega | (simp only [List.length_set]; omega)) ?_ | with_reducible refine w_ixC (by with_unfolding_all rfl) ?_ | with_reducible refine w_gNm (by with_unfolding_all rfl) ?_ | with_reducible refine w_gNn ?_ | with_reducible refine ⟨(by with_unfolding_all rfl), ?_⟩ | with_reducible refine ⟨⟨(by with_unfolding_all rfl), (by with_unfolding_all rfl)⟩, ?_⟩ | with_reducible refine ⟨⟨(by with_unfolding_all rfl), sz (by simp only [List.length_cons, List.length_nil]; omega)⟩, ?_⟩ | (simp only [val_dat, val_new, val_ref, List.getElem?_cons_zero, List.getElem?_cons_succ, tupI, List.map_cons, List.map_nil, startR, startM, frzs, setsR, slotW, anyRef, wipeR, unwipe, List.any_cons, List.any_nil, List.filter_cons, List.filter_nil, List.length_cons, List.length_nil, List.replicate, List.set_cons_zero, List.set_cons_succ, List.cons_append, List.nil_append, Bool.or_false, Bool.or_self, Bool.false_eq_true, if_false, List.getD_cons_zero, List.getD_cons_succ, Nat.reduceSub, Nat.reduceAdd])))
theorem sem_is_move_in (ds : List D) (Q : W → Prop) (h : P_is_move_in ds Q) : t_is_move_in { nx := fun _ => Q (.dat .non), rt := fun w _ => Q w } (startR N_is_move_in.length ds) := by
  obtain ⟨n, ⟨i, j, k⟩, rfl, ⟨h1, h2, h3⟩, q⟩ := h
  simp only at h1 h2 h3
  unfold t_is_move_in mvD
  nofun
  refine w_eqC (by with_unfolding_all rfl) (by with_unfolding_all rfl) (k := false) (by with_unfolding_all rfl) ?_
  nofun
  refine ⟨_, 3, rfl, by decide, ?_⟩
  nofun
  refine ⟨_, 3, rfl, by decide, ?_⟩
  nofun
  refine w_slC (m := [i, j, k].map fun x : Nat => D.int x) (by rfl) ?_
  refine w_itvT rfl ?_
  refine ⟨rfl, ?_⟩
  refine dcomp_all (fun x : Nat => D.int x) (fun _ => .bl true) [i, j, k] (fun x hx C hC => ?_) (sz (by simp)) ?_
  · have hx : x < n := by
      simp at hx; omega
    nofun
    exact ⟨n, x, rfl, by omega, by omega, hC _ _ rfl rfl rfl⟩
  nofun
  refine w_bs (by with_unfolding_all rfl) (b := true) (by with_unfolding_all rfl) ?_
  nofun
  refine w_slC (m := [i, j, k].map fun x : Nat => D.int x) (by rfl) ?_
  nofun
  refine w_slC (m := [j, k].map fun x : Nat => D.int x) (by rfl) ?_
  nofun
  rw [show zipD [D.int (i : Int), D.int j, D.int k] [D.int (j : Int), D.int k] = [(i, j), (j, k)].map (fun p : Nat × Nat => D.tup [.int p.1, .int p.2]) from rfl]
  refine dcomp_all _ (fun _ => .bl true) [(i, j), (j, k)] (fun p hp C hC => ?_) (sz (by simp)) ?_
  · have hp2 : p.1 < p.2 := by
      simp at hp
      rcases hp with hp | hp <;> subst hp <;> assumption
    nofun
    rw [decide_eq_true (by omega)]
    exact hC _ _ rfl rfl rfl
  nofun
  refine w_bs (by with_unfolding_all rfl) (b := true) (by with_unfolding_all rfl) ?_
  nofun
  exact q

end K82

set_option Elab.async false
set_option linter.all false
set_option pp.deepTerms false
set_option maxRecDepth 100000
set_option maxHeartbeats 4000000
namespace K82
open PySem PySem.Spec PyProof.Rows L2 L3
local macro_rules | `(tactic| nofun) => `(tactic| repeat (first | with_reducible refine w_seq ?_ | with_reducible refine w_nx ?_ | with_reducible refine w_ret ?_ | with_reducible refine w_retN ?_ | with_reducible refine w_drop ?_ | with_reducible refine w_ifS ?_ | with_reducible refine w_asg ?_ | with_reducible refine w_for ?_ | with_reducible refine w_forC ?_ | with_reducible refine w_forN ?_ | with_reducible refine w_K ?_ | with_reducible refine w_N (by with_unfolding_all rfl) ?_ | with_reducible refine w_No (by with_unfolding_all rfl) ?_ | with_reducible refine w_2 ?_ | with_reducible refine w_nilA ?_ | with_reducible refine w_consA ?_ | with_reducible refine w_CD ?_ | with_reducible refine w_call ?_ | with_reducible refine w_add ?_ | with_reducible refine w_sub ?_ | with_reducible refine w_mul (cmw (by omega) (by omega)) ?_ | with_reducible refine w_mul (cmw (by first | decide | exact bd (by assumption)) (by first | decide | exact bd (by assumption))) ?_ | with_reducible refine w_slcT ?_ | with_reducible refine w_slR ?_ | with_reducible refine w_sumT ?_ | with_reducible refine w_sumL ?_ | with_reducible refine w_comp ?_ | with_reducible refine w_zip ?_ | with_reducible refine w_zipT (by with_unfolding_all rfl) ?_ | with_reducible refine w_zipL (by with_unfolding_all rfl) ?_ | with_reducible refine w_itv ?_ | with_reducible refine w_itvT (by with_unfolding_all rfl) ?_ | with_reducible refine w_itvL (by with_unfolding_all rfl) ?_ | with_reducible refine w_par ?_ | with_reducible refine w_tup1S ?_ | with_reducible refine w_s1L (by first | omega | (simp only [List.length_map, List.length_tail, List.length_reverse]; omega)) ?_ | with_reducible refine w_s1T (by first | omega | (simp only [List.length_map, List.length_tail, List.length_cons, List.length_nil]; omega)) ?_ | with_reducible refine w_minT (nn (by first | omega | (simp only [List.length_tail]; omega))) ?_ | with_reducible refine w_maxT (nn (by first | omega | (simp only [List.length_tail]; omega))) ?_ | with_reducible refine w_tup ?_ | with_reducible refine w_lst ?_ | with_reducible refine w_toL ?_ | with_reducible refine w_toLL ?_ | with_reducible refine w_toT ?_ | with_reducible refine w_gIx ⟨(by with_unfolding_all rfl), (by with_unfolding_all rfl)⟩ ?_ | with_reducible refine w_gIxR (by with_unfolding_all rfl) (by omega) (by first | omega | (simp only [List.length_set]; omega)) ?_ | with_reducible refine w_gNil ?_ | with_reducible refine w_gCons ?_ | with_reducible refine w_gTup (by with_unfolding_all rfl) ?_ | with_reducible refine w_tst ?_ | with_reducible refine w_tstB ?_ | with_reducible refine w_tru ?_ | with_reducible refine w_truB ?_ | with_reducible refine w_orL ?_ | with_reducible refine w_andL ?_ | with_reducible refine w_notL ?_ | with_reducible refine w_yes ?_ | with_reducible refine w_lenT ?_ | with_reducible refine w_lenL ?_ | with_reducible refine w_isiT (by with_unfolding_all rfl) (by with_unfolding_all decide) (by with_unfolding_all rfl) ?_ | with_reducible refine w_isiF (by with_unfolding_all rfl) (by with_unfolding_all decide) (by with_unfolding_all rfl) ?_ | with_reducible refine w_allT ?_ | with_reducible refine w_t (by with_unfolding_all rfl) ?_ | with_reducible refine w_f (by with_unfolding_all rfl) ?_ | with_reducible refine w_kin ?_ | with_reducible refine w_kget ?_ | with_reducible refine w_slc ?_ | with_reducible refine w_nop ?_ | with_reducible refine w_bk ?_ | with_reducible refine w_ifE ?_ | with_reducible refine w_ng ?_ | with_reducible refine w_ngI ?_ | with_reducible refine w_andV ?_ | with_reducible refine w_andB ?_ | with_reducible refine w_orV ?_ | with_reducible refine w_orB ?_ | with_reducible refine w_notV ?_ | with_reducible refine w_notB ?_ | with_reducible refine w_isNt ?_ | with_reducible refine w_maxL (nn (by first | omega | (simp only [List.length_tail]; omega))) ?_ | with_reducible refine w_addL (by simp only [List.length_append, List.length_replicate, List.length_cons, List.length_nil, List.length_map, List.length_take]; omega) ?_ | with_reducible refine w_repT2 (by first | decide | omega) (by first | decide | omega) ?_ | with_reducible refine w_addT (by simp only [List.length_append, List.length_replicate, List.length_cons, List.length_nil, List.length_map]; omega) ?_ | with_reducible refine w_toL ?_ | with_reducible refine w_toLL ?_ | with_reducible refine w_toT ?_ | with_reducible refine w_mul (cm2 (by first | decide | omega) (by first | decide | omega)) ?_ | with_reducible refine w_lenS ?_ | with_reducible refine w_fd (by first | assumption | decide | omega) (by first | decide | omega) ?_ | with_reducible refine w_ixCL (by with_unfolding_all rfl) ?_ | with_reducible refine w_gIxC (by with_unfolding_all rfl) (by with_unfolding_all rfl) ?_ | with_reducible refine w_mod (by first | assumption | omega) ?_ | with_reducible refine w_chn ?_ | with_reducible refine w_chnB ?_ | with_reducible refine w_isNf ?_ | with_reducible refine w_ifT ?_ | with_reducible refine w_tt ?_ | with_reducible refine w_ff ?_ | with_reducible refine w_star ?_ | with_reducible refine w_starL ?_ | with_reducible refine w_starT ?_ | with_reducible refine w_rev ?_ | with_reducible refine w_revL ?_ | with_reducible refine w_revT ?_ | with_reducible refine w_rng1 ?_ | with_reducible refine w_lrg1 ?_ | with_reducible refine w_qrg1 ?_ | with_reducible refine w_lrg2 ?_ | with_reducible refine w_app (by with_unfolding_all rfl) ?_ | with_reducible refine w_appI (by with_unfolding_all rfl) (by with_unfolding_all rfl) (by simp only [List.length_cons, List.length_nil, List.length_map]; omega) ?_ | with_reducible refine w_pop (by with_unfolding_all rfl) ?_ | with_reducible refine w_callM ?_ | with_reducible refine w_callMN ?_ | with_reducible refine w_callMI (by with_unfolding_all rfl) (by with_unfolding_all rfl) (by with_unfolding_all rfl) ?_ | with_reducible refine w_II ?_ | with_reducible refine w_abs ?_ | with_reducible refine w_intI ?_ | with_reducible refine w_intB ?_ | with_reducible refine w_srtL ?_ | with_reducible refine w_srtT ?_ | with_reducible refine w_srtRT ?_ | with_reducible refine w_slTo ?_ | with_reducible refine w_slToL ?_ | with_reducible refine w_aug (by with_unfolding_all rfl) ?_ | with_reducible refine w_augI ?_ | with_reducible refine w_gUn ?_ | with_reducible refine w_unL (by with_unfolding_all rfl) ?_ | with_reducible refine w_sortLam ?_ | with_reducible refine w_neL ?_ | with_reducible refine w_neB ?_ | with_reducible refine w_prt ?_ | with_reducible refine w_prtI ?_ | with_reducible refine w_lt ?_ | with_reducible refine w_le ?_ | with_reducible refine w_gt ?_ | with_reducible refine w_ge ?_ | with_reducible refine w_eqI ?_ | with_reducible refine w_neI ?_ | with_reducible refine w_eqR ?_ | with_reducible refine w_eqL ?_ | with_reducible refine w_ixR (by simp only [List.length_tail]; omega) (by simp only [List.length_tail]; omega) ?_ | with_reducible refine w_ixR (by omega) (by omega) ?_ | with_reducible refine w_ixL (by omega) (by first | omega | (simp only [List.length_set]; omega)) ?_ | with_reducible refine w_ixC (by with_unfolding_all rfl) ?_ | with_reducible refine w_gNm (by with_unfolding_all rfl) ?_ | with_reducible refine w_gNn ?_ | with_reducible refine ⟨(by with_unfolding_all rfl), ?_⟩ | with_reducible refine ⟨⟨(by with_unfolding_all rfl), (by with_unfolding_all rfl)⟩, ?_⟩ | with_reducible refine ⟨⟨(by with_unfolding_all rfl), sz (by simp only [List.length_cons, List.length_nil]; omega)⟩, ?_⟩ | (simp only [val_dat, val_new, val_ref, List.getElem?_cons_zero, List.getElem?_cons_succ, tupI, List.map_cons, List.map_nil, startR, startM, frzs, setsR, slotW, anyRef, wipeR, unwipe, List.any_cons, List.any_nil, List.filter_cons, List.filter_nil, List.length_cons, List.length_nil, List.replicate, List.set_cons_zero, List.set_cons_succ, List.cons_append, List.nil_append, Bool.or_false, Bool.or_self, Bool.false_eq_true, if_false, List.getD_cons_zero, List.getD_cons_succ, Nat.reduceSub, Nat.reduceAdd])))
theorem addAt_len (c : Int) (r : List Int) (p : Nat) : (addAt c r p).length = r.length := List.length_set ..
theorem turnT_len (r : List Int) (t : Nat × Nat × Nat) : (turnT r t).length = r.length := by
  unfold turnT turnR
  simp [addAt_len]
theorem sem_is_word_in (ds : List D) (Q : W → Prop) (h : P_is_word_in ds Q) : t_is_word_in { nx := fun _ => Q (.dat .non), rt := fun w _ => Q w } (startR N_is_word_in.length ds) := by
  obtain ⟨n, ts, rfl, h1, h2, q⟩ := h
  simp [ints_eq, tupI_eq, tups_eq, all_tt, and_assoc, shp_int, shp_bl, eqD_int, eqD_str, eqD_row, eqD_lst, shp_row, shp_lst, startR, tSeqL, tIfSL, tOrL, tAndL, tNotL, tTru, truD, tTst, tRetL, tRetNL, tNxL, tDropL, t2, tCD, aCons, aNil, tN, tK, val, rdLen, walkOf, rdAdd, rdSub, rdI0, rdI, setsR, slotW, fitI, isRef, gIx, tTupL, tLstL, tParL, rdList, rdTuple, tSlc, tPrt, tNoP, rdSl, cut_tl,  rdMulA, rdMod, rdFdiv, rdIsi, tyD, tyTo, isS, retW, nz, frzs, frzAt, anyRef, tChn, rdLe, rdLt, rdGt, rdGe, rdEq, rdNe, rdBs, rdAbs, rdNs, rdIx, tComp, tItv, noOwn, isOwn, wipeR, unwipe, tCallL, tAsgL, gNm, L3.tAndV, L3.tOrV, L3.tNotV, t_is_word_in]
  rw [if_pos (by omega)]
  refine dcomp_all mvD (fun _ => .bl true) ts (fun x hx C hC => ?_) (sz (by omega)) ?_
  · nofun
    exact ⟨n, x, rfl, h2 x hx, hC _ _ rfl rfl rfl⟩
  · rw [blsOf_mapF]; simpa [all_tt] using q
theorem sem_require_word (ds : List D) (Q : W → Prop) (h : P_require_word ds Q) : t_require_word { nx := fun _ => Q (.dat .non), rt := fun w _ => Q w } (startR N_require_word.length ds) := by
  obtain ⟨n, ts, rfl, h1, h2, q⟩ := h
  unfold t_require_word
  nofun
  refine ⟨n, ts, rfl, h1, h2, ?_⟩
  nofun
  exact q
theorem sem_is_passable (ds : List D) (Q : W → Prop) (h : P_is_passable ds Q) : t_is_passable { nx := fun _ => Q (.dat .non), rt := fun w _ => Q w } (startR N_is_passable.length ds) := by
  obtain ⟨r, rfl, h1, h2, q⟩ := h
  unfold t_is_passable
  nofun
  refine dcomp_all D.int (fun _ => .bl true) r (fun x hx C hC => ?_) (sz (by omega)) ?_
  · have := h2 x hx
    simp [ints_eq, tupI_eq, tups_eq, all_tt, and_assoc, shp_int, shp_bl, eqD_int, eqD_str, eqD_row, eqD_lst, shp_row, shp_lst, startR, tSeqL, tIfSL, tOrL, tAndL, tNotL, tTru, truD, tTst, tRetL, tRetNL, tNxL, tDropL, t2, tCD, aCons, aNil, tN, tK, val, rdLen, walkOf, rdAdd, rdSub, rdI0, rdI, setsR, slotW, fitI, isRef, gIx, tTupL, tLstL, tParL, rdList, rdTuple, tSlc, tPrt, tNoP, rdSl, cut_tl,  rdMulA, rdMod, rdFdiv, rdIsi, tyD, tyTo, isS, retW, nz, frzs, frzAt, anyRef, tChn, rdLe, rdLt, rdGt, rdGe, rdEq, rdNe, rdBs, rdAbs, rdNs, rdIx, tComp, tItv, noOwn, isOwn, wipeR, unwipe, tCallL, tAsgL, gNm, L3.tAndV, L3.tOrV, L3.tNotV, tNeg, K_TOO_LONG]
    rw [if_pos (by omega), decide_eq_true (by omega)]
    exact hC _ _ rfl rfl rfl
  · nofun
    exact q
theorem sem_require_passable (ds : List D) (Q : W → Prop) (h : P_require_passable ds Q) : t_require_passable { nx := fun _ => Q (.dat .non), rt := fun w _ => Q w } (startR N_require_passable.length ds) := by
  obtain ⟨r, rfl, h1, h2, q⟩ := h
  unfold t_require_passable
  nofun
  refine dcomp_all (fun r : List Int => D.tup (r.map D.int)) (fun _ => .bl true) [r] (fun x hx C hC => ?_) (sz (by simp)) ?_
  · obtain rfl : x = r := by simpa using hx
    nofun
    exact ⟨x, rfl, h1, h2, hC _ _ rfl rfl rfl⟩
  · nofun
    refine w_bs (by with_unfolding_all rfl) (b := true) (by with_unfolding_all rfl) ?_
    nofun
    exact q
theorem sem_moved_once (ds : List D) (Q : W → Prop) (h : P_moved_once ds Q) : t_moved_once { nx := fun _ => Q (.dat .non), rt := fun w _ => Q w } (startR N_moved_once.length ds) := by
  obtain ⟨r, ⟨i, j, k⟩, rfl, ⟨h1, h2, h3⟩, q⟩ := h
  simp only at h1 h2 h3
  unfold t_moved_once mvD
  nofun
  refine w_eqC (by with_unfolding_all rfl) (by with_unfolding_all rfl) (k := false) (by with_unfolding_all rfl) ?_
  nofun
  exact ⟨r, i, j, k, rfl, by omega, by omega, by omega, rfl, q⟩
theorem sem_moved_in (ds : List D) (Q : W → Prop) (h : P_moved_in ds Q) : t_moved_in { nx := fun _ => Q (.dat .non), rt := fun w _ => Q w } (startR N_moved_in.length ds) := by
  obtain ⟨r, ts, rfl, h2, q⟩ := h
  unfold t_moved_in
  nofun
  refine forD_run (fun ds ρ => ∃ (r' : List Int) (ts' : List (Nat × Nat × Nat)) (s : Slot), ds = ts'.map mvD ∧ ρ = [.dat (.tup (r.map D.int)), .dat (.tup (ts.map mvD)), .dat (.tup (r'.map D.int)), s] ∧ (∀ t ∈ ts', MvOk (r'.length - 1) t) ∧ ts'.foldl turnT r' = ts.foldl turnT r) ?_ ?_ _ _ ⟨r, ts, _, rfl, rfl, h2, rfl⟩
  · rintro d ds ρ ⟨r', ts', s, e1, rfl, e3, e4⟩ C hC
    cases ts' with
    | nil => cases e1
    | cons t ts' =>
      obtain ⟨rfl, rfl⟩ := List.cons.inj e1
      unfold mvD
      nofun
      refine ⟨r', t, rfl, e3 t List.mem_cons_self, ?_⟩
      nofun
      refine hC _ ⟨turnT r' t, ts', _, rfl, rfl, fun u hu => ?_, e4⟩
      rw [turnT_len]
      exact e3 u (List.mem_cons_of_mem _ hu)
  · rintro ρ ⟨r', ts', s, e1, rfl, e3, e4⟩
    cases ts' with
    | cons t ts' => cases e1
    | nil =>
      have e4 : r' = ts.foldl turnT r := e4
      subst e4
      nofun
      exact q
theorem sem_moved (ds : List D) (Q : W → Prop) (h : P_moved ds Q) : t_moved { nx := fun _ => Q (.dat .non), rt := fun w _ => Q w } (startR N_moved.length ds) := by
  obtain ⟨r, ts, rfl, h1, h2, h3, h4, q⟩ := h
  unfold t_moved
  nofun
  refine ⟨r, 3, 16, rfl, h1, by have := h1.1; omega, by have := h1.2.1; omega, ?_⟩
  nofun
  refine ⟨r.length - 1, ts, ?_, h3, h4, ?_⟩
  · have := h1.1
    rw [List.length_map, show ((r.length : Int) - 1) = ((r.length - 1 : Nat) : Int) by omega]
  nofun
  refine ⟨r, ts, rfl, h4, ?_⟩
  nofun
  refine ⟨_, rfl, h2.2.1, h2.2.2, ?_⟩
  nofun
  exact q
theorem sem_require_many (ds : List D) (Q : W → Prop) (h : P_require_many ds Q) : t_require_many { nx := fun _ => Q (.dat .non), rt := fun w _ => Q w } (startR N_require_many.length ds) := by
  obtain ⟨r, rfl, h1, h2, q⟩ := h
  unfold t_require_many
  nofun
  exact ⟨r, 10, 16, rfl, h1, by omega, by have := h1.2.1; omega, q⟩

end K82

set_option Elab.async false
set_option linter.all false
set_option pp.deepTerms false
set_option maxRecDepth 100000
set_option maxHeartbeats 4000000
namespace K82
open PySem PySem.Spec PyProof.Rows L2 L3
local macro_rules | `(tactic| nofun) => `(tactic| repeat (first | with_reducible refine w_seq ?_ | with_reducible refine w_nx ?_ | with_reducible refine w_ret ?_ | with_reducible refine w_retN ?_ | with_reducible refine w_drop ?_ | with_reducible refine w_ifS ?_ | with_reducible refine w_asg ?_ | with_reducible refine w_for ?_ | with_reducible refine w_forC ?_ | with_reducible refine w_forN ?_ | with_reducible refine w_K ?_ | with_reducible refine w_N (by with_unfolding_all rfl) ?_ | with_reducible refine w_No (by with_unfolding_all rfl) ?_ | with_reducible refine w_2 ?_ | with_reducible refine w_nilA ?_ | with_reducible refine w_consA ?_ | with_reducible refine w_CD ?_ | with_reducible refine w_call ?_ | with_reducible refine w_add ?_ | with_reducible refine w_sub ?_ | with_reducible refine w_mul (cmw (by omega) (by omega)) ?_ | with_reducible refine w_mul (cmw (by first | decide | exact bd (by assumption)) (by first | decide | exact bd (by assumption))) ?_ | with_reducible refine w_slcT ?_ | with_reducible refine w_slR ?_ | with_reducible refine w_sumT ?_ | with_reducible refine w_sumL ?_ | with_reducible refine w_comp ?_ | with_reducible refine w_zip ?_ | with_reducible refine w_zipT (by with_unfolding_all rfl) ?_ | with_reducible refine w_zipL (by with_unfolding_all rfl) ?_ | with_reducible refine w_itv ?_ | with_reducible refine w_itvT (by with_unfolding_all rfl) ?_ | with_reducible refine w_itvL (by with_unfolding_all rfl) ?_ | with_reducible refine w_par ?_ | with_reducible refine w_tup1S ?_ | with_reducible refine w_s1L (by first | omega | (simp only [List.length_map, List.length_tail, List.length_reverse]; omega)) ?_ | with_reducible refine w_s1T (by first | omega | (simp only [List.length_map, List.length_tail, List.length_cons, List.length_nil]; omega)) ?_ | with_reducible refine w_minT (nn (by first | omega | (simp only [List.length_tail]; omega))) ?_ | with_reducible refine w_maxT (nn (by first | omega | (simp only [List.length_tail]; omega))) ?_ | with_reducible refine w_tup ?_ | with_reducible refine w_lst ?_ | with_reducible refine w_toL ?_ | with_reducible refine w_toLL ?_ | with_reducible refine w_toT ?_ | with_reducible refine w_gIx ⟨(by with_unfolding_all rfl), (by with_unfolding_all rfl)⟩ ?_ | with_reducible refine w_gIxR (by with_unfolding_all rfl) (by omega) (by first | omega | (simp only [List.length_set]; omega)) ?_ | with_reducible refine w_gNil ?_ | with_reducible refine w_gCons ?_ | with_reducible refine w_gTup (by with_unfolding_all rfl) ?_ | with_reducible refine w_tst ?_ | with_reducible refine w_tstB ?_ | with_reducible refine w_tru ?_ | with_reducible refine w_truB ?_ | with_reducible refine w_orL ?_ | with_reducible refine w_andL ?_ | with_reducible refine w_notL ?_ | with_reducible refine w_yes ?_ | with_reducible refine w_lenT ?_ | with_reducible refine w_lenL ?_ | with_reducible refine w_isiT (by with_unfolding_all rfl) (by with_unfolding_all decide) (by with_unfolding_all rfl) ?_ | with_reducible refine w_isiF (by with_unfolding_all rfl) (by with_unfolding_all decide) (by with_unfolding_all rfl) ?_ | with_reducible refine w_allT ?_ | with_reducible refine w_t (by with_unfolding_all rfl) ?_ | with_reducible refine w_f (by with_unfolding_all rfl) ?_ | with_reducible refine w_kin ?_ | with_reducible refine w_kget ?_ | with_reducible refine w_slc ?_ | with_reducible refine w_nop ?_ | with_reducible refine w_bk ?_ | with_reducible refine w_ifE ?_ | with_reducible refine w_ng ?_ | with_reducible refine w_ngI ?_ | with_reducible refine w_andV ?_ | with_reducible refine w_andB ?_ | with_reducible refine w_orV ?_ | with_reducible refine w_orB ?_ | with_reducible refine w_notV ?_ | with_reducible refine w_notB ?_ | with_reducible refine w_isNt ?_ | with_reducible refine w_maxL (nn (by first | omega | (simp only [List.length_tail]; omega))) ?_ | with_reducible refine w_addL (by simp only [List.length_append, List.length_replicate, List.length_cons, List.length_nil, List.length_map, List.length_take]; omega) ?_ | with_reducible refine w_repT2 (by first | decide | omega) (by first | decide | omega) ?_ | with_reducible refine w_addT (by simp only [List.length_append, List.length_replicate, List.length_cons, List.length_nil, List.length_map]; omega) ?_ | with_reducible refine w_toL ?_ | with_reducible refine w_toLL ?_ | with_reducible refine w_toT ?_ | with_reducible refine w_mul (cm2 (by first | decide | omega) (by first | decide | omega)) ?_ | with_reducible refine w_lenS ?_ | with_reducible refine w_fd (by first | assumption | decide | omega) (by first | decide | omega) ?_ | with_reducible refine w_ixCL (by with_unfolding_all rfl) ?_ | with_reducible refine w_gIxC (by with_unfolding_all rfl) (by with_unfolding_all rfl) ?_ | with_reducible refine w_mod (by first | assumption | omega) ?_ | with_reducible refine w_chn ?_ | with_reducible refine w_chnB ?_ | with_reducible refine w_isNf ?_ | with_reducible refine w_ifT ?_ | with_reducible refine w_tt ?_ | with_reducible refine w_ff ?_ | with_reducible refine w_star ?_ | with_reducible refine w_starL ?_ | with_reducible refine w_starT ?_ | with_reducible refine w_rev ?_ | with_reducible refine w_revL ?_ | with_reducible refine w_revT ?_ | with_reducible refine w_rng1 ?_ | with_reducible refine w_lrg1 ?_ | with_reducible refine w_qrg1 ?_ | with_reducible refine w_lrg2 ?_ | with_reducible refine w_app (by with_unfolding_all rfl) ?_ | with_reducible refine w_appI (by with_unfolding_all rfl) (by with_unfolding_all rfl) (by simp only [List.length_cons, List.length_nil, List.length_map]; omega) ?_ | with_reducible refine w_pop (by with_unfolding_all rfl) ?_ | with_reducible refine w_callM ?_ | with_reducible refine w_callMN ?_ | with_reducible refine w_callMI (by with_unfolding_all rfl) (by with_unfolding_all rfl) (by with_unfolding_all rfl) ?_ | with_reducible refine w_II ?_ | with_reducible refine w_abs ?_ | with_reducible refine w_intI ?_ | with_reducible refine w_intB ?_ | with_reducible refine w_srtL ?_ | with_reducible refine w_srtT ?_ | with_reducible refine w_srtRT ?_ | with_reducible refine w_slTo ?_ | with_reducible refine w_slToL ?_ | with_reducible refine w_aug (by with_unfolding_all rfl) ?_ | with_reducible refine w_augI ?_ | with_reducible refine w_gUn ?_ | with_reducible refine w_unL (by with_unfolding_all rfl) ?_ | with_reducible refine w_sortLam ?_ | with_reducible refine w_neL ?_ | with_reducible refine w_neB ?_ | with_reducible refine w_prt ?_ | with_reducible refine w_prtI ?_ | with_reducible refine w_lt ?_ | with_reducible refine w_le ?_ | with_reducible refine w_gt ?_ | with_reducible refine w_ge ?_ | with_reducible refine w_eqI ?_ | with_reducible refine w_neI ?_ | with_reducible refine w_eqR ?_ | with_reducible refine w_eqL ?_ | with_reducible refine w_ixR (by simp only [List.length_tail]; omega) (by simp only [List.length_tail]; omega) ?_ | with_reducible refine w_ixR (by omega) (by omega) ?_ | with_reducible refine w_ixL (by omega) (by first | omega | (simp only [List.length_set]; omega)) ?_ | with_reducible refine w_ixC (by with_unfolding_all rfl) ?_ | with_reducible refine w_gNm (by with_unfolding_all rfl) ?_ | with_reducible refine w_gNn ?_ | with_reducible refine ⟨(by with_unfolding_all rfl), ?_⟩ | with_reducible refine ⟨⟨(by with_unfolding_all rfl), (by with_unfolding_all rfl)⟩, ?_⟩ | with_reducible refine ⟨⟨(by with_unfolding_all rfl), sz (by simp only [List.length_cons, List.length_nil]; omega)⟩, ?_⟩ | (simp only [val_dat, val_new, val_ref, List.getElem?_cons_zero, List.getElem?_cons_succ, tupI, List.map_cons, List.map_nil, startR, startM, frzs, setsR, slotW, anyRef, wipeR, unwipe, List.any_cons, List.any_nil, List.filter_cons, List.filter_nil, List.length_cons, List.length_nil, List.replicate, List.set_cons_zero, List.set_cons_succ, List.cons_append, List.nil_append, Bool.or_false, Bool.or_self, Bool.false_eq_true, if_false, List.getD_cons_zero, List.getD_cons_succ, Nat.reduceSub, Nat.reduceAdd])))
theorem insN_map (k : Nat → Int × Int) (kd : D → Int × Int) (h : ∀ n : Nat, kd (.int n) = k n) (d : Nat) : ∀ l : List Nat, insK kd (.int d) (l.map fun n : Nat => D.int n) = (insN k d l).map fun n : Nat => D.int n
  | [] => rfl
  | e :: l => by
    simp only [List.map_cons]
    unfold insK insN
    rw [h, h, insN_map k kd h d l]
    split <;> rfl
theorem srtN_map (k : Nat → Int × Int) (kd : D → Int × Int) (h : ∀ n : Nat, kd (.int n) = k n) : ∀ l : List Nat, srtK kd (l.map fun n : Nat => D.int n) = (srtN k l).map fun n : Nat => D.int n
  | [] => rfl
  | e :: l => by
    show insK kd (.int e) (srtK kd (l.map fun n : Nat => D.int n)) = _
    rw [srtN_map k kd h l, insN_map k kd h]; rfl
theorem insN_perm (k : Nat → Int × Int) (d : Nat) : ∀ l, (insN k d l).Perm (d :: l)
  | [] => .refl _
  | e :: l => by
    unfold insN
    split
    · exact ((insN_perm k d l).cons e).trans (List.Perm.swap _ _ _)
    · exact .refl _
theorem srtN_perm (k : Nat → Int × Int) : ∀ l, (srtN k l).Perm l
  | [] => .refl _
  | e :: l => (insN_perm k e _).trans ((srtN_perm k l).cons e)
theorem ordR_perm (r : List Int) : (ordR r).Perm (List.range (r.length - 1)) := srtN_perm _ _
theorem ordR_len (r : List Int) : (ordR r).length = r.length - 1 := by rw [(ordR_perm r).length_eq, List.length_range]
theorem ordR_lt {r : List Int} {x : Nat} (h : x ∈ ordR r) : x < r.length - 1 := List.mem_range.mp ((ordR_perm r).mem_iff.mp h)
theorem ordR_nodup (r : List Int) : (ordR r).Nodup := (ordR_perm r).nodup_iff.mpr List.nodup_range
theorem g3L_perm (r : List Int) : (g3L r).Perm (((ordR r).take 3).map fun x : Nat => (x : Int)) := srtI_perm _
theorem g3L_eq {r : List Int} (h : 4 ≤ r.length) : g3L r = [((g3 r).1 : Int), ((g3 r).2.1 : Int), ((g3 r).2.2 : Int)] := by
  have hl : (g3L r).length = 3 := by rw [(g3L_perm r).length_eq, List.length_map, List.length_take, ordR_len]; omega
  have hp : ∀ x ∈ g3L r, 0 ≤ x := fun x hx => by
    have := (g3L_perm r).mem_iff.mp hx
    rw [List.mem_map] at this
    obtain ⟨y, _, rfl⟩ := this
    omega
  unfold g3
  match q : g3L r, hl with
  | [a, b, c], _ =>
    rw [q] at hp
    have ha := hp a (by simp)
    have hb := hp b (by simp)
    have hc := hp c (by simp)
    simp only [List.getD_cons_zero, List.getD_cons_succ, List.cons.injEq, and_true]
    omega
theorem g3_perm {r : List Int} (h : 4 ≤ r.length) : [(g3 r).1, (g3 r).2.1, (g3 r).2.2].Perm ((ordR r).take 3) := by
  have p := g3L_perm r
  rw [g3L_eq h] at p
  have q := p.map Int.toNat
  rw [List.map_map] at q
  have e : (Int.toNat ∘ fun x : Nat => (x : Int)) = id := by funext x; simp
  rw [e, List.map_id] at q
  simpa using q
theorem g3_ok {r : List Int} (h : 4 ≤ r.length) : MvOk (r.length - 1) (g3 r) := by
  have s : (g3L r).Pairwise (· ≤ ·) := srtI_sorted _
  rw [g3L_eq h] at s
  have n : [(g3 r).1, (g3 r).2.1, (g3 r).2.2].Nodup := (g3_perm h).nodup_iff.mpr ((List.take_sublist 3 _).nodup (ordR_nodup r))
  have m : (g3 r).2.2 < r.length - 1 := ordR_lt (List.mem_of_mem_take ((g3_perm h).mem_iff.mp (show (g3 r).2.2 ∈ _ by simp)))
  simp only [List.pairwise_cons, List.mem_cons, List.nodup_cons, List.not_mem_nil, or_false] at s n
  refine ⟨?_, ?_, m⟩
  · have := s.1 _ (Or.inl rfl); omega
  · have := s.2.1 _ rfl; omega
theorem sum_npos : ∀ {r : List Int}, (∀ x ∈ r, x ≤ 0) → r.sum ≤ 0 ∧ (r.sum = 0 → ∀ x ∈ r, x = 0)
  | [], _ => ⟨by simp, fun _ _ h => by cases h⟩
  | a :: r, h => by
    have ih := sum_npos (r := r) fun x hx => h x (List.mem_cons_of_mem _ hx)
    have ha := h a List.mem_cons_self
    rw [List.sum_cons]
    refine ⟨by omega, fun e x hx => ?_⟩
    rcases List.mem_cons.mp hx with rfl | hx
    · omega
    · exact ih.2 (by omega) x hx
theorem isPt_iff {r : List Int} (h : r ≠ []) : (r.getD 0 0 = 0 ∧ minI r = -1 ∧ r.sum = -1 ∧ maxI r = 0) ↔ isPtR r = true := by
  unfold isPtR
  rw [decide_eq_true_iff]
  have hp := srtI_perm r
  have hs := srtI_sorted r
  have hm := minI_mem h
  have hM := maxI_mem h
  constructor
  · rintro ⟨h0, h1, h2, h3⟩
    refine ⟨h0, ?_⟩
    cases q : srtI r with
    | nil =>
      rw [q] at hp
      exact absurd hp.symm.eq_nil h
    | cons a l =>
      rw [q] at hp hs
      have ha : a = -1 := by
        have a1 := hm.2 a (hp.mem_iff.mp List.mem_cons_self)
        rcases List.mem_cons.mp (hp.mem_iff.mpr hm.1) with e | e
        · omega
        · have := (List.pairwise_cons.mp hs).1 _ e; omega
      subst ha
      have hl : ∀ x ∈ l, x ≤ 0 := fun x hx => by have := hM.2 x (hp.mem_iff.mp (List.mem_cons_of_mem _ hx)); omega
      have hsum : (-1 :: l).sum = r.sum := perm_sum hp
      rw [List.sum_cons] at hsum
      have hz := (sum_npos hl).2 (by omega)
      rw [List.eq_replicate_of_mem hz, ← hp.length_eq]
      simp
  · rintro ⟨h0, h1⟩
    rw [h1] at hp
    have hl : r.length - 1 ≠ 0 := fun e => by
      rw [e] at hp
      have hr : r = [-1] := List.perm_singleton.mp (by simpa using hp.symm)
      subst hr
      simp at h0
    refine ⟨h0, minI_eq (hp.mem_iff.mp List.mem_cons_self) fun y hy => ?_, ?_, maxI_eq (hp.mem_iff.mp (List.mem_cons_of_mem _ (List.mem_replicate.mpr ⟨hl, rfl⟩))) fun y hy => ?_⟩
    · rcases List.mem_cons.mp (hp.mem_iff.mpr hy) with e | e
      · omega
      · have := (List.mem_replicate.mp e).2; omega
    · rw [← perm_sum hp, List.sum_cons]
      have : ∀ n, (List.replicate n (0 : Int)).sum = 0 := fun n => by induction n <;> simp_all [List.replicate_succ]
      rw [this]; rfl
    · rcases List.mem_cons.mp (hp.mem_iff.mpr hy) with e | e
      · omega
      · have := (List.mem_replicate.mp e).2; omega
theorem walkF_len : ∀ (f : Nat) (r : List Int), (walkF f r).2.length = r.length
  | 0, _ => rfl
  | f + 1, r => by
    unfold walkF
    split
    · show (walkF f (turnT r (g3 r))).2.length = _
      rw [walkF_len f, turnT_len]
    · rfl
theorem sem_greatest_three (ds : List D) (Q : W → Prop) (h : P_greatest_three ds Q) : t_greatest_three { nx := fun _ => Q (.dat .non), rt := fun w _ => Q w } (startR N_greatest_three.length ds) := by
  obtain ⟨r, rfl, ⟨h1, h2⟩, q⟩ := h
  unfold t_greatest_three
  nofun
  refine ⟨r, rfl, ?_⟩
  nofun
  rw [show (r.length : Int) - 1 = ((r.length - 1 : Nat) : Int) by omega]
  refine w_rgI (by omega) ?_
  refine ⟨keyR r, isPys_rng _, fun d hd => ?_, ?_⟩
  · obtain ⟨x, hx, rfl⟩ := List.mem_map.mp hd
    have hx := List.mem_range.mp hx
    nofun
    show keyD true (D.tup _) (keyR r _)
    unfold keyR
    exact rfl
  · rw [srtN_map (keyN r) (keyR r) (fun n => by
      unfold keyR keyN
      simp only
      congr 3 <;> omega)]
    nofun
    refine w_slToL (n := 3) ?_
    nofun
    rw [← List.map_take, show (List.map (fun n : Nat => D.int n) (List.take 3 (srtN (keyN r) (List.range (r.length - 1))))) = (((ordR r).take 3).map fun x : Nat => (x : Int)).map D.int by rw [List.map_map]; rfl]
    nofun
    refine w_toT ?_
    nofun
    show Q (W.dat (D.tup (List.map D.int (g3L r))))
    rw [g3L_eq h1]
    exact q
theorem sem_is_triple_above (ds : List D) (Q : W → Prop) (h : P_is_triple_above ds Q) : t_is_triple_above { nx := fun _ => Q (.dat .non), rt := fun w _ => Q w } (startR N_is_triple_above.length ds) := by
  obtain ⟨r, ⟨i, j, k⟩, rfl, ⟨h1, h2, h3⟩, q⟩ := h
  simp only at h1 h2 h3
  unfold t_is_triple_above tr3
  nofun
  rw [show [D.int (i : Int), D.int (j : Int), D.int (k : Int)] = [i, j, k].map fun x : Nat => D.int x from rfl]
  refine dcomp_all _ (fun x : Nat => .int (r.getD (1 + x) 0)) _ (fun x hx C hC => ?_) (sz (by simp)) ?_
  · have hx : x < r.length - 1 := by simp at hx; omega
    nofun
    rw [show (1 + (x : Int)).toNat = 1 + x by omega]
    exact hC _ _ rfl rfl rfl
  · nofun
    refine w_sumF (fun x : Nat => r.getD (1 + x) 0) [i, j, k] ?_
    nofun
    have e : decide (r.getD (Int.toNat 0) 0 < [r.getD (1 + i) 0, r.getD (1 + j) 0, r.getD (1 + k) 0].sum) = abvR r (i, j, k) := by
      unfold abvR moreR
      simp only [List.map_cons, List.map_nil, List.sum_cons, List.sum_nil, Nat.add_comm 1]
      exact decide_eq_decide.mpr (by rw [show (Int.toNat 0) = 0 from rfl]; omega)
    rw [e]; exact q
theorem sem_clipped (ds : List D) (Q : W → Prop) (h : P_clipped ds Q) : t_clipped { nx := fun _ => Q (.dat .non), rt := fun w _ => Q w } (startR N_clipped.length ds) := by
  obtain ⟨r, rfl, ⟨h1, h2⟩, q⟩ := h
  unfold t_clipped
  nofun
  refine dcomp_all _ (fun x : Int => .int (max 0 x)) _ (fun x hx C hC => ?_) (sz (by simp; omega)) ?_
  · nofun
    exact hC _ _ rfl rfl rfl
  · nofun
    rw [show List.map (fun x : Int => D.int (max 0 x)) r.tail = (r.tail.map fun x => max 0 x).map D.int by rw [List.map_map]; rfl]
    exact q
theorem sem_is_row_of_point (ds : List D) (Q : W → Prop) (h : P_is_row_of_point ds Q) : t_is_row_of_point { nx := fun _ => Q (.dat .non), rt := fun w _ => Q w } (startR N_is_row_of_point.length ds) := by
  obtain ⟨r, rfl, ⟨h1, h2⟩, q⟩ := h
  unfold t_is_row_of_point
  have key := isPt_iff (r := r) (nn (by omega))
  nofun
  by_cases c1 : r.getD 0 0 = 0
  · refine w_t (beq_iff_eq.mpr c1) ?_
    nofun
    by_cases c2 : minI r = -1
    · refine w_t (beq_iff_eq.mpr c2) ?_
      nofun
      by_cases c3 : r.sum = -1
      · refine w_t (beq_iff_eq.mpr c3) ?_
        nofun
        rw [show (maxI r == 0) = isPtR r from by
          rw [Bool.eq_iff_iff, beq_iff_eq]; exact ⟨fun h => key.mp ⟨c1, c2, c3, h⟩, fun h => (key.mpr h).2.2.2⟩]
        exact q
      · refine w_f (by simpa using c3) ?_
        nofun
        rw [show isPtR r = false from Bool.eq_false_iff.mpr fun h => c3 (key.mpr h).2.2.1] at q
        exact q
    · refine w_f (by simpa using c2) ?_
      nofun
      rw [show isPtR r = false from Bool.eq_false_iff.mpr fun h => c2 (key.mpr h).2.1] at q
      exact q
  · refine w_f (by simpa using c1) ?_
    nofun
    rw [show isPtR r = false from Bool.eq_false_iff.mpr fun h => c1 (key.mpr h).1] at q
    exact q
theorem sem_lower_of (ds : List D) (Q : W → Prop) (h : P_lower_of ds Q) : t_lower_of { nx := fun _ => Q (.dat .non), rt := fun w _ => Q w } (startR N_lower_of.length ds) := by
  obtain ⟨o, rfl, h1, q⟩ := h
  unfold t_lower_of
  cases o with
  | none =>
    unfold optD
    nofun
    exact q
  | some e =>
    unfold optD
    nofun
    refine ⟨e, rfl, h1 e rfl, ?_⟩
    nofun
    exact q
theorem sem_is_barred_in (ds : List D) (Q : W → Prop) (h : P_is_barred_in ds Q) : t_is_barred_in { nx := fun _ => Q (.dat .non), rt := fun w _ => Q w } (startR N_is_barred_in.length ds) := by
  obtain ⟨r, rfl, ⟨h1, h2, h3⟩, q⟩ := h
  unfold t_is_barred_in
  nofun
  refine ⟨r, rfl, ?_⟩
  nofun
  by_cases c1 : r.length = 17
  · refine w_f (by rw [c1]; rfl) ?_
    nofun
    by_cases c2 : r.tail.sum < 4 * r.getD (Int.toNat 0) 0
    · refine w_t (decide_eq_true c2) ?_
      nofun
      rw [show barR r = false from decide_eq_false fun h => by have := h.2.1; simp only [Int.toNat_zero] at c2; omega] at q
      exact q
    · refine w_f (decide_eq_false c2) ?_
      nofun
      rw [show barR r = decide (0 < maxI r) from decide_eq_decide.mpr ⟨fun h => h.2.2, fun h => ⟨c1, by simp only [Int.toNat_zero] at c2; omega, h⟩⟩] at q
      exact q
  · refine w_t (by rw [Bool.not_eq_true', beq_eq_false_iff_ne]; omega) ?_
    nofun
    rw [show barR r = false from decide_eq_false fun h => c1 h.1] at q
    exact q
theorem sem_upper_of (ds : List D) (Q : W → Prop) (h : P_upper_of ds Q) : t_upper_of { nx := fun _ => Q (.dat .non), rt := fun w _ => Q w } (startR N_upper_of.length ds) := by
  obtain ⟨p, ts, r, o, rfl, h1, h2, q⟩ := h
  unfold t_upper_of ptsD
  have go : ∀ (d : D), optD o = d → P_is_barred_in [D.tup (r.map D.int)] fun w => Q (.dat (.int 0)) := fun d _ => ⟨r, rfl, h1, q⟩
  nofun
  cases o with
  | none =>
    refine w_t rfl ?_
    nofun
    exact q
  | some e =>
    refine w_f rfl ?_
    nofun
    refine ⟨r, rfl, h1, ?_⟩
    nofun
    refine w_t h2 ?_
    nofun
    exact q
theorem sem_is_square_barred (ds : List D) (Q : W → Prop) (h : P_is_square_barred ds Q) : t_is_square_barred { nx := fun _ => Q (.dat .non), rt := fun w _ => Q w } (startR N_is_square_barred.length ds) := by
  obtain ⟨r, rfl, h1, h2, q⟩ := h
  unfold t_is_square_barred
  nofun
  refine ⟨r, rfl, h1, h2, ?_⟩
  nofun
  refine ⟨r, rfl, h1, ?_⟩
  exact ⟨rfl, q⟩
theorem sem_is_led_to_point (ds : List D) (Q : W → Prop) (h : P_is_led_to_point ds Q) : t_is_led_to_point { nx := fun _ => Q (.dat .non), rt := fun w _ => Q w } (startR N_is_led_to_point.length ds) := by
  obtain ⟨r, rfl, h1, h2, h3, q⟩ := h
  unfold t_is_led_to_point
  nofun
  refine ⟨r, rfl, h1, h2, ?_⟩
  nofun
  refine ⟨r, rfl, ⟨by omega, h1.2.1⟩, h3, ?_⟩
  nofun
  refine ⟨endR r, rfl, ?_, rfl, q⟩
  unfold Len endR
  rw [walkF_len]
  exact ⟨by omega, h1.2.1⟩
theorem sem_word_to_point (ds : List D) (Q : W → Prop) (h : P_word_to_point ds Q) : t_word_to_point { nx := fun _ => Q (.dat .non), rt := fun w _ => Q w } (startR N_word_to_point.length ds) := by
  obtain ⟨r, rfl, h1, h2, h3, q⟩ := h
  unfold t_word_to_point
  nofun
  refine ⟨r, rfl, h1, h2, ?_⟩
  nofun
  refine ⟨r, rfl, ⟨by omega, h1.2.1⟩, h3, ?_⟩
  nofun
  refine ⟨endR r, rfl, ?_, ?_⟩
  · unfold Len endR
    rw [walkF_len]
    exact ⟨by omega, h1.2.1⟩
  nofun
  cases c : isPtR (endR r)
  · rw [c] at q
    refine w_f rfl ?_
    nofun
    exact q
  · rw [c] at q
    refine w_t rfl ?_
    nofun
    exact q
theorem sem_row_above (ds : List D) (Q : W → Prop) (h : P_row_above ds Q) : t_row_above { nx := fun _ => Q (.dat .non), rt := fun w _ => Q w } (startR N_row_above.length ds) := by
  obtain ⟨p, ts, r, rfl, h1, h2, h3, q⟩ := h
  unfold t_row_above ptsD
  nofun
  refine ⟨p, ts, r, rfl, h1, ?_⟩
  nofun
  refine ⟨r, rfl, ⟨by have := h1.2.2.1.1; omega, h1.2.2.1.2.1⟩, h2, ?_⟩
  nofun
  exact ⟨p, ts, r, _, rfl, h1.2.2.1, h3, rfl, q⟩
theorem sem_bounds (ds : List D) (Q : W → Prop) (h : P_bounds ds Q) : t_bounds { nx := fun _ => Q (.dat .non), rt := fun w _ => Q w } (startR N_bounds.length ds) := by
  obtain ⟨p, ts, r, rfl, h1, h2, h3, h4, h5, q⟩ := h
  unfold t_bounds ptsD
  nofun
  refine ⟨p, ts, r, rfl, h1, ?_⟩
  nofun
  refine ⟨r, rfl, ⟨by have := h1.2.2.1.1; omega, h1.2.2.1.2.1⟩, h2, ?_⟩
  nofun
  refine ⟨_, rfl, h4, ?_⟩
  nofun
  refine ⟨p, ts, r, _, rfl, h1.2.2.1, h3, ?_⟩
  rw [h5]
  nofun
  exact q
theorem sem_require_bounded (ds : List D) (Q : W → Prop) (h : P_require_bounded ds Q) : t_require_bounded { nx := fun _ => Q (.dat .non), rt := fun w _ => Q w } (startR N_require_bounded.length ds) := by
  obtain ⟨p, ts, r, rfl, ⟨h1, h2, h3, h4, h5⟩, q⟩ := h
  unfold t_require_bounded ptsD
  nofun
  refine ⟨p, ts, rfl, h1, h2, ?_⟩
  nofun
  refine ⟨r, rfl, h3, ?_⟩
  nofun
  refine ⟨r, rfl, ?_⟩
  nofun
  refine w_t (decide_eq_true (by omega)) ?_
  nofun
  refine w_f (by rw [decide_eq_true (by have := h3.2.1; omega)]; rfl) ?_
  nofun
  refine ⟨r, rfl, ?_⟩
  nofun
  refine w_f (by rw [Bool.not_eq_false', beq_iff_eq, List.length_map]; omega) ?_
  nofun
  exact q

end K82

set_option Elab.async false
set_option linter.all false
set_option pp.deepTerms false
set_option maxRecDepth 100000
set_option maxHeartbeats 4000000
namespace K82
open PySem PySem.Spec PyProof.Rows L2 L3
local macro_rules | `(tactic| nofun) => `(tactic| repeat (first | with_reducible refine w_seq ?_ | with_reducible refine w_nx ?_ | with_reducible refine w_ret ?_ | with_reducible refine w_retN ?_ | with_reducible refine w_drop ?_ | with_reducible refine w_ifS ?_ | with_reducible refine w_asg ?_ | with_reducible refine w_for ?_ | with_reducible refine w_forC ?_ | with_reducible refine w_forN ?_ | with_reducible refine w_K ?_ | with_reducible refine w_N (by with_unfolding_all rfl) ?_ | with_reducible refine w_No (by with_unfolding_all rfl) ?_ | with_reducible refine w_2 ?_ | with_reducible refine w_nilA ?_ | with_reducible refine w_consA ?_ | with_reducible refine w_CD ?_ | with_reducible refine w_call ?_ | with_reducible refine w_add ?_ | with_reducible refine w_sub ?_ | with_reducible refine w_mul (cmw (by omega) (by omega)) ?_ | with_reducible refine w_mul (cmw (by first | decide | exact bd (by assumption)) (by first | decide | exact bd (by assumption))) ?_ | with_reducible refine w_slcT ?_ | with_reducible refine w_slR ?_ | with_reducible refine w_sumT ?_ | with_reducible refine w_sumL ?_ | with_reducible refine w_comp ?_ | with_reducible refine w_zip ?_ | with_reducible refine w_zipT (by with_unfolding_all rfl) ?_ | with_reducible refine w_zipL (by with_unfolding_all rfl) ?_ | with_reducible refine w_itv ?_ | with_reducible refine w_itvT (by with_unfolding_all rfl) ?_ | with_reducible refine w_itvL (by with_unfolding_all rfl) ?_ | with_reducible refine w_par ?_ | with_reducible refine w_tup1S ?_ | with_reducible refine w_s1L (by first | omega | (simp only [List.length_map, List.length_tail, List.length_reverse]; omega)) ?_ | with_reducible refine w_s1T (by first | omega | (simp only [List.length_map, List.length_tail, List.length_cons, List.length_nil]; omega)) ?_ | with_reducible refine w_minT (nn (by first | omega | (simp only [List.length_tail]; omega))) ?_ | with_reducible refine w_maxT (nn (by first | omega | (simp only [List.length_tail]; omega))) ?_ | with_reducible refine w_tup ?_ | with_reducible refine w_lst ?_ | with_reducible refine w_toL ?_ | with_reducible refine w_toLL ?_ | with_reducible refine w_toT ?_ | with_reducible refine w_gIx ⟨(by with_unfolding_all rfl), (by with_unfolding_all rfl)⟩ ?_ | with_reducible refine w_gIxR (by with_unfolding_all rfl) (by omega) (by first | omega | (simp only [List.length_set]; omega)) ?_ | with_reducible refine w_gNil ?_ | with_reducible refine w_gCons ?_ | with_reducible refine w_gTup (by with_unfolding_all rfl) ?_ | with_reducible refine w_tst ?_ | with_reducible refine w_tstB ?_ | with_reducible refine w_tru ?_ | with_reducible refine w_truB ?_ | with_reducible refine w_orL ?_ | with_reducible refine w_andL ?_ | with_reducible refine w_notL ?_ | with_reducible refine w_yes ?_ | with_reducible refine w_lenT ?_ | with_reducible refine w_lenL ?_ | with_reducible refine w_isiT (by with_unfolding_all rfl) (by with_unfolding_all decide) (by with_unfolding_all rfl) ?_ | with_reducible refine w_isiF (by with_unfolding_all rfl) (by with_unfolding_all decide) (by with_unfolding_all rfl) ?_ | with_reducible refine w_allT ?_ | with_reducible refine w_t (by with_unfolding_all rfl) ?_ | with_reducible refine w_f (by with_unfolding_all rfl) ?_ | with_reducible refine w_kin ?_ | with_reducible refine w_kget ?_ | with_reducible refine w_slc ?_ | with_reducible refine w_nop ?_ | with_reducible refine w_bk ?_ | with_reducible refine w_ifE ?_ | with_reducible refine w_ng ?_ | with_reducible refine w_ngI ?_ | with_reducible refine w_andV ?_ | with_reducible refine w_andB ?_ | with_reducible refine w_orV ?_ | with_reducible refine w_orB ?_ | with_reducible refine w_notV ?_ | with_reducible refine w_notB ?_ | with_reducible refine w_isNt ?_ | with_reducible refine w_maxL (nn (by first | omega | (simp only [List.length_tail]; omega))) ?_ | with_reducible refine w_addL (by simp only [List.length_append, List.length_replicate, List.length_cons, List.length_nil, List.length_map, List.length_take]; omega) ?_ | with_reducible refine w_repT2 (by first | decide | omega) (by first | decide | omega) ?_ | with_reducible refine w_addT (by simp only [List.length_append, List.length_replicate, List.length_cons, List.length_nil, List.length_map]; omega) ?_ | with_reducible refine w_toL ?_ | with_reducible refine w_toLL ?_ | with_reducible refine w_toT ?_ | with_reducible refine w_mul (cm2 (by first | decide | omega) (by first | decide | omega)) ?_ | with_reducible refine w_lenS ?_ | with_reducible refine w_fd (by first | assumption | decide | omega) (by first | decide | omega) ?_ | with_reducible refine w_ixCL (by with_unfolding_all rfl) ?_ | with_reducible refine w_gIxC (by with_unfolding_all rfl) (by with_unfolding_all rfl) ?_ | with_reducible refine w_mod (by first | assumption | omega) ?_ | with_reducible refine w_chn ?_ | with_reducible refine w_chnB ?_ | with_reducible refine w_isNf ?_ | with_reducible refine w_ifT ?_ | with_reducible refine w_tt ?_ | with_reducible refine w_ff ?_ | with_reducible refine w_star ?_ | with_reducible refine w_starL ?_ | with_reducible refine w_starT ?_ | with_reducible refine w_rev ?_ | with_reducible refine w_revL ?_ | with_reducible refine w_revT ?_ | with_reducible refine w_rng1 ?_ | with_reducible refine w_lrg1 ?_ | with_reducible refine w_qrg1 ?_ | with_reducible refine w_lrg2 ?_ | with_reducible refine w_app (by with_unfolding_all rfl) ?_ | with_reducible refine w_appI (by with_unfolding_all rfl) (by with_unfolding_all rfl) (by simp only [List.length_cons, List.length_nil, List.length_map]; omega) ?_ | with_reducible refine w_pop (by with_unfolding_all rfl) ?_ | with_reducible refine w_callM ?_ | with_reducible refine w_callMN ?_ | with_reducible refine w_callMI (by with_unfolding_all rfl) (by with_unfolding_all rfl) (by with_unfolding_all rfl) ?_ | with_reducible refine w_II ?_ | with_reducible refine w_abs ?_ | with_reducible refine w_intI ?_ | with_reducible refine w_intB ?_ | with_reducible refine w_srtL ?_ | with_reducible refine w_srtT ?_ | with_reducible refine w_srtRT ?_ | with_reducible refine w_slTo ?_ | with_reducible refine w_slToL ?_ | with_reducible refine w_aug (by with_unfolding_all rfl) ?_ | with_reducible refine w_augI ?_ | with_reducible refine w_gUn ?_ | with_reducible refine w_unL (by with_unfolding_all rfl) ?_ | with_reducible refine w_sortLam ?_ | with_reducible refine w_neL ?_ | with_reducible refine w_neB ?_ | with_reducible refine w_prt ?_ | with_reducible refine w_prtI ?_ | with_reducible refine w_lt ?_ | with_reducible refine w_le ?_ | with_reducible refine w_gt ?_ | with_reducible refine w_ge ?_ | with_reducible refine w_eqI ?_ | with_reducible refine w_neI ?_ | with_reducible refine w_eqR ?_ | with_reducible refine w_eqL ?_ | with_reducible refine w_ixR (by simp only [List.length_tail]; omega) (by simp only [List.length_tail]; omega) ?_ | with_reducible refine w_ixR (by omega) (by omega) ?_ | with_reducible refine w_ixL (by omega) (by first | omega | (simp only [List.length_set]; omega)) ?_ | with_reducible refine w_ixC (by with_unfolding_all rfl) ?_ | with_reducible refine w_gNm (by with_unfolding_all rfl) ?_ | with_reducible refine w_gNn ?_ | with_reducible refine ⟨(by with_unfolding_all rfl), ?_⟩ | with_reducible refine ⟨⟨(by with_unfolding_all rfl), (by with_unfolding_all rfl)⟩, ?_⟩ | with_reducible refine ⟨⟨(by with_unfolding_all rfl), sz (by simp only [List.length_cons, List.length_nil]; omega)⟩, ?_⟩ | (simp only [val_dat, val_new, val_ref, List.getElem?_cons_zero, List.getElem?_cons_succ, tupI, List.map_cons, List.map_nil, startR, startM, frzs, setsR, slotW, anyRef, wipeR, unwipe, List.any_cons, List.any_nil, List.filter_cons, List.filter_nil, List.length_cons, List.length_nil, List.replicate, List.set_cons_zero, List.set_cons_succ, List.cons_append, List.nil_append, Bool.or_false, Bool.or_self, Bool.false_eq_true, if_false, List.getD_cons_zero, List.getD_cons_succ, Nat.reduceSub, Nat.reduceAdd])))
theorem clipR_len (r : List Int) (h : 4 ≤ r.length) : (clipR r).length = r.length := by
  unfold clipR
  rw [List.length_cons, List.length_map, List.length_tail]; omega
theorem clipR_deg (r : List Int) : (clipR r).getD 0 0 = r.getD 0 0 := rfl
theorem set_getD (r : List Int) (i j : Nat) (a : Int) : (r.set i a).getD j 0 = if i = j ∧ j < r.length then a else r.getD j 0 := by
  simp only [List.getD_eq_getElem?_getD, List.getElem?_set]
  by_cases h : i = j
  · subst h
    by_cases h2 : i < r.length
    · simp [h2]
    · simp [h2]
  · simp [h]
theorem addAt_getD (c : Int) (r : List Int) (p x : Nat) (h : p < r.length) : (addAt c r p).getD x 0 = if p = x then r.getD x 0 + c else r.getD x 0 := by
  unfold addAt
  rw [set_getD]
  by_cases e : p = x
  · subst e; rw [if_pos ⟨rfl, h⟩, if_pos rfl]
  · rw [if_neg (fun q => e q.1), if_neg e]
theorem turnR_getD {r : List Int} {i j k : Nat} (hi : i + 1 < r.length) (hj : j + 1 < r.length) (hk : k + 1 < r.length) (ij : i ≠ j) (ik : i ≠ k) (jk : j ≠ k) (x : Nat) :
    (turnR r i j k).getD x 0 = if x = 0 ∨ x = i + 1 ∨ x = j + 1 ∨ x = k + 1 then r.getD x 0 + moreR r i j k else r.getD x 0 := by
  unfold turnR
  simp only [List.foldl_cons, List.foldl_nil]
  rw [addAt_getD _ _ _ _ (by simp only [addAt_len]; omega), addAt_getD _ _ _ _ (by simp only [addAt_len]; omega), addAt_getD _ _ _ _ (by simp only [addAt_len]; omega), addAt_getD _ _ _ _ (by omega)]
  grind
theorem turnT_deg {r : List Int} {t : Nat × Nat × Nat} (h : MvOk (r.length - 1) t) : (turnT r t).getD 0 0 = r.getD 0 0 + moreR r t.1 t.2.1 t.2.2 := by
  obtain ⟨h1, h2, h3⟩ := h
  unfold turnT
  rw [turnR_getD (by omega) (by omega) (by omega) (by omega) (by omega) (by omega), if_pos (Or.inl rfl)]
theorem abvR_iff {r : List Int} {t : Nat × Nat × Nat} : abvR r t = true ↔ moreR r t.1 t.2.1 t.2.2 < 0 := by unfold abvR; rw [decide_eq_true_iff]
theorem stdF_succ (f : Nat) (r : List Int) : stdF (f + 1) r = if (clipR r).getD 0 0 < 0 then none else if abvR (clipR r) (g3 (clipR r)) = true then stdF f (turnT (clipR r) (g3 (clipR r))) else some ((clipR r).getD 0 0 :: (srtI (clipR r).tail).reverse) := rfl
theorem walkF_succ (f : Nat) (r : List Int) : walkF (f + 1) r = if (goR r && abvR r (g3 r)) = true then (g3 r :: (walkF f (turnT r (g3 r))).1, (walkF f (turnT r (g3 r))).2) else ([], r) := rfl
theorem sem_standard_end (ds : List D) (Q : W → Prop) (h : P_standard_end ds Q) : t_standard_end { nx := fun _ => Q (.dat .non), rt := fun w _ => Q w } (startR N_standard_end.length ds) := by
  obtain ⟨r, rfl, ⟨h1, h2⟩, h3, q⟩ := h
  unfold t_standard_end
  nofun
  refine w_while (fun m ρ => ∃ (r' : List Int) (k : Int) (s : Slot), ρ = [.dat (.tup (r'.map D.int)), .dat (.int k), s] ∧ r'.length = r.length ∧ 0 ≤ k ∧ k + r'.getD 0 0 < 2000 ∧ stdF m r' = stdF (r.getD 0 0 + 1).toNat r ∧ r'.getD 0 0 + 1 ≤ m) (r.getD 0 0 + 1).toNat ⟨r, 0, _, rfl, rfl, by omega, by omega, rfl, by omega⟩ ?_
  rintro m ρ1 ⟨r', k, s, rfl, hl, hk, hk2, hF, hm⟩
  nofun
  refine ⟨r', rfl, ⟨by omega, by omega⟩, ?_⟩
  have cl := clipR_len r' (by omega)
  nofun
  by_cases c1 : r'.getD 0 0 < 0
  · refine w_t (by rw [decide_eq_true_iff]; exact c1) ?_
    nofun
    have e : stdF m r' = none := by
      cases m with
      | zero => rfl
      | succ m =>
        rw [stdF_succ, if_pos (by rw [clipR_deg]; exact c1)]
    rw [← hF, e] at q
    exact q
  · refine w_f (by rw [decide_eq_false_iff_not]; exact c1) ?_
    nofun
    refine ⟨clipR r', rfl, ⟨by omega, by omega⟩, ?_⟩
    have ok := g3_ok (r := clipR r') (by omega)
    cases m with
    | zero => omega
    | succ m =>
    nofun
    refine ⟨clipR r', g3 (clipR r'), rfl, ok, ?_⟩
    nofun
    rw [stdF_succ, if_neg (by rw [clipR_deg]; exact c1)] at hF
    generalize g3 (clipR r') = t at *
    obtain ⟨ti, tj, tk⟩ := t
    obtain ⟨o1, o2, o3⟩ := id ok
    simp only at o1 o2 o3
    by_cases c2 : abvR (clipR r') (ti, tj, tk) = true
    · rw [if_pos c2] at hF
      rw [c2]
      nofun
      refine w_f (by rw [beq_eq_false_iff_ne]; omega) ?_
      unfold tr3
      nofun
      refine ⟨clipR r', ti, tj, tk, rfl, by omega, by omega, by omega, ?_⟩
      nofun
      have dg := turnT_deg ok
      have ab := abvR_iff.mp c2
      refine ⟨m, by omega, turnT (clipR r') (ti, tj, tk), k + 1, _, rfl, by rw [turnT_len]; omega, by omega, ?_, hF, ?_⟩
      · rw [dg, clipR_deg]; omega
      · rw [dg, clipR_deg]; omega
    · rw [if_neg c2] at hF
      rw [Bool.not_eq_true] at c2
      rw [c2]
      nofun
      refine w_s1L (by rw [List.length_map, List.length_reverse, (srtI_perm _).length_eq, List.length_tail]; omega) ?_
      rw [← hF] at q
      exact ⟨rfl, q⟩
theorem sem_walk_to_point (ds : List D) (Q : W → Prop) (h : P_walk_to_point ds Q) : t_walk_to_point { nx := fun _ => Q (.dat .non), rt := fun w _ => Q w } (startR N_walk_to_point.length ds) := by
  obtain ⟨r, rfl, ⟨h1, h2⟩, h3, q⟩ := h
  unfold t_walk_to_point
  nofun
  refine w_while (fun m ρ => ∃ (r' : List Int) (ts : List (Nat × Nat × Nat)) (s : Slot), ρ = [.dat (.tup (r'.map D.int)), .own (ts.map mvD), s] ∧ r'.length = r.length ∧ ts.length + r'.getD 0 0 ≤ 2000 ∧ (ts ++ (walkF m r').1, (walkF m r').2) = walkF (r.getD 0 0).toNat r ∧ r'.getD 0 0 ≤ m) (r.getD 0 0).toNat ⟨r, [], _, rfl, rfl, by rw [List.length_nil]; omega, by simp, by omega⟩ ?_
  rintro m ρ1 ⟨r', ts, s, rfl, hl, hk2, hF, hm⟩
  have fin : goR r' = false ∨ abvR r' (g3 r') = false → ts = (walkF (r.getD 0 0).toNat r).1 ∧ r' = (walkF (r.getD 0 0).toNat r).2 := fun c => by
    have e : walkF m r' = ([], r') := by
      cases m with
      | zero => rfl
      | succ m =>
        rw [walkF_succ, if_neg]
        rcases c with c | c <;> simp [c]
    rw [← hF, e]
    simp
  nofun
  by_cases c1 : 0 ≤ minI r'.tail
  · refine w_t (decide_eq_true c1) ?_
    nofun
    by_cases c2 : 0 < r'.getD 0 0
    · refine w_t (decide_eq_true c2) ?_
      nofun
      refine ⟨r', rfl, ⟨by omega, by omega⟩, ?_⟩
      have ok := g3_ok (r := r') (by omega)
      cases m with
      | zero => omega
      | succ m =>
      nofun
      refine ⟨r', g3 r', rfl, ok, ?_⟩
      nofun
      have c3 : goR r' = true := decide_eq_true ⟨c1, c2⟩
      rw [walkF_succ, c3, Bool.true_and] at hF
      generalize g3 r' = t at *
      obtain ⟨ti, tj, tk⟩ := t
      obtain ⟨o1, o2, o3⟩ := id ok
      simp only at o1 o2 o3
      by_cases c4 : abvR r' (ti, tj, tk) = true
      · rw [if_pos c4] at hF
        rw [c4]
        unfold tr3
        nofun
        refine w_f (by rw [beq_eq_false_iff_ne, List.length_map]; omega) ?_
        nofun
        refine ⟨r', ti, tj, tk, rfl, by omega, by omega, by omega, ?_⟩
        nofun
        have dg := turnT_deg ok
        have ab := abvR_iff.mp c4
        refine ⟨m, by omega, turnT r' (ti, tj, tk), ts ++ [(ti, tj, tk)], _, by rw [List.map_append]; rfl, by rw [turnT_len]; omega, ?_, ?_, ?_⟩
        · rw [dg, List.length_append, List.length_singleton]; omega
        · rw [← hF, List.append_assoc]; rfl
        · rw [dg]; omega
      · rw [Bool.not_eq_true] at c4
        rw [c4]
        nofun
        obtain ⟨e1, e2⟩ := fin (.inr c4)
        rw [← e1, ← e2] at q
        exact q
    · refine w_f (decide_eq_false c2) ?_
      nofun
      obtain ⟨e1, e2⟩ := fin (.inl (decide_eq_false fun h => c2 h.2))
      rw [← e1, ← e2] at q
      exact q
  · refine w_f (decide_eq_false c1) ?_
    nofun
    obtain ⟨e1, e2⟩ := fin (.inl (decide_eq_false fun h => c1 h.1))
    rw [← e1, ← e2] at q
    exact q

end K82

set_option Elab.async false
set_option linter.all false
set_option pp.deepTerms false
set_option maxRecDepth 100000
set_option maxHeartbeats 4000000
namespace K82
open PySem PySem.Spec PyProof.Rows L2 L3
local macro_rules | `(tactic| nofun) => `(tactic| repeat (first | with_reducible refine w_seq ?_ | with_reducible refine w_nx ?_ | with_reducible refine w_ret ?_ | with_reducible refine w_retN ?_ | with_reducible refine w_drop ?_ | with_reducible refine w_ifS ?_ | with_reducible refine w_asg ?_ | with_reducible refine w_for ?_ | with_reducible refine w_forC ?_ | with_reducible refine w_forN ?_ | with_reducible refine w_K ?_ | with_reducible refine w_N (by with_unfolding_all rfl) ?_ | with_reducible refine w_No (by with_unfolding_all rfl) ?_ | with_reducible refine w_2 ?_ | with_reducible refine w_nilA ?_ | with_reducible refine w_consA ?_ | with_reducible refine w_CD ?_ | with_reducible refine w_call ?_ | with_reducible refine w_add ?_ | with_reducible refine w_sub ?_ | with_reducible refine w_mul (cmw (by omega) (by omega)) ?_ | with_reducible refine w_mul (cmw (by first | decide | exact bd (by assumption)) (by first | decide | exact bd (by assumption))) ?_ | with_reducible refine w_slcT ?_ | with_reducible refine w_slR ?_ | with_reducible refine w_sumT ?_ | with_reducible refine w_sumL ?_ | with_reducible refine w_comp ?_ | with_reducible refine w_zip ?_ | with_reducible refine w_zipT (by with_unfolding_all rfl) ?_ | with_reducible refine w_zipL (by with_unfolding_all rfl) ?_ | with_reducible refine w_itv ?_ | with_reducible refine w_itvT (by with_unfolding_all rfl) ?_ | with_reducible refine w_itvL (by with_unfolding_all rfl) ?_ | with_reducible refine w_par ?_ | with_reducible refine w_tup1S ?_ | with_reducible refine w_s1L (by first | omega | (simp only [List.length_map, List.length_tail, List.length_reverse]; omega)) ?_ | with_reducible refine w_s1T (by first | omega | (simp only [List.length_map, List.length_tail, List.length_cons, List.length_nil]; omega)) ?_ | with_reducible refine w_minT (nn (by first | omega | (simp only [List.length_tail]; omega))) ?_ | with_reducible refine w_maxT (nn (by first | omega | (simp only [List.length_tail]; omega))) ?_ | with_reducible refine w_tup ?_ | with_reducible refine w_lst ?_ | with_reducible refine w_toL ?_ | with_reducible refine w_toLL ?_ | with_reducible refine w_toT ?_ | with_reducible refine w_gIx ⟨(by with_unfolding_all rfl), (by with_unfolding_all rfl)⟩ ?_ | with_reducible refine w_gIxR (by with_unfolding_all rfl) (by omega) (by first | omega | (simp only [List.length_set]; omega)) ?_ | with_reducible refine w_gNil ?_ | with_reducible refine w_gCons ?_ | with_reducible refine w_gTup (by with_unfolding_all rfl) ?_ | with_reducible refine w_tst ?_ | with_reducible refine w_tstB ?_ | with_reducible refine w_tru ?_ | with_reducible refine w_truB ?_ | with_reducible refine w_orL ?_ | with_reducible refine w_andL ?_ | with_reducible refine w_notL ?_ | with_reducible refine w_yes ?_ | with_reducible refine w_lenT ?_ | with_reducible refine w_lenL ?_ | with_reducible refine w_isiT (by with_unfolding_all rfl) (by with_unfolding_all decide) (by with_unfolding_all rfl) ?_ | with_reducible refine w_isiF (by with_unfolding_all rfl) (by with_unfolding_all decide) (by with_unfolding_all rfl) ?_ | with_reducible refine w_allT ?_ | with_reducible refine w_t (by with_unfolding_all rfl) ?_ | with_reducible refine w_f (by with_unfolding_all rfl) ?_ | with_reducible refine w_kin ?_ | with_reducible refine w_kget ?_ | with_reducible refine w_slc ?_ | with_reducible refine w_nop ?_ | with_reducible refine w_bk ?_ | with_reducible refine w_ifE ?_ | with_reducible refine w_ng ?_ | with_reducible refine w_ngI ?_ | with_reducible refine w_andV ?_ | with_reducible refine w_andB ?_ | with_reducible refine w_orV ?_ | with_reducible refine w_orB ?_ | with_reducible refine w_notV ?_ | with_reducible refine w_notB ?_ | with_reducible refine w_isNt ?_ | with_reducible refine w_maxL (nn (by first | omega | (simp only [List.length_tail]; omega))) ?_ | with_reducible refine w_addL (by simp only [List.length_append, List.length_replicate, List.length_cons, List.length_nil, List.length_map, List.length_take]; omega) ?_ | with_reducible refine w_repT2 (by first | decide | omega) (by first | decide | omega) ?_ | with_reducible refine w_addT (by simp only [List.length_append, List.length_replicate, List.length_cons, List.length_nil, List.length_map]; omega) ?_ | with_reducible refine w_toL ?_ | with_reducible refine w_toLL ?_ | with_reducible refine w_toT ?_ | with_reducible refine w_mul (cm2 (by first | decide | omega) (by first | decide | omega)) ?_ | with_reducible refine w_lenS ?_ | with_reducible refine w_fd (by first | assumption | decide | omega) (by first | decide | omega) ?_ | with_reducible refine w_ixCL (by with_unfolding_all rfl) ?_ | with_reducible refine w_gIxC (by with_unfolding_all rfl) (by with_unfolding_all rfl) ?_ | with_reducible refine w_mod (by first | assumption | omega) ?_ | with_reducible refine w_chn ?_ | with_reducible refine w_chnB ?_ | with_reducible refine w_isNf ?_ | with_reducible refine w_ifT ?_ | with_reducible refine w_tt ?_ | with_reducible refine w_ff ?_ | with_reducible refine w_star ?_ | with_reducible refine w_starL ?_ | with_reducible refine w_starT ?_ | with_reducible refine w_rev ?_ | with_reducible refine w_revL ?_ | with_reducible refine w_revT ?_ | with_reducible refine w_rng1 ?_ | with_reducible refine w_lrg1 ?_ | with_reducible refine w_qrg1 ?_ | with_reducible refine w_lrg2 ?_ | with_reducible refine w_app (by with_unfolding_all rfl) ?_ | with_reducible refine w_appI (by with_unfolding_all rfl) (by with_unfolding_all rfl) (by simp only [List.length_cons, List.length_nil, List.length_map]; omega) ?_ | with_reducible refine w_pop (by with_unfolding_all rfl) ?_ | with_reducible refine w_callM ?_ | with_reducible refine w_callMN ?_ | with_reducible refine w_callMI (by with_unfolding_all rfl) (by with_unfolding_all rfl) (by with_unfolding_all rfl) ?_ | with_reducible refine w_II ?_ | with_reducible refine w_abs ?_ | with_reducible refine w_intI ?_ | with_reducible refine w_intB ?_ | with_reducible refine w_srtL ?_ | with_reducible refine w_srtT ?_ | with_reducible refine w_srtRT ?_ | with_reducible refine w_slTo ?_ | with_reducible refine w_slToL ?_ | with_reducible refine w_aug (by with_unfolding_all rfl) ?_ | with_reducible refine w_augI ?_ | with_reducible refine w_gUn ?_ | with_reducible refine w_unL (by with_unfolding_all rfl) ?_ | with_reducible refine w_sortLam ?_ | with_reducible refine w_neL ?_ | with_reducible refine w_neB ?_ | with_reducible refine w_prt ?_ | with_reducible refine w_prtI ?_ | with_reducible refine w_lt ?_ | with_reducible refine w_le ?_ | with_reducible refine w_gt ?_ | with_reducible refine w_ge ?_ | with_reducible refine w_eqI ?_ | with_reducible refine w_neI ?_ | with_reducible refine w_eqR ?_ | with_reducible refine w_eqL ?_ | with_reducible refine w_ixR (by simp only [List.length_tail]; omega) (by simp only [List.length_tail]; omega) ?_ | with_reducible refine w_ixR (by omega) (by omega) ?_ | with_reducible refine w_ixL (by omega) (by first | omega | (simp only [List.length_set]; omega)) ?_ | with_reducible refine w_ixC (by with_unfolding_all rfl) ?_ | with_reducible refine w_gNm (by with_unfolding_all rfl) ?_ | with_reducible refine w_gNn ?_ | with_reducible refine ⟨(by with_unfolding_all rfl), ?_⟩ | with_reducible refine ⟨⟨(by with_unfolding_all rfl), (by with_unfolding_all rfl)⟩, ?_⟩ | with_reducible refine ⟨⟨(by with_unfolding_all rfl), sz (by simp only [List.length_cons, List.length_nil]; omega)⟩, ?_⟩ | (simp only [val_dat, val_new, val_ref, List.getElem?_cons_zero, List.getElem?_cons_succ, tupI, List.map_cons, List.map_nil, startR, startM, frzs, setsR, slotW, anyRef, wipeR, unwipe, List.any_cons, List.any_nil, List.filter_cons, List.filter_nil, List.length_cons, List.length_nil, List.replicate, List.set_cons_zero, List.set_cons_succ, List.cons_append, List.nil_append, Bool.or_false, Bool.or_self, Bool.false_eq_true, if_false, List.getD_cons_zero, List.getD_cons_succ, Nat.reduceSub, Nat.reduceAdd])))
theorem sem__law_times (ds : List D) (Q : W → Prop) (h : P__law_times ds Q) : t__law_times { nx := fun _ => Q (.dat .non), rt := fun w _ => Q w } (startR N__law_times.length ds) := by
  obtain ⟨r, s, rfl, ⟨h1, h2, h3⟩, ⟨g1, g2, g3⟩, q⟩ := h
  unfold t__law_times
  nofun
  rw [zipD_ints]
  refine dcomp_all _ (fun p : Int × Int => .int (p.1 * p.2)) _ (fun p hp C hC => ?_) (sz (by simp; omega)) ?_
  · have hm := List.of_mem_zip hp
    have b1 : p.1.natAbs < 2 ^ 1000 := bdm h3 (List.mem_of_mem_tail hm.1)
    have b2 : p.2.natAbs < 2 ^ 1000 := bdm g3 (List.mem_of_mem_tail hm.2)
    nofun
    exact hC _ _ rfl rfl rfl
  · nofun
    refine w_sumF (fun p : Int × Int => p.1 * p.2) _ ?_
    nofun
    rw [show (List.zip r.tail s.tail).map (fun p : Int × Int => p.1 * p.2) = List.zipWith (· * ·) r.tail s.tail from by rw [List.zip_eq_zipWith, List.map_zipWith]]
    exact q
theorem sem__law_cubic (ds : List D) (Q : W → Prop) (h : P__law_cubic ds Q) : t__law_cubic { nx := fun _ => Q (.dat .non), rt := fun w _ => Q w } (startR N__law_cubic.length ds) := by
  obtain ⟨n, rfl, h1, q⟩ := h
  unfold t__law_cubic
  nofun
  unfold cubicR rowD tupI at q
  show Q (W.dat (D.tup _))
  simpa using q
theorem sem__law_point_row (ds : List D) (Q : W → Prop) (h : P__law_point_row ds Q) : t__law_point_row { nx := fun _ => Q (.dat .non), rt := fun w _ => Q w } (startR N__law_point_row.length ds) := by
  obtain ⟨n, k, rfl, h1, q⟩ := h
  unfold t__law_point_row
  nofun
  refine w_rngI (by unfold BndI; omega) ?_
  nofun
  refine dcomp_all (fun x : Nat => .int x) (fun x : Nat => .int (if (x : Int) = k then -1 else 0)) _ (fun x hx C hC => ?_) (sz (by simp; omega)) ?_
  · nofun
    refine hC _ _ rfl ?_ rfl
    show D.int _ = D.int _
    congr 1
    by_cases e : (x : Int) = k
    · subst e; simp
    · simp [e]
  · nofun
    refine w_addL (by simp; omega) ?_
    nofun
    refine w_toT ?_
    nofun
    unfold ptR rowD tupI at q
    simpa [Function.comp_def] using q
theorem sem__law_roll (l ds : List D) (Q : W → List D → Prop) (h : P__law_roll l ds Q) : t__law_roll { nx := fun ρ => ∃ l', ρ[0]? = some (.own l') ∧ Q (.dat .non) l', rt := fun w ρ => ∃ l', ρ[0]? = some (.own l') ∧ Q w l' } (startM N__law_roll.length l ds) := by
  obtain ⟨a, b, c, s, N, rfl, rfl, ⟨a0, a1, b0, b1, c0, c1⟩, h1, h2, h3, q⟩ := h
  unfold t__law_roll dice
  unfold dice rollF at q
  nofun
  by_cases ha : 0 < a
  · refine w_t (decide_eq_true ha) ?_
    nofun
    rw [if_pos ha] at q
    exact ⟨_, rfl, q⟩
  · refine w_f (decide_eq_false ha) ?_
    nofun
    rw [if_neg ha] at q
    unfold mixI at q
    have g0 : 0 ≤ (b + 1000403 * (c + 1)) % 2305843009213693951 := by omega
    have g1 : (b + 1000403 * (c + 1)) % 2305843009213693951 < 2305843009213693951 := by omega
    generalize (b + 1000403 * (c + 1)) % 2305843009213693951 = one at *
    nofun
    have g2 : 0 ≤ one * one % 2305843009213693921 := by omega
    have g3 : one * one % 2305843009213693921 < 2305843009213693921 := by omega
    generalize one * one % 2305843009213693921 = sq at *
    nofun
    exact ⟨_, rfl, q⟩
theorem roll_db {N a b c s : Int} (h : Dok N a b c) (hs : 1 ≤ s) : (0 ≤ (rollF a b c s).1 ∧ (rollF a b c s).1 < s) ∧ Dok (N + 1) (rollF a b c s).2.1 b (rollF a b c s).2.2 := by
  obtain ⟨a0, a1, b0, b1, c0, c1⟩ := h
  unfold rollF
  split
  · have d1 := Int.emod_nonneg a (b := s) (by omega)
    have d2 := Int.emod_lt_of_pos a (b := s) (by omega)
    have d3 : 0 ≤ a / s := Int.ediv_nonneg a0 (by omega)
    have d4 : a / s ≤ a := Int.ediv_le_self _ a0
    exact ⟨⟨d1, d2⟩, d3, Int.lt_of_le_of_lt d4 a1, b0, b1, c0, by show c ≤ N + 1; omega⟩
  · have d1 := Int.emod_nonneg (mixI b (c + 1) / 4096) (b := s) (by omega)
    have d2 := Int.emod_lt_of_pos (mixI b (c + 1) / 4096) (b := s) (by omega)
    exact ⟨⟨d1, d2⟩, a0, a1, b0, b1, by show 0 ≤ c + 1; omega, by show c + 1 ≤ N + 1; omega⟩
/-- a roll, whatever comes -/
theorem roll_any {N s : Int} {l : List D} {Q : W → List D → Prop} (h : DB N l) (h1 : N ≤ 2 ^ 140) (hs : 1 ≤ s) (hs2 : s < 2 ^ 62) (q : ∀ v, 0 ≤ v → v < s → ∀ l', DB (N + 1) l' → Q (.dat (.int v)) l') : P__law_roll l [.int s] Q := by
  obtain ⟨a, b, c, rfl, hd⟩ := h
  have := roll_db (s := s) hd hs
  exact ⟨a, b, c, s, N, rfl, rfl, hd, h1, hs, hs2, q _ this.1.1 this.1.2 _ ⟨_, _, _, rfl, this.2⟩⟩
theorem DB.up {N M : Int} {l : List D} (h : DB N l) (hm : N ≤ M) : DB M l := by
  obtain ⟨a, b, c, rfl, ⟨a0, a1, b0, b1, c0, c1⟩⟩ := h
  exact ⟨a, b, c, rfl, ⟨a0, a1, b0, b1, c0, by omega⟩⟩
theorem sem__law_one_of (l ds : List D) (Q : W → List D → Prop) (h : P__law_one_of l ds Q) : t__law_one_of { nx := fun ρ => ∃ l', ρ[0]? = some (.own l') ∧ Q (.dat .non) l', rt := fun w ρ => ∃ l', ρ[0]? = some (.own l') ∧ Q w l' } (startM N__law_one_of.length l ds) := by
  obtain ⟨N, xs, rfl, hd, h1, h2, h3, q⟩ := h
  unfold t__law_one_of
  nofun
  refine roll_any hd h1 (by have := List.length_pos_iff.mpr h2; omega) (by omega) fun v v0 v1 l' hl => ?_
  nofun
  have hv : v.toNat < xs.length := by omega
  refine w_ixIL v.toNat (List.getElem?_eq_getElem hv) (by omega) ?_
  exact ⟨rfl, _, rfl, q _ (List.getElem_mem hv) _ hl⟩
theorem erase_map {α β : Type} (f : α → β) : ∀ (l : List α) (i : Nat), (l.eraseIdx i).map f = (l.map f).eraseIdx i
  | [], _ => rfl
  | _ :: _, 0 => rfl
  | a :: l, i + 1 => by
    show f a :: (l.eraseIdx i).map f = f a :: (l.map f).eraseIdx i
    rw [erase_map f l i]
theorem erase_perm {α : Type} : ∀ (l : List α) (i : Nat) (h : i < l.length), (l[i] :: l.eraseIdx i).Perm l
  | [], _, h => absurd h (Nat.not_lt_zero _)
  | _ :: _, 0, _ => .refl _
  | a :: l, i + 1, h => ((List.Perm.swap a _ _)).trans ((erase_perm l i (Nat.lt_of_succ_lt_succ h)).cons a)
theorem sem__law_mixed (l ds : List D) (Q : W → List D → Prop) (h : P__law_mixed l ds Q) : t__law_mixed { nx := fun ρ => ∃ l', ρ[0]? = some (.own l') ∧ Q (.dat .non) l', rt := fun w ρ => ∃ l', ρ[0]? = some (.own l') ∧ Q w l' } (startM N__law_mixed.length l ds) := by
  obtain ⟨N, xs, rfl, hd, h1, h2, q⟩ := h
  unfold t__law_mixed
  nofun
  refine w_while (fun m ρ => ∃ (l' : List D) (us vs : List Int), ρ = [.own l', .dat (.lst (xs.map D.int)), .own (us.map D.int), .own (vs.map D.int)] ∧ DB (N + vs.length) l' ∧ (us ++ vs).Perm xs ∧ us.length = m) xs.length ⟨l, xs, [], rfl, by simpa using hd, by simp, rfl⟩ ?_
  rintro m ρ1 ⟨l', us, vs, rfl, hd', hp, rfl⟩
  have hlen := hp.length_eq
  rw [List.length_append] at hlen
  nofun
  refine w_neC (shp_lst us) rfl (k := us == []) (eqD_lst us []) ?_
  nofun
  cases us with
  | nil =>
    refine w_f rfl ?_
    nofun
    exact ⟨_, rfl, q vs (by simpa using hp) _ (hd'.up (by simp at hlen; omega))⟩
  | cons u us =>
    refine w_t rfl ?_
    nofun
    rw [List.length_cons] at hlen
    refine roll_any hd' (by omega) (by rw [List.length_map]; omega) (by rw [List.length_map]; omega) fun v v0 v1 l2 hl => ?_
    rw [List.length_map] at v1
    nofun
    have hv : v.toNat < (u :: us).length := by rw [List.length_cons]; omega
    refine w_popI (l := (u :: us).map D.int) (d := .int (u :: us)[v.toNat]) (k := v.toNat) rfl (by rw [List.getElem?_map, List.getElem?_eq_getElem hv]; rfl) (by omega) (by omega) ?_
    nofun
    refine ⟨((u :: us).eraseIdx v.toNat).length, ?_, l2, (u :: us).eraseIdx v.toNat, vs ++ [(u :: us)[v.toNat]], ?_, hl.up ?_, ?_, rfl⟩
    · rw [List.length_eraseIdx_of_lt hv]; simp
    · rw [List.map_append, erase_map]; rfl
    · rw [List.length_append, List.length_singleton]; omega
    · refine .trans ?_ hp
      have := erase_perm _ _ hv
      refine (List.perm_append_comm.trans ?_).trans (List.perm_append_comm)
      rw [List.append_assoc]
      exact (List.Perm.refl vs).append this
theorem dice_end {cell : Int} {k : Nat} {Q : W → Prop} {ρ : Rho} (hk : k ≤ 4) (q : ∀ l, DB 0 l → Q (.new l)) {x y : Int} (hx : x = (cell.natAbs : Int) % (10 ^ (60 : Int).toNat) ^ (10 : Int).toNat) : Q (.new [.int (x / 10 ^ (18 : Int).toNat), .int (y % 2147482763), .int 0]) := by
  refine q _ ⟨_, _, 0, rfl, ?_, ?_, by omega, ?_, by omega, by omega⟩
  · refine Int.ediv_nonneg ?_ (by decide +kernel)
    rw [hx]; exact Int.emod_nonneg _ (by decide +kernel)
  · have h1 : 0 ≤ x := by rw [hx]; exact Int.emod_nonneg _ (by decide +kernel)
    have h2 : x < 10 ^ 600 := by
      rw [hx]
      exact Int.lt_of_lt_of_le (Int.emod_lt_of_pos _ (by decide +kernel)) (by decide +kernel)
    exact Int.lt_of_le_of_lt (Int.ediv_le_self _ h1) h2
  · omega
theorem sem__law_dice (ds : List D) (Q : W → Prop) (h : P__law_dice ds Q) : t__law_dice { nx := fun _ => Q (.dat .non), rt := fun w _ => Q w } (startR N__law_dice.length ds) := by
  obtain ⟨ns, k, rfl, hk, q⟩ := h
  unfold t__law_dice
  nofun
  by_cases hl : (k : Int) < ns.length
  · refine w_t (by rw [List.length_map]; exact decide_eq_true hl) ?_
    nofun
    have hk2 : k < ns.length := by omega
    refine w_ixS k (d := .int ns[k]) (by rw [List.getElem?_map, List.getElem?_eq_getElem hk2]; rfl) rfl ?_
    nofun
    refine w_pow ⟨by decide, by decide +kernel⟩ ?_
    nofun
    refine w_pow ⟨by decide, by decide +kernel⟩ ?_
    nofun
    refine w_mod (by decide +kernel) ?_
    nofun
    refine w_pow ⟨by decide, by decide +kernel⟩ ?_
    nofun
    exact dice_end (ρ := []) hk q rfl
  · refine w_f (by rw [List.length_map]; exact decide_eq_false hl) ?_
    nofun
    refine w_pow ⟨by decide, by decide +kernel⟩ ?_
    nofun
    refine w_pow ⟨by decide, by decide +kernel⟩ ?_
    nofun
    refine w_mod (by decide +kernel) ?_
    nofun
    refine w_pow ⟨by decide, by decide +kernel⟩ ?_
    nofun
    exact dice_end (ρ := []) hk q rfl
theorem sem__law_move (ds : List D) (Q : W → Prop) (h : P__law_move ds Q) : t__law_move { nx := fun _ => Q (.dat .non), rt := fun w _ => Q w } (startR N__law_move.length ds) := by
  obtain ⟨r, m, rfl, ⟨h1, h2⟩, h3, q⟩ := h
  unfold t__law_move
  cases m with
  | swap i j =>
    obtain ⟨g1, g2⟩ := h3
    unfold Mv.d
    nofun
    refine w_eqC (by with_unfolding_all rfl) (by with_unfolding_all rfl) (k := true) (by with_unfolding_all rfl) ?_
    nofun
    rw [show (1 + (i : Int)).toNat = 1 + i by omega, show (1 + (j : Int)).toNat = 1 + j by omega]
    exact q
  | turn i j k =>
    obtain ⟨g1, g2, g3⟩ := h3
    unfold Mv.d
    nofun
    refine w_eqC (by with_unfolding_all rfl) (by with_unfolding_all rfl) (k := false) (by with_unfolding_all rfl) ?_
    nofun
    rw [show (1 + (i : Int)).toNat = i + 1 by omega, show (1 + (j : Int)).toNat = j + 1 by omega, show (1 + (k : Int)).toNat = k + 1 by omega]
    exact q
theorem mvr_len (r : List Int) (m : Mv) : (m.r r).length = r.length := by
  cases m with
  | swap i j => unfold Mv.r; simp
  | turn i j k => exact turnT_len r (i, j, k)
theorem sem__law_moved (ds : List D) (Q : W → Prop) (h : P__law_moved ds Q) : t__law_moved { nx := fun _ => Q (.dat .non), rt := fun w _ => Q w } (startR N__law_moved.length ds) := by
  obtain ⟨r, ts, rfl, ⟨h1, h1'⟩, h2, q⟩ := h
  unfold t__law_moved
  nofun
  refine forD_run (fun ds ρ => ∃ (r' : List Int) (ts' : List Mv) (s : Slot), ds = ts'.map Mv.d ∧ ρ = [.dat (.tup (r'.map D.int)), .dat (.tup (ts.map Mv.d)), s] ∧ r'.length = r.length ∧ (∀ t ∈ ts', t.Ok (r.length - 1)) ∧ ts'.foldl Mv.r r' = ts.foldl Mv.r r) ?_ ?_ _ _ ⟨r, ts, _, rfl, rfl, rfl, h2, rfl⟩
  · rintro d ds ρ ⟨r', ts', s, e1, rfl, e0, e3, e4⟩ C hC
    cases ts' with
    | nil => cases e1
    | cons t ts' =>
      obtain ⟨rfl, rfl⟩ := List.cons.inj e1
      have hz : nz (.dat t.d) = true := rfl
      nofun
      refine ⟨r', t, rfl, ⟨by omega, by omega⟩, by rw [e0]; exact e3 t List.mem_cons_self, ?_⟩
      nofun
      exact hC _ ⟨t.r r', ts', _, rfl, rfl, by rw [mvr_len]; exact e0, fun u hu => e3 u (List.mem_cons_of_mem _ hu), e4⟩
  · rintro ρ ⟨r', ts', s, e1, rfl, e0, e3, e4⟩
    cases ts' with
    | cons t ts' => cases e1
    | nil =>
      have e4 : r' = ts.foldl Mv.r r := e4
      subst e4
      nofun
      exact q

end K82

set_option Elab.async false
set_option linter.all false
set_option pp.deepTerms false
set_option maxRecDepth 100000
set_option maxHeartbeats 4000000
namespace K82
open PySem PySem.Spec PyProof.Rows L2 L3
local macro_rules | `(tactic| nofun) => `(tactic| repeat (first | with_reducible refine w_seq ?_ | with_reducible refine w_nx ?_ | with_reducible refine w_ret ?_ | with_reducible refine w_retN ?_ | with_reducible refine w_drop ?_ | with_reducible refine w_ifS ?_ | with_reducible refine w_asg ?_ | with_reducible refine w_for ?_ | with_reducible refine w_forC ?_ | with_reducible refine w_forN ?_ | with_reducible refine w_K ?_ | with_reducible refine w_N (by with_unfolding_all rfl) ?_ | with_reducible refine w_No (by with_unfolding_all rfl) ?_ | with_reducible refine w_2 ?_ | with_reducible refine w_nilA ?_ | with_reducible refine w_consA ?_ | with_reducible refine w_CD ?_ | with_reducible refine w_call ?_ | with_reducible refine w_add ?_ | with_reducible refine w_sub ?_ | with_reducible refine w_mul (cmw (by omega) (by omega)) ?_ | with_reducible refine w_mul (cmw (by first | decide | exact bd (by assumption)) (by first | decide | exact bd (by assumption))) ?_ | with_reducible refine w_slcT ?_ | with_reducible refine w_slR ?_ | with_reducible refine w_sumT ?_ | with_reducible refine w_sumL ?_ | with_reducible refine w_comp ?_ | with_reducible refine w_zip ?_ | with_reducible refine w_zipT (by with_unfolding_all rfl) ?_ | with_reducible refine w_zipL (by with_unfolding_all rfl) ?_ | with_reducible refine w_itv ?_ | with_reducible refine w_itvT (by with_unfolding_all rfl) ?_ | with_reducible refine w_itvL (by with_unfolding_all rfl) ?_ | with_reducible refine w_par ?_ | with_reducible refine w_tup1S ?_ | with_reducible refine w_s1L (by first | omega | (simp only [List.length_map, List.length_tail, List.length_reverse]; omega)) ?_ | with_reducible refine w_s1T (by first | omega | (simp only [List.length_map, List.length_tail, List.length_cons, List.length_nil]; omega)) ?_ | with_reducible refine w_minT (nn (by first | omega | (simp only [List.length_tail]; omega))) ?_ | with_reducible refine w_maxT (nn (by first | omega | (simp only [List.length_tail]; omega))) ?_ | with_reducible refine w_tup ?_ | with_reducible refine w_lst ?_ | with_reducible refine w_toL ?_ | with_reducible refine w_toLL ?_ | with_reducible refine w_toT ?_ | with_reducible refine w_gIx ⟨(by with_unfolding_all rfl), (by with_unfolding_all rfl)⟩ ?_ | with_reducible refine w_gIxR (by with_unfolding_all rfl) (by omega) (by first | omega | (simp only [List.length_set]; omega)) ?_ | with_reducible refine w_gNil ?_ | with_reducible refine w_gCons ?_ | with_reducible refine w_gTup (by with_unfolding_all rfl) ?_ | with_reducible refine w_tst ?_ | with_reducible refine w_tstB ?_ | with_reducible refine w_tru ?_ | with_reducible refine w_truB ?_ | with_reducible refine w_orL ?_ | with_reducible refine w_andL ?_ | with_reducible refine w_notL ?_ | with_reducible refine w_yes ?_ | with_reducible refine w_lenT ?_ | with_reducible refine w_lenL ?_ | with_reducible refine w_isiT (by with_unfolding_all rfl) (by with_unfolding_all decide) (by with_unfolding_all rfl) ?_ | with_reducible refine w_isiF (by with_unfolding_all rfl) (by with_unfolding_all decide) (by with_unfolding_all rfl) ?_ | with_reducible refine w_allT ?_ | with_reducible refine w_t (by with_unfolding_all rfl) ?_ | with_reducible refine w_f (by with_unfolding_all rfl) ?_ | with_reducible refine w_kin ?_ | with_reducible refine w_kget ?_ | with_reducible refine w_slc ?_ | with_reducible refine w_nop ?_ | with_reducible refine w_bk ?_ | with_reducible refine w_ifE ?_ | with_reducible refine w_ng ?_ | with_reducible refine w_ngI ?_ | with_reducible refine w_andV ?_ | with_reducible refine w_andB ?_ | with_reducible refine w_orV ?_ | with_reducible refine w_orB ?_ | with_reducible refine w_notV ?_ | with_reducible refine w_notB ?_ | with_reducible refine w_isNt ?_ | with_reducible refine w_maxL (nn (by first | omega | (simp only [List.length_tail]; omega))) ?_ | with_reducible refine w_addL (by simp only [List.length_append, List.length_replicate, List.length_cons, List.length_nil, List.length_map, List.length_take]; omega) ?_ | with_reducible refine w_repT2 (by first | decide | omega) (by first | decide | omega) ?_ | with_reducible refine w_addT (by simp only [List.length_append, List.length_replicate, List.length_cons, List.length_nil, List.length_map]; omega) ?_ | with_reducible refine w_toL ?_ | with_reducible refine w_toLL ?_ | with_reducible refine w_toT ?_ | with_reducible refine w_mul (cm2 (by first | decide | omega) (by first | decide | omega)) ?_ | with_reducible refine w_lenS ?_ | with_reducible refine w_fd (by first | assumption | decide | omega) (by first | decide | omega) ?_ | with_reducible refine w_ixCL (by with_unfolding_all rfl) ?_ | with_reducible refine w_gIxC (by with_unfolding_all rfl) (by with_unfolding_all rfl) ?_ | with_reducible refine w_mod (by first | assumption | omega) ?_ | with_reducible refine w_chn ?_ | with_reducible refine w_chnB ?_ | with_reducible refine w_isNf ?_ | with_reducible refine w_ifT ?_ | with_reducible refine w_tt ?_ | with_reducible refine w_ff ?_ | with_reducible refine w_star ?_ | with_reducible refine w_starL ?_ | with_reducible refine w_starT ?_ | with_reducible refine w_rev ?_ | with_reducible refine w_revL ?_ | with_reducible refine w_revT ?_ | with_reducible refine w_rng1 ?_ | with_reducible refine w_lrg1 ?_ | with_reducible refine w_qrg1 ?_ | with_reducible refine w_lrg2 ?_ | with_reducible refine w_app (by with_unfolding_all rfl) ?_ | with_reducible refine w_appI (by with_unfolding_all rfl) (by with_unfolding_all rfl) (by simp only [List.length_cons, List.length_nil, List.length_map]; omega) ?_ | with_reducible refine w_pop (by with_unfolding_all rfl) ?_ | with_reducible refine w_callM ?_ | with_reducible refine w_callMN ?_ | with_reducible refine w_callMI (by with_unfolding_all rfl) (by with_unfolding_all rfl) (by with_unfolding_all rfl) ?_ | with_reducible refine w_II ?_ | with_reducible refine w_abs ?_ | with_reducible refine w_intI ?_ | with_reducible refine w_intB ?_ | with_reducible refine w_srtL ?_ | with_reducible refine w_srtT ?_ | with_reducible refine w_srtRT ?_ | with_reducible refine w_slTo ?_ | with_reducible refine w_slToL ?_ | with_reducible refine w_aug (by with_unfolding_all rfl) ?_ | with_reducible refine w_augI ?_ | with_reducible refine w_gUn ?_ | with_reducible refine w_unL (by with_unfolding_all rfl) ?_ | with_reducible refine w_sortLam ?_ | with_reducible refine w_neL ?_ | with_reducible refine w_neB ?_ | with_reducible refine w_prt ?_ | with_reducible refine w_prtI ?_ | with_reducible refine w_lt ?_ | with_reducible refine w_le ?_ | with_reducible refine w_gt ?_ | with_reducible refine w_ge ?_ | with_reducible refine w_eqI ?_ | with_reducible refine w_neI ?_ | with_reducible refine w_eqR ?_ | with_reducible refine w_eqL ?_ | with_reducible refine w_ixR (by simp only [List.length_tail]; omega) (by simp only [List.length_tail]; omega) ?_ | with_reducible refine w_ixR (by omega) (by omega) ?_ | with_reducible refine w_ixL (by omega) (by first | omega | (simp only [List.length_set]; omega)) ?_ | with_reducible refine w_ixC (by with_unfolding_all rfl) ?_ | with_reducible refine w_gNm (by with_unfolding_all rfl) ?_ | with_reducible refine w_gNn ?_ | with_reducible refine ⟨(by with_unfolding_all rfl), ?_⟩ | with_reducible refine ⟨⟨(by with_unfolding_all rfl), (by with_unfolding_all rfl)⟩, ?_⟩ | with_reducible refine ⟨⟨(by with_unfolding_all rfl), sz (by simp only [List.length_cons, List.length_nil]; omega)⟩, ?_⟩ | (simp only [val_dat, val_new, val_ref, List.getElem?_cons_zero, List.getElem?_cons_succ, tupI, List.map_cons, List.map_nil, startR, startM, frzs, setsR, slotW, anyRef, wipeR, unwipe, List.any_cons, List.any_nil, List.filter_cons, List.filter_nil, List.length_cons, List.length_nil, List.replicate, List.set_cons_zero, List.set_cons_succ, List.cons_append, List.nil_append, Bool.or_false, Bool.or_self, Bool.false_eq_true, if_false, List.getD_cons_zero, List.getD_cons_succ, Nat.reduceSub, Nat.reduceAdd])))
theorem prime_facts {p : Int} (h : PrimeOk p) : 10007 ≤ p ∧ p ≤ 65521 ∧ p % 2 = 1 := by rcases prime_is h with h | h | h | h <;> subst h <;> decide
theorem sem__law_back (ds : List D) (Q : W → Prop) (h : P__law_back ds Q) : t__law_back { nx := fun _ => Q (.dat .non), rt := fun w _ => Q w } (startR N__law_back.length ds) := by
  obtain ⟨p, t, rfl, h1, h2, q⟩ := h
  obtain ⟨b1, b2, b3⟩ := prime_facts h1
  unfold t__law_back
  nofun
  refine w_while (fun m ρ => ∃ (a b l r : Int) (s : Slot), ρ = [.dat (.int p), .dat (.int t), .dat (.int a), .dat (.int b), .dat (.int l), .dat (.int r), s] ∧ ((m = 2 ∧ a = p ∧ b = t ∧ l = 0 ∧ r = 1) ∨ (m = 1 ∧ t = 2 ∧ a = 2 ∧ b = 1 ∧ l = 1 ∧ r = -(p / 2)) ∨ (m = 0 ∧ b = 0 ∧ l % p = bkI p t))) 2 ⟨p, t, 0, 1, _, rfl, .inl ⟨rfl, rfl, rfl, rfl, rfl⟩⟩ ?_
  rintro m ρ1 ⟨a, b, l, r, s, rfl, ⟨rfl, rfl, rfl, rfl, rfl⟩ | ⟨rfl, rfl, rfl, rfl, rfl, rfl⟩ | ⟨rfl, rfl, hl⟩⟩
  · rcases h2 with rfl | rfl
    · nofun
      exact ⟨0, by omega, _, _, _, _, _, rfl, .inr (.inr ⟨rfl, by omega, by unfold bkI; rw [if_pos rfl]; exact Int.emod_eq_of_lt (by omega) (by omega)⟩)⟩
    · nofun
      refine ⟨1, by omega, _, _, _, _, _, rfl, .inr (.inl ⟨rfl, trivial, rfl, by omega, rfl, by omega⟩)⟩
  · nofun
    refine ⟨0, by omega, _, _, _, _, _, rfl, .inr (.inr ⟨rfl, by omega, ?_⟩)⟩
    unfold bkI
    rw [if_neg (by decide)]
    have : (-(p / 2)) % p = p - p / 2 := by
      rw [show -(p / 2) = (p - p / 2) + p * (-1) by omega, Int.add_mul_emod_self_left]
      exact Int.emod_eq_of_lt (by omega) (by omega)
    omega
  · nofun
    rw [hl]
    exact q
theorem atD_last (l : List D) (d : D) : atD (l ++ [d]) (-1) = some d := by
  unfold atD ixN
  rw [if_neg (by omega), if_pos (by rw [List.length_append, List.length_singleton]; omega)]
  show (l ++ [d])[((-1 : Int) + ((l ++ [d]).length : Nat)).toNat]? = some d
  rw [List.length_append, List.length_singleton, show ((-1 : Int) + ((l.length + 1 : Nat) : Int)).toNat = l.length by omega]
  simp
theorem bk_rng {p t : Int} (h1 : PrimeOk p) : 1 ≤ bkI p t ∧ bkI p t < p := by
  obtain ⟨b1, b2, b3⟩ := prime_facts h1
  unfold bkI
  split <;> omega
theorem bk_one {p t : Int} (h1 : PrimeOk p) (h : t = 1 ∨ t = 2) : t * bkI p t % p = 1 := by
  obtain ⟨b1, b2, b3⟩ := prime_facts h1
  unfold bkI
  rcases h with rfl | rfl
  · rw [if_pos rfl]; exact Int.emod_eq_of_lt (by omega) (by omega)
  · rw [if_neg (by decide), show 2 * ((p + 1) / 2) = p + 1 by omega]
    rw [Int.add_emod_left]
    exact Int.emod_eq_of_lt (by omega) (by omega)
theorem sem__law_normal (ds : List D) (Q : W → Prop) (h : P__law_normal ds Q) : t__law_normal { nx := fun _ => Q (.dat .non), rt := fun w _ => Q w } (startR N__law_normal.length ds) := by
  obtain ⟨p, x, y, t, rfl, h1, ⟨x0, x1⟩, ⟨y0, y1⟩, h4, q⟩ := h
  obtain ⟨b1, b2, b3⟩ := prime_facts h1
  have ht : 0 ≤ t ∧ t < p := by omega
  obtain ⟨k1, k2⟩ := bk_rng (t := t) h1
  unfold t__law_normal
  have hp : 0 < p := by omega
  nofun
  rw [show [D.int x, D.int y, D.int t] = [x, y, t].map D.int from rfl]
  refine dcomp_all D.int (fun z => .int (z % p)) [x, y, t] (fun z hz C hC => ?_) (sz (by simp)) ?_
  · nofun
    exact hC _ _ rfl rfl rfl
  rw [show List.map (fun z => D.int (z % p)) [x, y, t] = [x, y, t].map D.int by
    simp only [List.map_cons, List.map_nil]
    rw [Int.emod_eq_of_lt x0 x1, Int.emod_eq_of_lt y0 y1, Int.emod_eq_of_lt ht.1 ht.2]]
  nofun
  rw [show [D.int x, D.int y, D.int t] = [x, y, t].map D.int from rfl]
  refine dcomp_run D.int (fun z => z != 0) D.int [x, y, t] [] (fun z hz C C2 g1 g2 => ?_) (sz (by simp)) ?_
  · nofun
    cases c : (z == 0)
    · refine w_t rfl ?_
      nofun
      exact g1 (by rw [bne, c]; rfl) _ _ rfl rfl rfl
    · refine w_f rfl ?_
      exact g2 (by rw [bne, c]; rfl) _ rfl
  have hf : ([] ++ ([x, y, t].filter fun z => z != 0).map D.int : List D) = (([x, y].filter fun z => z != 0).map D.int) ++ [D.int t] := by
    have : (t != 0) = true := by rw [bne_iff_ne]; omega
    have e : [t].filter (fun z => z != 0) = [t] := by rw [List.filter_cons_of_pos (by exact this)]; rfl
    rw [show [x, y, t] = [x, y] ++ [t] from rfl, List.filter_append, List.map_append, e, List.nil_append]
    rfl
  rw [hf]
  nofun
  refine w_ixCL (atD_last _ _) ?_
  nofun
  refine ⟨p, t, rfl, h1, h4, ?_⟩
  nofun
  rw [show [D.int x, D.int y, D.int t] = [x, y, t].map D.int from rfl]
  refine dcomp_all D.int (fun z => .int (z * bkI p t % p)) [x, y, t] (fun z hz C hC => ?_) (sz (by simp)) ?_
  · have hz : 0 ≤ z ∧ z < p := by simp at hz; rcases hz with rfl | rfl | rfl <;> omega
    nofun
    exact hC _ _ rfl rfl rfl
  nofun
  refine w_toT ?_
  nofun
  unfold nrmP at q
  rw [← bk_one h1 h4] at q
  exact q

end K82

set_option Elab.async false
set_option linter.all false
set_option pp.deepTerms false
set_option maxRecDepth 100000
set_option maxHeartbeats 4000000
namespace K82
open PySem PySem.Spec PyProof.Rows L2 L3
local macro_rules | `(tactic| nofun) => `(tactic| repeat (first | with_reducible refine w_seq ?_ | with_reducible refine w_nx ?_ | with_reducible refine w_ret ?_ | with_reducible refine w_retN ?_ | with_reducible refine w_drop ?_ | with_reducible refine w_ifS ?_ | with_reducible refine w_asg ?_ | with_reducible refine w_for ?_ | with_reducible refine w_forC ?_ | with_reducible refine w_forN ?_ | with_reducible refine w_K ?_ | with_reducible refine w_N (by with_unfolding_all rfl) ?_ | with_reducible refine w_No (by with_unfolding_all rfl) ?_ | with_reducible refine w_2 ?_ | with_reducible refine w_nilA ?_ | with_reducible refine w_consA ?_ | with_reducible refine w_CD ?_ | with_reducible refine w_call ?_ | with_reducible refine w_add ?_ | with_reducible refine w_sub ?_ | with_reducible refine w_mul (cmw (by omega) (by omega)) ?_ | with_reducible refine w_mul (cmw (by first | decide | exact bd (by assumption)) (by first | decide | exact bd (by assumption))) ?_ | with_reducible refine w_slcT ?_ | with_reducible refine w_slR ?_ | with_reducible refine w_sumT ?_ | with_reducible refine w_sumL ?_ | with_reducible refine w_comp ?_ | with_reducible refine w_zip ?_ | with_reducible refine w_zipT (by with_unfolding_all rfl) ?_ | with_reducible refine w_zipL (by with_unfolding_all rfl) ?_ | with_reducible refine w_itv ?_ | with_reducible refine w_itvT (by with_unfolding_all rfl) ?_ | with_reducible refine w_itvL (by with_unfolding_all rfl) ?_ | with_reducible refine w_par ?_ | with_reducible refine w_tup1S ?_ | with_reducible refine w_s1L (by first | omega | (simp only [List.length_map, List.length_tail, List.length_reverse]; omega)) ?_ | with_reducible refine w_s1T (by first | omega | (simp only [List.length_map, List.length_tail, List.length_cons, List.length_nil]; omega)) ?_ | with_reducible refine w_minT (nn (by first | omega | (simp only [List.length_tail]; omega))) ?_ | with_reducible refine w_maxT (nn (by first | omega | (simp only [List.length_tail]; omega))) ?_ | with_reducible refine w_tup ?_ | with_reducible refine w_lst ?_ | with_reducible refine w_toL ?_ | with_reducible refine w_toLL ?_ | with_reducible refine w_toT ?_ | with_reducible refine w_gIx ⟨(by with_unfolding_all rfl), (by with_unfolding_all rfl)⟩ ?_ | with_reducible refine w_gIxR (by with_unfolding_all rfl) (by omega) (by first | omega | (simp only [List.length_set]; omega)) ?_ | with_reducible refine w_gNil ?_ | with_reducible refine w_gCons ?_ | with_reducible refine w_gTup (by with_unfolding_all rfl) ?_ | with_reducible refine w_tst ?_ | with_reducible refine w_tstB ?_ | with_reducible refine w_tru ?_ | with_reducible refine w_truB ?_ | with_reducible refine w_orL ?_ | with_reducible refine w_andL ?_ | with_reducible refine w_notL ?_ | with_reducible refine w_yes ?_ | with_reducible refine w_lenT ?_ | with_reducible refine w_lenL ?_ | with_reducible refine w_isiT (by with_unfolding_all rfl) (by with_unfolding_all decide) (by with_unfolding_all rfl) ?_ | with_reducible refine w_isiF (by with_unfolding_all rfl) (by with_unfolding_all decide) (by with_unfolding_all rfl) ?_ | with_reducible refine w_allT ?_ | with_reducible refine w_t (by with_unfolding_all rfl) ?_ | with_reducible refine w_f (by with_unfolding_all rfl) ?_ | with_reducible refine w_kin ?_ | with_reducible refine w_kget ?_ | with_reducible refine w_slc ?_ | with_reducible refine w_nop ?_ | with_reducible refine w_bk ?_ | with_reducible refine w_ifE ?_ | with_reducible refine w_ng ?_ | with_reducible refine w_ngI ?_ | with_reducible refine w_andV ?_ | with_reducible refine w_andB ?_ | with_reducible refine w_orV ?_ | with_reducible refine w_orB ?_ | with_reducible refine w_notV ?_ | with_reducible refine w_notB ?_ | with_reducible refine w_isNt ?_ | with_reducible refine w_maxL (nn (by first | omega | (simp only [List.length_tail]; omega))) ?_ | with_reducible refine w_addL (by simp only [List.length_append, List.length_replicate, List.length_cons, List.length_nil, List.length_map, List.length_take]; omega) ?_ | with_reducible refine w_repT2 (by first | decide | omega) (by first | decide | omega) ?_ | with_reducible refine w_addT (by simp only [List.length_append, List.length_replicate, List.length_cons, List.length_nil, List.length_map]; omega) ?_ | with_reducible refine w_toL ?_ | with_reducible refine w_toLL ?_ | with_reducible refine w_toT ?_ | with_reducible refine w_mul (cm2 (by first | decide | omega) (by first | decide | omega)) ?_ | with_reducible refine w_lenS ?_ | with_reducible refine w_fd (by first | assumption | decide | omega) (by first | decide | omega) ?_ | with_reducible refine w_ixCL (by with_unfolding_all rfl) ?_ | with_reducible refine w_gIxC (by with_unfolding_all rfl) (by with_unfolding_all rfl) ?_ | with_reducible refine w_mod (by first | assumption | omega) ?_ | with_reducible refine w_chn ?_ | with_reducible refine w_chnB ?_ | with_reducible refine w_isNf ?_ | with_reducible refine w_ifT ?_ | with_reducible refine w_tt ?_ | with_reducible refine w_ff ?_ | with_reducible refine w_star ?_ | with_reducible refine w_starL ?_ | with_reducible refine w_starT ?_ | with_reducible refine w_rev ?_ | with_reducible refine w_revL ?_ | with_reducible refine w_revT ?_ | with_reducible refine w_rng1 ?_ | with_reducible refine w_lrg1 ?_ | with_reducible refine w_qrg1 ?_ | with_reducible refine w_lrg2 ?_ | with_reducible refine w_app (by with_unfolding_all rfl) ?_ | with_reducible refine w_appI (by with_unfolding_all rfl) (by with_unfolding_all rfl) (by simp only [List.length_cons, List.length_nil, List.length_map]; omega) ?_ | with_reducible refine w_pop (by with_unfolding_all rfl) ?_ | with_reducible refine w_callM ?_ | with_reducible refine w_callMN ?_ | with_reducible refine w_callMI (by with_unfolding_all rfl) (by with_unfolding_all rfl) (by with_unfolding_all rfl) ?_ | with_reducible refine w_II ?_ | with_reducible refine w_abs ?_ | with_reducible refine w_intI ?_ | with_reducible refine w_intB ?_ | with_reducible refine w_srtL ?_ | with_reducible refine w_srtT ?_ | with_reducible refine w_srtRT ?_ | with_reducible refine w_slTo ?_ | with_reducible refine w_slToL ?_ | with_reducible refine w_aug (by with_unfolding_all rfl) ?_ | with_reducible refine w_augI ?_ | with_reducible refine w_gUn ?_ | with_reducible refine w_unL (by with_unfolding_all rfl) ?_ | with_reducible refine w_sortLam ?_ | with_reducible refine w_neL ?_ | with_reducible refine w_neB ?_ | with_reducible refine w_prt ?_ | with_reducible refine w_prtI ?_ | with_reducible refine w_lt ?_ | with_reducible refine w_le ?_ | with_reducible refine w_gt ?_ | with_reducible refine w_ge ?_ | with_reducible refine w_eqI ?_ | with_reducible refine w_neI ?_ | with_reducible refine w_eqR ?_ | with_reducible refine w_eqL ?_ | with_reducible refine w_ixR (by simp only [List.length_tail]; omega) (by simp only [List.length_tail]; omega) ?_ | with_reducible refine w_ixR (by omega) (by omega) ?_ | with_reducible refine w_ixL (by omega) (by first | omega | (simp only [List.length_set]; omega)) ?_ | with_reducible refine w_ixC (by with_unfolding_all rfl) ?_ | with_reducible refine w_gNm (by with_unfolding_all rfl) ?_ | with_reducible refine w_gNn ?_ | with_reducible refine ⟨(by with_unfolding_all rfl), ?_⟩ | with_reducible refine ⟨⟨(by with_unfolding_all rfl), (by with_unfolding_all rfl)⟩, ?_⟩ | with_reducible refine ⟨⟨(by with_unfolding_all rfl), sz (by simp only [List.length_cons, List.length_nil]; omega)⟩, ?_⟩ | (simp only [val_dat, val_new, val_ref, List.getElem?_cons_zero, List.getElem?_cons_succ, tupI, List.map_cons, List.map_nil, startR, startM, frzs, setsR, slotW, anyRef, wipeR, unwipe, List.any_cons, List.any_nil, List.filter_cons, List.filter_nil, List.length_cons, List.length_nil, List.replicate, List.set_cons_zero, List.set_cons_succ, List.cons_append, List.nil_append, Bool.or_false, Bool.or_self, Bool.false_eq_true, if_false, List.getD_cons_zero, List.getD_cons_succ, Nat.reduceSub, Nat.reduceAdd])))
theorem pt_perm {r s : List Int} (h0 : r.getD 0 0 = s.getD 0 0) (h : r.Perm s) : isPtR r = isPtR s := by
  unfold isPtR
  rw [h0, srt_unique ((srtI_perm r).trans (h.trans (srtI_perm s).symm)) (srtI_sorted r) (srtI_sorted s), h.length_eq]
theorem sem__law_is_point_row (ds : List D) (Q : W → Prop) (h : P__law_is_point_row ds Q) : t__law_is_point_row { nx := fun _ => Q (.dat .non), rt := fun w _ => Q w } (startR N__law_is_point_row.length ds) := by
  obtain ⟨r, rfl, ⟨h1, h2⟩, q⟩ := h
  unfold t__law_is_point_row
  nofun
  by_cases c1 : r.getD 0 0 = 0
  · refine w_t (beq_iff_eq.mpr c1) ?_
    nofun
    refine w_repL (n := r.length - 1) (by omega) (by rw [List.length_map]; omega) (by rw [List.length_map]; omega) ?_
    nofun
    rw [show (D.int (-1) :: List.replicate (r.length - 1) (D.int 0)) = (-1 :: List.replicate (r.length - 1) 0).map D.int by simp]
    nofun
    have e : (srtI r == -1 :: List.replicate (r.length - 1) 0) = isPtR r := by
      rw [Bool.eq_iff_iff, beq_iff_eq]
      unfold isPtR
      rw [decide_eq_true_iff]
      exact ⟨fun h => ⟨c1, h⟩, fun h => h.2⟩
    rw [e]
    exact q
  · refine w_f (by simpa using c1) ?_
    nofun
    rw [show isPtR r = false from decide_eq_false fun h => c1 h.1] at q
    exact q
theorem sem__law_prime (l ds : List D) (Q : W → List D → Prop) (h : P__law_prime l ds Q) : t__law_prime { nx := fun ρ => ∃ l', ρ[0]? = some (.own l') ∧ Q (.dat .non) l', rt := fun w ρ => ∃ l', ρ[0]? = some (.own l') ∧ Q w l' } (startM N__law_prime.length l ds) := by
  obtain ⟨N, rfl, hd, h1, q⟩ := h
  unfold t__law_prime
  nofun
  refine ⟨N, _, rfl, hd, h1, by simp, by simp, fun d hd l' hl => ?_⟩
  have : ∃ p, PrimeOk p ∧ d = .int p := by
    simp only [List.mem_cons, List.not_mem_nil, or_false] at hd
    rcases hd with rfl | rfl | rfl | rfl <;> exact ⟨_, by unfold PrimeOk; decide, rfl⟩
  obtain ⟨p, hp, rfl⟩ := this
  nofun
  exact ⟨_, rfl, q p hp _ hl⟩
theorem sem__law_false_ones (ds : List D) (Q : W → Prop) (h : P__law_false_ones ds Q) : t__law_false_ones { nx := fun _ => Q (.dat .non), rt := fun w _ => Q w } (startR N__law_false_ones.length ds) := by
  obtain ⟨n, rfl, h1, h2, q⟩ := h
  unfold t__law_false_ones
  nofun
  unfold falseR at q
  rw [show ((n : Int) - 10).toNat = n - 10 by omega]
  show Q (.new _)
  simpa [rowD, tupI] using q
theorem int_of_mem4 {a b c e : Int} {d : D} (h : d ∈ [D.int a, D.int b, D.int c, D.int e]) (ha : -2 ≤ a ∧ a ≤ 2) (hb : -2 ≤ b ∧ b ≤ 2) (hc : -2 ≤ c ∧ c ≤ 2) (he : -2 ≤ e ∧ e ≤ 2) : ∃ z, d = .int z ∧ -2 ≤ z ∧ z ≤ 2 := by
  simp only [List.mem_cons, List.not_mem_nil, or_false] at h
  rcases h with rfl | rfl | rfl | rfl <;> exact ⟨_, rfl, by assumption⟩
theorem sem__law_small_row (l ds : List D) (Q : W → List D → Prop) (h : P__law_small_row l ds Q) : t__law_small_row { nx := fun ρ => ∃ l', ρ[0]? = some (.own l') ∧ Q (.dat .non) l', rt := fun w ρ => ∃ l', ρ[0]? = some (.own l') ∧ Q w l' } (startM N__law_small_row.length l ds) := by
  obtain ⟨N, n, rfl, hd, h1, h2, q⟩ := h
  unfold t__law_small_row
  nofun
  refine ⟨N, _, rfl, hd, by omega, by simp, by simp, fun d hd l1 hl1 => ?_⟩
  obtain ⟨e, rfl, e1, e2⟩ := int_of_mem4 hd (by omega) (by omega) (by omega) (by omega)
  have e3 : e ≤ 0 := by simp at hd; omega
  nofun
  refine w_rngI (by unfold BndI; omega) ?_
  nofun
  refine dcomp_inv (fun ds acc ρ => ∃ (l' : List D) (xs : List Int), acc = xs.map .int ∧ ρ = [.own l', .dat (.int n), .dat (.int 2), .dat (.int e), .un, .un] ∧ DB (N + 1 + xs.length) l' ∧ (∀ x ∈ xs, x.natAbs ≤ 100) ∧ ds.length + xs.length = n) ?_ ?_ _ _ _ (by simp; omega) ⟨l1, [], rfl, rfl, by simpa using hl1, by simp, by simp⟩
  · rintro d ds acc ρ ⟨l', xs, rfl, rfl, hl', hx, hlen⟩ hsz C hC
    rw [List.length_cons] at hlen
    have hdz : nz (.dat d) = true := rfl
    nofun
    refine roll_any hl' (by omega) (by omega) (by omega) fun v v0 v1 l2 hl2 => ?_
    nofun
    refine ⟨⟨rfl, hsz⟩, ?_⟩
    refine hC _ _ (by simp) ⟨l2, xs ++ [e + v], by simp, rfl, hl2.up (by simp; omega), fun x hx' => ?_, by simp; omega⟩
    rcases List.mem_append.mp hx' with h | h
    · exact hx x h
    · rw [List.mem_singleton.mp h]; omega
  · rintro acc ρ ⟨l', xs, rfl, rfl, hl', hx, hlen⟩
    nofun
    rw [List.length_nil, Nat.zero_add] at hlen
    refine ⟨_, _, rfl, hl', by omega, by simp, by simp, fun d hd l2 hl2 => ?_⟩
    obtain ⟨a, rfl, a1, a2⟩ := int_of_mem4 hd (by omega) (by omega) (by omega) (by omega)
    nofun
    refine roll_any hl2 (by omega) (by omega) (by omega) fun v v0 v1 l3 hl3 => ?_
    nofun
    refine ⟨_, rfl, q ((a + v) :: xs) (by simp; omega) (fun i hi => ?_) _ (hl3.up (by omega))⟩
    rcases List.mem_cons.mp hi with h | h
    · rw [h]; omega
    · exact hx i h
theorem trip {ys : List Int} {n : Nat} (hn : 3 ≤ n) (p : ys.Perm ((List.range n).map fun x : Nat => (x : Int))) : ∃ i j k : Nat, srtI (ys.take 3) = [(i : Int), (j : Int), (k : Int)] ∧ i < j ∧ j < k ∧ k < n := by
  have hl : (srtI (ys.take 3)).length = 3 := by
    rw [(srtI_perm _).length_eq, List.length_take, p.length_eq, List.length_map, List.length_range]; omega
  have hm : ∀ x ∈ srtI (ys.take 3), ∃ y : Nat, x = y ∧ y < n := fun x hx => by
    have := p.mem_iff.mp (List.mem_of_mem_take ((srtI_perm _).mem_iff.mp hx))
    obtain ⟨y, hy, rfl⟩ := List.mem_map.mp this
    exact ⟨y, rfl, List.mem_range.mp hy⟩
  have hnd : (srtI (ys.take 3)).Nodup := (srtI_perm _).nodup_iff.mpr ((List.take_sublist 3 _).nodup (p.nodup_iff.mpr (List.pairwise_map.mpr (List.Pairwise.imp (fun h e => h (Int.ofNat.inj e)) List.nodup_range))))
  have hs := srtI_sorted (ys.take 3)
  match q : srtI (ys.take 3), hl with
  | [a, b, c], _ =>
    rw [q] at hm hnd hs
    obtain ⟨i, rfl, hi⟩ := hm a (by simp)
    obtain ⟨j, rfl, hj⟩ := hm b (by simp)
    obtain ⟨k, rfl, hk⟩ := hm c (by simp)
    simp only [List.pairwise_cons, List.mem_cons, List.nodup_cons, List.not_mem_nil, or_false] at hs hnd
    have s1 := hs.1 _ (Or.inl rfl)
    have s2 := hs.2.1 _ rfl
    exact ⟨i, j, k, rfl, by omega, by omega, hk⟩
theorem sem__law_word (l ds : List D) (Q : W → List D → Prop) (h : P__law_word l ds Q) : t__law_word { nx := fun ρ => ∃ l', ρ[0]? = some (.own l') ∧ Q (.dat .non) l', rt := fun w ρ => ∃ l', ρ[0]? = some (.own l') ∧ Q w l' } (startM N__law_word.length l ds) := by
  obtain ⟨N, n, k, rfl, hd, h1, h2, h3, h4, q⟩ := h
  unfold t__law_word
  nofun
  refine roll_any hd (by omega) (by omega) (by omega) fun v v0 v1 l1 hl1 => ?_
  nofun
  refine w_rngI (by unfold BndI; omega) ?_
  refine forD_run (fun ds ρ => ∃ (l' : List D) (ms : List Mv) (s4 s5 s6 : Slot), ρ = [.own l', .dat (.int n), .dat (.int k), .own (ms.map Mv.d), s4, s5, s6] ∧ DB (N + 1 + 101 * ms.length) l' ∧ (∀ m ∈ ms, m.Ok n) ∧ ds.length + ms.length ≤ k ∧ ∀ d ∈ ds, nz (.dat d) = true) ?_ ?_ _ _ ⟨l1, [], _, _, _, rfl, by simpa using hl1, by simp, by simp; omega, fun _ _ => rfl⟩
  · rintro d ds ρ ⟨l', ms, s4, s5, s6, rfl, hl', hm, hlen, hz⟩ C hC
    rw [List.length_cons] at hlen
    have hdz : nz (.dat d) = true := rfl
    nofun
    refine w_rgI (by omega) ?_
    nofun
    refine ⟨_, (List.range n).map fun x : Nat => (x : Int), by rw [List.map_map]; rfl, hl', by omega, by simp; omega, fun ys hp l2 hl2 => ?_⟩
    nofun
    refine w_slToL (n := 3) ?_
    rw [← List.map_take]
    nofun
    obtain ⟨a, b, c, e, o1, o2, o3⟩ := trip h2 hp
    rw [e]
    nofun
    refine roll_any hl2 (by omega) (by omega) (by omega) fun v v0 v1 l3 hl3 => ?_
    nofun
    cases c0 : (v == 0)
    · refine w_f rfl ?_
      nofun
      refine hC _ ⟨l3, ms ++ [.turn a b c], _, _, _, by rw [List.map_append]; rfl, hl3.up (by simp; omega), fun m hm' => ?_, by simp; omega, fun d hd => rfl⟩
      rcases List.mem_append.mp hm' with h | h
      · exact hm m h
      · rw [List.mem_singleton.mp h]; exact ⟨o1, o2, o3⟩
    · refine w_t rfl ?_
      nofun
      refine hC _ ⟨l3, ms ++ [.swap a b], _, _, _, by rw [List.map_append]; rfl, hl3.up (by simp; omega), fun m hm' => ?_, by simp; omega, fun d hd => rfl⟩
      rcases List.mem_append.mp hm' with h | h
      · exact hm m h
      · rw [List.mem_singleton.mp h]; exact ⟨o1, by omega⟩
  · rintro ρ ⟨l', ms, s4, s5, s6, rfl, hl', hm, hlen, hz⟩
    nofun
    rw [List.length_nil, Nat.zero_add] at hlen
    exact ⟨_, rfl, q ms hlen hm _ (hl'.up (by omega))⟩

end K82

set_option Elab.async false
set_option linter.all false
set_option pp.deepTerms false
set_option maxRecDepth 100000
set_option maxHeartbeats 4000000
namespace K82
open PySem PySem.Spec PyProof.Rows L2 L3
local macro_rules | `(tactic| nofun) => `(tactic| repeat (first | with_reducible refine w_seq ?_ | with_reducible refine w_nx ?_ | with_reducible refine w_ret ?_ | with_reducible refine w_retN ?_ | with_reducible refine w_drop ?_ | with_reducible refine w_ifS ?_ | with_reducible refine w_asg ?_ | with_reducible refine w_for ?_ | with_reducible refine w_forC ?_ | with_reducible refine w_forN ?_ | with_reducible refine w_K ?_ | with_reducible refine w_N (by with_unfolding_all rfl) ?_ | with_reducible refine w_No (by with_unfolding_all rfl) ?_ | with_reducible refine w_2 ?_ | with_reducible refine w_nilA ?_ | with_reducible refine w_consA ?_ | with_reducible refine w_CD ?_ | with_reducible refine w_call ?_ | with_reducible refine w_add ?_ | with_reducible refine w_sub ?_ | with_reducible refine w_mul (cmw (by omega) (by omega)) ?_ | with_reducible refine w_mul (cmw (by first | decide | exact bd (by assumption)) (by first | decide | exact bd (by assumption))) ?_ | with_reducible refine w_slcT ?_ | with_reducible refine w_slR ?_ | with_reducible refine w_sumT ?_ | with_reducible refine w_sumL ?_ | with_reducible refine w_comp ?_ | with_reducible refine w_zip ?_ | with_reducible refine w_zipT (by with_unfolding_all rfl) ?_ | with_reducible refine w_zipL (by with_unfolding_all rfl) ?_ | with_reducible refine w_itv ?_ | with_reducible refine w_itvT (by with_unfolding_all rfl) ?_ | with_reducible refine w_itvL (by with_unfolding_all rfl) ?_ | with_reducible refine w_par ?_ | with_reducible refine w_tup1S ?_ | with_reducible refine w_s1L (by first | omega | (simp only [List.length_map, List.length_tail, List.length_reverse]; omega)) ?_ | with_reducible refine w_s1T (by first | omega | (simp only [List.length_map, List.length_tail, List.length_cons, List.length_nil]; omega)) ?_ | with_reducible refine w_minT (nn (by first | omega | (simp only [List.length_tail]; omega))) ?_ | with_reducible refine w_maxT (nn (by first | omega | (simp only [List.length_tail]; omega))) ?_ | with_reducible refine w_tup ?_ | with_reducible refine w_lst ?_ | with_reducible refine w_toL ?_ | with_reducible refine w_toLL ?_ | with_reducible refine w_toT ?_ | with_reducible refine w_gIx ⟨(by with_unfolding_all rfl), (by with_unfolding_all rfl)⟩ ?_ | with_reducible refine w_gIxR (by with_unfolding_all rfl) (by omega) (by first | omega | (simp only [List.length_set]; omega)) ?_ | with_reducible refine w_gNil ?_ | with_reducible refine w_gCons ?_ | with_reducible refine w_gTup (by with_unfolding_all rfl) ?_ | with_reducible refine w_tst ?_ | with_reducible refine w_tstB ?_ | with_reducible refine w_tru ?_ | with_reducible refine w_truB ?_ | with_reducible refine w_orL ?_ | with_reducible refine w_andL ?_ | with_reducible refine w_notL ?_ | with_reducible refine w_yes ?_ | with_reducible refine w_lenT ?_ | with_reducible refine w_lenL ?_ | with_reducible refine w_isiT (by with_unfolding_all rfl) (by with_unfolding_all decide) (by with_unfolding_all rfl) ?_ | with_reducible refine w_isiF (by with_unfolding_all rfl) (by with_unfolding_all decide) (by with_unfolding_all rfl) ?_ | with_reducible refine w_allT ?_ | with_reducible refine w_t (by with_unfolding_all rfl) ?_ | with_reducible refine w_f (by with_unfolding_all rfl) ?_ | with_reducible refine w_kin ?_ | with_reducible refine w_kget ?_ | with_reducible refine w_slc ?_ | with_reducible refine w_nop ?_ | with_reducible refine w_bk ?_ | with_reducible refine w_ifE ?_ | with_reducible refine w_ng ?_ | with_reducible refine w_ngI ?_ | with_reducible refine w_andV ?_ | with_reducible refine w_andB ?_ | with_reducible refine w_orV ?_ | with_reducible refine w_orB ?_ | with_reducible refine w_notV ?_ | with_reducible refine w_notB ?_ | with_reducible refine w_isNt ?_ | with_reducible refine w_maxL (nn (by first | omega | (simp only [List.length_tail]; omega))) ?_ | with_reducible refine w_addL (by simp only [List.length_append, List.length_replicate, List.length_cons, List.length_nil, List.length_map, List.length_take]; omega) ?_ | with_reducible refine w_repT2 (by first | decide | omega) (by first | decide | omega) ?_ | with_reducible refine w_addT (by simp only [List.length_append, List.length_replicate, List.length_cons, List.length_nil, List.length_map]; omega) ?_ | with_reducible refine w_toL ?_ | with_reducible refine w_toLL ?_ | with_reducible refine w_toT ?_ | with_reducible refine w_mul (cm2 (by first | decide | omega) (by first | decide | omega)) ?_ | with_reducible refine w_lenS ?_ | with_reducible refine w_fd (by first | assumption | decide | omega) (by first | decide | omega) ?_ | with_reducible refine w_ixCL (by with_unfolding_all rfl) ?_ | with_reducible refine w_gIxC (by with_unfolding_all rfl) (by with_unfolding_all rfl) ?_ | with_reducible refine w_mod (by first | assumption | omega) ?_ | with_reducible refine w_chn ?_ | with_reducible refine w_chnB ?_ | with_reducible refine w_isNf ?_ | with_reducible refine w_ifT ?_ | with_reducible refine w_tt ?_ | with_reducible refine w_ff ?_ | with_reducible refine w_star ?_ | with_reducible refine w_starL ?_ | with_reducible refine w_starT ?_ | with_reducible refine w_rev ?_ | with_reducible refine w_revL ?_ | with_reducible refine w_revT ?_ | with_reducible refine w_rng1 ?_ | with_reducible refine w_lrg1 ?_ | with_reducible refine w_qrg1 ?_ | with_reducible refine w_lrg2 ?_ | with_reducible refine w_app (by with_unfolding_all rfl) ?_ | with_reducible refine w_appI (by with_unfolding_all rfl) (by with_unfolding_all rfl) (by simp only [List.length_cons, List.length_nil, List.length_map]; omega) ?_ | with_reducible refine w_pop (by with_unfolding_all rfl) ?_ | with_reducible refine w_callM ?_ | with_reducible refine w_callMN ?_ | with_reducible refine w_callMI (by with_unfolding_all rfl) (by with_unfolding_all rfl) (by with_unfolding_all rfl) ?_ | with_reducible refine w_II ?_ | with_reducible refine w_abs ?_ | with_reducible refine w_intI ?_ | with_reducible refine w_intB ?_ | with_reducible refine w_srtL ?_ | with_reducible refine w_srtT ?_ | with_reducible refine w_srtRT ?_ | with_reducible refine w_slTo ?_ | with_reducible refine w_slToL ?_ | with_reducible refine w_aug (by with_unfolding_all rfl) ?_ | with_reducible refine w_augI ?_ | with_reducible refine w_gUn ?_ | with_reducible refine w_unL (by with_unfolding_all rfl) ?_ | with_reducible refine w_sortLam ?_ | with_reducible refine w_neL ?_ | with_reducible refine w_neB ?_ | with_reducible refine w_prt ?_ | with_reducible refine w_prtI ?_ | with_reducible refine w_lt ?_ | with_reducible refine w_le ?_ | with_reducible refine w_gt ?_ | with_reducible refine w_ge ?_ | with_reducible refine w_eqI ?_ | with_reducible refine w_neI ?_ | with_reducible refine w_eqR ?_ | with_reducible refine w_eqL ?_ | with_reducible refine w_ixR (by simp only [List.length_tail]; omega) (by simp only [List.length_tail]; omega) ?_ | with_reducible refine w_ixR (by omega) (by omega) ?_ | with_reducible refine w_ixL (by omega) (by first | omega | (simp only [List.length_set]; omega)) ?_ | with_reducible refine w_ixC (by with_unfolding_all rfl) ?_ | with_reducible refine w_gNm (by with_unfolding_all rfl) ?_ | with_reducible refine w_gNn ?_ | with_reducible refine ⟨(by with_unfolding_all rfl), ?_⟩ | with_reducible refine ⟨⟨(by with_unfolding_all rfl), (by with_unfolding_all rfl)⟩, ?_⟩ | with_reducible refine ⟨⟨(by with_unfolding_all rfl), sz (by simp only [List.length_cons, List.length_nil]; omega)⟩, ?_⟩ | (simp only [val_dat, val_new, val_ref, List.getElem?_cons_zero, List.getElem?_cons_succ, tupI, List.map_cons, List.map_nil, startR, startM, frzs, setsR, slotW, anyRef, wipeR, unwipe, List.any_cons, List.any_nil, List.filter_cons, List.filter_nil, List.length_cons, List.length_nil, List.replicate, List.set_cons_zero, List.set_cons_succ, List.cons_append, List.nil_append, Bool.or_false, Bool.or_self, Bool.false_eq_true, if_false, List.getD_cons_zero, List.getD_cons_succ, Nat.reduceSub, Nat.reduceAdd])))
theorem walk_fold : ∀ (f : Nat) (r : List Int), (walkF f r).1.foldl turnT r = (walkF f r).2
  | 0, _ => rfl
  | f + 1, r => by
    rw [walkF_succ]
    split
    · exact walk_fold f _
    · rfl
theorem walk_ok : ∀ (f : Nat) (r : List Int), 4 ≤ r.length → ∀ t ∈ (walkF f r).1, MvOk (r.length - 1) t
  | 0, _, _ => fun _ h => by cases h
  | f + 1, r, hl => by
    rw [walkF_succ]
    split
    · intro t ht
      rcases List.mem_cons.mp ht with rfl | ht
      · exact g3_ok hl
      · have := walk_ok f (turnT r (g3 r)) (by rw [turnT_len]; exact hl) t ht
        rwa [turnT_len] at this
    · intro t ht; cases ht
theorem walk_many : ∀ (f : Nat) (r : List Int), (walkF f r).1.length ≤ f
  | 0, _ => Nat.le_refl _
  | f + 1, r => by
    rw [walkF_succ]
    split
    · rw [List.length_cons]
      exact Nat.succ_le_succ (walk_many f _)
    · exact Nat.zero_le _
theorem mem_getD {r : List Int} {x : Int} (h : x ∈ r) : ∃ i, i < r.length ∧ r.getD i 0 = x := by
  obtain ⟨i, hi, e⟩ := List.getElem_of_mem h
  exact ⟨i, hi, by rw [List.getD_eq_getElem?_getD, List.getElem?_eq_getElem hi]; exact e⟩
theorem getD_mem {r : List Int} {i : Nat} (h : i < r.length) : r.getD i 0 ∈ r := by
  rw [List.getD_eq_getElem?_getD, List.getElem?_eq_getElem h]
  exact List.getElem_mem h
theorem tail_getD (r : List Int) (i : Nat) : r.tail.getD i 0 = r.getD (i + 1) 0 := by
  cases r with
  | nil => rfl
  | cons a r => rfl
theorem go_pos {r : List Int} (h : goR r = true) (hl : 2 ≤ r.length) : ∀ x ∈ r, 0 ≤ x := by
  unfold goR at h
  rw [decide_eq_true_iff] at h
  intro x hx
  obtain ⟨i, hi, rfl⟩ := mem_getD hx
  cases i with
  | zero => omega
  | succ i =>
    have hm := (minI_mem (l := r.tail) (nn (by rw [List.length_tail]; omega))).2 _ (getD_mem (i := i) (by rw [List.length_tail]; omega))
    rw [tail_getD] at hm
    omega
theorem walk_bnd {M : Int} (hM : 0 ≤ M) : ∀ (f : Nat) (r : List Int), 4 ≤ r.length → (∀ x ∈ r, -(3 * M) ≤ x ∧ x ≤ M) → ∀ x ∈ (walkF f r).2, -(3 * M) ≤ x ∧ x ≤ M
  | 0, _, _, h => h
  | f + 1, r, hl, h => by
    rw [walkF_succ]
    split
    · rename_i c
      rw [Bool.and_eq_true] at c
      obtain ⟨c1, c2⟩ := c
      have ok := g3_ok hl
      have ab := abvR_iff.mp c2
      generalize g3 r = t at *
      obtain ⟨i, j, k⟩ := t
      obtain ⟨o1, o2, o3⟩ := id ok
      simp only at o1 o2 o3 ab
      have p := go_pos c1 (by omega)
      refine walk_bnd hM f _ (by rw [turnT_len]; exact hl) fun x hx => ?_
      obtain ⟨y, hy, rfl⟩ := mem_getD hx
      rw [turnT_len] at hy
      unfold turnT
      simp only
      rw [turnR_getD (by omega) (by omega) (by omega) (by omega) (by omega) (by omega)]
      have q0 := p _ (getD_mem (show 0 < r.length by omega))
      have q1 := h _ (getD_mem (show i + 1 < r.length by omega))
      have q2 := h _ (getD_mem (show j + 1 < r.length by omega))
      have q3 := h _ (getD_mem (show k + 1 < r.length by omega))
      have q4 := h _ (getD_mem hy)
      have q5 := p _ (getD_mem hy)
      have em : moreR r i j k = r.getD 0 0 - r.getD (i + 1) 0 - r.getD (j + 1) 0 - r.getD (k + 1) 0 := rfl
      split
      · omega
      · omega
    · exact h
theorem small_end {r : List Int} (h : SmallR r) : RowOk r ∧ RowOk (endR r) := by
  obtain ⟨h1, h2, h3, h4⟩ := h
  have b : (10 : Int) ^ 50 * 3 ≤ 10 ^ 60 := by decide
  have hb : ∀ x ∈ r, -(3 * (10 : Int) ^ 50) ≤ x ∧ x ≤ 10 ^ 50 := fun x hx => by
    have := h4 x hx
    omega
  have e := walk_bnd (M := 10 ^ 50) (by decide) (r.getD 0 0).toNat r (by omega) hb
  refine ⟨⟨by omega, h2, fun i hi => ?_⟩, ⟨by unfold endR; rw [walkF_len]; omega, by unfold endR; rw [walkF_len]; omega, fun i hi => ?_⟩⟩
  · have := h4 i hi
    omega
  · have := e i hi
    omega
theorem sem__law_told_right (ds : List D) (Q : W → Prop) (h : P__law_told_right ds Q) : t__law_told_right { nx := fun _ => Q (.dat .non), rt := fun w _ => Q w } (startR N__law_told_right.length ds) := by
  obtain ⟨r, rfl, h, q⟩ := h
  obtain ⟨ok1, ok2⟩ := small_end h
  obtain ⟨h1, h2, h3, h4⟩ := h
  unfold t__law_told_right
  nofun
  refine ⟨r, rfl, ok1, ?_⟩
  nofun
  refine ⟨r, rfl, ok1, h1, h3, ?_⟩
  nofun
  cases c : isPtR (endR r)
  · rw [if_neg (by decide)]
    nofun
    refine ⟨r, rfl, ok1, h1, h3, ?_⟩
    rw [c]
    nofun
    exact q
  · rw [if_pos rfl]
    nofun
    refine ⟨r, rfl, ok1, h1, h3, ?_⟩
    rw [c]
    nofun
    refine ⟨r, wordR r, rfl, ok1, ?_, ?_, walk_ok _ _ (by omega), ?_⟩
    · unfold wordR; rw [walk_fold]; exact ok2
    · exact Nat.le_trans (walk_many _ _) (by omega)
    rw [show (wordR r).foldl turnT r = endR r from walk_fold _ _]
    nofun
    refine ⟨endR r, rfl, ⟨ok2.1, ok2.2.1⟩, ?_⟩
    rw [c]
    nofun
    exact q

end K82

set_option Elab.async false
set_option linter.all false
set_option pp.deepTerms false
set_option maxRecDepth 100000
set_option maxHeartbeats 4000000
namespace K82
open PySem PySem.Spec PyProof.Rows L2 L3
local macro_rules | `(tactic| nofun) => `(tactic| repeat (first | with_reducible refine w_seq ?_ | with_reducible refine w_nx ?_ | with_reducible refine w_ret ?_ | with_reducible refine w_retN ?_ | with_reducible refine w_drop ?_ | with_reducible refine w_ifS ?_ | with_reducible refine w_asg ?_ | with_reducible refine w_for ?_ | with_reducible refine w_forC ?_ | with_reducible refine w_forN ?_ | with_reducible refine w_K ?_ | with_reducible refine w_N (by with_unfolding_all rfl) ?_ | with_reducible refine w_No (by with_unfolding_all rfl) ?_ | with_reducible refine w_2 ?_ | with_reducible refine w_nilA ?_ | with_reducible refine w_consA ?_ | with_reducible refine w_CD ?_ | with_reducible refine w_call ?_ | with_reducible refine w_add ?_ | with_reducible refine w_sub ?_ | with_reducible refine w_mul (cmw (by omega) (by omega)) ?_ | with_reducible refine w_mul (cmw (by first | decide | exact bd (by assumption)) (by first | decide | exact bd (by assumption))) ?_ | with_reducible refine w_slcT ?_ | with_reducible refine w_slR ?_ | with_reducible refine w_sumT ?_ | with_reducible refine w_sumL ?_ | with_reducible refine w_comp ?_ | with_reducible refine w_zip ?_ | with_reducible refine w_zipT (by with_unfolding_all rfl) ?_ | with_reducible refine w_zipL (by with_unfolding_all rfl) ?_ | with_reducible refine w_itv ?_ | with_reducible refine w_itvT (by with_unfolding_all rfl) ?_ | with_reducible refine w_itvL (by with_unfolding_all rfl) ?_ | with_reducible refine w_par ?_ | with_reducible refine w_tup1S ?_ | with_reducible refine w_s1L (by first | omega | (simp only [List.length_map, List.length_tail, List.length_reverse]; omega)) ?_ | with_reducible refine w_s1T (by first | omega | (simp only [List.length_map, List.length_tail, List.length_cons, List.length_nil]; omega)) ?_ | with_reducible refine w_minT (nn (by first | omega | (simp only [List.length_tail]; omega))) ?_ | with_reducible refine w_maxT (nn (by first | omega | (simp only [List.length_tail]; omega))) ?_ | with_reducible refine w_tup ?_ | with_reducible refine w_lst ?_ | with_reducible refine w_toL ?_ | with_reducible refine w_toLL ?_ | with_reducible refine w_toT ?_ | with_reducible refine w_gIx ⟨(by with_unfolding_all rfl), (by with_unfolding_all rfl)⟩ ?_ | with_reducible refine w_gIxR (by with_unfolding_all rfl) (by omega) (by first | omega | (simp only [List.length_set]; omega)) ?_ | with_reducible refine w_gNil ?_ | with_reducible refine w_gCons ?_ | with_reducible refine w_gTup (by with_unfolding_all rfl) ?_ | with_reducible refine w_tst ?_ | with_reducible refine w_tstB ?_ | with_reducible refine w_tru ?_ | with_reducible refine w_truB ?_ | with_reducible refine w_orL ?_ | with_reducible refine w_andL ?_ | with_reducible refine w_notL ?_ | with_reducible refine w_yes ?_ | with_reducible refine w_lenT ?_ | with_reducible refine w_lenL ?_ | with_reducible refine w_isiT (by with_unfolding_all rfl) (by with_unfolding_all decide) (by with_unfolding_all rfl) ?_ | with_reducible refine w_isiF (by with_unfolding_all rfl) (by with_unfolding_all decide) (by with_unfolding_all rfl) ?_ | with_reducible refine w_allT ?_ | with_reducible refine w_t (by with_unfolding_all rfl) ?_ | with_reducible refine w_f (by with_unfolding_all rfl) ?_ | with_reducible refine w_kin ?_ | with_reducible refine w_kget ?_ | with_reducible refine w_slc ?_ | with_reducible refine w_nop ?_ | with_reducible refine w_bk ?_ | with_reducible refine w_ifE ?_ | with_reducible refine w_ng ?_ | with_reducible refine w_ngI ?_ | with_reducible refine w_andV ?_ | with_reducible refine w_andB ?_ | with_reducible refine w_orV ?_ | with_reducible refine w_orB ?_ | with_reducible refine w_notV ?_ | with_reducible refine w_notB ?_ | with_reducible refine w_isNt ?_ | with_reducible refine w_maxL (nn (by first | omega | (simp only [List.length_tail]; omega))) ?_ | with_reducible refine w_addL (by simp only [List.length_append, List.length_replicate, List.length_cons, List.length_nil, List.length_map, List.length_take]; omega) ?_ | with_reducible refine w_repT2 (by first | decide | omega) (by first | decide | omega) ?_ | with_reducible refine w_addT (by simp only [List.length_append, List.length_replicate, List.length_cons, List.length_nil, List.length_map]; omega) ?_ | with_reducible refine w_toL ?_ | with_reducible refine w_toLL ?_ | with_reducible refine w_toT ?_ | with_reducible refine w_mul (cm2 (by first | decide | omega) (by first | decide | omega)) ?_ | with_reducible refine w_lenS ?_ | with_reducible refine w_fd (by first | assumption | decide | omega) (by first | decide | omega) ?_ | with_reducible refine w_ixCL (by with_unfolding_all rfl) ?_ | with_reducible refine w_gIxC (by with_unfolding_all rfl) (by with_unfolding_all rfl) ?_ | with_reducible refine w_mod (by first | assumption | omega) ?_ | with_reducible refine w_chn ?_ | with_reducible refine w_chnB ?_ | with_reducible refine w_isNf ?_ | with_reducible refine w_ifT ?_ | with_reducible refine w_tt ?_ | with_reducible refine w_ff ?_ | with_reducible refine w_star ?_ | with_reducible refine w_starL ?_ | with_reducible refine w_starT ?_ | with_reducible refine w_rev ?_ | with_reducible refine w_revL ?_ | with_reducible refine w_revT ?_ | with_reducible refine w_rng1 ?_ | with_reducible refine w_lrg1 ?_ | with_reducible refine w_qrg1 ?_ | with_reducible refine w_lrg2 ?_ | with_reducible refine w_app (by with_unfolding_all rfl) ?_ | with_reducible refine w_appI (by with_unfolding_all rfl) (by with_unfolding_all rfl) (by simp only [List.length_cons, List.length_nil, List.length_map]; omega) ?_ | with_reducible refine w_pop (by with_unfolding_all rfl) ?_ | with_reducible refine w_callM ?_ | with_reducible refine w_callMN ?_ | with_reducible refine w_callMI (by with_unfolding_all rfl) (by with_unfolding_all rfl) (by with_unfolding_all rfl) ?_ | with_reducible refine w_II ?_ | with_reducible refine w_abs ?_ | with_reducible refine w_intI ?_ | with_reducible refine w_intB ?_ | with_reducible refine w_srtL ?_ | with_reducible refine w_srtT ?_ | with_reducible refine w_srtRT ?_ | with_reducible refine w_slTo ?_ | with_reducible refine w_slToL ?_ | with_reducible refine w_aug (by with_unfolding_all rfl) ?_ | with_reducible refine w_augI ?_ | with_reducible refine w_gUn ?_ | with_reducible refine w_unL (by with_unfolding_all rfl) ?_ | with_reducible refine w_sortLam ?_ | with_reducible refine w_neL ?_ | with_reducible refine w_neB ?_ | with_reducible refine w_prt ?_ | with_reducible refine w_prtI ?_ | with_reducible refine w_lt ?_ | with_reducible refine w_le ?_ | with_reducible refine w_gt ?_ | with_reducible refine w_ge ?_ | with_reducible refine w_eqI ?_ | with_reducible refine w_neI ?_ | with_reducible refine w_eqR ?_ | with_reducible refine w_eqL ?_ | with_reducible refine w_ixR (by simp only [List.length_tail]; omega) (by simp only [List.length_tail]; omega) ?_ | with_reducible refine w_ixR (by omega) (by omega) ?_ | with_reducible refine w_ixL (by omega) (by first | omega | (simp only [List.length_set]; omega)) ?_ | with_reducible refine w_ixC (by with_unfolding_all rfl) ?_ | with_reducible refine w_gNm (by with_unfolding_all rfl) ?_ | with_reducible refine w_gNn ?_ | with_reducible refine ⟨(by with_unfolding_all rfl), ?_⟩ | with_reducible refine ⟨⟨(by with_unfolding_all rfl), (by with_unfolding_all rfl)⟩, ?_⟩ | with_reducible refine ⟨⟨(by with_unfolding_all rfl), sz (by simp only [List.length_cons, List.length_nil]; omega)⟩, ?_⟩ | (simp only [val_dat, val_new, val_ref, List.getElem?_cons_zero, List.getElem?_cons_succ, tupI, List.map_cons, List.map_nil, startR, startM, frzs, setsR, slotW, anyRef, wipeR, unwipe, List.any_cons, List.any_nil, List.filter_cons, List.filter_nil, List.length_cons, List.length_nil, List.replicate, List.set_cons_zero, List.set_cons_succ, List.cons_append, List.nil_append, Bool.or_false, Bool.or_self, Bool.false_eq_true, if_false, List.getD_cons_zero, List.getD_cons_succ, Nat.reduceSub, Nat.reduceAdd])))
theorem w_notIn {a : D} {l : List D} {k : Bool} {R : W → Prop} (h1 : shp a = true) (h2 : shp (.lst l) = true) (h3 : (l.any fun z => eqD z a) = k) (q : R (.dat (.bl (!k)))) : rdIn true a (.lst l) R := by
  subst h3
  exact ⟨⟨h1, h2⟩, q⟩
theorem shp_rows (l : List (List Int)) : shp (.lst (l.map tupI)) = true := by
  have h1 : isPy (.lst (l.map tupI)) = true := by
    show isPys (l.map tupI) = true
    induction l with
    | nil => rfl
    | cons a l ih =>
      show (isPy (tupI a) && isPys (l.map tupI)) = true
      rw [ih]
      have : isPy (tupI a) = true := isPys_ints a
      rw [this]; rfl
  have h2 : (py (.lst (l.map tupI))).canLay0 = true := by
    show PyData.canLayAll0 (pys (l.map tupI)) = true
    induction l with
    | nil => rfl
    | cons a l ih =>
      have i1 : isPy (.lst (l.map tupI)) = true := by
        have : (isPy (tupI a) && isPys (l.map tupI)) = true := h1
        exact (Bool.and_eq_true_iff.mp this).2
      show ((py (tupI a)).canLay0 && PyData.canLayAll0 (pys (l.map tupI))) = true
      rw [ih i1]
      have : (py (tupI a)).canLay0 = true := lay_ints a
      rw [this]; rfl
  have h3 : PyData.depthAll (pys (l.map tupI)) ≤ 1 := by
    clear h1 h2
    induction l with
    | nil => exact Nat.zero_le _
    | cons a l ih =>
      show max (py (tupI a)).depth (PyData.depthAll (pys (l.map tupI))) ≤ 1
      have : (py (tupI a)).depth = 1 := congrArg (· + 1) (depth_ints a)
      rw [this]; omega
  have h4 : (py (.lst (l.map tupI))).depth = PyData.depthAll (pys (l.map tupI)) + 1 := rfl
  unfold shp SeqAt.shaped
  rw [h1, h2, h4, decide_eq_true (by omega)]; rfl
theorem any_rows (a : List Int) : ∀ l : List (List Int), ((l.map tupI).any fun z => eqD z (tupI a)) = decide (a ∈ l)
  | [] => by simp
  | b :: l => by
    rw [List.map_cons, List.any_cons, any_rows a l]
    have : eqD (tupI b) (tupI a) = (b == a) := eqD_row b a
    rw [this, Bool.eq_iff_iff]
    simp only [Bool.or_eq_true, beq_iff_eq, decide_eq_true_eq, List.mem_cons]
    exact ⟨fun h => h.elim (fun h => .inl h.symm) .inr, fun h => h.elim (fun h => .inl h.symm) .inr⟩
theorem nodup_sub_len {α : Type} [DecidableEq α] : ∀ {l m : List α}, l.Nodup → (∀ x ∈ l, x ∈ m) → l.length ≤ m.length
  | [], _, _, _ => Nat.zero_le _
  | a :: l, m, h, s => by
    have ha := s a List.mem_cons_self
    have := nodup_sub_len (l := l) (m := m.erase a) (List.nodup_cons.mp h).2 fun x hx =>
      (List.mem_erase_of_ne (fun e => (List.nodup_cons.mp h).1 (by rw [← e]; exact hx))).mpr (s x (List.mem_cons_of_mem _ hx))
    rw [List.length_erase_of_mem ha] at this
    have : 0 < m.length := List.length_pos_of_mem ha
    rw [List.length_cons]; omega
theorem heads_nodup {p t : Int} (h : PrimeOk p) : ((List.range 16).map fun v : Nat => (v : Int) * bkI p t % p).Nodup := by
  unfold bkI
  split <;> rcases prime_is h with h | h | h | h <;> subst h <;> decide +kernel
theorem free_head {p : Int} (t : Int) (h : PrimeOk p) (ts : List (List Int)) (hl : ts.length ≤ 15) : ∃ v : Int, 0 ≤ v ∧ v ≤ 15 ∧ ∀ u ∈ ts, u.getD 0 0 ≠ v * bkI p t % p := by
  refine Classical.byContradiction fun hn => ?_
  have hs : ∀ x ∈ (List.range 16).map (fun v : Nat => (v : Int) * bkI p t % p), x ∈ ts.map fun u => u.getD 0 0 := fun x hx => by
    obtain ⟨v, hv, rfl⟩ := List.mem_map.mp hx
    have hv := List.mem_range.mp hv
    refine Classical.byContradiction fun hm => hn ⟨v, by omega, by omega, fun u hu e => hm ?_⟩
    rw [← e]
    exact List.mem_map.mpr ⟨u, hu, rfl⟩
  have := nodup_sub_len (heads_nodup h) hs
  rw [List.length_map, List.length_map, List.length_range] at this
  omega
/-- new ones alone -/
def addP (ts : List (List Int)) (u : List Int) : List (List Int) := if u ∈ ts then ts else ts ++ [u]
theorem dd_add (ts : List (List Int)) (u : List Int) (h : ts.Nodup) : ((List.range (ts.length + 1)).filter fun k => decide ((ts ++ [u]).getD k [] ∉ (ts ++ [u]).take k)).map (fun k => tupI ((ts ++ [u]).getD k [])) = (addP ts u).map tupI := by
  have g : ∀ k, k < ts.length → (ts ++ [u]).getD k [] = ts.getD k [] := fun k hk => by
    rw [List.getD_eq_getElem?_getD, List.getElem?_append_left hk, ← List.getD_eq_getElem?_getD]
  have gl : (ts ++ [u]).getD ts.length [] = u := by simp [List.getD_eq_getElem?_getD]
  have e1 : (List.range ts.length).filter (fun k => decide ((ts ++ [u]).getD k [] ∉ (ts ++ [u]).take k)) = List.range ts.length := by
    rw [List.filter_eq_self]
    intro k hk
    have hk := List.mem_range.mp hk
    rw [decide_eq_true_iff, g k hk, List.take_append_of_le_length (by omega)]
    intro hm
    obtain ⟨j, hj, e⟩ := List.getElem_of_mem hm
    rw [List.length_take] at hj
    rw [List.getElem_take, List.getD_eq_getElem?_getD, List.getElem?_eq_getElem hk] at e
    exact List.pairwise_iff_getElem.mp h j k (by omega) hk (by omega) e
  have e2 : (List.range ts.length).map (fun k => tupI ((ts ++ [u]).getD k [])) = ts.map tupI := by
    apply List.ext_getElem?
    intro k
    rw [List.getElem?_map, List.getElem?_map]
    by_cases hk : k < ts.length
    · rw [List.getElem?_range hk, List.getElem?_eq_getElem hk]
      simp only [Option.map_some]
      rw [g k hk, List.getD_eq_getElem?_getD, List.getElem?_eq_getElem hk]; rfl
    · rw [List.getElem?_eq_none (by rw [List.length_range]; omega), List.getElem?_eq_none (by omega)]; rfl
  rw [List.range_succ, List.filter_append, e1, List.map_append, e2]
  have tk : (ts ++ [u]).take ts.length = ts := by simp
  unfold addP
  by_cases hu : u ∈ ts
  · rw [if_pos hu, List.filter_cons_of_neg (by rw [gl, tk]; simpa using hu)]
    simp
  · rw [if_neg hu, List.filter_cons_of_pos (by rw [gl, tk]; simpa using hu)]
    simp only [List.filter_nil, List.map_cons, List.map_nil, List.map_append]
    rw [gl]
def TT : Nat := 2 ^ 124
def BB : Nat := 2 ^ 124 + 10 ^ 600
structure PI (p b : Int) (m : Nat) (ts : List (List Int)) (a c : Int) : Prop where
  pts : ∀ t ∈ ts, PtOk p t
  nd : ts.Nodup
  a0 : 0 ≤ a
  a1 : a < 10 ^ 600
  c0 : 0 ≤ c
  ms : (0 < a ∧ c ≤ 10000 ∧ m = (16 - ts.length) * BB + (TT + a.toNat)) ∨
    (a = 0 ∧ ∃ (τ : Nat) (v : Int), 0 ≤ v ∧ v ≤ 15 ∧ (∀ t ∈ ts, t.getD 0 0 ≠ v * bkI p (1 + ((ts.length : Nat) : Int) % 2) % p) ∧ mixI b (c + 2 * τ + 1) / 4096 = v ∧ τ < TT ∧ c + 2 * τ ≤ 10001 + (ts.length + 1) * (2 * TT + 4) ∧ m = (16 - ts.length) * BB + τ)
theorem TT_big : (5316911983139663385546449817291456557 : Int) ≤ (TT : Int) ∧ (10001 : Int) + 17 * (2 * TT + 4) + 10 ≤ 2 ^ 140 := by unfold TT; constructor <;> decide +kernel
theorem BB_big : (BB : Int) = TT + 10 ^ 600 := by
  unfold BB TT
  rw [Int.natCast_add, Int.natCast_pow, Int.natCast_pow]; rfl
/-- with no digits left: some later roll is new -/
theorem PI.zero {p b : Int} (hp : PrimeOk p) {ts : List (List Int)} {c : Int} (h1 : ∀ t ∈ ts, PtOk p t) (h2 : ts.Nodup) (hl : ts.length ≤ 15) (hc : 0 ≤ c) (hc2 : c ≤ 10001 + ts.length * (2 * TT + 4) + 2) : ∃ m, m < (16 - ts.length) * BB + TT ∧ PI p b m ts 0 c := by
  obtain ⟨v, v0, v1, hv⟩ := free_head (1 + ((ts.length : Nat) : Int) % 2) hp ts hl
  obtain ⟨τ, ht, e⟩ := mix_some b c v v0 v1
  have tb := TT_big.1
  have ht : τ < TT := by omega
  refine ⟨_, ?_, h1, h2, Int.le_refl _, by decide +kernel, hc, .inr ⟨rfl, τ, v, v0, v1, hv, e, ht, ?_, rfl⟩⟩
  · omega
  · generalize (TT : Int) = T at *
    have : ((ts.length : Int) + 1) * (2 * T + 4) = ts.length * (2 * T + 4) + (2 * T + 4) := by rw [Int.add_mul, Int.one_mul]
    omega
theorem nrm_ok {p : Int} (hp : PrimeOk p) (x y t : Int) : PtOk p (nrmP p x y t) := by
  obtain ⟨b1, b2, b3⟩ := prime_facts hp
  have h1 := Int.emod_nonneg (x * bkI p t) (b := p) (by omega)
  have h2 := Int.emod_lt_of_pos (x * bkI p t) (b := p) (by omega)
  have h3 := Int.emod_nonneg (y * bkI p t) (b := p) (by omega)
  have h4 := Int.emod_lt_of_pos (y * bkI p t) (b := p) (by omega)
  unfold nrmP
  refine ⟨rfl, fun i hi => ?_, rfl⟩
  simp only [List.mem_cons, List.not_mem_nil, or_false] at hi
  rcases hi with rfl | rfl | rfl <;> omega
theorem addP_in {ts : List (List Int)} {u : List Int} (h : u ∈ ts) : addP ts u = ts := if_pos h
theorem addP_out {ts : List (List Int)} {u : List Int} (h : u ∉ ts) : addP ts u = ts ++ [u] := if_neg h
theorem addP_ok {p : Int} {ts : List (List Int)} {u : List Int} (h : ∀ t ∈ ts, PtOk p t) (hu : PtOk p u) (hn : ts.Nodup) : (∀ t ∈ addP ts u, PtOk p t) ∧ (addP ts u).Nodup ∧ (addP ts u).length ≤ ts.length + 1 := by
  by_cases c : u ∈ ts
  · rw [addP_in c]; exact ⟨h, hn, by omega⟩
  · rw [addP_out c]
    refine ⟨fun t ht => ?_, ?_, by simp⟩
    · rcases List.mem_append.mp ht with q | q
      · exact h t q
      · rw [List.mem_singleton.mp q]; exact hu
    · rw [List.nodup_append]
      refine ⟨hn, by simp, fun a ha b hb e => c ?_⟩
      rw [List.mem_singleton.mp hb] at e
      rw [← e]; exact ha
theorem bb_mul {a : Nat} (h : a ≤ 15) : (16 - a) * BB = (16 - (a + 1)) * BB + BB := by
  rw [show 16 - a = (16 - (a + 1)) + 1 by omega, Nat.add_mul, Nat.one_mul]
theorem PI.step {p b : Int} {m : Nat} {ts : List (List Int)} {a c x a1 c1 y a2 c2 : Int} (hp : PrimeOk p) (hb : 0 ≤ b) (hb2 : b < 2 ^ 31) (h : PI p b m ts a c) (hl : ts.length ≤ 15) (h1 : rollF a b c p = (x, a1, c1)) (h2 : rollF a1 b c1 p = (y, a2, c2)) :
    0 < m ∧ (c ≤ 2 ^ 140 - 2) ∧ 0 ≤ a2 ∧ a2 < 10 ^ 600 ∧ 0 ≤ c2 ∧ c2 ≤ 2 ^ 140 ∧ ((addP ts (nrmP p x y (1 + ((ts.length : Nat) : Int) % 2))).length ≤ 15 → ∃ m', m' < m ∧ PI p b m' (addP ts (nrmP p x y (1 + ((ts.length : Nat) : Int) % 2))) a2 c2) := by
  obtain ⟨b1, b2, b3⟩ := prime_facts hp
  obtain ⟨g1, g2, g3, g4, g5, g6⟩ := h
  have tb := TT_big
  have bb := BB_big
  have mu := bb_mul hl
  have hu := nrm_ok hp x y (1 + ((ts.length : Nat) : Int) % 2)
  obtain ⟨k1, k2, k3⟩ := addP_ok g1 hu g2
  have hBB : TT < BB := by
    have : (0 : Int) < 10 ^ 600 := by decide +kernel
    omega
  rcases g6 with ⟨ha, hc, rfl⟩ | ⟨rfl, τ, v, v0, v1, hv, e, ht, hc, rfl⟩
  · unfold rollF at h1
    rw [if_pos ha] at h1
    simp only [Prod.mk.injEq] at h1
    obtain ⟨rfl, rfl, rfl⟩ := h1
    have d1 : 0 ≤ a / p := Int.ediv_nonneg g3 (by omega)
    have d2 : a / p < a := Int.ediv_lt_self_of_pos_of_ne_one ha (by omega)
    have key : 0 ≤ a2 ∧ a2 < a ∧ 0 ≤ c2 ∧ c2 ≤ c + 1 ∧ (0 < a2 → c2 = c) := by
      unfold rollF at h2
      split at h2
      · simp only [Prod.mk.injEq] at h2
        obtain ⟨_, rfl, rfl⟩ := h2
        have d3 := Int.ediv_nonneg d1 (b := p) (by omega)
        have d4 := Int.ediv_le_self p d1
        omega
      · simp only [Prod.mk.injEq] at h2
        obtain ⟨_, rfl, rfl⟩ := h2
        omega
    obtain ⟨q1, q2, q3, q4, q5⟩ := key
    refine ⟨by omega, by omega, q1, by omega, q3, by omega, fun hl' => ?_⟩
    by_cases z : 0 < a2
    · refine ⟨_, ?_, k1, k2, q1, by omega, q3, .inl ⟨z, by rw [q5 z]; exact hc, rfl⟩⟩
      by_cases cc : nrmP p (a % p) y (1 + ((ts.length : Nat) : Int) % 2) ∈ ts
      · rw [addP_in cc]; omega
      · rw [addP_out cc, List.length_append, List.length_singleton]; omega
    · have z : a2 = 0 := by omega
      subst z
      obtain ⟨m', hm, w⟩ := PI.zero hp k1 k2 hl' q3 (by
        have : (0 : Int) ≤ ((addP ts (nrmP p (a % p) y (1 + ((ts.length : Nat) : Int) % 2))).length : Int) * (2 * (TT : Int) + 4) := Int.mul_nonneg (by omega) (by omega)
        omega)
      refine ⟨m', ?_, w⟩
      by_cases cc : nrmP p (a % p) y (1 + ((ts.length : Nat) : Int) % 2) ∈ ts
      · rw [addP_in cc] at hm; omega
      · rw [addP_out cc, List.length_append, List.length_singleton] at hm; omega
  · unfold rollF at h1
    rw [if_neg (by omega)] at h1
    simp only [Prod.mk.injEq] at h1
    obtain ⟨rfl, rfl, rfl⟩ := h1
    unfold rollF at h2
    rw [if_neg (by omega)] at h2
    simp only [Prod.mk.injEq] at h2
    obtain ⟨rfl, rfl, rfl⟩ := h2
    have cb : c + 2 * τ ≤ 10001 + 16 * (2 * (TT : Int) + 4) := by
      have : ((ts.length : Int) + 1) * (2 * (TT : Int) + 4) ≤ 16 * (2 * (TT : Int) + 4) := Int.mul_le_mul_of_nonneg_right (by omega) (by omega)
      omega
    refine ⟨by omega, by omega, Int.le_refl _, by decide +kernel, by omega, by omega, fun hl' => ?_⟩
    by_cases cc : nrmP p (mixI b (c + 1) / 4096 % p) (mixI b (c + 1 + 1) / 4096 % p) (1 + ((ts.length : Nat) : Int) % 2) ∈ ts
    · rw [addP_in cc] at *
      cases τ with
      | zero =>
        exfalso
        rw [show c + 2 * ((0 : Nat) : Int) + 1 = c + 1 by omega] at e
        rw [e] at cc
        have := hv _ cc
        refine this ?_
        unfold nrmP
        rw [Int.emod_eq_of_lt v0 (by omega)]; rfl
      | succ τ =>
        refine ⟨_, ?_, g1, g2, Int.le_refl _, by decide +kernel, by omega, .inr ⟨rfl, τ, v, v0, v1, hv, ?_, by omega, by omega, rfl⟩⟩
        · omega
        · rw [← e]
          congr 2
          omega
    · obtain ⟨m', hm, w⟩ := PI.zero hp k1 k2 hl' (c := c + 1 + 1) (by omega) (by
        rw [addP_out cc, List.length_append, List.length_singleton, show (((ts.length + 1 : Nat)) : Int) = ts.length + 1 by omega]
        omega)
      refine ⟨m', ?_, w⟩
      rw [addP_out cc, List.length_append, List.length_singleton] at hm; omega
theorem sem__law_points (l ds : List D) (Q : W → List D → Prop) (h : P__law_points l ds Q) : t__law_points { nx := fun ρ => ∃ l', ρ[0]? = some (.own l') ∧ Q (.dat .non) l', rt := fun w ρ => ∃ l', ρ[0]? = some (.own l') ∧ Q w l' } (startM N__law_points.length l ds) := by
  obtain ⟨N, p, n, rfl, ⟨a, b, c, rfl, ⟨a0, a1, b0, b1, c0, c1⟩⟩, h1, hp, h2, h3, q⟩ := h
  obtain ⟨b1', b2', b3'⟩ := prime_facts hp
  unfold t__law_points
  nofun
  obtain ⟨m0, w0⟩ : ∃ m, PI p b m [] a c := by
    by_cases ha : 0 < a
    · exact ⟨_, by simp, by simp, a0, a1, c0, .inl ⟨ha, by omega, rfl⟩⟩
    · obtain ⟨m, _, w⟩ := PI.zero (b := b) (c := c) (ts := []) hp (by simp) (by simp) (by simp) c0 (by simp; omega)
      have e : a = 0 := by omega
      subst e
      exact ⟨m, w⟩
  refine w_while (fun m ρ => ∃ (ts : List (List Int)) (a c : Int), ρ = [.own (dice a b c), .dat (.int p), .dat (.int n), .own (ts.map tupI), .un] ∧ (∀ t ∈ ts, PtOk p t) ∧ ts.Nodup ∧ ts.length ≤ n ∧ (0 ≤ a ∧ a < 10 ^ 600 ∧ 0 ≤ c ∧ c ≤ 2 ^ 140) ∧ (ts.length < n → PI p b m ts a c)) m0 ⟨[], a, c, rfl, by simp, by simp, by simp, ⟨a0, a1, c0, by omega⟩, fun _ => w0⟩ ?_
  rintro m ρ1 ⟨ts, a, c, rfl, g1, g2, g3, ⟨a0, a1, c0, c1⟩, hm⟩
  nofun
  by_cases hl : ts.length < n
  · refine w_t (by rw [List.length_map, decide_eq_true_iff]; omega) ?_
    obtain ⟨x, a1', c1', e1⟩ : ∃ x a' c', rollF a b c p = (x, a', c') := ⟨_, _, _, rfl⟩
    obtain ⟨y, a2, c2, e2⟩ : ∃ x a' c', rollF a1' b c1' p = (x, a', c') := ⟨_, _, _, rfl⟩
    have st := PI.step hp b0 b1 (hm hl) (by omega) e1 e2
    obtain ⟨m0, cb, q1, q2, q3, q4, q5⟩ := st
    have dk : Dok (2 ^ 140 - 2) a b c := ⟨a0, a1, b0, b1, c0, cb⟩
    have r1 := roll_db (s := p) dk (by omega)
    rw [e1] at r1
    have r2 := roll_db (s := p) r1.2 (by omega)
    rw [e2] at r2
    have ad := addP_ok (u := nrmP p x y (1 + ((ts.length : Nat) : Int) % 2)) g1 (nrm_ok hp _ _ _) g2
    nofun
    refine ⟨a, b, c, p, _, rfl, rfl, dk, by omega, by omega, by omega, ?_⟩
    rw [e1]
    nofun
    refine ⟨a1', b, c1', p, _, rfl, rfl, r1.2, by omega, by omega, by omega, ?_⟩
    rw [e2]
    nofun
    refine ⟨p, x, y, _, rfl, hp, r1.1, r2.1, by rw [List.length_map]; omega, ?_⟩
    nofun
    rw [List.length_map]
    generalize nrmP p x y (1 + ((ts.length : Nat) : Int) % 2) = u at *
    rw [show (ts.map tupI ++ [D.tup (u.map D.int)]) = (ts ++ [u]).map tupI by rw [List.map_append]; rfl]
    have le : ((ts ++ [u]).map tupI).length = ts.length + 1 := by rw [List.length_map, List.length_append, List.length_singleton]
    refine w_rngI (by rw [le]; unfold BndI; omega) ?_
    rw [le, show (((ts.length + 1 : Nat) : Int)).toNat = ts.length + 1 by omega]
    nofun
    refine dcomp_run (fun k : Nat => D.int k) (fun k => decide ((ts ++ [u]).getD k [] ∉ (ts ++ [u]).take k)) (fun k => tupI ((ts ++ [u]).getD k [])) (List.range (ts.length + 1)) [] (fun k hk C C2 h1 h2 => ?_) (sz (by simp; omega)) ?_
    · have hk := List.mem_range.mp hk
      have hk2 : k < (ts ++ [u]).length := by rw [List.length_append, List.length_singleton]; exact hk
      have eg : ((ts ++ [u]).map tupI)[k]? = some (tupI ((ts ++ [u]).getD k [])) := by
        rw [List.getElem?_map, List.getD_eq_getElem?_getD, List.getElem?_eq_getElem hk2]; rfl
      nofun
      refine w_ixIL k eg rfl ?_
      nofun
      rw [← List.map_take]
      refine w_notIn (shp_row _) (shp_rows _) (any_rows _ _) ?_
      nofun
      by_cases cm : (ts ++ [u]).getD k [] ∈ (ts ++ [u]).take k
      · refine w_f (by rw [decide_eq_true cm]; rfl) ?_
        exact h2 (by rw [decide_eq_false (fun h => h cm)]) _ rfl
      · refine w_t (by rw [decide_eq_false cm]; rfl) ?_
        nofun
        refine w_ixIL k eg rfl ?_
        exact h1 (decide_eq_true cm) _ _ rfl rfl rfl
    · rw [List.nil_append, dd_add _ _ g2]
      nofun
      by_cases full : (addP ts u).length < n
      · obtain ⟨m', hm', w'⟩ := q5 (by omega)
        exact ⟨m', hm', addP ts u, a2, c2, rfl, ad.1, ad.2.1, by omega, ⟨q1, q2, q3, q4⟩, fun _ => w'⟩
      · exact ⟨0, m0, addP ts u, a2, c2, rfl, ad.1, ad.2.1, by omega, ⟨q1, q2, q3, q4⟩, fun h => absurd h full⟩
  · refine w_f (by rw [List.length_map, decide_eq_false_iff_not]; omega) ?_
    nofun
    exact ⟨_, rfl, q ts ⟨by omega, by omega, g1, g2⟩ (by omega) _ ⟨a, b, c, rfl, ⟨a0, a1, b0, b1, c0, c1⟩⟩⟩

end K82

set_option Elab.async false
set_option linter.all false
set_option pp.deepTerms false
set_option maxRecDepth 100000
set_option maxHeartbeats 4000000
namespace K82
open PySem PySem.Spec PyProof.Rows L2 L3
local macro_rules | `(tactic| nofun) => `(tactic| repeat (first | with_reducible refine w_seq ?_ | with_reducible refine w_nx ?_ | with_reducible refine w_ret ?_ | with_reducible refine w_retN ?_ | with_reducible refine w_drop ?_ | with_reducible refine w_ifS ?_ | with_reducible refine w_asg ?_ | with_reducible refine w_for ?_ | with_reducible refine w_forC ?_ | with_reducible refine w_forN ?_ | with_reducible refine w_K ?_ | with_reducible refine w_N (by with_unfolding_all rfl) ?_ | with_reducible refine w_No (by with_unfolding_all rfl) ?_ | with_reducible refine w_2 ?_ | with_reducible refine w_nilA ?_ | with_reducible refine w_consA ?_ | with_reducible refine w_CD ?_ | with_reducible refine w_call ?_ | with_reducible refine w_add ?_ | with_reducible refine w_sub ?_ | with_reducible refine w_mul (cmw (by omega) (by omega)) ?_ | with_reducible refine w_mul (cmw (by first | decide | exact bd (by assumption)) (by first | decide | exact bd (by assumption))) ?_ | with_reducible refine w_slcT ?_ | with_reducible refine w_slR ?_ | with_reducible refine w_sumT ?_ | with_reducible refine w_sumL ?_ | with_reducible refine w_comp ?_ | with_reducible refine w_zip ?_ | with_reducible refine w_zipT (by with_unfolding_all rfl) ?_ | with_reducible refine w_zipL (by with_unfolding_all rfl) ?_ | with_reducible refine w_itv ?_ | with_reducible refine w_itvT (by with_unfolding_all rfl) ?_ | with_reducible refine w_itvL (by with_unfolding_all rfl) ?_ | with_reducible refine w_par ?_ | with_reducible refine w_tup1S ?_ | with_reducible refine w_s1L (by first | omega | (simp only [List.length_map, List.length_tail, List.length_reverse]; omega)) ?_ | with_reducible refine w_s1T (by first | omega | (simp only [List.length_map, List.length_tail, List.length_cons, List.length_nil]; omega)) ?_ | with_reducible refine w_minT (nn (by first | omega | (simp only [List.length_tail]; omega))) ?_ | with_reducible refine w_maxT (nn (by first | omega | (simp only [List.length_tail]; omega))) ?_ | with_reducible refine w_tup ?_ | with_reducible refine w_lst ?_ | with_reducible refine w_toL ?_ | with_reducible refine w_toLL ?_ | with_reducible refine w_toT ?_ | with_reducible refine w_gIx ⟨(by with_unfolding_all rfl), (by with_unfolding_all rfl)⟩ ?_ | with_reducible refine w_gIxR (by with_unfolding_all rfl) (by omega) (by first | omega | (simp only [List.length_set]; omega)) ?_ | with_reducible refine w_gNil ?_ | with_reducible refine w_gCons ?_ | with_reducible refine w_gTup (by with_unfolding_all rfl) ?_ | with_reducible refine w_tst ?_ | with_reducible refine w_tstB ?_ | with_reducible refine w_tru ?_ | with_reducible refine w_truB ?_ | with_reducible refine w_orL ?_ | with_reducible refine w_andL ?_ | with_reducible refine w_notL ?_ | with_reducible refine w_yes ?_ | with_reducible refine w_lenT ?_ | with_reducible refine w_lenL ?_ | with_reducible refine w_isiT (by with_unfolding_all rfl) (by with_unfolding_all decide) (by with_unfolding_all rfl) ?_ | with_reducible refine w_isiF (by with_unfolding_all rfl) (by with_unfolding_all decide) (by with_unfolding_all rfl) ?_ | with_reducible refine w_allT ?_ | with_reducible refine w_t (by with_unfolding_all rfl) ?_ | with_reducible refine w_f (by with_unfolding_all rfl) ?_ | with_reducible refine w_kin ?_ | with_reducible refine w_kget ?_ | with_reducible refine w_slc ?_ | with_reducible refine w_nop ?_ | with_reducible refine w_bk ?_ | with_reducible refine w_ifE ?_ | with_reducible refine w_ng ?_ | with_reducible refine w_ngI ?_ | with_reducible refine w_andV ?_ | with_reducible refine w_andB ?_ | with_reducible refine w_orV ?_ | with_reducible refine w_orB ?_ | with_reducible refine w_notV ?_ | with_reducible refine w_notB ?_ | with_reducible refine w_isNt ?_ | with_reducible refine w_maxL (nn (by first | omega | (simp only [List.length_tail]; omega))) ?_ | with_reducible refine w_addL (by simp only [List.length_append, List.length_replicate, List.length_cons, List.length_nil, List.length_map, List.length_take]; omega) ?_ | with_reducible refine w_repT2 (by first | decide | omega) (by first | decide | omega) ?_ | with_reducible refine w_addT (by simp only [List.length_append, List.length_replicate, List.length_cons, List.length_nil, List.length_map]; omega) ?_ | with_reducible refine w_toL ?_ | with_reducible refine w_toLL ?_ | with_reducible refine w_toT ?_ | with_reducible refine w_mul (cm2 (by first | decide | omega) (by first | decide | omega)) ?_ | with_reducible refine w_lenS ?_ | with_reducible refine w_fd (by first | assumption | decide | omega) (by first | decide | omega) ?_ | with_reducible refine w_ixCL (by with_unfolding_all rfl) ?_ | with_reducible refine w_gIxC (by with_unfolding_all rfl) (by with_unfolding_all rfl) ?_ | with_reducible refine w_mod (by first | assumption | omega) ?_ | with_reducible refine w_chn ?_ | with_reducible refine w_chnB ?_ | with_reducible refine w_isNf ?_ | with_reducible refine w_ifT ?_ | with_reducible refine w_tt ?_ | with_reducible refine w_ff ?_ | with_reducible refine w_star ?_ | with_reducible refine w_starL ?_ | with_reducible refine w_starT ?_ | with_reducible refine w_rev ?_ | with_reducible refine w_revL ?_ | with_reducible refine w_revT ?_ | with_reducible refine w_rng1 ?_ | with_reducible refine w_lrg1 ?_ | with_reducible refine w_qrg1 ?_ | with_reducible refine w_lrg2 ?_ | with_reducible refine w_app (by with_unfolding_all rfl) ?_ | with_reducible refine w_appI (by with_unfolding_all rfl) (by with_unfolding_all rfl) (by simp only [List.length_cons, List.length_nil, List.length_map]; omega) ?_ | with_reducible refine w_pop (by with_unfolding_all rfl) ?_ | with_reducible refine w_callM ?_ | with_reducible refine w_callMN ?_ | with_reducible refine w_callMI (by with_unfolding_all rfl) (by with_unfolding_all rfl) (by with_unfolding_all rfl) ?_ | with_reducible refine w_II ?_ | with_reducible refine w_abs ?_ | with_reducible refine w_intI ?_ | with_reducible refine w_intB ?_ | with_reducible refine w_srtL ?_ | with_reducible refine w_srtT ?_ | with_reducible refine w_srtRT ?_ | with_reducible refine w_slTo ?_ | with_reducible refine w_slToL ?_ | with_reducible refine w_aug (by with_unfolding_all rfl) ?_ | with_reducible refine w_augI ?_ | with_reducible refine w_gUn ?_ | with_reducible refine w_unL (by with_unfolding_all rfl) ?_ | with_reducible refine w_sortLam ?_ | with_reducible refine w_neL ?_ | with_reducible refine w_neB ?_ | with_reducible refine w_prt ?_ | with_reducible refine w_prtI ?_ | with_reducible refine w_lt ?_ | with_reducible refine w_le ?_ | with_reducible refine w_gt ?_ | with_reducible refine w_ge ?_ | with_reducible refine w_eqI ?_ | with_reducible refine w_neI ?_ | with_reducible refine w_eqR ?_ | with_reducible refine w_eqL ?_ | with_reducible refine w_ixR (by simp only [List.length_tail]; omega) (by simp only [List.length_tail]; omega) ?_ | with_reducible refine w_ixR (by omega) (by omega) ?_ | with_reducible refine w_ixL (by omega) (by first | omega | (simp only [List.length_set]; omega)) ?_ | with_reducible refine w_ixC (by with_unfolding_all rfl) ?_ | with_reducible refine w_gNm (by with_unfolding_all rfl) ?_ | with_reducible refine w_gNn ?_ | with_reducible refine ⟨(by with_unfolding_all rfl), ?_⟩ | with_reducible refine ⟨⟨(by with_unfolding_all rfl), (by with_unfolding_all rfl)⟩, ?_⟩ | with_reducible refine ⟨⟨(by with_unfolding_all rfl), sz (by simp only [List.length_cons, List.length_nil]; omega)⟩, ?_⟩ | (simp only [val_dat, val_new, val_ref, List.getElem?_cons_zero, List.getElem?_cons_succ, tupI, List.map_cons, List.map_nil, startR, startM, frzs, setsR, slotW, anyRef, wipeR, unwipe, List.any_cons, List.any_nil, List.filter_cons, List.filter_nil, List.length_cons, List.length_nil, List.replicate, List.set_cons_zero, List.set_cons_succ, List.cons_append, List.nil_append, Bool.or_false, Bool.or_self, Bool.false_eq_true, if_false, List.getD_cons_zero, List.getD_cons_succ, Nat.reduceSub, Nat.reduceAdd])))
/-- the numbers, the greatest first -/
def valN (r : List Int) (p : Nat) : Int := r.getD (1 + p) 0
theorem insN_srt {r : List Int} (d : Nat) : ∀ l : List Nat, l.Pairwise (fun x y => valN r y ≤ valN r x) → (insN (keyN r) d l).Pairwise (fun x y => valN r y ≤ valN r x)
  | [], _ => List.pairwise_singleton _ _
  | e :: l, h => by
    have hh := List.pairwise_cons.mp h
    unfold insN
    split
    · rename_i c
      have c := SrtO.lexB_iff.mp c
      unfold keyN at c
      refine List.pairwise_cons.mpr ⟨fun y hy => ?_, insN_srt d l hh.2⟩
      rcases List.mem_cons.mp ((insN_perm _ d l).mem_iff.mp hy) with rfl | hy
      · unfold valN; simp only at c; omega
      · exact hh.1 y hy
    · rename_i c
      have c := SrtO.lexB_no.mp (Bool.not_eq_true _ ▸ c)
      unfold keyN at c
      refine List.pairwise_cons.mpr ⟨fun y hy => ?_, h⟩
      have q : valN r e ≤ valN r d := by unfold valN; simp only at c; omega
      rcases List.mem_cons.mp hy with rfl | hy
      · exact q
      · exact Int.le_trans (hh.1 y hy) q
theorem srtN_srt {r : List Int} : ∀ l : List Nat, (srtN (keyN r) l).Pairwise (fun x y => valN r y ≤ valN r x)
  | [] => List.Pairwise.nil
  | e :: l => insN_srt e _ (srtN_srt l)
theorem range_vals : ∀ (r : List Int), r.tail = (List.range (r.length - 1)).map (valN r) := by
  intro r
  apply List.ext_getElem?
  intro i
  rw [List.getElem?_map]
  by_cases h : i < r.length - 1
  · rw [List.getElem?_range h, List.getElem?_eq_getElem (by rw [List.length_tail]; exact h)]
    simp only [Option.map_some]
    congr 1
    unfold valN
    rw [Nat.add_comm, ← tail_getD, List.getD_eq_getElem?_getD, List.getElem?_eq_getElem (by rw [List.length_tail]; exact h)]
    rfl
  · rw [List.getElem?_eq_none (by rw [List.length_tail]; omega), List.getElem?_eq_none (by rw [List.length_range]; omega)]
    rfl
theorem ordR_vals (r : List Int) : ((ordR r).map (valN r)).Perm r.tail := by
  have := (ordR_perm r).map (valN r)
  rwa [← range_vals] at this
theorem ordR_srt (r : List Int) : ((ordR r).map (valN r)).Pairwise (· ≥ ·) := by
  rw [List.pairwise_map]
  exact srtN_srt _
theorem nums_eq {r L : List Int} (h : L.tail.Perm r.tail) : (srtI L.tail).reverse = (ordR r).map (valN r) := (srt_rev ((ordR_vals r).trans h.symm) (ordR_srt r)).symm
theorem more_eq {r : List Int} (hl : 4 ≤ r.length) : r.getD 0 0 - (((ordR r).map (valN r)).take 3).sum = moreR r (g3 r).1 (g3 r).2.1 (g3 r).2.2 := by
  rw [← List.map_take, ← perm_sum ((g3_perm hl).map (valN r))]
  unfold moreR valN
  simp only [List.map_cons, List.map_nil, List.sum_cons, List.sum_nil, Nat.add_comm 1]
  omega
/-- the law's next numbers -/
def nextN (L : List Int) (more : Int) : List Int := (List.range L.length).map fun k : Nat => L.getD k 0 + more * (if (k : Int) < 3 then 1 else 0)
theorem next_eq {r : List Int} (hl : 4 ≤ r.length) : nextN ((ordR r).map (valN r)) (moreR r (g3 r).1 (g3 r).2.1 (g3 r).2.2) = (ordR r).map (valN (turnT r (g3 r))) := by
  have ok := g3_ok hl
  have pm := g3_perm hl
  have nd := ordR_nodup r
  generalize g3 r = t at *
  obtain ⟨i, j, k⟩ := t
  obtain ⟨o1, o2, o3⟩ := ok
  simp only at o1 o2 o3 pm
  unfold nextN
  apply List.ext_getElem?
  intro x
  rw [List.getElem?_map, List.getElem?_map, List.length_map]
  by_cases hx : x < (ordR r).length
  · rw [List.getElem?_range hx, List.getElem?_eq_getElem hx]
    simp only [Option.map_some]
    congr 1
    have e1 : ((ordR r).map (valN r)).getD x 0 = valN r (ordR r)[x] := by
      rw [List.getD_eq_getElem?_getD, List.getElem?_map, List.getElem?_eq_getElem hx]; rfl
    have mem : (ordR r)[x] ∈ [i, j, k] ↔ x < 3 := by
      rw [pm.mem_iff]
      constructor
      · intro hm
        obtain ⟨y, hy, e⟩ := List.getElem_of_mem hm
        rw [List.length_take] at hy
        rw [List.getElem_take] at e
        refine Classical.byContradiction fun hn => ?_
        exact List.pairwise_iff_getElem.mp nd y x (by omega) hx (by omega) e
      · intro h3
        exact List.mem_take_iff_getElem.mpr ⟨x, by omega, rfl⟩
    rw [e1]
    unfold valN turnT
    simp only
    rw [turnR_getD (by omega) (by omega) (by omega) (by omega) (by omega) (by omega)]
    simp only [List.mem_cons, List.not_mem_nil, or_false] at mem
    by_cases h3 : x < 3
    · rw [if_pos (by omega), if_pos (by have := mem.mpr h3; omega)]; omega
    · rw [if_neg (by omega), if_neg (by have := fun h => h3 (mem.mp h); omega)]; omega
  · rw [List.getElem?_eq_none (by rw [List.length_range]; omega), List.getElem?_eq_none (by omega)]; rfl
theorem next_perm {r : List Int} (hl : 4 ≤ r.length) : (nextN ((ordR r).map (valN r)) (moreR r (g3 r).1 (g3 r).2.1 (g3 r).2.2)).Perm (turnT r (g3 r)).tail := by
  rw [next_eq hl, range_vals (turnT r (g3 r)), turnT_len]
  exact (ordR_perm r).map _
theorem perm_cons {r L : List Int} (h0 : L.getD 0 0 = r.getD 0 0) (h : L.tail.Perm r.tail) (hl : L.length = r.length) (hn : 0 < r.length) : L.Perm r := by
  cases L with
  | nil => simp at hl; omega
  | cons a L =>
    cases r with
    | nil => simp at hn
    | cons b r =>
      have e : a = b := h0
      subst e
      exact h.cons a
theorem minI_perm {r s : List Int} (h : r.Perm s) (hn : r ≠ []) : minI r = minI s := by
  have a := minI_mem hn
  have hs : s ≠ [] := fun e => by subst e; exact hn h.eq_nil
  have b := minI_mem hs
  exact Int.le_antisymm (a.2 _ (h.mem_iff.mpr b.1)) (b.2 _ (h.mem_iff.mp a.1))
theorem turn_bnd {M : Int} (hM : 0 ≤ M) {r : List Int} (hl : 4 ≤ r.length) (h : ∀ x ∈ r, -(3 * M) ≤ x ∧ x ≤ M) (c1 : goR r = true) : (-(3 * M) ≤ moreR r (g3 r).1 (g3 r).2.1 (g3 r).2.2 ∧ moreR r (g3 r).1 (g3 r).2.1 (g3 r).2.2 ≤ M) ∧ (moreR r (g3 r).1 (g3 r).2.1 (g3 r).2.2 < 0 → ∀ x ∈ turnT r (g3 r), -(3 * M) ≤ x ∧ x ≤ M) := by
  have ok := g3_ok hl
  generalize g3 r = t at *
  obtain ⟨i, j, k⟩ := t
  obtain ⟨o1, o2, o3⟩ := id ok
  simp only at o1 o2 o3
  have p := go_pos c1 (by omega)
  have q0 := p _ (getD_mem (show 0 < r.length by omega))
  have q0' := h _ (getD_mem (show 0 < r.length by omega))
  have q1 := h _ (getD_mem (show i + 1 < r.length by omega))
  have q2 := h _ (getD_mem (show j + 1 < r.length by omega))
  have q3 := h _ (getD_mem (show k + 1 < r.length by omega))
  have q1' := p _ (getD_mem (show i + 1 < r.length by omega))
  have q2' := p _ (getD_mem (show j + 1 < r.length by omega))
  have q3' := p _ (getD_mem (show k + 1 < r.length by omega))
  have em : moreR r i j k = r.getD 0 0 - r.getD (i + 1) 0 - r.getD (j + 1) 0 - r.getD (k + 1) 0 := rfl
  simp only
  refine ⟨by omega, fun ab x hx => ?_⟩
  obtain ⟨y, hy, rfl⟩ := mem_getD hx
  rw [turnT_len] at hy
  unfold turnT
  simp only
  rw [turnR_getD (by omega) (by omega) (by omega) (by omega) (by omega) (by omega)]
  have q4 := h _ (getD_mem hy)
  have q5 := p _ (getD_mem hy)
  split
  · omega
  · omega
theorem walk_step {m : Nat} {r : List Int} (h1 : goR r = true) (h2 : abvR r (g3 r) = true) (h3 : r.getD 0 0 ≤ m) (h4 : 0 < r.getD 0 0) : (walkF m r).2 = (walkF (m - 1) (turnT r (g3 r))).2 := by
  cases m with
  | zero => omega
  | succ m => rw [walkF_succ, h1, h2]; rfl
theorem ite_le1 (b : Bool) : (if b = true then (1 : Int) else 0).natAbs ≤ 1 := by cases b <;> decide
theorem sem__law_leads (ds : List D) (Q : W → Prop) (h : P__law_leads ds Q) : t__law_leads { nx := fun _ => Q (.dat .non), rt := fun w _ => Q w } (startR N__law_leads.length ds) := by
  obtain ⟨r, rfl, ⟨h1, h2, h3⟩, q⟩ := h
  unfold t__law_leads
  nofun
  refine w_while (fun m ρ => ∃ (L r' : List Int) (s1 s2 : Slot), ρ = [.dat (.tup (L.map D.int)), s1, s2, .un] ∧ r'.length = r.length ∧ L.length = r'.length ∧ L.getD 0 0 = r'.getD 0 0 ∧ L.tail.Perm r'.tail ∧ (walkF m r').2 = endR r ∧ r'.getD 0 0 ≤ m ∧ ∀ x ∈ r', -(3 * (10 : Int) ^ 100) ≤ x ∧ x ≤ 10 ^ 100) (r.getD 0 0).toNat ⟨r, r, _, _, rfl, rfl, rfl, rfl, .refl _, rfl, by omega, fun x hx => by have := h3 x hx; omega⟩ ?_
  rintro m ρ1 ⟨L, r', s1, s2, rfl, hl, hl2, h0, hp, hF, hm, hb⟩
  have fin : goR r' = false ∨ abvR r' (g3 r') = false → endR r = r' := fun c => by
    rw [← hF]
    cases m with
    | zero => rfl
    | succ m =>
      rw [walkF_succ, if_neg]
      rcases c with c | c <;> simp [c]
  have pe : isPtR L = isPtR r' := pt_perm h0 (perm_cons h0 hp hl2 (by omega))
  have em : minI L.tail = minI r'.tail := minI_perm hp (nn (by rw [List.length_tail]; omega))
  nofun
  by_cases c1 : 0 < r'.getD 0 0
  · refine w_t (by rw [decide_eq_true_iff]; show 0 < L.getD 0 0; omega) ?_
    nofun
    by_cases c2 : 0 ≤ minI r'.tail
    · refine w_t (by rw [decide_eq_true_iff, em]; exact c2) ?_
      have go : goR r' = true := decide_eq_true ⟨c2, c1⟩
      have tb := turn_bnd (by decide) (by omega) hb go
      nofun
      rw [← List.map_reverse]
      nofun
      refine w_slToL (n := 3) ?_
      rw [← List.map_take]
      nofun
      rw [nums_eq hp]
      have me := more_eq (r := r') (by omega)
      have mo : L.getD 0 0 - (((ordR r').map (valN r')).take 3).sum = moreR r' (g3 r').1 (g3 r').2.1 (g3 r').2.2 := by rw [h0]; exact me
      rw [show L.getD (Int.toNat 0) 0 - (((ordR r').map (valN r')).take 3).sum = moreR r' (g3 r').1 (g3 r').2.1 (g3 r').2.2 from mo]
      by_cases c3 : 0 ≤ moreR r' (g3 r').1 (g3 r').2.1 (g3 r').2.2
      · refine w_t (decide_eq_true c3) ?_
        nofun
        have e2 : isPtR (endR r) = false := by
          rw [fin (.inr (decide_eq_false (by omega)))]
          exact decide_eq_false fun h => by omega
        rw [e2] at q
        exact q
      · refine w_f (decide_eq_false c3) ?_
        have c4 : abvR r' (g3 r') = true := abvR_iff.mpr (by omega)
        have nx := next_perm (r := r') (by omega)
        have ne := next_eq (r := r') (by omega)
        have dg := turnT_deg (g3_ok (r := r') (by omega))
        have tl := turnT_len r' (g3 r')
        have ol : ((ordR r').map (valN r')).length = r'.length - 1 := by rw [List.length_map, ordR_len]
        generalize (ordR r').map (valN r') = ns at *
        have tb2 := tb.2 (by omega)
        generalize moreR r' (g3 r').1 (g3 r').2.1 (g3 r').2.2 = mr at *
        have mb : mr.natAbs < 2 ^ 1000 := Nat.lt_trans (show mr.natAbs < 10 ^ 102 by omega) (by decide +kernel)
        nofun
        refine w_rngI (by rw [List.length_map]; unfold BndI; omega) ?_
        nofun
        refine dcomp_all (fun k : Nat => D.int k) (fun k : Nat => .int (ns.getD k 0 + mr * (if (k : Int) < 3 then 1 else 0))) _ (fun k hk C hC => ?_) (sz (by simp; omega)) ?_
        · have hk : k < ns.length := by
            have := List.mem_range.mp hk
            rw [List.length_map] at this
            omega
          nofun
          refine hC _ _ rfl ?_ rfl
          simp only [decide_eq_true_eq]
          rfl
        nofun
        refine w_addT (by simp; omega) ?_
        nofun
        rw [List.length_map, show ((ns.length : Int)).toNat = ns.length by omega]
        rw [walk_step go c4 hm c1] at hF
        refine ⟨m - 1, by omega, (L.getD 0 0 + mr) :: nextN ns mr, turnT r' (g3 r'), .own (ns.map D.int), .dat (.int mr), ?_, by omega, ?_, ?_, nx, hF, by omega, tb2⟩
        · rw [List.map_cons]
          unfold nextN
          rw [List.map_map]
          rfl
        · unfold nextN
          rw [List.length_cons, List.length_map, List.length_range]; omega
        · rw [dg, ← h0]; rfl
    · refine w_f (by rw [decide_eq_false_iff_not, em]; exact c2) ?_
      nofun
      refine ⟨L, rfl, ⟨by omega, by omega⟩, ?_⟩
      rw [pe, show isPtR r' = isPtR (endR r) by rw [fin (.inl (decide_eq_false fun h => c2 h.1))]]
      nofun
      exact q
  · refine w_f (by rw [decide_eq_false_iff_not]; show ¬ 0 < L.getD 0 0; omega) ?_
    nofun
    refine ⟨L, rfl, ⟨by omega, by omega⟩, ?_⟩
    rw [pe, show isPtR r' = isPtR (endR r) by rw [fin (.inl (decide_eq_false fun h => c1 h.2))]]
    nofun
    exact q

end K82

set_option Elab.async false
set_option linter.all false
set_option maxRecDepth 100000
set_option maxHeartbeats 4000000
namespace K82
open PySem PySem.Spec PyProof.Rows L2 L3
def fr (r : List Int) : Fr := fun x => r.getD x 0
theorem fr_turn {r : List Int} {n i j k : Nat} (hl : r.length = n + 1) (h1 : i < j) (h2 : j < k) (h3 : k < n) : fr (turnR r i j k) = trn (fr r) (i + 1) (j + 1) (k + 1) := by
  funext x
  unfold fr
  rw [turnR_getD (by omega) (by omega) (by omega) (by omega) (by omega) (by omega)]
  rfl
theorem fr_swap {r : List Int} {n i j : Nat} (hl : r.length = n + 1) (h1 : i < j) (h2 : j < n) : fr (Mv.r r (.swap i j)) = swp (fr r) (1 + i) (1 + j) := by
  funext x
  unfold fr Mv.r swp tau
  rw [set_getD, set_getD, List.length_set]
  grind
theorem tri_of {n i j k : Nat} (h1 : i < j) (h2 : j < k) (h3 : k < n) : Tri n (i + 1) (j + 1) (k + 1) := ⟨by omega, by omega, by omega, by omega, by omega, by omega, by omega, by omega, by omega⟩
def Orb (n : Nat) (B : Fr → Prop) (r : List Int) : Prop := r.length = n + 1 ∧ U n B (fr r)
theorem Orb.mv {n : Nat} {d0 : Int} {B : Fr → Prop} (h : Std n d0 B) {r : List Int} (o : Orb n B r) {m : Mv} (hm : m.Ok n) : Orb n B (m.r r) := by
  refine ⟨by rw [mvr_len]; exact o.1, ?_⟩
  cases m with
  | swap i j =>
    obtain ⟨h1, h2⟩ := hm
    rw [fr_swap o.1 h1 h2]
    exact o.2.swap h (by omega) (by omega) (by omega) (by omega)
  | turn i j k =>
    obtain ⟨h1, h2, h3⟩ := hm
    show U n B (fr (turnR r i j k))
    rw [fr_turn o.1 h1 h2 h3]
    exact o.2.all h (tri_of h1 h2 h3)
theorem Orb.fold {n : Nat} {d0 : Int} {B : Fr → Prop} (h : Std n d0 B) : ∀ (ms : List Mv) (r : List Int), Orb n B r → (∀ m ∈ ms, m.Ok n) → Orb n B (ms.foldl Mv.r r)
  | [], r, o, _ => o
  | m :: ms, r, o, hm => Orb.fold h ms _ (o.mv h (hm m List.mem_cons_self)) fun m' h' => hm m' (List.mem_cons_of_mem _ h')
theorem Orb.turnT {n : Nat} {d0 : Int} {B : Fr → Prop} (h : Std n d0 B) {r : List Int} (o : Orb n B r) {t : Nat × Nat × Nat} (ht : MvOk n t) : Orb n B (turnT r t) := o.mv h (m := .turn t.1 t.2.1 t.2.2) ht
theorem Orb.walk {n : Nat} {d0 : Int} {B : Fr → Prop} (h : Std n d0 B) (hn : 3 ≤ n) : ∀ (f : Nat) (r : List Int), Orb n B r → Orb n B (walkF f r).2
  | 0, _, o => o
  | f + 1, r, o => by
    rw [walkF_succ]
    split
    · have ok := g3_ok (r := r) (by have := o.1; omega)
      rw [o.1] at ok
      exact Orb.walk h hn f _ (o.turnT h ok)
    · exact o
theorem g3_max {r : List Int} {n i j k : Nat} (hl : r.length = n + 1) (hn : 3 ≤ n) (hi : i < n) (hj : j < n) (hk : k < n) (ij : i ≠ j) (ik : i ≠ k) (jk : j ≠ k) : moreR r (g3 r).1 (g3 r).2.1 (g3 r).2.2 ≤ moreR r i j k := by
  rw [← more_eq (by omega)]
  have hs := ordR_srt r
  have hp := ordR_perm r
  have hlen : 3 ≤ (ordR r).length := by rw [ordR_len]; omega
  rw [hl] at hp
  match q : ordR r, hlen with
  | [], h => exact absurd h (by decide)
  | [_], h => exact absurd h (by simp)
  | [_, _], h => exact absurd h (by simp)
  | a :: b :: c :: l, _ =>
    rw [q] at hs hp
    simp only [List.map_cons, List.pairwise_cons, List.mem_cons] at hs
    have v1 : valN r b ≤ valN r a := hs.1 _ (Or.inl rfl)
    have v2 : valN r c ≤ valN r b := hs.2.1 _ (Or.inl rfl)
    have key : ∀ p, p < n → (p = a ∧ valN r p = valN r a) ∨ (p = b ∧ valN r p = valN r b) ∨ (p = c ∧ valN r p = valN r c) ∨ valN r p ≤ valN r c := fun p h => by
      have := hp.mem_iff.mpr (List.mem_range.mpr h)
      simp only [List.mem_cons] at this
      rcases this with rfl | rfl | rfl | h
      · exact .inl ⟨rfl, rfl⟩
      · exact .inr (.inl ⟨rfl, rfl⟩)
      · exact .inr (.inr (.inl ⟨rfl, rfl⟩))
      · exact .inr (.inr (.inr (hs.2.2.1 _ (List.mem_map.mpr ⟨p, h, rfl⟩))))
    have ki := key i hi
    have kj := key j hj
    have kk := key k hk
    have e : moreR r i j k = r.getD 0 0 - valN r i - valN r j - valN r k := by unfold moreR valN; simp only [Nat.add_comm 1]
    rw [e]
    simp only [List.map_cons, List.take_succ_cons, List.take_zero, List.sum_cons, List.sum_nil]
    omega
def B1 (n : Nat) : Fr → Prop := fun r => ∃ p, 0 < p ∧ p ≤ n ∧ r = fun x => if x = p then -1 else 0
theorem std1 (n : Nat) : Std n 0 (B1 n) where
  mor := by
    rintro r ⟨p, p0, p1, rfl⟩ i j k t
    have := t.ij; have := t.ik; have := t.jk
    unfold K82.mor
    simp only
    rw [if_neg (by omega)]
    grind
  swp := by
    rintro r ⟨p, p0, p1, rfl⟩ a b ha hb ha' hb'
    refine ⟨tau a b p, tau_pos ha hb p0, tau_le ha' hb' p1, ?_⟩
    funext x
    unfold K82.swp
    simp only [tau_iff]
  deg := by
    rintro r ⟨p, p0, p1, rfl⟩
    simp only
    rw [if_neg (by omega)]
    exact Int.le_refl _
theorem U.pos1 {n : Nat} {r : Fr} (u : U n (B1 n) r) : B1 n r ∨ (0 < r 0 ∧ ∀ x, 0 ≤ r x) := by
  induction u with
  | base h => exact .inl h
  | @up r i j k u t m ih =>
    refine .inr ?_
    rcases ih with ⟨p, p0, p1, rfl⟩ | ⟨h0, hx⟩
    · unfold trn mor at *
      obtain ⟨h1, h2, h3, h4, h5, h6, h7, h8, h9⟩ := t
      constructor
      · grind
      · intro x; grind
    · constructor
      · rw [trn_zero]; omega
      · intro x
        unfold trn
        have := hx x
        split <;> omega
theorem pt_of_B1 {n : Nat} {r : List Int} (hl : r.length = n + 1) (h : B1 n (fr r)) : isPtR r = true := by
  obtain ⟨p, p0, p1, e⟩ := h
  have g : ∀ x, r.getD x 0 = if x = p then -1 else 0 := fun x => congrFun e x
  have hr : r = List.replicate p 0 ++ ([-1] ++ List.replicate (n - p) 0) := by
    apply List.ext_getElem
    · simp; omega
    · intro x h1 h2
      have := g x
      rw [List.getD_eq_getElem?_getD, List.getElem?_eq_getElem h1] at this
      simp only [Option.getD_some] at this
      rw [this]
      by_cases c : x < p
      · rw [List.getElem_append_left (by simpa using c), List.getElem_replicate, if_neg (by omega)]
      · rw [List.getElem_append_right (by simpa using c)]
        simp only [List.length_replicate]
        by_cases c2 : x = p
        · subst c2
          simp
        · rw [List.getElem_append_right (by simp; omega), List.getElem_replicate, if_neg c2]
  refine (isPt_iff (nn (by omega))).mp ⟨by rw [g, if_neg (by omega)], ?_, ?_, ?_⟩
  · refine minI_eq (by rw [hr]; simp) fun y hy => ?_
    obtain ⟨i, _, rfl⟩ := mem_getD hy
    rw [g]; split <;> omega
  · rw [hr, List.sum_append, List.sum_append]
    have : ∀ n, (List.replicate n (0 : Int)).sum = 0 := fun n => by induction n <;> simp_all [List.replicate_succ]
    rw [this, this]; rfl
  · refine maxI_eq (by rw [hr]; exact List.mem_append_left _ (List.mem_replicate.mpr ⟨by omega, rfl⟩)) fun y hy => ?_
    obtain ⟨i, _, rfl⟩ := mem_getD hy
    rw [g]; split <;> omega
theorem walk_led {n : Nat} (hn : 3 ≤ n) : ∀ (f : Nat) (r : List Int), Orb n (B1 n) r → r.getD 0 0 ≤ f → isPtR (walkF f r).2 = true := by
  intro f
  induction f with
  | zero =>
    intro r o hf
    rcases o.2.pos1 with h | ⟨h, _⟩
    · exact pt_of_B1 o.1 h
    · have h : 0 < r.getD 0 0 := h
      omega
  | succ f ih =>
    intro r o hf
    rw [walkF_succ]
    rcases o.2.pos1 with h | ⟨h, hx⟩
    · obtain ⟨p, p0, p1, e⟩ := id h
      have e0 : r.getD 0 0 = 0 := (congrFun e 0).trans (if_neg (by omega))
      have : goR r = false := decide_eq_false fun q => by omega
      rw [this, Bool.false_and, if_neg Bool.false_ne_true]
      exact pt_of_B1 o.1 h
    · have h : 0 < r.getD 0 0 := h
      have g : goR r = true := by
        refine decide_eq_true ⟨?_, h⟩
        have := (minI_mem (l := r.tail) (nn (by rw [List.length_tail, o.1]; omega))).1
        obtain ⟨i, _, e⟩ := mem_getD this
        rw [tail_getD] at e
        rw [← e]
        exact hx (i + 1)
      have ok := g3_ok (r := r) (by have := o.1; omega)
      rw [o.1] at ok
      have ab : moreR r (g3 r).1 (g3 r).2.1 (g3 r).2.2 < 0 := by
        rcases o.2.low with ⟨p, p0, p1, e⟩ | ⟨i, j, k, t, hm⟩
        · have e0 : r.getD 0 0 = 0 := (congrFun e 0).trans (if_neg (by omega))
          omega
        · obtain ⟨h1, h2, h3, h4, h5, h6, h7, h8, h9⟩ := t
          have := g3_max (i := i - 1) (j := j - 1) (k := k - 1) o.1 hn (by omega) (by omega) (by omega) (by omega) (by omega) (by omega)
          have e : moreR r (i - 1) (j - 1) (k - 1) = mor (fr r) i j k := by
            unfold moreR mor fr
            rw [show i - 1 + 1 = i by omega, show j - 1 + 1 = j by omega, show k - 1 + 1 = k by omega]
          omega
      rw [g, Bool.true_and, if_pos (abvR_iff.mpr ab)]
      refine ih _ (o.turnT (std1 n) ok) ?_
      rw [turnT_deg (by rw [o.1]; exact ok)]
      omega
end K82

set_option Elab.async false
set_option linter.all false
set_option maxRecDepth 100000
set_option maxHeartbeats 4000000
namespace K82
open PySem PySem.Spec PyProof.Rows L2 L3
theorem ipow_le {b : Int} (hb : 1 ≤ b) {m n : Nat} (h : m ≤ n) : b ^ m ≤ b ^ n := by
  induction h with
  | refl => exact Int.le_refl _
  | @step k _ ih =>
    rw [Int.pow_succ]
    have h0 : 0 ≤ b ^ k := Int.pow_nonneg (by omega)
    have := Int.mul_le_mul_of_nonneg_left hb h0
    omega
theorem mv_bnd {M : Int} {n : Nat} {r : List Int} (hl : r.length = n + 1) (h : ∀ x ∈ r, -M ≤ x ∧ x ≤ M) (hM : 0 ≤ M) (m : Mv) (hm : m.Ok n) : ∀ x ∈ m.r r, -(5 * M) ≤ x ∧ x ≤ 5 * M := by
  have g : ∀ i, -M ≤ r.getD i 0 ∧ r.getD i 0 ≤ M := fun i => by
    by_cases hi : i < r.length
    · exact h _ (getD_mem hi)
    · rw [List.getD_eq_getElem?_getD, List.getElem?_eq_none (by omega)]
      show -M ≤ 0 ∧ 0 ≤ M
      omega
  intro x hx
  obtain ⟨y, _, rfl⟩ := mem_getD hx
  have c := g y
  cases m with
  | swap i j =>
    unfold Mv.r
    simp only
    rw [set_getD, set_getD]
    have a := g (1 + i)
    have b := g (1 + j)
    split
    · omega
    · split <;> omega
  | turn i j k =>
    obtain ⟨h1, h2, h3⟩ := hm
    have a := g 0
    have b := g (i + 1)
    have d := g (j + 1)
    have e := g (k + 1)
    have hm : moreR r i j k = r.getD 0 0 - r.getD (i + 1) 0 - r.getD (j + 1) 0 - r.getD (k + 1) 0 := rfl
    show -(5 * M) ≤ (turnR r i j k).getD y 0 ∧ (turnR r i j k).getD y 0 ≤ 5 * M
    rw [turnR_getD (by omega) (by omega) (by omega) (by omega) (by omega) (by omega)]
    split <;> omega
theorem fold_bnd {n : Nat} : ∀ (ms : List Mv) (M : Int) (r : List Int), r.length = n + 1 → (∀ x ∈ r, -M ≤ x ∧ x ≤ M) → 0 ≤ M → (∀ m ∈ ms, m.Ok n) → ∀ x ∈ ms.foldl Mv.r r, -(5 ^ ms.length * M) ≤ x ∧ x ≤ 5 ^ ms.length * M
  | [], M, r, _, h, _, _ => by simpa using h
  | m :: ms, M, r, hl, h, hM, hm => by
    intro x hx
    have := fold_bnd ms (5 * M) (m.r r) (by rw [mvr_len]; exact hl) (mv_bnd hl h hM m (hm m List.mem_cons_self)) (by omega) (fun m' h' => hm m' (List.mem_cons_of_mem _ h')) x hx
    rw [List.length_cons, Int.pow_succ, Int.mul_assoc]
    exact this
theorem fold_small {n : Nat} {ms : List Mv} {r : List Int} (hl : r.length = n + 1) (h : ∀ x ∈ r, -5 ≤ x ∧ x ≤ 5) (hk : ms.length ≤ 10) (hm : ∀ m ∈ ms, m.Ok n) : ∀ x ∈ ms.foldl Mv.r r, x.natAbs < 10 ^ 40 := by
  intro x hx
  have a := fold_bnd ms 5 r hl h (by decide) hm x hx
  have b : (5 : Int) ^ ms.length ≤ 5 ^ 10 := ipow_le (by decide) hk
  have c : (5 : Int) ^ 10 = 9765625 := by decide
  omega
theorem up50 {x : Int} (h : x.natAbs < 10 ^ 40) : x.natAbs < 10 ^ 50 := by omega
theorem fold_len : ∀ (ms : List Mv) (r : List Int), (ms.foldl Mv.r r).length = r.length
  | [], _ => rfl
  | m :: ms, r => (fold_len ms _).trans (mvr_len r m)
theorem mv_deg {n : Nat} {r : List Int} (hl : r.length = n + 1) (m : Mv) (hm : m.Ok n) : (m.r r).getD 0 0 = r.getD 0 0 ∨ ∃ i j k, i < j ∧ j < k ∧ k < n ∧ (m.r r).getD 0 0 = r.getD 0 0 + moreR r i j k := by
  cases m with
  | swap i j =>
    left
    unfold Mv.r
    simp only
    rw [set_getD, set_getD, if_neg (by omega), if_neg (by omega)]
  | turn i j k =>
    obtain ⟨h1, h2, h3⟩ := hm
    refine .inr ⟨i, j, k, h1, h2, h3, ?_⟩
    show (turnR r i j k).getD 0 0 = _
    rw [turnR_getD (by omega) (by omega) (by omega) (by omega) (by omega) (by omega), if_pos (Or.inl rfl)]
theorem deg1_fold {n : Nat} : ∀ (ms : List Mv) (K : Int) (r : List Int), Orb n (B1 n) r → 1 ≤ K → r.getD 0 0 ≤ K → (∀ m ∈ ms, m.Ok n) → (ms.foldl Mv.r r).getD 0 0 ≤ 2 ^ ms.length * K
  | [], K, r, _, _, h, _ => by simpa using h
  | m :: ms, K, r, o, hK, h, hm => by
    have hm0 := hm m List.mem_cons_self
    have := deg1_fold ms (2 * K) (m.r r) (o.mv (std1 n) hm0) (by omega) (by
      rcases mv_deg o.1 m hm0 with e | ⟨i, j, k, h1, h2, h3, e⟩
      · omega
      · rw [e]
        have em : moreR r i j k = r.getD 0 0 - r.getD (i + 1) 0 - r.getD (j + 1) 0 - r.getD (k + 1) 0 := rfl
        rcases o.2.pos1 with ⟨p, p0, p1, f⟩ | ⟨g0, gx⟩
        · have f0 : r.getD 0 0 = 0 := (congrFun f 0).trans (if_neg (by omega))
          have fi : r.getD (i + 1) 0 = if i + 1 = p then -1 else 0 := congrFun f (i + 1)
          have fj : r.getD (j + 1) 0 = if j + 1 = p then -1 else 0 := congrFun f (j + 1)
          have fk : r.getD (k + 1) 0 = if k + 1 = p then -1 else 0 := congrFun f (k + 1)
          rw [em, f0, fi, fj, fk]
          split <;> split <;> split <;> omega
        · have a : 0 ≤ r.getD (i + 1) 0 := gx (i + 1)
          have b : 0 ≤ r.getD (j + 1) 0 := gx (j + 1)
          have c : 0 ≤ r.getD (k + 1) 0 := gx (k + 1)
          omega) (fun m' h' => hm m' (List.mem_cons_of_mem _ h'))
    rw [List.length_cons, Int.pow_succ, Int.mul_assoc]
    exact this
/-- the row of a point -/
theorem ptR_orb {n : Nat} {k : Int} (h0 : 0 ≤ k) (h1 : k < n) : Orb n (B1 n) (ptR n k) := by
  refine ⟨by simp [ptR], .base ⟨k.toNat + 1, by omega, by omega, ?_⟩⟩
  funext x
  unfold fr ptR
  cases x with
  | zero => simp
  | succ x =>
    rw [List.getD_cons_succ, List.getD_eq_getElem?_getD, List.getElem?_map]
    by_cases hx : x < n
    · rw [List.getElem?_range hx]
      simp only [Option.map_some, Option.getD_some]
      by_cases e : (x : Int) = k
      · rw [if_pos e, if_pos (by omega)]
      · rw [if_neg e, if_neg (by omega)]
    · rw [List.getElem?_eq_none (by rw [List.length_range]; omega)]
      simp only [Option.map_none, Option.getD_none]
      rw [if_neg (by omega)]
theorem ptR_mem {n : Nat} {k : Int} : ∀ x ∈ ptR n k, -5 ≤ x ∧ x ≤ 5 := by
  intro x hx
  unfold ptR at hx
  rcases List.mem_cons.mp hx with rfl | hx
  · decide
  · obtain ⟨i, _, rfl⟩ := List.mem_map.mp hx
    split <;> decide
theorem point_good {n : Nat} {k : Int} {ms : List Mv} (hn : 10 ≤ n) (hn2 : n ≤ 16) (h0 : 0 ≤ k) (h1 : k < n) (hk : ms.length ≤ 10) (hm : ∀ m ∈ ms, m.Ok n) : SmallR (ms.foldl Mv.r (ptR n k)) ∧ isPtR (endR (ms.foldl Mv.r (ptR n k))) = true ∧ (ms.foldl Mv.r (ptR n k)).getD 0 0 ≤ 1024 ∧ ∀ x ∈ ms.foldl Mv.r (ptR n k), x.natAbs < 10 ^ 40 := by
  have o := ptR_orb h0 h1
  have of := Orb.fold (std1 n) ms _ o hm
  have d := deg1_fold ms 1 _ o (by decide) (by show (0 : Int) ≤ 1; decide) hm
  have b : (2 : Int) ^ ms.length ≤ 2 ^ 10 := ipow_le (by decide) hk
  have c : (2 : Int) ^ 10 = 1024 := by decide
  refine ⟨⟨by rw [of.1]; omega, by rw [of.1]; omega, by omega, fun x hx => up50 (fold_small o.1 ptR_mem hk hm x hx)⟩, walk_led (by omega) _ _ of (by omega), by omega, fold_small o.1 ptR_mem hk hm⟩
def B2 : Fr → Prop := fun r => r 0 = 3 ∧ ∀ x, 0 < x → -1 ≤ r x ∧ r x ≤ 1
theorem std2 (n : Nat) : Std n 3 B2 where
  mor := by
    rintro r ⟨h0, h⟩ i j k t
    have a := h i t.i0
    have b := h j t.j0
    have c := h k t.k0
    unfold K82.mor
    omega
  swp := by
    rintro r ⟨h0, h⟩ a b ha hb ha' hb'
    refine ⟨by unfold K82.swp; rw [tau_zero ha hb]; exact h0, fun x hx => h _ (tau_pos ha hb hx)⟩
  deg := fun r h => by rw [h.1]; exact Int.le_refl _
theorem U.low2 {n : Nat} {r : Fr} (u : U n B2 r) : ∀ x, 0 < x → -1 ≤ r x := by
  induction u with
  | base h => exact fun x hx => (h.2 x hx).1
  | @up r i j k u t m ih =>
    intro x hx
    have := ih x hx
    unfold trn
    split <;> omega
theorem deg2_fold {n : Nat} : ∀ (ms : List Mv) (K : Int) (r : List Int), Orb n B2 r → r.getD 0 0 + 3 ≤ K → (∀ m ∈ ms, m.Ok n) → (ms.foldl Mv.r r).getD 0 0 + 3 ≤ 2 ^ ms.length * K
  | [], K, r, _, h, _ => by simpa using h
  | m :: ms, K, r, o, h, hm => by
    have hm0 := hm m List.mem_cons_self
    have hd : 3 ≤ r.getD 0 0 := o.2.deg (std2 n)
    have := deg2_fold ms (2 * K) (m.r r) (o.mv (std2 n) hm0) (by
      rcases mv_deg o.1 m hm0 with e | ⟨i, j, k, h1, h2, h3, e⟩
      · omega
      · rw [e]
        have em : moreR r i j k = r.getD 0 0 - r.getD (i + 1) 0 - r.getD (j + 1) 0 - r.getD (k + 1) 0 := rfl
        have a : -1 ≤ r.getD (i + 1) 0 := o.2.low2 (i + 1) (by omega)
        have b : -1 ≤ r.getD (j + 1) 0 := o.2.low2 (j + 1) (by omega)
        have c : -1 ≤ r.getD (k + 1) 0 := o.2.low2 (k + 1) (by omega)
        omega) (fun m' h' => hm m' (List.mem_cons_of_mem _ h'))
    rw [List.length_cons, Int.pow_succ, Int.mul_assoc]
    exact this
theorem not_pt {r : List Int} (h : r.getD 0 0 ≠ 0) : isPtR r = false := decide_eq_false fun q => h q.1
theorem orb2_bad {n : Nat} (hn : 3 ≤ n) {r : List Int} (o : Orb n B2 r) : isPtR (endR r) = false := by
  have := (Orb.walk (std2 n) hn (r.getD 0 0).toNat r o).2.deg (std2 n)
  exact not_pt (by have h : 3 ≤ (endR r).getD 0 0 := this; omega)
theorem neg_bad {r : List Int} (h : r.getD 0 0 < 0) : isPtR (endR r) = false := by
  unfold endR
  rw [show (r.getD 0 0).toNat = 0 by omega]
  exact not_pt (by show r.getD 0 0 ≠ 0; omega)
def negR (r : List Int) : List Int := r.map fun x => -x
theorem negR_getD (r : List Int) (i : Nat) : (negR r).getD i 0 = - r.getD i 0 := by
  unfold negR
  rw [List.getD_eq_getElem?_getD, List.getD_eq_getElem?_getD, List.getElem?_map]
  cases r[i]? <;> rfl
theorem negR_set (r : List Int) (i : Nat) (a : Int) : negR (r.set i a) = (negR r).set i (-a) := by
  unfold negR
  rw [List.map_set]
theorem negR_add (c : Int) (r : List Int) (p : Nat) : negR (addAt c r p) = addAt (-c) (negR r) p := by
  unfold addAt
  rw [negR_set, negR_getD]
  congr 1
  omega
theorem negR_mv (r : List Int) (m : Mv) : negR (m.r r) = m.r (negR r) := by
  cases m with
  | swap i j =>
    unfold Mv.r
    simp only
    rw [negR_set, negR_set, negR_getD, negR_getD]
  | turn i j k =>
    show negR (turnR r i j k) = turnR (negR r) i j k
    unfold turnR
    simp only [List.foldl_cons, List.foldl_nil]
    rw [negR_add, negR_add, negR_add, negR_add]
    have : -moreR r i j k = moreR (negR r) i j k := by
      unfold moreR
      rw [negR_getD, negR_getD, negR_getD, negR_getD]
      omega
    rw [this]
theorem negR_fold : ∀ (ms : List Mv) (r : List Int), negR (ms.foldl Mv.r r) = ms.foldl Mv.r (negR r)
  | [], _ => rfl
  | m :: ms, r => by
    show negR (ms.foldl Mv.r (m.r r)) = ms.foldl Mv.r (m.r (negR r))
    rw [negR_fold ms, negR_mv]
/-- a list whose entries behind the first lie in -1 .. 1 -/
theorem b2_of {r : List Int} (h0 : r.getD 0 0 = 3) (h : ∀ x ∈ r.tail, -1 ≤ x ∧ x ≤ 1) : B2 (fr r) := by
  refine ⟨h0, fun x hx => ?_⟩
  unfold fr
  rw [show x = (x - 1) + 1 by omega, ← tail_getD]
  by_cases hi : x - 1 < r.tail.length
  · exact h _ (getD_mem hi)
  · rw [List.getD_eq_getElem?_getD, List.getElem?_eq_none (by omega)]
    exact ⟨by decide, by decide⟩
theorem false_orb {n : Nat} (hn : 10 ≤ n) (hn2 : n ≤ 16) {one : List Int} (h : one ∈ falseR n) : one.length = n + 1 ∧ (∀ x ∈ one, -5 ≤ x ∧ x ≤ 5) ∧ one.getD 0 0 ≤ 5 ∧ (Orb n B2 one ∨ Orb n B2 (negR one)) := by
  have hh : n = 10 ∨ n = 11 ∨ n = 12 ∨ n = 13 ∨ n = 14 ∨ n = 15 ∨ n = 16 := by omega
  unfold falseR at h
  simp only [List.mem_cons, List.not_mem_nil, or_false] at h
  rcases h with rfl | rfl | rfl
  · have o : Orb n B2 ([3, 1, 1, -1] ++ List.replicate 7 1 ++ List.replicate (n - 10) 0) := by
      refine ⟨by simp; omega, .base (b2_of rfl ?_)⟩
      rcases hh with rfl | rfl | rfl | rfl | rfl | rfl | rfl <;> decide
    have o2 := o.turnT (std2 n) (t := (0, 1, 2)) ⟨by decide, by decide, by show 2 < n; omega⟩
    refine ⟨by simp; omega, ?_, by show (5 : Int) ≤ 5; decide, .inl ?_⟩
    · rcases hh with rfl | rfl | rfl | rfl | rfl | rfl | rfl <;> decide
    · rcases hh with rfl | rfl | rfl | rfl | rfl | rfl | rfl <;> exact o2
  · refine ⟨by simp; omega, ?_, by show (3 : Int) ≤ 5; decide, .inl ⟨by simp; omega, .base (b2_of rfl ?_)⟩⟩
    · rcases hh with rfl | rfl | rfl | rfl | rfl | rfl | rfl <;> decide
    · rcases hh with rfl | rfl | rfl | rfl | rfl | rfl | rfl <;> decide
  · refine ⟨by simp; omega, ?_, by show (-3 : Int) ≤ 5; decide, .inr ⟨by simp [negR]; omega, .base (b2_of rfl ?_)⟩⟩
    · rcases hh with rfl | rfl | rfl | rfl | rfl | rfl | rfl <;> decide
    · rcases hh with rfl | rfl | rfl | rfl | rfl | rfl | rfl <;> decide
theorem false_good {n : Nat} {ms : List Mv} (hn : 10 ≤ n) (hn2 : n ≤ 16) {one : List Int} (h : one ∈ falseR n) (hk : ms.length ≤ 5) (hm : ∀ m ∈ ms, m.Ok n) : SmallR (ms.foldl Mv.r one) ∧ isPtR (endR (ms.foldl Mv.r one)) = false := by
  obtain ⟨h1, h2, h3, h4⟩ := false_orb hn hn2 h
  have hs : ∀ x ∈ ms.foldl Mv.r one, x.natAbs < 10 ^ 50 := fun x hx => up50 (fold_small h1 h2 (Nat.le_trans hk (by decide)) hm x hx)
  have hl := fold_len ms one
  rcases h4 with o | o
  · have of := Orb.fold (std2 n) ms _ o hm
    have d := deg2_fold ms 8 _ o (by omega) hm
    have b : (2 : Int) ^ ms.length ≤ 2 ^ 5 := ipow_le (by decide) hk
    have c : (2 : Int) ^ 5 = 32 := by decide
    exact ⟨⟨by omega, by omega, by omega, hs⟩, orb2_bad (by omega) of⟩
  · have of := Orb.fold (std2 n) ms _ o hm
    rw [← negR_fold] at of
    have d : 3 ≤ (negR (ms.foldl Mv.r one)).getD 0 0 := of.2.deg (std2 n)
    rw [negR_getD] at d
    exact ⟨⟨by omega, by omega, by omega, hs⟩, neg_bad (by omega)⟩
def dot (r s : List Int) : Int := (List.zipWith (· * ·) r s).sum
theorem dot_comm : ∀ r s : List Int, dot r s = dot s r
  | [], [] => rfl
  | [], _ :: _ => rfl
  | _ :: _, [] => rfl
  | a :: r, b :: s => by
    show a * b + _ = b * a + _
    have := dot_comm r s
    unfold dot at this
    rw [Int.mul_comm]
    show b * a + (List.zipWith (· * ·) r s).sum = b * a + (List.zipWith (· * ·) s r).sum
    rw [this]
theorem dot_set : ∀ (r s : List Int) (p : Nat) (c : Int), p < r.length → dot (r.set p (r.getD p 0 + c)) s = dot r s + c * s.getD p 0
  | [], _, _, _, h => absurd h (Nat.not_lt_zero _)
  | a :: r, [], p, c, _ => by
    have : ∀ l : List Int, dot l [] = 0 := fun l => by cases l <;> rfl
    rw [this, this]
    simp
  | a :: r, b :: s, 0, c, _ => by
    show (a + c) * b + dot r s = (a * b + dot r s) + c * b
    rw [Int.add_mul]; omega
  | a :: r, b :: s, p + 1, c, h => by
    have := dot_set r s p c (Nat.lt_of_succ_lt_succ h)
    show a * b + dot (r.set p (r.getD p 0 + c)) s = (a * b + dot r s) + c * s.getD p 0
    rw [this]; omega
theorem prod_dot {r s : List Int} (hr : 0 < r.length) (hs : 0 < s.length) : prodR r s = 2 * (r.getD 0 0 * s.getD 0 0) - dot r s := by
  cases r with
  | nil => cases hr
  | cons a r =>
    cases s with
    | nil => cases hs
    | cons b s =>
      show a * b - (List.zipWith (· * ·) r s).sum = 2 * (a * b) - (a * b + (List.zipWith (· * ·) r s).sum)
      omega
theorem dot_add (r s : List Int) (p : Nat) (c : Int) (h : p < r.length) : dot (addAt c r p) s = dot r s + c * s.getD p 0 := dot_set r s p c h
theorem dot_turn {r : List Int} {i j k : Nat} (s : List Int) (h1 : i < j) (h2 : j < k) (h3 : k + 1 < r.length) : dot (turnR r i j k) s = dot r s + moreR r i j k * (s.getD 0 0 + s.getD (i + 1) 0 + s.getD (j + 1) 0 + s.getD (k + 1) 0) := by
  unfold turnR
  simp only [List.foldl_cons, List.foldl_nil]
  rw [dot_add _ _ _ _ (by simp only [addAt_len]; omega), dot_add _ _ _ _ (by simp only [addAt_len]; omega), dot_add _ _ _ _ (by simp only [addAt_len]; omega), dot_add _ _ _ _ (by omega)]
  generalize moreR r i j k = c
  grind
theorem prod_mv {n : Nat} {r s : List Int} (hr : r.length = n + 1) (hs : s.length = n + 1) (m : Mv) (hm : m.Ok n) : prodR (m.r r) (m.r s) = prodR r s := by
  rw [prod_dot (by rw [mvr_len]; omega) (by rw [mvr_len]; omega), prod_dot (by omega) (by omega)]
  cases m with
  | swap i j =>
    obtain ⟨h1, h2⟩ := hm
    have e : ∀ t : List Int, t.length = n + 1 → Mv.r t (.swap i j) = addAt (t.getD (1 + i) 0 - t.getD (1 + j) 0) (addAt (t.getD (1 + j) 0 - t.getD (1 + i) 0) t (1 + i)) (1 + j) := fun t ht => by
      unfold Mv.r addAt
      simp only
      rw [set_getD, if_neg (by omega), show t.getD (1 + i) 0 + (t.getD (1 + j) 0 - t.getD (1 + i) 0) = t.getD (1 + j) 0 by omega, show t.getD (1 + j) 0 + (t.getD (1 + i) 0 - t.getD (1 + j) 0) = t.getD (1 + i) 0 by omega]
    have g : ∀ t : List Int, t.length = n + 1 → ∀ x, (Mv.r t (.swap i j)).getD x 0 = if x = 1 + j then t.getD (1 + i) 0 else if x = 1 + i then t.getD (1 + j) 0 else t.getD x 0 := fun t ht x => by
      unfold Mv.r
      simp only
      rw [set_getD, set_getD, List.length_set]
      grind
    rw [g r hr 0, g s hs 0, if_neg (by omega), if_neg (by omega), if_neg (by omega), if_neg (by omega)]
    rw [e r hr, dot_add _ _ _ _ (by simp only [addAt_len]; omega), dot_add _ _ _ _ (by omega)]
    rw [g s hs (1 + i), g s hs (1 + j), if_pos rfl, if_neg (by omega), if_pos rfl]
    rw [dot_comm r, e s hs, dot_add _ _ _ _ (by simp only [addAt_len]; omega), dot_add _ _ _ _ (by omega), dot_comm s]
    grind
  | turn i j k =>
    obtain ⟨h1, h2, h3⟩ := hm
    show 2 * ((turnR r i j k).getD 0 0 * (turnR s i j k).getD 0 0) - dot (turnR r i j k) (turnR s i j k) = _
    have g : ∀ t : List Int, t.length = n + 1 → ∀ x, (turnR t i j k).getD x 0 = if x = 0 ∨ x = i + 1 ∨ x = j + 1 ∨ x = k + 1 then t.getD x 0 + moreR t i j k else t.getD x 0 := fun t ht x => turnR_getD (by omega) (by omega) (by omega) (by omega) (by omega) (by omega) x
    rw [dot_turn _ h1 h2 (by omega), dot_comm r, dot_turn _ h1 h2 (by omega), dot_comm s]
    rw [g r hr 0, g s hs 0, g s hs (i + 1), g s hs (j + 1), g s hs (k + 1), if_pos (Or.inl rfl), if_pos (Or.inl rfl), if_pos (Or.inr (Or.inl rfl)), if_pos (Or.inr (Or.inr (Or.inl rfl))), if_pos (Or.inr (Or.inr (Or.inr rfl)))]
    have er : moreR r i j k = r.getD 0 0 - r.getD (i + 1) 0 - r.getD (j + 1) 0 - r.getD (k + 1) 0 := rfl
    have es : moreR s i j k = s.getD 0 0 - s.getD (i + 1) 0 - s.getD (j + 1) 0 - s.getD (k + 1) 0 := rfl
    grind
theorem prod_fold {n : Nat} : ∀ (ms : List Mv) (r s : List Int), r.length = n + 1 → s.length = n + 1 → (∀ m ∈ ms, m.Ok n) → prodR (ms.foldl Mv.r r) (ms.foldl Mv.r s) = prodR r s
  | [], _, _, _, _, _ => rfl
  | m :: ms, r, s, hr, hs, hm => (prod_fold ms _ _ (by rw [mvr_len]; exact hr) (by rw [mvr_len]; exact hs) fun m' h' => hm m' (List.mem_cons_of_mem _ h')).trans (prod_mv hr hs m (hm m List.mem_cons_self))
theorem cubic_mv {n : Nat} (m : Mv) (hm : m.Ok n) : m.r (cubicR n) = cubicR n := by
  have g : ∀ x, (cubicR n).getD x 0 = if x = 0 then 3 else if x ≤ n then 1 else 0 := fun x => by
    unfold cubicR
    cases x with
    | zero => rfl
    | succ x =>
      rw [List.getD_cons_succ, List.getD_eq_getElem?_getD, List.getElem?_replicate]
      by_cases h : x < n
      · rw [if_pos h, if_neg (by omega), if_pos (by omega)]; rfl
      · rw [if_neg h, if_neg (by omega), if_neg (by omega)]; rfl
  have l : (cubicR n).length = n + 1 := by simp [cubicR]
  have ext : ∀ t : List Int, t.length = n + 1 → (∀ x, t.getD x 0 = (cubicR n).getD x 0) → t = cubicR n := fun t ht h => by
    apply List.ext_getElem (by omega)
    intro i h1 h2
    have := h i
    rw [List.getD_eq_getElem?_getD, List.getElem?_eq_getElem h1, List.getD_eq_getElem?_getD, List.getElem?_eq_getElem h2] at this
    exact this
  refine ext _ (by rw [mvr_len, l]) fun x => ?_
  cases m with
  | swap i j =>
    obtain ⟨h1, h2⟩ := hm
    unfold Mv.r
    simp only
    rw [set_getD, set_getD, List.length_set, l, g, g, g]
    grind
  | turn i j k =>
    obtain ⟨h1, h2, h3⟩ := hm
    show (turnR (cubicR n) i j k).getD x 0 = _
    rw [turnR_getD (by omega) (by omega) (by omega) (by omega) (by omega) (by omega)]
    have : moreR (cubicR n) i j k = 0 := by
      have g0 := g 0
      have gi := g (i + 1)
      have gj := g (j + 1)
      have gk := g (k + 1)
      rw [if_pos rfl] at g0
      rw [if_neg (by omega), if_pos (by omega)] at gi gj gk
      unfold moreR
      omega
    rw [this]
    split <;> omega
theorem cubic_fold {n : Nat} : ∀ (ms : List Mv), (∀ m ∈ ms, m.Ok n) → ms.foldl Mv.r (cubicR n) = cubicR n
  | [], _ => rfl
  | m :: ms, hm => by
    show ms.foldl Mv.r (m.r (cubicR n)) = cubicR n
    rw [cubic_mv m (hm m List.mem_cons_self)]
    exact cubic_fold ms fun m' h' => hm m' (List.mem_cons_of_mem _ h')
theorem false_prod {n : Nat} {ms : List Mv} (hn : 10 ≤ n) (hn2 : n ≤ 16) {one : List Int} (h : one ∈ falseR n) (hm : ∀ m ∈ ms, m.Ok n) : prodR (ms.foldl Mv.r one) (ms.foldl Mv.r one) = -1 ∧ prodR (ms.foldl Mv.r one) (cubicR n) = 1 := by
  have h1 := (false_orb hn hn2 h).1
  have lc : (cubicR n).length = n + 1 := by simp [cubicR]
  have e : prodR one one = -1 ∧ prodR one (cubicR n) = 1 := by
    have hh : n = 10 ∨ n = 11 ∨ n = 12 ∨ n = 13 ∨ n = 14 ∨ n = 15 ∨ n = 16 := by omega
    unfold falseR at h
    simp only [List.mem_cons, List.not_mem_nil, or_false] at h
    rcases hh with rfl | rfl | rfl | rfl | rfl | rfl | rfl <;> rcases h with rfl | rfl | rfl <;> decide
  refine ⟨(prod_fold ms _ _ h1 h1 hm).trans e.1, ?_⟩
  rw [← e.2, ← prod_fold ms one (cubicR n) h1 lc hm, cubic_fold ms hm]
end K82

set_option Elab.async false
set_option linter.all false
set_option maxRecDepth 100000
set_option maxHeartbeats 4000000
namespace K82
open PySem PySem.Spec PyProof.Rows L2 L3
theorem sq_sum (d : Int) : ∀ l : List Int, 0 ≤ 16 * dot l l - 8 * d * l.sum + l.length * (d * d)
  | [] => by
    show 0 ≤ 16 * 0 - 8 * d * 0 + 0 * (d * d)
    simp
  | a :: l => by
    have := sq_sum d l
    have e : dot (a :: l) (a :: l) = a * a + dot l l := rfl
    have p : 0 ≤ (4 * a - d) * (4 * a - d) := by
      rcases Int.le_total 0 (4 * a - d) with h | h
      · exact Int.mul_nonneg h h
      · exact Int.mul_nonneg_of_nonpos_of_nonpos h h
    rw [e, List.sum_cons, List.length_cons]
    have e2 : ((l.length + 1 : Nat) : Int) = l.length + 1 := by omega
    rw [e2]
    have e3 : 16 * (a * a + dot l l) - 8 * d * (a + l.sum) + ((l.length : Int) + 1) * (d * d) = (16 * dot l l - 8 * d * l.sum + l.length * (d * d)) + (4 * a - d) * (4 * a - d) := by grind
    rw [e3]; omega
theorem sum_clip : ∀ l : List Int, l.sum ≤ (l.map fun x => max 0 x).sum ∧ 0 ≤ (l.map fun x => max 0 x).sum ∧ ∀ x ∈ l, x ≤ (l.map fun x => max 0 x).sum
  | [] => ⟨by simp, by simp, fun _ h => by cases h⟩
  | a :: l => by
    obtain ⟨h1, h2, h3⟩ := sum_clip l
    rw [List.map_cons, List.sum_cons, List.sum_cons]
    refine ⟨by omega, by omega, fun x hx => ?_⟩
    rcases List.mem_cons.mp hx with rfl | hx
    · omega
    · have := h3 x hx; omega
theorem sum_add : ∀ (r : List Int) (p : Nat) (c : Int), p < r.length → (addAt c r p).sum = r.sum + c
  | [], _, _, h => absurd h (Nat.not_lt_zero _)
  | a :: r, 0, c, _ => by
    show ((a + c) :: r).sum = _
    rw [List.sum_cons, List.sum_cons]; omega
  | a :: r, p + 1, c, h => by
    have := sum_add r p c (Nat.lt_of_succ_lt_succ h)
    show (a :: addAt c r p).sum = _
    rw [List.sum_cons, List.sum_cons, this]; omega
theorem turn_sum {r : List Int} {t : Nat × Nat × Nat} (h : MvOk (r.length - 1) t) : (turnT r t).sum = r.sum + 4 * moreR r t.1 t.2.1 t.2.2 := by
  obtain ⟨h1, h2, h3⟩ := h
  unfold turnT turnR
  simp only [List.foldl_cons, List.foldl_nil]
  rw [sum_add _ _ _ (by simp only [addAt_len]; omega), sum_add _ _ _ (by simp only [addAt_len]; omega), sum_add _ _ _ (by simp only [addAt_len]; omega), sum_add _ _ _ (by omega)]
  omega
theorem head_sum {r : List Int} (h : 0 < r.length) : r.sum = r.getD 0 0 + r.tail.sum := by
  cases r with
  | nil => cases h
  | cons a r => rfl
structure Bar (M : Int) (r : List Int) : Prop where
  len : r.length = 17
  sl : 4 * r.getD 0 0 ≤ (clipR r).tail.sum
  pos : 0 < (clipR r).tail.sum
  bnd : ∀ x ∈ r, x ≤ M
theorem bar_end {M : Int} (hM : 0 ≤ M) : ∀ (f : Nat) (r : List Int), r.length = 17 → (∀ x ∈ r, x ≤ M) → (r.getD 0 0 < 0 ∨ Bar M r) → ∀ e, stdF f r = some e → (e.length = 17 ∧ ∀ x ∈ e, 0 ≤ x ∧ x ≤ M) ∧ cntR e ≤ 0 := by
  intro f
  induction f with
  | zero => intro r _ _ _ e h; cases h
  | succ f ih =>
    intro r hl hb hB e h
    rw [stdF_succ] at h
    by_cases c1 : r.getD 0 0 < 0
    · rw [if_pos (by rw [clipR_deg]; exact c1)] at h; cases h
    · rw [if_neg (by rw [clipR_deg]; exact c1)] at h
      have B := hB.resolve_left c1
      have cl := clipR_len r (by omega)
      have cb : ∀ x ∈ clipR r, 0 ≤ x ∧ x ≤ M := fun x hx => by
        unfold clipR at hx
        rcases List.mem_cons.mp hx with rfl | hx
        · exact ⟨by omega, hb _ (getD_mem (by omega))⟩
        · obtain ⟨y, hy, rfl⟩ := List.mem_map.mp hx
          have := hb y (List.mem_of_mem_tail hy)
          omega
      have ok := g3_ok (r := clipR r) (by omega)
      have hd := clipR_deg r
      by_cases c2 : abvR (clipR r) (g3 (clipR r)) = true
      · rw [if_pos c2] at h
        have ab := abvR_iff.mp c2
        have ts := turn_sum ok
        have td := turnT_deg ok
        have tl := turnT_len (clipR r) (g3 (clipR r))
        have hs := head_sum (r := clipR r) (by omega)
        have hs2 := head_sum (r := turnT (clipR r) (g3 (clipR r))) (by omega)
        have sc := sum_clip (turnT (clipR r) (g3 (clipR r))).tail
        have tb : ∀ x ∈ turnT (clipR r) (g3 (clipR r)), x ≤ M := fun x hx => by
          obtain ⟨y, hy, rfl⟩ := mem_getD hx
          rw [tl] at hy
          obtain ⟨o1, o2, o3⟩ := ok
          unfold turnT
          rw [turnR_getD (by omega) (by omega) (by omega) (by omega) (by omega) (by omega)]
          have := (cb _ (getD_mem hy)).2
          split <;> omega
        have B1 := B.sl
        have B2 := B.pos
        refine ih _ (by omega) tb ?_ e h
        by_cases c3 : (turnT (clipR r) (g3 (clipR r))).getD 0 0 < 0
        · exact .inl c3
        · have e1 : (clipR (turnT (clipR r) (g3 (clipR r)))).tail = (turnT (clipR r) (g3 (clipR r))).tail.map fun x => max 0 x := rfl
          refine .inr ⟨by omega, ?_, ?_, tb⟩
          · rw [e1]; omega
          · rw [e1]; omega
      · rw [if_neg c2] at h
        cases h
        have hp : ((srtI (clipR r).tail).reverse).Perm (clipR r).tail := (List.reverse_perm _).trans (srtI_perm _)
        have pm : ((clipR r).getD 0 0 :: (srtI (clipR r).tail).reverse).Perm (clipR r) := perm_cons rfl hp (by rw [List.length_cons, hp.length_eq, List.length_tail]; omega) (by omega)
        refine ⟨⟨by rw [pm.length_eq]; omega, fun x hx => cb x (pm.mem_iff.mp hx)⟩, ?_⟩
        have mr : 0 ≤ moreR (clipR r) (g3 (clipR r)).1 (g3 (clipR r)).2.1 (g3 (clipR r)).2.2 := Int.not_lt.mp fun q => c2 (abvR_iff.mpr q)
        have B1 := B.sl
        have B2 := B.pos
        -- the degree is not 0
        have dpos : 1 ≤ r.getD 0 0 := by
          refine Classical.byContradiction fun hn => ?_
          have d0 : (clipR r).getD 0 0 = 0 := by rw [hd]; omega
          have z : ∀ p, p < 16 → (clipR r).getD (p + 1) 0 = 0 := fun p hp => by
            obtain ⟨j, k, hj, hk, a1, a2, a3⟩ : ∃ j k, j < 16 ∧ k < 16 ∧ p ≠ j ∧ p ≠ k ∧ j ≠ k := by
              by_cases q : p = 0
              · exact ⟨1, 2, by omega, by omega, by omega, by omega, by omega⟩
              · by_cases q2 : p = 1
                · exact ⟨0, 2, by omega, by omega, by omega, by omega, by omega⟩
                · exact ⟨0, 1, by omega, by omega, by omega, by omega, by omega⟩
            have g := g3_max (r := clipR r) (n := 16) (by omega) (by omega) hp hj hk a1 a2 a3
            have em : moreR (clipR r) p j k = (clipR r).getD 0 0 - (clipR r).getD (p + 1) 0 - (clipR r).getD (j + 1) 0 - (clipR r).getD (k + 1) 0 := rfl
            have b1 := (cb _ (getD_mem (show p + 1 < (clipR r).length by omega))).1
            have b2 := (cb _ (getD_mem (show j + 1 < (clipR r).length by omega))).1
            have b3 := (cb _ (getD_mem (show k + 1 < (clipR r).length by omega))).1
            omega
          have zs : (clipR r).tail.sum = 0 := by
            have : ∀ x ∈ (clipR r).tail, x = 0 := fun x hx => by
              obtain ⟨i, hi, e⟩ := mem_getD hx
              rw [List.length_tail] at hi
              rw [tail_getD, z i (by omega)] at e
              exact e.symm
            have h0 : ∀ l : List Int, (∀ x ∈ l, x = 0) → l.sum = 0 := fun l => by
              induction l with
              | nil => intro _; rfl
              | cons a l ih =>
                intro h
                rw [List.sum_cons, h a List.mem_cons_self, ih fun x hx => h x (List.mem_cons_of_mem _ hx)]; rfl
            exact h0 _ this
          omega
        have ss := sq_sum (r.getD 0 0) (srtI (clipR r).tail).reverse
        have ls : ((srtI (clipR r).tail).reverse).length = 16 := by rw [hp.length_eq, List.length_tail]; omega
        have su : ((srtI (clipR r).tail).reverse).sum = (clipR r).tail.sum := perm_sum hp
        rw [ls, su] at ss
        have mm := Int.mul_le_mul_of_nonneg_left B1 (show 0 ≤ r.getD 0 0 by omega)
        have pe : prodR ((clipR r).getD 0 0 :: (srtI (clipR r).tail).reverse) ((clipR r).getD 0 0 :: (srtI (clipR r).tail).reverse) = r.getD 0 0 * r.getD 0 0 - dot ((srtI (clipR r).tail).reverse) ((srtI (clipR r).tail).reverse) := rfl
        have ce : cubR ((clipR r).getD 0 0 :: (srtI (clipR r).tail).reverse) = 3 * r.getD 0 0 - (clipR r).tail.sum := by
          show 3 * r.getD 0 0 - ((srtI (clipR r).tail).reverse).sum = _
          rw [su]
        unfold cntR
        rw [pe, ce]
        generalize dot ((srtI (clipR r).tail).reverse) ((srtI (clipR r).tail).reverse) = Qq at *
        generalize (clipR r).tail.sum = S at *
        generalize r.getD 0 0 = d at *
        have e1 : d * (4 * d) = 4 * (d * d) := by grind
        have e2 : 8 * d * S = 8 * (d * S) := by grind
        rw [e1] at mm
        rw [e2] at ss
        generalize d * d = dd at *
        generalize d * S = dS at *
        omega
theorem bar_of {r : List Int} (h : barR r = true) : 0 < (clipR r).tail.sum ∧ 4 * r.getD 0 0 ≤ (clipR r).tail.sum ∧ r.length = 17 := by
  unfold barR at h
  rw [decide_eq_true_iff] at h
  obtain ⟨h1, h2, h3⟩ := h
  obtain ⟨a, b, c⟩ := sum_clip r.tail
  have e : (clipR r).tail = r.tail.map fun x => max 0 x := rfl
  rw [e]
  have m := (maxI_mem (l := r) (nn (by omega))).1
  obtain ⟨i, hi, ei⟩ := mem_getD m
  refine ⟨?_, by omega, h1⟩
  cases i with
  | zero => omega
  | succ i =>
    have := c (r.getD (i + 1) 0) (by rw [← tail_getD]; exact getD_mem (by rw [List.length_tail]; omega))
    omega
/-- a barred row's bounds -/
theorem bar_low {r : List Int} (f : Nat) (h : barR r = true) (hb : ∀ x ∈ r, x ≤ 10 ^ 50) : lowF (stdF f r) = 0 ∧ ∀ e, stdF f r = some e → RowOk e := by
  obtain ⟨h1, h2, h3⟩ := bar_of h
  have key := bar_end (M := 10 ^ 50) (by decide) f r h3 hb (.inr ⟨h3, h2, h1, hb⟩)
  refine ⟨?_, fun e he => ?_⟩
  · cases q : stdF f r with
    | none => rfl
    | some e =>
      have := (key e q).2
      show max 0 (cntR e) = 0
      omega
  · obtain ⟨⟨a, b⟩, _⟩ := key e he
    refine ⟨by omega, by omega, fun i hi => ?_⟩
    have := b i hi
    omega
end K82

set_option Elab.async false
set_option linter.all false
set_option pp.deepTerms false
set_option maxRecDepth 100000
set_option maxHeartbeats 4000000
namespace K82
open PySem PySem.Spec PyProof.Rows L2 L3
local macro_rules | `(tactic| nofun) => `(tactic| repeat (first | with_reducible refine w_seq ?_ | with_reducible refine w_nx ?_ | with_reducible refine w_ret ?_ | with_reducible refine w_retN ?_ | with_reducible refine w_drop ?_ | with_reducible refine w_ifS ?_ | with_reducible refine w_asg ?_ | with_reducible refine w_for ?_ | with_reducible refine w_forC ?_ | with_reducible refine w_forN ?_ | with_reducible refine w_K ?_ | with_reducible refine w_N (by with_unfolding_all rfl) ?_ | with_reducible refine w_No (by with_unfolding_all rfl) ?_ | with_reducible refine w_2 ?_ | with_reducible refine w_nilA ?_ | with_reducible refine w_consA ?_ | with_reducible refine w_CD ?_ | with_reducible refine w_call ?_ | with_reducible refine w_add ?_ | with_reducible refine w_sub ?_ | with_reducible refine w_mul (cmw (by omega) (by omega)) ?_ | with_reducible refine w_mul (cmw (by first | decide | exact bd (by assumption)) (by first | decide | exact bd (by assumption))) ?_ | with_reducible refine w_slcT ?_ | with_reducible refine w_slR ?_ | with_reducible refine w_sumT ?_ | with_reducible refine w_sumL ?_ | with_reducible refine w_comp ?_ | with_reducible refine w_zip ?_ | with_reducible refine w_zipT (by with_unfolding_all rfl) ?_ | with_reducible refine w_zipL (by with_unfolding_all rfl) ?_ | with_reducible refine w_itv ?_ | with_reducible refine w_itvT (by with_unfolding_all rfl) ?_ | with_reducible refine w_itvL (by with_unfolding_all rfl) ?_ | with_reducible refine w_par ?_ | with_reducible refine w_tup1S ?_ | with_reducible refine w_s1L (by first | omega | (simp only [List.length_map, List.length_tail, List.length_reverse]; omega)) ?_ | with_reducible refine w_s1T (by first | omega | (simp only [List.length_map, List.length_tail, List.length_cons, List.length_nil]; omega)) ?_ | with_reducible refine w_minT (nn (by first | omega | (simp only [List.length_tail]; omega))) ?_ | with_reducible refine w_maxT (nn (by first | omega | (simp only [List.length_tail]; omega))) ?_ | with_reducible refine w_tup ?_ | with_reducible refine w_lst ?_ | with_reducible refine w_toL ?_ | with_reducible refine w_toLL ?_ | with_reducible refine w_toT ?_ | with_reducible refine w_gIx ⟨(by with_unfolding_all rfl), (by with_unfolding_all rfl)⟩ ?_ | with_reducible refine w_gIxR (by with_unfolding_all rfl) (by omega) (by first | omega | (simp only [List.length_set]; omega)) ?_ | with_reducible refine w_gNil ?_ | with_reducible refine w_gCons ?_ | with_reducible refine w_gTup (by with_unfolding_all rfl) ?_ | with_reducible refine w_tst ?_ | with_reducible refine w_tstB ?_ | with_reducible refine w_tru ?_ | with_reducible refine w_truB ?_ | with_reducible refine w_orL ?_ | with_reducible refine w_andL ?_ | with_reducible refine w_notL ?_ | with_reducible refine w_yes ?_ | with_reducible refine w_lenT ?_ | with_reducible refine w_lenL ?_ | with_reducible refine w_isiT (by with_unfolding_all rfl) (by with_unfolding_all decide) (by with_unfolding_all rfl) ?_ | with_reducible refine w_isiF (by with_unfolding_all rfl) (by with_unfolding_all decide) (by with_unfolding_all rfl) ?_ | with_reducible refine w_allT ?_ | with_reducible refine w_t (by with_unfolding_all rfl) ?_ | with_reducible refine w_f (by with_unfolding_all rfl) ?_ | with_reducible refine w_kin ?_ | with_reducible refine w_kget ?_ | with_reducible refine w_slc ?_ | with_reducible refine w_nop ?_ | with_reducible refine w_bk ?_ | with_reducible refine w_ifE ?_ | with_reducible refine w_ng ?_ | with_reducible refine w_ngI ?_ | with_reducible refine w_andV ?_ | with_reducible refine w_andB ?_ | with_reducible refine w_orV ?_ | with_reducible refine w_orB ?_ | with_reducible refine w_notV ?_ | with_reducible refine w_notB ?_ | with_reducible refine w_isNt ?_ | with_reducible refine w_maxL (nn (by first | omega | (simp only [List.length_tail]; omega))) ?_ | with_reducible refine w_addL (by simp only [List.length_append, List.length_replicate, List.length_cons, List.length_nil, List.length_map, List.length_take]; omega) ?_ | with_reducible refine w_repT2 (by first | decide | omega) (by first | decide | omega) ?_ | with_reducible refine w_addT (by simp only [List.length_append, List.length_replicate, List.length_cons, List.length_nil, List.length_map]; omega) ?_ | with_reducible refine w_toL ?_ | with_reducible refine w_toLL ?_ | with_reducible refine w_toT ?_ | with_reducible refine w_mul (cm2 (by first | decide | omega) (by first | decide | omega)) ?_ | with_reducible refine w_lenS ?_ | with_reducible refine w_fd (by first | assumption | decide | omega) (by first | decide | omega) ?_ | with_reducible refine w_ixCL (by with_unfolding_all rfl) ?_ | with_reducible refine w_gIxC (by with_unfolding_all rfl) (by with_unfolding_all rfl) ?_ | with_reducible refine w_mod (by first | assumption | omega) ?_ | with_reducible refine w_chn ?_ | with_reducible refine w_chnB ?_ | with_reducible refine w_isNf ?_ | with_reducible refine w_ifT ?_ | with_reducible refine w_tt ?_ | with_reducible refine w_ff ?_ | with_reducible refine w_star ?_ | with_reducible refine w_starL ?_ | with_reducible refine w_starT ?_ | with_reducible refine w_rev ?_ | with_reducible refine w_revL ?_ | with_reducible refine w_revT ?_ | with_reducible refine w_rng1 ?_ | with_reducible refine w_lrg1 ?_ | with_reducible refine w_qrg1 ?_ | with_reducible refine w_lrg2 ?_ | with_reducible refine w_app (by with_unfolding_all rfl) ?_ | with_reducible refine w_appI (by with_unfolding_all rfl) (by with_unfolding_all rfl) (by simp only [List.length_cons, List.length_nil, List.length_map]; omega) ?_ | with_reducible refine w_pop (by with_unfolding_all rfl) ?_ | with_reducible refine w_callM ?_ | with_reducible refine w_callMN ?_ | with_reducible refine w_callMI (by with_unfolding_all rfl) (by with_unfolding_all rfl) (by with_unfolding_all rfl) ?_ | with_reducible refine w_II ?_ | with_reducible refine w_abs ?_ | with_reducible refine w_intI ?_ | with_reducible refine w_intB ?_ | with_reducible refine w_srtL ?_ | with_reducible refine w_srtT ?_ | with_reducible refine w_srtRT ?_ | with_reducible refine w_slTo ?_ | with_reducible refine w_slToL ?_ | with_reducible refine w_aug (by with_unfolding_all rfl) ?_ | with_reducible refine w_augI ?_ | with_reducible refine w_gUn ?_ | with_reducible refine w_unL (by with_unfolding_all rfl) ?_ | with_reducible refine w_sortLam ?_ | with_reducible refine w_neL ?_ | with_reducible refine w_neB ?_ | with_reducible refine w_prt ?_ | with_reducible refine w_prtI ?_ | with_reducible refine w_lt ?_ | with_reducible refine w_le ?_ | with_reducible refine w_gt ?_ | with_reducible refine w_ge ?_ | with_reducible refine w_eqI ?_ | with_reducible refine w_neI ?_ | with_reducible refine w_eqR ?_ | with_reducible refine w_eqL ?_ | with_reducible refine w_ixR (by simp only [List.length_tail]; omega) (by simp only [List.length_tail]; omega) ?_ | with_reducible refine w_ixR (by omega) (by omega) ?_ | with_reducible refine w_ixL (by omega) (by first | omega | (simp only [List.length_set]; omega)) ?_ | with_reducible refine w_ixC (by with_unfolding_all rfl) ?_ | with_reducible refine w_gNm (by with_unfolding_all rfl) ?_ | with_reducible refine w_gNn ?_ | with_reducible refine ⟨(by with_unfolding_all rfl), ?_⟩ | with_reducible refine ⟨⟨(by with_unfolding_all rfl), (by with_unfolding_all rfl)⟩, ?_⟩ | with_reducible refine ⟨⟨(by with_unfolding_all rfl), sz (by simp only [List.length_cons, List.length_nil]; omega)⟩, ?_⟩ | (simp only [val_dat, val_new, val_ref, List.getElem?_cons_zero, List.getElem?_cons_succ, tupI, List.map_cons, List.map_nil, startR, startM, frzs, setsR, slotW, anyRef, wipeR, unwipe, List.any_cons, List.any_nil, List.filter_cons, List.filter_nil, List.length_cons, List.length_nil, List.replicate, List.set_cons_zero, List.set_cons_succ, List.cons_append, List.nil_append, Bool.or_false, Bool.or_self, Bool.false_eq_true, if_false, List.getD_cons_zero, List.getD_cons_succ, Nat.reduceSub, Nat.reduceAdd])))
local macro_rules | `(tactic| bv_omega) => `(tactic| repeat (first | with_reducible refine w_seq ?_ | with_reducible refine w_nx ?_ | with_reducible refine w_ret ?_ | with_reducible refine w_retN ?_ | with_reducible refine w_drop ?_ | with_reducible refine w_ifS ?_ | with_reducible refine w_asg ?_ | with_reducible refine w_for ?_ | with_reducible refine w_forN ?_ | with_reducible refine w_K ?_ | with_reducible refine w_N (by with_unfolding_all rfl) ?_ | with_reducible refine w_No (by with_unfolding_all rfl) ?_ | with_reducible refine w_2 ?_ | with_reducible refine w_nilA ?_ | with_reducible refine w_consA ?_ | with_reducible refine w_CD ?_ | with_reducible refine w_call ?_ | with_reducible refine w_add ?_ | with_reducible refine w_sub ?_ | with_reducible refine w_mul (cmw (by omega) (by omega)) ?_ | with_reducible refine w_mul (cmw (by first | decide | exact bd (by assumption)) (by first | decide | exact bd (by assumption))) ?_ | with_reducible refine w_slcT ?_ | with_reducible refine w_slR ?_ | with_reducible refine w_sumT ?_ | with_reducible refine w_sumL ?_ | with_reducible refine w_comp ?_ | with_reducible refine w_zip ?_ | with_reducible refine w_zipT (by with_unfolding_all rfl) ?_ | with_reducible refine w_zipL (by with_unfolding_all rfl) ?_ | with_reducible refine w_itv ?_ | with_reducible refine w_itvT (by with_unfolding_all rfl) ?_ | with_reducible refine w_itvL (by with_unfolding_all rfl) ?_ | with_reducible refine w_par ?_ | with_reducible refine w_tup1S ?_ | with_reducible refine w_s1L (by first | omega | (simp only [List.length_map, List.length_tail, List.length_reverse]; omega)) ?_ | with_reducible refine w_s1T (by first | omega | (simp only [List.length_map, List.length_tail, List.length_cons, List.length_nil]; omega)) ?_ | with_reducible refine w_minT (nn (by first | omega | (simp only [List.length_tail]; omega))) ?_ | with_reducible refine w_maxT (nn (by first | omega | (simp only [List.length_tail]; omega))) ?_ | with_reducible refine w_tup ?_ | with_reducible refine w_lst ?_ | with_reducible refine w_toL ?_ | with_reducible refine w_toLL ?_ | with_reducible refine w_toT ?_ | with_reducible refine w_gIx ⟨(by with_unfolding_all rfl), (by with_unfolding_all rfl)⟩ ?_ | with_reducible refine w_gIxR (by with_unfolding_all rfl) (by omega) (by first | omega | (simp only [List.length_set]; omega)) ?_ | with_reducible refine w_gNil ?_ | with_reducible refine w_gCons ?_ | with_reducible refine w_gTup (by with_unfolding_all rfl) ?_ | with_reducible refine w_tst ?_ | with_reducible refine w_tstB ?_ | with_reducible refine w_tru ?_ | with_reducible refine w_truB ?_ | with_reducible refine w_orL ?_ | with_reducible refine w_andL ?_ | with_reducible refine w_notL ?_ | with_reducible refine w_yes ?_ | with_reducible refine w_lenT ?_ | with_reducible refine w_lenL ?_ | with_reducible refine w_isiT (by with_unfolding_all rfl) (by with_unfolding_all decide) (by with_unfolding_all rfl) ?_ | with_reducible refine w_isiF (by with_unfolding_all rfl) (by with_unfolding_all decide) (by with_unfolding_all rfl) ?_ | with_reducible refine w_allT ?_ | with_reducible refine w_t (by with_unfolding_all rfl) ?_ | with_reducible refine w_f (by with_unfolding_all rfl) ?_ | with_reducible refine w_kin ?_ | with_reducible refine w_kget ?_ | with_reducible refine w_slc ?_ | with_reducible refine w_nop ?_ | with_reducible refine w_bk ?_ | with_reducible refine w_ifE ?_ | with_reducible refine w_ng ?_ | with_reducible refine w_ngI ?_ | with_reducible refine w_andV ?_ | with_reducible refine w_andB ?_ | with_reducible refine w_orV ?_ | with_reducible refine w_orB ?_ | with_reducible refine w_notV ?_ | with_reducible refine w_notB ?_ | with_reducible refine w_isNt ?_ | with_reducible refine w_maxL (nn (by first | omega | (simp only [List.length_tail]; omega))) ?_ | with_reducible refine w_addL (by simp only [List.length_append, List.length_replicate, List.length_cons, List.length_nil, List.length_map, List.length_take]; omega) ?_ | with_reducible refine w_repT2 (by first | decide | omega) (by first | decide | omega) ?_ | with_reducible refine w_addT (by simp only [List.length_append, List.length_replicate, List.length_cons, List.length_nil, List.length_map]; omega) ?_ | with_reducible refine w_toL ?_ | with_reducible refine w_toLL ?_ | with_reducible refine w_toT ?_ | with_reducible refine w_mul (cm2 (by first | decide | omega) (by first | decide | omega)) ?_ | with_reducible refine w_lenS ?_ | with_reducible refine w_fd (by first | assumption | decide | omega) (by first | decide | omega) ?_ | with_reducible refine w_ixCL (by with_unfolding_all rfl) ?_ | with_reducible refine w_gIxC (by with_unfolding_all rfl) (by with_unfolding_all rfl) ?_ | with_reducible refine w_mod (by first | assumption | omega) ?_ | with_reducible refine w_chn ?_ | with_reducible refine w_chnB ?_ | with_reducible refine w_isNf ?_ | with_reducible refine w_ifT ?_ | with_reducible refine w_tt ?_ | with_reducible refine w_ff ?_ | with_reducible refine w_star ?_ | with_reducible refine w_starL ?_ | with_reducible refine w_starT ?_ | with_reducible refine w_rev ?_ | with_reducible refine w_revL ?_ | with_reducible refine w_revT ?_ | with_reducible refine w_rng1 ?_ | with_reducible refine w_lrg1 ?_ | with_reducible refine w_qrg1 ?_ | with_reducible refine w_lrg2 ?_ | with_reducible refine w_app (by with_unfolding_all rfl) ?_ | with_reducible refine w_appI (by with_unfolding_all rfl) (by with_unfolding_all rfl) (by simp only [List.length_cons, List.length_nil, List.length_map]; omega) ?_ | with_reducible refine w_pop (by with_unfolding_all rfl) ?_ | with_reducible refine w_callM ?_ | with_reducible refine w_callMN ?_ | with_reducible refine w_callMI (by with_unfolding_all rfl) (by with_unfolding_all rfl) (by with_unfolding_all rfl) ?_ | with_reducible refine w_II ?_ | with_reducible refine w_abs ?_ | with_reducible refine w_intI ?_ | with_reducible refine w_intB ?_ | with_reducible refine w_srtL ?_ | with_reducible refine w_srtT ?_ | with_reducible refine w_srtRT ?_ | with_reducible refine w_slTo ?_ | with_reducible refine w_slToL ?_ | with_reducible refine w_aug (by with_unfolding_all rfl) ?_ | with_reducible refine w_augI ?_ | with_reducible refine w_gUn ?_ | with_reducible refine w_unL (by with_unfolding_all rfl) ?_ | with_reducible refine w_sortLam ?_ | with_reducible refine w_neL ?_ | with_reducible refine w_neB ?_ | with_reducible refine w_prt ?_ | with_reducible refine w_prtI ?_ | with_reducible refine w_lt ?_ | with_reducible refine w_le ?_ | with_reducible refine w_gt ?_ | with_reducible refine w_ge ?_ | with_reducible refine w_eqI ?_ | with_reducible refine w_neI ?_ | with_reducible refine w_eqR ?_ | with_reducible refine w_eqL ?_ | with_reducible refine w_ixR (by simp only [List.length_tail]; omega) (by simp only [List.length_tail]; omega) ?_ | with_reducible refine w_ixR (by omega) (by omega) ?_ | with_reducible refine w_ixL (by omega) (by first | omega | (simp only [List.length_set]; omega)) ?_ | with_reducible refine w_ixC (by with_unfolding_all rfl) ?_ | with_reducible refine w_gNm (by with_unfolding_all rfl) ?_ | with_reducible refine w_gNn ?_ | with_reducible refine ⟨(by with_unfolding_all rfl), ?_⟩ | with_reducible refine ⟨⟨(by with_unfolding_all rfl), (by with_unfolding_all rfl)⟩, ?_⟩ | with_reducible refine ⟨⟨(by with_unfolding_all rfl), sz (by simp only [List.length_cons, List.length_nil]; omega)⟩, ?_⟩ | (simp only [val_dat, val_new, val_ref, List.getElem?_cons_zero, List.getElem?_cons_succ, tupI, List.map_cons, List.map_nil, startR, startM, frzs, setsR, slotW, anyRef, wipeR, unwipe, List.any_cons, List.any_nil, List.filter_cons, List.filter_nil, List.length_cons, List.length_nil, List.replicate, List.set_cons_zero, List.set_cons_succ, List.cons_append, List.nil_append, Bool.or_false, Bool.or_self, Bool.false_eq_true, if_false, List.getD_cons_zero, List.getD_cons_succ, Nat.reduceSub, Nat.reduceAdd])))
theorem sem__law_squares_right (l ds : List D) (Q : W → List D → Prop) (h : P__law_squares_right l ds Q) : t__law_squares_right { nx := fun ρ => ∃ l', ρ[0]? = some (.own l') ∧ Q (.dat .non) l', rt := fun w ρ => ∃ l', ρ[0]? = some (.own l') ∧ Q w l' } (startM N__law_squares_right.length l ds) := by
  obtain ⟨rfl, hd, q⟩ := h
  unfold t__law_squares_right
  nofun
  refine w_rngI (by unfold BndI; decide) ?_
  nofun
  refine dcomp_inv (fun ds acc ρ => ∃ (l' : List D) (xs : List Int), acc = xs.map .int ∧ ρ = [.own l', .un, .un, .un, .un, .un, .un, .un, .un] ∧ DB xs.length l' ∧ (∀ x ∈ xs, -1 ≤ x ∧ x ≤ 7) ∧ ds.length + xs.length = 16) ?_ ?_ _ _ _ (by simp) ⟨l, [], rfl, rfl, by simpa using hd, by simp, by simp⟩
  · rintro d ds acc ρ ⟨l', xs, rfl, rfl, hl', hx, hlen⟩ hsz C hC
    rw [List.length_cons] at hlen
    have hdz : nz (.dat d) = true := rfl
    nofun
    refine roll_any hl' (by omega) (by omega) (by omega) fun v v0 v1 l2 hl2 => ?_
    nofun
    refine ⟨⟨rfl, hsz⟩, ?_⟩
    refine hC _ _ (by simp) ⟨l2, xs ++ [v - 1], by simp, rfl, hl2.up (by simp), fun x hx' => ?_, by simp; omega⟩
    rcases List.mem_append.mp hx' with h | h
    · exact hx x h
    · rw [List.mem_singleton.mp h]; omega
  rintro acc ρ ⟨l1, xs, rfl, rfl, hl1, hx, hlen⟩
  rw [List.length_nil, Nat.zero_add] at hlen
  rw [hlen] at hl1
  nofun
  refine ⟨_, rfl, hl1, by decide, fun p hp l2 hl2 => ?_⟩
  nofun
  refine ⟨_, p, 16, rfl, hl2, by decide, hp, by omega, by omega, fun ts hts htl l3 hl3 => ?_⟩
  bv_omega
  have sb : -16 ≤ xs.sum ∧ xs.sum ≤ 112 := by
    have : ∀ l : List Int, (∀ x ∈ l, -1 ≤ x ∧ x ≤ 7) → -(l.length : Int) ≤ l.sum ∧ l.sum ≤ 7 * l.length := fun l => by
      induction l with
      | nil => intro _; exact ⟨by simp, by simp⟩
      | cons a l ih =>
        intro h
        have h1 := h a List.mem_cons_self
        have h2 := ih fun x hx => h x (List.mem_cons_of_mem _ hx)
        rw [List.sum_cons, List.length_cons]
        omega
    have := this xs hx
    omega
  refine forD_run (fun ds ρ => ∃ (es : List Int) (s5 s6 s7 : Slot), ds = es.map D.int ∧ (∀ e ∈ es, -100 ≤ e ∧ e ≤ 100) ∧ (es = [] → ∃ e : Int, s5 = .dat (.int e) ∧ -100 ≤ e ∧ e ≤ 100) ∧ ρ = [.own l3, .own (xs.map D.int), .dat (.int xs.sum), .dat (.int p), .dat (.tup (ts.map tupI)), s5, s6, s7, .un]) ?_ ?_ _ _ ⟨[xs.sum / 4 - 1, xs.sum / 4, xs.sum / 4 + 1, 0, -2], _, _, _, rfl, ?_, (fun h => by cases h), rfl⟩
  · rintro d ds ρ ⟨es, s5, s6, s7, e1, eb, _, rfl⟩ C hC
    cases es with
    | nil => cases e1
    | cons e es =>
    obtain ⟨rfl, rfl⟩ := List.cons.inj e1
    have he := eb e List.mem_cons_self
    have nxt : ∀ s6 s7, C [.own l3, .own (xs.map D.int), .dat (.int xs.sum), .dat (.int p), .dat (.tup (ts.map tupI)), .dat (.int e), s6, s7, .un] := fun s6 s7 => hC _ ⟨es, _, s6, s7, rfl, fun x hx => eb x (List.mem_cons_of_mem _ hx), fun _ => ⟨e, rfl, he⟩, rfl⟩
    have ok : RowOk (e :: xs) := ⟨by rw [List.length_cons]; omega, by rw [List.length_cons]; omega, fun i hi => by
      rcases List.mem_cons.mp hi with rfl | hi
      · omega
      · have := hx i hi; omega⟩
    have mx : maxI (e :: xs) = max e (maxI xs) := by
      match xs, hlen with
      | _ :: _, _ => rfl
    have be : barR (e :: xs) = decide (4 * e ≤ xs.sum ∧ (0 < e ∨ 0 < maxI xs)) := decide_eq_decide.mpr ⟨fun h => ⟨h.2.1, by have := h.2.2; rw [mx] at this; omega⟩, fun h => ⟨by rw [List.length_cons]; omega, h.1, by rw [mx]; omega⟩⟩
    nofun
    by_cases c1 : 4 * e ≤ xs.sum
    · refine w_t (decide_eq_true c1) ?_
      nofun
      by_cases c2 : 0 < e
      · refine w_t (decide_eq_true c2) ?_
        nofun
        refine ⟨e :: xs, rfl, ok, by rw [List.length_cons]; omega, ?_⟩
        rw [be, decide_eq_true (by omega)]
        nofun
        have bt : barR (e :: xs) = true := by rw [be]; exact decide_eq_true (by omega)
        have bnd : BndOk p ts (e :: xs) := ⟨hp, hts, ok, by rw [List.length_cons]; omega, by rw [List.length_cons]; omega⟩
        obtain ⟨lo1, lo2⟩ := bar_low ((e :: xs).getD 0 0 + 1).toNat bt (fun x hx' => by
          rcases List.mem_cons.mp hx' with rfl | hx'
          · omega
          · have := hx x hx'; omega)
        refine ⟨p, ts, e :: xs, rfl, bnd, by show e < 2000; omega, bt, ?_⟩
        nofun
        refine ⟨p, ts, e :: xs, rfl, bnd, by show e < 2000; omega, bt, lo2, lo1, ?_⟩
        nofun
        refine w_neC (by with_unfolding_all rfl) (by with_unfolding_all rfl) (k := true) (by with_unfolding_all rfl) ?_
        nofun
        exact nxt _ _
      · refine w_f (decide_eq_false c2) ?_
        nofun
        by_cases c3 : 0 < maxI xs
        · rw [decide_eq_true c3]
          refine ⟨e :: xs, rfl, ok, by rw [List.length_cons]; omega, ?_⟩
          rw [be, decide_eq_true (by omega)]
          nofun
          have bt : barR (e :: xs) = true := by rw [be]; exact decide_eq_true (by omega)
          have bnd : BndOk p ts (e :: xs) := ⟨hp, hts, ok, by rw [List.length_cons]; omega, by rw [List.length_cons]; omega⟩
          obtain ⟨lo1, lo2⟩ := bar_low ((e :: xs).getD 0 0 + 1).toNat bt (fun x hx' => by
            rcases List.mem_cons.mp hx' with rfl | hx'
            · omega
            · have := hx x hx'; omega)
          refine ⟨p, ts, e :: xs, rfl, bnd, by show e < 2000; omega, bt, ?_⟩
          nofun
          refine ⟨p, ts, e :: xs, rfl, bnd, by show e < 2000; omega, bt, lo2, lo1, ?_⟩
          nofun
          refine w_neC (by with_unfolding_all rfl) (by with_unfolding_all rfl) (k := true) (by with_unfolding_all rfl) ?_
          nofun
          exact nxt _ _
        · rw [decide_eq_false c3]
          refine ⟨e :: xs, rfl, ok, by rw [List.length_cons]; omega, ?_⟩
          rw [be, decide_eq_false (by omega)]
          nofun
          exact nxt _ _
    · refine w_f (decide_eq_false c1) ?_
      nofun
      refine ⟨e :: xs, rfl, ok, by rw [List.length_cons]; omega, ?_⟩
      rw [be, decide_eq_false (by omega)]
      nofun
      exact nxt _ _
  · rintro ρ ⟨es, s5, s6, s7, e1, eb, e5, rfl⟩
    cases es with
    | cons e es => cases e1
    | nil =>
    obtain ⟨e, rfl, e6⟩ := e5 rfl
    nofun
    refine ⟨List.replicate 17 0, rfl, ⟨by decide, by decide, by decide⟩, by decide, ?_⟩
    rw [show barR (List.replicate 17 0) = false by decide]
    nofun
    refine w_slToL (n := 15) ?_
    nofun
    have ok : RowOk (e :: xs.take 15) := ⟨by rw [List.length_cons, List.length_take]; omega, by rw [List.length_cons, List.length_take]; omega, fun i hi => by
      rcases List.mem_cons.mp hi with rfl | hi
      · omega
      · have := hx i (List.mem_of_mem_take hi); omega⟩
    refine ⟨e :: xs.take 15, by rw [← List.map_take]; rfl, ok, by rw [List.length_cons, List.length_take]; omega, ?_⟩
    rw [show barR (e :: xs.take 15) = false from decide_eq_false fun h => by
      have := h.1
      rw [List.length_cons, List.length_take] at this
      omega]
    nofun
    exact ⟨_, rfl, q _ hl3⟩
  · intro e he
    simp only [List.mem_cons, List.not_mem_nil, or_false] at he
    omega

end K82

set_option Elab.async false
set_option linter.all false
set_option pp.deepTerms false
set_option maxRecDepth 100000
set_option maxHeartbeats 4000000
namespace K82
open PySem PySem.Spec PyProof.Rows L2 L3
local macro_rules | `(tactic| nofun) => `(tactic| repeat (first | with_reducible refine w_seq ?_ | with_reducible refine w_nx ?_ | with_reducible refine w_ret ?_ | with_reducible refine w_retN ?_ | with_reducible refine w_drop ?_ | with_reducible refine w_ifS ?_ | with_reducible refine w_asg ?_ | with_reducible refine w_for ?_ | with_reducible refine w_forC ?_ | with_reducible refine w_forN ?_ | with_reducible refine w_K ?_ | with_reducible refine w_N (by with_unfolding_all rfl) ?_ | with_reducible refine w_No (by with_unfolding_all rfl) ?_ | with_reducible refine w_2 ?_ | with_reducible refine w_nilA ?_ | with_reducible refine w_consA ?_ | with_reducible refine w_CD ?_ | with_reducible refine w_call ?_ | with_reducible refine w_add ?_ | with_reducible refine w_sub ?_ | with_reducible refine w_mul (cmw (by omega) (by omega)) ?_ | with_reducible refine w_mul (cmw (by first | decide | exact bd (by assumption)) (by first | decide | exact bd (by assumption))) ?_ | with_reducible refine w_slcT ?_ | with_reducible refine w_slR ?_ | with_reducible refine w_sumT ?_ | with_reducible refine w_sumL ?_ | with_reducible refine w_comp ?_ | with_reducible refine w_zip ?_ | with_reducible refine w_zipT (by with_unfolding_all rfl) ?_ | with_reducible refine w_zipL (by with_unfolding_all rfl) ?_ | with_reducible refine w_itv ?_ | with_reducible refine w_itvT (by with_unfolding_all rfl) ?_ | with_reducible refine w_itvL (by with_unfolding_all rfl) ?_ | with_reducible refine w_par ?_ | with_reducible refine w_tup1S ?_ | with_reducible refine w_s1L (by first | omega | (simp only [List.length_map, List.length_tail, List.length_reverse]; omega)) ?_ | with_reducible refine w_s1T (by first | omega | (simp only [List.length_map, List.length_tail, List.length_cons, List.length_nil]; omega)) ?_ | with_reducible refine w_minT (nn (by first | omega | (simp only [List.length_tail]; omega))) ?_ | with_reducible refine w_maxT (nn (by first | omega | (simp only [List.length_tail]; omega))) ?_ | with_reducible refine w_tup ?_ | with_reducible refine w_lst ?_ | with_reducible refine w_toL ?_ | with_reducible refine w_toLL ?_ | with_reducible refine w_toT ?_ | with_reducible refine w_gIx ⟨(by with_unfolding_all rfl), (by with_unfolding_all rfl)⟩ ?_ | with_reducible refine w_gIxR (by with_unfolding_all rfl) (by omega) (by first | omega | (simp only [List.length_set]; omega)) ?_ | with_reducible refine w_gNil ?_ | with_reducible refine w_gCons ?_ | with_reducible refine w_gTup (by with_unfolding_all rfl) ?_ | with_reducible refine w_tst ?_ | with_reducible refine w_tstB ?_ | with_reducible refine w_tru ?_ | with_reducible refine w_truB ?_ | with_reducible refine w_orL ?_ | with_reducible refine w_andL ?_ | with_reducible refine w_notL ?_ | with_reducible refine w_yes ?_ | with_reducible refine w_lenT ?_ | with_reducible refine w_lenL ?_ | with_reducible refine w_isiT (by with_unfolding_all rfl) (by with_unfolding_all decide) (by with_unfolding_all rfl) ?_ | with_reducible refine w_isiF (by with_unfolding_all rfl) (by with_unfolding_all decide) (by with_unfolding_all rfl) ?_ | with_reducible refine w_allT ?_ | with_reducible refine w_t (by with_unfolding_all rfl) ?_ | with_reducible refine w_f (by with_unfolding_all rfl) ?_ | with_reducible refine w_kin ?_ | with_reducible refine w_kget ?_ | with_reducible refine w_slc ?_ | with_reducible refine w_nop ?_ | with_reducible refine w_bk ?_ | with_reducible refine w_ifE ?_ | with_reducible refine w_ng ?_ | with_reducible refine w_ngI ?_ | with_reducible refine w_andV ?_ | with_reducible refine w_andB ?_ | with_reducible refine w_orV ?_ | with_reducible refine w_orB ?_ | with_reducible refine w_notV ?_ | with_reducible refine w_notB ?_ | with_reducible refine w_isNt ?_ | with_reducible refine w_maxL (nn (by first | omega | (simp only [List.length_tail]; omega))) ?_ | with_reducible refine w_addL (by simp only [List.length_append, List.length_replicate, List.length_cons, List.length_nil, List.length_map, List.length_take]; omega) ?_ | with_reducible refine w_repT2 (by first | decide | omega) (by first | decide | omega) ?_ | with_reducible refine w_addT (by simp only [List.length_append, List.length_replicate, List.length_cons, List.length_nil, List.length_map]; omega) ?_ | with_reducible refine w_toL ?_ | with_reducible refine w_toLL ?_ | with_reducible refine w_toT ?_ | with_reducible refine w_mul (cm2 (by first | decide | omega) (by first | decide | omega)) ?_ | with_reducible refine w_lenS ?_ | with_reducible refine w_fd (by first | assumption | decide | omega) (by first | decide | omega) ?_ | with_reducible refine w_ixCL (by with_unfolding_all rfl) ?_ | with_reducible refine w_gIxC (by with_unfolding_all rfl) (by with_unfolding_all rfl) ?_ | with_reducible refine w_mod (by first | assumption | omega) ?_ | with_reducible refine w_chn ?_ | with_reducible refine w_chnB ?_ | with_reducible refine w_isNf ?_ | with_reducible refine w_ifT ?_ | with_reducible refine w_tt ?_ | with_reducible refine w_ff ?_ | with_reducible refine w_star ?_ | with_reducible refine w_starL ?_ | with_reducible refine w_starT ?_ | with_reducible refine w_rev ?_ | with_reducible refine w_revL ?_ | with_reducible refine w_revT ?_ | with_reducible refine w_rng1 ?_ | with_reducible refine w_lrg1 ?_ | with_reducible refine w_qrg1 ?_ | with_reducible refine w_lrg2 ?_ | with_reducible refine w_app (by with_unfolding_all rfl) ?_ | with_reducible refine w_appI (by with_unfolding_all rfl) (by with_unfolding_all rfl) (by simp only [List.length_cons, List.length_nil, List.length_map]; omega) ?_ | with_reducible refine w_pop (by with_unfolding_all rfl) ?_ | with_reducible refine w_callM ?_ | with_reducible refine w_callMN ?_ | with_reducible refine w_callMI (by with_unfolding_all rfl) (by with_unfolding_all rfl) (by with_unfolding_all rfl) ?_ | with_reducible refine w_II ?_ | with_reducible refine w_abs ?_ | with_reducible refine w_intI ?_ | with_reducible refine w_intB ?_ | with_reducible refine w_srtL ?_ | with_reducible refine w_srtT ?_ | with_reducible refine w_srtRT ?_ | with_reducible refine w_slTo ?_ | with_reducible refine w_slToL ?_ | with_reducible refine w_aug (by with_unfolding_all rfl) ?_ | with_reducible refine w_augI ?_ | with_reducible refine w_gUn ?_ | with_reducible refine w_unL (by with_unfolding_all rfl) ?_ | with_reducible refine w_sortLam ?_ | with_reducible refine w_neL ?_ | with_reducible refine w_neB ?_ | with_reducible refine w_prt ?_ | with_reducible refine w_prtI ?_ | with_reducible refine w_lt ?_ | with_reducible refine w_le ?_ | with_reducible refine w_gt ?_ | with_reducible refine w_ge ?_ | with_reducible refine w_eqI ?_ | with_reducible refine w_neI ?_ | with_reducible refine w_eqR ?_ | with_reducible refine w_eqL ?_ | with_reducible refine w_ixR (by simp only [List.length_tail]; omega) (by simp only [List.length_tail]; omega) ?_ | with_reducible refine w_ixR (by omega) (by omega) ?_ | with_reducible refine w_ixL (by omega) (by first | omega | (simp only [List.length_set]; omega)) ?_ | with_reducible refine w_ixC (by with_unfolding_all rfl) ?_ | with_reducible refine w_gNm (by with_unfolding_all rfl) ?_ | with_reducible refine w_gNn ?_ | with_reducible refine ⟨(by with_unfolding_all rfl), ?_⟩ | with_reducible refine ⟨⟨(by with_unfolding_all rfl), (by with_unfolding_all rfl)⟩, ?_⟩ | with_reducible refine ⟨⟨(by with_unfolding_all rfl), sz (by simp only [List.length_cons, List.length_nil]; omega)⟩, ?_⟩ | (simp only [val_dat, val_new, val_ref, List.getElem?_cons_zero, List.getElem?_cons_succ, tupI, List.map_cons, List.map_nil, startR, startM, frzs, setsR, slotW, anyRef, wipeR, unwipe, List.any_cons, List.any_nil, List.filter_cons, List.filter_nil, List.length_cons, List.length_nil, List.replicate, List.set_cons_zero, List.set_cons_succ, List.cons_append, List.nil_append, Bool.or_false, Bool.or_self, Bool.false_eq_true, if_false, List.getD_cons_zero, List.getD_cons_succ, Nat.reduceSub, Nat.reduceAdd])))
local macro_rules | `(tactic| bv_omega) => `(tactic| repeat (first | with_reducible refine w_seq ?_ | with_reducible refine w_nx ?_ | with_reducible refine w_ret ?_ | with_reducible refine w_retN ?_ | with_reducible refine w_drop ?_ | with_reducible refine w_ifS ?_ | with_reducible refine w_asg ?_ | with_reducible refine w_for ?_ | with_reducible refine w_forN ?_ | with_reducible refine w_K ?_ | with_reducible refine w_N (by with_unfolding_all rfl) ?_ | with_reducible refine w_No (by with_unfolding_all rfl) ?_ | with_reducible refine w_2 ?_ | with_reducible refine w_nilA ?_ | with_reducible refine w_consA ?_ | with_reducible refine w_CD ?_ | with_reducible refine w_call ?_ | with_reducible refine w_add ?_ | with_reducible refine w_sub ?_ | with_reducible refine w_mul (cmw (by omega) (by omega)) ?_ | with_reducible refine w_mul (cmw (by first | decide | exact bd (by assumption)) (by first | decide | exact bd (by assumption))) ?_ | with_reducible refine w_slcT ?_ | with_reducible refine w_slR ?_ | with_reducible refine w_sumT ?_ | with_reducible refine w_sumL ?_ | with_reducible refine w_comp ?_ | with_reducible refine w_zip ?_ | with_reducible refine w_zipT (by with_unfolding_all rfl) ?_ | with_reducible refine w_zipL (by with_unfolding_all rfl) ?_ | with_reducible refine w_itv ?_ | with_reducible refine w_itvT (by with_unfolding_all rfl) ?_ | with_reducible refine w_itvL (by with_unfolding_all rfl) ?_ | with_reducible refine w_par ?_ | with_reducible refine w_tup1S ?_ | with_reducible refine w_s1L (by first | omega | (simp only [List.length_map, List.length_tail, List.length_reverse]; omega)) ?_ | with_reducible refine w_s1T (by first | omega | (simp only [List.length_map, List.length_tail, List.length_cons, List.length_nil]; omega)) ?_ | with_reducible refine w_minT (nn (by first | omega | (simp only [List.length_tail]; omega))) ?_ | with_reducible refine w_maxT (nn (by first | omega | (simp only [List.length_tail]; omega))) ?_ | with_reducible refine w_tup ?_ | with_reducible refine w_lst ?_ | with_reducible refine w_toL ?_ | with_reducible refine w_toLL ?_ | with_reducible refine w_toT ?_ | with_reducible refine w_gIx ⟨(by with_unfolding_all rfl), (by with_unfolding_all rfl)⟩ ?_ | with_reducible refine w_gIxR (by with_unfolding_all rfl) (by omega) (by first | omega | (simp only [List.length_set]; omega)) ?_ | with_reducible refine w_gNil ?_ | with_reducible refine w_gCons ?_ | with_reducible refine w_gTup (by with_unfolding_all rfl) ?_ | with_reducible refine w_tst ?_ | with_reducible refine w_tstB ?_ | with_reducible refine w_tru ?_ | with_reducible refine w_truB ?_ | with_reducible refine w_orL ?_ | with_reducible refine w_andL ?_ | with_reducible refine w_notL ?_ | with_reducible refine w_yes ?_ | with_reducible refine w_lenT ?_ | with_reducible refine w_lenL ?_ | with_reducible refine w_isiT (by with_unfolding_all rfl) (by with_unfolding_all decide) (by with_unfolding_all rfl) ?_ | with_reducible refine w_isiF (by with_unfolding_all rfl) (by with_unfolding_all decide) (by with_unfolding_all rfl) ?_ | with_reducible refine w_allT ?_ | with_reducible refine w_t (by with_unfolding_all rfl) ?_ | with_reducible refine w_f (by with_unfolding_all rfl) ?_ | with_reducible refine w_kin ?_ | with_reducible refine w_kget ?_ | with_reducible refine w_slc ?_ | with_reducible refine w_nop ?_ | with_reducible refine w_bk ?_ | with_reducible refine w_ifE ?_ | with_reducible refine w_ng ?_ | with_reducible refine w_ngI ?_ | with_reducible refine w_andV ?_ | with_reducible refine w_andB ?_ | with_reducible refine w_orV ?_ | with_reducible refine w_orB ?_ | with_reducible refine w_notV ?_ | with_reducible refine w_notB ?_ | with_reducible refine w_isNt ?_ | with_reducible refine w_maxL (nn (by first | omega | (simp only [List.length_tail]; omega))) ?_ | with_reducible refine w_addL (by simp only [List.length_append, List.length_replicate, List.length_cons, List.length_nil, List.length_map, List.length_take]; omega) ?_ | with_reducible refine w_repT2 (by first | decide | omega) (by first | decide | omega) ?_ | with_reducible refine w_addT (by simp only [List.length_append, List.length_replicate, List.length_cons, List.length_nil, List.length_map]; omega) ?_ | with_reducible refine w_toL ?_ | with_reducible refine w_toLL ?_ | with_reducible refine w_toT ?_ | with_reducible refine w_mul (cm2 (by first | decide | omega) (by first | decide | omega)) ?_ | with_reducible refine w_lenS ?_ | with_reducible refine w_fd (by first | assumption | decide | omega) (by first | decide | omega) ?_ | with_reducible refine w_ixCL (by with_unfolding_all rfl) ?_ | with_reducible refine w_gIxC (by with_unfolding_all rfl) (by with_unfolding_all rfl) ?_ | with_reducible refine w_mod (by first | assumption | omega) ?_ | with_reducible refine w_chn ?_ | with_reducible refine w_chnB ?_ | with_reducible refine w_isNf ?_ | with_reducible refine w_ifT ?_ | with_reducible refine w_tt ?_ | with_reducible refine w_ff ?_ | with_reducible refine w_star ?_ | with_reducible refine w_starL ?_ | with_reducible refine w_starT ?_ | with_reducible refine w_rev ?_ | with_reducible refine w_revL ?_ | with_reducible refine w_revT ?_ | with_reducible refine w_rng1 ?_ | with_reducible refine w_lrg1 ?_ | with_reducible refine w_qrg1 ?_ | with_reducible refine w_lrg2 ?_ | with_reducible refine w_app (by with_unfolding_all rfl) ?_ | with_reducible refine w_appI (by with_unfolding_all rfl) (by with_unfolding_all rfl) (by simp only [List.length_cons, List.length_nil, List.length_map]; omega) ?_ | with_reducible refine w_pop (by with_unfolding_all rfl) ?_ | with_reducible refine w_callM ?_ | with_reducible refine w_callMN ?_ | with_reducible refine w_callMI (by with_unfolding_all rfl) (by with_unfolding_all rfl) (by with_unfolding_all rfl) ?_ | with_reducible refine w_II ?_ | with_reducible refine w_abs ?_ | with_reducible refine w_intI ?_ | with_reducible refine w_intB ?_ | with_reducible refine w_srtL ?_ | with_reducible refine w_srtT ?_ | with_reducible refine w_srtRT ?_ | with_reducible refine w_slTo ?_ | with_reducible refine w_slToL ?_ | with_reducible refine w_aug (by with_unfolding_all rfl) ?_ | with_reducible refine w_augI ?_ | with_reducible refine w_gUn ?_ | with_reducible refine w_unL (by with_unfolding_all rfl) ?_ | with_reducible refine w_sortLam ?_ | with_reducible refine w_neL ?_ | with_reducible refine w_neB ?_ | with_reducible refine w_prt ?_ | with_reducible refine w_prtI ?_ | with_reducible refine w_lt ?_ | with_reducible refine w_le ?_ | with_reducible refine w_gt ?_ | with_reducible refine w_ge ?_ | with_reducible refine w_eqI ?_ | with_reducible refine w_neI ?_ | with_reducible refine w_eqR ?_ | with_reducible refine w_eqL ?_ | with_reducible refine w_ixR (by simp only [List.length_tail]; omega) (by simp only [List.length_tail]; omega) ?_ | with_reducible refine w_ixR (by omega) (by omega) ?_ | with_reducible refine w_ixL (by omega) (by first | omega | (simp only [List.length_set]; omega)) ?_ | with_reducible refine w_ixC (by with_unfolding_all rfl) ?_ | with_reducible refine w_gNm (by with_unfolding_all rfl) ?_ | with_reducible refine w_gNn ?_ | with_reducible refine ⟨(by with_unfolding_all rfl), ?_⟩ | with_reducible refine ⟨⟨(by with_unfolding_all rfl), (by with_unfolding_all rfl)⟩, ?_⟩ | with_reducible refine ⟨⟨(by with_unfolding_all rfl), sz (by simp only [List.length_cons, List.length_nil]; omega)⟩, ?_⟩ | (simp only [val_dat, val_new, val_ref, List.getElem?_cons_zero, List.getElem?_cons_succ, tupI, List.map_cons, List.map_nil, startR, startM, frzs, setsR, slotW, anyRef, wipeR, unwipe, List.any_cons, List.any_nil, List.filter_cons, List.filter_nil, List.length_cons, List.length_nil, List.replicate, List.set_cons_zero, List.set_cons_succ, List.cons_append, List.nil_append, Bool.or_false, Bool.or_self, Bool.false_eq_true, if_false, List.getD_cons_zero, List.getD_cons_succ, Nat.reduceSub, Nat.reduceAdd])))
theorem bent_ok {row : List Int} {a b : Nat} (hs : SmallR row) (hd : row.getD 0 0 ≤ 1024) (ha : 1 ≤ a) (hb : 1 ≤ b) {x y : Int} (hx : x.natAbs < 10 ^ 50) (hy : y.natAbs < 10 ^ 50) : SmallR ((row.set a x).set b y) := by
  obtain ⟨h1, h2, h3, h4⟩ := hs
  refine ⟨by rw [List.length_set, List.length_set]; exact h1, by rw [List.length_set, List.length_set]; exact h2, ?_, fun i hi => ?_⟩
  · rw [set_getD, set_getD, if_neg (by omega), if_neg (by omega)]; exact h3
  · rcases List.mem_or_eq_of_mem_set hi with h | rfl
    · rcases List.mem_or_eq_of_mem_set h with h | rfl
      · exact h4 i h
      · exact hx
    · exact hy
theorem two_of {ys : List Int} {n : Nat} (hn : 2 ≤ n) (p : ys.Perm ((List.range n).map fun x : Nat => (1 + (x : Int)))) : ∃ a b : Nat, ys.take 2 = [(a : Int), (b : Int)] ∧ 1 ≤ a ∧ a ≤ n ∧ 1 ≤ b ∧ b ≤ n ∧ a ≠ b := by
  have hl : ys.length = n := by rw [p.length_eq, List.length_map, List.length_range]
  have hm : ∀ x ∈ ys, ∃ y : Nat, x = y ∧ 1 ≤ y ∧ y ≤ n := fun x hx => by
    obtain ⟨y, hy, rfl⟩ := List.mem_map.mp (p.mem_iff.mp hx)
    have := List.mem_range.mp hy
    exact ⟨1 + y, by omega, by omega, by omega⟩
  have nd : ys.Nodup := p.nodup_iff.mpr (List.pairwise_map.mpr (List.Pairwise.imp (fun h e => h (by omega)) List.nodup_range))
  match ys, hl, hm, nd with
  | [], hl, _, _ => simp at hl; omega
  | [_], hl, _, _ => simp at hl; omega
  | x :: y :: l, _, hm, nd =>
    obtain ⟨a, rfl, a1, a2⟩ := hm x (by simp)
    obtain ⟨b, rfl, b1, b2⟩ := hm y (by simp)
    refine ⟨a, b, rfl, a1, a2, b1, b2, fun e => ?_⟩
    subst e
    simp at nd
theorem prod_len {n : Nat} {ms : List Mv} {r : List Int} (h : r.length = n + 1) : (ms.foldl Mv.r r).length = n + 1 := (fold_len ms r).trans h
theorem small_ok {r : List Int} (h : SmallR r) : RowOk r := (small_end h).1
theorem sem__law_cell_right (l ds : List D) (Q : W → List D → Prop) (h : P__law_cell_right l ds Q) : t__law_cell_right { nx := fun ρ => ∃ l', ρ[0]? = some (.own l') ∧ Q (.dat .non) l', rt := fun w ρ => ∃ l', ρ[0]? = some (.own l') ∧ Q w l' } (startM N__law_cell_right.length l ds) := by
  obtain ⟨rfl, hd, q⟩ := h
  unfold t__law_cell_right
  bv_omega
  refine roll_any hd (by decide) (by decide) (by decide) fun v v0 v1 l1 hl1 => ?_
  obtain ⟨n, en⟩ : ∃ n : Nat, 10 + v = n := ⟨(10 + v).toNat, by omega⟩
  bv_omega
  rw [en]
  bv_omega
  refine roll_any hl1 (by decide) (by omega) (by omega) fun k k0 k1 l2 hl2 => ?_
  bv_omega
  refine ⟨n, k, rfl, by omega, ?_⟩
  bv_omega
  refine ⟨_, n, 10, rfl, hl2, by decide, by omega, by omega, by omega, fun ms hms hmo l3 hl3 => ?_⟩
  bv_omega
  obtain ⟨g1, g2, g3, g4⟩ := point_good (by omega) (by omega) k0 k1 hms hmo
  have gl := prod_len (ms := ms) (ptR_orb k0 k1).1
  refine ⟨ptR n k, ms, rfl, ⟨by rw [(ptR_orb k0 k1).1]; omega, by rw [(ptR_orb k0 k1).1]; omega⟩, by rw [(ptR_orb k0 k1).1]; exact hmo, ?_⟩
  generalize ms.foldl Mv.r (ptR n k) = row at *
  bv_omega
  refine ⟨row, rfl, small_ok g1, g1.1, g1.2.2.1, ?_⟩
  rw [g2]
  bv_omega
  refine ⟨row, rfl, g1, ?_⟩
  bv_omega
  refine w_lrg2I (by unfold RgB BndI; omega) ?_
  bv_omega
  refine ⟨_, (List.range n).map fun x : Nat => 1 + (x : Int), ?_, hl3, by decide, by simp; omega, fun ys hp l4 hl4 => ?_⟩
  · unfold rngD
    rw [show ((n : Int) + 1 - 1).toNat = n by omega, List.map_map]
    rfl
  bv_omega
  refine w_slToL (n := 2) ?_
  rw [← List.map_take]
  obtain ⟨a, b, e2, a1, a2, b1, b2, ab⟩ := two_of (by omega) hp
  rw [e2]
  have ra := g4 _ (getD_mem (show a < row.length by omega))
  have rb := g4 _ (getD_mem (show b < row.length by omega))
  bv_omega
  refine ⟨_, n, rfl, hl4, by decide, by omega, fun sr sr1 sr2 l5 hl5 => ?_⟩
  bv_omega
  refine ⟨n, rfl, by omega, ?_⟩
  bv_omega
  have sb : SmallR ((row.set a (row.getD a 0 + 1)).set b (row.getD b 0 - 1)) := bent_ok g1 g3 a1 b1 (by omega) (by omega)
  have s2 : SmallR sr := ⟨by omega, by omega, by have := sr2 _ (getD_mem (show 0 < sr.length by omega)); omega, fun i hi => by have := sr2 i hi; omega⟩
  have s3 : SmallR (cubicR n) := ⟨by simp [cubicR]; omega, by simp [cubicR]; omega, by show (3 : Int) ≤ 2000; decide, fun i hi => by
    rcases List.mem_cons.mp hi with rfl | hi
    · decide
    · rw [(List.mem_replicate.mp hi).2]; decide⟩
  have s4 : SmallR (List.replicate (n + 1) 0) := ⟨by simp; omega, by simp; omega, by rw [List.replicate_succ]; show (0 : Int) ≤ 2000; decide, fun i hi => by rw [(List.mem_replicate.mp hi).2]; decide⟩
  nofun
  refine ⟨(row.set a (row.getD a 0 + 1)).set b (row.getD b 0 - 1), rfl, sb, ?_⟩
  nofun
  refine ⟨sr, rfl, s2, ?_⟩
  nofun
  refine ⟨cubicR n, rfl, s3, ?_⟩
  nofun
  refine ⟨List.replicate (n + 1) 0, by rw [show ((n : Int) + 1).toNat = n + 1 by omega]; unfold rowD tupI; rw [List.map_replicate], s4, ?_⟩
  nofun
  refine ⟨n, rfl, by omega, by omega, ?_⟩
  nofun
  refine ⟨_, _, rfl, hl5, by decide, by simp [falseR], by simp [falseR], fun d hd l6 hl6 => ?_⟩
  obtain ⟨one, ho, rfl⟩ := List.mem_map.mp hd
  nofun
  refine ⟨_, n, 5, rfl, hl6, by decide, by omega, by omega, by omega, fun ms hms hmo l7 hl7 => ?_⟩
  nofun
  obtain ⟨f1, f2⟩ := false_good (by omega) (by omega) ho hms hmo
  obtain ⟨p1, p2⟩ := false_prod (ms := ms) (by omega) (by omega) ho hmo
  obtain ⟨o1, o2⟩ := false_good (ms := []) (by omega) (by omega) ho (by simp) (by simp)
  have fo := false_orb (by omega) (by omega) ho
  refine ⟨one, ms, rfl, ⟨by omega, by omega⟩, by rw [fo.1]; exact hmo, ?_⟩
  have f3 := small_ok f1
  have c3 := small_ok s3
  generalize ms.foldl Mv.r one = there at *
  nofun
  refine ⟨there, there, rfl, f3, f3, ?_⟩
  rw [p1]
  nofun
  refine ⟨n, rfl, by omega, ?_⟩
  nofun
  refine ⟨there, cubicR n, rfl, f3, c3, ?_⟩
  rw [p2]
  nofun
  refine ⟨there, rfl, f3, f1.1, f1.2.2.1, ?_⟩
  rw [f2]
  nofun
  refine ⟨there, rfl, f3, f1.1, f1.2.2.1, ?_⟩
  rw [f2]
  nofun
  refine ⟨one, rfl, small_ok o1, o1.1, o1.2.2.1, ?_⟩
  rw [show isPtR (endR one) = false from o2]
  nofun
  exact ⟨_, rfl, q _ (hl7.up (by decide))⟩
theorem sem_law (ds : List D) (Q : W → Prop) (h : P_law ds Q) : t_law { nx := fun _ => Q (.dat .non), rt := fun w _ => Q w } (startR N_law.length ds) := by
  obtain ⟨ns, rfl, q⟩ := h
  unfold t_law
  bv_omega
  rw [List.length_map]
  refine w_rngI (by unfold BndI; omega) ?_
  refine forD_run (fun ds ρ => ∃ (ks : List Nat) (s1 s2 : Slot), ds = ks.map (fun k : Nat => D.int k) ∧ (∀ k ∈ ks, k ≤ 4) ∧ ρ = [.dat (.scr (ns.map D.int)), s1, s2]) ?_ ?_ _ _ ⟨_, _, _, rfl, fun k hk => by have := List.mem_range.mp hk; omega, rfl⟩
  · rintro d ds ρ ⟨ks, s1, s2, e1, kb, rfl⟩ C hC
    cases ks with
    | nil => cases e1
    | cons k ks =>
    obtain ⟨rfl, rfl⟩ := List.cons.inj e1
    bv_omega
    refine ⟨ns, k, rfl, kb k List.mem_cons_self, fun l hl => ?_⟩
    bv_omega
    refine ⟨rfl, hl, fun l' hl' => ?_⟩
    bv_omega
    exact hC _ ⟨ks, _, _, rfl, fun x hx => kb x (List.mem_cons_of_mem _ hx), rfl⟩
  · rintro ρ ⟨ks, s1, s2, e1, kb, rfl⟩
    bv_omega
    refine ⟨ns, 0, rfl, by omega, fun l hl => ?_⟩
    bv_omega
    refine ⟨rfl, hl, fun l' hl' => ?_⟩
    bv_omega
    exact q

end K82

set_option Elab.async false
set_option linter.all false
set_option maxRecDepth 100000
set_option maxHeartbeats 4000000
namespace K82
open PySem PySem.Spec PyProof.Rows L2 L3

theorem ex_imp {α : Sort _} {p q : α → Prop} (h : ∀ a, p a → q a) : (∃ a, p a) → ∃ a, q a := fun ⟨a, x⟩ => ⟨a, h a x⟩
theorem and_imp' {a b c : Prop} (h : b → c) : a ∧ b → a ∧ c := fun x => ⟨x.1, h x.2⟩

theorem pr_is_whole : PrmOk 1 P_is_whole := by
  refine ⟨fun ds Q Q' h => ?_, fun ds Q h => ?_⟩
  · unfold P_is_whole
    repeat (first | refine ex_imp (fun _ => ?_) | refine and_imp' ?_)
    first | exact h _ | exact h _ _ | (intro k; intros; apply h; apply k <;> assumption)
  · unfold P_is_whole at h
    grind
theorem pr_is_integer : PrmOk 1 P_is_integer := by
  refine ⟨fun ds Q Q' h => ?_, fun ds Q h => ?_⟩
  · unfold P_is_integer
    repeat (first | refine ex_imp (fun _ => ?_) | refine and_imp' ?_)
    first | exact h _ | exact h _ _ | (intro k; intros; apply h; apply k <;> assumption)
  · unfold P_is_integer at h
    grind
theorem pr_is_within : PrmOk 3 P_is_within := by
  refine ⟨fun ds Q Q' h => ?_, fun ds Q h => ?_⟩
  · unfold P_is_within
    repeat (first | refine ex_imp (fun _ => ?_) | refine and_imp' ?_)
    first | exact h _ | exact h _ _ | (intro k; intros; apply h; apply k <;> assumption)
  · unfold P_is_within at h
    grind
theorem pr_is_prime_in : PrmOk 1 P_is_prime_in := by
  refine ⟨fun ds Q Q' h => ?_, fun ds Q h => ?_⟩
  · unfold P_is_prime_in
    repeat (first | refine ex_imp (fun _ => ?_) | refine and_imp' ?_)
    first | exact h _ | exact h _ _ | (intro k; intros; apply h; apply k <;> assumption)
  · unfold P_is_prime_in at h
    grind
theorem pr_require_prime : PrmOk 1 P_require_prime := by
  refine ⟨fun ds Q Q' h => ?_, fun ds Q h => ?_⟩
  · unfold P_require_prime
    repeat (first | refine ex_imp (fun _ => ?_) | refine and_imp' ?_)
    first | exact h _ | exact h _ _ | (intro k; intros; apply h; apply k <;> assumption)
  · unfold P_require_prime at h
    grind
theorem pr_is_point_in : PrmOk 2 P_is_point_in := by
  refine ⟨fun ds Q Q' h => ?_, fun ds Q h => ?_⟩
  · unfold P_is_point_in
    repeat (first | refine ex_imp (fun _ => ?_) | refine and_imp' ?_)
    first | exact h _ | exact h _ _ | (intro k; intros; apply h; apply k <;> assumption)
  · unfold P_is_point_in at h
    grind
theorem pr_are_points_in : PrmOk 2 P_are_points_in := by
  refine ⟨fun ds Q Q' h => ?_, fun ds Q h => ?_⟩
  · unfold P_are_points_in
    repeat (first | refine ex_imp (fun _ => ?_) | refine and_imp' ?_)
    first | exact h _ | exact h _ _ | (intro k; intros; apply h; apply k <;> assumption)
  · unfold P_are_points_in at h
    grind
theorem pr_require_points : PrmOk 2 P_require_points := by
  refine ⟨fun ds Q Q' h => ?_, fun ds Q h => ?_⟩
  · unfold P_require_points
    repeat (first | refine ex_imp (fun _ => ?_) | refine and_imp' ?_)
    first | exact h _ | exact h _ _ | (intro k; intros; apply h; apply k <;> assumption)
  · unfold P_require_points at h
    grind
theorem pr_points_of : PrmOk 1 P_points_of := by
  refine ⟨fun ds Q Q' h => ?_, fun ds Q h => ?_⟩
  · unfold P_points_of
    repeat (first | refine ex_imp (fun _ => ?_) | refine and_imp' ?_)
    first | exact h _ | exact h _ _ | (intro k; intros; apply h; apply k <;> assumption)
  · unfold P_points_of at h
    grind
theorem pr_is_row_in : PrmOk 1 P_is_row_in := by
  refine ⟨fun ds Q Q' h => ?_, fun ds Q h => ?_⟩
  · unfold P_is_row_in
    repeat (first | refine ex_imp (fun _ => ?_) | refine and_imp' ?_)
    first | exact h _ | exact h _ _ | (intro k; intros; apply h; apply k <;> assumption)
  · unfold P_is_row_in at h
    grind
theorem pr_require_row : PrmOk 3 P_require_row := by
  refine ⟨fun ds Q Q' h => ?_, fun ds Q h => ?_⟩
  · unfold P_require_row
    repeat (first | refine ex_imp (fun _ => ?_) | refine and_imp' ?_)
    first | exact h _ | exact h _ _ | (intro k; intros; apply h; apply k <;> assumption)
  · unfold P_require_row at h
    grind
theorem pr_product_in : PrmOk 2 P_product_in := by
  refine ⟨fun ds Q Q' h => ?_, fun ds Q h => ?_⟩
  · unfold P_product_in
    repeat (first | refine ex_imp (fun _ => ?_) | refine and_imp' ?_)
    first | exact h _ | exact h _ _ | (intro k; intros; apply h; apply k <;> assumption)
  · unfold P_product_in at h
    grind
theorem pr_square_in : PrmOk 1 P_square_in := by
  refine ⟨fun ds Q Q' h => ?_, fun ds Q h => ?_⟩
  · unfold P_square_in
    repeat (first | refine ex_imp (fun _ => ?_) | refine and_imp' ?_)
    first | exact h _ | exact h _ _ | (intro k; intros; apply h; apply k <;> assumption)
  · unfold P_square_in at h
    grind
theorem pr_with_cubic_in : PrmOk 1 P_with_cubic_in := by
  refine ⟨fun ds Q Q' h => ?_, fun ds Q h => ?_⟩
  · unfold P_with_cubic_in
    repeat (first | refine ex_imp (fun _ => ?_) | refine and_imp' ?_)
    first | exact h _ | exact h _ _ | (intro k; intros; apply h; apply k <;> assumption)
  · unfold P_with_cubic_in at h
    grind
theorem pr_counting_in : PrmOk 1 P_counting_in := by
  refine ⟨fun ds Q Q' h => ?_, fun ds Q h => ?_⟩
  · unfold P_counting_in
    repeat (first | refine ex_imp (fun _ => ?_) | refine and_imp' ?_)
    first | exact h _ | exact h _ _ | (intro k; intros; apply h; apply k <;> assumption)
  · unfold P_counting_in at h
    grind
theorem pr_is_index_below : PrmOk 2 P_is_index_below := by
  refine ⟨fun ds Q Q' h => ?_, fun ds Q h => ?_⟩
  · unfold P_is_index_below
    repeat (first | refine ex_imp (fun _ => ?_) | refine and_imp' ?_)
    first | exact h _ | exact h _ _ | (intro k; intros; apply h; apply k <;> assumption)
  · unfold P_is_index_below at h
    grind
theorem pr_is_move_in : PrmOk 2 P_is_move_in := by
  refine ⟨fun ds Q Q' h => ?_, fun ds Q h => ?_⟩
  · unfold P_is_move_in
    repeat (first | refine ex_imp (fun _ => ?_) | refine and_imp' ?_)
    first | exact h _ | exact h _ _ | (intro k; intros; apply h; apply k <;> assumption)
  · unfold P_is_move_in at h
    grind
theorem pr_is_word_in : PrmOk 2 P_is_word_in := by
  refine ⟨fun ds Q Q' h => ?_, fun ds Q h => ?_⟩
  · unfold P_is_word_in
    repeat (first | refine ex_imp (fun _ => ?_) | refine and_imp' ?_)
    first | exact h _ | exact h _ _ | (intro k; intros; apply h; apply k <;> assumption)
  · unfold P_is_word_in at h
    grind
theorem pr_require_word : PrmOk 2 P_require_word := by
  refine ⟨fun ds Q Q' h => ?_, fun ds Q h => ?_⟩
  · unfold P_require_word
    repeat (first | refine ex_imp (fun _ => ?_) | refine and_imp' ?_)
    first | exact h _ | exact h _ _ | (intro k; intros; apply h; apply k <;> assumption)
  · unfold P_require_word at h
    grind
theorem pr_is_passable : PrmOk 1 P_is_passable := by
  refine ⟨fun ds Q Q' h => ?_, fun ds Q h => ?_⟩
  · unfold P_is_passable
    repeat (first | refine ex_imp (fun _ => ?_) | refine and_imp' ?_)
    first | exact h _ | exact h _ _ | (intro k; intros; apply h; apply k <;> assumption)
  · unfold P_is_passable at h
    grind
theorem pr_require_passable : PrmOk 1 P_require_passable := by
  refine ⟨fun ds Q Q' h => ?_, fun ds Q h => ?_⟩
  · unfold P_require_passable
    repeat (first | refine ex_imp (fun _ => ?_) | refine and_imp' ?_)
    first | exact h _ | exact h _ _ | (intro k; intros; apply h; apply k <;> assumption)
  · unfold P_require_passable at h
    grind
theorem pr_turn_in : PrmOk 4 P_turn_in := by
  refine ⟨fun ds Q Q' h => ?_, fun ds Q h => ?_⟩
  · unfold P_turn_in
    repeat (first | refine ex_imp (fun _ => ?_) | refine and_imp' ?_)
    first | exact h _ | exact h _ _ | (intro k; intros; apply h; apply k <;> assumption)
  · unfold P_turn_in at h
    grind
theorem pr_moved_once : PrmOk 2 P_moved_once := by
  refine ⟨fun ds Q Q' h => ?_, fun ds Q h => ?_⟩
  · unfold P_moved_once
    repeat (first | refine ex_imp (fun _ => ?_) | refine and_imp' ?_)
    first | exact h _ | exact h _ _ | (intro k; intros; apply h; apply k <;> assumption)
  · unfold P_moved_once at h
    grind
theorem pr_moved_in : PrmOk 2 P_moved_in := by
  refine ⟨fun ds Q Q' h => ?_, fun ds Q h => ?_⟩
  · unfold P_moved_in
    repeat (first | refine ex_imp (fun _ => ?_) | refine and_imp' ?_)
    first | exact h _ | exact h _ _ | (intro k; intros; apply h; apply k <;> assumption)
  · unfold P_moved_in at h
    grind
theorem pr_moved : PrmOk 2 P_moved := by
  refine ⟨fun ds Q Q' h => ?_, fun ds Q h => ?_⟩
  · unfold P_moved
    repeat (first | refine ex_imp (fun _ => ?_) | refine and_imp' ?_)
    first | exact h _ | exact h _ _ | (intro k; intros; apply h; apply k <;> assumption)
  · unfold P_moved at h
    grind
theorem pr_require_many : PrmOk 1 P_require_many := by
  refine ⟨fun ds Q Q' h => ?_, fun ds Q h => ?_⟩
  · unfold P_require_many
    repeat (first | refine ex_imp (fun _ => ?_) | refine and_imp' ?_)
    first | exact h _ | exact h _ _ | (intro k; intros; apply h; apply k <;> assumption)
  · unfold P_require_many at h
    grind
theorem pr_greatest_three : PrmOk 1 P_greatest_three := by
  refine ⟨fun ds Q Q' h => ?_, fun ds Q h => ?_⟩
  · unfold P_greatest_three
    repeat (first | refine ex_imp (fun _ => ?_) | refine and_imp' ?_)
    first | exact h _ | exact h _ _ | (intro k; intros; apply h; apply k <;> assumption)
  · unfold P_greatest_three at h
    grind
theorem pr_is_triple_above : PrmOk 2 P_is_triple_above := by
  refine ⟨fun ds Q Q' h => ?_, fun ds Q h => ?_⟩
  · unfold P_is_triple_above
    repeat (first | refine ex_imp (fun _ => ?_) | refine and_imp' ?_)
    first | exact h _ | exact h _ _ | (intro k; intros; apply h; apply k <;> assumption)
  · unfold P_is_triple_above at h
    grind
theorem pr_clipped : PrmOk 1 P_clipped := by
  refine ⟨fun ds Q Q' h => ?_, fun ds Q h => ?_⟩
  · unfold P_clipped
    repeat (first | refine ex_imp (fun _ => ?_) | refine and_imp' ?_)
    first | exact h _ | exact h _ _ | (intro k; intros; apply h; apply k <;> assumption)
  · unfold P_clipped at h
    grind
theorem pr_standard_end : PrmOk 1 P_standard_end := by
  refine ⟨fun ds Q Q' h => ?_, fun ds Q h => ?_⟩
  · unfold P_standard_end
    repeat (first | refine ex_imp (fun _ => ?_) | refine and_imp' ?_)
    first | exact h _ | exact h _ _ | (intro k; intros; apply h; apply k <;> assumption)
  · unfold P_standard_end at h
    grind
theorem pr_lower_of : PrmOk 1 P_lower_of := by
  refine ⟨fun ds Q Q' h => ?_, fun ds Q h => ?_⟩
  · unfold P_lower_of
    repeat (first | refine ex_imp (fun _ => ?_) | refine and_imp' ?_)
    first | exact h _ | exact h _ _ | (intro k; intros; apply h; apply k <;> assumption)
  · unfold P_lower_of at h
    grind
theorem pr_is_barred_in : PrmOk 1 P_is_barred_in := by
  refine ⟨fun ds Q Q' h => ?_, fun ds Q h => ?_⟩
  · unfold P_is_barred_in
    repeat (first | refine ex_imp (fun _ => ?_) | refine and_imp' ?_)
    first | exact h _ | exact h _ _ | (intro k; intros; apply h; apply k <;> assumption)
  · unfold P_is_barred_in at h
    grind
theorem pr_upper_of : PrmOk 4 P_upper_of := by
  refine ⟨fun ds Q Q' h => ?_, fun ds Q h => ?_⟩
  · unfold P_upper_of
    repeat (first | refine ex_imp (fun _ => ?_) | refine and_imp' ?_)
    first | exact h _ | exact h _ _ | (intro k; intros; apply h; apply k <;> assumption)
  · unfold P_upper_of at h
    grind
theorem pr_walk_to_point : PrmOk 1 P_walk_to_point := by
  refine ⟨fun ds Q Q' h => ?_, fun ds Q h => ?_⟩
  · unfold P_walk_to_point
    repeat (first | refine ex_imp (fun _ => ?_) | refine and_imp' ?_)
    first | exact h _ | exact h _ _ | (intro k; intros; apply h; apply k <;> assumption)
  · unfold P_walk_to_point at h
    grind
theorem pr_is_row_of_point : PrmOk 1 P_is_row_of_point := by
  refine ⟨fun ds Q Q' h => ?_, fun ds Q h => ?_⟩
  · unfold P_is_row_of_point
    repeat (first | refine ex_imp (fun _ => ?_) | refine and_imp' ?_)
    first | exact h _ | exact h _ _ | (intro k; intros; apply h; apply k <;> assumption)
  · unfold P_is_row_of_point at h
    grind
theorem pr_require_bounded : PrmOk 3 P_require_bounded := by
  refine ⟨fun ds Q Q' h => ?_, fun ds Q h => ?_⟩
  · unfold P_require_bounded
    repeat (first | refine ex_imp (fun _ => ?_) | refine and_imp' ?_)
    first | exact h _ | exact h _ _ | (intro k; intros; apply h; apply k <;> assumption)
  · unfold P_require_bounded at h
    grind
theorem pr_is_square_barred : PrmOk 1 P_is_square_barred := by
  refine ⟨fun ds Q Q' h => ?_, fun ds Q h => ?_⟩
  · unfold P_is_square_barred
    repeat (first | refine ex_imp (fun _ => ?_) | refine and_imp' ?_)
    first | exact h _ | exact h _ _ | (intro k; intros; apply h; apply k <;> assumption)
  · unfold P_is_square_barred at h
    grind
theorem pr_row_above : PrmOk 3 P_row_above := by
  refine ⟨fun ds Q Q' h => ?_, fun ds Q h => ?_⟩
  · unfold P_row_above
    repeat (first | refine ex_imp (fun _ => ?_) | refine and_imp' ?_)
    first | exact h _ | exact h _ _ | (intro k; intros; apply h; apply k <;> assumption)
  · unfold P_row_above at h
    grind
theorem pr_bounds : PrmOk 3 P_bounds := by
  refine ⟨fun ds Q Q' h => ?_, fun ds Q h => ?_⟩
  · unfold P_bounds
    repeat (first | refine ex_imp (fun _ => ?_) | refine and_imp' ?_)
    first | exact h _ | exact h _ _ | (intro k; intros; apply h; apply k <;> assumption)
  · unfold P_bounds at h
    grind
theorem pr_is_led_to_point : PrmOk 1 P_is_led_to_point := by
  refine ⟨fun ds Q Q' h => ?_, fun ds Q h => ?_⟩
  · unfold P_is_led_to_point
    repeat (first | refine ex_imp (fun _ => ?_) | refine and_imp' ?_)
    first | exact h _ | exact h _ _ | (intro k; intros; apply h; apply k <;> assumption)
  · unfold P_is_led_to_point at h
    grind
theorem pr_word_to_point : PrmOk 1 P_word_to_point := by
  refine ⟨fun ds Q Q' h => ?_, fun ds Q h => ?_⟩
  · unfold P_word_to_point
    repeat (first | refine ex_imp (fun _ => ?_) | refine and_imp' ?_)
    first | exact h _ | exact h _ _ | (intro k; intros; apply h; apply k <;> assumption)
  · unfold P_word_to_point at h
    grind
theorem pr__law_dice : PrmOk 2 P__law_dice := by
  refine ⟨fun ds Q Q' h => ?_, fun ds Q h => ?_⟩
  · unfold P__law_dice
    repeat (first | refine ex_imp (fun _ => ?_) | refine and_imp' ?_)
    first | exact h _ | exact h _ _ | (intro k; intros; apply h; apply k <;> assumption)
  · unfold P__law_dice at h
    grind
theorem pr__law_roll : PrmMOk 2 P__law_roll := by
  refine ⟨fun l ds Q Q' h => ?_, fun l ds Q h => ?_⟩
  · unfold P__law_roll
    repeat (first | refine ex_imp (fun _ => ?_) | refine and_imp' ?_)
    first | exact h _ | exact h _ _ | (intro k; intros; apply h; apply k <;> assumption)
  · unfold P__law_roll at h
    grind
theorem pr__law_one_of : PrmMOk 2 P__law_one_of := by
  refine ⟨fun l ds Q Q' h => ?_, fun l ds Q h => ?_⟩
  · unfold P__law_one_of
    repeat (first | refine ex_imp (fun _ => ?_) | refine and_imp' ?_)
    first | exact h _ | exact h _ _ | (intro k; intros; apply h; apply k <;> assumption)
  · unfold P__law_one_of at h
    grind
theorem pr__law_mixed : PrmMOk 2 P__law_mixed := by
  refine ⟨fun l ds Q Q' h => ?_, fun l ds Q h => ?_⟩
  · unfold P__law_mixed
    repeat (first | refine ex_imp (fun _ => ?_) | refine and_imp' ?_)
    first | exact h _ | exact h _ _ | (intro k; intros; apply h; apply k <;> assumption)
  · unfold P__law_mixed at h
    grind
theorem pr__law_times : PrmOk 2 P__law_times := by
  refine ⟨fun ds Q Q' h => ?_, fun ds Q h => ?_⟩
  · unfold P__law_times
    repeat (first | refine ex_imp (fun _ => ?_) | refine and_imp' ?_)
    first | exact h _ | exact h _ _ | (intro k; intros; apply h; apply k <;> assumption)
  · unfold P__law_times at h
    grind
theorem pr__law_cubic : PrmOk 1 P__law_cubic := by
  refine ⟨fun ds Q Q' h => ?_, fun ds Q h => ?_⟩
  · unfold P__law_cubic
    repeat (first | refine ex_imp (fun _ => ?_) | refine and_imp' ?_)
    first | exact h _ | exact h _ _ | (intro k; intros; apply h; apply k <;> assumption)
  · unfold P__law_cubic at h
    grind
theorem pr__law_point_row : PrmOk 2 P__law_point_row := by
  refine ⟨fun ds Q Q' h => ?_, fun ds Q h => ?_⟩
  · unfold P__law_point_row
    repeat (first | refine ex_imp (fun _ => ?_) | refine and_imp' ?_)
    first | exact h _ | exact h _ _ | (intro k; intros; apply h; apply k <;> assumption)
  · unfold P__law_point_row at h
    grind
theorem pr__law_small_row : PrmMOk 3 P__law_small_row := by
  refine ⟨fun l ds Q Q' h => ?_, fun l ds Q h => ?_⟩
  · unfold P__law_small_row
    repeat (first | refine ex_imp (fun _ => ?_) | refine and_imp' ?_)
    first | exact h _ | exact h _ _ | (intro k; intros; apply h; apply k <;> assumption)
  · unfold P__law_small_row at h
    grind
theorem pr__law_word : PrmMOk 3 P__law_word := by
  refine ⟨fun l ds Q Q' h => ?_, fun l ds Q h => ?_⟩
  · unfold P__law_word
    repeat (first | refine ex_imp (fun _ => ?_) | refine and_imp' ?_)
    first | exact h _ | exact h _ _ | (intro k; intros; apply h; apply k <;> assumption)
  · unfold P__law_word at h
    grind
theorem pr__law_move : PrmOk 2 P__law_move := by
  refine ⟨fun ds Q Q' h => ?_, fun ds Q h => ?_⟩
  · unfold P__law_move
    repeat (first | refine ex_imp (fun _ => ?_) | refine and_imp' ?_)
    first | exact h _ | exact h _ _ | (intro k; intros; apply h; apply k <;> assumption)
  · unfold P__law_move at h
    grind
theorem pr__law_moved : PrmOk 2 P__law_moved := by
  refine ⟨fun ds Q Q' h => ?_, fun ds Q h => ?_⟩
  · unfold P__law_moved
    repeat (first | refine ex_imp (fun _ => ?_) | refine and_imp' ?_)
    first | exact h _ | exact h _ _ | (intro k; intros; apply h; apply k <;> assumption)
  · unfold P__law_moved at h
    grind
theorem pr__law_prime : PrmMOk 1 P__law_prime := by
  refine ⟨fun l ds Q Q' h => ?_, fun l ds Q h => ?_⟩
  · unfold P__law_prime
    repeat (first | refine ex_imp (fun _ => ?_) | refine and_imp' ?_)
    first | exact h _ | exact h _ _ | (intro k; intros; apply h; apply k <;> assumption)
  · unfold P__law_prime at h
    grind
theorem pr__law_back : PrmOk 2 P__law_back := by
  refine ⟨fun ds Q Q' h => ?_, fun ds Q h => ?_⟩
  · unfold P__law_back
    repeat (first | refine ex_imp (fun _ => ?_) | refine and_imp' ?_)
    first | exact h _ | exact h _ _ | (intro k; intros; apply h; apply k <;> assumption)
  · unfold P__law_back at h
    grind
theorem pr__law_normal : PrmOk 2 P__law_normal := by
  refine ⟨fun ds Q Q' h => ?_, fun ds Q h => ?_⟩
  · unfold P__law_normal
    repeat (first | refine ex_imp (fun _ => ?_) | refine and_imp' ?_)
    first | exact h _ | exact h _ _ | (intro k; intros; apply h; apply k <;> assumption)
  · unfold P__law_normal at h
    grind
theorem pr__law_points : PrmMOk 3 P__law_points := by
  refine ⟨fun l ds Q Q' h => ?_, fun l ds Q h => ?_⟩
  · unfold P__law_points
    repeat (first | refine ex_imp (fun _ => ?_) | refine and_imp' ?_)
    first | exact h _ | exact h _ _ | (intro k; intros; apply h; apply k <;> assumption)
  · unfold P__law_points at h
    grind
theorem pr__law_is_point_row : PrmOk 1 P__law_is_point_row := by
  refine ⟨fun ds Q Q' h => ?_, fun ds Q h => ?_⟩
  · unfold P__law_is_point_row
    repeat (first | refine ex_imp (fun _ => ?_) | refine and_imp' ?_)
    first | exact h _ | exact h _ _ | (intro k; intros; apply h; apply k <;> assumption)
  · unfold P__law_is_point_row at h
    grind
theorem pr__law_leads : PrmOk 1 P__law_leads := by
  refine ⟨fun ds Q Q' h => ?_, fun ds Q h => ?_⟩
  · unfold P__law_leads
    repeat (first | refine ex_imp (fun _ => ?_) | refine and_imp' ?_)
    first | exact h _ | exact h _ _ | (intro k; intros; apply h; apply k <;> assumption)
  · unfold P__law_leads at h
    grind
theorem pr__law_told_right : PrmOk 1 P__law_told_right := by
  refine ⟨fun ds Q Q' h => ?_, fun ds Q h => ?_⟩
  · unfold P__law_told_right
    repeat (first | refine ex_imp (fun _ => ?_) | refine and_imp' ?_)
    first | exact h _ | exact h _ _ | (intro k; intros; apply h; apply k <;> assumption)
  · unfold P__law_told_right at h
    grind
theorem pr__law_false_ones : PrmOk 1 P__law_false_ones := by
  refine ⟨fun ds Q Q' h => ?_, fun ds Q h => ?_⟩
  · unfold P__law_false_ones
    repeat (first | refine ex_imp (fun _ => ?_) | refine and_imp' ?_)
    first | exact h _ | exact h _ _ | (intro k; intros; apply h; apply k <;> assumption)
  · unfold P__law_false_ones at h
    grind
theorem pr__law_squares_right : PrmMOk 1 P__law_squares_right := by
  refine ⟨fun l ds Q Q' h => ?_, fun l ds Q h => ?_⟩
  · unfold P__law_squares_right
    repeat (first | refine ex_imp (fun _ => ?_) | refine and_imp' ?_)
    first | exact h _ | exact h _ _ | (intro k; intros; apply h; apply k <;> assumption)
  · unfold P__law_squares_right at h
    grind
theorem pr__law_cell_right : PrmMOk 1 P__law_cell_right := by
  refine ⟨fun l ds Q Q' h => ?_, fun l ds Q h => ?_⟩
  · unfold P__law_cell_right
    repeat (first | refine ex_imp (fun _ => ?_) | refine and_imp' ?_)
    first | exact h _ | exact h _ _ | (intro k; intros; apply h; apply k <;> assumption)
  · unfold P__law_cell_right at h
    grind
theorem pr_law : PrmOk 1 P_law := by
  refine ⟨fun ds Q Q' h => ?_, fun ds Q h => ?_⟩
  · unfold P_law
    repeat (first | refine ex_imp (fun _ => ?_) | refine and_imp' ?_)
    first | exact h _ | exact h _ _ | (intro k; intros; apply h; apply k <;> assumption)
  · unfold P_law at h
    grind
section
variable {P0 : Program} {w : World} {K : PySem.W.Frag} {mg : Str → Option Value} {base : Heap} {T : List (Addr × Option Str)}
/-- a def of the text, found by its name -/
def At (K : PySem.W.Frag) (mg : Str → Option Value) (x : Str) (st : Stmt) (dvs : List V) (C : FuncData → Prop) : Prop := ∃ f fd, mg x = some (.ref f) ∧ FunD K x x (defArgs st) (defBody st) (defScope st) dvs [] f fd ∧ C fd

theorem gm_is_whole (hx : Fx K w mg) (d : At K mg "is_whole" s_is_whole [] (fun _ => True))  : GF P0 w K mg base T 1 1 "is_whole" P_is_whole [] := by
  obtain ⟨f, fd, hm, FD, hC⟩ := d
  exact ⟨⟨f, fd, ["value"], [], [], fun_ok FD sc_is_whole t_is_whole (fun cdv hcd A outer s H E B hk hT hM hr => der_is_whole hx  hk hT hM  hr) pr_is_whole sem_is_whole, hm, FD.kp, FD.bindsN (fun _ _ _ _ _ _ us hl => match us, hl with | [_], _ => rfl), .nil, fun _ _ => .nil⟩, pr_is_whole⟩
theorem gm_is_integer (hx : Fx K w mg) (d : At K mg "is_integer" s_is_integer [] (fun _ => True)) (G_is_whole : GF P0 w K mg base T 1 1 "is_whole" P_is_whole []) : GF P0 w K mg base T 2 1 "is_integer" P_is_integer [] := by
  obtain ⟨f, fd, hm, FD, hC⟩ := d
  exact ⟨⟨f, fd, ["value"], [], [], fun_ok FD sc_is_integer t_is_integer (fun cdv hcd A outer s H E B hk hT hM hr => der_is_integer hx G_is_whole hk hT hM  hr) pr_is_integer sem_is_integer, hm, FD.kp, FD.bindsN (fun _ _ _ _ _ _ us hl => match us, hl with | [_], _ => rfl), .nil, fun _ _ => .nil⟩, pr_is_integer⟩
theorem gm_is_within (hx : Fx K w mg) (d : At K mg "is_within" s_is_within [] (fun _ => True)) (G_is_whole : GF P0 w K mg base T 1 1 "is_whole" P_is_whole []) : GF P0 w K mg base T 2 3 "is_within" P_is_within [] := by
  obtain ⟨f, fd, hm, FD, hC⟩ := d
  exact ⟨⟨f, fd, ["value", "least", "most"], [], [], fun_ok FD sc_is_within t_is_within (fun cdv hcd A outer s H E B hk hT hM hr => der_is_within hx G_is_whole hk hT hM  hr) pr_is_within sem_is_within, hm, FD.kp, FD.bindsN (fun _ _ _ _ _ _ us hl => match us, hl with | [_, _, _], _ => rfl), .nil, fun _ _ => .nil⟩, pr_is_within⟩
theorem gm_is_prime_in (hx : Fx K w mg) (d : At K mg "is_prime_in" s_is_prime_in [] (fun _ => True)) (G_is_within : GF P0 w K mg base T 2 3 "is_within" P_is_within []) : GF P0 w K mg base T 3 1 "is_prime_in" P_is_prime_in [] := by
  obtain ⟨f, fd, hm, FD, hC⟩ := d
  exact ⟨⟨f, fd, ["value"], [], [], fun_ok FD sc_is_prime_in t_is_prime_in (fun cdv hcd A outer s H E B hk hT hM hr => der_is_prime_in hx G_is_within hk hT hM  hr) pr_is_prime_in sem_is_prime_in, hm, FD.kp, FD.bindsN (fun _ _ _ _ _ _ us hl => match us, hl with | [_], _ => rfl), .nil, fun _ _ => .nil⟩, pr_is_prime_in⟩
theorem gm_require_prime (hx : Fx K w mg) (d : At K mg "require_prime" s_require_prime [] (fun _ => True)) (G_is_prime_in : GF P0 w K mg base T 3 1 "is_prime_in" P_is_prime_in []) : GF P0 w K mg base T 4 1 "require_prime" P_require_prime [] := by
  obtain ⟨f, fd, hm, FD, hC⟩ := d
  exact ⟨⟨f, fd, ["prime"], [], [], fun_ok FD sc_require_prime t_require_prime (fun cdv hcd A outer s H E B hk hT hM hr => der_require_prime hx G_is_prime_in hk hT hM  hr) pr_require_prime sem_require_prime, hm, FD.kp, FD.bindsN (fun _ _ _ _ _ _ us hl => match us, hl with | [_], _ => rfl), .nil, fun _ _ => .nil⟩, pr_require_prime⟩
theorem gm_is_point_in (hx : Fx K w mg) (d : At K mg "is_point_in" s_is_point_in [] (fun fd => TabAt mg base T fd.code none)) (G_is_within : GF P0 w K mg base T 2 3 "is_within" P_is_within []) : GF P0 w K mg base T 3 2 "is_point_in" P_is_point_in [] := by
  obtain ⟨f, fd, hm, FD, hC⟩ := d
  exact ⟨⟨f, fd, ["prime", "value"], [], [], fun_ok FD sc_is_point_in t_is_point_in (fun cdv hcd A outer s H E B hk hT hM hr => der_is_point_in hx G_is_within hk hT hM (hcd ▸ hC) hr) pr_is_point_in sem_is_point_in, hm, FD.kp, FD.bindsN (fun _ _ _ _ _ _ us hl => match us, hl with | [_, _], _ => rfl), .nil, fun _ _ => .nil⟩, pr_is_point_in⟩
theorem gm_are_points_in (hx : Fx K w mg) (d : At K mg "are_points_in" s_are_points_in [] (fun _ => True)) (G_is_point_in : GF P0 w K mg base T 3 2 "is_point_in" P_is_point_in []) : GF P0 w K mg base T 4 2 "are_points_in" P_are_points_in [] := by
  obtain ⟨f, fd, hm, FD, hC⟩ := d
  exact ⟨⟨f, fd, ["prime", "value"], [], [], fun_ok FD sc_are_points_in t_are_points_in (fun cdv hcd A outer s H E B hk hT hM hr => der_are_points_in hx G_is_point_in hk hT hM  hr) pr_are_points_in sem_are_points_in, hm, FD.kp, FD.bindsN (fun _ _ _ _ _ _ us hl => match us, hl with | [_, _], _ => rfl), .nil, fun _ _ => .nil⟩, pr_are_points_in⟩
theorem gm_require_points (hx : Fx K w mg) (d : At K mg "require_points" s_require_points [] (fun _ => True)) (G_require_prime : GF P0 w K mg base T 4 1 "require_prime" P_require_prime []) (G_are_points_in : GF P0 w K mg base T 4 2 "are_points_in" P_are_points_in []) : GF P0 w K mg base T 5 2 "require_points" P_require_points [] := by
  obtain ⟨f, fd, hm, FD, hC⟩ := d
  exact ⟨⟨f, fd, ["prime", "points"], [], [], fun_ok FD sc_require_points t_require_points (fun cdv hcd A outer s H E B hk hT hM hr => der_require_points hx G_require_prime G_are_points_in hk hT hM  hr) pr_require_points sem_require_points, hm, FD.kp, FD.bindsN (fun _ _ _ _ _ _ us hl => match us, hl with | [_, _], _ => rfl), .nil, fun _ _ => .nil⟩, pr_require_points⟩
theorem gm_points_of (hx : Fx K w mg) (d : At K mg "points_of" s_points_of [] (fun _ => True))  : GF P0 w K mg base T 1 1 "points_of" P_points_of [] := by
  obtain ⟨f, fd, hm, FD, hC⟩ := d
  exact ⟨⟨f, fd, ["row"], [], [], fun_ok FD sc_points_of t_points_of (fun cdv hcd A outer s H E B hk hT hM hr => der_points_of hx  hk hT hM  hr) pr_points_of sem_points_of, hm, FD.kp, FD.bindsN (fun _ _ _ _ _ _ us hl => match us, hl with | [_], _ => rfl), .nil, fun _ _ => .nil⟩, pr_points_of⟩
theorem gm_is_row_in (hx : Fx K w mg) (d : At K mg "is_row_in" s_is_row_in [] (fun _ => True)) (G_is_integer : GF P0 w K mg base T 2 1 "is_integer" P_is_integer []) : GF P0 w K mg base T 3 1 "is_row_in" P_is_row_in [] := by
  obtain ⟨f, fd, hm, FD, hC⟩ := d
  exact ⟨⟨f, fd, ["value"], [], [], fun_ok FD sc_is_row_in t_is_row_in (fun cdv hcd A outer s H E B hk hT hM hr => der_is_row_in hx G_is_integer hk hT hM  hr) pr_is_row_in sem_is_row_in, hm, FD.kp, FD.bindsN (fun _ _ _ _ _ _ us hl => match us, hl with | [_], _ => rfl), .nil, fun _ _ => .nil⟩, pr_is_row_in⟩
theorem gm_require_row (hx : Fx K w mg) (d : At K mg "require_row" s_require_row [.int 3, .int 16] (fun _ => True)) (G_is_row_in : GF P0 w K mg base T 3 1 "is_row_in" P_is_row_in []) (G_points_of : GF P0 w K mg base T 1 1 "points_of" P_points_of []) : GF P0 w K mg base T 4 3 "require_row" P_require_row [] := by
  obtain ⟨f, fd, hm, FD, hC⟩ := d
  obtain ⟨ds, hv, hb⟩ := FunD.binds1 (ps := ["value", "least", "most"]) FD 3 2 (by decide) rfl (fun _ _ _ _ _ _ _ us its hu hi => match us, its, hu, hi with | [_, _, _], [_, _], _, _ => ⟨_, rfl, rfl⟩)
  exact ⟨⟨f, fd, ["value", "least", "most"], _, ds, fun_ok FD sc_require_row t_require_row (fun cdv hcd A outer s H E B hk hT hM hr => der_require_row hx G_is_row_in G_points_of hk hT hM  hr) pr_require_row sem_require_row, hm, FD.kp, hb, hv, fun _ _ => .nil⟩, pr_require_row⟩
theorem gm_require_row_d (hx : Fx K w mg) (d : At K mg "require_row" s_require_row [.int 3, .int 16] (fun _ => True)) (G_is_row_in : GF P0 w K mg base T 3 1 "is_row_in" P_is_row_in []) (G_points_of : GF P0 w K mg base T 1 1 "points_of" P_points_of []) : GF P0 w K mg base T 4 3 "require_row" P_require_row D_require_row := by
  obtain ⟨f, fd, hm, FD, hC⟩ := d
  obtain ⟨ds, hv, hb⟩ := FunD.binds1 (ps := ["value", "least", "most"]) FD 1 0 (by decide) rfl (fun _ _ _ _ _ _ _ us its hu hi => match us, its, hu, hi with | [_], [_, _], _, _ => ⟨_, rfl, rfl⟩)
  exact ⟨⟨f, fd, ["value", "least", "most"], _, ds, fun_ok FD sc_require_row t_require_row (fun cdv hcd A outer s H E B hk hT hM hr => der_require_row hx G_is_row_in G_points_of hk hT hM  hr) pr_require_row sem_require_row, hm, FD.kp, hb, hv, fun _ _ => (.cons (.int _) (.cons (.int _) .nil))⟩, pr_require_row⟩
theorem gm_product_in (hx : Fx K w mg) (d : At K mg "product_in" s_product_in [] (fun _ => True))  : GF P0 w K mg base T 1 2 "product_in" P_product_in [] := by
  obtain ⟨f, fd, hm, FD, hC⟩ := d
  exact ⟨⟨f, fd, ["one", "other"], [], [], fun_ok FD sc_product_in t_product_in (fun cdv hcd A outer s H E B hk hT hM hr => der_product_in hx  hk hT hM  hr) pr_product_in sem_product_in, hm, FD.kp, FD.bindsN (fun _ _ _ _ _ _ us hl => match us, hl with | [_, _], _ => rfl), .nil, fun _ _ => .nil⟩, pr_product_in⟩
theorem gm_square_in (hx : Fx K w mg) (d : At K mg "square_in" s_square_in [] (fun _ => True)) (G_product_in : GF P0 w K mg base T 1 2 "product_in" P_product_in []) : GF P0 w K mg base T 2 1 "square_in" P_square_in [] := by
  obtain ⟨f, fd, hm, FD, hC⟩ := d
  exact ⟨⟨f, fd, ["row"], [], [], fun_ok FD sc_square_in t_square_in (fun cdv hcd A outer s H E B hk hT hM hr => der_square_in hx G_product_in hk hT hM  hr) pr_square_in sem_square_in, hm, FD.kp, FD.bindsN (fun _ _ _ _ _ _ us hl => match us, hl with | [_], _ => rfl), .nil, fun _ _ => .nil⟩, pr_square_in⟩
theorem gm_with_cubic_in (hx : Fx K w mg) (d : At K mg "with_cubic_in" s_with_cubic_in [] (fun _ => True))  : GF P0 w K mg base T 1 1 "with_cubic_in" P_with_cubic_in [] := by
  obtain ⟨f, fd, hm, FD, hC⟩ := d
  exact ⟨⟨f, fd, ["row"], [], [], fun_ok FD sc_with_cubic_in t_with_cubic_in (fun cdv hcd A outer s H E B hk hT hM hr => der_with_cubic_in hx  hk hT hM  hr) pr_with_cubic_in sem_with_cubic_in, hm, FD.kp, FD.bindsN (fun _ _ _ _ _ _ us hl => match us, hl with | [_], _ => rfl), .nil, fun _ _ => .nil⟩, pr_with_cubic_in⟩
theorem gm_counting_in (hx : Fx K w mg) (d : At K mg "counting_in" s_counting_in [] (fun _ => True)) (G_square_in : GF P0 w K mg base T 2 1 "square_in" P_square_in []) (G_with_cubic_in : GF P0 w K mg base T 1 1 "with_cubic_in" P_with_cubic_in []) : GF P0 w K mg base T 3 1 "counting_in" P_counting_in [] := by
  obtain ⟨f, fd, hm, FD, hC⟩ := d
  exact ⟨⟨f, fd, ["row"], [], [], fun_ok FD sc_counting_in t_counting_in (fun cdv hcd A outer s H E B hk hT hM hr => der_counting_in hx G_square_in G_with_cubic_in hk hT hM  hr) pr_counting_in sem_counting_in, hm, FD.kp, FD.bindsN (fun _ _ _ _ _ _ us hl => match us, hl with | [_], _ => rfl), .nil, fun _ _ => .nil⟩, pr_counting_in⟩
theorem gm_is_index_below (hx : Fx K w mg) (d : At K mg "is_index_below" s_is_index_below [] (fun _ => True))  : GF P0 w K mg base T 1 2 "is_index_below" P_is_index_below [] := by
  obtain ⟨f, fd, hm, FD, hC⟩ := d
  exact ⟨⟨f, fd, ["n", "value"], [], [], fun_ok FD sc_is_index_below t_is_index_below (fun cdv hcd A outer s H E B hk hT hM hr => der_is_index_below hx  hk hT hM  hr) pr_is_index_below sem_is_index_below, hm, FD.kp, FD.bindsN (fun _ _ _ _ _ _ us hl => match us, hl with | [_, _], _ => rfl), .nil, fun _ _ => .nil⟩, pr_is_index_below⟩
theorem gm_is_move_in (hx : Fx K w mg) (d : At K mg "is_move_in" s_is_move_in [] (fun _ => True)) (G_is_index_below : GF P0 w K mg base T 1 2 "is_index_below" P_is_index_below []) : GF P0 w K mg base T 2 2 "is_move_in" P_is_move_in [] := by
  obtain ⟨f, fd, hm, FD, hC⟩ := d
  exact ⟨⟨f, fd, ["n", "value"], [], [], fun_ok FD sc_is_move_in t_is_move_in (fun cdv hcd A outer s H E B hk hT hM hr => der_is_move_in hx G_is_index_below hk hT hM  hr) pr_is_move_in sem_is_move_in, hm, FD.kp, FD.bindsN (fun _ _ _ _ _ _ us hl => match us, hl with | [_, _], _ => rfl), .nil, fun _ _ => .nil⟩, pr_is_move_in⟩
theorem gm_is_word_in (hx : Fx K w mg) (d : At K mg "is_word_in" s_is_word_in [] (fun _ => True)) (G_is_move_in : GF P0 w K mg base T 2 2 "is_move_in" P_is_move_in []) : GF P0 w K mg base T 3 2 "is_word_in" P_is_word_in [] := by
  obtain ⟨f, fd, hm, FD, hC⟩ := d
  exact ⟨⟨f, fd, ["n", "value"], [], [], fun_ok FD sc_is_word_in t_is_word_in (fun cdv hcd A outer s H E B hk hT hM hr => der_is_word_in hx G_is_move_in hk hT hM  hr) pr_is_word_in sem_is_word_in, hm, FD.kp, FD.bindsN (fun _ _ _ _ _ _ us hl => match us, hl with | [_, _], _ => rfl), .nil, fun _ _ => .nil⟩, pr_is_word_in⟩
theorem gm_require_word (hx : Fx K w mg) (d : At K mg "require_word" s_require_word [] (fun _ => True)) (G_is_word_in : GF P0 w K mg base T 3 2 "is_word_in" P_is_word_in []) : GF P0 w K mg base T 4 2 "require_word" P_require_word [] := by
  obtain ⟨f, fd, hm, FD, hC⟩ := d
  exact ⟨⟨f, fd, ["n", "value"], [], [], fun_ok FD sc_require_word t_require_word (fun cdv hcd A outer s H E B hk hT hM hr => der_require_word hx G_is_word_in hk hT hM  hr) pr_require_word sem_require_word, hm, FD.kp, FD.bindsN (fun _ _ _ _ _ _ us hl => match us, hl with | [_, _], _ => rfl), .nil, fun _ _ => .nil⟩, pr_require_word⟩
theorem gm_is_passable (hx : Fx K w mg) (d : At K mg "is_passable" s_is_passable [] (fun _ => True))  : GF P0 w K mg base T 1 1 "is_passable" P_is_passable [] := by
  obtain ⟨f, fd, hm, FD, hC⟩ := d
  exact ⟨⟨f, fd, ["row"], [], [], fun_ok FD sc_is_passable t_is_passable (fun cdv hcd A outer s H E B hk hT hM hr => der_is_passable hx  hk hT hM  hr) pr_is_passable sem_is_passable, hm, FD.kp, FD.bindsN (fun _ _ _ _ _ _ us hl => match us, hl with | [_], _ => rfl), .nil, fun _ _ => .nil⟩, pr_is_passable⟩
theorem gm_require_passable (hx : Fx K w mg) (d : At K mg "require_passable" s_require_passable [] (fun _ => True)) (G_is_passable : GF P0 w K mg base T 1 1 "is_passable" P_is_passable []) : GF P0 w K mg base T 2 1 "require_passable" P_require_passable [] := by
  obtain ⟨f, fd, hm, FD, hC⟩ := d
  exact ⟨⟨f, fd, ["rows"], [], [], fun_ok FD sc_require_passable t_require_passable (fun cdv hcd A outer s H E B hk hT hM hr => der_require_passable hx G_is_passable hk hT hM  hr) pr_require_passable sem_require_passable, hm, FD.kp, FD.bindsN (fun _ _ _ _ _ _ us hl => match us, hl with | [_], _ => rfl), .nil, fun _ _ => .nil⟩, pr_require_passable⟩
theorem gm_turn_in (hx : Fx K w mg) (d : At K mg "turn_in" s_turn_in [] (fun _ => True))  : GF P0 w K mg base T 1 4 "turn_in" P_turn_in [] := by
  obtain ⟨f, fd, hm, FD, hC⟩ := d
  exact ⟨⟨f, fd, ["row", "i", "j", "k"], [], [], fun_ok FD sc_turn_in t_turn_in (fun cdv hcd A outer s H E B hk hT hM hr => der_turn_in hx  hk hT hM  hr) pr_turn_in sem_turn_in, hm, FD.kp, FD.bindsN (fun _ _ _ _ _ _ us hl => match us, hl with | [_, _, _, _], _ => rfl), .nil, fun _ _ => .nil⟩, pr_turn_in⟩
theorem gm_moved_once (hx : Fx K w mg) (d : At K mg "moved_once" s_moved_once [] (fun _ => True)) (G_turn_in : GF P0 w K mg base T 1 4 "turn_in" P_turn_in []) : GF P0 w K mg base T 2 2 "moved_once" P_moved_once [] := by
  obtain ⟨f, fd, hm, FD, hC⟩ := d
  exact ⟨⟨f, fd, ["row", "move"], [], [], fun_ok FD sc_moved_once t_moved_once (fun cdv hcd A outer s H E B hk hT hM hr => der_moved_once hx G_turn_in hk hT hM  hr) pr_moved_once sem_moved_once, hm, FD.kp, FD.bindsN (fun _ _ _ _ _ _ us hl => match us, hl with | [_, _], _ => rfl), .nil, fun _ _ => .nil⟩, pr_moved_once⟩
theorem gm_moved_in (hx : Fx K w mg) (d : At K mg "moved_in" s_moved_in [] (fun _ => True)) (G_moved_once : GF P0 w K mg base T 2 2 "moved_once" P_moved_once []) : GF P0 w K mg base T 3 2 "moved_in" P_moved_in [] := by
  obtain ⟨f, fd, hm, FD, hC⟩ := d
  exact ⟨⟨f, fd, ["row", "word"], [], [], fun_ok FD sc_moved_in t_moved_in (fun cdv hcd A outer s H E B hk hT hM hr => der_moved_in hx G_moved_once hk hT hM  hr) pr_moved_in sem_moved_in, hm, FD.kp, FD.bindsN (fun _ _ _ _ _ _ us hl => match us, hl with | [_, _], _ => rfl), .nil, fun _ _ => .nil⟩, pr_moved_in⟩
theorem gm_moved (hx : Fx K w mg) (d : At K mg "moved" s_moved [] (fun _ => True)) (G_require_row : GF P0 w K mg base T 4 3 "require_row" P_require_row []) (G_require_row_d : GF P0 w K mg base T 4 3 "require_row" P_require_row D_require_row) (G_require_word : GF P0 w K mg base T 4 2 "require_word" P_require_word []) (G_moved_in : GF P0 w K mg base T 3 2 "moved_in" P_moved_in []) (G_require_passable : GF P0 w K mg base T 2 1 "require_passable" P_require_passable []) : GF P0 w K mg base T 5 2 "moved" P_moved [] := by
  obtain ⟨f, fd, hm, FD, hC⟩ := d
  exact ⟨⟨f, fd, ["row", "word"], [], [], fun_ok FD sc_moved t_moved (fun cdv hcd A outer s H E B hk hT hM hr => der_moved hx G_require_row G_require_row_d G_require_word G_moved_in G_require_passable hk hT hM  hr) pr_moved sem_moved, hm, FD.kp, FD.bindsN (fun _ _ _ _ _ _ us hl => match us, hl with | [_, _], _ => rfl), .nil, fun _ _ => .nil⟩, pr_moved⟩
theorem gm_require_many (hx : Fx K w mg) (d : At K mg "require_many" s_require_many [] (fun _ => True)) (G_require_row : GF P0 w K mg base T 4 3 "require_row" P_require_row []) : GF P0 w K mg base T 5 1 "require_many" P_require_many [] := by
  obtain ⟨f, fd, hm, FD, hC⟩ := d
  exact ⟨⟨f, fd, ["row"], [], [], fun_ok FD sc_require_many t_require_many (fun cdv hcd A outer s H E B hk hT hM hr => der_require_many hx G_require_row hk hT hM  hr) pr_require_many sem_require_many, hm, FD.kp, FD.bindsN (fun _ _ _ _ _ _ us hl => match us, hl with | [_], _ => rfl), .nil, fun _ _ => .nil⟩, pr_require_many⟩
theorem gm_greatest_three (hx : Fx K w mg) (d : At K mg "greatest_three" s_greatest_three [] (fun fd => TabAt mg base T fd.code (some ("greatest_three.<locals>.<lambda>" : Str)))) (G_points_of : GF P0 w K mg base T 1 1 "points_of" P_points_of []) : GF P0 w K mg base T 4 1 "greatest_three" P_greatest_three [] := by
  obtain ⟨f, fd, hm, FD, hC⟩ := d
  exact ⟨⟨f, fd, ["row"], [], [], fun_ok FD sc_greatest_three t_greatest_three (fun cdv hcd A outer s H E B hk hT hM hr => der_greatest_three hx G_points_of hk hT hM (hcd ▸ hC) hr) pr_greatest_three sem_greatest_three, hm, FD.kp, FD.bindsN (fun _ _ _ _ _ _ us hl => match us, hl with | [_], _ => rfl), .nil, fun _ _ => .nil⟩, pr_greatest_three⟩
theorem gm_is_triple_above (hx : Fx K w mg) (d : At K mg "is_triple_above" s_is_triple_above [] (fun _ => True))  : GF P0 w K mg base T 1 2 "is_triple_above" P_is_triple_above [] := by
  obtain ⟨f, fd, hm, FD, hC⟩ := d
  exact ⟨⟨f, fd, ["row", "triple"], [], [], fun_ok FD sc_is_triple_above t_is_triple_above (fun cdv hcd A outer s H E B hk hT hM hr => der_is_triple_above hx  hk hT hM  hr) pr_is_triple_above sem_is_triple_above, hm, FD.kp, FD.bindsN (fun _ _ _ _ _ _ us hl => match us, hl with | [_, _], _ => rfl), .nil, fun _ _ => .nil⟩, pr_is_triple_above⟩
theorem gm_clipped (hx : Fx K w mg) (d : At K mg "clipped" s_clipped [] (fun _ => True))  : GF P0 w K mg base T 1 1 "clipped" P_clipped [] := by
  obtain ⟨f, fd, hm, FD, hC⟩ := d
  exact ⟨⟨f, fd, ["row"], [], [], fun_ok FD sc_clipped t_clipped (fun cdv hcd A outer s H E B hk hT hM hr => der_clipped hx  hk hT hM  hr) pr_clipped sem_clipped, hm, FD.kp, FD.bindsN (fun _ _ _ _ _ _ us hl => match us, hl with | [_], _ => rfl), .nil, fun _ _ => .nil⟩, pr_clipped⟩
theorem gm_standard_end (hx : Fx K w mg) (d : At K mg "standard_end" s_standard_end [] (fun _ => True)) (G_clipped : GF P0 w K mg base T 1 1 "clipped" P_clipped []) (G_greatest_three : GF P0 w K mg base T 4 1 "greatest_three" P_greatest_three []) (G_is_triple_above : GF P0 w K mg base T 1 2 "is_triple_above" P_is_triple_above []) (G_turn_in : GF P0 w K mg base T 1 4 "turn_in" P_turn_in []) : GF P0 w K mg base T 5 1 "standard_end" P_standard_end [] := by
  obtain ⟨f, fd, hm, FD, hC⟩ := d
  exact ⟨⟨f, fd, ["row"], [], [], fun_ok FD sc_standard_end t_standard_end (fun cdv hcd A outer s H E B hk hT hM hr => der_standard_end hx G_clipped G_greatest_three G_is_triple_above G_turn_in hk hT hM  hr) pr_standard_end sem_standard_end, hm, FD.kp, FD.bindsN (fun _ _ _ _ _ _ us hl => match us, hl with | [_], _ => rfl), .nil, fun _ _ => .nil⟩, pr_standard_end⟩
theorem gm_lower_of (hx : Fx K w mg) (d : At K mg "lower_of" s_lower_of [] (fun _ => True)) (G_counting_in : GF P0 w K mg base T 3 1 "counting_in" P_counting_in []) : GF P0 w K mg base T 4 1 "lower_of" P_lower_of [] := by
  obtain ⟨f, fd, hm, FD, hC⟩ := d
  exact ⟨⟨f, fd, ["end"], [], [], fun_ok FD sc_lower_of t_lower_of (fun cdv hcd A outer s H E B hk hT hM hr => der_lower_of hx G_counting_in hk hT hM  hr) pr_lower_of sem_lower_of, hm, FD.kp, FD.bindsN (fun _ _ _ _ _ _ us hl => match us, hl with | [_], _ => rfl), .nil, fun _ _ => .nil⟩, pr_lower_of⟩
theorem gm_is_barred_in (hx : Fx K w mg) (d : At K mg "is_barred_in" s_is_barred_in [] (fun _ => True)) (G_points_of : GF P0 w K mg base T 1 1 "points_of" P_points_of []) : GF P0 w K mg base T 2 1 "is_barred_in" P_is_barred_in [] := by
  obtain ⟨f, fd, hm, FD, hC⟩ := d
  exact ⟨⟨f, fd, ["row"], [], [], fun_ok FD sc_is_barred_in t_is_barred_in (fun cdv hcd A outer s H E B hk hT hM hr => der_is_barred_in hx G_points_of hk hT hM  hr) pr_is_barred_in sem_is_barred_in, hm, FD.kp, FD.bindsN (fun _ _ _ _ _ _ us hl => match us, hl with | [_], _ => rfl), .nil, fun _ _ => .nil⟩, pr_is_barred_in⟩
theorem gm_upper_of (hx : Fx K w mg) (d : At K mg "upper_of" s_upper_of [] (fun _ => True)) (G_is_barred_in : GF P0 w K mg base T 2 1 "is_barred_in" P_is_barred_in []) : GF P0 w K mg base T 3 4 "upper_of" P_upper_of [] := by
  obtain ⟨f, fd, hm, FD, hC⟩ := d
  exact ⟨⟨f, fd, ["prime", "points", "row", "end"], [], [], fun_ok FD sc_upper_of t_upper_of (fun cdv hcd A outer s H E B hk hT hM hr => der_upper_of hx G_is_barred_in hk hT hM  hr) pr_upper_of sem_upper_of, hm, FD.kp, FD.bindsN (fun _ _ _ _ _ _ us hl => match us, hl with | [_, _, _, _], _ => rfl), .nil, fun _ _ => .nil⟩, pr_upper_of⟩
theorem gm_walk_to_point (hx : Fx K w mg) (d : At K mg "walk_to_point" s_walk_to_point [] (fun _ => True)) (G_greatest_three : GF P0 w K mg base T 4 1 "greatest_three" P_greatest_three []) (G_is_triple_above : GF P0 w K mg base T 1 2 "is_triple_above" P_is_triple_above []) (G_turn_in : GF P0 w K mg base T 1 4 "turn_in" P_turn_in []) : GF P0 w K mg base T 5 1 "walk_to_point" P_walk_to_point [] := by
  obtain ⟨f, fd, hm, FD, hC⟩ := d
  exact ⟨⟨f, fd, ["row"], [], [], fun_ok FD sc_walk_to_point t_walk_to_point (fun cdv hcd A outer s H E B hk hT hM hr => der_walk_to_point hx G_greatest_three G_is_triple_above G_turn_in hk hT hM  hr) pr_walk_to_point sem_walk_to_point, hm, FD.kp, FD.bindsN (fun _ _ _ _ _ _ us hl => match us, hl with | [_], _ => rfl), .nil, fun _ _ => .nil⟩, pr_walk_to_point⟩
theorem gm_is_row_of_point (hx : Fx K w mg) (d : At K mg "is_row_of_point" s_is_row_of_point [] (fun _ => True))  : GF P0 w K mg base T 1 1 "is_row_of_point" P_is_row_of_point [] := by
  obtain ⟨f, fd, hm, FD, hC⟩ := d
  exact ⟨⟨f, fd, ["row"], [], [], fun_ok FD sc_is_row_of_point t_is_row_of_point (fun cdv hcd A outer s H E B hk hT hM hr => der_is_row_of_point hx  hk hT hM  hr) pr_is_row_of_point sem_is_row_of_point, hm, FD.kp, FD.bindsN (fun _ _ _ _ _ _ us hl => match us, hl with | [_], _ => rfl), .nil, fun _ _ => .nil⟩, pr_is_row_of_point⟩
theorem gm_require_bounded (hx : Fx K w mg) (d : At K mg "require_bounded" s_require_bounded [] (fun _ => True)) (G_require_points : GF P0 w K mg base T 5 2 "require_points" P_require_points []) (G_is_row_in : GF P0 w K mg base T 3 1 "is_row_in" P_is_row_in []) (G_points_of : GF P0 w K mg base T 1 1 "points_of" P_points_of []) : GF P0 w K mg base T 6 3 "require_bounded" P_require_bounded [] := by
  obtain ⟨f, fd, hm, FD, hC⟩ := d
  exact ⟨⟨f, fd, ["prime", "points", "row"], [], [], fun_ok FD sc_require_bounded t_require_bounded (fun cdv hcd A outer s H E B hk hT hM hr => der_require_bounded hx G_require_points G_is_row_in G_points_of hk hT hM  hr) pr_require_bounded sem_require_bounded, hm, FD.kp, FD.bindsN (fun _ _ _ _ _ _ us hl => match us, hl with | [_, _, _], _ => rfl), .nil, fun _ _ => .nil⟩, pr_require_bounded⟩
theorem gm_is_square_barred (hx : Fx K w mg) (d : At K mg "is_square_barred" s_is_square_barred [] (fun _ => True)) (G_require_many : GF P0 w K mg base T 5 1 "require_many" P_require_many []) (G_is_barred_in : GF P0 w K mg base T 2 1 "is_barred_in" P_is_barred_in []) : GF P0 w K mg base T 6 1 "is_square_barred" P_is_square_barred [] := by
  obtain ⟨f, fd, hm, FD, hC⟩ := d
  exact ⟨⟨f, fd, ["row"], [], [], fun_ok FD sc_is_square_barred t_is_square_barred (fun cdv hcd A outer s H E B hk hT hM hr => der_is_square_barred hx G_require_many G_is_barred_in hk hT hM  hr) pr_is_square_barred sem_is_square_barred, hm, FD.kp, FD.bindsN (fun _ _ _ _ _ _ us hl => match us, hl with | [_], _ => rfl), .nil, fun _ _ => .nil⟩, pr_is_square_barred⟩
theorem gm_row_above (hx : Fx K w mg) (d : At K mg "row_above" s_row_above [] (fun _ => True)) (G_require_bounded : GF P0 w K mg base T 6 3 "require_bounded" P_require_bounded []) (G_upper_of : GF P0 w K mg base T 3 4 "upper_of" P_upper_of []) (G_standard_end : GF P0 w K mg base T 5 1 "standard_end" P_standard_end []) : GF P0 w K mg base T 7 3 "row_above" P_row_above [] := by
  obtain ⟨f, fd, hm, FD, hC⟩ := d
  exact ⟨⟨f, fd, ["prime", "points", "row"], [], [], fun_ok FD sc_row_above t_row_above (fun cdv hcd A outer s H E B hk hT hM hr => der_row_above hx G_require_bounded G_upper_of G_standard_end hk hT hM  hr) pr_row_above sem_row_above, hm, FD.kp, FD.bindsN (fun _ _ _ _ _ _ us hl => match us, hl with | [_, _, _], _ => rfl), .nil, fun _ _ => .nil⟩, pr_row_above⟩
theorem gm_bounds (hx : Fx K w mg) (d : At K mg "bounds" s_bounds [] (fun _ => True)) (G_require_bounded : GF P0 w K mg base T 6 3 "require_bounded" P_require_bounded []) (G_standard_end : GF P0 w K mg base T 5 1 "standard_end" P_standard_end []) (G_upper_of : GF P0 w K mg base T 3 4 "upper_of" P_upper_of []) (G_lower_of : GF P0 w K mg base T 4 1 "lower_of" P_lower_of []) : GF P0 w K mg base T 7 3 "bounds" P_bounds [] := by
  obtain ⟨f, fd, hm, FD, hC⟩ := d
  exact ⟨⟨f, fd, ["prime", "points", "row"], [], [], fun_ok FD sc_bounds t_bounds (fun cdv hcd A outer s H E B hk hT hM hr => der_bounds hx G_require_bounded G_standard_end G_upper_of G_lower_of hk hT hM  hr) pr_bounds sem_bounds, hm, FD.kp, FD.bindsN (fun _ _ _ _ _ _ us hl => match us, hl with | [_, _, _], _ => rfl), .nil, fun _ _ => .nil⟩, pr_bounds⟩
theorem gm_is_led_to_point (hx : Fx K w mg) (d : At K mg "is_led_to_point" s_is_led_to_point [] (fun _ => True)) (G_require_many : GF P0 w K mg base T 5 1 "require_many" P_require_many []) (G_is_row_of_point : GF P0 w K mg base T 1 1 "is_row_of_point" P_is_row_of_point []) (G_walk_to_point : GF P0 w K mg base T 5 1 "walk_to_point" P_walk_to_point []) : GF P0 w K mg base T 6 1 "is_led_to_point" P_is_led_to_point [] := by
  obtain ⟨f, fd, hm, FD, hC⟩ := d
  exact ⟨⟨f, fd, ["row"], [], [], fun_ok FD sc_is_led_to_point t_is_led_to_point (fun cdv hcd A outer s H E B hk hT hM hr => der_is_led_to_point hx G_require_many G_is_row_of_point G_walk_to_point hk hT hM  hr) pr_is_led_to_point sem_is_led_to_point, hm, FD.kp, FD.bindsN (fun _ _ _ _ _ _ us hl => match us, hl with | [_], _ => rfl), .nil, fun _ _ => .nil⟩, pr_is_led_to_point⟩
theorem gm_word_to_point (hx : Fx K w mg) (d : At K mg "word_to_point" s_word_to_point [] (fun _ => True)) (G_require_many : GF P0 w K mg base T 5 1 "require_many" P_require_many []) (G_walk_to_point : GF P0 w K mg base T 5 1 "walk_to_point" P_walk_to_point []) (G_is_row_of_point : GF P0 w K mg base T 1 1 "is_row_of_point" P_is_row_of_point []) : GF P0 w K mg base T 6 1 "word_to_point" P_word_to_point [] := by
  obtain ⟨f, fd, hm, FD, hC⟩ := d
  exact ⟨⟨f, fd, ["row"], [], [], fun_ok FD sc_word_to_point t_word_to_point (fun cdv hcd A outer s H E B hk hT hM hr => der_word_to_point hx G_require_many G_walk_to_point G_is_row_of_point hk hT hM  hr) pr_word_to_point sem_word_to_point, hm, FD.kp, FD.bindsN (fun _ _ _ _ _ _ us hl => match us, hl with | [_], _ => rfl), .nil, fun _ _ => .nil⟩, pr_word_to_point⟩
theorem gm__law_dice (hx : Fx K w mg) (d : At K mg "_law_dice" s__law_dice [] (fun _ => True))  : GF P0 w K mg base T 1 2 "_law_dice" P__law_dice [] := by
  obtain ⟨f, fd, hm, FD, hC⟩ := d
  exact ⟨⟨f, fd, ["script", "at"], [], [], fun_ok FD sc__law_dice t__law_dice (fun cdv hcd A outer s H E B hk hT hM hr => der__law_dice hx  hk hT hM  hr) pr__law_dice sem__law_dice, hm, FD.kp, FD.bindsN (fun _ _ _ _ _ _ us hl => match us, hl with | [_, _], _ => rfl), .nil, fun _ _ => .nil⟩, pr__law_dice⟩
theorem gm__law_roll (hx : Fx K w mg) (d : At K mg "_law_roll" s__law_roll [] (fun _ => True))  : GM P0 w K mg base T 1 2 "_law_roll" P__law_roll := by
  obtain ⟨f, fd, hm, FD, hC⟩ := d
  exact ⟨⟨f, fd, ["dice", "total"], fun_okM FD sc__law_roll (by decide) t__law_roll (fun cdv hcd A outer s H E B hk hT hr => der__law_roll hx  hk hT  hr) pr__law_roll sem__law_roll, hm, FD.kp, FD.bindsN (fun _ _ _ _ _ _ us hl => match us, hl with | [_, _], _ => rfl)⟩, pr__law_roll⟩
theorem gm__law_one_of (hx : Fx K w mg) (d : At K mg "_law_one_of" s__law_one_of [] (fun _ => True)) (G__law_roll : GM P0 w K mg base T 1 2 "_law_roll" P__law_roll) : GM P0 w K mg base T 2 2 "_law_one_of" P__law_one_of := by
  obtain ⟨f, fd, hm, FD, hC⟩ := d
  exact ⟨⟨f, fd, ["dice", "items"], fun_okM FD sc__law_one_of (by decide) t__law_one_of (fun cdv hcd A outer s H E B hk hT hr => der__law_one_of hx G__law_roll hk hT  hr) pr__law_one_of sem__law_one_of, hm, FD.kp, FD.bindsN (fun _ _ _ _ _ _ us hl => match us, hl with | [_, _], _ => rfl)⟩, pr__law_one_of⟩
theorem gm__law_mixed (hx : Fx K w mg) (d : At K mg "_law_mixed" s__law_mixed [] (fun _ => True)) (G__law_roll : GM P0 w K mg base T 1 2 "_law_roll" P__law_roll) : GM P0 w K mg base T 2 2 "_law_mixed" P__law_mixed := by
  obtain ⟨f, fd, hm, FD, hC⟩ := d
  exact ⟨⟨f, fd, ["dice", "items"], fun_okM FD sc__law_mixed (by decide) t__law_mixed (fun cdv hcd A outer s H E B hk hT hr => der__law_mixed hx G__law_roll hk hT  hr) pr__law_mixed sem__law_mixed, hm, FD.kp, FD.bindsN (fun _ _ _ _ _ _ us hl => match us, hl with | [_, _], _ => rfl)⟩, pr__law_mixed⟩
theorem gm__law_times (hx : Fx K w mg) (d : At K mg "_law_times" s__law_times [] (fun _ => True))  : GF P0 w K mg base T 1 2 "_law_times" P__law_times [] := by
  obtain ⟨f, fd, hm, FD, hC⟩ := d
  exact ⟨⟨f, fd, ["one", "other"], [], [], fun_ok FD sc__law_times t__law_times (fun cdv hcd A outer s H E B hk hT hM hr => der__law_times hx  hk hT hM  hr) pr__law_times sem__law_times, hm, FD.kp, FD.bindsN (fun _ _ _ _ _ _ us hl => match us, hl with | [_, _], _ => rfl), .nil, fun _ _ => .nil⟩, pr__law_times⟩
theorem gm__law_cubic (hx : Fx K w mg) (d : At K mg "_law_cubic" s__law_cubic [] (fun _ => True))  : GF P0 w K mg base T 1 1 "_law_cubic" P__law_cubic [] := by
  obtain ⟨f, fd, hm, FD, hC⟩ := d
  exact ⟨⟨f, fd, ["n"], [], [], fun_ok FD sc__law_cubic t__law_cubic (fun cdv hcd A outer s H E B hk hT hM hr => der__law_cubic hx  hk hT hM  hr) pr__law_cubic sem__law_cubic, hm, FD.kp, FD.bindsN (fun _ _ _ _ _ _ us hl => match us, hl with | [_], _ => rfl), .nil, fun _ _ => .nil⟩, pr__law_cubic⟩
theorem gm__law_point_row (hx : Fx K w mg) (d : At K mg "_law_point_row" s__law_point_row [] (fun _ => True))  : GF P0 w K mg base T 1 2 "_law_point_row" P__law_point_row [] := by
  obtain ⟨f, fd, hm, FD, hC⟩ := d
  exact ⟨⟨f, fd, ["n", "at"], [], [], fun_ok FD sc__law_point_row t__law_point_row (fun cdv hcd A outer s H E B hk hT hM hr => der__law_point_row hx  hk hT hM  hr) pr__law_point_row sem__law_point_row, hm, FD.kp, FD.bindsN (fun _ _ _ _ _ _ us hl => match us, hl with | [_, _], _ => rfl), .nil, fun _ _ => .nil⟩, pr__law_point_row⟩
theorem gm__law_small_row (hx : Fx K w mg) (d : At K mg "_law_small_row" s__law_small_row [] (fun _ => True)) (G__law_one_of : GM P0 w K mg base T 2 2 "_law_one_of" P__law_one_of) (G__law_roll : GM P0 w K mg base T 1 2 "_law_roll" P__law_roll) : GM P0 w K mg base T 3 3 "_law_small_row" P__law_small_row := by
  obtain ⟨f, fd, hm, FD, hC⟩ := d
  exact ⟨⟨f, fd, ["dice", "n", "most"], fun_okM FD sc__law_small_row (by decide) t__law_small_row (fun cdv hcd A outer s H E B hk hT hr => der__law_small_row hx G__law_one_of G__law_roll hk hT  hr) pr__law_small_row sem__law_small_row, hm, FD.kp, FD.bindsN (fun _ _ _ _ _ _ us hl => match us, hl with | [_, _, _], _ => rfl)⟩, pr__law_small_row⟩
theorem gm__law_word (hx : Fx K w mg) (d : At K mg "_law_word" s__law_word [] (fun _ => True)) (G__law_roll : GM P0 w K mg base T 1 2 "_law_roll" P__law_roll) (G__law_mixed : GM P0 w K mg base T 2 2 "_law_mixed" P__law_mixed) : GM P0 w K mg base T 3 3 "_law_word" P__law_word := by
  obtain ⟨f, fd, hm, FD, hC⟩ := d
  exact ⟨⟨f, fd, ["dice", "n", "most"], fun_okM FD sc__law_word (by decide) t__law_word (fun cdv hcd A outer s H E B hk hT hr => der__law_word hx G__law_roll G__law_mixed hk hT  hr) pr__law_word sem__law_word, hm, FD.kp, FD.bindsN (fun _ _ _ _ _ _ us hl => match us, hl with | [_, _, _], _ => rfl)⟩, pr__law_word⟩
theorem gm__law_move (hx : Fx K w mg) (d : At K mg "_law_move" s__law_move [] (fun _ => True))  : GF P0 w K mg base T 1 2 "_law_move" P__law_move [] := by
  obtain ⟨f, fd, hm, FD, hC⟩ := d
  exact ⟨⟨f, fd, ["row", "move"], [], [], fun_ok FD sc__law_move t__law_move (fun cdv hcd A outer s H E B hk hT hM hr => der__law_move hx  hk hT hM  hr) pr__law_move sem__law_move, hm, FD.kp, FD.bindsN (fun _ _ _ _ _ _ us hl => match us, hl with | [_, _], _ => rfl), .nil, fun _ _ => .nil⟩, pr__law_move⟩
theorem gm__law_moved (hx : Fx K w mg) (d : At K mg "_law_moved" s__law_moved [] (fun _ => True)) (G__law_move : GF P0 w K mg base T 1 2 "_law_move" P__law_move []) : GF P0 w K mg base T 2 2 "_law_moved" P__law_moved [] := by
  obtain ⟨f, fd, hm, FD, hC⟩ := d
  exact ⟨⟨f, fd, ["row", "word"], [], [], fun_ok FD sc__law_moved t__law_moved (fun cdv hcd A outer s H E B hk hT hM hr => der__law_moved hx G__law_move hk hT hM  hr) pr__law_moved sem__law_moved, hm, FD.kp, FD.bindsN (fun _ _ _ _ _ _ us hl => match us, hl with | [_, _], _ => rfl), .nil, fun _ _ => .nil⟩, pr__law_moved⟩
theorem gm__law_prime (hx : Fx K w mg) (d : At K mg "_law_prime" s__law_prime [] (fun _ => True)) (G__law_one_of : GM P0 w K mg base T 2 2 "_law_one_of" P__law_one_of) : GM P0 w K mg base T 3 1 "_law_prime" P__law_prime := by
  obtain ⟨f, fd, hm, FD, hC⟩ := d
  exact ⟨⟨f, fd, ["dice"], fun_okM FD sc__law_prime (by decide) t__law_prime (fun cdv hcd A outer s H E B hk hT hr => der__law_prime hx G__law_one_of hk hT  hr) pr__law_prime sem__law_prime, hm, FD.kp, FD.bindsN (fun _ _ _ _ _ _ us hl => match us, hl with | [_], _ => rfl)⟩, pr__law_prime⟩
theorem gm__law_back (hx : Fx K w mg) (d : At K mg "_law_back" s__law_back [] (fun _ => True))  : GF P0 w K mg base T 1 2 "_law_back" P__law_back [] := by
  obtain ⟨f, fd, hm, FD, hC⟩ := d
  exact ⟨⟨f, fd, ["prime", "rest"], [], [], fun_ok FD sc__law_back t__law_back (fun cdv hcd A outer s H E B hk hT hM hr => der__law_back hx  hk hT hM  hr) pr__law_back sem__law_back, hm, FD.kp, FD.bindsN (fun _ _ _ _ _ _ us hl => match us, hl with | [_, _], _ => rfl), .nil, fun _ _ => .nil⟩, pr__law_back⟩
theorem gm__law_normal (hx : Fx K w mg) (d : At K mg "_law_normal" s__law_normal [] (fun _ => True)) (G__law_back : GF P0 w K mg base T 1 2 "_law_back" P__law_back []) : GF P0 w K mg base T 2 2 "_law_normal" P__law_normal [] := by
  obtain ⟨f, fd, hm, FD, hC⟩ := d
  exact ⟨⟨f, fd, ["prime", "triple"], [], [], fun_ok FD sc__law_normal t__law_normal (fun cdv hcd A outer s H E B hk hT hM hr => der__law_normal hx G__law_back hk hT hM  hr) pr__law_normal sem__law_normal, hm, FD.kp, FD.bindsN (fun _ _ _ _ _ _ us hl => match us, hl with | [_, _], _ => rfl), .nil, fun _ _ => .nil⟩, pr__law_normal⟩
theorem gm__law_points (hx : Fx K w mg) (d : At K mg "_law_points" s__law_points [] (fun _ => True)) (G__law_normal : GF P0 w K mg base T 2 2 "_law_normal" P__law_normal []) (G__law_roll : GM P0 w K mg base T 1 2 "_law_roll" P__law_roll) : GM P0 w K mg base T 3 3 "_law_points" P__law_points := by
  obtain ⟨f, fd, hm, FD, hC⟩ := d
  exact ⟨⟨f, fd, ["dice", "prime", "n"], fun_okM FD sc__law_points (by decide) t__law_points (fun cdv hcd A outer s H E B hk hT hr => der__law_points hx G__law_normal G__law_roll hk hT  hr) pr__law_points sem__law_points, hm, FD.kp, FD.bindsN (fun _ _ _ _ _ _ us hl => match us, hl with | [_, _, _], _ => rfl)⟩, pr__law_points⟩
theorem gm__law_is_point_row (hx : Fx K w mg) (d : At K mg "_law_is_point_row" s__law_is_point_row [] (fun _ => True))  : GF P0 w K mg base T 1 1 "_law_is_point_row" P__law_is_point_row [] := by
  obtain ⟨f, fd, hm, FD, hC⟩ := d
  exact ⟨⟨f, fd, ["row"], [], [], fun_ok FD sc__law_is_point_row t__law_is_point_row (fun cdv hcd A outer s H E B hk hT hM hr => der__law_is_point_row hx  hk hT hM  hr) pr__law_is_point_row sem__law_is_point_row, hm, FD.kp, FD.bindsN (fun _ _ _ _ _ _ us hl => match us, hl with | [_], _ => rfl), .nil, fun _ _ => .nil⟩, pr__law_is_point_row⟩
theorem gm__law_leads (hx : Fx K w mg) (d : At K mg "_law_leads" s__law_leads [] (fun _ => True)) (G__law_is_point_row : GF P0 w K mg base T 1 1 "_law_is_point_row" P__law_is_point_row []) : GF P0 w K mg base T 2 1 "_law_leads" P__law_leads [] := by
  obtain ⟨f, fd, hm, FD, hC⟩ := d
  exact ⟨⟨f, fd, ["row"], [], [], fun_ok FD sc__law_leads t__law_leads (fun cdv hcd A outer s H E B hk hT hM hr => der__law_leads hx G__law_is_point_row hk hT hM  hr) pr__law_leads sem__law_leads, hm, FD.kp, FD.bindsN (fun _ _ _ _ _ _ us hl => match us, hl with | [_], _ => rfl), .nil, fun _ _ => .nil⟩, pr__law_leads⟩
theorem gm__law_told_right (hx : Fx K w mg) (d : At K mg "_law_told_right" s__law_told_right [] (fun _ => True)) (G_word_to_point : GF P0 w K mg base T 6 1 "word_to_point" P_word_to_point []) (G__law_leads : GF P0 w K mg base T 2 1 "_law_leads" P__law_leads []) (G_is_led_to_point : GF P0 w K mg base T 6 1 "is_led_to_point" P_is_led_to_point []) (G__law_is_point_row : GF P0 w K mg base T 1 1 "_law_is_point_row" P__law_is_point_row []) (G_moved : GF P0 w K mg base T 5 2 "moved" P_moved []) : GF P0 w K mg base T 7 1 "_law_told_right" P__law_told_right [] := by
  obtain ⟨f, fd, hm, FD, hC⟩ := d
  exact ⟨⟨f, fd, ["row"], [], [], fun_ok FD sc__law_told_right t__law_told_right (fun cdv hcd A outer s H E B hk hT hM hr => der__law_told_right hx G_word_to_point G__law_leads G_is_led_to_point G__law_is_point_row G_moved hk hT hM  hr) pr__law_told_right sem__law_told_right, hm, FD.kp, FD.bindsN (fun _ _ _ _ _ _ us hl => match us, hl with | [_], _ => rfl), .nil, fun _ _ => .nil⟩, pr__law_told_right⟩
theorem gm__law_false_ones (hx : Fx K w mg) (d : At K mg "_law_false_ones" s__law_false_ones [] (fun _ => True))  : GF P0 w K mg base T 1 1 "_law_false_ones" P__law_false_ones [] := by
  obtain ⟨f, fd, hm, FD, hC⟩ := d
  exact ⟨⟨f, fd, ["n"], [], [], fun_ok FD sc__law_false_ones t__law_false_ones (fun cdv hcd A outer s H E B hk hT hM hr => der__law_false_ones hx  hk hT hM  hr) pr__law_false_ones sem__law_false_ones, hm, FD.kp, FD.bindsN (fun _ _ _ _ _ _ us hl => match us, hl with | [_], _ => rfl), .nil, fun _ _ => .nil⟩, pr__law_false_ones⟩
theorem gm__law_squares_right (hx : Fx K w mg) (d : At K mg "_law_squares_right" s__law_squares_right [] (fun _ => True)) (G__law_roll : GM P0 w K mg base T 1 2 "_law_roll" P__law_roll) (G__law_prime : GM P0 w K mg base T 3 1 "_law_prime" P__law_prime) (G__law_points : GM P0 w K mg base T 3 3 "_law_points" P__law_points) (G_is_square_barred : GF P0 w K mg base T 6 1 "is_square_barred" P_is_square_barred []) (G_row_above : GF P0 w K mg base T 7 3 "row_above" P_row_above []) (G_bounds : GF P0 w K mg base T 7 3 "bounds" P_bounds []) : GM P0 w K mg base T 8 1 "_law_squares_right" P__law_squares_right := by
  obtain ⟨f, fd, hm, FD, hC⟩ := d
  exact ⟨⟨f, fd, ["dice"], fun_okM FD sc__law_squares_right (by decide) t__law_squares_right (fun cdv hcd A outer s H E B hk hT hr => der__law_squares_right hx G__law_roll G__law_prime G__law_points G_is_square_barred G_row_above G_bounds hk hT  hr) pr__law_squares_right sem__law_squares_right, hm, FD.kp, FD.bindsN (fun _ _ _ _ _ _ us hl => match us, hl with | [_], _ => rfl)⟩, pr__law_squares_right⟩
theorem gm__law_cell_right (hx : Fx K w mg) (d : At K mg "_law_cell_right" s__law_cell_right [] (fun _ => True)) (G__law_roll : GM P0 w K mg base T 1 2 "_law_roll" P__law_roll) (G__law_moved : GF P0 w K mg base T 2 2 "_law_moved" P__law_moved []) (G__law_word : GM P0 w K mg base T 3 3 "_law_word" P__law_word) (G__law_point_row : GF P0 w K mg base T 1 2 "_law_point_row" P__law_point_row []) (G_is_led_to_point : GF P0 w K mg base T 6 1 "is_led_to_point" P_is_led_to_point []) (G__law_told_right : GF P0 w K mg base T 7 1 "_law_told_right" P__law_told_right []) (G__law_mixed : GM P0 w K mg base T 2 2 "_law_mixed" P__law_mixed) (G__law_cubic : GF P0 w K mg base T 1 1 "_law_cubic" P__law_cubic []) (G__law_small_row : GM P0 w K mg base T 3 3 "_law_small_row" P__law_small_row) (G__law_one_of : GM P0 w K mg base T 2 2 "_law_one_of" P__law_one_of) (G__law_false_ones : GF P0 w K mg base T 1 1 "_law_false_ones" P__law_false_ones []) (G__law_times : GF P0 w K mg base T 1 2 "_law_times" P__law_times []) (G_word_to_point : GF P0 w K mg base T 6 1 "word_to_point" P_word_to_point []) : GM P0 w K mg base T 8 1 "_law_cell_right" P__law_cell_right := by
  obtain ⟨f, fd, hm, FD, hC⟩ := d
  exact ⟨⟨f, fd, ["dice"], fun_okM FD sc__law_cell_right (by decide) t__law_cell_right (fun cdv hcd A outer s H E B hk hT hr => der__law_cell_right hx G__law_roll G__law_moved G__law_word G__law_point_row G_is_led_to_point G__law_told_right G__law_mixed G__law_cubic G__law_small_row G__law_one_of G__law_false_ones G__law_times G_word_to_point hk hT  hr) pr__law_cell_right sem__law_cell_right, hm, FD.kp, FD.bindsN (fun _ _ _ _ _ _ us hl => match us, hl with | [_], _ => rfl)⟩, pr__law_cell_right⟩
theorem gm_law (hx : Fx K w mg) (d : At K mg "law" s_law [] (fun _ => True)) (G__law_dice : GF P0 w K mg base T 1 2 "_law_dice" P__law_dice []) (G__law_cell_right : GM P0 w K mg base T 8 1 "_law_cell_right" P__law_cell_right) (G__law_squares_right : GM P0 w K mg base T 8 1 "_law_squares_right" P__law_squares_right) : GF P0 w K mg base T 9 1 "law" P_law [] := by
  obtain ⟨f, fd, hm, FD, hC⟩ := d
  exact ⟨⟨f, fd, ["script"], [], [], fun_ok FD sc_law t_law (fun cdv hcd A outer s H E B hk hT hM hr => der_law hx G__law_dice G__law_cell_right G__law_squares_right hk hT hM  hr) pr_law sem_law, hm, FD.kp, FD.bindsN (fun _ _ _ _ _ _ us hl => match us, hl with | [_], _ => rfl), .nil, fun _ _ => .nil⟩, pr_law⟩
end
end K82

set_option Elab.async false
set_option linter.all false
set_option maxRecDepth 100000
set_option maxHeartbeats 8000000
namespace K82
open PySem PySem.Spec PyProof.Rows L2 L3
section
variable {P0 : Program} {w : World} {K : PySem.W.Frag} {mg : Str → Option Value} {base : Heap} {T : List (Addr × Option Str)} {h : Heap}
abbrev Says (w : World) (h : Heap) (K : PySem.W.Frag) : Prop := He.SaysX K82R.fa K82R.fn K82R.ts K82R.tf K82R.ex w h K
theorem fx_of (X : K.In h) (G : h.Ns mainGlobals mg) (c : Says w h K) : Fx K w mg where
  z_int := He.free_ok X G (c.t.d.fact 63 (f := .free "int") rfl)
  z_isinstance := He.free_ok X G (c.t.d.fact 64 (f := .free "isinstance") rfl)
  z_bool := He.free_ok X G (c.t.d.fact 65 (f := .free "bool") rfl)
  z_abs := He.free_ok X G (c.t.d.fact 66 (f := .free "abs") rfl)
  z_range := He.free_ok X G (c.t.d.fact 67 (f := .free "range") rfl)
  z_all := He.free_ok X G (c.t.d.fact 68 (f := .free "all") rfl)
  z_tuple := He.free_ok X G (c.t.d.fact 69 (f := .free "tuple") rfl)
  z_len := He.free_ok X G (c.t.d.fact 70 (f := .free "len") rfl)
  z_next := He.free_ok X G (c.t.d.fact 71 (f := .free "next") rfl)
  z_set := He.free_ok X G (c.t.d.fact 72 (f := .free "set") rfl)
  z_zip := He.free_ok X G (c.t.d.fact 73 (f := .free "zip") rfl)
  z_sum := He.free_ok X G (c.t.d.fact 74 (f := .free "sum") rfl)
  z_str := He.free_ok X G (c.t.d.fact 75 (f := .free "str") rfl)
  z_list := He.free_ok X G (c.t.d.fact 76 (f := .free "list") rfl)
  z_sorted := He.free_ok X G (c.t.d.fact 77 (f := .free "sorted") rfl)
  z_max := He.free_ok X G (c.t.d.fact 78 (f := .free "max") rfl)
  z_min := He.free_ok X G (c.t.d.fact 79 (f := .free "min") rfl)
  c_HUNDRED_DIGITS := He.int_ok X G (c.t.d.fact 80 (f := .int "HUNDRED_DIGITS" (10 ^ 100)) rfl)
  c_MOST_PRIME := He.int_ok X G (c.t.d.fact 81 (f := .int "MOST_PRIME" 65521) rfl)
  c_LEAST_PRIME := He.int_ok X G (c.t.d.fact 82 (f := .int "LEAST_PRIME" 5) rfl)
  c_LEAST_POINTS_TOLD := He.int_ok X G (c.t.d.fact 83 (f := .int "LEAST_POINTS_TOLD" 3) rfl)
  c_MAX_POINTS := He.int_ok X G (c.t.d.fact 84 (f := .int "MAX_POINTS" 16) rfl)
  c_LEAST_POINTS := He.int_ok X G (c.t.d.fact 85 (f := .int "LEAST_POINTS" 3) rfl)
  c_MOST_POINTS := He.int_ok X G (c.t.d.fact 86 (f := .int "MOST_POINTS" 16) rfl)
  c_MAX_WORD := He.int_ok X G (c.t.d.fact 87 (f := .int "MAX_WORD" 2000) rfl)
  c_TOO_LONG := He.int_ok X G (c.t.d.fact 88 (f := .int "TOO_LONG" (10 ^ 200)) rfl)
  c_SWAP := He.str_ok X G (c.t.d.fact 89 (f := .str "SWAP" "swap") rfl)
  c_MOST_BOUNDED := He.int_ok X G (c.t.d.fact 90 (f := .int "MOST_BOUNDED" 16) rfl)
  c_FEWEST := He.int_ok X G (c.t.d.fact 91 (f := .int "FEWEST" 10) rfl)
  c_MOST_STEPS := He.int_ok X G (c.t.d.fact 92 (f := .int "MOST_STEPS" 2000) rfl)
  c_SQUARE_DEGREE := He.int_ok X G (c.t.d.fact 93 (f := .int "SQUARE_DEGREE" 4) rfl)
  t_SIZES := by
    obtain ⟨es, n, hk⟩ := c.t.tab 0 (t := (fun K => He.ga K "SIZES", [("swap" : PySem.Str), ("turn" : PySem.Str)])) rfl
    have hv : He.valsB K (He.ga K "SIZES") [("swap", .int 2), ("turn", .int 3)] = true := (Bool.and_eq_true_iff.mp c.more).1
    refine ⟨_, es, n, He.glo_ok X G (c.t.d.fact 94 (f := .glo "SIZES") rfl), hk, fun z i hz => ?_⟩
    simp only [List.mem_cons, Prod.mk.injEq, List.not_mem_nil, or_false] at hz
    rcases hz with ⟨rfl, rfl⟩ | ⟨rfl, rfl⟩
    · obtain ⟨u, h1, t, rfl⟩ := He.valsB_ok hv (q := ("swap", .int 2)) (by simp)
      exact ⟨t, h1⟩
    · obtain ⟨u, h1, t, rfl⟩ := He.valsB_ok hv (q := ("turn", .int 3)) (by simp)
      exact ⟨t, h1⟩
def tabs (K : PySem.W.Frag) : List (Addr × Option Str) := [((He.cT K ("is_point_in", none)).2, none), ((He.cT K ("greatest_three", none)).2, some ("greatest_three.<locals>.<lambda>" : Str))]
theorem cs_eq (K : PySem.W.Frag) : K82R.tf.map (He.cT K) = [He.cT K ("is_point_in", none), He.cT K ("greatest_three", none)] := rfl
theorem ne_0_1 (c : Says w h K) : (He.cT K ("is_point_in", none)).2 ≠ (He.cT K ("greatest_three", none)).2 := fun e => by
  have := (Bool.and_eq_true_iff.mp c.more).2
  rw [e] at this
  simp at this
theorem code_eq {x : Str} {st : Stmt} {dvs : List V} {fd : FuncData} (F : FunD K x x (defArgs st) (defBody st) (defScope st) dvs [] (He.fAd K (x, none)) fd) : fd.code = .ref (He.cT K (x, none)).1 := by
  obtain ⟨oc, od, dV, kV, doc, pm, an, cdv, ct, osl, rfl, lk, hcd, _, _⟩ := F.ex
  obtain ⟨c', rfl⟩ := He.codeIn_ref hcd
  have := He.codeOf_eq (p := (x, none)) lk rfl
  show Value.ref c' = .ref (He.codeOf K (x, none))
  rw [this]
theorem tab_is_point_in (c : Says w h K) (hB : ∀ p ∈ K82R.tf.map (He.cT K), LamX.TabB base mg p.1 p.2) {st : Stmt} {dvs : List V} {fd : FuncData} (F : FunD K "is_point_in" "is_point_in" (defArgs st) (defBody st) (defScope st) dvs [] (He.fAd K ("is_point_in", none)) fd) : TabAt mg base (tabs K) fd.code none := by
  have b := hB (He.cT K ("is_point_in", none)) (by rw [cs_eq]; simp)
  refine ⟨_, _, code_eq F, b.code, b.bm, b.gP, by unfold tabs; simp, ?_⟩
  unfold tabs
  simp only [List.mem_cons, List.not_mem_nil, or_false]
  rintro p (rfl | rfl)
  · exact fun _ => rfl
  · exact fun e => absurd e.symm (ne_0_1 c)
theorem tab_greatest_three (c : Says w h K) (hB : ∀ p ∈ K82R.tf.map (He.cT K), LamX.TabB base mg p.1 p.2) {st : Stmt} {dvs : List V} {fd : FuncData} (F : FunD K "greatest_three" "greatest_three" (defArgs st) (defBody st) (defScope st) dvs [] (He.fAd K ("greatest_three", none)) fd) : TabAt mg base (tabs K) fd.code (some ("greatest_three.<locals>.<lambda>" : Str)) := by
  have b := hB (He.cT K ("greatest_three", none)) (by rw [cs_eq]; simp)
  refine ⟨_, _, code_eq F, b.code, b.bm, b.gP, by unfold tabs; simp, ?_⟩
  unfold tabs
  simp only [List.mem_cons, List.not_mem_nil, or_false]
  rintro p (rfl | rfl)
  · exact fun e => absurd e (ne_0_1 c)
  · exact fun _ => rfl
theorem ok_law (hx : Fx K w mg) {f : Addr} {fd : FuncData} (FD : FunD K "law" "law" (defArgs s_law) (defBody s_law) (defScope s_law) [] [] f fd) (G__law_dice : GF P0 w K mg base T 1 2 "_law_dice" P__law_dice []) (G__law_cell_right : GM P0 w K mg base T 8 1 "_law_cell_right" P__law_cell_right) (G__law_squares_right : GM P0 w K mg base T 8 1 "_law_squares_right" P__law_squares_right) : FnOk P0 w K mg base CX0 9 f fd ["script"] (toSp K T 1 P_law) :=
  fun_ok FD sc_law t_law (fun cdv hcd A outer s H E B hk hT hM hr => der_law hx G__law_dice G__law_cell_right G__law_squares_right hk hT hM hr) pr_law sem_law
theorem all_ok (X : K.In h) (G : h.Ns mainGlobals mg) (c : Says w h K) (hB : ∀ p ∈ K82R.tf.map (He.cT K), LamX.TabB base mg p.1 p.2) {fd : FuncData} (FD : FunD K "law" "law" (defArgs s_law) (defBody s_law) (defScope s_law) [] [] (He.fAd K ("law", none)) fd) : FnOk P0 w K mg base CX0 9 (He.fAd K ("law", none)) fd ["script"] (toSp K (tabs K) 1 P_law) := by
  have hx := fx_of X G c
  have a_is_whole : At K mg "is_whole" s_is_whole [] (fun _ => True) := by
    obtain ⟨fd, F⟩ := c.t.d.def_ 0 (d := K82R.d_is_whole) rfl
    exact ⟨_, fd, He.glo_ok X G (c.t.d.fact 0 (f := .glo "is_whole") rfl), F, trivial⟩
  have G_is_whole : GF P0 w K mg base (tabs K) 1 1 "is_whole" P_is_whole [] := gm_is_whole hx a_is_whole 
  have a_is_integer : At K mg "is_integer" s_is_integer [] (fun _ => True) := by
    obtain ⟨fd, F⟩ := c.t.d.def_ 1 (d := K82R.d_is_integer) rfl
    exact ⟨_, fd, He.glo_ok X G (c.t.d.fact 1 (f := .glo "is_integer") rfl), F, trivial⟩
  have G_is_integer : GF P0 w K mg base (tabs K) 2 1 "is_integer" P_is_integer [] := gm_is_integer hx a_is_integer G_is_whole
  have a_is_within : At K mg "is_within" s_is_within [] (fun _ => True) := by
    obtain ⟨fd, F⟩ := c.t.d.def_ 2 (d := K82R.d_is_within) rfl
    exact ⟨_, fd, He.glo_ok X G (c.t.d.fact 2 (f := .glo "is_within") rfl), F, trivial⟩
  have G_is_within : GF P0 w K mg base (tabs K) 2 3 "is_within" P_is_within [] := gm_is_within hx a_is_within G_is_whole
  have a_is_prime_in : At K mg "is_prime_in" s_is_prime_in [] (fun _ => True) := by
    obtain ⟨fd, F⟩ := c.t.d.def_ 3 (d := K82R.d_is_prime_in) rfl
    exact ⟨_, fd, He.glo_ok X G (c.t.d.fact 3 (f := .glo "is_prime_in") rfl), F, trivial⟩
  have G_is_prime_in : GF P0 w K mg base (tabs K) 3 1 "is_prime_in" P_is_prime_in [] := gm_is_prime_in hx a_is_prime_in G_is_within
  have a_require_prime : At K mg "require_prime" s_require_prime [] (fun _ => True) := by
    obtain ⟨fd, F⟩ := c.t.d.def_ 4 (d := K82R.d_require_prime) rfl
    exact ⟨_, fd, He.glo_ok X G (c.t.d.fact 4 (f := .glo "require_prime") rfl), F, trivial⟩
  have G_require_prime : GF P0 w K mg base (tabs K) 4 1 "require_prime" P_require_prime [] := gm_require_prime hx a_require_prime G_is_prime_in
  have a_is_point_in : At K mg "is_point_in" s_is_point_in [] (fun fd => TabAt mg base (tabs K) fd.code none) := by
    obtain ⟨fd, F⟩ := c.t.d.def_ 5 (d := K82R.d_is_point_in) rfl
    exact ⟨_, fd, He.glo_ok X G (c.t.d.fact 5 (f := .glo "is_point_in") rfl), F, tab_is_point_in c hB (st := s_is_point_in) (dvs := []) F⟩
  have G_is_point_in : GF P0 w K mg base (tabs K) 3 2 "is_point_in" P_is_point_in [] := gm_is_point_in hx a_is_point_in G_is_within
  have a_are_points_in : At K mg "are_points_in" s_are_points_in [] (fun _ => True) := by
    obtain ⟨fd, F⟩ := c.t.d.def_ 6 (d := K82R.d_are_points_in) rfl
    exact ⟨_, fd, He.glo_ok X G (c.t.d.fact 6 (f := .glo "are_points_in") rfl), F, trivial⟩
  have G_are_points_in : GF P0 w K mg base (tabs K) 4 2 "are_points_in" P_are_points_in [] := gm_are_points_in hx a_are_points_in G_is_point_in
  have a_require_points : At K mg "require_points" s_require_points [] (fun _ => True) := by
    obtain ⟨fd, F⟩ := c.t.d.def_ 7 (d := K82R.d_require_points) rfl
    exact ⟨_, fd, He.glo_ok X G (c.t.d.fact 7 (f := .glo "require_points") rfl), F, trivial⟩
  have G_require_points : GF P0 w K mg base (tabs K) 5 2 "require_points" P_require_points [] := gm_require_points hx a_require_points G_require_prime G_are_points_in
  have a_points_of : At K mg "points_of" s_points_of [] (fun _ => True) := by
    obtain ⟨fd, F⟩ := c.t.d.def_ 8 (d := K82R.d_points_of) rfl
    exact ⟨_, fd, He.glo_ok X G (c.t.d.fact 8 (f := .glo "points_of") rfl), F, trivial⟩
  have G_points_of : GF P0 w K mg base (tabs K) 1 1 "points_of" P_points_of [] := gm_points_of hx a_points_of 
  have a_is_row_in : At K mg "is_row_in" s_is_row_in [] (fun _ => True) := by
    obtain ⟨fd, F⟩ := c.t.d.def_ 9 (d := K82R.d_is_row_in) rfl
    exact ⟨_, fd, He.glo_ok X G (c.t.d.fact 9 (f := .glo "is_row_in") rfl), F, trivial⟩
  have G_is_row_in : GF P0 w K mg base (tabs K) 3 1 "is_row_in" P_is_row_in [] := gm_is_row_in hx a_is_row_in G_is_integer
  have a_require_row : At K mg "require_row" s_require_row [.int 3, .int 16] (fun _ => True) := by
    obtain ⟨fd, F⟩ := c.t.d.def_ 10 (d := K82R.d_require_row) rfl
    exact ⟨_, fd, He.glo_ok X G (c.t.d.fact 10 (f := .glo "require_row") rfl), F, trivial⟩
  have G_require_row : GF P0 w K mg base (tabs K) 4 3 "require_row" P_require_row [] := gm_require_row hx a_require_row G_is_row_in G_points_of
  have G_require_row_d : GF P0 w K mg base (tabs K) 4 3 "require_row" P_require_row D_require_row := gm_require_row_d hx a_require_row G_is_row_in G_points_of
  have a_product_in : At K mg "product_in" s_product_in [] (fun _ => True) := by
    obtain ⟨fd, F⟩ := c.t.d.def_ 11 (d := K82R.d_product_in) rfl
    exact ⟨_, fd, He.glo_ok X G (c.t.d.fact 11 (f := .glo "product_in") rfl), F, trivial⟩
  have G_product_in : GF P0 w K mg base (tabs K) 1 2 "product_in" P_product_in [] := gm_product_in hx a_product_in 
  have a_square_in : At K mg "square_in" s_square_in [] (fun _ => True) := by
    obtain ⟨fd, F⟩ := c.t.d.def_ 12 (d := K82R.d_square_in) rfl
    exact ⟨_, fd, He.glo_ok X G (c.t.d.fact 12 (f := .glo "square_in") rfl), F, trivial⟩
  have G_square_in : GF P0 w K mg base (tabs K) 2 1 "square_in" P_square_in [] := gm_square_in hx a_square_in G_product_in
  have a_with_cubic_in : At K mg "with_cubic_in" s_with_cubic_in [] (fun _ => True) := by
    obtain ⟨fd, F⟩ := c.t.d.def_ 13 (d := K82R.d_with_cubic_in) rfl
    exact ⟨_, fd, He.glo_ok X G (c.t.d.fact 13 (f := .glo "with_cubic_in") rfl), F, trivial⟩
  have G_with_cubic_in : GF P0 w K mg base (tabs K) 1 1 "with_cubic_in" P_with_cubic_in [] := gm_with_cubic_in hx a_with_cubic_in 
  have a_counting_in : At K mg "counting_in" s_counting_in [] (fun _ => True) := by
    obtain ⟨fd, F⟩ := c.t.d.def_ 14 (d := K82R.d_counting_in) rfl
    exact ⟨_, fd, He.glo_ok X G (c.t.d.fact 14 (f := .glo "counting_in") rfl), F, trivial⟩
  have G_counting_in : GF P0 w K mg base (tabs K) 3 1 "counting_in" P_counting_in [] := gm_counting_in hx a_counting_in G_square_in G_with_cubic_in
  have a_is_index_below : At K mg "is_index_below" s_is_index_below [] (fun _ => True) := by
    obtain ⟨fd, F⟩ := c.t.d.def_ 15 (d := K82R.d_is_index_below) rfl
    exact ⟨_, fd, He.glo_ok X G (c.t.d.fact 15 (f := .glo "is_index_below") rfl), F, trivial⟩
  have G_is_index_below : GF P0 w K mg base (tabs K) 1 2 "is_index_below" P_is_index_below [] := gm_is_index_below hx a_is_index_below 
  have a_is_move_in : At K mg "is_move_in" s_is_move_in [] (fun _ => True) := by
    obtain ⟨fd, F⟩ := c.t.d.def_ 16 (d := K82R.d_is_move_in) rfl
    exact ⟨_, fd, He.glo_ok X G (c.t.d.fact 16 (f := .glo "is_move_in") rfl), F, trivial⟩
  have G_is_move_in : GF P0 w K mg base (tabs K) 2 2 "is_move_in" P_is_move_in [] := gm_is_move_in hx a_is_move_in G_is_index_below
  have a_is_word_in : At K mg "is_word_in" s_is_word_in [] (fun _ => True) := by
    obtain ⟨fd, F⟩ := c.t.d.def_ 17 (d := K82R.d_is_word_in) rfl
    exact ⟨_, fd, He.glo_ok X G (c.t.d.fact 17 (f := .glo "is_word_in") rfl), F, trivial⟩
  have G_is_word_in : GF P0 w K mg base (tabs K) 3 2 "is_word_in" P_is_word_in [] := gm_is_word_in hx a_is_word_in G_is_move_in
  have a_require_word : At K mg "require_word" s_require_word [] (fun _ => True) := by
    obtain ⟨fd, F⟩ := c.t.d.def_ 18 (d := K82R.d_require_word) rfl
    exact ⟨_, fd, He.glo_ok X G (c.t.d.fact 18 (f := .glo "require_word") rfl), F, trivial⟩
  have G_require_word : GF P0 w K mg base (tabs K) 4 2 "require_word" P_require_word [] := gm_require_word hx a_require_word G_is_word_in
  have a_is_passable : At K mg "is_passable" s_is_passable [] (fun _ => True) := by
    obtain ⟨fd, F⟩ := c.t.d.def_ 19 (d := K82R.d_is_passable) rfl
    exact ⟨_, fd, He.glo_ok X G (c.t.d.fact 19 (f := .glo "is_passable") rfl), F, trivial⟩
  have G_is_passable : GF P0 w K mg base (tabs K) 1 1 "is_passable" P_is_passable [] := gm_is_passable hx a_is_passable 
  have a_require_passable : At K mg "require_passable" s_require_passable [] (fun _ => True) := by
    obtain ⟨fd, F⟩ := c.t.d.def_ 20 (d := K82R.d_require_passable) rfl
    exact ⟨_, fd, He.glo_ok X G (c.t.d.fact 20 (f := .glo "require_passable") rfl), F, trivial⟩
  have G_require_passable : GF P0 w K mg base (tabs K) 2 1 "require_passable" P_require_passable [] := gm_require_passable hx a_require_passable G_is_passable
  have a_turn_in : At K mg "turn_in" s_turn_in [] (fun _ => True) := by
    obtain ⟨fd, F⟩ := c.t.d.def_ 21 (d := K82R.d_turn_in) rfl
    exact ⟨_, fd, He.glo_ok X G (c.t.d.fact 21 (f := .glo "turn_in") rfl), F, trivial⟩
  have G_turn_in : GF P0 w K mg base (tabs K) 1 4 "turn_in" P_turn_in [] := gm_turn_in hx a_turn_in 
  have a_moved_once : At K mg "moved_once" s_moved_once [] (fun _ => True) := by
    obtain ⟨fd, F⟩ := c.t.d.def_ 22 (d := K82R.d_moved_once) rfl
    exact ⟨_, fd, He.glo_ok X G (c.t.d.fact 22 (f := .glo "moved_once") rfl), F, trivial⟩
  have G_moved_once : GF P0 w K mg base (tabs K) 2 2 "moved_once" P_moved_once [] := gm_moved_once hx a_moved_once G_turn_in
  have a_moved_in : At K mg "moved_in" s_moved_in [] (fun _ => True) := by
    obtain ⟨fd, F⟩ := c.t.d.def_ 23 (d := K82R.d_moved_in) rfl
    exact ⟨_, fd, He.glo_ok X G (c.t.d.fact 23 (f := .glo "moved_in") rfl), F, trivial⟩
  have G_moved_in : GF P0 w K mg base (tabs K) 3 2 "moved_in" P_moved_in [] := gm_moved_in hx a_moved_in G_moved_once
  have a_moved : At K mg "moved" s_moved [] (fun _ => True) := by
    obtain ⟨fd, F⟩ := c.t.d.def_ 24 (d := K82R.d_moved) rfl
    exact ⟨_, fd, He.glo_ok X G (c.t.d.fact 24 (f := .glo "moved") rfl), F, trivial⟩
  have G_moved : GF P0 w K mg base (tabs K) 5 2 "moved" P_moved [] := gm_moved hx a_moved G_require_row G_require_row_d G_require_word G_moved_in G_require_passable
  have a_require_many : At K mg "require_many" s_require_many [] (fun _ => True) := by
    obtain ⟨fd, F⟩ := c.t.d.def_ 25 (d := K82R.d_require_many) rfl
    exact ⟨_, fd, He.glo_ok X G (c.t.d.fact 25 (f := .glo "require_many") rfl), F, trivial⟩
  have G_require_many : GF P0 w K mg base (tabs K) 5 1 "require_many" P_require_many [] := gm_require_many hx a_require_many G_require_row
  have a_greatest_three : At K mg "greatest_three" s_greatest_three [] (fun fd => TabAt mg base (tabs K) fd.code (some ("greatest_three.<locals>.<lambda>" : Str))) := by
    obtain ⟨fd, F⟩ := c.t.d.def_ 26 (d := K82R.d_greatest_three) rfl
    exact ⟨_, fd, He.glo_ok X G (c.t.d.fact 26 (f := .glo "greatest_three") rfl), F, tab_greatest_three c hB (st := s_greatest_three) (dvs := []) F⟩
  have G_greatest_three : GF P0 w K mg base (tabs K) 4 1 "greatest_three" P_greatest_three [] := gm_greatest_three hx a_greatest_three G_points_of
  have a_is_triple_above : At K mg "is_triple_above" s_is_triple_above [] (fun _ => True) := by
    obtain ⟨fd, F⟩ := c.t.d.def_ 27 (d := K82R.d_is_triple_above) rfl
    exact ⟨_, fd, He.glo_ok X G (c.t.d.fact 27 (f := .glo "is_triple_above") rfl), F, trivial⟩
  have G_is_triple_above : GF P0 w K mg base (tabs K) 1 2 "is_triple_above" P_is_triple_above [] := gm_is_triple_above hx a_is_triple_above 
  have a_clipped : At K mg "clipped" s_clipped [] (fun _ => True) := by
    obtain ⟨fd, F⟩ := c.t.d.def_ 28 (d := K82R.d_clipped) rfl
    exact ⟨_, fd, He.glo_ok X G (c.t.d.fact 28 (f := .glo "clipped") rfl), F, trivial⟩
  have G_clipped : GF P0 w K mg base (tabs K) 1 1 "clipped" P_clipped [] := gm_clipped hx a_clipped 
  have a_standard_end : At K mg "standard_end" s_standard_end [] (fun _ => True) := by
    obtain ⟨fd, F⟩ := c.t.d.def_ 29 (d := K82R.d_standard_end) rfl
    exact ⟨_, fd, He.glo_ok X G (c.t.d.fact 29 (f := .glo "standard_end") rfl), F, trivial⟩
  have G_standard_end : GF P0 w K mg base (tabs K) 5 1 "standard_end" P_standard_end [] := gm_standard_end hx a_standard_end G_clipped G_greatest_three G_is_triple_above G_turn_in
  have a_lower_of : At K mg "lower_of" s_lower_of [] (fun _ => True) := by
    obtain ⟨fd, F⟩ := c.t.d.def_ 30 (d := K82R.d_lower_of) rfl
    exact ⟨_, fd, He.glo_ok X G (c.t.d.fact 30 (f := .glo "lower_of") rfl), F, trivial⟩
  have G_lower_of : GF P0 w K mg base (tabs K) 4 1 "lower_of" P_lower_of [] := gm_lower_of hx a_lower_of G_counting_in
  have a_is_barred_in : At K mg "is_barred_in" s_is_barred_in [] (fun _ => True) := by
    obtain ⟨fd, F⟩ := c.t.d.def_ 31 (d := K82R.d_is_barred_in) rfl
    exact ⟨_, fd, He.glo_ok X G (c.t.d.fact 31 (f := .glo "is_barred_in") rfl), F, trivial⟩
  have G_is_barred_in : GF P0 w K mg base (tabs K) 2 1 "is_barred_in" P_is_barred_in [] := gm_is_barred_in hx a_is_barred_in G_points_of
  have a_upper_of : At K mg "upper_of" s_upper_of [] (fun _ => True) := by
    obtain ⟨fd, F⟩ := c.t.d.def_ 32 (d := K82R.d_upper_of) rfl
    exact ⟨_, fd, He.glo_ok X G (c.t.d.fact 32 (f := .glo "upper_of") rfl), F, trivial⟩
  have G_upper_of : GF P0 w K mg base (tabs K) 3 4 "upper_of" P_upper_of [] := gm_upper_of hx a_upper_of G_is_barred_in
  have a_walk_to_point : At K mg "walk_to_point" s_walk_to_point [] (fun _ => True) := by
    obtain ⟨fd, F⟩ := c.t.d.def_ 33 (d := K82R.d_walk_to_point) rfl
    exact ⟨_, fd, He.glo_ok X G (c.t.d.fact 33 (f := .glo "walk_to_point") rfl), F, trivial⟩
  have G_walk_to_point : GF P0 w K mg base (tabs K) 5 1 "walk_to_point" P_walk_to_point [] := gm_walk_to_point hx a_walk_to_point G_greatest_three G_is_triple_above G_turn_in
  have a_is_row_of_point : At K mg "is_row_of_point" s_is_row_of_point [] (fun _ => True) := by
    obtain ⟨fd, F⟩ := c.t.d.def_ 34 (d := K82R.d_is_row_of_point) rfl
    exact ⟨_, fd, He.glo_ok X G (c.t.d.fact 34 (f := .glo "is_row_of_point") rfl), F, trivial⟩
  have G_is_row_of_point : GF P0 w K mg base (tabs K) 1 1 "is_row_of_point" P_is_row_of_point [] := gm_is_row_of_point hx a_is_row_of_point 
  have a_require_bounded : At K mg "require_bounded" s_require_bounded [] (fun _ => True) := by
    obtain ⟨fd, F⟩ := c.t.d.def_ 35 (d := K82R.d_require_bounded) rfl
    exact ⟨_, fd, He.glo_ok X G (c.t.d.fact 35 (f := .glo "require_bounded") rfl), F, trivial⟩
  have G_require_bounded : GF P0 w K mg base (tabs K) 6 3 "require_bounded" P_require_bounded [] := gm_require_bounded hx a_require_bounded G_require_points G_is_row_in G_points_of
  have a_is_square_barred : At K mg "is_square_barred" s_is_square_barred [] (fun _ => True) := by
    obtain ⟨fd, F⟩ := c.t.d.def_ 36 (d := K82R.d_is_square_barred) rfl
    exact ⟨_, fd, He.glo_ok X G (c.t.d.fact 36 (f := .glo "is_square_barred") rfl), F, trivial⟩
  have G_is_square_barred : GF P0 w K mg base (tabs K) 6 1 "is_square_barred" P_is_square_barred [] := gm_is_square_barred hx a_is_square_barred G_require_many G_is_barred_in
  have a_row_above : At K mg "row_above" s_row_above [] (fun _ => True) := by
    obtain ⟨fd, F⟩ := c.t.d.def_ 37 (d := K82R.d_row_above) rfl
    exact ⟨_, fd, He.glo_ok X G (c.t.d.fact 37 (f := .glo "row_above") rfl), F, trivial⟩
  have G_row_above : GF P0 w K mg base (tabs K) 7 3 "row_above" P_row_above [] := gm_row_above hx a_row_above G_require_bounded G_upper_of G_standard_end
  have a_bounds : At K mg "bounds" s_bounds [] (fun _ => True) := by
    obtain ⟨fd, F⟩ := c.t.d.def_ 38 (d := K82R.d_bounds) rfl
    exact ⟨_, fd, He.glo_ok X G (c.t.d.fact 38 (f := .glo "bounds") rfl), F, trivial⟩
  have G_bounds : GF P0 w K mg base (tabs K) 7 3 "bounds" P_bounds [] := gm_bounds hx a_bounds G_require_bounded G_standard_end G_upper_of G_lower_of
  have a_is_led_to_point : At K mg "is_led_to_point" s_is_led_to_point [] (fun _ => True) := by
    obtain ⟨fd, F⟩ := c.t.d.def_ 39 (d := K82R.d_is_led_to_point) rfl
    exact ⟨_, fd, He.glo_ok X G (c.t.d.fact 39 (f := .glo "is_led_to_point") rfl), F, trivial⟩
  have G_is_led_to_point : GF P0 w K mg base (tabs K) 6 1 "is_led_to_point" P_is_led_to_point [] := gm_is_led_to_point hx a_is_led_to_point G_require_many G_is_row_of_point G_walk_to_point
  have a_word_to_point : At K mg "word_to_point" s_word_to_point [] (fun _ => True) := by
    obtain ⟨fd, F⟩ := c.t.d.def_ 40 (d := K82R.d_word_to_point) rfl
    exact ⟨_, fd, He.glo_ok X G (c.t.d.fact 40 (f := .glo "word_to_point") rfl), F, trivial⟩
  have G_word_to_point : GF P0 w K mg base (tabs K) 6 1 "word_to_point" P_word_to_point [] := gm_word_to_point hx a_word_to_point G_require_many G_walk_to_point G_is_row_of_point
  have a__law_dice : At K mg "_law_dice" s__law_dice [] (fun _ => True) := by
    obtain ⟨fd, F⟩ := c.t.d.def_ 41 (d := K82R.d__law_dice) rfl
    exact ⟨_, fd, He.glo_ok X G (c.t.d.fact 41 (f := .glo "_law_dice") rfl), F, trivial⟩
  have G__law_dice : GF P0 w K mg base (tabs K) 1 2 "_law_dice" P__law_dice [] := gm__law_dice hx a__law_dice 
  have a__law_roll : At K mg "_law_roll" s__law_roll [] (fun _ => True) := by
    obtain ⟨fd, F⟩ := c.t.d.def_ 42 (d := K82R.d__law_roll) rfl
    exact ⟨_, fd, He.glo_ok X G (c.t.d.fact 42 (f := .glo "_law_roll") rfl), F, trivial⟩
  have G__law_roll : GM P0 w K mg base (tabs K) 1 2 "_law_roll" P__law_roll := gm__law_roll hx a__law_roll 
  have a__law_one_of : At K mg "_law_one_of" s__law_one_of [] (fun _ => True) := by
    obtain ⟨fd, F⟩ := c.t.d.def_ 43 (d := K82R.d__law_one_of) rfl
    exact ⟨_, fd, He.glo_ok X G (c.t.d.fact 43 (f := .glo "_law_one_of") rfl), F, trivial⟩
  have G__law_one_of : GM P0 w K mg base (tabs K) 2 2 "_law_one_of" P__law_one_of := gm__law_one_of hx a__law_one_of G__law_roll
  have a__law_mixed : At K mg "_law_mixed" s__law_mixed [] (fun _ => True) := by
    obtain ⟨fd, F⟩ := c.t.d.def_ 44 (d := K82R.d__law_mixed) rfl
    exact ⟨_, fd, He.glo_ok X G (c.t.d.fact 44 (f := .glo "_law_mixed") rfl), F, trivial⟩
  have G__law_mixed : GM P0 w K mg base (tabs K) 2 2 "_law_mixed" P__law_mixed := gm__law_mixed hx a__law_mixed G__law_roll
  have a__law_times : At K mg "_law_times" s__law_times [] (fun _ => True) := by
    obtain ⟨fd, F⟩ := c.t.d.def_ 45 (d := K82R.d__law_times) rfl
    exact ⟨_, fd, He.glo_ok X G (c.t.d.fact 45 (f := .glo "_law_times") rfl), F, trivial⟩
  have G__law_times : GF P0 w K mg base (tabs K) 1 2 "_law_times" P__law_times [] := gm__law_times hx a__law_times 
  have a__law_cubic : At K mg "_law_cubic" s__law_cubic [] (fun _ => True) := by
    obtain ⟨fd, F⟩ := c.t.d.def_ 46 (d := K82R.d__law_cubic) rfl
    exact ⟨_, fd, He.glo_ok X G (c.t.d.fact 46 (f := .glo "_law_cubic") rfl), F, trivial⟩
  have G__law_cubic : GF P0 w K mg base (tabs K) 1 1 "_law_cubic" P__law_cubic [] := gm__law_cubic hx a__law_cubic 
  have a__law_point_row : At K mg "_law_point_row" s__law_point_row [] (fun _ => True) := by
    obtain ⟨fd, F⟩ := c.t.d.def_ 47 (d := K82R.d__law_point_row) rfl
    exact ⟨_, fd, He.glo_ok X G (c.t.d.fact 47 (f := .glo "_law_point_row") rfl), F, trivial⟩
  have G__law_point_row : GF P0 w K mg base (tabs K) 1 2 "_law_point_row" P__law_point_row [] := gm__law_point_row hx a__law_point_row 
  have a__law_small_row : At K mg "_law_small_row" s__law_small_row [] (fun _ => True) := by
    obtain ⟨fd, F⟩ := c.t.d.def_ 48 (d := K82R.d__law_small_row) rfl
    exact ⟨_, fd, He.glo_ok X G (c.t.d.fact 48 (f := .glo "_law_small_row") rfl), F, trivial⟩
  have G__law_small_row : GM P0 w K mg base (tabs K) 3 3 "_law_small_row" P__law_small_row := gm__law_small_row hx a__law_small_row G__law_one_of G__law_roll
  have a__law_word : At K mg "_law_word" s__law_word [] (fun _ => True) := by
    obtain ⟨fd, F⟩ := c.t.d.def_ 49 (d := K82R.d__law_word) rfl
    exact ⟨_, fd, He.glo_ok X G (c.t.d.fact 49 (f := .glo "_law_word") rfl), F, trivial⟩
  have G__law_word : GM P0 w K mg base (tabs K) 3 3 "_law_word" P__law_word := gm__law_word hx a__law_word G__law_roll G__law_mixed
  have a__law_move : At K mg "_law_move" s__law_move [] (fun _ => True) := by
    obtain ⟨fd, F⟩ := c.t.d.def_ 50 (d := K82R.d__law_move) rfl
    exact ⟨_, fd, He.glo_ok X G (c.t.d.fact 50 (f := .glo "_law_move") rfl), F, trivial⟩
  have G__law_move : GF P0 w K mg base (tabs K) 1 2 "_law_move" P__law_move [] := gm__law_move hx a__law_move 
  have a__law_moved : At K mg "_law_moved" s__law_moved [] (fun _ => True) := by
    obtain ⟨fd, F⟩ := c.t.d.def_ 51 (d := K82R.d__law_moved) rfl
    exact ⟨_, fd, He.glo_ok X G (c.t.d.fact 51 (f := .glo "_law_moved") rfl), F, trivial⟩
  have G__law_moved : GF P0 w K mg base (tabs K) 2 2 "_law_moved" P__law_moved [] := gm__law_moved hx a__law_moved G__law_move
  have a__law_prime : At K mg "_law_prime" s__law_prime [] (fun _ => True) := by
    obtain ⟨fd, F⟩ := c.t.d.def_ 52 (d := K82R.d__law_prime) rfl
    exact ⟨_, fd, He.glo_ok X G (c.t.d.fact 52 (f := .glo "_law_prime") rfl), F, trivial⟩
  have G__law_prime : GM P0 w K mg base (tabs K) 3 1 "_law_prime" P__law_prime := gm__law_prime hx a__law_prime G__law_one_of
  have a__law_back : At K mg "_law_back" s__law_back [] (fun _ => True) := by
    obtain ⟨fd, F⟩ := c.t.d.def_ 53 (d := K82R.d__law_back) rfl
    exact ⟨_, fd, He.glo_ok X G (c.t.d.fact 53 (f := .glo "_law_back") rfl), F, trivial⟩
  have G__law_back : GF P0 w K mg base (tabs K) 1 2 "_law_back" P__law_back [] := gm__law_back hx a__law_back 
  have a__law_normal : At K mg "_law_normal" s__law_normal [] (fun _ => True) := by
    obtain ⟨fd, F⟩ := c.t.d.def_ 54 (d := K82R.d__law_normal) rfl
    exact ⟨_, fd, He.glo_ok X G (c.t.d.fact 54 (f := .glo "_law_normal") rfl), F, trivial⟩
  have G__law_normal : GF P0 w K mg base (tabs K) 2 2 "_law_normal" P__law_normal [] := gm__law_normal hx a__law_normal G__law_back
  have a__law_points : At K mg "_law_points" s__law_points [] (fun _ => True) := by
    obtain ⟨fd, F⟩ := c.t.d.def_ 55 (d := K82R.d__law_points) rfl
    exact ⟨_, fd, He.glo_ok X G (c.t.d.fact 55 (f := .glo "_law_points") rfl), F, trivial⟩
  have G__law_points : GM P0 w K mg base (tabs K) 3 3 "_law_points" P__law_points := gm__law_points hx a__law_points G__law_normal G__law_roll
  have a__law_is_point_row : At K mg "_law_is_point_row" s__law_is_point_row [] (fun _ => True) := by
    obtain ⟨fd, F⟩ := c.t.d.def_ 56 (d := K82R.d__law_is_point_row) rfl
    exact ⟨_, fd, He.glo_ok X G (c.t.d.fact 56 (f := .glo "_law_is_point_row") rfl), F, trivial⟩
  have G__law_is_point_row : GF P0 w K mg base (tabs K) 1 1 "_law_is_point_row" P__law_is_point_row [] := gm__law_is_point_row hx a__law_is_point_row 
  have a__law_leads : At K mg "_law_leads" s__law_leads [] (fun _ => True) := by
    obtain ⟨fd, F⟩ := c.t.d.def_ 57 (d := K82R.d__law_leads) rfl
    exact ⟨_, fd, He.glo_ok X G (c.t.d.fact 57 (f := .glo "_law_leads") rfl), F, trivial⟩
  have G__law_leads : GF P0 w K mg base (tabs K) 2 1 "_law_leads" P__law_leads [] := gm__law_leads hx a__law_leads G__law_is_point_row
  have a__law_told_right : At K mg "_law_told_right" s__law_told_right [] (fun _ => True) := by
    obtain ⟨fd, F⟩ := c.t.d.def_ 58 (d := K82R.d__law_told_right) rfl
    exact ⟨_, fd, He.glo_ok X G (c.t.d.fact 58 (f := .glo "_law_told_right") rfl), F, trivial⟩
  have G__law_told_right : GF P0 w K mg base (tabs K) 7 1 "_law_told_right" P__law_told_right [] := gm__law_told_right hx a__law_told_right G_word_to_point G__law_leads G_is_led_to_point G__law_is_point_row G_moved
  have a__law_false_ones : At K mg "_law_false_ones" s__law_false_ones [] (fun _ => True) := by
    obtain ⟨fd, F⟩ := c.t.d.def_ 59 (d := K82R.d__law_false_ones) rfl
    exact ⟨_, fd, He.glo_ok X G (c.t.d.fact 59 (f := .glo "_law_false_ones") rfl), F, trivial⟩
  have G__law_false_ones : GF P0 w K mg base (tabs K) 1 1 "_law_false_ones" P__law_false_ones [] := gm__law_false_ones hx a__law_false_ones 
  have a__law_squares_right : At K mg "_law_squares_right" s__law_squares_right [] (fun _ => True) := by
    obtain ⟨fd, F⟩ := c.t.d.def_ 60 (d := K82R.d__law_squares_right) rfl
    exact ⟨_, fd, He.glo_ok X G (c.t.d.fact 60 (f := .glo "_law_squares_right") rfl), F, trivial⟩
  have G__law_squares_right : GM P0 w K mg base (tabs K) 8 1 "_law_squares_right" P__law_squares_right := gm__law_squares_right hx a__law_squares_right G__law_roll G__law_prime G__law_points G_is_square_barred G_row_above G_bounds
  have a__law_cell_right : At K mg "_law_cell_right" s__law_cell_right [] (fun _ => True) := by
    obtain ⟨fd, F⟩ := c.t.d.def_ 61 (d := K82R.d__law_cell_right) rfl
    exact ⟨_, fd, He.glo_ok X G (c.t.d.fact 61 (f := .glo "_law_cell_right") rfl), F, trivial⟩
  have G__law_cell_right : GM P0 w K mg base (tabs K) 8 1 "_law_cell_right" P__law_cell_right := gm__law_cell_right hx a__law_cell_right G__law_roll G__law_moved G__law_word G__law_point_row G_is_led_to_point G__law_told_right G__law_mixed G__law_cubic G__law_small_row G__law_one_of G__law_false_ones G__law_times G_word_to_point
  exact ok_law hx FD G__law_dice G__law_cell_right G__law_squares_right
theorem tbs_of {H : Hp} (hT : ∀ p ∈ K82R.tf.map (He.cT K), H p.2 = some (.tbl #[])) : Tbs (tabs K) H := by
  unfold tabs
  intro p hp
  simp only [List.mem_cons, List.not_mem_nil, or_false] at hp
  rcases hp with rfl | rfl
  · have e := hT (He.cT K ("is_point_in", none)) (by rw [cs_eq]; simp)
    exact ⟨#[], e, trivial⟩
  · have e := hT (He.cT K ("greatest_three", none)) (by rw [cs_eq]; simp)
    exact ⟨#[], e, trivial, fun _ _ q => by cases q⟩
end
end K82
open PySem PySem.W PySem.Calls PyProof.Rows
theorem PySem.Challenge.cw_timesthrough_k82_rows_led_to_points_and_holds : PySem.Challenge.rw_timesthrough_k82_rows_led_to_points_and.Holds := by
  refine K82R.head fun w mg fa h K KX c G hmg => ?_
  obtain ⟨fd, FD⟩ := c.t.d.def_ 62 (d := K82R.d_law) rfl
  have e := hmg.symm.trans (He.glo_ok KX G (c.t.d.fact 62 (f := .glo "law") rfl))
  cases e
  have b := L2.FunD.bindsA (ps := ["script"]) FD fun _ _ _ _ _ _ us hl => match us, hl with | [_], _ => rfl
  refine ⟨fd, K82R.tf.map (He.cT K), L3.toSp K (K82.tabs K) 1 K82.P_law, ?_, ?_, ?_, fun s v => b s [v] rfl, ?_, fun base _ _ hB => K82.all_ok KX G c hB FD⟩
  · intro p hp
    obtain ⟨q, hq, rfl⟩ := List.mem_map.mp hp
    exact c.empty q hq
  · intro p hp
    obtain ⟨q, hq, rfl⟩ := List.mem_map.mp hp
    exact c.out q hq
  · intro p hp
    obtain ⟨q, hq, rfl⟩ := List.mem_map.mp hp
    exact codeHd_of_K KX (c.hd q hq)
  · intro H a ns _ _ hT hS
    refine ⟨fun b => b = a ∧ H a = some (.lst (ns.map L2.V.int)), [.scr (ns.map L3.D.int)], .cons (.scr ?_ L3.Reps.ints') .nil, rfl, fun b hb => by rw [hb.1, hb.2]; simp, K82.tbs_of hT, ns, rfl, fun v F' H' _ rv => L3.Rep.bl_inv rv⟩
    rcases hS with (h | ⟨o, h⟩) | h
    · exact .inr (.inl ⟨⟨rfl, h⟩, h⟩)
    · exact .inl ⟨o, h⟩
    · exact .inr (.inr h)
