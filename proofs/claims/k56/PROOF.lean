import PyProof.Rows.All
import Wide.All
import OpenK.AllK
import Wide.FinOn
import KE.KStateDown
import Lean
import HandS.ForMost
import HandS.Wide
import HandS.Lambda
import HandS.EndBits
import HandS.EndTab
import HandS.HeadWalk
import HandS.ClsMeth
import HandS.SortInts
import HandS.SortKw
import HandS.Flow
import HandS.Walk
import HandS.Rev
import HandS.SetFor
import HandS.Defaults
import HandS.Head0
import HandS.Head1
import HandS.Head2
import HandS.HeadEnd
import HandS.HeadHook1
import HandS.HeadHook2
import HandS.HeadHook3
import HandS.HeadHook4
import PySem.Challenge.RW_moodtree_k56_whole_written_back_runs
import KE.KSortKey
import HandS.Nested
import KE.KNestM
set_option Elab.async false
set_option linter.all false
set_option maxRecDepth 100000
set_option maxHeartbeats 4000000
/-! the text by places, the head's facts and run -/
namespace K56
open PySem PySem.Spec PyProof.Rows L2
def top (i : Nat) : Stmt := PySem.Challenge.pw_moodtree_k56_whole_written_back_runs.main.body.getD i (.Pass ⟨0, 0, 0, 0⟩)
abbrev s_Tree_init : Stmt := inClass (top 1) 0
abbrev s_above : Stmt := top 2
abbrev s_depth : Stmt := top 3
abbrev s_within : Stmt := top 4
abbrev s_inner : Stmt := top 5
abbrev s_Chart_init : Stmt := inClass (top 7) 0
abbrev s_firsts : Stmt := top 8
abbrev s_value : Stmt := top 10
abbrev s_holds : Stmt := top 11
abbrev s_all_hold : Stmt := top 12
abbrev s_done : Stmt := top 14
abbrev s_undone : Stmt := top 15
abbrev s_performed : Stmt := top 18
abbrev s_walked_back : Stmt := top 19
abbrev s_told : Stmt := top 20
abbrev s_idle_end : Stmt := top 22
abbrev s_ways_of : Stmt := top 23
abbrev s_unnested : Stmt := top 24
abbrev s_road : Stmt := top 26
abbrev s_top : Stmt := top 27
abbrev s_asks_moods : Stmt := top 29
abbrev s_fits : Stmt := top 30
abbrev s_goable : Stmt := top 31
abbrev s_number_asks : Stmt := top 32
abbrev s_picks : Stmt := top 33
abbrev s_way_top : Stmt := top 34
abbrev s_meet : Stmt := top 35
abbrev s_kept : Stmt := top 36
abbrev s_opened : Stmt := top 41
abbrev s_entered : Stmt := top 42
abbrev s_left : Stmt := top 43
abbrev s_remembered : Stmt := top 44
abbrev s_heeded : Stmt := top 46
abbrev s_leaving : Stmt := top 47
abbrev s_entering : Stmt := top 48
abbrev s_moved : Stmt := top 49
abbrev s_begun : Stmt := top 50
abbrev s_Table_init : Stmt := inClass (top 52) 0
abbrev s_Runner_init : Stmt := inClass (top 55) 0
abbrev s_Runner_script_of : Stmt := inClass (top 55) 1
abbrev s_Runner_put_back : Stmt := inClass (top 55) 2
abbrev s_Runner_do_script : Stmt := inClass (top 55) 3
abbrev s_Runner_deal : Stmt := inClass (top 55) 4
abbrev s_Runner_begin_with : Stmt := inClass (top 55) 5
abbrev s_Runner_feed : Stmt := inClass (top 55) 6
abbrev s_Runner_back : Stmt := inClass (top 55) 7
abbrev s_Runner_fed : Stmt := inClass (top 55) 8
abbrev s_Runner_story : Stmt := inClass (top 55) 9
abbrev s_Runner_numbers : Stmt := inClass (top 55) 10
abbrev s_FlatRun_init : Stmt := inClass (top 57) 0
abbrev s_FlatRun_script_of : Stmt := inClass (top 57) 1
abbrev s_FlatRun_feed : Stmt := inClass (top 57) 2
abbrev s_FlatRun_put_back : Stmt := inClass (top 57) 3
abbrev s_FlatRun_moods : Stmt := inClass (top 57) 4
abbrev s_FlatRun_flat : Stmt := inClass (top 57) 5
abbrev s_NestRun_init : Stmt := inClass (top 59) 0
abbrev s_NestRun_script_of : Stmt := inClass (top 59) 1
abbrev s_NestRun_put_back : Stmt := inClass (top 59) 2
abbrev s_NestRun_moods : Stmt := inClass (top 59) 3
abbrev s_NestRun_state : Stmt := inClass (top 59) 4
abbrev s_law_cell_at : Stmt := top 61
abbrev s_law_take : Stmt := top 62
abbrev s_law_term : Stmt := top 63
abbrev s_law_piece : Stmt := top 64
abbrev s_law_script : Stmt := top 65
abbrev s_law_rows : Stmt := top 66
abbrev s_law_pieces : Stmt := top 67
abbrev s_law_table : Stmt := top 68
abbrev s_law_told : Stmt := top 69
abbrev s_law_alike : Stmt := top 70
abbrev s_law_turns : Stmt := top 71
abbrev s_law : Stmt := top 72
def d_above : He.DefD := ⟨("above", none), "above", "above", defArgs s_above, defBody s_above, defScope s_above, [], []⟩
def d_depth : He.DefD := ⟨("depth", none), "depth", "depth", defArgs s_depth, defBody s_depth, defScope s_depth, [], []⟩
def d_within : He.DefD := ⟨("within", none), "within", "within", defArgs s_within, defBody s_within, defScope s_within, [], []⟩
def d_firsts : He.DefD := ⟨("firsts", none), "firsts", "firsts", defArgs s_firsts, defBody s_firsts, defScope s_firsts, [], []⟩
def d_value : He.DefD := ⟨("value", none), "value", "value", defArgs s_value, defBody s_value, defScope s_value, [], []⟩
def d_holds : He.DefD := ⟨("holds", none), "holds", "holds", defArgs s_holds, defBody s_holds, defScope s_holds, [], []⟩
def d_all_hold : He.DefD := ⟨("all_hold", none), "all_hold", "all_hold", defArgs s_all_hold, defBody s_all_hold, defScope s_all_hold, [], []⟩
def d_done : He.DefD := ⟨("done", none), "done", "done", defArgs s_done, defBody s_done, defScope s_done, [], []⟩
def d_undone : He.DefD := ⟨("undone", none), "undone", "undone", defArgs s_undone, defBody s_undone, defScope s_undone, [], []⟩
def d_performed : He.DefD := ⟨("performed", none), "performed", "performed", defArgs s_performed, defBody s_performed, defScope s_performed, [], []⟩
def d_walked_back : He.DefD := ⟨("walked_back", none), "walked_back", "walked_back", defArgs s_walked_back, defBody s_walked_back, defScope s_walked_back, [], []⟩
def d_told : He.DefD := ⟨("told", none), "told", "told", defArgs s_told, defBody s_told, defScope s_told, [], []⟩
def d_idle_end : He.DefD := ⟨("idle_end", none), "idle_end", "idle_end", defArgs s_idle_end, defBody s_idle_end, defScope s_idle_end, [], []⟩
def d_ways_of : He.DefD := ⟨("ways_of", none), "ways_of", "ways_of", defArgs s_ways_of, defBody s_ways_of, defScope s_ways_of, [], []⟩
def d_unnested : He.DefD := ⟨("unnested", none), "unnested", "unnested", defArgs s_unnested, defBody s_unnested, defScope s_unnested, [], []⟩
def d_road : He.DefD := ⟨("road", none), "road", "road", defArgs s_road, defBody s_road, defScope s_road, [], []⟩
def d_top : He.DefD := ⟨("top", none), "top", "top", defArgs s_top, defBody s_top, defScope s_top, [], []⟩
def d_asks_moods : He.DefD := ⟨("asks_moods", none), "asks_moods", "asks_moods", defArgs s_asks_moods, defBody s_asks_moods, defScope s_asks_moods, [], []⟩
def d_fits : He.DefD := ⟨("fits", none), "fits", "fits", defArgs s_fits, defBody s_fits, defScope s_fits, [], []⟩
def d_goable : He.DefD := ⟨("goable", none), "goable", "goable", defArgs s_goable, defBody s_goable, defScope s_goable, [], []⟩
def d_number_asks : He.DefD := ⟨("number_asks", none), "number_asks", "number_asks", defArgs s_number_asks, defBody s_number_asks, defScope s_number_asks, [], []⟩
def d_picks : He.DefD := ⟨("picks", none), "picks", "picks", defArgs s_picks, defBody s_picks, defScope s_picks, [], []⟩
def d_kept : He.DefD := ⟨("kept", none), "kept", "kept", defArgs s_kept, defBody s_kept, defScope s_kept, [], []⟩
def d_opened : He.DefD := ⟨("opened", none), "opened", "opened", defArgs s_opened, defBody s_opened, defScope s_opened, [], []⟩
def d_entered : He.DefD := ⟨("entered", none), "entered", "entered", defArgs s_entered, defBody s_entered, defScope s_entered, [], []⟩
def d_left : He.DefD := ⟨("left", none), "left", "left", defArgs s_left, defBody s_left, defScope s_left, [], []⟩
def d_remembered : He.DefD := ⟨("remembered", none), "remembered", "remembered", defArgs s_remembered, defBody s_remembered, defScope s_remembered, [], []⟩
def d_heeded : He.DefD := ⟨("heeded", none), "heeded", "heeded", defArgs s_heeded, defBody s_heeded, defScope s_heeded, [], []⟩
def d_leaving : He.DefD := ⟨("leaving", none), "leaving", "leaving", defArgs s_leaving, defBody s_leaving, defScope s_leaving, [], []⟩
def d_entering : He.DefD := ⟨("entering", none), "entering", "entering", defArgs s_entering, defBody s_entering, defScope s_entering, [], []⟩
def d_moved : He.DefD := ⟨("moved", none), "moved", "moved", defArgs s_moved, defBody s_moved, defScope s_moved, [], []⟩
def d_begun : He.DefD := ⟨("begun", none), "begun", "begun", defArgs s_begun, defBody s_begun, defScope s_begun, [], []⟩
def d_law_cell_at : He.DefD := ⟨("_law_cell_at", none), "_law_cell_at", "_law_cell_at", defArgs s_law_cell_at, defBody s_law_cell_at, defScope s_law_cell_at, [], []⟩
def d_law_take : He.DefD := ⟨("_law_take", none), "_law_take", "_law_take", defArgs s_law_take, defBody s_law_take, defScope s_law_take, [], []⟩
def d_law_term : He.DefD := ⟨("_law_term", none), "_law_term", "_law_term", defArgs s_law_term, defBody s_law_term, defScope s_law_term, [], []⟩
def d_law_piece : He.DefD := ⟨("_law_piece", none), "_law_piece", "_law_piece", defArgs s_law_piece, defBody s_law_piece, defScope s_law_piece, [], []⟩
def d_law_script : He.DefD := ⟨("_law_script", none), "_law_script", "_law_script", defArgs s_law_script, defBody s_law_script, defScope s_law_script, [], []⟩
def d_law_rows : He.DefD := ⟨("_law_rows", none), "_law_rows", "_law_rows", defArgs s_law_rows, defBody s_law_rows, defScope s_law_rows, [], []⟩
def d_law_pieces : He.DefD := ⟨("_law_pieces", none), "_law_pieces", "_law_pieces", defArgs s_law_pieces, defBody s_law_pieces, defScope s_law_pieces, [], []⟩
def d_law_table : He.DefD := ⟨("_law_table", none), "_law_table", "_law_table", defArgs s_law_table, defBody s_law_table, defScope s_law_table, [], []⟩
def d_law_told : He.DefD := ⟨("_law_told", none), "_law_told", "_law_told", defArgs s_law_told, defBody s_law_told, defScope s_law_told, [], []⟩
def d_law_alike : He.DefD := ⟨("_law_alike", none), "_law_alike", "_law_alike", defArgs s_law_alike, defBody s_law_alike, defScope s_law_alike, [], []⟩
def d_law_turns : He.DefD := ⟨("_law_turns", none), "_law_turns", "_law_turns", defArgs s_law_turns, defBody s_law_turns, defScope s_law_turns, [], []⟩
def d_law : He.DefD := ⟨("law", none), "law", "law", defArgs s_law, defBody s_law, defScope s_law, [], []⟩
def d_Tree_init : He.DefD := ⟨("Tree", some "__init__"), "__init__", "Tree.__init__", defArgs s_Tree_init, defBody s_Tree_init, defScope s_Tree_init, [], []⟩
def d_Chart_init : He.DefD := ⟨("Chart", some "__init__"), "__init__", "Chart.__init__", defArgs s_Chart_init, defBody s_Chart_init, defScope s_Chart_init, [], []⟩
def d_Table_init : He.DefD := ⟨("Table", some "__init__"), "__init__", "Table.__init__", defArgs s_Table_init, defBody s_Table_init, defScope s_Table_init, [], []⟩
def d_FlatRun_init : He.DefD := ⟨("FlatRun", some "__init__"), "__init__", "FlatRun.__init__", defArgs s_FlatRun_init, defBody s_FlatRun_init, defScope s_FlatRun_init, [], []⟩
def d_FlatRun_script_of : He.DefD := ⟨("FlatRun", some "script_of"), "script_of", "FlatRun.script_of", defArgs s_FlatRun_script_of, defBody s_FlatRun_script_of, defScope s_FlatRun_script_of, [], []⟩
def d_FlatRun_feed : He.DefD := ⟨("FlatRun", some "feed"), "feed", "FlatRun.feed", defArgs s_FlatRun_feed, defBody s_FlatRun_feed, defScope s_FlatRun_feed, [], []⟩
def d_FlatRun_put_back : He.DefD := ⟨("FlatRun", some "put_back"), "put_back", "FlatRun.put_back", defArgs s_FlatRun_put_back, defBody s_FlatRun_put_back, defScope s_FlatRun_put_back, [], []⟩
def d_FlatRun_flat : He.DefD := ⟨("FlatRun", some "flat"), "flat", "FlatRun.flat", defArgs s_FlatRun_flat, defBody s_FlatRun_flat, defScope s_FlatRun_flat, [], []⟩
def d_NestRun_init : He.DefD := ⟨("NestRun", some "__init__"), "__init__", "NestRun.__init__", defArgs s_NestRun_init, defBody s_NestRun_init, defScope s_NestRun_init, [], []⟩
def d_NestRun_script_of : He.DefD := ⟨("NestRun", some "script_of"), "script_of", "NestRun.script_of", defArgs s_NestRun_script_of, defBody s_NestRun_script_of, defScope s_NestRun_script_of, [], []⟩
def d_NestRun_put_back : He.DefD := ⟨("NestRun", some "put_back"), "put_back", "NestRun.put_back", defArgs s_NestRun_put_back, defBody s_NestRun_put_back, defScope s_NestRun_put_back, [], []⟩
def d_NestRun_moods : He.DefD := ⟨("NestRun", some "moods"), "moods", "NestRun.moods", defArgs s_NestRun_moods, defBody s_NestRun_moods, defScope s_NestRun_moods, [], []⟩
def d_FlatRun_do_script : He.DefD := ⟨("FlatRun", some "do_script"), "do_script", "Runner.do_script", defArgs s_Runner_do_script, defBody s_Runner_do_script, defScope s_Runner_do_script, [], []⟩
def d_FlatRun_deal : He.DefD := ⟨("FlatRun", some "deal"), "deal", "Runner.deal", defArgs s_Runner_deal, defBody s_Runner_deal, defScope s_Runner_deal, [], []⟩
def d_FlatRun_begin_with : He.DefD := ⟨("FlatRun", some "begin_with"), "begin_with", "Runner.begin_with", defArgs s_Runner_begin_with, defBody s_Runner_begin_with, defScope s_Runner_begin_with, [], []⟩
def d_FlatRun_back : He.DefD := ⟨("FlatRun", some "back"), "back", "Runner.back", defArgs s_Runner_back, defBody s_Runner_back, defScope s_Runner_back, [], []⟩
def d_FlatRun_fed : He.DefD := ⟨("FlatRun", some "fed"), "fed", "Runner.fed", defArgs s_Runner_fed, defBody s_Runner_fed, defScope s_Runner_fed, [], []⟩
def d_FlatRun_story : He.DefD := ⟨("FlatRun", some "story"), "story", "Runner.story", defArgs s_Runner_story, defBody s_Runner_story, defScope s_Runner_story, [], []⟩
def d_FlatRun_numbers : He.DefD := ⟨("FlatRun", some "numbers"), "numbers", "Runner.numbers", defArgs s_Runner_numbers, defBody s_Runner_numbers, defScope s_Runner_numbers, [], []⟩
def d_NestRun_do_script : He.DefD := ⟨("NestRun", some "do_script"), "do_script", "Runner.do_script", defArgs s_Runner_do_script, defBody s_Runner_do_script, defScope s_Runner_do_script, [], []⟩
def d_NestRun_deal : He.DefD := ⟨("NestRun", some "deal"), "deal", "Runner.deal", defArgs s_Runner_deal, defBody s_Runner_deal, defScope s_Runner_deal, [], []⟩
def d_NestRun_begin_with : He.DefD := ⟨("NestRun", some "begin_with"), "begin_with", "Runner.begin_with", defArgs s_Runner_begin_with, defBody s_Runner_begin_with, defScope s_Runner_begin_with, [], []⟩
def d_NestRun_feed : He.DefD := ⟨("NestRun", some "feed"), "feed", "Runner.feed", defArgs s_Runner_feed, defBody s_Runner_feed, defScope s_Runner_feed, [], []⟩
def d_NestRun_back : He.DefD := ⟨("NestRun", some "back"), "back", "Runner.back", defArgs s_Runner_back, defBody s_Runner_back, defScope s_Runner_back, [], []⟩
def d_NestRun_fed : He.DefD := ⟨("NestRun", some "fed"), "fed", "Runner.fed", defArgs s_Runner_fed, defBody s_Runner_fed, defScope s_Runner_fed, [], []⟩
def d_NestRun_story : He.DefD := ⟨("NestRun", some "story"), "story", "Runner.story", defArgs s_Runner_story, defBody s_Runner_story, defScope s_Runner_story, [], []⟩
def d_NestRun_numbers : He.DefD := ⟨("NestRun", some "numbers"), "numbers", "Runner.numbers", defArgs s_Runner_numbers, defBody s_Runner_numbers, defScope s_Runner_numbers, [], []⟩
def d_Runner_init : He.DefD := ⟨("Runner", some "__init__"), "__init__", "Runner.__init__", defArgs s_Runner_init, defBody s_Runner_init, defScope s_Runner_init, [], []⟩
def d_Runner_feed : He.DefD := ⟨("Runner", some "feed"), "feed", "Runner.feed", defArgs s_Runner_feed, defBody s_Runner_feed, defScope s_Runner_feed, [], []⟩
def fn_0 : List He.DefD := [d_above, d_depth, d_within, d_firsts, d_value, d_holds, d_all_hold, d_done, d_undone, d_performed, d_walked_back, d_told, d_idle_end, d_ways_of, d_unnested, d_road, d_top, d_asks_moods, d_fits, d_goable, d_number_asks, d_picks, d_kept, d_opened, d_entered, d_left, d_remembered, d_heeded, d_leaving, d_entering]
def fn_1 : List He.DefD := [d_moved, d_begun, d_law_cell_at, d_law_take, d_law_term, d_law_piece, d_law_script, d_law_rows, d_law_pieces, d_law_table, d_law_told, d_law_alike, d_law_turns, d_law, d_Tree_init, d_Chart_init, d_Table_init, d_FlatRun_init, d_FlatRun_script_of, d_FlatRun_feed, d_FlatRun_put_back, d_FlatRun_flat, d_NestRun_init, d_NestRun_script_of, d_NestRun_put_back, d_NestRun_moods, d_FlatRun_do_script, d_FlatRun_deal, d_FlatRun_begin_with, d_FlatRun_back]
def fn_2 : List He.DefD := [d_FlatRun_fed, d_FlatRun_story, d_FlatRun_numbers, d_NestRun_do_script, d_NestRun_deal, d_NestRun_begin_with, d_NestRun_feed, d_NestRun_back, d_NestRun_fed, d_NestRun_story, d_NestRun_numbers, d_Runner_init, d_Runner_feed]
def fn : List He.DefD := fn_0 ++ (fn_1 ++ (fn_2))
def fa_0 : List He.Fa := [.glo "above", .glo "depth", .glo "within", .glo "firsts", .glo "value", .glo "holds", .glo "all_hold", .glo "done", .glo "undone", .glo "performed", .glo "walked_back", .glo "told", .glo "idle_end", .glo "ways_of", .glo "unnested", .glo "road", .glo "top", .glo "asks_moods", .glo "fits", .glo "goable", .glo "number_asks", .glo "picks", .glo "kept", .glo "opened", .glo "entered", .glo "left", .glo "remembered", .glo "heeded", .glo "leaving", .glo "entering"]
def fa_1 : List He.Fa := [.glo "moved", .glo "begun", .glo "_law_cell_at", .glo "_law_take", .glo "_law_term", .glo "_law_piece", .glo "_law_script", .glo "_law_rows", .glo "_law_pieces", .glo "_law_table", .glo "_law_told", .glo "_law_alike", .glo "_law_turns", .glo "law", .glo "Tree", .cls "Tree", .mkr "Tree", .glo "Chart", .cls "Chart", .mkr "Chart", .glo "Table", .cls "Table", .mkr "Table", .glo "FlatRun", .cls "FlatRun", .mkr "FlatRun", .glo "NestRun", .cls "NestRun", .mkr "NestRun", .glo "Runner"]
def fa_2 : List He.Fa := [.glo "NoStep", .glo "MARKS", .noat "Tree" "kinds", .noat "Tree" "elders", .noat "Tree" "starts", .noat "Chart" "boxes", .noat "Chart" "names", .noat "Chart" "tree", .noat "Chart" "ins", .noat "Chart" "outs", .noat "Chart" "ways", .noat "Table" "boxes", .noat "Table" "signs", .noat "Table" "begin", .noat "Table" "flats", .noat "Table" "rows", .noat "FlatRun" "boxes", .noat "FlatRun" "book", .noat "FlatRun" "table", .noat "FlatRun" "place", .noat "FlatRun" "been", .noat "NestRun" "boxes", .noat "NestRun" "book", .noat "NestRun" "chart", .noat "NestRun" "opens", .noat "NestRun" "mind", .meth "FlatRun" "script_of", .meth "FlatRun" "feed", .meth "FlatRun" "put_back", .meth "FlatRun" "flat"]
def fa_3 : List He.Fa := [.meth "NestRun" "script_of", .meth "NestRun" "put_back", .meth "NestRun" "moods", .meth "FlatRun" "do_script", .meth "FlatRun" "deal", .meth "FlatRun" "begin_with", .meth "FlatRun" "back", .meth "FlatRun" "fed", .meth "FlatRun" "story", .meth "FlatRun" "numbers", .meth "NestRun" "do_script", .meth "NestRun" "deal", .meth "NestRun" "begin_with", .meth "NestRun" "feed", .meth "NestRun" "back", .meth "NestRun" "fed", .meth "NestRun" "story", .meth "NestRun" "numbers", .free "list", .free "len", .free "range", .free "enumerate", .free "reversed", .free "sorted", .free "tuple", .free "any", .free "str", .free "max", .free "min", .free "sum"]
def fa_4 : List He.Fa := [.int "MOST" 8]
def fa : List He.Fa := fa_0 ++ (fa_1 ++ (fa_2 ++ (fa_3 ++ (fa_4))))
def clsB (K : PySem.W.Frag) (m : Str) : Bool := (match PySem.W.findCls K (.ref (He.ga K "Runner")) (.type "type") m with
  | some (.val u) => decide (u = .ref (He.ma K (He.ga K "Runner") m))
  | _ => false) && PySem.W.keepIn K (.ref (He.ma K (He.ga K "Runner") m))
def ex (K : PySem.W.Frag) : Bool := He.tupB K "MARKS" [.str "out", .str "keep", .str "way", .str "in"] && (PySem.W.readsIn K (He.ga K "Runner") (.type "type") && (decide (PySem.W.specialIn K (.ref (He.ga K "Runner")) "__getattribute__" = some (some (.builtin "type.__getattribute__"))) && (clsB K "__init__" && clsB K "feed")))
def tf : List He.Defn := [("kept", none)]
def names_0 : List PySem.Str := ["Tree", "above", "depth", "within", "inner", "Chart", "firsts", "value", "holds", "all_hold", "done", "undone", "MARKS", "performed", "walked_back", "told", "idle_end", "ways_of", "unnested", "road", "top", "asks_moods", "fits", "goable", "number_asks", "picks", "way_top", "meet", "kept", "MoodError"]
def names_1 : List PySem.Str := ["NoStep", "opened", "entered", "left", "remembered", "heeded", "leaving", "entering", "moved", "begun", "Table", "MOST", "Runner", "FlatRun", "NestRun", "_law_cell_at", "_law_take", "_law_term", "_law_piece", "_law_script", "_law_rows", "_law_pieces", "_law_table", "_law_told", "_law_alike", "_law_turns"]
def names : List PySem.Str := names_0 ++ (names_1)
abbrev R : PySem.W.OpenRow := PySem.W.OpenLaw.row PySem.Challenge.rw_moodtree_k56_whole_written_back_runs
def pile (g : Addr → Option Obj) : List Addr := cStatics :: He.asD g 6
abbrev AlZ : Type := He.AlT × Bool
def look (g : Addr → Option Obj) : AlZ := (He.obsT fa fn [] (He.frT g (pile g)), ex (He.frT g (pile g)) && He.tabsB g tf (He.frT g (pile g)))
theorem says_of {w : World} {h : Heap} (e : look h.get? = ((He.valT fn [] w, true) : AlZ)) : He.SaysX fa fn [] tf ex w h (He.frT h.get? (pile h.get?)) := by
  obtain ⟨a, b⟩ := Prod.mk.inj e
  obtain ⟨m, c⟩ := He.ba b
  have each : ∀ p, p ∈ tf → PySem.W.codeHdIn (He.frT h.get? (pile h.get?)) (He.cT (He.frT h.get? (pile h.get?)) p).1 (He.cT (He.frT h.get? (pile h.get?)) p).2 = true ∧
      ∃ o, h.get? (He.cT (He.frT h.get? (pile h.get?)) p).2 = some o ∧ He.emptyTab o = true := by
    intro p hp
    obtain ⟨c1, c2⟩ := He.ba (List.all_eq_true.mp c p hp)
    refine ⟨c1, ?_⟩
    revert c2
    cases h.get? (He.cT (He.frT h.get? (pile h.get?)) p).2 with
    | none => intro z; cases z
    | some o => intro z; exact ⟨o, rfl, z⟩
  refine ⟨a, m, fun p hp => (each p hp).1, fun p hp => ?_, fun p hp => ?_⟩
  · obtain ⟨_, o, e1, e2⟩ := each p hp
    exact He.frT_none e1 e2
  · obtain ⟨_, o, e1, e2⟩ := each p hp
    rw [e1, He.emptyTab_eq e2]
def hk : PySem.W.Hook where
  α := AlZ
  obs := fun s => look s.heap.get?
  val := fun w => (He.valT fn [] w, true)
  says := fun w h => ∃ K : PySem.W.Frag, K.In h ∧ He.SaysX fa fn [] tf ex w h K
  of := fun _ _ e => ⟨_, He.frT_in, says_of e⟩
  keeps := fun _ _ _ ⟨K, hK, c⟩ k => ⟨K, PySem.W.Frag.In.keeps hK k, ⟨c.t, c.more, c.hd, c.out, fun p hp => k _ _ (c.empty p hp)⟩⟩
end K56
namespace K56R
open PySem PySem.Spec PyProof.Rows L2 K56
def ob (s : PySem.W.SharedT) : AlZ := look (HandSHeadRun.getT s)
theorem ob_eq (s : PySem.W.SharedT) : ob s = hk.obs s.abs := by
  have e : HandSHeadRun.getT s = s.abs.heap.get? := funext fun a => HandSHeadRun.getT_eq s a
  show look _ = look _
  rw [e]
end K56R
set_option Elab.async false
set_option linter.all false
set_option maxRecDepth 100000
set_option maxHeartbeats 0
namespace K56R
open PySem PySem.Spec PyProof.Rows L2 K56
theorem run (w : World) : HandSHeadRun.RunEq R (PySem.W.view R.prog [72]) hk ob 20000 names w := by
  intro os
  kernel_rfl
end K56R
set_option Elab.async false
set_option linter.all false
set_option maxRecDepth 100000
set_option maxHeartbeats 4000000
/-! rules of my own: calls of promised defs, a class's function called, extend by a tuple, a slice with a step -/
namespace K56
open PySem PySem.Spec PyProof.Rows L2
/-! ### a def, a method, a maker with a promise -/
structure GFn (P : Program) (w : World) (K : PySem.W.Frag) (mg : Str → Option Value) (base : Heap) (k : Nat) (x : Str) (ps : List Str) (sp : Sp) : Prop where
  ex : ∃ (f : Addr) (fd : FuncData), mg x = some (.ref f) ∧ PySem.W.keepIn K (.ref f) = true ∧ FnOk P w K mg base CX0 k f fd ps sp ∧ Binds K fd ps []
structure GMt (P : Program) (w : World) (K : PySem.W.Frag) (mg : Str → Option Value) (base : Heap) (k : Nat) (C : Addr) (m : Str) (ps : List Str) (sp : Sp) : Prop where
  ex : ∃ (f : Addr) (fd : FuncData), Cls K C ∧ Meth K C m f ∧ FnOk P w K mg base CX0 k f fd ps sp ∧ Binds K fd ps []
structure GMk (P : Program) (w : World) (K : PySem.W.Frag) (mg : Str → Option Value) (base : Heap) (k : Nat) (x : Str) (C : Addr) (ps : List Str) (sp : Sp) : Prop where
  ex : ∃ (f : Addr) (fd : FuncData), mg x = some (.ref C) ∧ L2.Mk K C f ∧ FnOk P w K mg base CX0 k f fd ps sp ∧ Binds K fd ps []
/-- C.m(..) by the class's name, C at the address -/
structure GCl (P : Program) (w : World) (K : PySem.W.Frag) (mg : Str → Option Value) (base : Heap) (k : Nat) (C : Addr) (m : Str) (ps : List Str) (sp : Sp) : Prop where
  ex : ∃ (f : Addr) (fd : FuncData), ClX.CRead K C (.type "type") ∧ PySem.W.findCls K (.ref C) (.type "type") m = some (.val (.ref f)) ∧ PySem.W.keepIn K (.ref f) = true ∧ FnOk P w K mg base CX0 k f fd ps sp ∧ Binds K fd ps []
def tG (sp : Sp) (t : TA) : TE := fun σ H Q => t σ H fun vs H1 => sp vs H1 Q E0
def tGM (C : Addr) (m : Str) (sp : Sp) (ta : TE) (t : TA) : TE := fun σ H Q => ta σ H fun x H1 => ∃ a dx fs, x = .ref a ∧ H1 a = some (.ins C dx fs) ∧ fs.lookup m = none ∧ t σ H1 fun vs H2 => sp (x :: vs) H2 Q E0
def tGK (C : Addr) (sp : Sp) (t : TA) : TE := fun σ H Q => t σ H fun vs H1 => ∀ x dx, H1 x = none → H1 dx = none → dx ≠ x →
  sp (.ref x :: vs) (upd (upd H1 dx (.own x)) x (.ins C dx [])) (fun v H2 => v = .non ∧ Q (.ref x) H2) E0
def tGC (C : Addr) (sp : Sp) (ta : TE) (t : TA) : TE := fun σ H Q => ta σ H fun x H1 => x = .ref C ∧ t σ H1 fun vs H2 => sp vs H2 Q E0
section
variable {X : Cx} {k j : Nat} {C : Addr} {x m : Str} {ps : List Str} {sp : Sp} {o e : Expr} {es : List Expr} {ta : TE} {t : TA} {p apos pos : Pos} {pl : Sem Bool}
theorem tg_mono {t1 t2 : TE} {ee : Expr} (h : PE X ee t1) (i : ∀ σ H Q, t2 σ H Q → t1 σ H Q) : PE X ee t2 := ⟨fun pins s σ H Q I q => h.run pins s σ H Q I (i σ H Q q)⟩
theorem ta_mono {t1 : TA} (ha : PA X (e :: es) t) (i : ∀ σ H Q, t1 σ H Q → t σ H Q) : PA X (e :: es) t1 := ⟨fun pos pins s σ H Q I q => ha.run pos pins s σ H Q I (i σ H Q q)⟩
theorem app_nil (P : List V → Prop) (vs : List V) (h : P vs) : P (vs ++ []) := by
  rw [List.append_nil]
  exact h
theorem app_nilf (sp : Sp) (Q : VK) : (fun (vs : List V) H1 => sp (vs ++ []) H1 Q E0) = fun vs H1 => sp vs H1 Q E0 := by
  funext vs H1
  rw [List.append_nil]
theorem app_nilx (sp : Sp) (Q : VK) (x : V) : (fun (vs : List V) H1 => sp (x :: (vs ++ [])) H1 Q E0) = fun vs H1 => sp (x :: vs) H1 Q E0 := by
  funext vs H1
  rw [List.append_nil]
/-- f(e, ..) -/
theorem pe_g (G : GFn X.prog X.w X.K X.mg X.base k x ps sp) (hr : Room j X.A) (hg : Gl X x) (ha : PA X (e :: es) t) (hk : k ≤ j := by decide)
    (hdb : (x == ("__debug__" : Str)) = false := by decide) (he : starEach (e :: es) X.env = (false, eval e X.env) :: starEach es X.env := by rfl) (hpl : (backTo pos (starEach es X.env)).any (·.1) = false := by rfl) :
    PE X (.Call (.Name x p) (e :: es) [] pos) (tG sp t) := by
  obtain ⟨f, fd, hm, hkp, F, b⟩ := G.ex
  have h := pe_call (p := p) (pos := pos) F (hr.mono hk) hg hm hkp b .nil pass0 ha hdb he hpl
  refine tg_mono h fun σ H Q q => ?_
  show t σ H fun vs H1 => sp (vs ++ []) H1 Q E0
  rw [app_nilf]
  exact q
/-- o.m(e, ..) -/
theorem pe_gm (G : GMt X.prog X.w X.K X.mg X.base k C m ps sp) (hr : Room j X.A) (ho : PE X o ta) (ha : PA X (e :: es) t) (hk : k ≤ j := by decide)
    (hst : starEach (e :: es) X.env = (false, eval e X.env) :: starEach es X.env := by rfl) (hpl : (backTo pos (starEach es X.env)).any (·.1) = false := by rfl)
    (ht : eval (.Call (.Attribute o m apos) (e :: es) [] pos) X.env = (do
      let ov ← eval o X.env
      standAt apos.atName
      let (f, first) ← holding [ov] (getMethod ov m pl)
      callWith pos f first (backTo pos (starEach (e :: es) X.env)) (backToKw pos (keywordEach [] X.env))) := by rfl) :
    PE X (.Call (.Attribute o m apos) (e :: es) [] pos) (tGM C m sp ta t) := by
  obtain ⟨f, fd, c, hm, F, b⟩ := G.ex
  have h := pe_meth (pl := pl) (apos := apos) (pos := pos) ho c hm F (hr.mono hk) b .nil pass0 ha hst hpl ht
  refine tg_mono h fun σ H Q q => ?_
  show ta σ H fun x H1 => ∃ a dx fs, x = .ref a ∧ H1 a = some (.ins C dx fs) ∧ fs.lookup m = none ∧ t σ H1 fun vs H2 => sp (x :: (vs ++ [])) H2 Q E0
  have e : (fun (x : V) (H1 : Hp) => ∃ a dx fs, x = .ref a ∧ H1 a = some (.ins C dx fs) ∧ fs.lookup m = none ∧ t σ H1 fun vs H2 => sp (x :: (vs ++ [])) H2 Q E0) =
      fun x H1 => ∃ a dx fs, x = .ref a ∧ H1 a = some (.ins C dx fs) ∧ fs.lookup m = none ∧ t σ H1 fun vs H2 => sp (x :: vs) H2 Q E0 := by
    funext x H1
    rw [app_nilx]
  rw [e]
  exact q
/-- o.m() -/
theorem pe_gm0 (G : GMt X.prog X.w X.K X.mg X.base k C m ps sp) (hr : Room j X.A) (ho : PE X o ta) (hk : k ≤ j := by decide)
    (ht : eval (.Call (.Attribute o m apos) [] [] pos) X.env = (do
      let ov ← eval o X.env
      standAt apos.atName
      let (f, first) ← holding [ov] (getMethod ov m pl)
      callWith pos f first (backTo pos (starEach [] X.env)) (backToKw pos (keywordEach [] X.env))) := by rfl) :
    PE X (.Call (.Attribute o m apos) [] [] pos) (tGM C m sp ta tNil) := by
  obtain ⟨f, fd, c, hm, F, b⟩ := G.ex
  exact pe_meth0 (pl := pl) (apos := apos) (pos := pos) ho c hm F (hr.mono hk) b .nil pass0 ht
/-- C(e, ..) -/
theorem pe_gk (G : GMk X.prog X.w X.K X.mg X.base k x C ps sp) (hr : Room j X.A) (hg : Gl X x) (ha : PA X (e :: es) t) (hk : k + 1 ≤ j := by decide)
    (hdb : (x == ("__debug__" : Str)) = false := by decide) (he : starEach (e :: es) X.env = (false, eval e X.env) :: starEach es X.env := by rfl) (hpl : (backTo pos (starEach es X.env)).any (·.1) = false := by rfl) :
    PE X (.Call (.Name x p) (e :: es) [] pos) (tGK C sp t) := by
  obtain ⟨f, fd, hm, M, F, b⟩ := G.ex
  have h := pe_make (p := p) (pos := pos) M F (hr.mono hk) hg hm b .nil pass0 ha hdb he hpl
  refine tg_mono h fun σ H Q q => ?_
  show t σ H fun vs H1 => ∀ x dx, H1 x = none → H1 dx = none → dx ≠ x → sp (.ref x :: (vs ++ [])) (upd (upd H1 dx (.own x)) x (.ins C dx [])) (fun v H2 => v = .non ∧ Q (.ref x) H2) E0
  have e : (fun (vs : List V) (H1 : Hp) => ∀ x dx, H1 x = none → H1 dx = none → dx ≠ x → sp (.ref x :: (vs ++ [])) (upd (upd H1 dx (.own x)) x (.ins C dx [])) (fun v H2 => v = .non ∧ Q (.ref x) H2) E0) =
      fun vs H1 => ∀ x dx, H1 x = none → H1 dx = none → dx ≠ x → sp (.ref x :: vs) (upd (upd H1 dx (.own x)) x (.ins C dx [])) (fun v H2 => v = .non ∧ Q (.ref x) H2) E0 := by
    funext vs H1
    rw [List.append_nil]
  rw [e]
  exact q
/-- C.m(e, ..), C a class by its name -/
theorem pe_gc (G : GCl X.prog X.w X.K X.mg X.base k C m ps sp) (hr : Room j X.A) (ho : PE X o ta) (ha : PA X (e :: es) t) (hk : k ≤ j := by decide)
    (hst : starEach (e :: es) X.env = (false, eval e X.env) :: starEach es X.env := by rfl) (hpl : (backTo pos (starEach es X.env)).any (·.1) = false := by rfl)
    (ht : eval (.Call (.Attribute o m apos) (e :: es) [] pos) X.env = (do
      let ov ← eval o X.env
      standAt apos.atName
      let (f, first) ← holding [ov] (getMethod ov m pl)
      callWith pos f first (backTo pos (starEach (e :: es) X.env)) (backToKw pos (keywordEach [] X.env))) := by rfl) :
    PE X (.Call (.Attribute o m apos) (e :: es) [] pos) (tGC C sp ta t) := by
  obtain ⟨f, fd, r, cv, hkp, F, b⟩ := G.ex
  refine ⟨fun pins s σ H Q I h => ?_⟩
  refine PySem.W.methodCall_KW (pl := pl) (thn (ho.run pins s σ H _ I h) fun u s1 ⟨v, H1, I1, rv, ev, q⟩ => ?_) ht
  subst ev
  obtain rfl : u = Value.ref C := rv
  refine PySem.W.method_cls I1.kIn r.ga (ClX.getcval_ok I1 r ⟨cv, (show RelV (.ref f) (.ref f) from rfl)⟩ fun s2 I2 => ?_)
  refine PySem.W.callWith_K (first := []) (h₀ := X.base) I.ok.mod.kin hkp (thn (ha.run pos pins s2 σ H1 _ I2 q) fun us s3 ⟨vs, H2, I3, r3, q3⟩ => ⟨I3.kIn, ?_⟩) hst hpl
  exact run_fn (us := us) (vs := vs) (dvs := []) F (hr.mono hk) b .nil pass0 I3 r3 (by rw [List.append_nil]; exact q3)
/-- an expression that is never asked -/
theorem pe_never {ee : Expr} : PE X ee (fun _ _ _ => False) := ⟨fun _ _ _ _ _ _ h => h.elim⟩
end
/-! ### the same rules with the written part named (within a comprehension) -/
section
variable {X : Cx} {K : PySem.W.Frag}
theorem ix_tupK (h : X.K = K := by rfl) : IxR X (rIxT K) := by
  subst h
  exact ix_tup
theorem ix_listK (h : X.K = K := by rfl) : IxR X (rIxL K) := by
  subst h
  exact ix_list
theorem op_in_seqK (h : X.K = K := by rfl) : OpR X (compareOp .In) (rIn K false) := by
  subst h
  exact op_in_seq
theorem op_notIn_seqK (h : X.K = K := by rfl) : OpR X (compareOp .NotIn) (rIn K true) := by
  subst h
  exact op_notIn_seq
theorem pe_fldK {e : Expr} {f : Str} {pos : Pos} {ta : TE} (he : PE X e ta) (hb : attributeBase e f X.env (eval e X.env) = eval e X.env) (h : X.K = K := by rfl) : PE X (.Attribute e f pos) (tFld K ta f) := by
  subst h
  exact pe_fld he hb
theorem cr_sumK (hc : X.calm = true) (h : X.K = K := by rfl) : CallR X (.builtin "sum") (rSum K) := by
  subst h
  exact cr_sum hc
theorem pe_stepK {e lo st : Expr} {te tl tc : TE} {pos p2 : Pos} {t : TE} (hp : PE X (.Subscript e (.Slice (some lo) none (some st) p2) pos) t) : PE X (.Subscript e (.Slice (some lo) none (some st) p2) pos) t := hp
end
/-! ### xs.extend(a tuple) -/
def rExtendT (K : PySem.W.Frag) : V → List V → Hp → VK → Prop := fun x vs H Q => ∃ l b xs zs, x = .ref l ∧ vs = [.ref b] ∧ H l = some (.lst xs) ∧ H b = some (.tup zs) ∧ xs.length + zs.length ≤ sizeLine ∧ Q .non (upd H l (.lst (xs ++ zs)))
theorem extend_tup (l : Addr) (items : Array Value) (n : Nat) (b : Addr) (dd : Option Addr) (sl : Array (Option Value)) (more : Array Value) (m : Nat) (h0 : ¬(!items.isEmpty && Builtin.List.listTooLong (items.size + more.size)) = true) (h1 : items.size ≤ sizeLine) (h2 : items.size + more.size ≤ sizeLine + 1) :
    Meets (Builtin.«list.extend» ⟨[.ref l, .ref b], []⟩) (fun _ R s => s.heap.get? l = some { cls := .type "list", dict := none, data := .seq items n, slots := #[] } ∧ s.heap.get? b = some { cls := .type "tuple", dict := dd, data := .seq more m, slots := sl } ∧
      R (.ok (.ret Value.none)) { s with heap := s.heap.update l (Obj.mapSeq fun x => x ++ more), toks := s.toks }) := by
  refine .of_wp fun prog w A R s h => ?_
  obtain ⟨hp, g, d, tk, os⟩ := s
  obtain ⟨hl, hb, h⟩ := h
  have f1 := AutoSeq1.sub_list_tuple
  have f2 := AutoSeq1.sub_tuple_tuple
  have hz' : (items ++ more).size ≤ sizeLine + 1 := by
    rw [Array.size_append]
    exact h2
  wp_walk using (wpAny_updateSeq hl rfl (hz := h1) (_hz' := hz')), wpAny_loadPart' hl, wpAny_loadPart' hb
  exact ⟨_, rfl, h⟩
theorem mt_extendT {X : Cx} : MtM X "list.extend" (rExtendT X.K) := by
  intro pins s σ H x v vs us Q I rx rv h
  obtain ⟨l, b, xs, zs, e1, e2, hH, hB, hz, q⟩ := h
  subst e1 e2
  cases rx
  obtain ⟨u, e3, ru⟩ := rv.one
  subst e3
  cases ru
  obtain ⟨z, its, n, r, hl, e⟩ := I.lstM hH
  obtain ⟨its2, r2, ⟨⟨oc, od, odt, osl⟩, ho, hc, m, hd⟩, hz2⟩ := I.tuple (SqT.of hB)
  dsimp only at hc hd
  subst hc hd
  have hl2 := r2.length
  have hsz : its.toArray.size + its2.toArray.size ≤ sizeLine := by
    rw [List.size_toArray, List.size_toArray]
    omega
  have hlong : ¬ (!its.toArray.isEmpty && Builtin.List.listTooLong (its.toArray.size + its2.toArray.size)) = true := by
    rw [notLongL hsz, Bool.and_false]
    exact Bool.false_ne_true
  refine call_meets F.slot_list_extend ⟨_, e, rfl⟩ F.entry_list_extend (F.args_list_extend_2 _ _)
    (extend_tup l its.toArray n b od osl its2.toArray m hlong (by rw [List.size_toArray]; omega) (by omega)) ⟨e, ho, ?_⟩
  refine ⟨.non, _, I.lset (its' := its ++ its2) hH e (by simp) (r.append r2) ?_, rfl, q⟩
  rw [List.length_append]
  omega
/-! ### xs[a::c] of a list of ints: some of them, in a new list -/
def tStep (K : PySem.W.Frag) (te tl : TE) (tc : TE) : TE := fun σ H Q => te σ H fun x H1 => tl σ H1 fun y H2 => tc σ H2 fun z H3 =>
  ∃ (a : Addr) (ns : List Int) (i c : Int), x = .ref a ∧ y = .int i ∧ z = .int c ∧ c ≠ 0 ∧ SqL K H3 a (ns.map V.int) ∧ ∀ (p : Addr) (ms : List Int), ms.length ≤ ns.length → H3 p = none → Q (.ref p) (upd H3 p (.lst (ms.map V.int)))
theorem pe_step {X : Cx} {e lo st : Expr} {te tl tc : TE} {pos p2 : Pos} (he : PE X e te) (hl : PE X lo tl) (hc : PE X st tc) : PE X (.Subscript e (.Slice (some lo) none (some st) p2) pos) (tStep X.K te tl tc) := by
  refine ⟨fun pins s σ H Q I h => ?_⟩
  refine Subscript_ (thn (he.run pins s σ H _ I h) fun v s1 ⟨x, H1, I1, r1, q1⟩ => ?_)
  refine wpAny_Slice ?_
  rw [evalPart_some]
  refine thn (hl.run pins s1 σ H1 _ I1 q1) fun vl s2 ⟨y, H2, I2, r2, q2⟩ => ?_
  rw [evalPart_none]
  refine wpAny_pure ?_
  rw [evalPart_some]
  refine thn (hc.run pins s2 σ H2 _ I2 q2) fun vc s3 ⟨z, H3, I3, r3, q3⟩ => ?_
  obtain ⟨a, ns, i, c, rfl, rfl, rfl, hc0, hS, q⟩ := q3
  obtain rfl : v = Value.ref a := r1
  obtain ⟨t2, rfl⟩ := r2
  obtain ⟨t3, rfl⟩ := r3
  have I4 : Inv X pins σ H3 { s3 with heap := s3.heap.push { cls := .type "slice", data := .fields #[.int i t2, .none, .int c t3] } } := I3.kept (t' := s3.toks) fun b ob q => Heap.get?_push_of_some _ q
  obtain ⟨its, r, ht, hz⟩ := I4.list hS
  have hlen := r.length
  refine tail_any (ops := [.ref a, .ref s3.heap.objs.size]) ht.isList.typeIs slot_list_getitem.lookup ?_ (by with_unfolding_all rfl)
  refine wpAny_getItem_list_slice ht.isList (Heap.IsSliceOf.new ..) (.int i t2) .none (.int c t3) (fun z => hc0 (Option.some.inj z)) ?_ (by rw [List.size_toArray] <;> omega)
  have hi : IntsAre its ns := intsAre_of r
  have hp := hi.pick (some i) none (some c)
  have hpl := length_pickNums_le hi (some i) none (some c)
  refine ⟨.ref (s3.heap.push { cls := .type "slice", data := .fields #[.int i t2, .none, .int c t3] }).objs.size, _,
    I4.laid (t' := s3.toks) (o := .lst ((pickNums ns (some i) none (some c)).map V.int)) (fun b ob q => Heap.get?_push_of_some _ q) (Nat.le_refl _) ?_, rfl, q _ _ hpl (I4.hok.fresh (Nat.le_refl _))⟩
  refine ⟨by rw [List.length_map] at hz ⊢; exact Nat.le_trans hpl hz, (slicePick its.toArray (some i) none (some c)).toList, 0, vals_of_ints hp, ?_⟩
  rw [Array.toArray_toList]
  exact Heap.get?_push_size _ rfl
end K56
set_option Elab.async false
set_option linter.all false
set_option maxRecDepth 100000
set_option maxHeartbeats 4000000
/-! facts by names -/
namespace K56
open PySem PySem.Spec PyProof.Rows L2
structure Tp (K : PySem.W.Frag) (mg : Str → Option Value) : Prop where
  says : He.SaysD fa fn K
  ext : ex K = true
  gl : ∀ x : Str, (He.Fa.glo x).ok K = true → mg x = some (.ref (He.ga K x))
  fr : ∀ x : Str, (He.Fa.free x).ok K = true → mg x = none
  nt : ∀ (x : Str) (i : Int), (He.Fa.int x i).ok K = true → ∃ t, mg x = some (.int i t)
section
variable {P : Program} {w : World} {K : PySem.W.Frag} {mg : Str → Option Value} {base : Heap}
theorem Tp.g_above (T : Tp K mg) : mg "above" = some (.ref (He.ga K "above")) := T.gl _ (T.says.fact 0 (f := .glo "above") rfl)
theorem Tp.g_depth (T : Tp K mg) : mg "depth" = some (.ref (He.ga K "depth")) := T.gl _ (T.says.fact 1 (f := .glo "depth") rfl)
theorem Tp.g_within (T : Tp K mg) : mg "within" = some (.ref (He.ga K "within")) := T.gl _ (T.says.fact 2 (f := .glo "within") rfl)
theorem Tp.g_firsts (T : Tp K mg) : mg "firsts" = some (.ref (He.ga K "firsts")) := T.gl _ (T.says.fact 3 (f := .glo "firsts") rfl)
theorem Tp.g_value (T : Tp K mg) : mg "value" = some (.ref (He.ga K "value")) := T.gl _ (T.says.fact 4 (f := .glo "value") rfl)
theorem Tp.g_holds (T : Tp K mg) : mg "holds" = some (.ref (He.ga K "holds")) := T.gl _ (T.says.fact 5 (f := .glo "holds") rfl)
theorem Tp.g_all_hold (T : Tp K mg) : mg "all_hold" = some (.ref (He.ga K "all_hold")) := T.gl _ (T.says.fact 6 (f := .glo "all_hold") rfl)
theorem Tp.g_done (T : Tp K mg) : mg "done" = some (.ref (He.ga K "done")) := T.gl _ (T.says.fact 7 (f := .glo "done") rfl)
theorem Tp.g_undone (T : Tp K mg) : mg "undone" = some (.ref (He.ga K "undone")) := T.gl _ (T.says.fact 8 (f := .glo "undone") rfl)
theorem Tp.g_performed (T : Tp K mg) : mg "performed" = some (.ref (He.ga K "performed")) := T.gl _ (T.says.fact 9 (f := .glo "performed") rfl)
theorem Tp.g_walked_back (T : Tp K mg) : mg "walked_back" = some (.ref (He.ga K "walked_back")) := T.gl _ (T.says.fact 10 (f := .glo "walked_back") rfl)
theorem Tp.g_told (T : Tp K mg) : mg "told" = some (.ref (He.ga K "told")) := T.gl _ (T.says.fact 11 (f := .glo "told") rfl)
theorem Tp.g_idle_end (T : Tp K mg) : mg "idle_end" = some (.ref (He.ga K "idle_end")) := T.gl _ (T.says.fact 12 (f := .glo "idle_end") rfl)
theorem Tp.g_ways_of (T : Tp K mg) : mg "ways_of" = some (.ref (He.ga K "ways_of")) := T.gl _ (T.says.fact 13 (f := .glo "ways_of") rfl)
theorem Tp.g_unnested (T : Tp K mg) : mg "unnested" = some (.ref (He.ga K "unnested")) := T.gl _ (T.says.fact 14 (f := .glo "unnested") rfl)
theorem Tp.g_road (T : Tp K mg) : mg "road" = some (.ref (He.ga K "road")) := T.gl _ (T.says.fact 15 (f := .glo "road") rfl)
theorem Tp.g_top (T : Tp K mg) : mg "top" = some (.ref (He.ga K "top")) := T.gl _ (T.says.fact 16 (f := .glo "top") rfl)
theorem Tp.g_asks_moods (T : Tp K mg) : mg "asks_moods" = some (.ref (He.ga K "asks_moods")) := T.gl _ (T.says.fact 17 (f := .glo "asks_moods") rfl)
theorem Tp.g_fits (T : Tp K mg) : mg "fits" = some (.ref (He.ga K "fits")) := T.gl _ (T.says.fact 18 (f := .glo "fits") rfl)
theorem Tp.g_goable (T : Tp K mg) : mg "goable" = some (.ref (He.ga K "goable")) := T.gl _ (T.says.fact 19 (f := .glo "goable") rfl)
theorem Tp.g_number_asks (T : Tp K mg) : mg "number_asks" = some (.ref (He.ga K "number_asks")) := T.gl _ (T.says.fact 20 (f := .glo "number_asks") rfl)
theorem Tp.g_picks (T : Tp K mg) : mg "picks" = some (.ref (He.ga K "picks")) := T.gl _ (T.says.fact 21 (f := .glo "picks") rfl)
theorem Tp.g_kept (T : Tp K mg) : mg "kept" = some (.ref (He.ga K "kept")) := T.gl _ (T.says.fact 22 (f := .glo "kept") rfl)
theorem Tp.g_opened (T : Tp K mg) : mg "opened" = some (.ref (He.ga K "opened")) := T.gl _ (T.says.fact 23 (f := .glo "opened") rfl)
theorem Tp.g_entered (T : Tp K mg) : mg "entered" = some (.ref (He.ga K "entered")) := T.gl _ (T.says.fact 24 (f := .glo "entered") rfl)
theorem Tp.g_left (T : Tp K mg) : mg "left" = some (.ref (He.ga K "left")) := T.gl _ (T.says.fact 25 (f := .glo "left") rfl)
theorem Tp.g_remembered (T : Tp K mg) : mg "remembered" = some (.ref (He.ga K "remembered")) := T.gl _ (T.says.fact 26 (f := .glo "remembered") rfl)
theorem Tp.g_heeded (T : Tp K mg) : mg "heeded" = some (.ref (He.ga K "heeded")) := T.gl _ (T.says.fact 27 (f := .glo "heeded") rfl)
theorem Tp.g_leaving (T : Tp K mg) : mg "leaving" = some (.ref (He.ga K "leaving")) := T.gl _ (T.says.fact 28 (f := .glo "leaving") rfl)
theorem Tp.g_entering (T : Tp K mg) : mg "entering" = some (.ref (He.ga K "entering")) := T.gl _ (T.says.fact 29 (f := .glo "entering") rfl)
theorem Tp.g_moved (T : Tp K mg) : mg "moved" = some (.ref (He.ga K "moved")) := T.gl _ (T.says.fact 30 (f := .glo "moved") rfl)
theorem Tp.g_begun (T : Tp K mg) : mg "begun" = some (.ref (He.ga K "begun")) := T.gl _ (T.says.fact 31 (f := .glo "begun") rfl)
theorem Tp.g_law_cell_at (T : Tp K mg) : mg "_law_cell_at" = some (.ref (He.ga K "_law_cell_at")) := T.gl _ (T.says.fact 32 (f := .glo "_law_cell_at") rfl)
theorem Tp.g_law_take (T : Tp K mg) : mg "_law_take" = some (.ref (He.ga K "_law_take")) := T.gl _ (T.says.fact 33 (f := .glo "_law_take") rfl)
theorem Tp.g_law_term (T : Tp K mg) : mg "_law_term" = some (.ref (He.ga K "_law_term")) := T.gl _ (T.says.fact 34 (f := .glo "_law_term") rfl)
theorem Tp.g_law_piece (T : Tp K mg) : mg "_law_piece" = some (.ref (He.ga K "_law_piece")) := T.gl _ (T.says.fact 35 (f := .glo "_law_piece") rfl)
theorem Tp.g_law_script (T : Tp K mg) : mg "_law_script" = some (.ref (He.ga K "_law_script")) := T.gl _ (T.says.fact 36 (f := .glo "_law_script") rfl)
theorem Tp.g_law_rows (T : Tp K mg) : mg "_law_rows" = some (.ref (He.ga K "_law_rows")) := T.gl _ (T.says.fact 37 (f := .glo "_law_rows") rfl)
theorem Tp.g_law_pieces (T : Tp K mg) : mg "_law_pieces" = some (.ref (He.ga K "_law_pieces")) := T.gl _ (T.says.fact 38 (f := .glo "_law_pieces") rfl)
theorem Tp.g_law_table (T : Tp K mg) : mg "_law_table" = some (.ref (He.ga K "_law_table")) := T.gl _ (T.says.fact 39 (f := .glo "_law_table") rfl)
theorem Tp.g_law_told (T : Tp K mg) : mg "_law_told" = some (.ref (He.ga K "_law_told")) := T.gl _ (T.says.fact 40 (f := .glo "_law_told") rfl)
theorem Tp.g_law_alike (T : Tp K mg) : mg "_law_alike" = some (.ref (He.ga K "_law_alike")) := T.gl _ (T.says.fact 41 (f := .glo "_law_alike") rfl)
theorem Tp.g_law_turns (T : Tp K mg) : mg "_law_turns" = some (.ref (He.ga K "_law_turns")) := T.gl _ (T.says.fact 42 (f := .glo "_law_turns") rfl)
theorem Tp.g_law (T : Tp K mg) : mg "law" = some (.ref (He.ga K "law")) := T.gl _ (T.says.fact 43 (f := .glo "law") rfl)
theorem Tp.g_Tree (T : Tp K mg) : mg "Tree" = some (.ref (He.ga K "Tree")) := T.gl _ (T.says.fact 44 (f := .glo "Tree") rfl)
theorem Tp.c_Tree (T : Tp K mg) : Cls K (He.ga K "Tree") := He.cls_ok (T.says.fact 45 (f := .cls "Tree") rfl)
theorem Tp.k_Tree (T : Tp K mg) : L2.Mk K (He.ga K "Tree") (He.ma K (He.ga K "Tree") "__init__") := He.mkr_ok (T.says.fact 46 (f := .mkr "Tree") rfl)
theorem Tp.g_Chart (T : Tp K mg) : mg "Chart" = some (.ref (He.ga K "Chart")) := T.gl _ (T.says.fact 47 (f := .glo "Chart") rfl)
theorem Tp.c_Chart (T : Tp K mg) : Cls K (He.ga K "Chart") := He.cls_ok (T.says.fact 48 (f := .cls "Chart") rfl)
theorem Tp.k_Chart (T : Tp K mg) : L2.Mk K (He.ga K "Chart") (He.ma K (He.ga K "Chart") "__init__") := He.mkr_ok (T.says.fact 49 (f := .mkr "Chart") rfl)
theorem Tp.g_Table (T : Tp K mg) : mg "Table" = some (.ref (He.ga K "Table")) := T.gl _ (T.says.fact 50 (f := .glo "Table") rfl)
theorem Tp.c_Table (T : Tp K mg) : Cls K (He.ga K "Table") := He.cls_ok (T.says.fact 51 (f := .cls "Table") rfl)
theorem Tp.k_Table (T : Tp K mg) : L2.Mk K (He.ga K "Table") (He.ma K (He.ga K "Table") "__init__") := He.mkr_ok (T.says.fact 52 (f := .mkr "Table") rfl)
theorem Tp.g_FlatRun (T : Tp K mg) : mg "FlatRun" = some (.ref (He.ga K "FlatRun")) := T.gl _ (T.says.fact 53 (f := .glo "FlatRun") rfl)
theorem Tp.c_FlatRun (T : Tp K mg) : Cls K (He.ga K "FlatRun") := He.cls_ok (T.says.fact 54 (f := .cls "FlatRun") rfl)
theorem Tp.k_FlatRun (T : Tp K mg) : L2.Mk K (He.ga K "FlatRun") (He.ma K (He.ga K "FlatRun") "__init__") := He.mkr_ok (T.says.fact 55 (f := .mkr "FlatRun") rfl)
theorem Tp.g_NestRun (T : Tp K mg) : mg "NestRun" = some (.ref (He.ga K "NestRun")) := T.gl _ (T.says.fact 56 (f := .glo "NestRun") rfl)
theorem Tp.c_NestRun (T : Tp K mg) : Cls K (He.ga K "NestRun") := He.cls_ok (T.says.fact 57 (f := .cls "NestRun") rfl)
theorem Tp.k_NestRun (T : Tp K mg) : L2.Mk K (He.ga K "NestRun") (He.ma K (He.ga K "NestRun") "__init__") := He.mkr_ok (T.says.fact 58 (f := .mkr "NestRun") rfl)
theorem Tp.g_Runner (T : Tp K mg) : mg "Runner" = some (.ref (He.ga K "Runner")) := T.gl _ (T.says.fact 59 (f := .glo "Runner") rfl)
theorem Tp.g_NoStep (T : Tp K mg) : mg "NoStep" = some (.ref (He.ga K "NoStep")) := T.gl _ (T.says.fact 60 (f := .glo "NoStep") rfl)
theorem Tp.g_MARKS (T : Tp K mg) : mg "MARKS" = some (.ref (He.ga K "MARKS")) := T.gl _ (T.says.fact 61 (f := .glo "MARKS") rfl)
theorem Tp.n_Tree_kinds (T : Tp K mg) : NoAttr K (He.ga K "Tree") "kinds" := He.noat_ok (T.says.fact 62 (f := .noat "Tree" "kinds") rfl)
theorem Tp.n_Tree_elders (T : Tp K mg) : NoAttr K (He.ga K "Tree") "elders" := He.noat_ok (T.says.fact 63 (f := .noat "Tree" "elders") rfl)
theorem Tp.n_Tree_starts (T : Tp K mg) : NoAttr K (He.ga K "Tree") "starts" := He.noat_ok (T.says.fact 64 (f := .noat "Tree" "starts") rfl)
theorem Tp.n_Chart_boxes (T : Tp K mg) : NoAttr K (He.ga K "Chart") "boxes" := He.noat_ok (T.says.fact 65 (f := .noat "Chart" "boxes") rfl)
theorem Tp.n_Chart_names (T : Tp K mg) : NoAttr K (He.ga K "Chart") "names" := He.noat_ok (T.says.fact 66 (f := .noat "Chart" "names") rfl)
theorem Tp.n_Chart_tree (T : Tp K mg) : NoAttr K (He.ga K "Chart") "tree" := He.noat_ok (T.says.fact 67 (f := .noat "Chart" "tree") rfl)
theorem Tp.n_Chart_ins (T : Tp K mg) : NoAttr K (He.ga K "Chart") "ins" := He.noat_ok (T.says.fact 68 (f := .noat "Chart" "ins") rfl)
theorem Tp.n_Chart_outs (T : Tp K mg) : NoAttr K (He.ga K "Chart") "outs" := He.noat_ok (T.says.fact 69 (f := .noat "Chart" "outs") rfl)
theorem Tp.n_Chart_ways (T : Tp K mg) : NoAttr K (He.ga K "Chart") "ways" := He.noat_ok (T.says.fact 70 (f := .noat "Chart" "ways") rfl)
theorem Tp.n_Table_boxes (T : Tp K mg) : NoAttr K (He.ga K "Table") "boxes" := He.noat_ok (T.says.fact 71 (f := .noat "Table" "boxes") rfl)
theorem Tp.n_Table_signs (T : Tp K mg) : NoAttr K (He.ga K "Table") "signs" := He.noat_ok (T.says.fact 72 (f := .noat "Table" "signs") rfl)
theorem Tp.n_Table_begin (T : Tp K mg) : NoAttr K (He.ga K "Table") "begin" := He.noat_ok (T.says.fact 73 (f := .noat "Table" "begin") rfl)
theorem Tp.n_Table_flats (T : Tp K mg) : NoAttr K (He.ga K "Table") "flats" := He.noat_ok (T.says.fact 74 (f := .noat "Table" "flats") rfl)
theorem Tp.n_Table_rows (T : Tp K mg) : NoAttr K (He.ga K "Table") "rows" := He.noat_ok (T.says.fact 75 (f := .noat "Table" "rows") rfl)
theorem Tp.n_FlatRun_boxes (T : Tp K mg) : NoAttr K (He.ga K "FlatRun") "boxes" := He.noat_ok (T.says.fact 76 (f := .noat "FlatRun" "boxes") rfl)
theorem Tp.n_FlatRun_book (T : Tp K mg) : NoAttr K (He.ga K "FlatRun") "book" := He.noat_ok (T.says.fact 77 (f := .noat "FlatRun" "book") rfl)
theorem Tp.n_FlatRun_table (T : Tp K mg) : NoAttr K (He.ga K "FlatRun") "table" := He.noat_ok (T.says.fact 78 (f := .noat "FlatRun" "table") rfl)
theorem Tp.n_FlatRun_place (T : Tp K mg) : NoAttr K (He.ga K "FlatRun") "place" := He.noat_ok (T.says.fact 79 (f := .noat "FlatRun" "place") rfl)
theorem Tp.n_FlatRun_been (T : Tp K mg) : NoAttr K (He.ga K "FlatRun") "been" := He.noat_ok (T.says.fact 80 (f := .noat "FlatRun" "been") rfl)
theorem Tp.n_NestRun_boxes (T : Tp K mg) : NoAttr K (He.ga K "NestRun") "boxes" := He.noat_ok (T.says.fact 81 (f := .noat "NestRun" "boxes") rfl)
theorem Tp.n_NestRun_book (T : Tp K mg) : NoAttr K (He.ga K "NestRun") "book" := He.noat_ok (T.says.fact 82 (f := .noat "NestRun" "book") rfl)
theorem Tp.n_NestRun_chart (T : Tp K mg) : NoAttr K (He.ga K "NestRun") "chart" := He.noat_ok (T.says.fact 83 (f := .noat "NestRun" "chart") rfl)
theorem Tp.n_NestRun_opens (T : Tp K mg) : NoAttr K (He.ga K "NestRun") "opens" := He.noat_ok (T.says.fact 84 (f := .noat "NestRun" "opens") rfl)
theorem Tp.n_NestRun_mind (T : Tp K mg) : NoAttr K (He.ga K "NestRun") "mind" := He.noat_ok (T.says.fact 85 (f := .noat "NestRun" "mind") rfl)
theorem Tp.h_FlatRun_script_of (T : Tp K mg) : Meth K (He.ga K "FlatRun") "script_of" (He.ma K (He.ga K "FlatRun") "script_of") := He.meth_ok (T.says.fact 86 (f := .meth "FlatRun" "script_of") rfl)
theorem Tp.h_FlatRun_feed (T : Tp K mg) : Meth K (He.ga K "FlatRun") "feed" (He.ma K (He.ga K "FlatRun") "feed") := He.meth_ok (T.says.fact 87 (f := .meth "FlatRun" "feed") rfl)
theorem Tp.h_FlatRun_put_back (T : Tp K mg) : Meth K (He.ga K "FlatRun") "put_back" (He.ma K (He.ga K "FlatRun") "put_back") := He.meth_ok (T.says.fact 88 (f := .meth "FlatRun" "put_back") rfl)
theorem Tp.h_FlatRun_flat (T : Tp K mg) : Meth K (He.ga K "FlatRun") "flat" (He.ma K (He.ga K "FlatRun") "flat") := He.meth_ok (T.says.fact 89 (f := .meth "FlatRun" "flat") rfl)
theorem Tp.h_NestRun_script_of (T : Tp K mg) : Meth K (He.ga K "NestRun") "script_of" (He.ma K (He.ga K "NestRun") "script_of") := He.meth_ok (T.says.fact 90 (f := .meth "NestRun" "script_of") rfl)
theorem Tp.h_NestRun_put_back (T : Tp K mg) : Meth K (He.ga K "NestRun") "put_back" (He.ma K (He.ga K "NestRun") "put_back") := He.meth_ok (T.says.fact 91 (f := .meth "NestRun" "put_back") rfl)
theorem Tp.h_NestRun_moods (T : Tp K mg) : Meth K (He.ga K "NestRun") "moods" (He.ma K (He.ga K "NestRun") "moods") := He.meth_ok (T.says.fact 92 (f := .meth "NestRun" "moods") rfl)
theorem Tp.h_FlatRun_do_script (T : Tp K mg) : Meth K (He.ga K "FlatRun") "do_script" (He.ma K (He.ga K "FlatRun") "do_script") := He.meth_ok (T.says.fact 93 (f := .meth "FlatRun" "do_script") rfl)
theorem Tp.h_FlatRun_deal (T : Tp K mg) : Meth K (He.ga K "FlatRun") "deal" (He.ma K (He.ga K "FlatRun") "deal") := He.meth_ok (T.says.fact 94 (f := .meth "FlatRun" "deal") rfl)
theorem Tp.h_FlatRun_begin_with (T : Tp K mg) : Meth K (He.ga K "FlatRun") "begin_with" (He.ma K (He.ga K "FlatRun") "begin_with") := He.meth_ok (T.says.fact 95 (f := .meth "FlatRun" "begin_with") rfl)
theorem Tp.h_FlatRun_back (T : Tp K mg) : Meth K (He.ga K "FlatRun") "back" (He.ma K (He.ga K "FlatRun") "back") := He.meth_ok (T.says.fact 96 (f := .meth "FlatRun" "back") rfl)
theorem Tp.h_FlatRun_fed (T : Tp K mg) : Meth K (He.ga K "FlatRun") "fed" (He.ma K (He.ga K "FlatRun") "fed") := He.meth_ok (T.says.fact 97 (f := .meth "FlatRun" "fed") rfl)
theorem Tp.h_FlatRun_story (T : Tp K mg) : Meth K (He.ga K "FlatRun") "story" (He.ma K (He.ga K "FlatRun") "story") := He.meth_ok (T.says.fact 98 (f := .meth "FlatRun" "story") rfl)
theorem Tp.h_FlatRun_numbers (T : Tp K mg) : Meth K (He.ga K "FlatRun") "numbers" (He.ma K (He.ga K "FlatRun") "numbers") := He.meth_ok (T.says.fact 99 (f := .meth "FlatRun" "numbers") rfl)
theorem Tp.h_NestRun_do_script (T : Tp K mg) : Meth K (He.ga K "NestRun") "do_script" (He.ma K (He.ga K "NestRun") "do_script") := He.meth_ok (T.says.fact 100 (f := .meth "NestRun" "do_script") rfl)
theorem Tp.h_NestRun_deal (T : Tp K mg) : Meth K (He.ga K "NestRun") "deal" (He.ma K (He.ga K "NestRun") "deal") := He.meth_ok (T.says.fact 101 (f := .meth "NestRun" "deal") rfl)
theorem Tp.h_NestRun_begin_with (T : Tp K mg) : Meth K (He.ga K "NestRun") "begin_with" (He.ma K (He.ga K "NestRun") "begin_with") := He.meth_ok (T.says.fact 102 (f := .meth "NestRun" "begin_with") rfl)
theorem Tp.h_NestRun_feed (T : Tp K mg) : Meth K (He.ga K "NestRun") "feed" (He.ma K (He.ga K "NestRun") "feed") := He.meth_ok (T.says.fact 103 (f := .meth "NestRun" "feed") rfl)
theorem Tp.h_NestRun_back (T : Tp K mg) : Meth K (He.ga K "NestRun") "back" (He.ma K (He.ga K "NestRun") "back") := He.meth_ok (T.says.fact 104 (f := .meth "NestRun" "back") rfl)
theorem Tp.h_NestRun_fed (T : Tp K mg) : Meth K (He.ga K "NestRun") "fed" (He.ma K (He.ga K "NestRun") "fed") := He.meth_ok (T.says.fact 105 (f := .meth "NestRun" "fed") rfl)
theorem Tp.h_NestRun_story (T : Tp K mg) : Meth K (He.ga K "NestRun") "story" (He.ma K (He.ga K "NestRun") "story") := He.meth_ok (T.says.fact 106 (f := .meth "NestRun" "story") rfl)
theorem Tp.h_NestRun_numbers (T : Tp K mg) : Meth K (He.ga K "NestRun") "numbers" (He.ma K (He.ga K "NestRun") "numbers") := He.meth_ok (T.says.fact 107 (f := .meth "NestRun" "numbers") rfl)
theorem Tp.m_list (T : Tp K mg) : mg "list" = none := T.fr _ (T.says.fact 108 (f := .free "list") rfl)
theorem Tp.m_len (T : Tp K mg) : mg "len" = none := T.fr _ (T.says.fact 109 (f := .free "len") rfl)
theorem Tp.m_range (T : Tp K mg) : mg "range" = none := T.fr _ (T.says.fact 110 (f := .free "range") rfl)
theorem Tp.m_enumerate (T : Tp K mg) : mg "enumerate" = none := T.fr _ (T.says.fact 111 (f := .free "enumerate") rfl)
theorem Tp.m_reversed (T : Tp K mg) : mg "reversed" = none := T.fr _ (T.says.fact 112 (f := .free "reversed") rfl)
theorem Tp.m_sorted (T : Tp K mg) : mg "sorted" = none := T.fr _ (T.says.fact 113 (f := .free "sorted") rfl)
theorem Tp.m_tuple (T : Tp K mg) : mg "tuple" = none := T.fr _ (T.says.fact 114 (f := .free "tuple") rfl)
theorem Tp.m_any (T : Tp K mg) : mg "any" = none := T.fr _ (T.says.fact 115 (f := .free "any") rfl)
theorem Tp.m_str (T : Tp K mg) : mg "str" = none := T.fr _ (T.says.fact 116 (f := .free "str") rfl)
theorem Tp.m_max (T : Tp K mg) : mg "max" = none := T.fr _ (T.says.fact 117 (f := .free "max") rfl)
theorem Tp.m_min (T : Tp K mg) : mg "min" = none := T.fr _ (T.says.fact 118 (f := .free "min") rfl)
theorem Tp.m_sum (T : Tp K mg) : mg "sum" = none := T.fr _ (T.says.fact 119 (f := .free "sum") rfl)
theorem Tp.i_MOST (T : Tp K mg) : ∃ t, mg "MOST" = some (.int 8 t) := T.nt _ _ (T.says.fact 120 (f := .int "MOST" 8) rfl)
theorem sc_Tree_init : FnScope ["self", "kinds", "elders", "starts"] ["self", "kinds", "elders", "starts"] (defScope s_Tree_init) := ⟨rfl, rfl, rfl, by decide +kernel, rfl, by decide +kernel, by decide +kernel⟩
theorem bn_Tree_init (qual : Str) (kV doc pm : Value) (an : Option Addr) (cdv ct : Value) (us : List Value) (hl : us.length = 4) : bindArgs (PySem.W.fnOf "__init__" qual (defArgs s_Tree_init) (defBody s_Tree_init) (defScope s_Tree_init) .none kV doc pm an cdv ct) ⟨us, []⟩ = pure (List.zip (["self", "kinds", "elders", "starts"] : List Str) us) := match us, hl with | [_, _, _, _], _ => rfl
theorem sc_above : FnScope ["tree", "mood", "found", "at"] ["tree", "mood"] (defScope s_above) := ⟨rfl, rfl, rfl, by decide +kernel, rfl, by decide +kernel, by decide +kernel⟩
theorem bn_above (qual : Str) (kV doc pm : Value) (an : Option Addr) (cdv ct : Value) (us : List Value) (hl : us.length = 2) : bindArgs (PySem.W.fnOf "above" qual (defArgs s_above) (defBody s_above) (defScope s_above) .none kV doc pm an cdv ct) ⟨us, []⟩ = pure (List.zip (["tree", "mood"] : List Str) us) := match us, hl with | [_, _], _ => rfl
theorem sc_depth : FnScope ["tree", "mood"] ["tree", "mood"] (defScope s_depth) := ⟨rfl, rfl, rfl, by decide +kernel, rfl, by decide +kernel, by decide +kernel⟩
theorem bn_depth (qual : Str) (kV doc pm : Value) (an : Option Addr) (cdv ct : Value) (us : List Value) (hl : us.length = 2) : bindArgs (PySem.W.fnOf "depth" qual (defArgs s_depth) (defBody s_depth) (defScope s_depth) .none kV doc pm an cdv ct) ⟨us, []⟩ = pure (List.zip (["tree", "mood"] : List Str) us) := match us, hl with | [_, _], _ => rfl
theorem sc_within : FnScope ["tree", "mood", "other"] ["tree", "mood", "other"] (defScope s_within) := ⟨rfl, rfl, rfl, by decide +kernel, rfl, by decide +kernel, by decide +kernel⟩
theorem bn_within (qual : Str) (kV doc pm : Value) (an : Option Addr) (cdv ct : Value) (us : List Value) (hl : us.length = 3) : bindArgs (PySem.W.fnOf "within" qual (defArgs s_within) (defBody s_within) (defScope s_within) .none kV doc pm an cdv ct) ⟨us, []⟩ = pure (List.zip (["tree", "mood", "other"] : List Str) us) := match us, hl with | [_, _, _], _ => rfl
theorem sc_Chart_init : FnScope ["self", "boxes", "names", "tree", "ins", "outs", "ways"] ["self", "boxes", "names", "tree", "ins", "outs", "ways"] (defScope s_Chart_init) := ⟨rfl, rfl, rfl, by decide +kernel, rfl, by decide +kernel, by decide +kernel⟩
theorem bn_Chart_init (qual : Str) (kV doc pm : Value) (an : Option Addr) (cdv ct : Value) (us : List Value) (hl : us.length = 7) : bindArgs (PySem.W.fnOf "__init__" qual (defArgs s_Chart_init) (defBody s_Chart_init) (defScope s_Chart_init) .none kV doc pm an cdv ct) ⟨us, []⟩ = pure (List.zip (["self", "boxes", "names", "tree", "ins", "outs", "ways"] : List Str) us) := match us, hl with | [_, _, _, _, _, _, _], _ => rfl
theorem sc_firsts : FnScope ["chart", "box"] ["chart"] (defScope s_firsts) := ⟨rfl, rfl, rfl, by decide +kernel, rfl, by decide +kernel, by decide +kernel⟩
theorem bn_firsts (qual : Str) (kV doc pm : Value) (an : Option Addr) (cdv ct : Value) (us : List Value) (hl : us.length = 1) : bindArgs (PySem.W.fnOf "firsts" qual (defArgs s_firsts) (defBody s_firsts) (defScope s_firsts) .none kV doc pm an cdv ct) ⟨us, []⟩ = pure (List.zip (["chart"] : List Str) us) := match us, hl with | [_], _ => rfl
theorem sc_value : FnScope ["term", "boxes"] ["term", "boxes"] (defScope s_value) := ⟨rfl, rfl, rfl, by decide +kernel, rfl, by decide +kernel, by decide +kernel⟩
theorem bn_value (qual : Str) (kV doc pm : Value) (an : Option Addr) (cdv ct : Value) (us : List Value) (hl : us.length = 2) : bindArgs (PySem.W.fnOf "value" qual (defArgs s_value) (defBody s_value) (defScope s_value) .none kV doc pm an cdv ct) ⟨us, []⟩ = pure (List.zip (["term", "boxes"] : List Str) us) := match us, hl with | [_, _], _ => rfl
theorem sc_holds : FnScope ["ask", "boxes", "one", "other"] ["ask", "boxes"] (defScope s_holds) := ⟨rfl, rfl, rfl, by decide +kernel, rfl, by decide +kernel, by decide +kernel⟩
theorem bn_holds (qual : Str) (kV doc pm : Value) (an : Option Addr) (cdv ct : Value) (us : List Value) (hl : us.length = 2) : bindArgs (PySem.W.fnOf "holds" qual (defArgs s_holds) (defBody s_holds) (defScope s_holds) .none kV doc pm an cdv ct) ⟨us, []⟩ = pure (List.zip (["ask", "boxes"] : List Str) us) := match us, hl with | [_, _], _ => rfl
theorem sc_all_hold : FnScope ["asks", "boxes", "ask"] ["asks", "boxes"] (defScope s_all_hold) := ⟨rfl, rfl, rfl, by decide +kernel, rfl, by decide +kernel, by decide +kernel⟩
theorem bn_all_hold (qual : Str) (kV doc pm : Value) (an : Option Addr) (cdv ct : Value) (us : List Value) (hl : us.length = 2) : bindArgs (PySem.W.fnOf "all_hold" qual (defArgs s_all_hold) (defBody s_all_hold) (defScope s_all_hold) .none kV doc pm an cdv ct) ⟨us, []⟩ = pure (List.zip (["asks", "boxes"] : List Str) us) := match us, hl with | [_, _], _ => rfl
theorem sc_done : FnScope ["deed", "boxes", "behind"] ["deed", "boxes"] (defScope s_done) := ⟨rfl, rfl, rfl, by decide +kernel, rfl, by decide +kernel, by decide +kernel⟩
theorem bn_done (qual : Str) (kV doc pm : Value) (an : Option Addr) (cdv ct : Value) (us : List Value) (hl : us.length = 2) : bindArgs (PySem.W.fnOf "done" qual (defArgs s_done) (defBody s_done) (defScope s_done) .none kV doc pm an cdv ct) ⟨us, []⟩ = pure (List.zip (["deed", "boxes"] : List Str) us) := match us, hl with | [_, _], _ => rfl
theorem sc_undone : FnScope ["row", "boxes", "ahead"] ["row", "boxes"] (defScope s_undone) := ⟨rfl, rfl, rfl, by decide +kernel, rfl, by decide +kernel, by decide +kernel⟩
theorem bn_undone (qual : Str) (kV doc pm : Value) (an : Option Addr) (cdv ct : Value) (us : List Value) (hl : us.length = 2) : bindArgs (PySem.W.fnOf "undone" qual (defArgs s_undone) (defBody s_undone) (defScope s_undone) .none kV doc pm an cdv ct) ⟨us, []⟩ = pure (List.zip (["row", "boxes"] : List Str) us) := match us, hl with | [_, _], _ => rfl
theorem sc_performed : FnScope ["script", "boxes", "behind", "rows", "called", "deed", "step"] ["script", "boxes"] (defScope s_performed) := ⟨rfl, rfl, rfl, by decide +kernel, rfl, by decide +kernel, by decide +kernel⟩
theorem bn_performed (qual : Str) (kV doc pm : Value) (an : Option Addr) (cdv ct : Value) (us : List Value) (hl : us.length = 2) : bindArgs (PySem.W.fnOf "performed" qual (defArgs s_performed) (defBody s_performed) (defScope s_performed) .none kV doc pm an cdv ct) ⟨us, []⟩ = pure (List.zip (["script", "boxes"] : List Str) us) := match us, hl with | [_, _], _ => rfl
theorem sc_walked_back : FnScope ["rows", "state", "opens", "memory", "boxes", "row"] ["rows", "state"] (defScope s_walked_back) := ⟨rfl, rfl, rfl, by decide +kernel, rfl, by decide +kernel, by decide +kernel⟩
theorem bn_walked_back (qual : Str) (kV doc pm : Value) (an : Option Addr) (cdv ct : Value) (us : List Value) (hl : us.length = 2) : bindArgs (PySem.W.fnOf "walked_back" qual (defArgs s_walked_back) (defBody s_walked_back) (defScope s_walked_back) .none kV doc pm an cdv ct) ⟨us, []⟩ = pure (List.zip (["rows", "state"] : List Str) us) := match us, hl with | [_, _], _ => rfl
theorem sc_told : FnScope ["rows", "row"] ["rows"] (defScope s_told) := ⟨rfl, rfl, rfl, by decide +kernel, rfl, by decide +kernel, by decide +kernel⟩
theorem bn_told (qual : Str) (kV doc pm : Value) (an : Option Addr) (cdv ct : Value) (us : List Value) (hl : us.length = 1) : bindArgs (PySem.W.fnOf "told" qual (defArgs s_told) (defBody s_told) (defScope s_told) .none kV doc pm an cdv ct) ⟨us, []⟩ = pure (List.zip (["rows"] : List Str) us) := match us, hl with | [_], _ => rfl
theorem sc_idle_end : FnScope ["rows", "at", "flat", "row"] ["rows", "at", "flat"] (defScope s_idle_end) := ⟨rfl, rfl, rfl, by decide +kernel, rfl, by decide +kernel, by decide +kernel⟩
theorem bn_idle_end (qual : Str) (kV doc pm : Value) (an : Option Addr) (cdv ct : Value) (us : List Value) (hl : us.length = 3) : bindArgs (PySem.W.fnOf "idle_end" qual (defArgs s_idle_end) (defBody s_idle_end) (defScope s_idle_end) .none kV doc pm an cdv ct) ⟨us, []⟩ = pure (List.zip (["rows", "at", "flat"] : List Str) us) := match us, hl with | [_, _, _], _ => rfl
theorem sc_ways_of : FnScope ["table", "flat", "ways", "sign", "rows", "at", "row"] ["table", "flat"] (defScope s_ways_of) := ⟨rfl, rfl, rfl, by decide +kernel, rfl, by decide +kernel, by decide +kernel⟩
theorem bn_ways_of (qual : Str) (kV doc pm : Value) (an : Option Addr) (cdv ct : Value) (us : List Value) (hl : us.length = 2) : bindArgs (PySem.W.fnOf "ways_of" qual (defArgs s_ways_of) (defBody s_ways_of) (defScope s_ways_of) .none kV doc pm an cdv ct) ⟨us, []⟩ = pure (List.zip (["table", "flat"] : List Str) us) := match us, hl with | [_, _], _ => rfl
theorem sc_unnested : FnScope ["table", "many", "names", "tree", "ways", "flat", "ins"] ["table"] (defScope s_unnested) := ⟨rfl, rfl, rfl, by decide +kernel, rfl, by decide +kernel, by decide +kernel⟩
theorem bn_unnested (qual : Str) (kV doc pm : Value) (an : Option Addr) (cdv ct : Value) (us : List Value) (hl : us.length = 1) : bindArgs (PySem.W.fnOf "unnested" qual (defArgs s_unnested) (defBody s_unnested) (defScope s_unnested) .none kV doc pm an cdv ct) ⟨us, []⟩ = pure (List.zip (["table"] : List Str) us) := match us, hl with | [_], _ => rfl
theorem sc_road : FnScope ["tree", "upper", "mood", "found", "up"] ["tree", "upper", "mood"] (defScope s_road) := ⟨rfl, rfl, rfl, by decide +kernel, rfl, by decide +kernel, by decide +kernel⟩
theorem bn_road (qual : Str) (kV doc pm : Value) (an : Option Addr) (cdv ct : Value) (us : List Value) (hl : us.length = 3) : bindArgs (PySem.W.fnOf "road" qual (defArgs s_road) (defBody s_road) (defScope s_road) .none kV doc pm an cdv ct) ⟨us, []⟩ = pure (List.zip (["tree", "upper", "mood"] : List Str) us) := match us, hl with | [_, _, _], _ => rfl
theorem sc_top : FnScope ["tree", "one", "other", "shared", "up"] ["tree", "one", "other"] (defScope s_top) := ⟨rfl, rfl, rfl, by decide +kernel, rfl, by decide +kernel, by decide +kernel⟩
theorem bn_top (qual : Str) (kV doc pm : Value) (an : Option Addr) (cdv ct : Value) (us : List Value) (hl : us.length = 3) : bindArgs (PySem.W.fnOf "top" qual (defArgs s_top) (defBody s_top) (defScope s_top) .none kV doc pm an cdv ct) ⟨us, []⟩ = pure (List.zip (["tree", "one", "other"] : List Str) us) := match us, hl with | [_, _, _], _ => rfl
theorem sc_asks_moods : FnScope ["ask"] ["ask"] (defScope s_asks_moods) := ⟨rfl, rfl, rfl, by decide +kernel, rfl, by decide +kernel, by decide +kernel⟩
theorem bn_asks_moods (qual : Str) (kV doc pm : Value) (an : Option Addr) (cdv ct : Value) (us : List Value) (hl : us.length = 1) : bindArgs (PySem.W.fnOf "asks_moods" qual (defArgs s_asks_moods) (defBody s_asks_moods) (defScope s_asks_moods) .none kV doc pm an cdv ct) ⟨us, []⟩ = pure (List.zip (["ask"] : List Str) us) := match us, hl with | [_], _ => rfl
theorem sc_fits : FnScope ["asks", "opens", "ask"] ["asks", "opens"] (defScope s_fits) := ⟨rfl, rfl, rfl, by decide +kernel, rfl, by decide +kernel, by decide +kernel⟩
theorem bn_fits (qual : Str) (kV doc pm : Value) (an : Option Addr) (cdv ct : Value) (us : List Value) (hl : us.length = 2) : bindArgs (PySem.W.fnOf "fits" qual (defArgs s_fits) (defBody s_fits) (defScope s_fits) .none kV doc pm an cdv ct) ⟨us, []⟩ = pure (List.zip (["asks", "opens"] : List Str) us) := match us, hl with | [_, _], _ => rfl
theorem sc_goable : FnScope ["chart", "opens", "leaf", "sign", "found", "mood", "number", "way"] ["chart", "opens", "leaf", "sign"] (defScope s_goable) := ⟨rfl, rfl, rfl, by decide +kernel, rfl, by decide +kernel, by decide +kernel⟩
theorem bn_goable (qual : Str) (kV doc pm : Value) (an : Option Addr) (cdv ct : Value) (us : List Value) (hl : us.length = 4) : bindArgs (PySem.W.fnOf "goable" qual (defArgs s_goable) (defBody s_goable) (defScope s_goable) .none kV doc pm an cdv ct) ⟨us, []⟩ = pure (List.zip (["chart", "opens", "leaf", "sign"] : List Str) us) := match us, hl with | [_, _, _, _], _ => rfl
theorem sc_number_asks : FnScope ["chart", "way", "ask"] ["chart", "way"] (defScope s_number_asks) := ⟨rfl, rfl, rfl, by decide +kernel, rfl, by decide +kernel, by decide +kernel⟩
theorem bn_number_asks (qual : Str) (kV doc pm : Value) (an : Option Addr) (cdv ct : Value) (us : List Value) (hl : us.length = 2) : bindArgs (PySem.W.fnOf "number_asks" qual (defArgs s_number_asks) (defBody s_number_asks) (defScope s_number_asks) .none kV doc pm an cdv ct) ⟨us, []⟩ = pure (List.zip (["chart", "way"] : List Str) us) := match us, hl with | [_, _], _ => rfl
theorem sc_picks : FnScope ["chart", "opens", "boxes", "sign", "found", "mood", "way"] ["chart", "opens", "boxes", "sign"] (defScope s_picks) := ⟨rfl, rfl, rfl, by decide +kernel, rfl, by decide +kernel, by decide +kernel⟩
theorem bn_picks (qual : Str) (kV doc pm : Value) (an : Option Addr) (cdv ct : Value) (us : List Value) (hl : us.length = 4) : bindArgs (PySem.W.fnOf "picks" qual (defArgs s_picks) (defBody s_picks) (defScope s_picks) .none kV doc pm an cdv ct) ⟨us, []⟩ = pure (List.zip (["chart", "opens", "boxes", "sign"] : List Str) us) := match us, hl with | [_, _, _, _], _ => rfl
theorem sc_kept : FnScope ["chart", "found", "taken", "way", "other"] ["chart", "found"] (defScope s_kept) := ⟨rfl, rfl, rfl, by decide +kernel, rfl, by decide +kernel, by decide +kernel⟩
theorem bn_kept (qual : Str) (kV doc pm : Value) (an : Option Addr) (cdv ct : Value) (us : List Value) (hl : us.length = 2) : bindArgs (PySem.W.fnOf "kept" qual (defArgs s_kept) (defBody s_kept) (defScope s_kept) .none kV doc pm an cdv ct) ⟨us, []⟩ = pure (List.zip (["chart", "found"] : List Str) us) := match us, hl with | [_, _], _ => rfl
theorem sc_opened : FnScope ["tree", "memory", "mood", "mode", "found", "deeper", "chosen", "near"] ["tree", "memory", "mood", "mode"] (defScope s_opened) := ⟨rfl, rfl, rfl, by decide +kernel, rfl, by decide +kernel, by decide +kernel⟩
theorem bn_opened (qual : Str) (kV doc pm : Value) (an : Option Addr) (cdv ct : Value) (us : List Value) (hl : us.length = 4) : bindArgs (PySem.W.fnOf "opened" qual (defArgs s_opened) (defBody s_opened) (defScope s_opened) .none kV doc pm an cdv ct) ⟨us, []⟩ = pure (List.zip (["tree", "memory", "mood", "mode"] : List Str) us) := match us, hl with | [_, _, _, _], _ => rfl
theorem sc_entered : FnScope ["tree", "memory", "upper", "target", "mode", "way", "found", "mood", "near"] ["tree", "memory", "upper", "target", "mode"] (defScope s_entered) := ⟨rfl, rfl, rfl, by decide +kernel, rfl, by decide +kernel, by decide +kernel⟩
theorem bn_entered (qual : Str) (kV doc pm : Value) (an : Option Addr) (cdv ct : Value) (us : List Value) (hl : us.length = 5) : bindArgs (PySem.W.fnOf "entered" qual (defArgs s_entered) (defBody s_entered) (defScope s_entered) .none kV doc pm an cdv ct) ⟨us, []⟩ = pure (List.zip (["tree", "memory", "upper", "target", "mode"] : List Str) us) := match us, hl with | [_, _, _, _, _], _ => rfl
theorem sc_left : FnScope ["tree", "opens", "upper", "mood"] ["tree", "opens", "upper"] (defScope s_left) := ⟨rfl, rfl, rfl, by decide +kernel, rfl, by decide +kernel, by decide +kernel⟩
theorem bn_left (qual : Str) (kV doc pm : Value) (an : Option Addr) (cdv ct : Value) (us : List Value) (hl : us.length = 3) : bindArgs (PySem.W.fnOf "left" qual (defArgs s_left) (defBody s_left) (defScope s_left) .none kV doc pm an cdv ct) ⟨us, []⟩ = pure (List.zip (["tree", "opens", "upper"] : List Str) us) := match us, hl with | [_, _, _], _ => rfl
theorem sc_remembered : FnScope ["tree", "memory", "opens", "moods", "behind", "mood", "near"] ["tree", "memory", "opens", "moods"] (defScope s_remembered) := ⟨rfl, rfl, rfl, by decide +kernel, rfl, by decide +kernel, by decide +kernel⟩
theorem bn_remembered (qual : Str) (kV doc pm : Value) (an : Option Addr) (cdv ct : Value) (us : List Value) (hl : us.length = 4) : bindArgs (PySem.W.fnOf "remembered" qual (defArgs s_remembered) (defBody s_remembered) (defScope s_remembered) .none kV doc pm an cdv ct) ⟨us, []⟩ = pure (List.zip (["tree", "memory", "opens", "moods"] : List Str) us) := match us, hl with | [_, _, _, _], _ => rfl
theorem sc_heeded : FnScope ["chart", "mood", "way"] ["chart", "mood"] (defScope s_heeded) := ⟨rfl, rfl, rfl, by decide +kernel, rfl, by decide +kernel, by decide +kernel⟩
theorem bn_heeded (qual : Str) (kV doc pm : Value) (an : Option Addr) (cdv ct : Value) (us : List Value) (hl : us.length = 2) : bindArgs (PySem.W.fnOf "heeded" qual (defArgs s_heeded) (defBody s_heeded) (defScope s_heeded) .none kV doc pm an cdv ct) ⟨us, []⟩ = pure (List.zip (["chart", "mood"] : List Str) us) := match us, hl with | [_, _], _ => rfl
theorem sc_leaving : FnScope ["chart", "memory", "behind", "moods", "script", "mood"] ["chart", "memory", "behind", "moods"] (defScope s_leaving) := ⟨rfl, rfl, rfl, by decide +kernel, rfl, by decide +kernel, by decide +kernel⟩
theorem bn_leaving (qual : Str) (kV doc pm : Value) (an : Option Addr) (cdv ct : Value) (us : List Value) (hl : us.length = 4) : bindArgs (PySem.W.fnOf "leaving" qual (defArgs s_leaving) (defBody s_leaving) (defScope s_leaving) .none kV doc pm an cdv ct) ⟨us, []⟩ = pure (List.zip (["chart", "memory", "behind", "moods"] : List Str) us) := match us, hl with | [_, _, _, _], _ => rfl
theorem sc_entering : FnScope ["chart", "moods", "script", "mood"] ["chart", "moods"] (defScope s_entering) := ⟨rfl, rfl, rfl, by decide +kernel, rfl, by decide +kernel, by decide +kernel⟩
theorem bn_entering (qual : Str) (kV doc pm : Value) (an : Option Addr) (cdv ct : Value) (us : List Value) (hl : us.length = 2) : bindArgs (PySem.W.fnOf "entering" qual (defArgs s_entering) (defBody s_entering) (defScope s_entering) .none kV doc pm an cdv ct) ⟨us, []⟩ = pure (List.zip (["chart", "moods"] : List Str) us) := match us, hl with | [_, _], _ => rfl
theorem sc_moved : FnScope ["chart", "opens", "memory", "ways", "tree", "aims", "script", "number", "way", "gone", "aim", "behind", "made", "mood"] ["chart", "opens", "memory", "ways"] (defScope s_moved) := ⟨rfl, rfl, rfl, by decide +kernel, rfl, by decide +kernel, by decide +kernel⟩
theorem bn_moved (qual : Str) (kV doc pm : Value) (an : Option Addr) (cdv ct : Value) (us : List Value) (hl : us.length = 4) : bindArgs (PySem.W.fnOf "moved" qual (defArgs s_moved) (defBody s_moved) (defScope s_moved) .none kV doc pm an cdv ct) ⟨us, []⟩ = pure (List.zip (["chart", "opens", "memory", "ways"] : List Str) us) := match us, hl with | [_, _, _, _], _ => rfl
theorem sc_begun : FnScope ["chart", "memory", "opens", "mood"] ["chart"] (defScope s_begun) := ⟨rfl, rfl, rfl, by decide +kernel, rfl, by decide +kernel, by decide +kernel⟩
theorem bn_begun (qual : Str) (kV doc pm : Value) (an : Option Addr) (cdv ct : Value) (us : List Value) (hl : us.length = 1) : bindArgs (PySem.W.fnOf "begun" qual (defArgs s_begun) (defBody s_begun) (defScope s_begun) .none kV doc pm an cdv ct) ⟨us, []⟩ = pure (List.zip (["chart"] : List Str) us) := match us, hl with | [_], _ => rfl
theorem sc_Table_init : FnScope ["self", "boxes", "heard", "begin", "flats", "rows", "spot"] ["self", "boxes", "heard", "begin", "flats", "rows"] (defScope s_Table_init) := ⟨rfl, rfl, rfl, by decide +kernel, rfl, by decide +kernel, by decide +kernel⟩
theorem bn_Table_init (qual : Str) (kV doc pm : Value) (an : Option Addr) (cdv ct : Value) (us : List Value) (hl : us.length = 6) : bindArgs (PySem.W.fnOf "__init__" qual (defArgs s_Table_init) (defBody s_Table_init) (defScope s_Table_init) .none kV doc pm an cdv ct) ⟨us, []⟩ = pure (List.zip (["self", "boxes", "heard", "begin", "flats", "rows"] : List Str) us) := match us, hl with | [_, _, _, _, _, _], _ => rfl
theorem sc_Runner_init : FnScope ["self", "numbers"] ["self", "numbers"] (defScope s_Runner_init) := ⟨rfl, rfl, rfl, by decide +kernel, rfl, by decide +kernel, by decide +kernel⟩
theorem bn_Runner_init (qual : Str) (kV doc pm : Value) (an : Option Addr) (cdv ct : Value) (us : List Value) (hl : us.length = 2) : bindArgs (PySem.W.fnOf "__init__" qual (defArgs s_Runner_init) (defBody s_Runner_init) (defScope s_Runner_init) .none kV doc pm an cdv ct) ⟨us, []⟩ = pure (List.zip (["self", "numbers"] : List Str) us) := match us, hl with | [_, _], _ => rfl
theorem sc_Runner_do_script : FnScope ["self", "script", "rows", "step"] ["self", "script", "rows"] (defScope s_Runner_do_script) := ⟨rfl, rfl, rfl, by decide +kernel, rfl, by decide +kernel, by decide +kernel⟩
theorem bn_Runner_do_script (qual : Str) (kV doc pm : Value) (an : Option Addr) (cdv ct : Value) (us : List Value) (hl : us.length = 3) : bindArgs (PySem.W.fnOf "do_script" qual (defArgs s_Runner_do_script) (defBody s_Runner_do_script) (defScope s_Runner_do_script) .none kV doc pm an cdv ct) ⟨us, []⟩ = pure (List.zip (["self", "script", "rows"] : List Str) us) := match us, hl with | [_, _, _], _ => rfl
theorem sc_Runner_deal : FnScope ["self", "rows", "waiting", "turns", "sign", "called"] ["self", "rows", "waiting"] (defScope s_Runner_deal) := ⟨rfl, rfl, rfl, by decide +kernel, rfl, by decide +kernel, by decide +kernel⟩
theorem bn_Runner_deal (qual : Str) (kV doc pm : Value) (an : Option Addr) (cdv ct : Value) (us : List Value) (hl : us.length = 3) : bindArgs (PySem.W.fnOf "deal" qual (defArgs s_Runner_deal) (defBody s_Runner_deal) (defScope s_Runner_deal) .none kV doc pm an cdv ct) ⟨us, []⟩ = pure (List.zip (["self", "rows", "waiting"] : List Str) us) := match us, hl with | [_, _, _], _ => rfl
theorem sc_Runner_begin_with : FnScope ["self", "script", "rows", "called"] ["self", "script"] (defScope s_Runner_begin_with) := ⟨rfl, rfl, rfl, by decide +kernel, rfl, by decide +kernel, by decide +kernel⟩
theorem bn_Runner_begin_with (qual : Str) (kV doc pm : Value) (an : Option Addr) (cdv ct : Value) (us : List Value) (hl : us.length = 2) : bindArgs (PySem.W.fnOf "begin_with" qual (defArgs s_Runner_begin_with) (defBody s_Runner_begin_with) (defScope s_Runner_begin_with) .none kV doc pm an cdv ct) ⟨us, []⟩ = pure (List.zip (["self", "script"] : List Str) us) := match us, hl with | [_, _], _ => rfl
theorem sc_Runner_feed : FnScope ["self", "sign"] ["self", "sign"] (defScope s_Runner_feed) := ⟨rfl, rfl, rfl, by decide +kernel, rfl, by decide +kernel, by decide +kernel⟩
theorem bn_Runner_feed (qual : Str) (kV doc pm : Value) (an : Option Addr) (cdv ct : Value) (us : List Value) (hl : us.length = 2) : bindArgs (PySem.W.fnOf "feed" qual (defArgs s_Runner_feed) (defBody s_Runner_feed) (defScope s_Runner_feed) .none kV doc pm an cdv ct) ⟨us, []⟩ = pure (List.zip (["self", "sign"] : List Str) us) := match us, hl with | [_, _], _ => rfl
theorem sc_Runner_back : FnScope ["self", "rows", "row"] ["self"] (defScope s_Runner_back) := ⟨rfl, rfl, rfl, by decide +kernel, rfl, by decide +kernel, by decide +kernel⟩
theorem bn_Runner_back (qual : Str) (kV doc pm : Value) (an : Option Addr) (cdv ct : Value) (us : List Value) (hl : us.length = 1) : bindArgs (PySem.W.fnOf "back" qual (defArgs s_Runner_back) (defBody s_Runner_back) (defScope s_Runner_back) .none kV doc pm an cdv ct) ⟨us, []⟩ = pure (List.zip (["self"] : List Str) us) := match us, hl with | [_], _ => rfl
theorem sc_Runner_fed : FnScope ["self"] ["self"] (defScope s_Runner_fed) := ⟨rfl, rfl, rfl, by decide +kernel, rfl, by decide +kernel, by decide +kernel⟩
theorem bn_Runner_fed (qual : Str) (kV doc pm : Value) (an : Option Addr) (cdv ct : Value) (us : List Value) (hl : us.length = 1) : bindArgs (PySem.W.fnOf "fed" qual (defArgs s_Runner_fed) (defBody s_Runner_fed) (defScope s_Runner_fed) .none kV doc pm an cdv ct) ⟨us, []⟩ = pure (List.zip (["self"] : List Str) us) := match us, hl with | [_], _ => rfl
theorem sc_Runner_story : FnScope ["self", "rows", "part"] ["self"] (defScope s_Runner_story) := ⟨rfl, rfl, rfl, by decide +kernel, rfl, by decide +kernel, by decide +kernel⟩
theorem bn_Runner_story (qual : Str) (kV doc pm : Value) (an : Option Addr) (cdv ct : Value) (us : List Value) (hl : us.length = 1) : bindArgs (PySem.W.fnOf "story" qual (defArgs s_Runner_story) (defBody s_Runner_story) (defScope s_Runner_story) .none kV doc pm an cdv ct) ⟨us, []⟩ = pure (List.zip (["self"] : List Str) us) := match us, hl with | [_], _ => rfl
theorem sc_Runner_numbers : FnScope ["self"] ["self"] (defScope s_Runner_numbers) := ⟨rfl, rfl, rfl, by decide +kernel, rfl, by decide +kernel, by decide +kernel⟩
theorem bn_Runner_numbers (qual : Str) (kV doc pm : Value) (an : Option Addr) (cdv ct : Value) (us : List Value) (hl : us.length = 1) : bindArgs (PySem.W.fnOf "numbers" qual (defArgs s_Runner_numbers) (defBody s_Runner_numbers) (defScope s_Runner_numbers) .none kV doc pm an cdv ct) ⟨us, []⟩ = pure (List.zip (["self"] : List Str) us) := match us, hl with | [_], _ => rfl
theorem sc_FlatRun_init : FnScope ["self", "table", "box"] ["self", "table"] (defScope s_FlatRun_init) := ⟨rfl, rfl, rfl, by decide +kernel, rfl, by decide +kernel, by decide +kernel⟩
theorem bn_FlatRun_init (qual : Str) (kV doc pm : Value) (an : Option Addr) (cdv ct : Value) (us : List Value) (hl : us.length = 2) : bindArgs (PySem.W.fnOf "__init__" qual (defArgs s_FlatRun_init) (defBody s_FlatRun_init) (defScope s_FlatRun_init) .none kV doc pm an cdv ct) ⟨us, []⟩ = pure (List.zip (["self", "table"] : List Str) us) := match us, hl with | [_, _], _ => rfl
theorem sc_FlatRun_script_of : FnScope ["self", "sign", "row"] ["self", "sign"] (defScope s_FlatRun_script_of) := ⟨rfl, rfl, rfl, by decide +kernel, rfl, by decide +kernel, by decide +kernel⟩
theorem bn_FlatRun_script_of (qual : Str) (kV doc pm : Value) (an : Option Addr) (cdv ct : Value) (us : List Value) (hl : us.length = 2) : bindArgs (PySem.W.fnOf "script_of" qual (defArgs s_FlatRun_script_of) (defBody s_FlatRun_script_of) (defScope s_FlatRun_script_of) .none kV doc pm an cdv ct) ⟨us, []⟩ = pure (List.zip (["self", "sign"] : List Str) us) := match us, hl with | [_, _], _ => rfl
theorem sc_FlatRun_feed : FnScope ["self", "sign"] ["self", "sign"] (defScope s_FlatRun_feed) := ⟨rfl, rfl, rfl, by decide +kernel, rfl, by decide +kernel, by decide +kernel⟩
theorem bn_FlatRun_feed (qual : Str) (kV doc pm : Value) (an : Option Addr) (cdv ct : Value) (us : List Value) (hl : us.length = 2) : bindArgs (PySem.W.fnOf "feed" qual (defArgs s_FlatRun_feed) (defBody s_FlatRun_feed) (defScope s_FlatRun_feed) .none kV doc pm an cdv ct) ⟨us, []⟩ = pure (List.zip (["self", "sign"] : List Str) us) := match us, hl with | [_, _], _ => rfl
theorem sc_FlatRun_put_back : FnScope ["self", "rows"] ["self", "rows"] (defScope s_FlatRun_put_back) := ⟨rfl, rfl, rfl, by decide +kernel, rfl, by decide +kernel, by decide +kernel⟩
theorem bn_FlatRun_put_back (qual : Str) (kV doc pm : Value) (an : Option Addr) (cdv ct : Value) (us : List Value) (hl : us.length = 2) : bindArgs (PySem.W.fnOf "put_back" qual (defArgs s_FlatRun_put_back) (defBody s_FlatRun_put_back) (defScope s_FlatRun_put_back) .none kV doc pm an cdv ct) ⟨us, []⟩ = pure (List.zip (["self", "rows"] : List Str) us) := match us, hl with | [_, _], _ => rfl
theorem sc_FlatRun_flat : FnScope ["self"] ["self"] (defScope s_FlatRun_flat) := ⟨rfl, rfl, rfl, by decide +kernel, rfl, by decide +kernel, by decide +kernel⟩
theorem bn_FlatRun_flat (qual : Str) (kV doc pm : Value) (an : Option Addr) (cdv ct : Value) (us : List Value) (hl : us.length = 1) : bindArgs (PySem.W.fnOf "flat" qual (defArgs s_FlatRun_flat) (defBody s_FlatRun_flat) (defScope s_FlatRun_flat) .none kV doc pm an cdv ct) ⟨us, []⟩ = pure (List.zip (["self"] : List Str) us) := match us, hl with | [_], _ => rfl
theorem sc_NestRun_init : FnScope ["self", "chart", "start"] ["self", "chart"] (defScope s_NestRun_init) := ⟨rfl, rfl, rfl, by decide +kernel, rfl, by decide +kernel, by decide +kernel⟩
theorem bn_NestRun_init (qual : Str) (kV doc pm : Value) (an : Option Addr) (cdv ct : Value) (us : List Value) (hl : us.length = 2) : bindArgs (PySem.W.fnOf "__init__" qual (defArgs s_NestRun_init) (defBody s_NestRun_init) (defScope s_NestRun_init) .none kV doc pm an cdv ct) ⟨us, []⟩ = pure (List.zip (["self", "chart"] : List Str) us) := match us, hl with | [_, _], _ => rfl
theorem sc_NestRun_script_of : FnScope ["self", "sign", "ways", "move"] ["self", "sign"] (defScope s_NestRun_script_of) := ⟨rfl, rfl, rfl, by decide +kernel, rfl, by decide +kernel, by decide +kernel⟩
theorem bn_NestRun_script_of (qual : Str) (kV doc pm : Value) (an : Option Addr) (cdv ct : Value) (us : List Value) (hl : us.length = 2) : bindArgs (PySem.W.fnOf "script_of" qual (defArgs s_NestRun_script_of) (defBody s_NestRun_script_of) (defScope s_NestRun_script_of) .none kV doc pm an cdv ct) ⟨us, []⟩ = pure (List.zip (["self", "sign"] : List Str) us) := match us, hl with | [_, _], _ => rfl
theorem sc_NestRun_put_back : FnScope ["self", "rows", "state"] ["self", "rows"] (defScope s_NestRun_put_back) := ⟨rfl, rfl, rfl, by decide +kernel, rfl, by decide +kernel, by decide +kernel⟩
theorem bn_NestRun_put_back (qual : Str) (kV doc pm : Value) (an : Option Addr) (cdv ct : Value) (us : List Value) (hl : us.length = 2) : bindArgs (PySem.W.fnOf "put_back" qual (defArgs s_NestRun_put_back) (defBody s_NestRun_put_back) (defScope s_NestRun_put_back) .none kV doc pm an cdv ct) ⟨us, []⟩ = pure (List.zip (["self", "rows"] : List Str) us) := match us, hl with | [_, _], _ => rfl
theorem sc_NestRun_moods : FnScope ["self"] ["self"] (defScope s_NestRun_moods) := ⟨rfl, rfl, rfl, by decide +kernel, rfl, by decide +kernel, by decide +kernel⟩
theorem bn_NestRun_moods (qual : Str) (kV doc pm : Value) (an : Option Addr) (cdv ct : Value) (us : List Value) (hl : us.length = 1) : bindArgs (PySem.W.fnOf "moods" qual (defArgs s_NestRun_moods) (defBody s_NestRun_moods) (defScope s_NestRun_moods) .none kV doc pm an cdv ct) ⟨us, []⟩ = pure (List.zip (["self"] : List Str) us) := match us, hl with | [_], _ => rfl
theorem sc_law_cell_at : FnScope ["script", "k"] ["script", "k"] (defScope s_law_cell_at) := ⟨rfl, rfl, rfl, by decide +kernel, rfl, by decide +kernel, by decide +kernel⟩
theorem bn_law_cell_at (qual : Str) (kV doc pm : Value) (an : Option Addr) (cdv ct : Value) (us : List Value) (hl : us.length = 2) : bindArgs (PySem.W.fnOf "_law_cell_at" qual (defArgs s_law_cell_at) (defBody s_law_cell_at) (defScope s_law_cell_at) .none kV doc pm an cdv ct) ⟨us, []⟩ = pure (List.zip (["script", "k"] : List Str) us) := match us, hl with | [_, _], _ => rfl
theorem sc_law_take : FnScope ["pot", "many", "digit"] ["pot", "many"] (defScope s_law_take) := ⟨rfl, rfl, rfl, by decide +kernel, rfl, by decide +kernel, by decide +kernel⟩
theorem bn_law_take (qual : Str) (kV doc pm : Value) (an : Option Addr) (cdv ct : Value) (us : List Value) (hl : us.length = 2) : bindArgs (PySem.W.fnOf "_law_take" qual (defArgs s_law_take) (defBody s_law_take) (defScope s_law_take) .none kV doc pm an cdv ct) ⟨us, []⟩ = pure (List.zip (["pot", "many"] : List Str) us) := match us, hl with | [_, _], _ => rfl
theorem sc_law_term : FnScope ["pot", "many", "box"] ["pot", "many"] (defScope s_law_term) := ⟨rfl, rfl, rfl, by decide +kernel, rfl, by decide +kernel, by decide +kernel⟩
theorem bn_law_term (qual : Str) (kV doc pm : Value) (an : Option Addr) (cdv ct : Value) (us : List Value) (hl : us.length = 2) : bindArgs (PySem.W.fnOf "_law_term" qual (defArgs s_law_term) (defBody s_law_term) (defScope s_law_term) .none kV doc pm an cdv ct) ⟨us, []⟩ = pure (List.zip (["pot", "many"] : List Str) us) := match us, hl with | [_, _], _ => rfl
theorem sc_law_piece : FnScope ["pot", "many", "heard", "way", "box"] ["pot", "many", "heard"] (defScope s_law_piece) := ⟨rfl, rfl, rfl, by decide +kernel, rfl, by decide +kernel, by decide +kernel⟩
theorem bn_law_piece (qual : Str) (kV doc pm : Value) (an : Option Addr) (cdv ct : Value) (us : List Value) (hl : us.length = 3) : bindArgs (PySem.W.fnOf "_law_piece" qual (defArgs s_law_piece) (defBody s_law_piece) (defScope s_law_piece) .none kV doc pm an cdv ct) ⟨us, []⟩ = pure (List.zip (["pot", "many", "heard"] : List Str) us) := match us, hl with | [_, _, _], _ => rfl
theorem sc_law_script : FnScope ["pot", "many", "heard", "k"] ["pot", "many", "heard"] (defScope s_law_script) := ⟨rfl, rfl, rfl, by decide +kernel, rfl, by decide +kernel, by decide +kernel⟩
theorem bn_law_script (qual : Str) (kV doc pm : Value) (an : Option Addr) (cdv ct : Value) (us : List Value) (hl : us.length = 3) : bindArgs (PySem.W.fnOf "_law_script" qual (defArgs s_law_script) (defBody s_law_script) (defScope s_law_script) .none kV doc pm an cdv ct) ⟨us, []⟩ = pure (List.zip (["pot", "many", "heard"] : List Str) us) := match us, hl with | [_, _, _], _ => rfl
theorem sc_law_rows : FnScope ["cell", "many", "heard", "flats", "pot", "rows", "k", "asks", "j", "mark", "one", "piece"] ["cell", "many", "heard", "flats"] (defScope s_law_rows) := ⟨rfl, rfl, rfl, by decide +kernel, rfl, by decide +kernel, by decide +kernel⟩
theorem bn_law_rows (qual : Str) (kV doc pm : Value) (an : Option Addr) (cdv ct : Value) (us : List Value) (hl : us.length = 4) : bindArgs (PySem.W.fnOf "_law_rows" qual (defArgs s_law_rows) (defBody s_law_rows) (defScope s_law_rows) .none kV doc pm an cdv ct) ⟨us, []⟩ = pure (List.zip (["cell", "many", "heard", "flats"] : List Str) us) := match us, hl with | [_, _, _, _], _ => rfl
theorem sc_law_pieces : FnScope ["script", "pot", "many", "flats", "heard", "boxes", "rows", "flat", "k", "begin", "pairs"] ["script"] (defScope s_law_pieces) := ⟨rfl, rfl, rfl, by decide +kernel, rfl, by decide +kernel, by decide +kernel⟩
theorem bn_law_pieces (qual : Str) (kV doc pm : Value) (an : Option Addr) (cdv ct : Value) (us : List Value) (hl : us.length = 1) : bindArgs (PySem.W.fnOf "_law_pieces" qual (defArgs s_law_pieces) (defBody s_law_pieces) (defScope s_law_pieces) .none kV doc pm an cdv ct) ⟨us, []⟩ = pure (List.zip (["script"] : List Str) us) := match us, hl with | [_], _ => rfl
theorem sc_law_table : FnScope ["script", "part"] ["script"] (defScope s_law_table) := ⟨rfl, rfl, rfl, by decide +kernel, rfl, by decide +kernel, by decide +kernel⟩
theorem bn_law_table (qual : Str) (kV doc pm : Value) (an : Option Addr) (cdv ct : Value) (us : List Value) (hl : us.length = 1) : bindArgs (PySem.W.fnOf "_law_table" qual (defArgs s_law_table) (defBody s_law_table) (defScope s_law_table) .none kV doc pm an cdv ct) ⟨us, []⟩ = pure (List.zip (["script"] : List Str) us) := match us, hl with | [_], _ => rfl
theorem sc_law_told : FnScope ["rows", "row"] ["rows"] (defScope s_law_told) := ⟨rfl, rfl, rfl, by decide +kernel, rfl, by decide +kernel, by decide +kernel⟩
theorem bn_law_told (qual : Str) (kV doc pm : Value) (an : Option Addr) (cdv ct : Value) (us : List Value) (hl : us.length = 1) : bindArgs (PySem.W.fnOf "_law_told" qual (defArgs s_law_told) (defBody s_law_told) (defScope s_law_told) .none kV doc pm an cdv ct) ⟨us, []⟩ = pure (List.zip (["rows"] : List Str) us) := match us, hl with | [_], _ => rfl
theorem sc_law_alike : FnScope ["run", "other"] ["run", "other"] (defScope s_law_alike) := ⟨rfl, rfl, rfl, by decide +kernel, rfl, by decide +kernel, by decide +kernel⟩
theorem bn_law_alike (qual : Str) (kV doc pm : Value) (an : Option Addr) (cdv ct : Value) (us : List Value) (hl : us.length = 2) : bindArgs (PySem.W.fnOf "_law_alike" qual (defArgs s_law_alike) (defBody s_law_alike) (defScope s_law_alike) .none kV doc pm an cdv ct) ⟨us, []⟩ = pure (List.zip (["run", "other"] : List Str) us) := match us, hl with | [_, _], _ => rfl
theorem sc_law_turns : FnScope ["script", "start", "most", "many", "k"] ["script", "start", "most"] (defScope s_law_turns) := ⟨rfl, rfl, rfl, by decide +kernel, rfl, by decide +kernel, by decide +kernel⟩
theorem bn_law_turns (qual : Str) (kV doc pm : Value) (an : Option Addr) (cdv ct : Value) (us : List Value) (hl : us.length = 3) : bindArgs (PySem.W.fnOf "_law_turns" qual (defArgs s_law_turns) (defBody s_law_turns) (defScope s_law_turns) .none kV doc pm an cdv ct) ⟨us, []⟩ = pure (List.zip (["script", "start", "most"] : List Str) us) := match us, hl with | [_, _, _], _ => rfl
theorem sc_law : FnScope ["script", "table", "run", "other", "cell", "ours", "theirs", "sign"] ["script"] (defScope s_law) := ⟨rfl, rfl, rfl, by decide +kernel, rfl, by decide +kernel, by decide +kernel⟩
theorem bn_law (qual : Str) (kV doc pm : Value) (an : Option Addr) (cdv ct : Value) (us : List Value) (hl : us.length = 1) : bindArgs (PySem.W.fnOf "law" qual (defArgs s_law) (defBody s_law) (defScope s_law) .none kV doc pm an cdv ct) ⟨us, []⟩ = pure (List.zip (["script"] : List Str) us) := match us, hl with | [_], _ => rfl
theorem Tp.f_above (T : Tp K mg) : ∃ fd, FunD K "above" "above" (defArgs s_above) (defBody s_above) (defScope s_above) [] [] (He.ga K "above") fd := T.says.def_ 0 (d := d_above) rfl
theorem Tp.f_depth (T : Tp K mg) : ∃ fd, FunD K "depth" "depth" (defArgs s_depth) (defBody s_depth) (defScope s_depth) [] [] (He.ga K "depth") fd := T.says.def_ 1 (d := d_depth) rfl
theorem Tp.f_within (T : Tp K mg) : ∃ fd, FunD K "within" "within" (defArgs s_within) (defBody s_within) (defScope s_within) [] [] (He.ga K "within") fd := T.says.def_ 2 (d := d_within) rfl
theorem Tp.f_firsts (T : Tp K mg) : ∃ fd, FunD K "firsts" "firsts" (defArgs s_firsts) (defBody s_firsts) (defScope s_firsts) [] [] (He.ga K "firsts") fd := T.says.def_ 3 (d := d_firsts) rfl
theorem Tp.f_value (T : Tp K mg) : ∃ fd, FunD K "value" "value" (defArgs s_value) (defBody s_value) (defScope s_value) [] [] (He.ga K "value") fd := T.says.def_ 4 (d := d_value) rfl
theorem Tp.f_holds (T : Tp K mg) : ∃ fd, FunD K "holds" "holds" (defArgs s_holds) (defBody s_holds) (defScope s_holds) [] [] (He.ga K "holds") fd := T.says.def_ 5 (d := d_holds) rfl
theorem Tp.f_all_hold (T : Tp K mg) : ∃ fd, FunD K "all_hold" "all_hold" (defArgs s_all_hold) (defBody s_all_hold) (defScope s_all_hold) [] [] (He.ga K "all_hold") fd := T.says.def_ 6 (d := d_all_hold) rfl
theorem Tp.f_done (T : Tp K mg) : ∃ fd, FunD K "done" "done" (defArgs s_done) (defBody s_done) (defScope s_done) [] [] (He.ga K "done") fd := T.says.def_ 7 (d := d_done) rfl
theorem Tp.f_undone (T : Tp K mg) : ∃ fd, FunD K "undone" "undone" (defArgs s_undone) (defBody s_undone) (defScope s_undone) [] [] (He.ga K "undone") fd := T.says.def_ 8 (d := d_undone) rfl
theorem Tp.f_performed (T : Tp K mg) : ∃ fd, FunD K "performed" "performed" (defArgs s_performed) (defBody s_performed) (defScope s_performed) [] [] (He.ga K "performed") fd := T.says.def_ 9 (d := d_performed) rfl
theorem Tp.f_walked_back (T : Tp K mg) : ∃ fd, FunD K "walked_back" "walked_back" (defArgs s_walked_back) (defBody s_walked_back) (defScope s_walked_back) [] [] (He.ga K "walked_back") fd := T.says.def_ 10 (d := d_walked_back) rfl
theorem Tp.f_told (T : Tp K mg) : ∃ fd, FunD K "told" "told" (defArgs s_told) (defBody s_told) (defScope s_told) [] [] (He.ga K "told") fd := T.says.def_ 11 (d := d_told) rfl
theorem Tp.f_idle_end (T : Tp K mg) : ∃ fd, FunD K "idle_end" "idle_end" (defArgs s_idle_end) (defBody s_idle_end) (defScope s_idle_end) [] [] (He.ga K "idle_end") fd := T.says.def_ 12 (d := d_idle_end) rfl
theorem Tp.f_ways_of (T : Tp K mg) : ∃ fd, FunD K "ways_of" "ways_of" (defArgs s_ways_of) (defBody s_ways_of) (defScope s_ways_of) [] [] (He.ga K "ways_of") fd := T.says.def_ 13 (d := d_ways_of) rfl
theorem Tp.f_unnested (T : Tp K mg) : ∃ fd, FunD K "unnested" "unnested" (defArgs s_unnested) (defBody s_unnested) (defScope s_unnested) [] [] (He.ga K "unnested") fd := T.says.def_ 14 (d := d_unnested) rfl
theorem Tp.f_road (T : Tp K mg) : ∃ fd, FunD K "road" "road" (defArgs s_road) (defBody s_road) (defScope s_road) [] [] (He.ga K "road") fd := T.says.def_ 15 (d := d_road) rfl
theorem Tp.f_top (T : Tp K mg) : ∃ fd, FunD K "top" "top" (defArgs s_top) (defBody s_top) (defScope s_top) [] [] (He.ga K "top") fd := T.says.def_ 16 (d := d_top) rfl
theorem Tp.f_asks_moods (T : Tp K mg) : ∃ fd, FunD K "asks_moods" "asks_moods" (defArgs s_asks_moods) (defBody s_asks_moods) (defScope s_asks_moods) [] [] (He.ga K "asks_moods") fd := T.says.def_ 17 (d := d_asks_moods) rfl
theorem Tp.f_fits (T : Tp K mg) : ∃ fd, FunD K "fits" "fits" (defArgs s_fits) (defBody s_fits) (defScope s_fits) [] [] (He.ga K "fits") fd := T.says.def_ 18 (d := d_fits) rfl
theorem Tp.f_goable (T : Tp K mg) : ∃ fd, FunD K "goable" "goable" (defArgs s_goable) (defBody s_goable) (defScope s_goable) [] [] (He.ga K "goable") fd := T.says.def_ 19 (d := d_goable) rfl
theorem Tp.f_number_asks (T : Tp K mg) : ∃ fd, FunD K "number_asks" "number_asks" (defArgs s_number_asks) (defBody s_number_asks) (defScope s_number_asks) [] [] (He.ga K "number_asks") fd := T.says.def_ 20 (d := d_number_asks) rfl
theorem Tp.f_picks (T : Tp K mg) : ∃ fd, FunD K "picks" "picks" (defArgs s_picks) (defBody s_picks) (defScope s_picks) [] [] (He.ga K "picks") fd := T.says.def_ 21 (d := d_picks) rfl
theorem Tp.f_kept (T : Tp K mg) : ∃ fd, FunD K "kept" "kept" (defArgs s_kept) (defBody s_kept) (defScope s_kept) [] [] (He.ga K "kept") fd := T.says.def_ 22 (d := d_kept) rfl
theorem Tp.f_opened (T : Tp K mg) : ∃ fd, FunD K "opened" "opened" (defArgs s_opened) (defBody s_opened) (defScope s_opened) [] [] (He.ga K "opened") fd := T.says.def_ 23 (d := d_opened) rfl
theorem Tp.f_entered (T : Tp K mg) : ∃ fd, FunD K "entered" "entered" (defArgs s_entered) (defBody s_entered) (defScope s_entered) [] [] (He.ga K "entered") fd := T.says.def_ 24 (d := d_entered) rfl
theorem Tp.f_left (T : Tp K mg) : ∃ fd, FunD K "left" "left" (defArgs s_left) (defBody s_left) (defScope s_left) [] [] (He.ga K "left") fd := T.says.def_ 25 (d := d_left) rfl
theorem Tp.f_remembered (T : Tp K mg) : ∃ fd, FunD K "remembered" "remembered" (defArgs s_remembered) (defBody s_remembered) (defScope s_remembered) [] [] (He.ga K "remembered") fd := T.says.def_ 26 (d := d_remembered) rfl
theorem Tp.f_heeded (T : Tp K mg) : ∃ fd, FunD K "heeded" "heeded" (defArgs s_heeded) (defBody s_heeded) (defScope s_heeded) [] [] (He.ga K "heeded") fd := T.says.def_ 27 (d := d_heeded) rfl
theorem Tp.f_leaving (T : Tp K mg) : ∃ fd, FunD K "leaving" "leaving" (defArgs s_leaving) (defBody s_leaving) (defScope s_leaving) [] [] (He.ga K "leaving") fd := T.says.def_ 28 (d := d_leaving) rfl
theorem Tp.f_entering (T : Tp K mg) : ∃ fd, FunD K "entering" "entering" (defArgs s_entering) (defBody s_entering) (defScope s_entering) [] [] (He.ga K "entering") fd := T.says.def_ 29 (d := d_entering) rfl
theorem Tp.f_moved (T : Tp K mg) : ∃ fd, FunD K "moved" "moved" (defArgs s_moved) (defBody s_moved) (defScope s_moved) [] [] (He.ga K "moved") fd := T.says.def_ 30 (d := d_moved) rfl
theorem Tp.f_begun (T : Tp K mg) : ∃ fd, FunD K "begun" "begun" (defArgs s_begun) (defBody s_begun) (defScope s_begun) [] [] (He.ga K "begun") fd := T.says.def_ 31 (d := d_begun) rfl
theorem Tp.f_law_cell_at (T : Tp K mg) : ∃ fd, FunD K "_law_cell_at" "_law_cell_at" (defArgs s_law_cell_at) (defBody s_law_cell_at) (defScope s_law_cell_at) [] [] (He.ga K "_law_cell_at") fd := T.says.def_ 32 (d := d_law_cell_at) rfl
theorem Tp.f_law_take (T : Tp K mg) : ∃ fd, FunD K "_law_take" "_law_take" (defArgs s_law_take) (defBody s_law_take) (defScope s_law_take) [] [] (He.ga K "_law_take") fd := T.says.def_ 33 (d := d_law_take) rfl
theorem Tp.f_law_term (T : Tp K mg) : ∃ fd, FunD K "_law_term" "_law_term" (defArgs s_law_term) (defBody s_law_term) (defScope s_law_term) [] [] (He.ga K "_law_term") fd := T.says.def_ 34 (d := d_law_term) rfl
theorem Tp.f_law_piece (T : Tp K mg) : ∃ fd, FunD K "_law_piece" "_law_piece" (defArgs s_law_piece) (defBody s_law_piece) (defScope s_law_piece) [] [] (He.ga K "_law_piece") fd := T.says.def_ 35 (d := d_law_piece) rfl
theorem Tp.f_law_script (T : Tp K mg) : ∃ fd, FunD K "_law_script" "_law_script" (defArgs s_law_script) (defBody s_law_script) (defScope s_law_script) [] [] (He.ga K "_law_script") fd := T.says.def_ 36 (d := d_law_script) rfl
theorem Tp.f_law_rows (T : Tp K mg) : ∃ fd, FunD K "_law_rows" "_law_rows" (defArgs s_law_rows) (defBody s_law_rows) (defScope s_law_rows) [] [] (He.ga K "_law_rows") fd := T.says.def_ 37 (d := d_law_rows) rfl
theorem Tp.f_law_pieces (T : Tp K mg) : ∃ fd, FunD K "_law_pieces" "_law_pieces" (defArgs s_law_pieces) (defBody s_law_pieces) (defScope s_law_pieces) [] [] (He.ga K "_law_pieces") fd := T.says.def_ 38 (d := d_law_pieces) rfl
theorem Tp.f_law_table (T : Tp K mg) : ∃ fd, FunD K "_law_table" "_law_table" (defArgs s_law_table) (defBody s_law_table) (defScope s_law_table) [] [] (He.ga K "_law_table") fd := T.says.def_ 39 (d := d_law_table) rfl
theorem Tp.f_law_told (T : Tp K mg) : ∃ fd, FunD K "_law_told" "_law_told" (defArgs s_law_told) (defBody s_law_told) (defScope s_law_told) [] [] (He.ga K "_law_told") fd := T.says.def_ 40 (d := d_law_told) rfl
theorem Tp.f_law_alike (T : Tp K mg) : ∃ fd, FunD K "_law_alike" "_law_alike" (defArgs s_law_alike) (defBody s_law_alike) (defScope s_law_alike) [] [] (He.ga K "_law_alike") fd := T.says.def_ 41 (d := d_law_alike) rfl
theorem Tp.f_law_turns (T : Tp K mg) : ∃ fd, FunD K "_law_turns" "_law_turns" (defArgs s_law_turns) (defBody s_law_turns) (defScope s_law_turns) [] [] (He.ga K "_law_turns") fd := T.says.def_ 42 (d := d_law_turns) rfl
theorem Tp.f_law (T : Tp K mg) : ∃ fd, FunD K "law" "law" (defArgs s_law) (defBody s_law) (defScope s_law) [] [] (He.ga K "law") fd := T.says.def_ 43 (d := d_law) rfl
theorem Tp.f_Tree_init (T : Tp K mg) : ∃ fd, FunD K "__init__" "Tree.__init__" (defArgs s_Tree_init) (defBody s_Tree_init) (defScope s_Tree_init) [] [] (He.ma K (He.ga K "Tree") "__init__") fd := T.says.def_ 44 (d := d_Tree_init) rfl
theorem Tp.f_Chart_init (T : Tp K mg) : ∃ fd, FunD K "__init__" "Chart.__init__" (defArgs s_Chart_init) (defBody s_Chart_init) (defScope s_Chart_init) [] [] (He.ma K (He.ga K "Chart") "__init__") fd := T.says.def_ 45 (d := d_Chart_init) rfl
theorem Tp.f_Table_init (T : Tp K mg) : ∃ fd, FunD K "__init__" "Table.__init__" (defArgs s_Table_init) (defBody s_Table_init) (defScope s_Table_init) [] [] (He.ma K (He.ga K "Table") "__init__") fd := T.says.def_ 46 (d := d_Table_init) rfl
theorem Tp.f_FlatRun_init (T : Tp K mg) : ∃ fd, FunD K "__init__" "FlatRun.__init__" (defArgs s_FlatRun_init) (defBody s_FlatRun_init) (defScope s_FlatRun_init) [] [] (He.ma K (He.ga K "FlatRun") "__init__") fd := T.says.def_ 47 (d := d_FlatRun_init) rfl
theorem Tp.f_FlatRun_script_of (T : Tp K mg) : ∃ fd, FunD K "script_of" "FlatRun.script_of" (defArgs s_FlatRun_script_of) (defBody s_FlatRun_script_of) (defScope s_FlatRun_script_of) [] [] (He.ma K (He.ga K "FlatRun") "script_of") fd := T.says.def_ 48 (d := d_FlatRun_script_of) rfl
theorem Tp.f_FlatRun_feed (T : Tp K mg) : ∃ fd, FunD K "feed" "FlatRun.feed" (defArgs s_FlatRun_feed) (defBody s_FlatRun_feed) (defScope s_FlatRun_feed) [] [] (He.ma K (He.ga K "FlatRun") "feed") fd := T.says.def_ 49 (d := d_FlatRun_feed) rfl
theorem Tp.f_FlatRun_put_back (T : Tp K mg) : ∃ fd, FunD K "put_back" "FlatRun.put_back" (defArgs s_FlatRun_put_back) (defBody s_FlatRun_put_back) (defScope s_FlatRun_put_back) [] [] (He.ma K (He.ga K "FlatRun") "put_back") fd := T.says.def_ 50 (d := d_FlatRun_put_back) rfl
theorem Tp.f_FlatRun_flat (T : Tp K mg) : ∃ fd, FunD K "flat" "FlatRun.flat" (defArgs s_FlatRun_flat) (defBody s_FlatRun_flat) (defScope s_FlatRun_flat) [] [] (He.ma K (He.ga K "FlatRun") "flat") fd := T.says.def_ 51 (d := d_FlatRun_flat) rfl
theorem Tp.f_NestRun_init (T : Tp K mg) : ∃ fd, FunD K "__init__" "NestRun.__init__" (defArgs s_NestRun_init) (defBody s_NestRun_init) (defScope s_NestRun_init) [] [] (He.ma K (He.ga K "NestRun") "__init__") fd := T.says.def_ 52 (d := d_NestRun_init) rfl
theorem Tp.f_NestRun_script_of (T : Tp K mg) : ∃ fd, FunD K "script_of" "NestRun.script_of" (defArgs s_NestRun_script_of) (defBody s_NestRun_script_of) (defScope s_NestRun_script_of) [] [] (He.ma K (He.ga K "NestRun") "script_of") fd := T.says.def_ 53 (d := d_NestRun_script_of) rfl
theorem Tp.f_NestRun_put_back (T : Tp K mg) : ∃ fd, FunD K "put_back" "NestRun.put_back" (defArgs s_NestRun_put_back) (defBody s_NestRun_put_back) (defScope s_NestRun_put_back) [] [] (He.ma K (He.ga K "NestRun") "put_back") fd := T.says.def_ 54 (d := d_NestRun_put_back) rfl
theorem Tp.f_NestRun_moods (T : Tp K mg) : ∃ fd, FunD K "moods" "NestRun.moods" (defArgs s_NestRun_moods) (defBody s_NestRun_moods) (defScope s_NestRun_moods) [] [] (He.ma K (He.ga K "NestRun") "moods") fd := T.says.def_ 55 (d := d_NestRun_moods) rfl
theorem Tp.f_FlatRun_do_script (T : Tp K mg) : ∃ fd, FunD K "do_script" "Runner.do_script" (defArgs s_Runner_do_script) (defBody s_Runner_do_script) (defScope s_Runner_do_script) [] [] (He.ma K (He.ga K "FlatRun") "do_script") fd := T.says.def_ 56 (d := d_FlatRun_do_script) rfl
theorem Tp.f_FlatRun_deal (T : Tp K mg) : ∃ fd, FunD K "deal" "Runner.deal" (defArgs s_Runner_deal) (defBody s_Runner_deal) (defScope s_Runner_deal) [] [] (He.ma K (He.ga K "FlatRun") "deal") fd := T.says.def_ 57 (d := d_FlatRun_deal) rfl
theorem Tp.f_FlatRun_begin_with (T : Tp K mg) : ∃ fd, FunD K "begin_with" "Runner.begin_with" (defArgs s_Runner_begin_with) (defBody s_Runner_begin_with) (defScope s_Runner_begin_with) [] [] (He.ma K (He.ga K "FlatRun") "begin_with") fd := T.says.def_ 58 (d := d_FlatRun_begin_with) rfl
theorem Tp.f_FlatRun_back (T : Tp K mg) : ∃ fd, FunD K "back" "Runner.back" (defArgs s_Runner_back) (defBody s_Runner_back) (defScope s_Runner_back) [] [] (He.ma K (He.ga K "FlatRun") "back") fd := T.says.def_ 59 (d := d_FlatRun_back) rfl
theorem Tp.f_FlatRun_fed (T : Tp K mg) : ∃ fd, FunD K "fed" "Runner.fed" (defArgs s_Runner_fed) (defBody s_Runner_fed) (defScope s_Runner_fed) [] [] (He.ma K (He.ga K "FlatRun") "fed") fd := T.says.def_ 60 (d := d_FlatRun_fed) rfl
theorem Tp.f_FlatRun_story (T : Tp K mg) : ∃ fd, FunD K "story" "Runner.story" (defArgs s_Runner_story) (defBody s_Runner_story) (defScope s_Runner_story) [] [] (He.ma K (He.ga K "FlatRun") "story") fd := T.says.def_ 61 (d := d_FlatRun_story) rfl
theorem Tp.f_FlatRun_numbers (T : Tp K mg) : ∃ fd, FunD K "numbers" "Runner.numbers" (defArgs s_Runner_numbers) (defBody s_Runner_numbers) (defScope s_Runner_numbers) [] [] (He.ma K (He.ga K "FlatRun") "numbers") fd := T.says.def_ 62 (d := d_FlatRun_numbers) rfl
theorem Tp.f_NestRun_do_script (T : Tp K mg) : ∃ fd, FunD K "do_script" "Runner.do_script" (defArgs s_Runner_do_script) (defBody s_Runner_do_script) (defScope s_Runner_do_script) [] [] (He.ma K (He.ga K "NestRun") "do_script") fd := T.says.def_ 63 (d := d_NestRun_do_script) rfl
theorem Tp.f_NestRun_deal (T : Tp K mg) : ∃ fd, FunD K "deal" "Runner.deal" (defArgs s_Runner_deal) (defBody s_Runner_deal) (defScope s_Runner_deal) [] [] (He.ma K (He.ga K "NestRun") "deal") fd := T.says.def_ 64 (d := d_NestRun_deal) rfl
theorem Tp.f_NestRun_begin_with (T : Tp K mg) : ∃ fd, FunD K "begin_with" "Runner.begin_with" (defArgs s_Runner_begin_with) (defBody s_Runner_begin_with) (defScope s_Runner_begin_with) [] [] (He.ma K (He.ga K "NestRun") "begin_with") fd := T.says.def_ 65 (d := d_NestRun_begin_with) rfl
theorem Tp.f_NestRun_feed (T : Tp K mg) : ∃ fd, FunD K "feed" "Runner.feed" (defArgs s_Runner_feed) (defBody s_Runner_feed) (defScope s_Runner_feed) [] [] (He.ma K (He.ga K "NestRun") "feed") fd := T.says.def_ 66 (d := d_NestRun_feed) rfl
theorem Tp.f_NestRun_back (T : Tp K mg) : ∃ fd, FunD K "back" "Runner.back" (defArgs s_Runner_back) (defBody s_Runner_back) (defScope s_Runner_back) [] [] (He.ma K (He.ga K "NestRun") "back") fd := T.says.def_ 67 (d := d_NestRun_back) rfl
theorem Tp.f_NestRun_fed (T : Tp K mg) : ∃ fd, FunD K "fed" "Runner.fed" (defArgs s_Runner_fed) (defBody s_Runner_fed) (defScope s_Runner_fed) [] [] (He.ma K (He.ga K "NestRun") "fed") fd := T.says.def_ 68 (d := d_NestRun_fed) rfl
theorem Tp.f_NestRun_story (T : Tp K mg) : ∃ fd, FunD K "story" "Runner.story" (defArgs s_Runner_story) (defBody s_Runner_story) (defScope s_Runner_story) [] [] (He.ma K (He.ga K "NestRun") "story") fd := T.says.def_ 69 (d := d_NestRun_story) rfl
theorem Tp.f_NestRun_numbers (T : Tp K mg) : ∃ fd, FunD K "numbers" "Runner.numbers" (defArgs s_Runner_numbers) (defBody s_Runner_numbers) (defScope s_Runner_numbers) [] [] (He.ma K (He.ga K "NestRun") "numbers") fd := T.says.def_ 70 (d := d_NestRun_numbers) rfl
theorem Tp.f_Runner_init (T : Tp K mg) : ∃ fd, FunD K "__init__" "Runner.__init__" (defArgs s_Runner_init) (defBody s_Runner_init) (defScope s_Runner_init) [] [] (He.ma K (He.ga K "Runner") "__init__") fd := T.says.def_ 71 (d := d_Runner_init) rfl
theorem Tp.f_Runner_feed (T : Tp K mg) : ∃ fd, FunD K "feed" "Runner.feed" (defArgs s_Runner_feed) (defBody s_Runner_feed) (defScope s_Runner_feed) [] [] (He.ma K (He.ga K "Runner") "feed") fd := T.says.def_ 72 (d := d_Runner_feed) rfl
/-- a def by its body -/
theorem mk_ok {x qual : Str} {st : Stmt} {f : Addr} {N ps : List Str} {k : Nat} {sp : Sp} (F : ∃ fd, FunD K x qual (defArgs st) (defBody st) (defScope st) [] [] f fd) (S : FnScope N ps (defScope st))
    (hb : ∀ (kV doc pm : Value) (an : Option Addr) (cdv ct : Value) (us : List Value), us.length = ps.length → bindArgs (PySem.W.fnOf x qual (defArgs st) (defBody st) (defScope st) .none kV doc pm an cdv ct) ⟨us, []⟩ = pure (ps.zip us))
    (len : ∀ vs H Q E, sp vs H Q E → vs.length = ps.length)
    (hbody : ∀ (cdv : Value) (A : Around) (outer : List Env) (s : Shared) (H : Hp) (vs : List V) (Q : VK) (E : XK), Room k (A.deeper (envOfC qual (defScope st) s.heap.objs.size f cdv)) → sp vs H Q E →
      ∃ t, PSs (cxOf CX0 P w K mg base N qual (defScope st) f cdv A outer s H E).nox (defBody st) t ∧ t { nx := fun _ H' => Q .non H', rt := Q } (start N vs) H) :
    ∃ fd, FnOk P w K mg base CX0 (k + 1) f fd ps sp ∧ Binds K fd ps [] ∧ PySem.W.keepIn K (.ref f) = true := by
  obtain ⟨fd, F⟩ := F
  refine ⟨fd, F.ok S len fun cdv A outer s H vs Q E hr hsp => ?_, F.bindsN hb, F.kp⟩
  obtain ⟨t, h, q⟩ := hbody cdv A outer s H vs Q E hr hsp
  exact ⟨t, h.nox, q⟩
theorem gfn {x : Str} {k : Nat} {ps : List Str} {sp : Sp} (g : mg x = some (.ref (He.ga K x))) (h : ∃ fd, FnOk P w K mg base CX0 k (He.ga K x) fd ps sp ∧ Binds K fd ps [] ∧ PySem.W.keepIn K (.ref (He.ga K x)) = true) : GFn P w K mg base k x ps sp := by
  obtain ⟨fd, a, b, c⟩ := h
  exact ⟨_, fd, g, c, a, b⟩
theorem gmt {C m : Str} {k : Nat} {ps : List Str} {sp : Sp} (c : Cls K (He.ga K C)) (g : Meth K (He.ga K C) m (He.ma K (He.ga K C) m)) (h : ∃ fd, FnOk P w K mg base CX0 k (He.ma K (He.ga K C) m) fd ps sp ∧ Binds K fd ps [] ∧ PySem.W.keepIn K (.ref (He.ma K (He.ga K C) m)) = true) :
    GMt P w K mg base k (He.ga K C) m ps sp := by
  obtain ⟨fd, a, b, _⟩ := h
  exact ⟨_, fd, c, g, a, b⟩
theorem gmk {C : Str} {k : Nat} {ps : List Str} {sp : Sp} (c : mg C = some (.ref (He.ga K C))) (g : L2.Mk K (He.ga K C) (He.ma K (He.ga K C) "__init__")) (h : ∃ fd, FnOk P w K mg base CX0 k (He.ma K (He.ga K C) "__init__") fd ps sp ∧ Binds K fd ps [] ∧ PySem.W.keepIn K (.ref (He.ma K (He.ga K C) "__init__")) = true) :
    GMk P w K mg base k C (He.ga K C) ps sp := by
  obtain ⟨fd, a, b, _⟩ := h
  exact ⟨_, fd, c, g, a, b⟩
theorem Tp.marks (T : Tp K mg) (H : Hp) : SqT K H (He.ga K "MARKS") [.str "out", .str "keep", .str "way", .str "in"] := He.tupB_ok (He.ba T.ext).1 H
theorem Tp.rread (T : Tp K mg) : ClX.CRead K (He.ga K "Runner") (.type "type") := by
  obtain ⟨_, h⟩ := He.ba T.ext
  obtain ⟨a, h⟩ := He.ba h
  obtain ⟨b, _⟩ := He.ba h
  exact ⟨a, of_decide_eq_true b⟩
theorem clsB_ok {m : Str} (h : clsB K m = true) : PySem.W.findCls K (.ref (He.ga K "Runner")) (.type "type") m = some (.val (.ref (He.ma K (He.ga K "Runner") m))) ∧ PySem.W.keepIn K (.ref (He.ma K (He.ga K "Runner") m)) = true := by
  obtain ⟨a, b⟩ := He.ba h
  refine ⟨?_, b⟩
  revert a
  cases PySem.W.findCls K (.ref (He.ga K "Runner")) (.type "type") m with
  | none => intro a; cases a
  | some r =>
    cases r with
    | val u => intro a; rw [of_decide_eq_true a]
    | _ => intro a; cases a
theorem Tp.rcls (T : Tp K mg) : clsB K "__init__" = true ∧ clsB K "feed" = true := by
  obtain ⟨_, h⟩ := He.ba T.ext
  obtain ⟨_, h⟩ := He.ba h
  obtain ⟨_, h⟩ := He.ba h
  exact He.ba h
theorem gcl {m : Str} {k : Nat} {ps : List Str} {sp : Sp} (T : Tp K mg) (c : clsB K m = true) (h : ∃ fd, FnOk P w K mg base CX0 k (He.ma K (He.ga K "Runner") m) fd ps sp ∧ Binds K fd ps [] ∧ PySem.W.keepIn K (.ref (He.ma K (He.ga K "Runner") m)) = true) :
    GCl P w K mg base k (He.ga K "Runner") m ps sp := by
  obtain ⟨fd, a, b, e⟩ := h
  exact ⟨_, fd, T.rread, (clsB_ok c).1, e, a, b⟩
end
end K56
set_option Elab.async false
set_option linter.all false
/-! the plain model: terms, asks, deeds, journal rows; a run by its script-giver; the table's and the chart's -/
namespace K56
open PySem
abbrev Tm := Int × Int
structure Ask where
  mrk : Str
  a : Tm
  b : Tm
inductive Mk where
  | out (i : Int) | keep (i j k : Int) | way (i : Int) | inn (i : Int)
inductive Dd where
  | mark (m : Mk) | put (b : Int) (t : Tm) | say (w : Str) (t : Tm) | call (s : Str)
inductive Jr where
  | mark (m : Mk) | put (b x y : Int) | call (s : Str) | say (w : Str) (n : Int) | sign (s : Str) | rest (n : Int)
structure Rw where
  asks : List Ask
  scr : List Dd
  nxt : Nat
structure Wy where
  src : Nat
  sign : Str
  asks : List Ask
  deeds : List Dd
  tgt : Nat
def val (t : Tm) (bx : List Int) : Int := if t.1 = -1 then t.2 else bx.getD t.1.toNat 0 + t.2
def hold (a : Ask) (bx : List Int) : Bool :=
  if a.mrk = ("<" : Str) then decide (val a.a bx < val a.b bx) else if a.mrk = ("<=" : Str) then decide (val a.a bx ≤ val a.b bx)
  else if a.mrk = ("=" : Str) then decide (val a.a bx = val a.b bx) else !decide (val a.a bx = val a.b bx)
def allHold (as : List Ask) (bx : List Int) : Bool := as.all fun a => hold a bx
def Dd.told : Dd → Bool
  | .mark _ => false
  | _ => true
def Jr.told : Jr → Bool
  | .mark _ => false
  | _ => true
def done1 : Dd → List Int → List Int × Jr
  | .mark m, bx => (bx, .mark m)
  | .put b t, bx => (bx.set b.toNat (val t bx), .put b (bx.getD b.toNat 0) (val t bx))
  | .say w t, bx => (bx, .say w (val t bx))
  | .call s, bx => (bx, .call s)
def Dd.calls : Dd → List Str
  | .call s => [s]
  | _ => []
abbrev Pf := List Int × List Jr × List Str
def perf1 (q : Pf) (d : Dd) : Pf := ((done1 d q.1).1, q.2.1 ++ [(done1 d q.1).2], q.2.2 ++ d.calls)
def perf (ds : List Dd) (bx : List Int) : Pf := ds.foldl perf1 (bx, [], [])
def tolds (ds : List Dd) : List Dd := ds.filter Dd.told
def toldJ (js : List Jr) : List Jr := js.filter Jr.told
/-- a script-giver: from the place, the numbers and a sign to a script and the next place -/
abbrev Giver := Nat → List Int → Str → List Dd × Nat
abbrev Ds := Nat × List Int × List Jr × List Str
def dstep (so : Giver) : Ds → Ds
  | (p, bx, rows, []) => (p, bx, rows, [])
  | (p, bx, rows, sg :: wt) => ((so p bx sg).2, (perf (so p bx sg).1 bx).1, rows ++ [.sign sg] ++ (perf (so p bx sg).1 bx).2.1, wt ++ (perf (so p bx sg).1 bx).2.2)
def dealN (so : Giver) : Nat → Ds → Ds
  | 0, x => x
  | n + 1, x => dstep so (dealN so n x)
def restOf (wt : List Str) : List Jr := if wt.isEmpty then [] else [.rest wt.length]
/-- place, numbers, rows -/
def deal (so : Giver) (p : Nat) (bx : List Int) (rows : List Jr) (wt : List Str) : Nat × List Int × List Jr :=
  ((dealN so 8 (p, bx, rows, wt)).1, (dealN so 8 (p, bx, rows, wt)).2.1, (dealN so 8 (p, bx, rows, wt)).2.2.1 ++ restOf (dealN so 8 (p, bx, rows, wt)).2.2.2)
def undo1 (bx : List Int) : Jr → List Int
  | .put b x _ => bx.set b.toNat x
  | _ => bx
def undo (js : List Jr) (bx : List Int) : List Int := js.reverse.foldl undo1 bx
/-! ### told rows are told alike -/
theorem perf1_mark (q : Pf) (m : Mk) : perf1 q (.mark m) = (q.1, q.2.1 ++ [.mark m], q.2.2) := by
  unfold perf1 done1 Dd.calls
  simp
theorem told_done (d : Dd) (bx : List Int) : (done1 d bx).2.told = d.told := by cases d <;> rfl
theorem perf_tolds (ds : List Dd) : ∀ q q' : Pf, q.1 = q'.1 → q.2.2 = q'.2.2 → toldJ q.2.1 = toldJ q'.2.1 →
    (ds.foldl perf1 q).1 = ((tolds ds).foldl perf1 q').1 ∧ (ds.foldl perf1 q).2.2 = ((tolds ds).foldl perf1 q').2.2 ∧ toldJ (ds.foldl perf1 q).2.1 = toldJ ((tolds ds).foldl perf1 q').2.1 := by
  induction ds with
  | nil => intro q q' a b c; exact ⟨a, b, c⟩
  | cons d ds ih =>
    intro q q' a b c
    by_cases h : d.told = true
    · have e : tolds (d :: ds) = d :: tolds ds := by unfold tolds; rw [List.filter_cons, if_pos h]
      rw [e, List.foldl_cons, List.foldl_cons]
      refine ih _ _ ?_ ?_ ?_
      · unfold perf1; rw [a]
      · unfold perf1; rw [b]
      · unfold perf1 toldJ
        unfold toldJ at c
        rw [List.filter_append, List.filter_append, c, a]
    · have e : tolds (d :: ds) = tolds ds := by unfold tolds; rw [List.filter_cons, if_neg h]
      rw [e, List.foldl_cons]
      cases d with
      | mark m =>
        refine ih _ _ ?_ ?_ ?_
        · rw [perf1_mark]; exact a
        · rw [perf1_mark]; exact b
        · rw [perf1_mark]
          unfold toldJ
          unfold toldJ at c
          rw [List.filter_append, c]
          simp [Jr.told]
      | _ => exact absurd rfl h
theorem perf_same {ds es : List Dd} (h : tolds ds = tolds es) (bx : List Int) : (perf ds bx).1 = (perf es bx).1 ∧ (perf ds bx).2.2 = (perf es bx).2.2 ∧ toldJ (perf ds bx).2.1 = toldJ (perf es bx).2.1 := by
  obtain ⟨a, b, c⟩ := perf_tolds ds (bx, [], []) (bx, [], []) rfl rfl rfl
  obtain ⟨a', b', c'⟩ := perf_tolds es (bx, [], []) (bx, [], []) rfl rfl rfl
  unfold perf
  rw [h] at a b c
  exact ⟨a.trans a'.symm, b.trans b'.symm, c.trans c'.symm⟩
/-- two givers that tell alike from each place below n and numbers of length m -/
def Alike (n m : Nat) (f g : Giver) : Prop := ∀ p bx s, p < n → bx.length = m → (f p bx s).2 = (g p bx s).2 ∧ (f p bx s).2 < n ∧ tolds (f p bx s).1 = tolds (g p bx s).1
theorem perf_len (ds : List Dd) : ∀ q : Pf, (ds.foldl perf1 q).1.length = q.1.length := by
  induction ds with
  | nil => intro q; rfl
  | cons d ds ih =>
    intro q
    rw [List.foldl_cons, ih]
    unfold perf1
    cases d <;> simp [done1]
def DsLike (n m : Nat) (x y : Ds) : Prop := x.1 = y.1 ∧ x.1 < n ∧ x.2.1 = y.2.1 ∧ x.2.1.length = m ∧ toldJ x.2.2.1 = toldJ y.2.2.1 ∧ x.2.2.2 = y.2.2.2
theorem dstep_like {n m : Nat} {f g : Giver} (h : Alike n m f g) {x y : Ds} (k : DsLike n m x y) : DsLike n m (dstep f x) (dstep g y) := by
  obtain ⟨p, bx, rows, wt⟩ := x
  obtain ⟨p', bx', rows', wt'⟩ := y
  obtain ⟨a, b, c, d, e, w⟩ := k
  dsimp only at a b c d e w
  subst a c w
  cases wt with
  | nil => exact ⟨rfl, b, rfl, d, e, rfl⟩
  | cons sg wt =>
    obtain ⟨h1, h2, h3⟩ := h p bx sg b d
    obtain ⟨p1, p2, p3⟩ := perf_same h3 bx
    refine ⟨h1, h2, p1, ?_, ?_, ?_⟩
    · show (perf _ bx).1.length = m
      unfold perf
      rw [perf_len]
      exact d
    · show toldJ (rows ++ [.sign sg] ++ _) = toldJ (rows' ++ [.sign sg] ++ _)
      unfold toldJ at e p3 ⊢
      rw [List.filter_append, List.filter_append, List.filter_append, List.filter_append, e, p3]
    · show wt ++ _ = wt ++ _
      rw [p2]
theorem dealN_like {n m : Nat} {f g : Giver} (h : Alike n m f g) {x y : Ds} (k : DsLike n m x y) : ∀ j : Nat, DsLike n m (dealN f j x) (dealN g j y)
  | 0 => k
  | j + 1 => dstep_like h (dealN_like h k j)
theorem deal_like {n m : Nat} {f g : Giver} (h : Alike n m f g) {p : Nat} {bx : List Int} {rows rows' : List Jr} {wt : List Str} (hp : p < n) (hb : bx.length = m) (hr : toldJ rows = toldJ rows') :
    (deal f p bx rows wt).1 = (deal g p bx rows' wt).1 ∧ (deal f p bx rows wt).1 < n ∧ (deal f p bx rows wt).2.1 = (deal g p bx rows' wt).2.1 ∧ (deal f p bx rows wt).2.1.length = m ∧
      toldJ (deal f p bx rows wt).2.2 = toldJ (deal g p bx rows' wt).2.2 := by
  have k := dealN_like h (x := (p, bx, rows, wt)) (y := (p, bx, rows', wt)) ⟨rfl, hp, rfl, hb, hr, rfl⟩ 8
  unfold deal
  generalize dealN f 8 (p, bx, rows, wt) = x at k
  generalize dealN g 8 (p, bx, rows', wt) = y at k
  obtain ⟨a, b, c, d, e, w⟩ := k
  refine ⟨a, b, c, d, ?_⟩
  dsimp only
  unfold toldJ at e ⊢
  rw [List.filter_append, List.filter_append, e, w]
theorem undo_told (js : List Jr) : ∀ bx : List Int, js.foldl undo1 bx = (toldJ js).foldl undo1 bx := by
  induction js with
  | nil => intro bx; rfl
  | cons j js ih =>
    intro bx
    unfold toldJ
    rw [List.filter_cons]
    by_cases h : j.told = true
    · rw [if_pos h, List.foldl_cons, List.foldl_cons, ih]
      rfl
    · rw [if_neg h, List.foldl_cons, ih]
      cases j <;> first | rfl | exact absurd rfl h
theorem undo_like {js ks : List Jr} (h : toldJ js = toldJ ks) (bx : List Int) : undo js bx = undo ks bx := by
  unfold undo
  rw [undo_told, undo_told ks.reverse]
  unfold toldJ at h ⊢
  rw [List.filter_reverse, List.filter_reverse, h]
theorem undo_len (js : List Jr) : ∀ bx : List Int, (js.foldl undo1 bx).length = bx.length := by
  induction js with
  | nil => intro bx; rfl
  | cons j js ih =>
    intro bx
    rw [List.foldl_cons, ih]
    cases j <;> simp [undo1]
/-! ### the table -/
structure Tab where
  nf : Nat
  heard : List Str
  rows : Nat → Str → List Rw
def soF (T : Tab) : Giver := fun p bx s =>
  match (if s ∈ T.heard then T.rows p s else []).find? fun r => allHold r.asks bx with
  | some r => (r.scr, r.nxt)
  | none => ([], p)
def idle (p : Nat) (n : Nat) (r : Rw) (i : Nat) : Bool := decide (i + 1 = n) && (r.asks.isEmpty && ((tolds r.scr).isEmpty && decide (r.nxt = p)))
/-- the ways of a flat and a sign: from the rows, all but the idle end -/
def wyOf (p : Nat) (s : Str) (r : Rw) : Wy := ⟨p + 1, s, r.asks, tolds r.scr, r.nxt + 1⟩
def wysS (T : Tab) (p : Nat) (s : Str) : List Wy := (T.rows p s).zipIdx.filterMap fun x => if idle p (T.rows p s).length x.1 x.2 then none else some (wyOf p s x.1)
def wysF (T : Tab) (p : Nat) : List Wy := T.heard.flatMap (wysS T p)
def wysT (T : Tab) : List Wy := (List.range T.nf).flatMap (wysF T)
def goes (p : Nat) (s : Str) (bx : List Int) (w : Wy) : Bool := decide (w.src = p + 1) && (decide (w.sign = s) && allHold w.asks bx)
/-- the number of the first way that goes -/
def pick (ws : List Wy) (p : Nat) (bx : List Int) (s : Str) : Option Nat := ws.findIdx? (goes p s bx)
def scrN (n : Nat) (p : Nat) (w : Wy) : List Dd := .mark (.out (p + 1 : Nat)) :: .mark (.way n) :: (w.deeds ++ [.mark (.inn w.tgt)])
def soN (ws : List Wy) : Giver := fun p bx s =>
  match pick ws p bx s with
  | none => ([], p)
  | some n => match ws[n]? with
    | none => ([], p)
    | some w => (scrN n p w, w.tgt - 1)
theorem pick_find (ws : List Wy) (p : Nat) (bx : List Int) (s : Str) : (pick ws p bx s = none ∧ ws.find? (goes p s bx) = none) ∨ ∃ n w, pick ws p bx s = some n ∧ ws[n]? = some w ∧ ws.find? (goes p s bx) = some w := by
  unfold pick
  induction ws with
  | nil => exact .inl ⟨rfl, rfl⟩
  | cons w ws ih =>
    rw [List.findIdx?_cons, List.find?_cons]
    by_cases h : goes p s bx w = true
    · rw [if_pos h, h]
      exact .inr ⟨0, w, rfl, rfl, rfl⟩
    · rw [if_neg h]
      have h' : goes p s bx w = false := by cases e : goes p s bx w with
        | false => rfl
        | true => exact absurd e h
      rw [h']
      rcases ih with ⟨a, b⟩ | ⟨n, v, a, b, c⟩
      · exact .inl ⟨by rw [a]; rfl, b⟩
      · exact .inr ⟨n + 1, v, by rw [a]; rfl, by simpa using b, c⟩
theorem tolds_idem (ds : List Dd) : tolds (tolds ds) = tolds ds := by
  unfold tolds
  rw [List.filter_filter]
  simp
theorem tolds_scrN (n p : Nat) (w : Wy) : tolds (scrN n p w) = tolds w.deeds := by
  unfold scrN tolds
  rw [List.filter_cons, if_neg (by simp [Dd.told]), List.filter_cons, if_neg (by simp [Dd.told]), List.filter_append]
  simp [Dd.told]
theorem find_flat {α β : Type} [DecidableEq α] (pr : β → Bool) (g : α → List β) (x : α) : ∀ l : List α, (∀ y ∈ l, y ≠ x → ∀ z ∈ g y, pr z = false) → (l.flatMap g).find? pr = if x ∈ l then (g x).find? pr else none := by
  intro l
  induction l with
  | nil => intro _; rw [if_neg (by simp)]; rfl
  | cons y l ih =>
    intro h
    have ih := ih fun z hz => h z (List.mem_cons_of_mem _ hz)
    rw [List.flatMap_cons, List.find?_append, ih]
    by_cases e : y = x
    · subst e
      rw [if_pos List.mem_cons_self]
      cases (g y).find? pr with
      | some z => rfl
      | none => split <;> rfl
    · have hn : (g y).find? pr = none := List.find?_eq_none.mpr fun z hz q => by rw [h y List.mem_cons_self e z hz] at q; cases q
      rw [hn]
      show (if x ∈ l then _ else _) = _
      by_cases hm : x ∈ l
      · rw [if_pos hm, if_pos (List.mem_cons_of_mem _ hm)]
      · rw [if_neg hm, if_neg fun q => (List.mem_cons.mp q).elim (fun q => e q.symm) hm]
theorem mem_wysS {T : Tab} {p : Nat} {s : Str} {w : Wy} (h : w ∈ wysS T p s) : w.src = p + 1 ∧ w.sign = s := by
  unfold wysS at h
  obtain ⟨x, _, e⟩ := List.mem_filterMap.mp h
  split at e
  · cases e
  · cases e
    exact ⟨rfl, rfl⟩
theorem goes_off {p q : Nat} {s : Str} {bx : List Int} {w : Wy} (h : w.src = q + 1) (hn : q ≠ p) : goes p s bx w = false := by
  unfold goes
  rw [decide_eq_false (show ¬ w.src = p + 1 by omega)]
  rfl
theorem goes_sign {p : Nat} {s t : Str} {bx : List Int} {w : Wy} (h : w.sign = t) (hn : t ≠ s) : goes p s bx w = false := by
  unfold goes
  rw [decide_eq_false (show ¬ w.sign = s by rw [h]; exact hn), Bool.false_and, Bool.and_false]
theorem find_wysT (T : Tab) {p : Nat} (hp : p < T.nf) (bx : List Int) (s : Str) : (wysT T).find? (goes p s bx) = if s ∈ T.heard then (wysS T p s).find? (goes p s bx) else none := by
  unfold wysT
  have e := find_flat (goes p s bx) (wysF T) p (List.range T.nf) fun q _ hq w hw => by
    obtain ⟨t, _, hw⟩ := List.mem_flatMap.mp hw
    exact goes_off (mem_wysS hw).1 hq
  rw [e, if_pos (List.mem_range.mpr hp)]
  unfold wysF
  exact find_flat (goes p s bx) (wysS T p) s T.heard fun t _ ht w hw => goes_sign (mem_wysS hw).2 ht
/-- the rows' first one that holds and the ways' first one that goes -/
theorem find_rows (p N : Nat) (s : Str) (bx : List Int) : ∀ (l : List Rw) (i : Nat), i + l.length = N →
    (∃ r, l.find? (fun r => allHold r.asks bx) = some r ∧ (((l.zipIdx i).filterMap fun x => if idle p N x.1 x.2 then none else some (wyOf p s x.1)).find? (goes p s bx) = some (wyOf p s r) ∨
        (((l.zipIdx i).filterMap fun x => if idle p N x.1 x.2 then none else some (wyOf p s x.1)).find? (goes p s bx) = none ∧ tolds r.scr = [] ∧ r.nxt = p))) ∨
      (l.find? (fun r => allHold r.asks bx) = none ∧ ((l.zipIdx i).filterMap fun x => if idle p N x.1 x.2 then none else some (wyOf p s x.1)).find? (goes p s bx) = none) := by
  intro l
  induction l with
  | nil => intro i _; exact .inr ⟨rfl, rfl⟩
  | cons r l ih =>
    intro i hi
    have hl : i + 1 + l.length = N := by rw [List.length_cons] at hi; omega
    have ih := ih (i + 1) hl
    rw [List.zipIdx_cons, List.filterMap_cons]
    have eg : goes p s bx (wyOf p s r) = allHold r.asks bx := by
      unfold goes wyOf
      simp
    by_cases hd : idle p N r i = true
    · dsimp only
      rw [if_pos hd]
      unfold idle at hd
      simp only [Bool.and_eq_true, decide_eq_true_eq, List.isEmpty_iff] at hd
      obtain ⟨h1, h2, h3, h4⟩ := hd
      have e0 : l = [] := List.eq_nil_of_length_eq_zero (by omega)
      subst e0
      refine .inl ⟨r, ?_, .inr ⟨rfl, h3, h4⟩⟩
      rw [List.find?_cons]
      have : allHold r.asks bx = true := by rw [h2]; rfl
      rw [this]
    · dsimp only
      rw [if_neg hd]
      dsimp only
      rw [List.find?_cons, List.find?_cons, eg]
      cases hh : allHold r.asks bx with
      | true => exact .inl ⟨r, rfl, .inl rfl⟩
      | false => exact ih
theorem alike_FN {T : Tab} {m : Nat} (hn : ∀ p s r, p < T.nf → s ∈ T.heard → r ∈ T.rows p s → r.nxt < T.nf) : Alike T.nf m (soF T) (soN (wysT T)) := by
  intro p bx s hp hb
  have hf := find_wysT T hp bx s
  have key : ∀ o : Option Wy, (wysT T).find? (goes p s bx) = o → soN (wysT T) p bx s = (match o with
      | none => (([], p) : List Dd × Nat)
      | some w => (scrN ((pick (wysT T) p bx s).getD 0) p w, w.tgt - 1)) := by
    intro o ho
    unfold soN
    rcases pick_find (wysT T) p bx s with ⟨a, b⟩ | ⟨n, w, a, b, c⟩
    · rw [b] at ho
      subst ho
      rw [a]
    · rw [c] at ho
      subst ho
      rw [a]
      dsimp only
      rw [b]
      rfl
  by_cases hs : s ∈ T.heard
  · rw [if_pos hs] at hf
    have hr := find_rows p (T.rows p s).length s bx (T.rows p s) 0 (by omega)
    unfold soF
    rw [if_pos hs]
    rcases hr with ⟨r, h1, h2 | ⟨h2, h3, h4⟩⟩ | ⟨h1, h2⟩
    · rw [h1, key _ (hf.trans h2)]
      refine ⟨?_, hn p s r hp hs (List.mem_of_find?_eq_some h1), ?_⟩
      · show r.nxt = (wyOf p s r).tgt - 1
        rfl
      · show tolds r.scr = tolds (scrN _ p (wyOf p s r))
        rw [tolds_scrN]
        exact (tolds_idem _).symm
    · rw [h1, key _ (hf.trans h2)]
      exact ⟨h4, hn p s r hp hs (List.mem_of_find?_eq_some h1), h3⟩
    · rw [h1, key _ (hf.trans h2)]
      exact ⟨rfl, hp, rfl⟩
  · rw [if_neg hs] at hf
    unfold soF
    rw [if_neg hs, key _ hf]
    exact ⟨rfl, hp, rfl⟩
end K56
set_option Elab.async false
set_option linter.all false
set_option maxRecDepth 100000
set_option maxHeartbeats 4000000
/-! sorted(xs, key=f) of one item or none -/
namespace K56
open PySem PySem.Spec PyProof.Rows L2
section
variable {prog : Program} {w : World} {A : Around} {E : Value → Shared → Prop} {s : Shared}
/-- what is left of a sort by key of one item or none, behind the keys -/
theorem key_end {a kS : Addr} {vs keys : List Value} {n e1 : Nat} {P : PySem.Fin → Shared → Prop} (hl : vs.length ≤ 1) (hk : keys.length = vs.length) (nk : s.heap.get? kS = some (seqObj "list" keys.toArray n)) (na : s.heap.get? a = some (seqObj "list" #[] e1)) (hka : kS ≠ a)
    (h : ∀ h' tk c o, (∀ b u, b ≠ a → b ≠ kS → s.heap.get? b = some u → h'.get? b = some u) → h'.get? a = some (seqObj "list" vs.toArray c) → h'.get? kS = some o → P (.done (.ret .none)) { s with heap := h', toks := tk }) :
    wpAny (model prog w) A (ksk_end a false vs.toArray e1 (.ref kS) keys.toArray) P E s := by
  have hsz : vs.toArray.size < 2 := by
    rw [List.size_toArray]
    omega
  unfold ksk_end
  try dsimp only
  rw [if_neg (show ¬ false = true from Bool.false_ne_true), if_pos hsz, if_pos hsz]
  refine wpAny_bind (wpAny_pure ?_)
  rw [StateT.run_pure]
  refine wpAny_bind (wpAny_pure ?_)
  try dsimp only
  unfold ksk_tail
  try dsimp only
  have na1 : (s.heap.update kS (Obj.mapSeq fun _ => (#[] : Array Value))).get? a = some (seqObj "list" #[] e1) := (Heap.get?_update_ne _ _ _ _ hka.symm).trans na
  have hout : ((arrOf (SortSt.mk' general' (if false = true then (keys.toArray.zip vs.toArray).reverse else keys.toArray.zip vs.toArray) #[] 7 none)).map (·.2)) = vs.toArray := by
    show (keys.toArray.zip vs.toArray).map (·.2) = vs.toArray
    match vs, keys, hl, hk with
    | [], [], _, _ => simp
    | [v], [k], _, _ => simp
    | _ :: _ :: _, _, h, _ => simp at h
    | [], _ :: _, _, h => simp at h
    | [_], [], _, h => simp at h
    | [_], _ :: _ :: _, _, h => simp at h
  rw [hout]
  have hk1 : keys.toArray.size ≤ sizeLine := by
    rw [List.size_toArray]
    exact Nat.le_trans (by omega) (show 1 ≤ sizeLine by decide)
  have hv1 : vs.toArray.size ≤ sizeLine + 1 := by
    rw [List.size_toArray]
    exact Nat.le_trans (by omega) (show 1 ≤ sizeLine + 1 by decide)
  refine wpAny_bind (listUpdate_at nk rfl ?_ hk1 (Nat.zero_le _))
  refine wpAny_bind (wpAny_letGo ?_)
  refine wpAny_bind (seqEpoch_at na1 rfl ?_)
  refine wpAny_bind (listUpdate_at na1 rfl ?_ (Nat.zero_le _) hv1)
  simp only [bne_self_eq_false, Bool.false_eq_true, if_false]
  obtain ⟨c2, hc2⟩ : ∃ c2, ((s.heap.update kS (Obj.mapSeq fun _ => (#[] : Array Value))).update a (Obj.mapSeq fun _ => vs.toArray)).get? a = some (seqObj "list" vs.toArray c2) := ⟨_, get?_update_seq na1 fun _ => vs.toArray⟩
  obtain ⟨c3, hc3⟩ : ∃ c3, (s.heap.update kS (Obj.mapSeq fun _ => (#[] : Array Value))).get? kS = some (seqObj "list" #[] c3) := ⟨_, get?_update_seq nk fun _ => #[]⟩
  refine wpAny_pure (h _ _ c2 _ (fun b u h1 h2 e => ?_) hc2 ((Heap.get?_update_ne _ _ _ _ hka).trans hc3))
  rw [Heap.get?_update_ne _ _ _ _ h1, Heap.get?_update_ne _ _ _ _ h2]
  exact e
/-- sorted(l, key=f): l has one item or none; turn: the call f(x) while the list at a and the keys' at kS are new and empty -/
theorem sorted_few {l f : Addr} {vs : List Value} {Q : Value → Shared → Prop} (hl : s.heap.IsList l vs.toArray) (h1 : vs.length ≤ 1)
    (turn : ∀ (h : Heap) (a kS : Addr) (e1 : Nat), (∀ b o, s.heap.get? b = some o → h.get? b = some o) → s.heap.objs.size ≤ a → s.heap.objs.size ≤ kS → kS ≠ a → h.get? a = some (seqObj "list" #[] e1) → h.get? kS = some (seqObj "list" #[] 0) →
      (vs = [] → ∀ h4 tk c o, (∀ b u, b ≠ a → b ≠ kS → h.get? b = some u → h4.get? b = some u) → h4.get? a = some (seqObj "list" vs.toArray c) → h4.get? kS = some o → Q (.ref a) { s with heap := h4, toks := tk }) ∧
      ∀ u, vs = [u] → wpAny (model prog w) A.in1.in1 (call (.ref f) [u]) (fun _ s' => s'.heap.get? a = some (seqObj "list" #[] e1) ∧ s'.heap.get? kS = some (seqObj "list" #[] 0) ∧
        ∀ h4 tk c o, (∀ b u, b ≠ a → b ≠ kS → s'.heap.get? b = some u → h4.get? b = some u) → h4.get? a = some (seqObj "list" vs.toArray c) → h4.get? kS = some o → Q (.ref a) { s' with heap := h4, toks := tk }) (fun _ _ => False) { s with heap := h }) :
    wpAny (model prog w) A (call (.builtin "sorted") [.ref l] [(Str.ofString "key", .ref f)]) Q E s := by
  have hz : vs.length ≤ sizeLine := Nat.le_trans h1 (by decide)
  refine call_function_entry_kw kind_sorted plain_sorted entry_sorted (ksk_s1 _ _) ?_
  unfold Builtin.«sorted»
  refine wpAny_bind (m := checkCount "sorted" 1 1 _) (wpAny_pure ?_)
  refine wpAny_bind (collect_list hl ?_ hz)
  refine wpAny_bind (wpAny_newList ?_ hz)
  generalize hg : (s.heap.push (seqObj "list" #[] 0)).update s.heap.objs.size (Obj.mapSeq (· ++ vs.toArray)) = g
  have hsz : g.objs.size = s.heap.objs.size + 1 := by
    rw [← hg, Heap.size_update, size_push']
  have kg : ∀ b o, s.heap.get? b = some o → g.get? b = some o := fun b o e => by
    rw [← hg, Heap.get?_update_ne _ _ _ _ (Nat.ne_of_lt (Heap.lt_size e))]
    exact Heap.get?_push_of_some _ e
  show wpAny _ _ _ _ _ { s with heap := g.push (seqObj "list" vs.toArray 0) }
  have ho : (g.push (seqObj "list" vs.toArray 0)).get? g.objs.size = some (seqObj "list" vs.toArray 0) := Heap.get?_push_size _ rfl
  refine wpAny_bind (wpAny_holding (wpAny_call_entry_kw slot_list_sort ⟨_, ho, rfl⟩ entry_list_sort ?body (ksk_l1 _ _)))
  case body =>
    show wpAny (model prog w) A.in1.in1 (Builtin.«list.sort» ⟨[.ref g.objs.size], [(Str.ofString "key", .ref f)]⟩) _ _ _
    rw [ksk_t1]
    generalize hh : g.push (seqObj "list" vs.toArray 0) = h0
    rw [hh] at ho
    have k0 : ∀ b o, s.heap.get? b = some o → h0.get? b = some o := fun b o e => by
      rw [← hh]
      exact Heap.get?_push_of_some _ (kg b o e)
    obtain ⟨e1, ho1⟩ : ∃ e1, (h0.update g.objs.size (Obj.mapSeq fun _ => (#[] : Array Value))).get? g.objs.size = some (seqObj "list" #[] e1) := ⟨_, get?_update_seq ho fun _ => #[]⟩
    unfold ksk_tree
    refine wpAny_bind (listItems_at ho rfl ?_)
    refine wpAny_bind (listUpdate_at ho rfl ?_ (by rw [List.size_toArray]; exact hz) (Nat.zero_le _))
    refine wpAny_bind (seqEpoch_at ho1 rfl ?_)
    refine wpAny_bind (wpAny_newTuple ?_ (by show vs.length ≤ _; exact hz))
    refine wpAny_bind (wpAny_newList ?_ (Nat.zero_le _))
    refine wpAny_holding ?_
    generalize hh1 : (h0.update g.objs.size (Obj.mapSeq fun _ => (#[] : Array Value))).push (seqObj "tuple" vs.toArray 0) = h1'
    have hs1 : h1'.objs.size = h0.objs.size + 1 := by rw [← hh1, size_push', Heap.size_update]
    have hs0 : h0.objs.size = g.objs.size + 1 := by rw [← hh, size_push']
    have ho2 : h1'.get? g.objs.size = some (seqObj "list" #[] e1) := by
      rw [← hh1]
      exact Heap.get?_push_of_some _ ho1
    have k1 : ∀ b o, s.heap.get? b = some o → h1'.get? b = some o := fun b o e => by
      have hb : b ≠ g.objs.size := by
        have := Heap.lt_size e
        intro z
        rw [z, hsz] at this
        exact absurd this (Nat.not_lt.mpr (Nat.le_succ _))
      rw [← hh1]
      refine Heap.get?_push_of_some _ ?_
      rw [Heap.get?_update_ne _ _ _ _ hb]
      exact k0 b o e
    show wpAny _ _ (ksk_rest g.objs.size (.ref f) false vs.toArray e1 (.ref h1'.objs.size)) _ _ { s with heap := h1'.push (seqObj "list" #[] 0) }
    have nk : (h1'.push (seqObj "list" #[] 0)).get? h1'.objs.size = some (seqObj "list" #[] 0) := Heap.get?_push_size _ rfl
    have na : (h1'.push (seqObj "list" #[] 0)).get? g.objs.size = some (seqObj "list" #[] e1) := Heap.get?_push_of_some _ ho2
    have hka : h1'.objs.size ≠ g.objs.size := by omega
    have z1 : s.heap.objs.size ≤ g.objs.size := by omega
    have z2 : s.heap.objs.size ≤ h1'.objs.size := by omega
    obtain ⟨T0, T1⟩ := turn (h1'.push (seqObj "list" #[] 0)) g.objs.size h1'.objs.size e1 (fun b o e => Heap.get?_push_of_some _ (k1 b o e)) z1 z2 hka na nk
    unfold ksk_rest
    refine wpAny_bind (wpAny_rule ?_)
    rw [List.forIn_toArray]
    match vs, h1 with
    | [], _ =>
      rw [List.forIn_nil]
      refine wpAny_bind (wpAny_pure ?_)
      refine wpAny_bind (listItems_at nk rfl ?_)
      refine key_end (vs := []) (keys := []) (by simp) rfl nk na hka fun h4 tk c o kk n4 o4 => ⟨_, rfl, ?_⟩
      exact wpAny_pure ⟨_, rfl, T0 rfl h4 tk c o kk n4 o4⟩
    | [u], _ =>
      rw [List.forIn_cons]
      refine wpAny_bind (wpAny_bind (wpAny_bind (wpAny_attempt (wpAny_mono (T1 u rfl) (fun v s' q => ?_) fun _ _ z => z.elim))))
      obtain ⟨q1, q2, q3⟩ := q
      try dsimp only
      refine wpAny_bind (listUpdate_at q2 rfl ?_ (Nat.zero_le _) (by simp))
      refine wpAny_pure ?_
      try dsimp only
      rw [List.forIn_nil]
      refine wpAny_pure ?_
      obtain ⟨c2, hc2⟩ : ∃ c2, (s'.heap.update h1'.objs.size (Obj.mapSeq (·.push v))).get? h1'.objs.size = some (seqObj "list" #[v] c2) := ⟨_, get?_update_seq q2 (·.push v)⟩
      have q1' : (s'.heap.update h1'.objs.size (Obj.mapSeq (·.push v))).get? g.objs.size = some (seqObj "list" #[] e1) := (Heap.get?_update_ne _ _ _ _ hka.symm).trans q1
      refine wpAny_bind (listItems_at hc2 rfl ?_)
      refine key_end (vs := [u]) (keys := [v]) (by simp) rfl hc2 q1' hka fun h4 tk c o kk n4 o4 => ⟨_, rfl, ?_⟩
      refine wpAny_pure ⟨_, rfl, q3 h4 tk c o (fun b x b1 b2 e => kk b x b1 b2 ?_) n4 o4⟩
      rw [Heap.get?_update_ne _ _ _ _ b2]
      exact e
    | _ :: _ :: _, z => simp at z
end
end K56
set_option Elab.async false
set_option linter.all false
set_option maxRecDepth 100000
set_option maxHeartbeats 4000000
/-! sorted(xs, key=lambda one: ..) of one item or none, the lambda made on the way -/
namespace K56
open PySem PySem.Spec PyProof.Rows L2
section
variable {X : Cx} {pins : List (Addr × Obj)} {σ : L2.St} {H : Hp} {s : Shared}
/-- two untracked records of ours have turned, and the one at a is tracked from now on -/
theorem adopt {a kS : Addr} {o : HO} {h' : Heap} {tk : Nat} (I : Inv X pins σ H s) (fa : FpOk X pins H a) (fk : FpOk X pins H kS)
    (keep : ∀ b u, b ≠ a → b ≠ kS → s.heap.get? b = some u → h'.get? b = some u) (ea : ∃ u, h'.get? a = some u) (ek : ∃ u, h'.get? kS = some u) (na : X.s_0.heap.objs.size ≤ a)
    (new : ObjOk X.prog X.w (upd H a o) h' a o) : Inv X pins σ (upd H a o) { s with heap := h', toks := tk } := by
  obtain ⟨a1, a2, _, a3, a4, a5⟩ := fa
  obtain ⟨k1, k2, _, k3, k4, k5⟩ := fk
  have nb : ∀ b u, H b = some u → b ≠ a ∧ b ≠ kS := fun b u e => ⟨ne_of_none e a1, ne_of_none e k1⟩
  have I1 : Inv X pins σ H { s with heap := h', toks := tk } := by
    refine I.step (g' := s.gens) (d' := s.drawn) (ch := [a, kS]) (fun b hb => ?_) (fun b u _ _ hc e _ => keep b u (fun z => hc (by simp [z])) (fun z => hc (by simp [z])) e) (fun b u _ _ hc e _ => ⟨u.slots, keep b u (fun z => hc (by simp [z])) (fun z => hc (by simp [z])) e⟩)
      (fun _ _ _ _ n => n) (fun b u hc e => ⟨u, keep b u (fun z => hc (by simp [z])) (fun z => hc (by simp [z])) e⟩) (fun _ _ e => e) (fun _ _ _ e => e) (fun b ps e => ⟨#[], by rw [e]; simp⟩) (fun m hm => ?_) (fun b u e => ?_) I.bare
    · rcases List.mem_cons.mp hb with e | e
      · rw [e]
        exact ⟨a3, a2, a4, a5⟩
      · rw [List.mem_singleton.mp e]
        exact ⟨k3, k2, k4, k5⟩
    · obtain ⟨u, es, ep, hu, r⟩ := hm
      exact ⟨u, es, ep, keep _ u a2.symm k2.symm hu, r⟩
    · refine (I.hok b u e).stay (fun c v hc q => ?_) (fun _ q => q) fun _ _ q => q
      rcases hc with z | z
      · rw [z] at q ⊢
        exact keep b v (nb b u e).1 (nb b u e).2 q
      · exact keep c v (nb c _ z).1 (nb c _ z).2 q
  have un : ∀ b, b ≠ a → upd H a o b = H b := fun b hb => upd_ne hb
  refine ⟨I1.ok, I1.os, I1.bare, ⟨I1.base.keep, I1.base.slot, fun b u e n hx => ?_, I1.base.there, fun b xs e => ?_, fun b u x e => ?_, fun b ps e => ?_⟩, I1.loc, I1.cell, ?_, fun x c e => ?_, fun p hp => ?_, fun b u e => ?_, I1.len⟩
  · rw [un b (Nat.ne_of_lt (Nat.lt_of_lt_of_le (Heap.lt_size e) na))]
    exact I1.base.free b u e n hx
  · have q := I1.base.tups b xs e
    rw [un b (nb b _ q).1]
    exact q
  · have q := I1.base.frzs b u x e
    rw [un b (nb b _ q).1]
    exact q
  · obtain ⟨m, q⟩ := I1.base.tbls b ps e
    exact ⟨m, by rw [un b (nb b _ q).1]; exact q⟩
  · rw [un _ a2.symm]
    exact I1.free
  · rw [un _ (a4 x c e)]
    exact I1.freeC x c e
  · obtain ⟨p1, p2, p3⟩ := I1.pin p hp
    exact ⟨p1, by rw [un _ (a5 p hp)]; exact p2, p3⟩
  · by_cases hb : b = a
    · rw [hb, upd_same] at e
      cases e
      rw [hb]
      exact new
    · rw [un b hb] at e
      refine (I1.hok b u e).stay (fun c v _ q => q) (fun c q => ?_) fun c xs q => ?_
      · rw [un c (nb c _ q).1]
        exact q
      · rw [un c (nb c _ q).1]
        exact q
/-- the lambda at f: its words but the body are F's -/
def LamAt (h : Heap) (f : Addr) (F : NdefX.NF) (e : Expr) (pm ctv : Value) : Prop := h.get? f = some (PySem.W.kla_obj F.name F.qual F.params e F.scope F.cl pm F.c ctv)
/-- the call of such a lambda -/
theorem lam_call {P : Program} {w : World} {K : PySem.W.Frag} {mg : Str → Option Value} {base : Heap} {N ps fr : List Str} {F : NdefX.NF} {f : Addr} {A : Around} {outer : List Env} {us : List Value} {vs : List V} {ws : List (Option V)} {k : Nat} {e : Expr} {pm ctv : Value} {tb : TE} {Q : VK}
    (S : NdefX.NScope N ps fr F.scope) (hb : bindArgs (PySem.W.kla_fn F.name F.qual F.params e F.scope F.cl pm (.ref F.c) ctv) ⟨us, []⟩ = pure (ps.zip us)) (hr : Room (k + 1) A) (e0 : Env0 P w K mg base A outer s H) (hf : LamAt s.heap f F e pm ctv)
    (hc : H F.c = some (LamX.CodeO F.c F.qual)) (C : NdefX.CellsAt F.cl fr ws s.heap H) (r : Vals vs us) (hl : vs.length = ps.length)
    (hbody : PE (NdefX.ncx CX0 P w K mg base N F f A outer s H E0) e tb) (h : tb (NdefX.startF N vs ws) H Q) :
    codeAny (model P w) A (.call (.ref f) ⟨us, []⟩) (CR CX0 outer P w H s Q E0) s := by
  have lim : s.heap.NoLimit := e0.mod.nolimit.keeps fun b o e => (e0.bs b o e).1
  refine PySem.W.kla_callFunE hr.depth hf rfl S.co S.gen rfl (NdefX.codeO_at e0.hok hc) ?_
  rw [hb]
  refine wpAny_pure (wpAny_newFunctionEnv S.nocell (fun ⟨n, _⟩ hy => S.par n (List.of_mem_zip hy).1) (fun h₁ hns hsb => ⟨lim.fresh _ hsb, ?_⟩) S.kind)
  show codeAny _ _ (.expr e (NdefX.envF F f s.heap.objs.size)) _ _
  have kp : ∀ b o, s.heap.get? b = some o → h₁.get? b = some o := fun b o e => hsb.extBut b o (Nat.ne_of_lt (Heap.lt_size e)) (Heap.get?_push_of_some _ e)
  have I : Inv (NdefX.ncx CX0 P w K mg base N F f A outer s H E0) [] (NdefX.startF N vs ws) H { s with heap := h₁, toks := s.toks + (ps.zip us).length } := NdefX.inv_startN S hr.hd e0 hl r C hns kp
  refine PySem.W.kla_codeExpr (wpAny_mono (hbody.run [] _ (NdefX.startF N vs ws) H Q I h) (fun u s' q => ?_) fun e s' q => q)
  obtain ⟨v, H', J, rv, q⟩ := q
  exact ⟨v, H', J.os, J.bare, J.base, J.hok, rv, q⟩
/-- what is asked of sorted(e, key=lambda one: ..): e gives a list of one item or none -/
def tSortLam (T : List (Addr × Str)) (N : List Str) (js : List Nat) (ta tb : TE) : TE := fun σ H Q => ta σ H fun v H1 => ∃ (a : Addr) (xs : List V), v = .ref a ∧ H1 a = some (.lst xs) ∧ xs.length ≤ 1 ∧ LamX.Tabs T H1 ∧ ∀ H2, LamX.ExtN H1 H2 → LamX.Tabs T H2 →
  (xs = [] → ∀ p, H2 p = none → Q (.ref p) (upd H2 p (.lst []))) ∧ ∀ y, xs = [y] → tb (NdefX.startF N [y] (js.map (NdefX.slotAt σ))) H2 fun _ H3 => LamX.ExtN H2 H3 ∧ ∀ p, H3 p = none → Q (.ref p) (upd H3 p (.lst [y]))
theorem pe_sortlam {T : List (Addr × Str)} {c P : Addr} {N fr : List Str} {one : Str} {js : List Nat} {params : Arguments} {body : Expr} {scope : Scope} {k : Nat} {e : Expr} {ta tb : TE} {p pos kpos lpos : Pos}
    (hg : Gl X "sorted") (hm : X.mg "sorted" = none) (ha : PE X e ta) (TB : LamX.TabB X.base X.mg c P) (hcode : X.env.code = .ref c) (hmT : (P, X.env.qual ++ "<lambda>") ∈ T) (hu : ∀ p ∈ T, p.1 = P → p.2 = X.env.qual ++ "<lambda>") (hr : Room (k + 3) X.A)
    (hdef : defaultsOf params X.env = ([], [])) (S : NdefX.NScope N [one] fr scope) (hfree : ∀ y ∈ scope.names, y.2 = .free → X.env.scope.names.lookup y.1 = some .cell ∨ X.env.scope.names.lookup y.1 = some .free) (hfr : ∀ y ∈ fr, (y, NameKind.free) ∈ scope.names)
    (hjs : js.map (fun j => X.N[j]?) = fr.map some)
    (hbind : ∀ (q : Str) (cl : List (Str × Addr)) (pm cv ctv u : Value), bindArgs (PySem.W.kla_fn "<lambda>" q params body scope cl pm cv ctv) ⟨[u], []⟩ = pure ([one].zip [u]))
    (hbody : ∀ (A : Around) (outer : List Env) (s : Shared) (H : Hp) (F : NdefX.NF) (f : Addr), F.scope = scope → Room k (A.deeper (NdefX.envF F f s.heap.objs.size)) → PE (NdefX.ncx CX0 X.prog X.w X.K X.mg X.base N F f A outer s H E0) body tb)
    (hxe : ∀ e s', False → X.xe e s')
    (hs0 : starEach [e] X.env = (false, eval e X.env) :: starEach [] X.env := by rfl) (hs : backTo pos (starEach [e] X.env) = (false, eval e X.env) :: backTo pos (starEach [] X.env) := by rfl) (hpl : (backTo pos (starEach [e] X.env)).any (·.1) = false := by rfl) :
    PE X (.Call (.Name "sorted" p) [e] [⟨some "key", .Lambda params body scope lpos, kpos⟩] pos) (tSortLam T N js ta tb) := by
  refine ⟨fun pins s σ H Q I h => ?_⟩
  refine wpAny_Call_Name_kw (ld_blt (u := .builtin "sorted") I hg hm (by decide +kernel) ?_)
  refine PyProof.Rows.callWith_kw (id := "sorted") ?_ hs hpl rfl rfl
  refine thn ((pa_cons ha pa_nil hs0).run pos pins s σ H (fun vs H1 => ∃ v, vs = [v] ∧ ∃ (a : Addr) (xs : List V), v = .ref a ∧ H1 a = some (.lst xs) ∧ xs.length ≤ 1 ∧ LamX.Tabs T H1 ∧ ∀ H2, LamX.ExtN H1 H2 → LamX.Tabs T H2 →
    (xs = [] → ∀ p, H2 p = none → Q (.ref p) (upd H2 p (.lst []))) ∧ ∀ y, xs = [y] → tb (NdefX.startF N [y] (js.map (NdefX.slotAt σ))) H2 fun _ H3 => LamX.ExtN H2 H3 ∧ ∀ p, H3 p = none → Q (.ref p) (upd H3 p (.lst [y]))) I ?_) fun us s1 q1 => ?_
  · show ta σ H fun v H1 => _
    have e : (fun (v : V) (H1 : Hp) => tNil σ H1 fun vs H2 => ∃ v', v :: vs = [v'] ∧ ∃ (a : Addr) (xs : List V), v' = .ref a ∧ H2 a = some (.lst xs) ∧ xs.length ≤ 1 ∧ LamX.Tabs T H2 ∧ ∀ H3, LamX.ExtN H2 H3 → LamX.Tabs T H3 →
        (xs = [] → ∀ p, H3 p = none → Q (.ref p) (upd H3 p (.lst []))) ∧ ∀ y, xs = [y] → tb (NdefX.startF N [y] (js.map (NdefX.slotAt σ))) H3 fun _ H4 => LamX.ExtN H3 H4 ∧ ∀ p, H4 p = none → Q (.ref p) (upd H4 p (.lst [y]))) =
        fun v H1 => ∃ (a : Addr) (xs : List V), v = .ref a ∧ H1 a = some (.lst xs) ∧ xs.length ≤ 1 ∧ LamX.Tabs T H1 ∧ ∀ H2, LamX.ExtN H1 H2 → LamX.Tabs T H2 →
          (xs = [] → ∀ p, H2 p = none → Q (.ref p) (upd H2 p (.lst []))) ∧ ∀ y, xs = [y] → tb (NdefX.startF N [y] (js.map (NdefX.slotAt σ))) H2 fun _ H3 => LamX.ExtN H2 H3 ∧ ∀ p, H3 p = none → Q (.ref p) (upd H3 p (.lst [y])) := by
      funext v H1
      apply propext
      constructor
      · rintro ⟨v', e1, q⟩
        cases e1
        exact q
      · intro q
        exact ⟨v, rfl, q⟩
    rw [e]
    exact h
  obtain ⟨vs, H1, I1, r1, v, ev, a, xs, ea, hx, hx1, hT, q⟩ := q1
  subst ev ea
  obtain rfl : us = [.ref a] := by
    obtain ⟨u, e1, e2⟩ := r1.one
    subst e1
    cases e2
    rfl
  show wpAny _ _ (evalAll [(do let v ← eval (.Lambda params body scope lpos) X.env; standAt pos; pure v)]) _ _ s1
  have lfree : ∀ y ∈ scope.names, y.2 = .free → ∃ c, X.env.cells.lookup y.1 = some c := fun y hy e => (hfree y hy e).elim (fun z => I1.ok.has _ (.inl z)) fun z => I1.ok.has _ (.inr z)
  refine wpAny_evalAll_cons (wpAny_bind ?_)
  refine LamX.lam_make2 I1 TB hcode hmT hu hT hdef lfree fun f c' pm ctv H2 s2 I2 eN hT2 hf hfn hfr2 hco => ?_
  refine wpAny_bind (wpAny_standAt (wpAny_pure (wpAny_evalAll_nil ?_)))
  show wpAny _ _ (call (.builtin "sorted") [.ref a] [(Str.ofString "key", .ref f)]) _ _ _
  obtain ⟨q0, q1⟩ := q H2 eN hT2
  have hx2 : H2 a = some (.lst xs) := eN _ _ hx fun ps z => nomatch z
  obtain ⟨its, r, pl, z⟩ := I2.list (SqL.of hx2)
  have hlen := r.length
  refine sorted_few (vs := its) pl.isList (by omega) fun h3 b kS e1 kp zb zk hne nb nk => ⟨fun e0 h4 tk c2 o kk n4 o4 => ?_, fun u eu => ?_⟩
  · subst e0
    obtain rfl : xs = [] := List.eq_nil_of_length_eq_zero hlen
    have I3 : Inv X pins σ H2 { s2 with heap := h3, toks := s2.toks } := I2.kept kp
    have hb : H2 b = none := I2.hok.fresh zb
    have hk : H2 kS = none := I2.hok.fresh zk
    exact ⟨.ref b, upd H2 b (.lst []), adopt (s := { s2 with heap := h3, toks := s2.toks }) I3 (I2.fpOk zb hb) (I2.fpOk zk hk) kk ⟨_, n4⟩ ⟨_, o4⟩ (Nat.le_trans I2.sz zb) ⟨Nat.zero_le _, [], c2, .nil, n4⟩, rfl, q0 rfl b hb⟩
  · subst eu
    obtain ⟨y, rfl, ry⟩ : ∃ y, xs = [y] ∧ RelV y u := by
      match xs, r with
      | [y], .cons r _ => exact ⟨y, rfl, r⟩
    have I3 : Inv X pins σ H2 { s2 with heap := h3, toks := s2.toks } := I2.kept kp
    have hb : H2 b = none := I2.hok.fresh zb
    have hk : H2 kS = none := I2.hok.fresh zk
    have hr2 : Room (k + 1) X.A.in1.in1 := Room.in1 (Room.in1 hr)
    have ee := I3.env0
    have e00 : Env0 X.prog X.w X.K X.mg X.base X.A.in1.in1 X.stack { s2 with heap := h3, toks := s2.toks } H2 := ⟨I2.ok.frames, ee.mod, ee.bs, ee.bsz, ee.funs, ee.frf, ee.hok, ee.bare⟩
    have cps : NdefX.Caps X (cloFrom X.env.cells scope.names []) fr js := NdefX.Caps.made I2.ok hfree hfr hjs
    have tq := q1 y rfl
    have run := lam_call (F := ⟨"<lambda>", X.env.qual ++ "<lambda>", params, [], scope, cloFrom X.env.cells scope.names [], c'⟩) (f := f) (us := [u]) (vs := [y]) (k := k) (s := { s2 with heap := h3, toks := s2.toks }) S (hbind _ _ _ _ _ _) hr2 e00
      (show LamAt h3 f _ body pm ctv from kp f _ hf) hco (NdefX.cells_of I3 cps) (.cons ry .nil) rfl (hbody _ _ _ _ _ _ rfl (hr2.deeper _)) tq
    refine wpAny_call (codeAny_mono run fun rr s3 hq => ?_)
    cases rr with
    | error e => exact (show False from hq).elim
    | ok fl =>
      cases fl with
      | next => exact False.elim hq
      | brk => exact False.elim hq
      | cont => exact False.elim hq
      | ret u2 =>
        have hq2 : CE X.stack X.prog X.w H2 { s2 with heap := h3, toks := s2.toks } _ u2 s3 := hq
        obtain ⟨v3, H3, os3, bare3, un3, hok3, r3, eN3, q3⟩ := hq2
        have nfr : ∀ c : Addr, s2.heap.objs.size ≤ c → c ∉ frs X.stack := fun c hc z => by
          rcases List.mem_cons.mp (I2.stkSub _ z) with e | e
          · have h1 := I2.lt
            rw [← e] at h1
            exact Nat.lt_irrefl _ (Nat.lt_of_lt_of_le h1 hc)
          · exact I2.nofs hc e
        have nb3 := un3.keep b _ nb hb (nfr b zb) (by simp)
        have nk3 := un3.keep kS _ nk hk (nfr kS zk) (by simp)
        have hb3 : H3 b = none := un3.free b _ nb hb (by simp)
        have hk3 : H3 kS = none := un3.free kS _ nk hk (by simp)
        refine ⟨nb3, nk3, fun h4 tk c2 o kk n4 o4 => ?_⟩
        obtain ⟨v4, H4, I4, _, e4, q4⟩ := I3.after (Q := fun _ H' => H' = H3 ∧ ∀ p, H3 p = none → Q (.ref p) (upd H3 p (.lst [y]))) ⟨v3, H3, os3, bare3, un3, hok3, r3, rfl, q3⟩
        subst e4
        exact ⟨.ref b, upd H4 b (.lst [y]), adopt (s := s3) I4 (I2.fpOk zb hb3) (I2.fpOk zk hk3) kk ⟨_, n4⟩ ⟨_, o4⟩ (Nat.le_trans I2.sz zb) ⟨by show 1 ≤ sizeLine; decide, [u], c2, .cons ry .nil, n4⟩, rfl, q3 b hb3⟩
end
end K56
set_option Elab.async false
set_option linter.all false
set_option maxRecDepth 100000
set_option maxHeartbeats 4000000
/-! data made of tuples, in the heap -/
namespace K56
open PySem PySem.Spec PyProof.Rows L2
mutual
def TD (H : Hp) : PyData → V → Prop
  | .int i, v => v = .int i
  | .str s, v => v = .str s
  | .tuple ds, v => ∃ a xs, v = .ref a ∧ H a = some (.tup xs) ∧ TDs H ds xs
  | _, _ => False
def TDs (H : Hp) : List PyData → List V → Prop
  | [], xs => xs = []
  | d :: ds, xs => ∃ y ys, xs = y :: ys ∧ TD H d y ∧ TDs H ds ys
end
/-- tuples stay -/
def TS (H H' : Hp) : Prop := ∀ a xs, H a = some (.tup xs) → H' a = some (.tup xs)
theorem TS.of {H H' : Hp} (s : Same H H') : TS H H' := fun a xs h => s a _ h
theorem TS.trans {H H1 H2 : Hp} (a : TS H H1) (b : TS H1 H2) : TS H H2 := fun c xs h => b c xs (a c xs h)
theorem TS.refl (H : Hp) : TS H H := fun _ _ h => h
mutual
theorem TD.mono {H H' : Hp} (s : TS H H') : ∀ (d : PyData) (v : V), TD H d v → TD H' d v
  | .int _, _, h => h
  | .str _, _, h => h
  | .tuple ds, v, h => by
    obtain ⟨a, xs, e, h1, h2⟩ := h
    exact ⟨a, xs, e, s a xs h1, TDs.mono s ds xs h2⟩
  | .none, _, h => h
  | .bool _, _, h => h
  | .list _, _, h => h
  | .dict _, _, h => h
theorem TDs.mono {H H' : Hp} (s : TS H H') : ∀ (ds : List PyData) (xs : List V), TDs H ds xs → TDs H' ds xs
  | [], _, h => h
  | d :: ds, xs, h => by
    obtain ⟨y, ys, e, h1, h2⟩ := h
    exact ⟨y, ys, e, TD.mono s d y h1, TDs.mono s ds ys h2⟩
end
theorem TDs.cons {H : Hp} {d : PyData} {ds : List PyData} {x : V} {xs : List V} (h : TD H d x) (hs : TDs H ds xs) : TDs H (d :: ds) (x :: xs) := ⟨x, xs, rfl, h, hs⟩
theorem TDs.nil {H : Hp} : TDs H [] [] := rfl
theorem TDs.len {H : Hp} : ∀ {ds : List PyData} {xs : List V}, TDs H ds xs → xs.length = ds.length
  | [], _, h => by
    have e : _ = ([] : List V) := h
    rw [e]; rfl
  | d :: ds, xs, h => by
    obtain ⟨y, ys, e, _, h2⟩ := h
    rw [e, List.length_cons, List.length_cons, h2.len]
theorem TDs.get {H : Hp} : ∀ {ds : List PyData} {xs : List V} {i : Nat} {d : PyData}, TDs H ds xs → ds[i]? = some d → ∃ x, xs[i]? = some x ∧ TD H d x
  | [], _, i, d, _, e => by simp at e
  | d' :: ds, xs, 0, d, h, e => by
    obtain ⟨y, ys, e1, h1, _⟩ := h
    have e2 : d' = d := Option.some.inj e
    subst e1 e2
    exact ⟨y, rfl, h1⟩
  | d' :: ds, xs, i + 1, d, h, e => by
    obtain ⟨y, ys, e1, _, h2⟩ := h
    subst e1
    obtain ⟨x, h3, h4⟩ := TDs.get (i := i) h2 (by simpa using e)
    exact ⟨x, by simpa using h3, h4⟩
theorem TDs.get' {H : Hp} {ds : List PyData} {xs : List V} {i : Nat} {x : V} (h : TDs H ds xs) (e : xs[i]? = some x) : ∃ d, ds[i]? = some d ∧ TD H d x := by
  have hi := (List.getElem?_eq_some_iff.mp e).1
  rw [h.len] at hi
  obtain ⟨y, h1, h2⟩ := h.get (List.getElem?_eq_getElem hi)
  rw [e] at h1
  cases h1
  exact ⟨_, List.getElem?_eq_getElem hi, h2⟩
theorem TDs.app {H : Hp} : ∀ {ds es : List PyData} {xs ys : List V}, TDs H ds xs → TDs H es ys → TDs H (ds ++ es) (xs ++ ys)
  | [], _, _, _, h, h' => by
    have e : _ = ([] : List V) := h
    rw [e]
    exact h'
  | d :: ds, _, _, _, h, h' => by
    obtain ⟨y, zs, e, h1, h2⟩ := h
    subst e
    exact ⟨y, _, rfl, h1, h2.app h'⟩
theorem TDs.snoc {H : Hp} {ds : List PyData} {d : PyData} {xs : List V} {x : V} (h : TDs H ds xs) (h' : TD H d x) : TDs H (ds ++ [d]) (xs ++ [x]) := h.app (TDs.cons h' TDs.nil)
theorem TDs.take {H : Hp} : ∀ {ds : List PyData} {xs : List V} (n : Nat), TDs H ds xs → TDs H (ds.take n) (xs.take n)
  | _, _, 0, _ => by rw [List.take_zero, List.take_zero]; exact TDs.nil
  | [], _, n + 1, h => by
    have e : _ = ([] : List V) := h
    rw [e]; exact TDs.nil
  | d :: ds, _, n + 1, h => by
    obtain ⟨y, ys, e, h1, h2⟩ := h
    subst e
    exact ⟨y, _, rfl, h1, h2.take n⟩
theorem TD.t2 {H : Hp} {d e : PyData} {v : V} (h : TD H (.tuple [d, e]) v) : ∃ a x y, v = .ref a ∧ H a = some (.tup [x, y]) ∧ TD H d x ∧ TD H e y := by
  obtain ⟨a, xs, h1, h2, y1, ys1, e1, t1, y2, ys2, e2, t2, e3⟩ := h
  have e3 : ys2 = [] := e3
  subst e1 e2 e3
  exact ⟨a, y1, y2, h1, h2, t1, t2⟩
theorem TD.t3 {H : Hp} {d e f : PyData} {v : V} (h : TD H (.tuple [d, e, f]) v) : ∃ a x y z, v = .ref a ∧ H a = some (.tup [x, y, z]) ∧ TD H d x ∧ TD H e y ∧ TD H f z := by
  obtain ⟨a, xs, h1, h2, y1, ys1, e1, t1, y2, ys2, e2, t2, y3, ys3, e3, t3, e4⟩ := h
  have e4 : ys3 = [] := e4
  subst e1 e2 e3 e4
  exact ⟨a, y1, y2, y3, h1, h2, t1, t2, t3⟩
theorem TD.t4 {H : Hp} {d e f g : PyData} {v : V} (h : TD H (.tuple [d, e, f, g]) v) : ∃ a x y z u, v = .ref a ∧ H a = some (.tup [x, y, z, u]) ∧ TD H d x ∧ TD H e y ∧ TD H f z ∧ TD H g u := by
  obtain ⟨a, xs, h1, h2, y1, ys1, e1, t1, y2, ys2, e2, t2, y3, ys3, e3, t3, y4, ys4, e4, t4, e5⟩ := h
  have e5 : ys4 = [] := e5
  subst e1 e2 e3 e4 e5
  exact ⟨a, y1, y2, y3, y4, h1, h2, t1, t2, t3, t4⟩
theorem TD.mk2 {H : Hp} {d e : PyData} {a : Addr} {x y : V} (h : H a = some (.tup [x, y])) (h1 : TD H d x) (h2 : TD H e y) : TD H (.tuple [d, e]) (.ref a) := ⟨a, _, rfl, h, .cons h1 (.cons h2 .nil)⟩
theorem TD.mk3 {H : Hp} {d e f : PyData} {a : Addr} {x y z : V} (h : H a = some (.tup [x, y, z])) (h1 : TD H d x) (h2 : TD H e y) (h3 : TD H f z) : TD H (.tuple [d, e, f]) (.ref a) := ⟨a, _, rfl, h, .cons h1 (.cons h2 (.cons h3 .nil))⟩
theorem TD.mk4 {H : Hp} {d e f g : PyData} {a : Addr} {x y z u : V} (h : H a = some (.tup [x, y, z, u])) (h1 : TD H d x) (h2 : TD H e y) (h3 : TD H f z) (h4 : TD H g u) : TD H (.tuple [d, e, f, g]) (.ref a) :=
  ⟨a, _, rfl, h, .cons h1 (.cons h2 (.cons h3 (.cons h4 .nil)))⟩
theorem TD.i {H : Hp} {i : Int} {v : V} (h : TD H (.int i) v) : v = .int i := h
theorem TD.s {H : Hp} {s : Str} {v : V} (h : TD H (.str s) v) : v = .str s := h
theorem TD.ii {H : Hp} {i : Int} : TD H (.int i) (.int i) := rfl
theorem TD.ss {H : Hp} {s : Str} : TD H (.str s) (.str s) := rfl
mutual
theorem TD.dp {K : PySem.W.Frag} {H : Hp} : ∀ (d : PyData) (v : V), TD H d v → Dp K H v d
  | .int i, v, h => by rw [TD.i h]; exact .int i
  | .str s, v, h => by rw [TD.s h]; exact .str s
  | .tuple ds, v, h => by
    obtain ⟨a, xs, e, h1, h2⟩ := h
    subst e
    exact .tup (SqT.of h1) (TDs.dp ds xs h2)
  | .none, _, h => h.elim
  | .bool _, _, h => h.elim
  | .list _, _, h => h.elim
  | .dict _, _, h => h.elim
theorem TDs.dp {K : PySem.W.Frag} {H : Hp} : ∀ (ds : List PyData) (xs : List V), TDs H ds xs → DpAll K H xs ds
  | [], xs, h => by
    have e : xs = [] := h
    subst e
    exact .nil
  | d :: ds, xs, h => by
    obtain ⟨y, ys, e, h1, h2⟩ := h
    subst e
    exact .cons (TD.dp d y h1) (TDs.dp ds ys h2)
end
/-! ### terms, asks, deeds, rows as data -/
def tmD (t : Tm) : PyData := .tuple [.int t.1, .int t.2]
def askD (k : Ask) : PyData := .tuple [.str k.mrk, tmD k.a, tmD k.b]
def mkD : Mk → PyData
  | .out i => .tuple [.str "out", .int i]
  | .keep i j k => .tuple [.str "keep", .int i, .int j, .int k]
  | .way i => .tuple [.str "way", .int i]
  | .inn i => .tuple [.str "in", .int i]
def ddD : Dd → PyData
  | .mark m => mkD m
  | .put b t => .tuple [.str "put", .int b, tmD t]
  | .say w t => .tuple [.str "say", .str w, tmD t]
  | .call s => .tuple [.str "call", .str s]
def jrD : Jr → PyData
  | .mark m => mkD m
  | .put b x y => .tuple [.str "put", .int b, .int x, .int y]
  | .call s => .tuple [.str "call", .str s]
  | .say w n => .tuple [.str "say", .str w, .int n]
  | .sign s => .tuple [.str "sign", .str s]
  | .rest n => .tuple [.str "rest", .int n]
def asksD (l : List Ask) : PyData := .tuple (l.map askD)
def ddsD (l : List Dd) : PyData := .tuple (l.map ddD)
def rwD (r : Rw) : PyData := .tuple [asksD r.asks, ddsD r.scr, .int r.nxt]
def wyD (y : Wy) : PyData := .tuple [.int y.src, .str y.sign, asksD y.asks, ddsD y.deeds, .int y.tgt, .str "new"]
/-- a list of data at an address -/
def TL (H : Hp) (a : Addr) (ds : List PyData) : Prop := ∃ xs, H a = some (.lst xs) ∧ TDs H ds xs
theorem TL.mono {H H' : Hp} {a : Addr} {ds : List PyData} (h : TL H a ds) (s : TS H H') (hl : ∀ xs, H a = some (.lst xs) → H' a = some (.lst xs)) : TL H' a ds := by
  obtain ⟨xs, h1, h2⟩ := h
  exact ⟨xs, hl xs h1, h2.mono s⟩
theorem TL.same {H H' : Hp} {a : Addr} {ds : List PyData} (h : TL H a ds) (s : Same H H') : TL H' a ds := h.mono (TS.of s) fun xs q => s a _ q
/-! ### heaps -/
theorem same_upd {H : Hp} {p : Addr} {o : HO} (h : H p = none) : Same H (upd H p o) := fun b x e => by
  rw [upd_ne (ne_of_none e h)]
  exact e
/-- a for over a tuple or a list -/
theorem pi_or {X : Cx} {tg e : Expr} {w1 w2 : TI} (h1 : PI X tg e w1) (h2 : PI X tg e w2) : PI X tg e (fun σ H R => w1 σ H R ∨ w2 σ H R) :=
  ⟨fun pins s σ H R I h => h.elim (h1.run pins s σ H R I) (h2.run pins s σ H R I)⟩
end K56
set_option Elab.async false
set_option linter.all false
set_option maxRecDepth 100000
set_option maxHeartbeats 4000000
namespace K56
open PySem PySem.Spec PyProof.Rows L2
section
variable {P : Program} {w : World} {K : PySem.W.Frag} {mg : Str → Option Value} {base : Heap}
/-! ### sums -/
def TmOk (n : Nat) (t : Tm) : Prop := t.1 = -1 ∨ (0 ≤ t.1 ∧ t.1 < n)
def iV (ns : List Int) : List V := ns.map V.int
theorem at_iV {ns : List Int} {i : Int} (h : 0 ≤ i ∧ i < ns.length) : atI (iV ns) i = some (.int (ns.getD i.toNat 0)) := by
  have hi : i.toNat < ns.length := by omega
  refine at_of (j := i.toNat) (by omega) ?_
  unfold iV
  rw [List.getElem?_map, List.getElem?_eq_getElem hi, List.getD_eq_getElem?_getD, List.getElem?_eq_getElem hi]
  rfl
def spValue (K : PySem.W.Frag) : Sp := fun vs H Q _ => ∃ (x : V) (b : Addr) (t : Tm) (bx : List Int), vs = [x, .ref b] ∧ TD H (tmD t) x ∧ SqL K H b (iV bx) ∧ TmOk bx.length t ∧ Q (.int (val t bx)) H
theorem ok_value (T : Tp K mg) : GFn P w K mg base 1 "value" ["term", "boxes"] (spValue K) := by
  refine gfn T.g_value (mk_ok T.f_value sc_value (bn_value "value") (fun vs H Q E h => ?_) (fun cdv A outer s H vs Q E hr h => ?_))
  · obtain ⟨x, b, t, bx, rfl, _⟩ := h
    rfl
  · obtain ⟨x, b, t, bx, rfl, ht, hb, hok, q⟩ := h
    obtain ⟨a, x1, x2, rfl, ha, e1, e2⟩ := TD.t2 ht
    obtain rfl := TD.i e1
    obtain rfl := TD.i e2
    refine ⟨_, (pss_cons (ps_if (pt_cmpR op_eq (pe_ix ix_tup (pv 0) pe_int (fun _ _ => rfl)) (pe_un un_neg pe_int) (nomark _))
        (pss_one (ps_ret (pe_ix ix_tup (pv 0) pe_int (fun _ _ => rfl))))
        pss_nil)
      (pss_one (ps_ret (pe_op op_add (pe_ix ix_list (pv 1) (pe_ix ix_tup (pv 0) pe_int (fun _ _ => rfl)) (fun _ _ => rfl)) (pe_ix ix_tup (pv 0) pe_int (fun _ _ => rfl)))))), ?_⟩
    refine ⟨_, rfl, a, _, _, _, rfl, rfl, SqT.of ha, rfl, _, rfl, rfl, _, rfl, ite2 (fun e => ?_) (fun e => ?_)⟩
    · have e' : t.1 = -1 := V.int.inj (of_decide_eq_true e)
      refine ⟨_, rfl, a, _, _, _, rfl, rfl, SqT.of ha, rfl, ?_⟩
      unfold val at q
      rw [if_pos e'] at q
      exact q
    · have e' : ¬ t.1 = -1 := fun z => e (decide_eq_true (congrArg V.int z))
      have hk : 0 ≤ t.1 ∧ t.1 < bx.length := hok.elim (fun z => absurd z e') id
      refine ⟨_, rfl, _, rfl, a, _, _, _, rfl, rfl, SqT.of ha, rfl, b, _, _, _, rfl, rfl, hb, at_iV hk, _, rfl, a, _, _, _, rfl, rfl, SqT.of ha, rfl, _, _, rfl, rfl, ?_⟩
      unfold val at q
      rw [if_neg e'] at q
      exact q
theorem dec_int' {i j : Int} : decide (V.int i = V.int j) = decide (i = j) := by simp
theorem dec_str' {i j : Str} : decide (V.str i = V.str j) = decide (i = j) := by simp
theorem tt_of {c : Prop} [Decidable c] (h : decide c = true) : c := of_decide_eq_true h
theorem ff_of {c : Prop} [Decidable c] (h : ¬ decide c = true) : ¬ c := fun z => h (decide_eq_true z)
def AskOk (n : Nat) (k : Ask) : Prop := TmOk n k.a ∧ TmOk n k.b
def spHolds (K : PySem.W.Frag) : Sp := fun vs H Q _ => ∃ (x : V) (b : Addr) (k : Ask) (bx : List Int), vs = [x, .ref b] ∧ TD H (askD k) x ∧ SqL K H b (iV bx) ∧ AskOk bx.length k ∧ Q (.bl (hold k bx)) H
theorem ok_holds (T : Tp K mg) : GFn P w K mg base 2 "holds" ["ask", "boxes"] (spHolds K) := by
  have G_value : GFn P w K mg base 1 "value" ["term", "boxes"] (spValue K) := ok_value T
  refine gfn T.g_holds (mk_ok T.f_holds sc_holds (bn_holds "holds") (fun vs H Q E h => ?_) (fun cdv A outer s H vs Q E hr h => ?_))
  · obtain ⟨x, b, k, bx, rfl, _⟩ := h
    rfl
  · obtain ⟨x, b, k, bx, rfl, ht, hb, ⟨ok1, ok2⟩, q⟩ := h
    obtain ⟨a, x1, x2, x3, rfl, ha, e1, t2, t3⟩ := TD.t3 ht
    obtain rfl := TD.s e1
    refine ⟨_, (pss_cons (ps_set (i := 2) sc_holds.nd rfl (Or.inl rfl) (pe_g G_value hr rfl (pa_cons (pe_ix ix_tup (pv 0) pe_int (fun _ _ => rfl)) (pa_cons (pv 1) pa_nil))))
      (pss_cons (ps_set (i := 3) sc_holds.nd rfl (Or.inl rfl) (pe_g G_value hr rfl (pa_cons (pe_ix ix_tup (pv 0) pe_int (fun _ _ => rfl)) (pa_cons (pv 1) pa_nil))))
      (pss_cons (ps_if (pt_cmpR op_eq (pe_ix ix_tup (pv 0) pe_int (fun _ _ => rfl)) pe_str (nomark _))
        (pss_one (ps_ret (pe_cmpR op_lt (pv 2) (pv 3) (nomark _))))
        pss_nil)
      (pss_cons (ps_if (pt_cmpR op_eq (pe_ix ix_tup (pv 0) pe_int (fun _ _ => rfl)) pe_str (nomark _))
        (pss_one (ps_ret (pe_cmpR op_le (pv 2) (pv 3) (nomark _))))
        pss_nil)
      (pss_cons (ps_if (pt_cmpR op_eq (pe_ix ix_tup (pv 0) pe_int (fun _ _ => rfl)) pe_str (nomark _))
        (pss_one (ps_ret (pe_cmpR op_eq (pv 2) (pv 3) (nomark _))))
        pss_nil)
      (pss_one (ps_ret (pe_cmpR op_ne (pv 2) (pv 3) (nomark _))))))))), ?_⟩
    refine ⟨_, rfl, a, _, _, _, rfl, rfl, SqT.of ha, rfl, _, rfl, _, b, k.a, bx, rfl, t2, hb, ok1, ?_⟩
    refine ⟨_, rfl, a, _, _, _, rfl, rfl, SqT.of ha, rfl, _, rfl, _, b, k.b, bx, rfl, t3, hb, ok2, ?_⟩
    unfold hold at q
    refine ⟨_, rfl, a, _, _, _, rfl, rfl, SqT.of ha, rfl, rfl, _, rfl, ite2 (fun e => ?_) (fun e => ?_)⟩
    · rw [if_pos (V.str.inj (tt_of e))] at q
      exact ⟨_, rfl, _, rfl, _, _, rfl, rfl, q⟩
    rw [if_neg fun z => ff_of e (congrArg V.str z)] at q
    refine ⟨_, rfl, a, _, _, _, rfl, rfl, SqT.of ha, rfl, rfl, _, rfl, ite2 (fun e => ?_) (fun e => ?_)⟩
    · rw [if_pos (V.str.inj (tt_of e))] at q
      exact ⟨_, rfl, _, rfl, _, _, rfl, rfl, q⟩
    rw [if_neg fun z => ff_of e (congrArg V.str z)] at q
    refine ⟨_, rfl, a, _, _, _, rfl, rfl, SqT.of ha, rfl, rfl, _, rfl, ite2 (fun e => ?_) (fun e => ?_)⟩
    · rw [if_pos (V.str.inj (tt_of e)), ← dec_int'] at q
      exact ⟨_, rfl, _, rfl, rfl, q⟩
    rw [if_neg fun z => ff_of e (congrArg V.str z), ← dec_int'] at q
    exact ⟨_, rfl, _, rfl, rfl, q⟩
def AsksOk (n : Nat) (l : List Ask) : Prop := ∀ k ∈ l, AskOk n k
def spAllHold (K : PySem.W.Frag) : Sp := fun vs H Q _ => ∃ (x : V) (b : Addr) (l : List Ask) (bx : List Int), vs = [x, .ref b] ∧ TD H (asksD l) x ∧ SqL K H b (iV bx) ∧ AsksOk bx.length l ∧ Q (.bl (allHold l bx)) H
theorem ok_all_hold (T : Tp K mg) : GFn P w K mg base 3 "all_hold" ["asks", "boxes"] (spAllHold K) := by
  have G_holds : GFn P w K mg base 2 "holds" ["ask", "boxes"] (spHolds K) := ok_holds T
  refine gfn T.g_all_hold (mk_ok T.f_all_hold sc_all_hold (bn_all_hold "all_hold") (fun vs H Q E h => ?_) (fun cdv A outer s H vs Q E hr h => ?_))
  · obtain ⟨x, b, k, bx, rfl, _⟩ := h
    rfl
  · obtain ⟨x, b, l, bx, rfl, ⟨a, xs, rfl, ha, hxs⟩, hb, ok, q⟩ := h
    refine ⟨_, (pss_cons (ps_for PassesOwn.never rfl (pi_tup (pv 0)) (pg_name (i := 2) sc_all_hold.nd rfl (Or.inl rfl))
        (pss_one (ps_if (pt_not (pt_val (pe_g G_holds hr rfl (pa_cons (pv 2) (pa_cons (pv 1) pa_nil)))))
          (pss_one (ps_ret pe_bl))
          pss_nil)))
      (pss_one (ps_ret pe_bl))), ?_⟩
    refine ⟨_, rfl, a, rfl, ⟨_, SqT.of ha⟩, for_tup (K := K) (a := a) (xs := xs) (fun i σ H' => ∃ v2, σ = [some (.ref a), some (.ref b), v2] ∧ H' = H ∧ (l.take i).all (fun k => hold k bx) = true)
      ⟨none, rfl, rfl, by simp⟩ (fun i σ H' _ ⟨_, _, e, _⟩ => by rw [e]; exact SqT.of ha) ?_ ?_⟩
    · rintro i y σ H' hy ⟨v2, rfl, rfl, hall⟩
      obtain ⟨d, hd, td⟩ := hxs.get' hy
      rw [List.getElem?_map] at hd
      obtain ⟨k, hk, rfl⟩ := Option.map_eq_some_iff.mp hd
      refine ⟨_, rfl, _, rfl, y, b, k, bx, rfl, td, hb, ok k (List.mem_of_getElem? hk), _, rfl, ?_⟩
      cases hh : hold k bx with
      | true =>
        refine ⟨some y, rfl, rfl, ?_⟩
        rw [List.take_add_one, hk, List.all_append, hall]
        simp [hh]
      | false =>
        have e : allHold l bx = false := by
          unfold allHold
          rw [List.all_eq_false]
          exact ⟨k, List.mem_of_getElem? hk, by simp [hh]⟩
        rw [e] at q
        exact q
    · rintro σ H' ⟨v2, rfl, rfl, hall⟩
      rw [hxs.len, List.length_map, List.take_length] at hall
      have e : allHold l bx = true := hall
      rw [e] at q
      exact q
/-! ### deeds -/
def DdOk (n : Nat) : Dd → Prop
  | .mark _ => True
  | .put b t => (0 ≤ b ∧ b < n) ∧ TmOk n t
  | .say w t => TmOk n t ∧ PyData.strOk w = true
  | .call s => PyData.strOk s = true
/-- what done tells of a deed that is no mark -/
def spDone (K : PySem.W.Frag) : Sp := fun vs H Q _ => ∃ (x : V) (b : Addr) (d : Dd) (bx : List Int), vs = [x, .ref b] ∧ TD H (ddD d) x ∧ SqL K H b (iV bx) ∧ DdOk bx.length d ∧ d.told = true ∧ bx.length ≤ 1000 ∧
  ∀ (H' : Hp) (p c : Addr) (y : V), Same H H' → H' p = some (.tup [.ref c, y]) → H c = none → H' c = some (.lst (iV (done1 d bx).1)) → TD H' (jrD (done1 d bx).2) y → Q (.ref p) H'
theorem len1000 {n : Nat} (h : n ≤ 1000) : n ≤ sizeLine := Nat.le_of_lt (small1000 h)
theorem set_iV (ns : List Int) (j : Nat) (z : Int) : (iV ns).set j (.int z) = iV (ns.set j z) := by
  unfold iV
  rw [List.map_set]
theorem ixN_iV {ns : List Int} {b : Int} (h : 0 ≤ b ∧ b < ns.length) : ixN (iV ns).length b = some b.toNat := by
  unfold ixN iV
  rw [List.length_map, if_pos h.1, if_pos h.2]
theorem ok_done (T : Tp K mg) : GFn P w K mg base 2 "done" ["deed", "boxes"] (spDone K) := by
  have G_value : GFn P w K mg base 1 "value" ["term", "boxes"] (spValue K) := ok_value T
  refine gfn T.g_done (mk_ok T.f_done sc_done (bn_done "done") (fun vs H Q E h => ?_) (fun cdv A outer s H vs Q E hr h => ?_))
  · obtain ⟨x, b, k, bx, rfl, _⟩ := h
    rfl
  · obtain ⟨x, b, d, bx, rfl, td, hb, ok, tld, hz, q⟩ := h
    refine ⟨_, (pss_cons (ps_set (i := 2) sc_done.nd rfl (Or.inl rfl) (pe_callTy call_list_of (by rfl) T.m_list (by decide +kernel) (pa_cons (pv 1) pa_nil)))
      (pss_cons (ps_if (pt_cmpR op_eq (pe_ix ix_tup (pv 0) pe_int (fun _ _ => rfl)) pe_str (nomark _))
        (pss_cons (ps_asg (pe_g G_value hr rfl (pa_cons (pe_ix ix_tup (pv 0) pe_int (fun _ _ => rfl)) (pa_cons (pv 1) pa_nil))) (pg_sub (pv 2) (pe_ix ix_tup (pv 0) pe_int (fun _ _ => rfl)) set_list))
        (pss_one (ps_ret (pe_tup (pa_cons (pv 2) (pa_cons (pe_tup (pa_cons pe_str (pa_cons (pe_ix ix_tup (pv 0) pe_int (fun _ _ => rfl)) (pa_cons (pe_ix ix_list (pv 1) (pe_ix ix_tup (pv 0) pe_int (fun _ _ => rfl)) (fun _ _ => rfl)) (pa_cons (pe_ix ix_list (pv 2) (pe_ix ix_tup (pv 0) pe_int (fun _ _ => rfl)) (fun _ _ => rfl)) pa_nil))))) pa_nil))))))
        pss_nil)
      (pss_cons (ps_if (pt_cmpR op_eq (pe_ix ix_tup (pv 0) pe_int (fun _ _ => rfl)) pe_str (nomark _))
        (pss_one (ps_ret (pe_tup (pa_cons (pv 2) (pa_cons (pe_tup (pa_cons pe_str (pa_cons (pe_ix ix_tup (pv 0) pe_int (fun _ _ => rfl)) pa_nil))) pa_nil)))))
        pss_nil)
      (pss_one (ps_ret (pe_tup (pa_cons (pv 2) (pa_cons (pe_tup (pa_cons pe_str (pa_cons (pe_ix ix_tup (pv 0) pe_int (fun _ _ => rfl)) (pa_cons (pe_g G_value hr rfl (pa_cons (pe_ix ix_tup (pv 0) pe_int (fun _ _ => rfl)) (pa_cons (pv 1) pa_nil))) pa_nil)))) pa_nil)))))))), ?_⟩
    -- behind = list(boxes)
    refine ⟨_, rfl, b, _, rfl, .inl hb, fun c nc => ?_⟩
    have s1 : Same H (upd H c (.lst (iV bx))) := same_upd nc
    have hb1 := s1.seq hb
    have td1 := TD.mono (TS.of s1) _ _ td
    cases d with
    | mark m => cases tld
    | put j t =>
      obtain ⟨a, x1, x2, x3, rfl, ha, e1, e2, t3⟩ := TD.t3 td1
      obtain rfl := TD.s e1
      obtain rfl := TD.i e2
      have hca : c ≠ a := ne_of upd_same ha (by intro z; cases z)
      refine ⟨_, rfl, a, _, _, _, rfl, rfl, SqT.of ha, rfl, rfl, _, rfl, iteT ?_⟩
      refine ⟨_, rfl, a, _, _, _, rfl, rfl, SqT.of ha, rfl, _, rfl, _, b, t, bx, rfl, t3, hb1, ok.2, _, rfl, _, rfl, a, _, _, _, rfl, rfl, SqT.of ha, rfl, c, _, _, _, rfl, rfl, upd_same, ixN_iV ok.1, ?_⟩
      rw [upd_upd, set_iV]
      have s2 : Same H (upd H c (.lst (iV (bx.set j.toNat (val t bx))))) := same_upd nc
      have hb2 := s2.seq hb
      have ha2 : (upd H c (.lst (iV (bx.set j.toNat (val t bx))))) a = some (.tup [.str "put", .int j, x3]) := by
        rw [upd_ne hca.symm]
        rw [upd_ne hca.symm] at ha
        exact ha
      have hj : 0 ≤ j ∧ j < (bx.set j.toNat (val t bx)).length := by rw [List.length_set]; exact ok.1
      have ev : (bx.set j.toNat (val t bx)).getD j.toNat 0 = val t bx := by
        have ok1 : 0 ≤ j ∧ j < (bx.length : Int) := ok.1
        have hlt : j.toNat < bx.length := by omega
        rw [List.getD_eq_getElem?_getD, List.getElem?_set_self hlt]
        rfl
      have hl2 : SqL K (upd H c (.lst (iV (bx.set j.toNat (val t bx))))) c (iV (bx.set j.toNat (val t bx))) := SqL.of upd_same
      refine ⟨_, rfl, _, rfl, a, _, _, _, rfl, rfl, SqT.of ha2, rfl, _, rfl, _, rfl, a, _, _, _, rfl, rfl, SqT.of ha2, rfl, b, _, _, _, rfl, rfl, hb2, at_iV ok.1, _, rfl, _, rfl, a, _, _, _, rfl, rfl, SqT.of ha2, rfl, c, _, _, _, rfl, rfl, hl2, at_iV hj, by show 4 ≤ sizeLine; decide, fun r nr => ⟨by show 2 ≤ sizeLine; decide, fun p np => ?_⟩⟩
      have s3 := same_upd (o := .tup [.str "put", .int j, .int (bx.getD j.toNat 0), .int ((bx.set j.toNat (val t bx)).getD j.toNat 0)]) nr
      have s4 := same_upd (o := .tup [.ref c, .ref r]) np
      refine q _ p c (.ref r) ((s2.trans s3).trans s4) upd_same nc (s4 _ _ (s3 _ _ upd_same)) ?_
      refine TD.mk4 (s4 _ _ upd_same) .ss .ii .ii ?_
      rw [ev]
      exact TD.ii
    | call z =>
      obtain ⟨a, x1, x2, rfl, ha, e1, e2⟩ := TD.t2 td1
      obtain rfl := TD.s e1
      obtain rfl := TD.s e2
      refine ⟨_, rfl, a, _, _, _, rfl, rfl, SqT.of ha, rfl, rfl, _, rfl, iteF ?_⟩
      refine ⟨_, rfl, a, _, _, _, rfl, rfl, SqT.of ha, rfl, rfl, _, rfl, iteT ?_⟩
      refine ⟨_, rfl, _, rfl, a, _, _, _, rfl, rfl, SqT.of ha, rfl, by show 2 ≤ sizeLine; decide, fun r nr => ⟨by show 2 ≤ sizeLine; decide, fun p np => ?_⟩⟩
      have s3 := same_upd (o := .tup [.str "call", .str z]) nr
      have s4 := same_upd (o := .tup [.ref c, .ref r]) np
      exact q _ p c (.ref r) ((s1.trans s3).trans s4) upd_same nc (s4 _ _ (s3 _ _ upd_same)) (TD.mk2 (s4 _ _ upd_same) .ss .ss)
    | say z t =>
      obtain ⟨a, x1, x2, x3, rfl, ha, e1, e2, t3⟩ := TD.t3 td1
      obtain rfl := TD.s e1
      obtain rfl := TD.s e2
      refine ⟨_, rfl, a, _, _, _, rfl, rfl, SqT.of ha, rfl, rfl, _, rfl, iteF ?_⟩
      refine ⟨_, rfl, a, _, _, _, rfl, rfl, SqT.of ha, rfl, rfl, _, rfl, iteF ?_⟩
      refine ⟨_, rfl, _, rfl, a, _, _, _, rfl, rfl, SqT.of ha, rfl, _, rfl, a, _, _, _, rfl, rfl, SqT.of ha, rfl, _, rfl, _, b, t, bx, rfl, t3, hb1, ok.1, by show 3 ≤ sizeLine; decide, fun r nr => ⟨by show 2 ≤ sizeLine; decide, fun p np => ?_⟩⟩
      have s3 := same_upd (o := .tup [.str "say", .str z, .int (val t bx)]) nr
      have s4 := same_upd (o := .tup [.ref c, .ref r]) np
      exact q _ p c (.ref r) ((s1.trans s3).trans s4) upd_same nc (s4 _ _ (s3 _ _ upd_same)) (TD.mk3 (s4 _ _ upd_same) .ss .ss .ii)
end
end K56
set_option Elab.async false
set_option linter.all false
set_option maxRecDepth 100000
set_option maxHeartbeats 4000000
namespace K56
open PySem PySem.Spec PyProof.Rows L2
/-! ### heaps, further -/
theorem same_put {H H' : Hp} {r : Addr} {o : HO} (s : Same H H') (n : H r = none) : Same H (upd H' r o) := fun b x e => by
  rw [upd_ne (ne_of_none e n)]
  exact s b x e
theorem ts_put {H : Hp} {r : Addr} {xs : List V} {o : HO} (h : H r = some (.lst xs)) : TS H (upd H r o) := fun a ys e => by
  rw [upd_ne (ne_of e h (by intro z; cases z))]
  exact e
theorem at0 {x : V} {xs : List V} : atI (x :: xs) 0 = some x := at_of (j := 0) rfl rfl
theorem at1 {x y : V} {xs : List V} : atI (x :: y :: xs) 1 = some y := at_of (j := 1) rfl rfl
def Dd.hd : Dd → Str
  | .mark (.out _) => "out"
  | .mark (.keep _ _ _) => "keep"
  | .mark (.way _) => "way"
  | .mark (.inn _) => "in"
  | .put _ _ => "put"
  | .say _ _ => "say"
  | .call _ => "call"
theorem dd_hd {H : Hp} {d : Dd} {v : V} (h : TD H (ddD d) v) : ∃ a xs, v = .ref a ∧ H a = some (.tup (.str d.hd :: xs)) := by
  cases d with
  | mark m =>
    cases m with
    | keep i j k => obtain ⟨a, x, y, z, u, e, h, e1, _⟩ := TD.t4 h; cases TD.s e1; exact ⟨a, _, e, h⟩
    | _ => obtain ⟨a, x, y, e, h, e1, _⟩ := TD.t2 h; cases TD.s e1; exact ⟨a, _, e, h⟩
  | call s => obtain ⟨a, x, y, e, h, e1, _⟩ := TD.t2 h; cases TD.s e1; exact ⟨a, _, e, h⟩
  | _ => obtain ⟨a, x, y, z, e, h, e1, _⟩ := TD.t3 h; cases TD.s e1; exact ⟨a, _, e, h⟩
abbrev marksV : List V := [.str "out", .str "keep", .str "way", .str "in"]
theorem in_marks (d : Dd) : inV (.str d.hd) marksV = !d.told := by
  cases d with
  | mark m =>
    cases m with
    | out _ => exact (by decide +kernel : inV (.str "out") marksV = true)
    | keep _ _ _ => exact (by decide +kernel : inV (.str "keep") marksV = true)
    | way _ => exact (by decide +kernel : inV (.str "way") marksV = true)
    | inn _ => exact (by decide +kernel : inV (.str "in") marksV = true)
  | put _ _ => exact (by decide +kernel : inV (.str "put") marksV = false)
  | say _ _ => exact (by decide +kernel : inV (.str "say") marksV = false)
  | call _ => exact (by decide +kernel : inV (.str "call") marksV = false)
theorem call_hd (d : Dd) : decide (V.str d.hd = V.str "call") = true ↔ ∃ s, d = .call s := by
  cases d with
  | mark m =>
    cases m with
    | out _ => exact ⟨fun h => absurd h (by decide +kernel : ¬ decide (V.str "out" = V.str "call") = true), fun ⟨_, h⟩ => nomatch h⟩
    | keep _ _ _ => exact ⟨fun h => absurd h (by decide +kernel : ¬ decide (V.str "keep" = V.str "call") = true), fun ⟨_, h⟩ => nomatch h⟩
    | way _ => exact ⟨fun h => absurd h (by decide +kernel : ¬ decide (V.str "way" = V.str "call") = true), fun ⟨_, h⟩ => nomatch h⟩
    | inn _ => exact ⟨fun h => absurd h (by decide +kernel : ¬ decide (V.str "in" = V.str "call") = true), fun ⟨_, h⟩ => nomatch h⟩
  | call s => exact ⟨fun _ => ⟨s, rfl⟩, fun _ => (by decide +kernel : decide (V.str "call" = V.str "call") = true)⟩
  | put _ _ => exact ⟨fun h => absurd h (by decide +kernel : ¬ decide (V.str "put" = V.str "call") = true), fun ⟨_, h⟩ => nomatch h⟩
  | say _ _ => exact ⟨fun h => absurd h (by decide +kernel : ¬ decide (V.str "say" = V.str "call") = true), fun ⟨_, h⟩ => nomatch h⟩
theorem jr_mark {d : Dd} (h : d.told = false) (bx : List Int) : done1 d bx = (bx, (done1 d bx).2) ∧ jrD (done1 d bx).2 = ddD d ∧ d.calls = [] := by
  cases d with
  | mark m => exact ⟨rfl, rfl, rfl⟩
  | _ => cases h
def strV (l : List Str) : List V := l.map V.str
/-- a tuple or a list of data -/
def SD (H : Hp) (v : V) (ds : List PyData) : Prop := ∃ a xs, v = .ref a ∧ (H a = some (.tup xs) ∨ H a = some (.lst xs)) ∧ TDs H ds xs
section
variable {P : Program} {w : World} {K : PySem.W.Frag} {mg : Str → Option Value} {base : Heap}
theorem for_seq {i : Nat} {a : Addr} {xs : List V} {g : TG} {tb : L2.TS} {D : Ends} {σ : L2.St} {H : Hp} (hσ : σ[i]? = some (some (.ref a))) (hx : H a = some (.tup xs) ∨ H a = some (.lst xs)) (Pv : Nat → L2.St → Hp → Prop) (h0 : Pv 0 σ H)
    (hl : ∀ i σ H', i ≤ xs.length → Pv i σ H' → ∀ o, H a = some o → H' a = some o)
    (hs : ∀ i x σ H, xs[i]? = some x → Pv i σ H → g x σ H fun σ2 H2 => tb { D with nx := Pv (i + 1), ct := Pv (i + 1), bk := D.nx } σ2 H2) (hd : ∀ σ H, Pv xs.length σ H → D.nx σ H) :
    tFor (fun σ H R => iTup K (tVar i) σ H R ∨ iList K (tVar i) σ H R) g tb D σ H := by
  rcases hx with hx | hx
  · exact .inl ⟨_, hσ, a, rfl, ⟨_, SqT.of hx⟩, for_tup (K := K) (a := a) (xs := xs) Pv h0 (fun i σ H' hi p => SqT.of (hl i σ H' hi p _ hx)) hs hd⟩
  · exact .inr ⟨_, hσ, a, rfl, ⟨_, SqL.of hx⟩, for_list (K := K) (a := a) (xs := xs) Pv h0 (fun i σ H' hi p => SqL.of (hl i σ H' hi p _ hx)) hs hd⟩
/-! ### a script done -/
def DdsOk (n : Nat) (ds : List Dd) : Prop := ∀ d ∈ ds, DdOk n d
theorem perf_take {ds : List Dd} {i : Nat} {d : Dd} (h : ds[i]? = some d) (bx : List Int) : perf (ds.take (i + 1)) bx = perf1 (perf (ds.take i) bx) d := by
  unfold perf
  rw [List.take_add_one, h, List.foldl_append]
  rfl
theorem perf_rows (ds : List Dd) : ∀ q : Pf, (ds.foldl perf1 q).2.1.length = q.2.1.length + ds.length ∧ (ds.foldl perf1 q).2.2.length ≤ q.2.2.length + ds.length := by
  induction ds with
  | nil => intro q; exact ⟨rfl, Nat.le_refl _⟩
  | cons d ds ih =>
    intro q
    obtain ⟨a, b⟩ := ih (perf1 q d)
    rw [List.foldl_cons, a, List.length_cons]
    refine ⟨by unfold perf1; rw [List.length_append]; simp; omega, Nat.le_trans b ?_⟩
    unfold perf1
    rw [List.length_append]
    have : d.calls.length ≤ 1 := by cases d <;> simp [Dd.calls]
    omega
theorem perf_len' (ds : List Dd) (bx : List Int) : (perf ds bx).1.length = bx.length := perf_len ds _
/-- a performed script's three lists at p -/
structure PfAt (H : Hp) (p c r k : Addr) (q : Pf) : Prop where
  tup : H p = some (.tup [.ref c, .ref r, .ref k])
  bx : H c = some (.lst (iV q.1))
  rows : TL H r (q.2.1.map jrD)
  calls : H k = some (.lst (strV q.2.2))
def spPerf (K : PySem.W.Frag) : Sp := fun vs H Q _ => ∃ (x : V) (b : Addr) (ds : List Dd) (bx : List Int), vs = [x, .ref b] ∧ SD H x (ds.map ddD) ∧ SqL K H b (iV bx) ∧ DdsOk bx.length ds ∧ bx.length ≤ 1000 ∧ ds.length ≤ 100 ∧
  ∀ (H' : Hp) (p c r k : Addr), Same H H' → H c = none → H r = none → H k = none → PfAt H' p c r k (perf ds bx) → Q (.ref p) H'
theorem ok_performed (T : Tp K mg) : GFn P w K mg base 3 "performed" ["script", "boxes"] (spPerf K) := by
  have G_done : GFn P w K mg base 2 "done" ["deed", "boxes"] (spDone K) := ok_done T
  refine gfn T.g_performed (mk_ok T.f_performed sc_performed (bn_performed "performed") (fun vs H Q E h => ?_) (fun cdv A outer s H vs Q E hr h => ?_))
  · obtain ⟨x, b, k, bx, rfl, _⟩ := h
    rfl
  · obtain ⟨x, b, ds, bx, rfl, ⟨a, xs, rfl, hx, txs⟩, hb, ok, hz, hd, q⟩ := h
    refine ⟨_, (pss_cons (ps_set (i := 2) sc_performed.nd rfl (Or.inl rfl) (pe_callTy call_list_of (by rfl) T.m_list (by decide +kernel) (pa_cons (pv 1) pa_nil)))
      (pss_cons (ps_set (i := 3) sc_performed.nd rfl (Or.inl rfl) (pe_lst pa_nil))
      (pss_cons (ps_set (i := 4) sc_performed.nd rfl (Or.inl rfl) (pe_lst pa_nil))
      (pss_cons (ps_for PassesOwn.never rfl (pi_or (pi_tup (pv 0)) (pi_list (pv 0))) (pg_name (i := 5) sc_performed.nd rfl (Or.inl rfl))
        (pss_one (ps_if (pt_cmpR op_in_seq (pe_ix ix_tup (pv 5) pe_int (fun _ _ => rfl)) (pe_glob (v := .ref (He.ga K "MARKS")) rfl T.g_MARKS rfl) (by rfl))
          (pss_one (ps_expr (pe_bm PySem.F.plainAttrs_list PySem.F.slot_list_append PySem.F.type_list_append mt_append (pv 3) (pa_cons (pv 5) pa_nil))))
          (pss_cons (ps_set (i := 6) sc_performed.nd rfl (Or.inl rfl) (pe_g G_done hr rfl (pa_cons (pv 5) (pa_cons (pv 2) pa_nil))))
          (pss_cons (ps_set (i := 2) sc_performed.nd rfl (Or.inl rfl) (pe_ix ix_tup (pv 6) pe_int (fun _ _ => rfl)))
          (pss_cons (ps_expr (pe_bm PySem.F.plainAttrs_list PySem.F.slot_list_append PySem.F.type_list_append mt_append (pv 3) (pa_cons (pe_ix ix_tup (pv 6) pe_int (fun _ _ => rfl)) pa_nil)))
          (pss_one (ps_if (pt_cmpR op_eq (pe_ix ix_tup (pv 5) pe_int (fun _ _ => rfl)) pe_str (nomark _))
            (pss_one (ps_expr (pe_bm PySem.F.plainAttrs_list PySem.F.slot_list_append PySem.F.type_list_append mt_append (pv 4) (pa_cons (pe_ix ix_tup (pv 5) pe_int (fun _ _ => rfl)) pa_nil))))
            pss_nil))))))))
      (pss_one (ps_ret (pe_tup (pa_cons (pv 2) (pa_cons (pv 3) (pa_cons (pv 4) pa_nil)))))))))), ?_⟩
    have hdl : xs.length = ds.length := by rw [txs.len, List.length_map]
    refine ⟨_, rfl, b, _, rfl, .inl hb, fun c nc => ?_⟩
    have s1 : Same H (upd H c (.lst (iV bx))) := same_upd nc
    refine ⟨Nat.zero_le _, fun r nr => ?_⟩
    have s2 : Same H (upd (upd H c (.lst (iV bx))) r (.lst [])) := s1.trans (same_upd nr)
    refine ⟨Nat.zero_le _, fun k nk => ?_⟩
    have s3 : Same H (upd (upd (upd H c (.lst (iV bx))) r (.lst [])) k (.lst [])) := s2.trans (same_upd nk)
    have cr : c ≠ r := ne_of_none upd_same nr
    have rk : r ≠ k := ne_of_none upd_same nk
    have ck : c ≠ k := ne_of_none (by rw [upd_ne cr]; exact upd_same) nk
    have nr0 : H r = none := s1.free nr
    have nk0 : H k = none := s2.free nk
    refine for_seq (a := a) (xs := xs) rfl (hx.imp (s3 _ _) (s3 _ _)) (fun i σ H' => ∃ v5 v6 c' ys, σ = [some (.ref a), some (.ref b), some (.ref c'), some (.ref r), some (.ref k), v5, v6] ∧ Same H H' ∧ H c' = none ∧ c' ≠ r ∧ c' ≠ k ∧
        H' c' = some (.lst (iV (perf (ds.take i) bx).1)) ∧ H' r = some (.lst ys) ∧ TDs H' ((perf (ds.take i) bx).2.1.map jrD) ys ∧ H' k = some (.lst (strV (perf (ds.take i) bx).2.2)))
      ⟨none, none, c, [], rfl, s3, nc, cr, ck, by rw [upd_ne ck, upd_ne cr, upd_same]; rfl, by rw [upd_ne rk, upd_same], TDs.nil, by rw [upd_same]; rfl⟩ (fun i σ H' _ ⟨_, _, _, _, _, e, _⟩ o ho => ?_) ?_ ?_
    · rcases hx with hx | hx
      · rw [s3 _ _ hx] at ho
        cases ho
        exact e _ _ hx
      · rw [s3 _ _ hx] at ho
        cases ho
        exact e _ _ hx
    · rintro i y σ H' hy ⟨v5, v6, c', ys, rfl, sm, nc', cr', ck', ec, er, tys, ek⟩
      obtain ⟨pd, hpd, td⟩ := txs.get' hy
      rw [List.getElem?_map] at hpd
      obtain ⟨d, hd', rfl⟩ := Option.map_eq_some_iff.mp hpd
      have hi : i < ds.length := (List.getElem?_eq_some_iff.mp hd').1
      have td' := TD.mono (TS.of sm) _ _ td
      obtain ⟨f, zs, rfl, hf⟩ := dd_hd td'
      obtain ⟨rl, kl⟩ := perf_rows (ds.take i) (bx, [], [])
      have hti : (ds.take i).length ≤ 100 := by rw [List.length_take]; omega
      have hyl : ys.length < sizeLine := small1000 (by
        have e := tys.len
        rw [List.length_map] at e
        have rl' : (perf (ds.take i) bx).2.1.length = 0 + (ds.take i).length := rl
        omega)
      have hkl : (strV (perf (ds.take i) bx).2.2).length < sizeLine := small1000 (by
        unfold strV
        rw [List.length_map]
        have kl' : (perf (ds.take i) bx).2.2.length ≤ 0 + (ds.take i).length := kl
        omega)
      have pt := perf_take hd' bx
      refine ⟨_, rfl, f, _, _, _, rfl, rfl, SqT.of hf, at0, _, _, rfl, .inr (T.marks _), rfl, by decide +kernel, _, rfl, ?_⟩
      rw [if_neg Bool.false_ne_true, in_marks]
      cases htl : d.told with
      | false =>
        obtain ⟨m1, m2, m3⟩ := jr_mark htl (perf (ds.take i) bx).1
        refine ⟨_, rfl, .inl ⟨rfl, _, SqL.of er⟩, _, rfl, r, _, _, rfl, rfl, er, hyl, ?_⟩
        have tp : TS H' (upd H' r (.lst (ys ++ [.ref f]))) := ts_put er
        refine ⟨_, _, c', _, rfl, same_put sm nr0, nc', cr', ck', ?_, upd_same, ?_, ?_⟩
        · rw [upd_ne cr', ec, pt]
          unfold perf1
          rw [m1]
        · rw [pt]
          unfold perf1
          rw [List.map_append]
          refine (TDs.mono tp _ _ tys).snoc ?_
          rw [m2]
          exact TD.mono tp _ _ td'
        · rw [upd_ne rk.symm, ek, pt]
          unfold perf1
          rw [m3, List.append_nil]
      | true =>
        refine ⟨_, rfl, _, rfl, _, c', d, (perf (ds.take i) bx).1, rfl, td', SqL.of ec, ?_, htl, by rw [perf_len']; exact hz, fun H1 p c1 y s1' hp nc1 hc1 ty => ?_⟩
        · rw [perf_len']
          exact ok d (List.mem_of_getElem? hd')
        have sm1 := sm.trans s1'
        have er1 := s1' _ _ er
        have tys1 := TDs.mono (TS.of s1') _ _ tys
        have c1r : c1 ≠ r := (ne_of_none er nc1).symm
        have c1k : c1 ≠ k := (ne_of_none ek nc1).symm
        have hf1 := s1' _ _ hf
        refine ⟨_, rfl, p, _, _, _, rfl, rfl, SqT.of hp, rfl, ?_⟩
        refine ⟨_, rfl, .inl ⟨rfl, _, SqL.of er1⟩, _, rfl, p, _, _, _, rfl, rfl, SqT.of hp, rfl, r, _, _, rfl, rfl, er1, hyl, ?_⟩
        have tp : TS H1 (upd H1 r (.lst (ys ++ [y]))) := ts_put er1
        have hf2 := tp _ _ hf1
        have k1 : (upd H1 r (.lst (ys ++ [y]))) k = some (.lst (strV (perf (ds.take i) bx).2.2)) := by
          rw [upd_ne rk.symm]
          exact s1' _ _ ek
        have rows : TDs (upd H1 r (.lst (ys ++ [y]))) ((perf (ds.take (i + 1)) bx).2.1.map jrD) (ys ++ [y]) := by
          rw [pt]
          unfold perf1
          rw [List.map_append]
          exact (TDs.mono tp _ _ tys1).snoc (TD.mono tp _ _ ty)
        refine ⟨_, rfl, f, _, _, _, rfl, rfl, SqT.of hf2, at0, rfl, _, rfl, ite2 (fun e => ?_) (fun e => ?_)⟩
        · obtain ⟨z, rfl⟩ := (call_hd d).mp e
          obtain ⟨f', x1, x2, e1, hf3, _, e3⟩ := TD.t2 (TD.mono ((TS.of s1').trans tp) _ _ td')
          cases e1
          obtain rfl := TD.s e3
          refine ⟨_, rfl, .inl ⟨rfl, _, SqL.of k1⟩, _, rfl, f, _, _, _, rfl, rfl, SqT.of hf3, rfl, k, _, _, rfl, rfl, k1, hkl, ?_⟩
          refine ⟨_, _, c1, _, rfl, same_put (same_put sm1 nr0) nk0, sm.free nc1, c1r, c1k, ?_, by rw [upd_ne rk]; exact upd_same, TDs.mono (ts_put k1) _ _ rows, ?_⟩
          · rw [upd_ne c1k, upd_ne c1r, hc1, pt]
            rfl
          · rw [upd_same, pt]
            unfold perf1 strV Dd.calls
            rw [List.map_append]
            rfl
        · have hc : d.calls = [] := by
            cases d with
            | call z => exact absurd ((call_hd (.call z)).mpr ⟨z, rfl⟩) e
            | _ => rfl
          refine ⟨_, _, c1, _, rfl, same_put sm1 nr0, sm.free nc1, c1r, c1k, ?_, upd_same, rows, ?_⟩
          · rw [upd_ne c1r, hc1, pt]
            rfl
          · rw [k1, pt]
            unfold perf1
            rw [hc, List.append_nil]
    · rintro σ H' ⟨v5, v6, c', ys, rfl, sm, nc', cr', ck', ec, er, tys, ek⟩
      rw [hdl, List.take_length] at ec tys ek
      refine ⟨_, rfl, _, rfl, _, rfl, by show 3 ≤ sizeLine; decide, fun p np => ?_⟩
      have s4 := same_upd (o := .tup [.ref c', .ref r, .ref k]) np
      exact q _ p c' r k (sm.trans s4) nc' nr0 nk0 ⟨upd_same, s4 _ _ ec, ⟨ys, s4 _ _ er, TDs.mono (TS.of s4) _ _ tys⟩, s4 _ _ ek⟩
end
end K56
set_option Elab.async false
set_option linter.all false
set_option maxRecDepth 100000
set_option maxHeartbeats 4000000
namespace K56
open PySem PySem.Spec PyProof.Rows L2
/-! ### shapes -/
def flatD (d : PyData) : Prop := d.canLay0 = true ∧ d.depth ≤ 10
theorem lay_all {ds : List PyData} (h : ∀ d ∈ ds, flatD d) : PyData.canLayAll0 ds = true ∧ PyData.depthAll ds ≤ 10 := by
  induction ds with
  | nil => exact ⟨rfl, Nat.zero_le _⟩
  | cons d ds ih =>
    obtain ⟨a, b⟩ := ih fun x hx => h x (List.mem_cons_of_mem _ hx)
    obtain ⟨c, e⟩ := h d List.mem_cons_self
    refine ⟨?_, ?_⟩
    · show (d.canLay0 && PyData.canLayAll0 ds) = true
      rw [c, a]; rfl
    · show max d.depth (PyData.depthAll ds) ≤ 10
      omega
theorem shaped_list {ds : List PyData} (h : ∀ d ∈ ds, flatD d) : SeqAt.shaped (.list ds) = true := by
  obtain ⟨a, b⟩ := lay_all h
  unfold SeqAt.shaped
  rw [Bool.and_eq_true_iff]
  refine ⟨a, decide_eq_true ?_⟩
  show PyData.depthAll ds + 1 ≤ 64
  omega
theorem eqv_nil (ds : List PyData) : PyData.eqv (.list ds) (.list []) = ds.isEmpty := by
  cases ds with
  | nil => rfl
  | cons d ds => rfl
theorem tm_flat (t : Tm) : flatD (tmD t) := ⟨rfl, by show max 0 (max 0 0) + 1 ≤ 10; decide⟩
theorem dd_flat {n : Nat} {d : Dd} (h : DdOk n d) : flatD (ddD d) := by
  cases d with
  | mark m =>
    cases m with
    | out _ => exact ⟨(by decide +kernel : (PyData.strOk "out" && true) = true), by show max 0 (max 0 0) + 1 ≤ 10; decide⟩
    | keep _ _ _ => exact ⟨(by decide +kernel : (PyData.strOk "keep" && true) = true), by show max 0 (max 0 (max 0 (max 0 0))) + 1 ≤ 10; decide⟩
    | way _ => exact ⟨(by decide +kernel : (PyData.strOk "way" && true) = true), by show max 0 (max 0 0) + 1 ≤ 10; decide⟩
    | inn _ => exact ⟨(by decide +kernel : (PyData.strOk "in" && true) = true), by show max 0 (max 0 0) + 1 ≤ 10; decide⟩
  | put b t => exact ⟨(by decide +kernel : (PyData.strOk "put" && true) = true), by show max 0 (max 0 (max (max 0 (max 0 0) + 1) 0)) + 1 ≤ 10; decide⟩
  | say w t =>
    refine ⟨?_, by show max 0 (max 0 (max (max 0 (max 0 0) + 1) 0)) + 1 ≤ 10; decide⟩
    show (PyData.strOk "say" && (PyData.strOk w && true)) = true
    rw [h.2]
    decide +kernel
  | call w =>
    refine ⟨?_, by show max 0 (max 0 0) + 1 ≤ 10; decide⟩
    show (PyData.strOk "call" && (PyData.strOk w && true)) = true
    rw [show PyData.strOk w = true from h]
    decide +kernel
theorem dds_flat {n : Nat} {ds : List Dd} (h : DdsOk n ds) : ∀ x ∈ ds.map ddD, flatD x := fun x hx => by
  obtain ⟨d, hd, rfl⟩ := List.mem_map.mp hx
  exact dd_flat (h d hd)
theorem dds_tolds {n : Nat} {ds : List Dd} (h : DdsOk n ds) : DdsOk n (tolds ds) := fun d hd => h d (List.mem_filter.mp hd).1
/-! ### journal rows by their first words -/
def Jr.hd : Jr → Str
  | .mark (.out _) => "out"
  | .mark (.keep _ _ _) => "keep"
  | .mark (.way _) => "way"
  | .mark (.inn _) => "in"
  | .put _ _ _ => "put"
  | .say _ _ => "say"
  | .call _ => "call"
  | .sign _ => "sign"
  | .rest _ => "rest"
theorem jr_hd {H : Hp} {j : Jr} {v : V} (h : TD H (jrD j) v) : ∃ a xs, v = .ref a ∧ H a = some (.tup (.str j.hd :: xs)) := by
  cases j with
  | mark m =>
    cases m with
    | keep i j k => obtain ⟨a, x, y, z, u, e, h, e1, _⟩ := TD.t4 h; cases TD.s e1; exact ⟨a, _, e, h⟩
    | _ => obtain ⟨a, x, y, e, h, e1, _⟩ := TD.t2 h; cases TD.s e1; exact ⟨a, _, e, h⟩
  | put b x y => obtain ⟨a, x, y, z, u, e, h, e1, _⟩ := TD.t4 h; cases TD.s e1; exact ⟨a, _, e, h⟩
  | say w n => obtain ⟨a, x, y, z, e, h, e1, _⟩ := TD.t3 h; cases TD.s e1; exact ⟨a, _, e, h⟩
  | _ => obtain ⟨a, x, y, e, h, e1, _⟩ := TD.t2 h; cases TD.s e1; exact ⟨a, _, e, h⟩
abbrev sEq (x y : Str) : Bool := decide (V.str x = V.str y)
theorem put_hd (j : Jr) : (∃ b x y, j = .put b x y) ∨ (sEq j.hd "put" = false ∧ ∀ bx, undo1 bx j = bx) := by
  cases j with
  | mark m =>
    cases m with
    | out _ => exact .inr ⟨(by decide +kernel : sEq "out" "put" = false), fun _ => rfl⟩
    | keep _ _ _ => exact .inr ⟨(by decide +kernel : sEq "keep" "put" = false), fun _ => rfl⟩
    | way _ => exact .inr ⟨(by decide +kernel : sEq "way" "put" = false), fun _ => rfl⟩
    | inn _ => exact .inr ⟨(by decide +kernel : sEq "in" "put" = false), fun _ => rfl⟩
  | put b x y => exact .inl ⟨b, x, y, rfl⟩
  | say _ _ => exact .inr ⟨(by decide +kernel : sEq "say" "put" = false), fun _ => rfl⟩
  | call _ => exact .inr ⟨(by decide +kernel : sEq "call" "put" = false), fun _ => rfl⟩
  | sign _ => exact .inr ⟨(by decide +kernel : sEq "sign" "put" = false), fun _ => rfl⟩
  | rest _ => exact .inr ⟨(by decide +kernel : sEq "rest" "put" = false), fun _ => rfl⟩
def NoMove (x : Str) : Prop := sEq x "in" = false ∧ sEq x "out" = false ∧ sEq x "keep" = false
theorem move_hd (j : Jr) : (∃ i, j = .mark (.inn i)) ∨ (∃ i, j = .mark (.out i)) ∨ (∃ a b c, j = .mark (.keep a b c)) ∨ NoMove j.hd := by
  cases j with
  | mark m =>
    cases m with
    | out i => exact .inr (.inl ⟨i, rfl⟩)
    | keep a b c => exact .inr (.inr (.inl ⟨a, b, c, rfl⟩))
    | inn i => exact .inl ⟨i, rfl⟩
    | way _ => exact .inr (.inr (.inr (show NoMove "way" from ⟨by decide +kernel, by decide +kernel, by decide +kernel⟩)))
  | put _ _ _ => exact .inr (.inr (.inr (show NoMove "put" from ⟨by decide +kernel, by decide +kernel, by decide +kernel⟩)))
  | say _ _ => exact .inr (.inr (.inr (show NoMove "say" from ⟨by decide +kernel, by decide +kernel, by decide +kernel⟩)))
  | call _ => exact .inr (.inr (.inr (show NoMove "call" from ⟨by decide +kernel, by decide +kernel, by decide +kernel⟩)))
  | sign _ => exact .inr (.inr (.inr (show NoMove "sign" from ⟨by decide +kernel, by decide +kernel, by decide +kernel⟩)))
  | rest _ => exact .inr (.inr (.inr (show NoMove "rest" from ⟨by decide +kernel, by decide +kernel, by decide +kernel⟩)))
/-- a journal row fits n boxes, its texts are plain -/
def JrOk (n : Nat) : Jr → Prop
  | .put b _ _ => 0 ≤ b ∧ b < n
  | .say w _ => PyData.strOk w = true
  | .call s => PyData.strOk s = true
  | .sign s => PyData.strOk s = true
  | _ => True
/-- what walking back the rows (the last one first) makes of the open moods -/
inductive Back : List Jr → List Int → List Int → Prop where
  | nil (o : List Int) : Back [] o o
  | inn {i : Int} {rs : List Jr} {o : List Int} (h : 1 ≤ i) : Back rs [0] o → Back (.mark (.inn i) :: rs) [0, i] o
  | out {i : Int} {rs : List Jr} {o : List Int} (h : 1 ≤ i) : Back rs [0, i] o → Back (.mark (.out i) :: rs) [0] o
  | other {j : Jr} {rs : List Jr} {o o' : List Int} (h : NoMove j.hd) : Back rs o o' → Back (j :: rs) o o'
theorem noMove_in {i : Int} (h : NoMove (Jr.mark (.inn i)).hd) : False := absurd (show sEq "in" "in" = false from h.1) (by decide +kernel)
theorem noMove_out {i : Int} (h : NoMove (Jr.mark (.out i)).hd) : False := absurd (show sEq "out" "out" = false from h.2.1) (by decide +kernel)
theorem noMove_keep {a b c : Int} (h : NoMove (Jr.mark (.keep a b c)).hd) : False := absurd (show sEq "keep" "keep" = false from h.2.2) (by decide +kernel)
section
variable {P : Program} {w : World} {K : PySem.W.Frag} {mg : Str → Option Value} {base : Heap}
def spUndone (K : PySem.W.Frag) : Sp := fun vs H Q _ => ∃ (x : V) (b : Addr) (j : Jr) (bx : List Int), vs = [x, .ref b] ∧ TD H (jrD j) x ∧ SqL K H b (iV bx) ∧ JrOk bx.length j ∧
  ∀ (H' : Hp) (c : Addr), Same H H' → H c = none → H' c = some (.lst (iV (undo1 bx j))) → Q (.ref c) H'
theorem ok_undone (T : Tp K mg) : GFn P w K mg base 1 "undone" ["row", "boxes"] (spUndone K) := by
  refine gfn T.g_undone (mk_ok T.f_undone sc_undone (bn_undone "undone") (fun vs H Q E h => ?_) (fun cdv A outer s H vs Q E hr h => ?_))
  · obtain ⟨x, b, k, bx, rfl, _⟩ := h
    rfl
  · obtain ⟨x, b, j, bx, rfl, td, hb, ok, q⟩ := h
    refine ⟨_, (pss_cons (ps_set (i := 2) sc_undone.nd rfl (Or.inl rfl) (pe_callTy call_list_of (by rfl) T.m_list (by decide +kernel) (pa_cons (pv 1) pa_nil)))
      (pss_cons (ps_if (pt_cmpR op_eq (pe_ix ix_tup (pv 0) pe_int (fun _ _ => rfl)) pe_str (nomark _))
        (pss_one (ps_asg (pe_ix ix_tup (pv 0) pe_int (fun _ _ => rfl)) (pg_sub (pv 2) (pe_ix ix_tup (pv 0) pe_int (fun _ _ => rfl)) set_list)))
        pss_nil)
      (pss_one (ps_ret (pv 2))))), ?_⟩
    refine ⟨_, rfl, b, _, rfl, .inl hb, fun c nc => ?_⟩
    have s1 : Same H (upd H c (.lst (iV bx))) := same_upd nc
    have td1 := TD.mono (TS.of s1) _ _ td
    rcases put_hd j with ⟨i, y, z, rfl⟩ | ⟨e, eu⟩
    · obtain ⟨a, x1, x2, x3, x4, rfl, ha, e1, e2, e3, e4⟩ := TD.t4 td1
      obtain rfl := TD.s e1
      obtain rfl := TD.i e2
      obtain rfl := TD.i e3
      refine ⟨_, rfl, a, _, _, _, rfl, rfl, SqT.of ha, rfl, rfl, _, rfl, iteT ?_⟩
      refine ⟨_, rfl, a, _, _, _, rfl, rfl, SqT.of ha, rfl, _, rfl, _, rfl, a, _, _, _, rfl, rfl, SqT.of ha, rfl, c, _, _, _, rfl, rfl, upd_same, ixN_iV ok, ?_⟩
      rw [upd_upd, set_iV]
      exact ⟨_, rfl, q _ c (same_upd nc) nc upd_same⟩
    · obtain ⟨a, xs, rfl, ha⟩ := jr_hd td1
      refine ⟨_, rfl, a, _, _, _, rfl, rfl, SqT.of ha, at0, rfl, _, rfl, ?_⟩
      rw [show decide (V.str j.hd = V.str "put") = false from e]
      refine iteF ⟨_, rfl, q _ c s1 nc ?_⟩
      rw [eu]
      exact upd_same
theorem perm_pair {ns : List Int} {i : Int} (h : 1 ≤ i) (p : ns.Perm [0, i]) (o : ns.Pairwise (· ≤ ·)) : ns = [0, i] := by
  refine PySem.W.ksm_same p o ?_
  refine List.pairwise_cons.mpr ⟨fun y hy => ?_, List.pairwise_cons.mpr ⟨fun y hy => (by cases hy), List.Pairwise.nil⟩⟩
  rw [List.mem_singleton.mp hy]
  omega
def spBack (K : PySem.W.Frag) : Sp := fun vs H Q _ => ∃ (x y a1 a2 a3 : Addr) (js : List Jr) (o o' mem bx : List Int), vs = [.ref x, .ref y] ∧ TL H x (js.map jrD) ∧ H y = some (.tup [.ref a1, .ref a2, .ref a3]) ∧ H a1 = some (.lst (iV o)) ∧ H a2 = some (.lst (iV mem)) ∧ H a3 = some (.lst (iV bx)) ∧
  (∀ j ∈ js, JrOk bx.length j) ∧ Back js.reverse o o' ∧ ∀ (H' : Hp) (p c1 c2 c3 : Addr), Same H H' → H' p = some (.tup [.ref c1, .ref c2, .ref c3]) → H c1 = none → H c2 = none → H' c1 = some (.lst (iV o')) → H' c2 = some (.lst (iV mem)) → Q (.ref p) H'
theorem ok_walked_back (T : Tp K mg) : GFn P w K mg base 2 "walked_back" ["rows", "state"] (spBack K) := by
  have G_undone : GFn P w K mg base 1 "undone" ["row", "boxes"] (spUndone K) := ok_undone T
  refine gfn T.g_walked_back (mk_ok T.f_walked_back sc_walked_back (bn_walked_back "walked_back") (fun vs H Q E h => ?_) (fun cdv A outer s H vs Q E hr h => ?_))
  · obtain ⟨x, y, a1, a2, a3, js, o, o', mem, bx, rfl, _⟩ := h
    rfl
  · obtain ⟨x, y, a1, a2, a3, js, o, o', mem, bx, rfl, ⟨xs, hx, txs⟩, hy, h1, h2, h3, ok, bk, q⟩ := h
    refine ⟨_, (pss_cons (ps_set (i := 2) sc_walked_back.nd rfl (Or.inl rfl) (pe_callTy call_list_of (by rfl) T.m_list (by decide +kernel) (pa_cons (pe_ix ix_tup (pv 1) pe_int (fun _ _ => rfl)) pa_nil)))
      (pss_cons (ps_set (i := 3) sc_walked_back.nd rfl (Or.inl rfl) (pe_callTy call_list_of (by rfl) T.m_list (by decide +kernel) (pa_cons (pe_ix ix_tup (pv 1) pe_int (fun _ _ => rfl)) pa_nil)))
      (pss_cons (ps_set (i := 4) sc_walked_back.nd rfl (Or.inl rfl) (pe_callTy call_list_of (by rfl) T.m_list (by decide +kernel) (pa_cons (pe_ix ix_tup (pv 1) pe_int (fun _ _ => rfl)) pa_nil)))
      (pss_cons (ps_for PassesOwn.never rfl (pi_reversed (by rfl) T.m_reversed (pa_cons (pv 0) pa_nil)) (pg_name (i := 5) sc_walked_back.nd rfl (Or.inl rfl))
        (pss_one (ps_if (pt_cmpR op_eq (pe_ix ix_tup (pv 5) pe_int (fun _ _ => rfl)) pe_str (nomark _))
          (pss_one (ps_expr (pe_bm PySem.F.plainAttrs_list PySem.F.slot_list_remove PySem.F.type_list_remove mt_remove (pv 2) (pa_cons (pe_ix ix_tup (pv 5) pe_int (fun _ _ => rfl)) pa_nil))))
          (pss_one (ps_if (pt_cmpR op_eq (pe_ix ix_tup (pv 5) pe_int (fun _ _ => rfl)) pe_str (nomark _))
            (pss_one (ps_set (i := 2) sc_walked_back.nd rfl (Or.inl rfl) (pe_callB cr_sorted (by rfl) T.m_sorted (by decide +kernel) (pa_cons (pe_op op_cat (pv 2) (pe_lst (pa_cons (pe_ix ix_tup (pv 5) pe_int (fun _ _ => rfl)) pa_nil))) pa_nil))))
            (pss_one (ps_if (pt_cmpR op_eq (pe_ix ix_tup (pv 5) pe_int (fun _ _ => rfl)) pe_str (nomark _))
              (pss_one (ps_asg (pe_ix ix_tup (pv 5) pe_int (fun _ _ => rfl)) (pg_sub (pv 3) (pe_ix ix_tup (pv 5) pe_int (fun _ _ => rfl)) set_list)))
              (pss_one (ps_set (i := 4) sc_walked_back.nd rfl (Or.inl rfl) (pe_g G_undone hr rfl (pa_cons (pv 5) (pa_cons (pv 4) pa_nil))))))))))))
      (pss_one (ps_ret (pe_tup (pa_cons (pv 2) (pa_cons (pv 3) (pa_cons (pv 4) pa_nil)))))))))), ?_⟩
    refine ⟨_, rfl, y, _, _, _, rfl, rfl, SqT.of hy, rfl, a1, _, rfl, .inl (SqL.of h1), fun c1 n1 => ?_⟩
    have s1 : Same H (upd H c1 (.lst (iV o))) := same_upd n1
    refine ⟨_, rfl, y, _, _, _, rfl, rfl, SqT.of (s1 _ _ hy), rfl, a2, _, rfl, .inl (SqL.of (s1 _ _ h2)), fun c2 n2 => ?_⟩
    have s2 := s1.trans (same_upd (o := .lst (iV mem)) n2)
    refine ⟨_, rfl, y, _, _, _, rfl, rfl, SqT.of (s2 _ _ hy), rfl, a3, _, rfl, .inl (SqL.of (s2 _ _ h3)), fun c3 n3 => ?_⟩
    have s3 := s2.trans (same_upd (o := .lst (iV bx)) n3)
    have c12 : c1 ≠ c2 := ne_of_none upd_same n2
    have c23 : c2 ≠ c3 := ne_of_none upd_same n3
    have c13 : c1 ≠ c3 := ne_of_none (by rw [upd_ne c12]; exact upd_same) n3
    have m2 : H c2 = none := s1.free n2
    refine ⟨_, rfl, x, xs, rfl, SqL.of (s3 _ _ hx), for_it (walk_rev (K := K) (a := x) (xs := xs)) (fun i σ H' => ∃ v5 e1 e3 oi bxi, σ = [some (.ref x), some (.ref y), some (.ref e1), some (.ref c2), some (.ref e3), v5] ∧ Same H H' ∧ H e1 = none ∧ e1 ≠ c2 ∧ e1 ≠ e3 ∧
        H' e1 = some (.lst (iV oi)) ∧ Back (js.reverse.drop i) oi o' ∧ H' c2 = some (.lst (iV mem)) ∧ H' e3 = some (.lst (iV bxi)) ∧ bxi.length = bx.length)
      ⟨none, c1, c3, o, bx, rfl, s3, n1, c12, c13, by rw [upd_ne c13, upd_ne c12, upd_same], bk, by rw [upd_ne c23, upd_same], upd_same, rfl⟩ (fun i σ H' _ ⟨_, _, _, _, _, _, e, _⟩ => SqL.of (e _ _ hx)) ?_ ?_⟩
    · rintro i v σ H' H'' hi ⟨v5, e1, e3, oi, bxi, rfl, sm, ne1, ne12, ne13, he1, hbk, hc2, he3, hbl⟩ ⟨rfl, hv⟩
      have hxl : xs.length = js.length := by rw [txs.len, List.length_map]
      have hji : js.length - 1 - i < js.length := by omega
      obtain ⟨pd, hpd, td⟩ := txs.get' hv
      rw [hxl, List.getElem?_map] at hpd
      obtain ⟨j, hj, rfl⟩ := Option.map_eq_some_iff.mp hpd
      have hrev : js.reverse[i]? = some j := by
        rw [List.getElem?_reverse (by omega)]
        exact hj
      have hil : i < js.reverse.length := (List.getElem?_eq_some_iff.mp hrev).1
      have hdrop : js.reverse.drop i = j :: js.reverse.drop (i + 1) := by
        rw [List.drop_eq_getElem_cons hil, (List.getElem?_eq_some_iff.mp hrev).2]
      have td' := TD.mono (TS.of sm) _ _ td
      have okj := ok j (List.mem_of_getElem? hj)
      rw [hdrop] at hbk
      rcases move_hd j with ⟨z, rfl⟩ | ⟨z, rfl⟩ | ⟨a, b, c, rfl⟩ | hno
      · obtain ⟨f, y1, y2, rfl, hf, q1, q2⟩ := TD.t2 td'
        obtain rfl := TD.s q1
        obtain rfl := TD.i q2
        refine ⟨_, rfl, f, _, _, _, rfl, rfl, SqT.of hf, rfl, rfl, _, rfl, iteT ?_⟩
        cases hbk with
        | other h _ => exact (noMove_in h).elim
        | inn hz hb' =>
          refine ⟨_, rfl, .inl ⟨rfl, _, SqL.of he1⟩, _, rfl, f, _, _, _, rfl, rfl, SqT.of hf, rfl, e1, [0, z], z, 1, rfl, rfl, he1, rfl, fun m hm => ?_, ?_⟩
          · obtain rfl : m = 0 := by omega
            intro e
            have e2 : (0 : Int) = z := Option.some.inj e
            omega
          · exact ⟨_, e1, e3, [0], bxi, rfl, same_put sm ne1, ne1, ne12, ne13, upd_same, hb', by rw [upd_ne ne12.symm]; exact hc2, by rw [upd_ne ne13.symm]; exact he3, hbl⟩
      · obtain ⟨f, y1, y2, rfl, hf, q1, q2⟩ := TD.t2 td'
        obtain rfl := TD.s q1
        obtain rfl := TD.i q2
        refine ⟨_, rfl, f, _, _, _, rfl, rfl, SqT.of hf, rfl, rfl, _, rfl, iteF ?_⟩
        refine ⟨_, rfl, f, _, _, _, rfl, rfl, SqT.of hf, rfl, rfl, _, rfl, iteT ?_⟩
        cases hbk with
        | other h _ => exact (noMove_out h).elim
        | out hz hb' =>
          refine ⟨_, rfl, _, rfl, f, _, _, _, rfl, rfl, SqT.of hf, rfl, by show 1 ≤ sizeLine; decide, fun l nl => ?_⟩
          have t1 := same_upd (o := .lst [.int z]) nl
          refine ⟨e1, l, _, _, rfl, rfl, t1 _ _ he1, upd_same, by show 2 ≤ sizeLine; decide, fun l2 nl2 => ?_⟩
          have t2 := t1.trans (same_upd (o := .lst (iV [0] ++ [.int z])) nl2)
          refine ⟨l2, [0, z], rfl, SqL.of upd_same, by show 2 < 64; decide, fun ns p hp ho np => ?_⟩
          obtain rfl := perm_pair hz hp ho
          have t3 := t2.trans (same_upd (o := .lst ([0, z].map V.int)) np)
          have m1 : (upd (upd H'' l (.lst [.int z])) l2 (.lst (iV [0] ++ [.int z]))) p = none := np
          have p0 : H'' p = none := t2.free np
          exact ⟨_, p, e3, [0, z], bxi, rfl, sm.trans t3, sm.free p0, (ne_of_none hc2 p0).symm, (ne_of_none he3 p0).symm, upd_same, hb', t3 _ _ hc2, t3 _ _ he3, hbl⟩
      · cases hbk with
        | other h _ => exact (noMove_keep h).elim
      · obtain ⟨f, zs, rfl, hf⟩ := jr_hd td'
        refine ⟨_, rfl, f, _, _, _, rfl, rfl, SqT.of hf, at0, rfl, _, rfl, ?_⟩
        rw [show decide (V.str j.hd = V.str "in") = false from hno.1]
        refine iteF ⟨_, rfl, f, _, _, _, rfl, rfl, SqT.of hf, at0, rfl, _, rfl, ?_⟩
        rw [show decide (V.str j.hd = V.str "out") = false from hno.2.1]
        refine iteF ⟨_, rfl, f, _, _, _, rfl, rfl, SqT.of hf, at0, rfl, _, rfl, ?_⟩
        rw [show decide (V.str j.hd = V.str "keep") = false from hno.2.2]
        refine iteF ⟨_, rfl, _, rfl, _, e3, j, bxi, rfl, td', SqL.of he3, by rw [hbl]; exact okj, fun H3 c s4 nc hc => ?_⟩
        refine ⟨_, e1, c, oi, undo1 bxi j, rfl, sm.trans s4, ne1, ne12, ne_of_none he1 nc, s4 _ _ he1, ?_, s4 _ _ hc2, hc, ?_⟩
        · cases hbk with
          | inn _ _ => exact (noMove_in hno).elim
          | out _ _ => exact (noMove_out hno).elim
          | other _ hb' => exact hb'
        · rw [← hbl]
          cases j <;> simp [undo1]
    · rintro σ H' ⟨v5, e1, e3, oi, bxi, rfl, sm, ne1, ne12, ne13, he1, hbk, hc2, he3, hbl⟩
      have hxl : xs.length = js.reverse.length := by rw [txs.len, List.length_map, List.length_reverse]
      rw [hxl, List.drop_length] at hbk
      cases hbk
      refine ⟨_, rfl, _, rfl, _, rfl, by show 3 ≤ sizeLine; decide, fun p np => ?_⟩
      have s4 := same_upd (o := .tup [.ref e1, .ref c2, .ref e3]) np
      exact q _ p e1 c2 e3 (sm.trans s4) upd_same ne1 m2 (s4 _ _ he1) (s4 _ _ hc2)
end
end K56
set_option Elab.async false
set_option linter.all false
set_option maxRecDepth 100000
set_option maxHeartbeats 4000000
namespace K56
open PySem PySem.Spec PyProof.Rows L2
/-! ### objects -/
abbrev Fl := List (Str × V)
abbrev Xn := LamX.ExtN
theorem xn_of {H H' : Hp} (s : Same H H') : Xn H H' := LamX.ExtN.of s
theorem xn_l {H H' : Hp} {a : Addr} {xs : List V} (s : Xn H H') (h : H a = some (.lst xs)) : H' a = some (.lst xs) := s a _ h fun _ z => nomatch z
theorem xn_t {H H' : Hp} {a : Addr} {xs : List V} (s : Xn H H') (h : H a = some (.tup xs)) : H' a = some (.tup xs) := s a _ h fun _ z => nomatch z
theorem xn_i {H H' : Hp} {a C dx : Addr} {fs : Fl} (s : Xn H H') (h : H a = some (.ins C dx fs)) : H' a = some (.ins C dx fs) := s a _ h fun _ z => nomatch z
theorem xn_d {H H' : Hp} {a : Addr} {kvs : List (List Key × V)} (s : Xn H H') (h : H a = some (.dT kvs)) : H' a = some (.dT kvs) := s a _ h fun _ z => nomatch z
theorem xn_ts {H H' : Hp} (s : Xn H H') : TS H H' := fun a xs h => xn_t s h
theorem TL.xn {H H' : Hp} {a : Addr} {ds : List PyData} (h : TL H a ds) (s : Xn H H') : TL H' a ds := h.mono (xn_ts s) fun xs q => xn_l s q
def trF (k e s : Addr) : Fl := [("kinds", .ref k), ("elders", .ref e), ("starts", .ref s)]
structure TreeAt (K : PySem.W.Frag) (H : Hp) (t : Addr) (n : Nat) : Prop where
  ex : ∃ dx k e s, H t = some (.ins (He.ga K "Tree") dx (trF k e s)) ∧ H k = some (.lst (strV (("one" : Str) :: List.replicate n ("leaf" : Str)))) ∧ H e = some (.lst (iV ((-1) :: List.replicate n 0))) ∧ H s = some (.lst (iV (1 :: List.replicate n (-1))))
theorem TreeAt.mono {K : PySem.W.Frag} {H H' : Hp} {t : Addr} {n : Nat} (h : TreeAt K H t n) (s : Xn H H') : TreeAt K H' t n := by
  obtain ⟨dx, k, e, st, h1, h2, h3, h4⟩ := h.ex
  exact ⟨dx, k, e, st, xn_i s h1, xn_l s h2, xn_l s h3, xn_l s h4⟩
def bxD (b : Str × Int) : PyData := .tuple [.str b.1, .int b.2]
def chF (b nm t is os wy : Addr) : Fl := [("boxes", .ref b), ("names", .ref nm), ("tree", .ref t), ("ins", .ref is), ("outs", .ref os), ("ways", .ref wy)]
/-- a flat chart at c: n leaves, the boxes bl, the root's deeds beg, the ways ws -/
structure ChartAt (K : PySem.W.Frag) (H : Hp) (c : Addr) (n : Nat) (bl : List (Str × Int)) (beg : List Dd) (ws : List Wy) : Prop where
  ex : ∃ dx b nm t is os wy, H c = some (.ins (He.ga K "Chart") dx (chF b nm t is os wy)) ∧ TL H b (bl.map bxD) ∧ TreeAt K H t n ∧ TL H is (ddsD beg :: List.replicate n (ddsD [])) ∧ TL H os (List.replicate (n + 1) (ddsD [])) ∧ TL H wy (ws.map wyD)
theorem ChartAt.mono {K : PySem.W.Frag} {H H' : Hp} {c : Addr} {n : Nat} {bl : List (Str × Int)} {beg : List Dd} {ws : List Wy} (h : ChartAt K H c n bl beg ws) (s : Xn H H') : ChartAt K H' c n bl beg ws := by
  obtain ⟨dx, b, nm, t, is, os, wy, h1, h2, h3, h4, h5, h6⟩ := h.ex
  exact ⟨dx, b, nm, t, is, os, wy, xn_i s h1, h2.xn s, h3.mono s, h4.xn s, h5.xn s, h6.xn s⟩
def tbF (bx sg bg fl rw : Addr) : Fl := [("boxes", .ref bx), ("signs", .ref sg), ("begin", .ref bg), ("flats", .ref fl), ("rows", .ref rw)]
def rkey (p : Nat) (s : Str) : List Key := [.inl (p : Int), .inr s]
/-- the dict of rows at a -/
structure RowsAt (H : Hp) (a : Addr) (T : Tab) : Prop where
  ex : ∃ kvs, H a = some (.dT kvs) ∧ (∀ p s, p < T.nf → s ∈ T.heard → ∃ r, valV kvs (rkey p s) = some (.ref r) ∧ TL H r ((T.rows p s).map rwD)) ∧ ∀ p s, ¬ s ∈ T.heard → valV kvs (rkey p s) = none
theorem RowsAt.mono {H H' : Hp} {a : Addr} {T : Tab} (h : RowsAt H a T) (s : Xn H H') : RowsAt H' a T := by
  obtain ⟨kvs, h1, h2, h3⟩ := h.ex
  refine ⟨kvs, xn_d s h1, fun p z hp hz => ?_, h3⟩
  obtain ⟨r, e, l⟩ := h2 p z hp hz
  exact ⟨r, e, l.xn s⟩
structure TabAt (K : PySem.W.Frag) (H : Hp) (t : Addr) (T : Tab) (bl : List (Str × Int)) (beg : List Dd) : Prop where
  ex : ∃ dx bx sg bg fl rw xs, H t = some (.ins (He.ga K "Table") dx (tbF bx sg bg fl rw)) ∧ TL H bx (bl.map bxD) ∧ H sg = some (.lst (strV T.heard)) ∧ TD H (ddsD beg) (.ref bg) ∧ H fl = some (.lst xs) ∧ xs.length = T.nf ∧ RowsAt H rw T
theorem TabAt.mono {K : PySem.W.Frag} {H H' : Hp} {t : Addr} {T : Tab} {bl : List (Str × Int)} {beg : List Dd} (h : TabAt K H t T bl beg) (s : Xn H H') : TabAt K H' t T bl beg := by
  obtain ⟨dx, bx, sg, bg, fl, rw, xs, h1, h2, h3, h4, h5, h6, h7⟩ := h.ex
  exact ⟨dx, bx, sg, bg, fl, rw, xs, xn_i s h1, h2.xn s, xn_l s h3, TD.mono (xn_ts s) _ _ h4, xn_l s h5, h6, h7.mono s⟩
/-- an ask of numbers, by its mark -/
def MrkOk (k : Ask) : Prop := decide (V.str k.mrk = V.str "open") = false ∧ decide (V.str k.mrk = V.str "shut") = false
def AsksM (l : List Ask) : Prop := ∀ k ∈ l, MrkOk k
/-- what is known of a table by hand, m boxes -/
structure TabOk (m : Nat) (T : Tab) : Prop where
  nf : 1 ≤ T.nf ∧ T.nf ≤ 13
  hl : T.heard.length ≤ 2
  hs : ∀ s ∈ T.heard, PyData.strOk s = true
  rl : ∀ p s, p < T.nf → s ∈ T.heard → (T.rows p s).length ≤ 3
  ro : ∀ p s r, p < T.nf → s ∈ T.heard → r ∈ T.rows p s → AsksOk m r.asks ∧ AsksM r.asks ∧ DdsOk m r.scr ∧ r.nxt < T.nf ∧ r.asks.length ≤ 2 ∧ r.scr.length ≤ 3
section
variable {P : Program} {w : World} {K : PySem.W.Frag} {mg : Str → Option Value} {base : Heap}
/-! ### told -/
def spTold : Sp := fun vs H Q _ => ∃ (x : V) (ds : List Dd), vs = [x] ∧ TD H (ddsD ds) x ∧ ds.length ≤ 1000 ∧ ∀ (H' : Hp) (r : Addr), Same H H' → H r = none → TL H' r ((tolds ds).map ddD) → Q (.ref r) H'
theorem tolds_take {ds : List Dd} {i : Nat} {d : Dd} (h : ds[i]? = some d) : tolds (ds.take (i + 1)) = if d.told = true then tolds (ds.take i) ++ [d] else tolds (ds.take i) := by
  unfold tolds
  rw [List.take_add_one, h, List.filter_append]
  show _ ++ List.filter Dd.told [d] = _
  by_cases e : d.told = true
  · rw [if_pos e, List.filter_cons, if_pos e]; rfl
  · rw [if_neg e, List.filter_cons, if_neg e]; simp
theorem tolds_len (ds : List Dd) : (tolds ds).length ≤ ds.length := List.length_filter_le _ _
theorem ok_told (T : Tp K mg) : GFn P w K mg base 1 "told" ["rows"] spTold := by
  refine gfn T.g_told (mk_ok T.f_told sc_told (bn_told "told") (fun vs H Q E h => ?_) (fun cdv A outer s H vs Q E hr h => ?_))
  · obtain ⟨x, ds, rfl, _⟩ := h
    rfl
  · obtain ⟨x, ds, rfl, ⟨a, xs, rfl, ha, txs⟩, hz, q⟩ := h
    refine ⟨_, (pss_one (ps_ret (pe_lc (own := [("row", 1)]) (g := gName 1) rfl sc_told.nd (pi_tup (pv 0)) (blkOk_by (own := [("row", 1)]) (N := ["rows", "row"]) (sc := defScope s_told) (by decide +kernel)) (fun _ _ _ _ _ => pg_name (i := 1) sc_told.nd rfl (Or.inl rfl)) (fun _ _ _ _ _ => pts_one (pt_cmpR (op_notIn_seqK (K := K)) (pe_ix (ix_tupK (K := K)) (pv 1) pe_int (fun _ _ => rfl)) (pe_glob (v := .ref (He.ga K "MARKS")) rfl T.g_MARKS rfl) (by rfl))) (fun _ _ _ _ _ => (pv 1))))), ?_⟩
    have hdl : xs.length = ds.length := by rw [txs.len, List.length_map]
    refine ⟨_, rfl, a, rfl, ⟨_, SqT.of ha⟩, fun D hD => lc_tup (K := K) (a := a) (xs := xs) (fun i H' => Same H H' ∧ TL H' D ((tolds (ds.take i)).map ddD)) ⟨same_upd hD, [], upd_same, TDs.nil⟩ (fun i H' _ p => SqT.of (p.1 _ _ ha)) ?_ ?_⟩
    · rintro i y H' hy ⟨sm, ys, hy2, tys⟩
      obtain ⟨pd, hpd, td⟩ := txs.get' hy
      rw [List.getElem?_map] at hpd
      obtain ⟨d, hd', rfl⟩ := Option.map_eq_some_iff.mp hpd
      have td' := TD.mono (TS.of sm) _ _ td
      obtain ⟨f, zs, rfl, hf⟩ := dd_hd td'
      refine ⟨rfl, ?_⟩
      refine ⟨_, rfl, f, _, _, _, rfl, rfl, SqT.of hf, at0, _, _, rfl, .inr (T.marks _), rfl, by decide +kernel, _, rfl, ?_⟩
      rw [if_pos rfl, in_marks, Bool.not_not]
      have tt := tolds_take hd'
      cases htl : d.told with
      | false =>
        rw [htl, if_neg Bool.false_ne_true] at tt
        refine iteF ⟨sm, ys, hy2, ?_⟩
        rw [tt]
        exact tys
      | true =>
        rw [htl, if_pos rfl] at tt
        refine iteT ⟨_, rfl, ys, hy2, ?_, same_put sm hD, _, upd_same, ?_⟩
        · have e1 := tys.len
          rw [List.length_map] at e1
          have e2 := tolds_len (ds.take i)
          rw [List.length_take] at e2
          exact small1000 (by omega)
        · rw [tt, List.map_append]
          exact (TDs.mono (ts_put hy2) _ _ tys).snoc (TD.mono (ts_put hy2) _ _ td')
    · rintro H' ⟨sm, l⟩
      rw [hdl, List.take_length] at l
      exact q H' D sm hD l
/-! ### the idle end -/
def spIdle : Sp := fun vs H Q _ => ∃ (a : Addr) (rs : List Rw) (i p : Nat) (r : Rw) (m : Nat), vs = [.ref a, .int (i : Nat), .int (p : Nat)] ∧ TL H a (rs.map rwD) ∧ rs[i]? = some r ∧ DdsOk m r.scr ∧ r.scr.length ≤ 3 ∧ ∀ H' : Hp, Same H H' → Q (.bl (idle p rs.length r i)) H'
theorem ok_idle_end (T : Tp K mg) : GFn P w K mg base 2 "idle_end" ["rows", "at", "flat"] spIdle := by
  have G_told : GFn P w K mg base 1 "told" ["rows"] spTold := ok_told T
  refine gfn T.g_idle_end (mk_ok T.f_idle_end sc_idle_end (bn_idle_end "idle_end") (fun vs H Q E h => ?_) (fun cdv A outer s H vs Q E hr h => ?_))
  · obtain ⟨a, rs, i, p, r, m, rfl, _⟩ := h
    rfl
  · obtain ⟨a, rs, i, p, r, m, rfl, ⟨xs, ha, txs⟩, hri, ok, hz, q⟩ := h
    refine ⟨_, (pss_cons (ps_set (i := 3) sc_idle_end.nd rfl (Or.inl rfl) (pe_ix ix_list (pv 0) (pv 1) (fun _ _ => rfl)))
      (pss_one (ps_ret (pe_and (pe_cmpR op_eq (pv 1) (pe_op op_sub (pe_callB call_len_seq (by rfl) T.m_len PySem.boot_len (pa_cons (pv 0) pa_nil)) pe_int) (nomark _)) (pe_and (pe_cmpR op_eq (pe_callB call_len_seq (by rfl) T.m_len PySem.boot_len (pa_cons (pe_ix ix_tup (pv 3) pe_int (fun _ _ => rfl)) pa_nil)) pe_int (nomark _)) (pe_and (pe_cmpR (op_eqD hr.units) (pe_g G_told hr rfl (pa_cons (pe_ix ix_tup (pv 3) pe_int (fun _ _ => rfl)) pa_nil)) (pe_lst pa_nil) (nomark _)) (pe_one (pe_cmpR op_eq (pe_ix ix_tup (pv 3) pe_int (fun _ _ => rfl)) (pv 2) (nomark _))))))))), ?_⟩
    have hxl : xs.length = rs.length := by rw [txs.len, List.length_map]
    obtain ⟨x, hx, td⟩ := txs.get (i := i) (d := rwD r) (by rw [List.getElem?_map, hri]; rfl)
    obtain ⟨f, y1, y2, y3, rfl, hf, ⟨fa, as, rfl, hfa, tas⟩, td2, e3⟩ := TD.t3 td
    obtain rfl := TD.i e3
    have hal : as.length = r.asks.length := by rw [tas.len, List.length_map]
    refine ⟨_, rfl, _, rfl, a, xs, _, _, rfl, rfl, SqL.of ha, atI_nat hx, ?_⟩
    refine ⟨_, rfl, _, rfl, a, xs, rfl, .inl (SqL.of ha), _, _, rfl, rfl, rfl, _, rfl, ?_⟩
    have e1 : decide (V.int (i : Nat) = V.int ((xs.length : Int) - 1)) = decide (i + 1 = rs.length) := by
      rw [dec_int', hxl]
      have hi := (List.getElem?_eq_some_iff.mp hri).1
      by_cases z : i + 1 = rs.length
      · rw [decide_eq_true z, decide_eq_true (by omega)]
      · rw [decide_eq_false z, decide_eq_false (by omega)]
    rw [e1]
    unfold idle at q
    cases h1 : decide (i + 1 = rs.length) with
    | false =>
      refine iteF ?_
      rw [h1] at q
      exact q H (Same.refl H)
    | true =>
      rw [h1] at q
      refine iteT ?_
      refine ⟨_, rfl, f, _, _, _, rfl, rfl, SqT.of hf, rfl, fa, as, rfl, .inr (SqT.of hfa), rfl, _, rfl, ?_⟩
      have e2 : decide (V.int (as.length : Nat) = V.int 0) = r.asks.isEmpty := by
        rw [dec_int', hal]
        cases r.asks with
        | nil => rfl
        | cons k l => exact decide_eq_false (by rw [List.length_cons]; omega)
      rw [e2]
      cases h2 : r.asks.isEmpty with
      | false =>
        refine iteF ?_
        rw [h2] at q
        exact q H (Same.refl H)
      | true =>
        rw [h2] at q
        refine iteT ?_
        refine ⟨_, rfl, f, _, _, _, rfl, rfl, SqT.of hf, rfl, _, r.scr, rfl, td2, by omega, fun H1 c s1 nc lc => ?_⟩
        refine ⟨Nat.zero_le _, fun e ne => ?_⟩
        obtain ⟨cs, hc, tcs⟩ := lc
        have s2 := same_upd (o := .lst []) ne
        refine ⟨.list ((tolds r.scr).map ddD), .list [], .lst (SqL.of (s2 _ _ hc)) (TDs.dp _ _ (TDs.mono (TS.of s2) _ _ tcs)), .lst (SqL.of upd_same) .nil, shaped_list (dds_flat (dds_tolds ok)), shaped_list (by simp), _, rfl, ?_⟩
        rw [eqv_nil, List.isEmpty_map]
        cases h3 : (tolds r.scr).isEmpty with
        | false =>
          refine iteF ?_
          rw [h3] at q
          exact q _ (s1.trans s2)
        | true =>
          rw [h3] at q
          refine iteT ?_
          refine ⟨_, rfl, f, _, _, _, rfl, rfl, SqT.of ((s1.trans s2) _ _ hf), rfl, _, rfl, rfl, ?_⟩
          have e4 : decide (V.int (r.nxt : Nat) = V.int (p : Nat)) = decide (r.nxt = p) := by
            rw [dec_int']
            by_cases z : r.nxt = p
            · rw [decide_eq_true z, decide_eq_true (by omega)]
            · rw [decide_eq_false z, decide_eq_false (by omega)]
          rw [e4]
          exact q _ (s1.trans s2)
end
end K56
set_option Elab.async false
set_option linter.all false
set_option maxRecDepth 100000
set_option maxHeartbeats 4000000
namespace K56
open PySem PySem.Spec PyProof.Rows L2
/-- all but the object at p stays -/
def Kb (p : Addr) (H H' : Hp) : Prop := ∀ b o, H b = some o → b ≠ p → H' b = some o
theorem Kb.refl (p : Addr) (H : Hp) : Kb p H H := fun _ _ h _ => h
theorem Kb.trans {p : Addr} {H H1 H2 : Hp} (a : Kb p H H1) (b : Kb p H1 H2) : Kb p H H2 := fun c o h n => b c o (a c o h n) n
theorem Kb.of {p : Addr} {H H' : Hp} (s : Same H H') : Kb p H H' := fun b o h _ => s b o h
/-- a new object at c, then p's fields -/
theorem kb_step {H : Hp} {p c C dx : Addr} {o : HO} {fs fs' : Fl} (hp : H p = some (.ins C dx fs)) (nc : H c = none) :
    Kb p H (upd (upd H c o) p (.ins C dx fs')) ∧ upd (upd H c o) p (.ins C dx fs') p = some (.ins C dx fs') ∧ upd (upd H c o) p (.ins C dx fs') c = some o ∧ c ≠ p := by
  have cp : c ≠ p := (ne_of_none hp nc).symm
  refine ⟨fun b x e nb => ?_, upd_same, by rw [upd_ne cp, upd_same], cp⟩
  rw [upd_ne nb, upd_ne (ne_of_none e nc)]
  exact e
theorem kb_put {H : Hp} {p : Addr} {o : HO} : Kb p H (upd H p o) := fun b x e nb => by
  rw [upd_ne nb]
  exact e
theorem kb_ts {p C dx : Addr} {fs : Fl} {H H' : Hp} (hp : H p = some (.ins C dx fs)) (s : Kb p H H') : TS H H' := fun a xs h => s a _ h (ne_of h hp (by intro z; cases z))
theorem kb_xn {p C dx : Addr} {fs : Fl} {H0 H H' : Hp} (hp : H0 p = none) (s0 : Xn H0 H) (s : Kb p H H') : Xn H0 H' := fun b o e n => s b o (s0 b o e n) (ne_of_none e hp)
section
variable {P : Program} {w : World} {K : PySem.W.Frag} {mg : Str → Option Value} {base : Heap}
/-! ### Tree -/
def spTree (K : PySem.W.Frag) : Sp := fun vs H Q _ => ∃ (p dx k e s : Addr) (xs ys zs : List V), vs = [.ref p, .ref k, .ref e, .ref s] ∧ H p = some (.ins (He.ga K "Tree") dx []) ∧ H k = some (.lst xs) ∧ H e = some (.lst ys) ∧ H s = some (.lst zs) ∧
  ∀ (H' : Hp) (k' e' s' : Addr), H' p = some (.ins (He.ga K "Tree") dx (trF k' e' s')) → H' k' = some (.lst xs) → H' e' = some (.lst ys) → H' s' = some (.lst zs) → Kb p H H' → Q .non H'
theorem ok_Tree (T : Tp K mg) : GMk P w K mg base 1 "Tree" (He.ga K "Tree") ["self", "kinds", "elders", "starts"] (spTree K) := by
  refine gmk T.g_Tree T.k_Tree (mk_ok T.f_Tree_init sc_Tree_init (bn_Tree_init "Tree.__init__") (fun vs H Q E h => ?_) (fun cdv A outer s H vs Q E hr h => ?_))
  · obtain ⟨p, dx, k, e, s, xs, ys, zs, rfl, _⟩ := h
    rfl
  · obtain ⟨p, dx, k, e, s, xs, ys, zs, rfl, hp, hk, he, hs, q⟩ := h
    refine ⟨_, (pss_cons (ps_fld (pv 0) (pe_callTy call_list_of (by rfl) T.m_list (by decide +kernel) (pa_cons (pv 1) pa_nil)) rfl)
      (pss_cons (ps_fld (pv 0) (pe_callTy call_list_of (by rfl) T.m_list (by decide +kernel) (pa_cons (pv 2) pa_nil)) rfl)
      (pss_one (ps_fld (pv 0) (pe_callTy call_list_of (by rfl) T.m_list (by decide +kernel) (pa_cons (pv 3) pa_nil)) rfl)))), ?_⟩
    have pk : k ≠ p := ne_of hk hp (by intro z; cases z)
    have pe : e ≠ p := ne_of he hp (by intro z; cases z)
    have ps : s ≠ p := ne_of hs hp (by intro z; cases z)
    refine ⟨_, rfl, k, _, rfl, .inl (SqL.of hk), fun c1 n1 => ?_⟩
    obtain ⟨a1, b1, d1, e1⟩ := kb_step (o := .lst xs) (fs' := [("kinds", .ref c1)]) hp n1
    refine ⟨_, rfl, p, He.ga K "Tree", dx, [], rfl, by rw [upd_ne e1.symm]; exact hp, T.c_Tree, T.n_Tree_kinds, by show 0 < 1000; decide, ?_⟩
    refine ⟨_, rfl, e, _, rfl, .inl (SqL.of (a1 _ _ he pe)), fun c2 n2 => ?_⟩
    obtain ⟨a2, b2, d2, e2⟩ := kb_step (o := .lst ys) (fs' := [("kinds", .ref c1), ("elders", .ref c2)]) b1 n2
    refine ⟨_, rfl, p, He.ga K "Tree", dx, _, rfl, by rw [upd_ne e2.symm]; exact b1, T.c_Tree, T.n_Tree_elders, by show 1 < 1000; decide, ?_⟩
    refine ⟨_, rfl, s, _, rfl, .inl (SqL.of (a2 _ _ (a1 _ _ hs ps) ps)), fun c3 n3 => ?_⟩
    obtain ⟨a3, b3, d3, e3⟩ := kb_step (o := .lst zs) (fs' := trF c1 c2 c3) b2 n3
    refine ⟨_, rfl, p, He.ga K "Tree", dx, _, rfl, by rw [upd_ne e3.symm]; exact b2, T.c_Tree, T.n_Tree_starts, by show 2 < 1000; decide, ?_⟩
    exact q _ c1 c2 c3 b3 (a3 _ _ (a2 _ _ d1 e1) e1) (a3 _ _ d2 e2) d3 ((a1.trans a2).trans a3)
/-! ### Chart -/
def spChart (K : PySem.W.Frag) : Sp := fun vs H Q _ => ∃ (p dx b nm t is os wy : Addr) (n : Nat) (bl : List (Str × Int)) (beg : List Dd) (ws : List Wy) (ns : List V), vs = [.ref p, .ref b, .ref nm, .ref t, .ref is, .ref os, .ref wy] ∧ H p = some (.ins (He.ga K "Chart") dx []) ∧
  TL H b (bl.map bxD) ∧ H nm = some (.lst ns) ∧ TreeAt K H t n ∧ TL H is (ddsD beg :: List.replicate n (ddsD [])) ∧ TL H os (List.replicate (n + 1) (ddsD [])) ∧ TL H wy (ws.map wyD) ∧ ∀ H' : Hp, ChartAt K H' p n bl beg ws → Kb p H H' → Q .non H'
theorem ok_Chart (T : Tp K mg) : GMk P w K mg base 3 "Chart" (He.ga K "Chart") ["self", "boxes", "names", "tree", "ins", "outs", "ways"] (spChart K) := by
  have G_Tree : GMk P w K mg base 1 "Tree" (He.ga K "Tree") ["self", "kinds", "elders", "starts"] (spTree K) := ok_Tree T
  refine gmk T.g_Chart T.k_Chart (mk_ok T.f_Chart_init sc_Chart_init (bn_Chart_init "Chart.__init__") (fun vs H Q E h => ?_) (fun cdv A outer s H vs Q E hr h => ?_))
  · obtain ⟨p, dx, b, nm, t, is, os, wy, n, bl, beg, ws, ns, rfl, _⟩ := h
    rfl
  · obtain ⟨p, dx, b, nm, t, is, os, wy, n, bl, beg, ws, ns, rfl, hp, ⟨bs, hb, tb⟩, hn, ht, ⟨iss, hi, ti⟩, ⟨oss, ho, to_⟩, ⟨wss, hw, tw⟩, q⟩ := h
    obtain ⟨dt, k, e, st, t0, t1, t2, t3⟩ := ht.ex
    refine ⟨_, (pss_cons (ps_fld (pv 0) (pe_callTy call_list_of (by rfl) T.m_list (by decide +kernel) (pa_cons (pv 1) pa_nil)) rfl)
      (pss_cons (ps_fld (pv 0) (pe_callTy call_list_of (by rfl) T.m_list (by decide +kernel) (pa_cons (pv 2) pa_nil)) rfl)
      (pss_cons (ps_fld (pv 0) (pe_gk G_Tree hr rfl (pa_cons (pe_fld (pv 3) rfl) (pa_cons (pe_fld (pv 3) rfl) (pa_cons (pe_fld (pv 3) rfl) pa_nil)))) rfl)
      (pss_cons (ps_fld (pv 0) (pe_callTy call_list_of (by rfl) T.m_list (by decide +kernel) (pa_cons (pv 4) pa_nil)) rfl)
      (pss_cons (ps_fld (pv 0) (pe_callTy call_list_of (by rfl) T.m_list (by decide +kernel) (pa_cons (pv 5) pa_nil)) rfl)
      (pss_one (ps_fld (pv 0) (pe_callTy call_list_of (by rfl) T.m_list (by decide +kernel) (pa_cons (pv 6) pa_nil)) rfl))))))), ?_⟩
    have lp : ∀ {x : Addr} {l : List V}, H x = some (.lst l) → x ≠ p := fun h => ne_of h hp (by intro z; cases z)
    refine ⟨_, rfl, b, _, rfl, .inl (SqL.of hb), fun c1 n1 => ?_⟩
    obtain ⟨a1, b1, d1, e1⟩ := kb_step (o := .lst bs) (fs' := [("boxes", .ref c1)]) hp n1
    refine ⟨_, rfl, p, He.ga K "Chart", dx, [], rfl, by rw [upd_ne e1.symm]; exact hp, T.c_Chart, T.n_Chart_boxes, by show 0 < 1000; decide, ?_⟩
    refine ⟨_, rfl, nm, _, rfl, .inl (SqL.of (a1 _ _ hn (lp hn))), fun c2 n2 => ?_⟩
    obtain ⟨a2, b2, d2, e2⟩ := kb_step (o := .lst ns) (fs' := [("boxes", .ref c1), ("names", .ref c2)]) b1 n2
    refine ⟨_, rfl, p, He.ga K "Chart", dx, _, rfl, by rw [upd_ne e2.symm]; exact b1, T.c_Chart, T.n_Chart_names, by show 1 < 1000; decide, ?_⟩
    have a12 := a1.trans a2
    have tp : t ≠ p := fun z => by
      rw [z, hp] at t0
      have := HO.ins.inj (Option.some.inj t0)
      cases this.2.2
    have t0' := a12 _ _ t0 tp
    refine ⟨_, rfl, t, He.ga K "Tree", dt, _, _, rfl, t0', T.c_Tree, T.n_Tree_kinds, rfl, _, rfl, t, He.ga K "Tree", dt, _, _, rfl, t0', T.c_Tree, T.n_Tree_elders, rfl, _, rfl, t, He.ga K "Tree", dt, _, _, rfl, t0', T.c_Tree, T.n_Tree_starts, rfl, ?_⟩
    intro x dx' nx ndx nex
    have s3 : Same (upd (upd (upd (upd H c1 (.lst bs)) p (.ins (He.ga K "Chart") dx [("boxes", .ref c1)])) c2 (.lst ns)) p (.ins (He.ga K "Chart") dx [("boxes", .ref c1), ("names", .ref c2)])) (upd (upd (upd (upd (upd (upd H c1 (.lst bs)) p (.ins (He.ga K "Chart") dx [("boxes", .ref c1)])) c2 (.lst ns)) p (.ins (He.ga K "Chart") dx [("boxes", .ref c1), ("names", .ref c2)])) dx' (.own x)) x (.ins (He.ga K "Tree") dx' [])) := fun b' o' e' => by
      rw [upd_ne (ne_of_none e' nx), upd_ne (ne_of_none e' ndx)]
      exact e'
    refine ⟨x, dx', k, e, st, _, _, _, rfl, upd_same, s3 _ _ (a12 _ _ t1 (lp t1)), s3 _ _ (a12 _ _ t2 (lp t2)), s3 _ _ (a12 _ _ t3 (lp t3)), fun H3 k' e' s' g0 g1 g2 g3 kb => ⟨rfl, ?_⟩⟩
    have sm : Same _ H3 := Same.made nx ndx kb
    have b3 := sm _ _ b2
    have xp : x ≠ p := (ne_of_none b2 nx).symm
    refine ⟨_, rfl, p, He.ga K "Chart", dx, _, rfl, b3, T.c_Chart, T.n_Chart_tree, by show 2 < 1000; decide, ?_⟩
    have a3 : Kb p H (upd H3 p (.ins (He.ga K "Chart") dx [("boxes", .ref c1), ("names", .ref c2), ("tree", .ref x)])) := (a12.trans (Kb.of sm)).trans kb_put
    have b3' : upd H3 p (.ins (He.ga K "Chart") dx [("boxes", .ref c1), ("names", .ref c2), ("tree", .ref x)]) p = some (.ins (He.ga K "Chart") dx [("boxes", .ref c1), ("names", .ref c2), ("tree", .ref x)]) := upd_same
    have lp3 : ∀ {y : Addr} {l : List V}, H3 y = some (.lst l) → y ≠ p := fun h => ne_of h b3 (by intro z; cases z)
    have d1' : upd H3 p (.ins (He.ga K "Chart") dx [("boxes", .ref c1), ("names", .ref c2), ("tree", .ref x)]) c1 = some (.lst bs) := by rw [upd_ne e1]; exact sm _ _ (a2 _ _ d1 e1)
    have d2' : upd H3 p (.ins (He.ga K "Chart") dx [("boxes", .ref c1), ("names", .ref c2), ("tree", .ref x)]) c2 = some (.lst ns) := by rw [upd_ne e2]; exact sm _ _ d2
    have tr3 : TreeAt K (upd H3 p (.ins (He.ga K "Chart") dx [("boxes", .ref c1), ("names", .ref c2), ("tree", .ref x)])) x n :=
      ⟨dx', k', e', s', by rw [upd_ne xp]; exact g0, by rw [upd_ne (lp3 g1)]; exact g1, by rw [upd_ne (lp3 g2)]; exact g2, by rw [upd_ne (lp3 g3)]; exact g3⟩
    refine ⟨_, rfl, is, _, rfl, .inl (SqL.of (a3 _ _ hi (lp hi))), fun c4 n4 => ?_⟩
    obtain ⟨a4, b4, d4, e4⟩ := kb_step (o := .lst iss) (fs' := [("boxes", .ref c1), ("names", .ref c2), ("tree", .ref x), ("ins", .ref c4)]) b3' n4
    refine ⟨_, rfl, p, He.ga K "Chart", dx, _, rfl, by rw [upd_ne e4.symm]; exact b3', T.c_Chart, T.n_Chart_ins, by show 3 < 1000; decide, ?_⟩
    refine ⟨_, rfl, os, _, rfl, .inl (SqL.of (a4 _ _ (a3 _ _ ho (lp ho)) (lp ho))), fun c5 n5 => ?_⟩
    obtain ⟨a5, b5, d5, e5⟩ := kb_step (o := .lst oss) (fs' := [("boxes", .ref c1), ("names", .ref c2), ("tree", .ref x), ("ins", .ref c4), ("outs", .ref c5)]) b4 n5
    refine ⟨_, rfl, p, He.ga K "Chart", dx, _, rfl, by rw [upd_ne e5.symm]; exact b4, T.c_Chart, T.n_Chart_outs, by show 4 < 1000; decide, ?_⟩
    refine ⟨_, rfl, wy, _, rfl, .inl (SqL.of (a5 _ _ (a4 _ _ (a3 _ _ hw (lp hw)) (lp hw)) (lp hw))), fun c6 n6 => ?_⟩
    obtain ⟨a6, b6, d6, e6⟩ := kb_step (o := .lst wss) (fs' := chF c1 c2 x c4 c5 c6) b5 n6
    refine ⟨_, rfl, p, He.ga K "Chart", dx, _, rfl, by rw [upd_ne e6.symm]; exact b5, T.c_Chart, T.n_Chart_ways, by show 5 < 1000; decide, ?_⟩
    have a46 := (a4.trans a5).trans a6
    have all := a3.trans a46
    have ts : TS H _ := kb_ts hp all
    have tr6 : TreeAt K (upd (upd (upd (upd (upd (upd (upd H3 p (.ins (He.ga K "Chart") dx [("boxes", .ref c1), ("names", .ref c2), ("tree", .ref x)])) c4 (.lst iss)) p (.ins (He.ga K "Chart") dx [("boxes", .ref c1), ("names", .ref c2), ("tree", .ref x), ("ins", .ref c4)])) c5 (.lst oss)) p (.ins (He.ga K "Chart") dx [("boxes", .ref c1), ("names", .ref c2), ("tree", .ref x), ("ins", .ref c4), ("outs", .ref c5)])) c6 (.lst wss)) p (.ins (He.ga K "Chart") dx (chF c1 c2 x c4 c5 c6))) x n := by
      obtain ⟨z1, z2, z3, z4, y0, y1, y2, y3⟩ := tr3.ex
      have lq : ∀ {y : Addr} {l : List V}, (upd H3 p (.ins (He.ga K "Chart") dx [("boxes", .ref c1), ("names", .ref c2), ("tree", .ref x)])) y = some (.lst l) → y ≠ p := fun h => ne_of h b3' (by intro z; cases z)
      exact ⟨z1, z2, z3, z4, a46 _ _ y0 xp, a46 _ _ y1 (lq y1), a46 _ _ y2 (lq y2), a46 _ _ y3 (lq y3)⟩
    refine q _ ⟨dx, c1, c2, x, c4, c5, c6, b6, ⟨bs, a46 _ _ d1' e1, TDs.mono ts _ _ tb⟩, tr6, ⟨iss, a6 _ _ (a5 _ _ d4 e4) e4, TDs.mono ts _ _ ti⟩, ⟨oss, a6 _ _ d5 e5, TDs.mono ts _ _ to_⟩, ⟨wss, d6, TDs.mono ts _ _ tw⟩⟩ all
end
end K56
set_option Elab.async false
set_option linter.all false
set_option maxRecDepth 100000
set_option maxHeartbeats 4000000
namespace K56
open PySem PySem.Spec PyProof.Rows L2
theorem rep_get {α : Type} {n i : Nat} {x : α} (h : i < n) : (List.replicate n x)[i]? = some x := by
  rw [List.getElem?_replicate, if_pos h]
theorem kind_at {n m : Nat} (h : m ≤ n) : atI (strV (("one" : Str) :: List.replicate n ("leaf" : Str))) (m : Nat) = some (.str (if m = 0 then "one" else "leaf")) := by
  refine atI_nat ?_
  unfold strV
  rw [List.getElem?_map]
  cases m with
  | zero => rfl
  | succ m => rw [List.getElem?_cons_succ, rep_get (by omega)]; rfl
theorem elder_at {n m : Nat} (h : m ≤ n) : atI (iV ((-1) :: List.replicate n 0)) (m : Nat) = some (.int (if m = 0 then -1 else 0)) := by
  refine atI_nat ?_
  unfold iV
  rw [List.getElem?_map]
  cases m with
  | zero => rfl
  | succ m => rw [List.getElem?_cons_succ, rep_get (by omega)]; rfl
/-- what is above a mood of a flat chart -/
def abv (m : Nat) : List Int := if m = 0 then [] else [0]
section
variable {P : Program} {w : World} {K : PySem.W.Frag} {mg : Str → Option Value} {base : Heap}
def spAbove (K : PySem.W.Frag) : Sp := fun vs H Q _ => ∃ (t : Addr) (n m : Nat), vs = [.ref t, .int (m : Nat)] ∧ TreeAt K H t n ∧ m ≤ n ∧ ∀ (H' : Hp) (r : Addr), Same H H' → H r = none → H' r = some (.lst (iV (abv m))) → Q (.ref r) H'
theorem ok_above (T : Tp K mg) : GFn P w K mg base 1 "above" ["tree", "mood"] (spAbove K) := by
  refine gfn T.g_above (mk_ok T.f_above sc_above (bn_above "above") (fun vs H Q E h => ?_) (fun cdv A outer s H vs Q E hr h => ?_))
  · obtain ⟨t, n, m, rfl, _⟩ := h
    rfl
  · obtain ⟨t, n, m, rfl, ht, hm, q⟩ := h
    obtain ⟨dx, k, e, st, t0, t1, t2, t3⟩ := ht.ex
    refine ⟨_, (pss_cons (ps_set (i := 2) sc_above.nd rfl (Or.inl rfl) (pe_lst pa_nil))
      (pss_cons (ps_set (i := 3) sc_above.nd rfl (Or.inl rfl) (pe_ix ix_list (pe_fld (pv 0) rfl) (pv 1) (fun _ _ => rfl)))
      (pss_cons (ps_while PassesOwn.never (pt_cmpR op_ne (pv 3) (pe_un un_neg pe_int) (nomark _))
        (pss_cons (ps_expr (pe_bm PySem.F.plainAttrs_list PySem.F.slot_list_append PySem.F.type_list_append mt_append (pv 2) (pa_cons (pv 3) pa_nil)))
        (pss_one (ps_set (i := 3) sc_above.nd rfl (Or.inl rfl) (pe_ix ix_list (pe_fld (pv 0) rfl) (pv 3) (fun _ _ => rfl))))))
      (pss_one (ps_ret (pv 2)))))), ?_⟩
    refine ⟨Nat.zero_le _, fun r nr => ?_⟩
    have s1 : Same H (upd H r (.lst [])) := same_upd nr
    refine ⟨_, rfl, t, He.ga K "Tree", dx, _, _, rfl, s1 _ _ t0, T.c_Tree, T.n_Tree_elders, rfl, _, rfl, e, _, _, _, rfl, rfl, SqL.of (s1 _ _ t2), elder_at hm, ?_⟩
    -- k = 1: at is 0 and nothing found; k = 0: at is -1
    refine ⟨fun j σ H' => ∃ a l, σ = [some (.ref t), some (.int (m : Nat)), some (.ref r), some (.int a)] ∧ Same H H' ∧ H' r = some (.lst (iV l)) ∧ ((j = 1 ∧ a = 0 ∧ l = [] ∧ m ≠ 0) ∨ (j = 0 ∧ a = -1 ∧ l = abv m)), ⟨if m = 0 then 0 else 1, if m = 0 then -1 else 0, [], rfl, s1, upd_same, ?_⟩, ?_⟩
    · by_cases z : m = 0
      · rw [if_pos z, if_pos z]
        exact .inr ⟨rfl, rfl, by unfold abv; rw [if_pos z]⟩
      · rw [if_neg z, if_neg z]
        exact .inl ⟨rfl, rfl, rfl, z⟩
    · rintro j σ H' ⟨a, l, rfl, sm, hl, ⟨rfl, rfl, rfl, hm0⟩ | ⟨rfl, rfl, rfl⟩⟩
      · refine ⟨_, rfl, _, rfl, rfl, _, rfl, iteT ?_⟩
        refine ⟨fun σ' H' => ∃ a l, σ' = [some (.ref t), some (.int (m : Nat)), some (.ref r), some (.int a)] ∧ Same H H' ∧ H' r = some (.lst (iV l)) ∧ a = -1 ∧ l = abv m, ?_, ?_⟩
        · rintro σ' H'' ⟨a, l, e1, e2, e3, e4, e5⟩
          exact ⟨0, by decide, a, l, e1, e2, e3, .inr ⟨rfl, e4, e5⟩⟩
        · refine ⟨_, rfl, .inl ⟨rfl, _, SqL.of hl⟩, _, rfl, r, _, _, rfl, rfl, hl, by show 0 < sizeLine; decide, ?_⟩
          have s2 : Same H (upd H' r (.lst (iV [] ++ [.int 0]))) := same_put sm nr
          refine ⟨_, rfl, t, He.ga K "Tree", dx, _, _, rfl, s2 _ _ t0, T.c_Tree, T.n_Tree_elders, rfl, _, rfl, e, _, _, _, rfl, rfl, SqL.of (s2 _ _ t2), elder_at (m := 0) (Nat.zero_le _), ?_⟩
          refine ⟨-1, abv m, rfl, s2, ?_, rfl, rfl⟩
          unfold abv
          rw [if_neg hm0]
          exact upd_same
      · refine ⟨_, rfl, _, rfl, rfl, _, rfl, iteF ?_⟩
        exact ⟨_, rfl, q H' r sm nr hl⟩
theorem abv_len (m : Nat) : (abv m).length = if m = 0 then 0 else 1 := by
  unfold abv
  split <;> rfl
def spDepth (K : PySem.W.Frag) : Sp := fun vs H Q _ => ∃ (t : Addr) (n m : Nat), vs = [.ref t, .int (m : Nat)] ∧ TreeAt K H t n ∧ m ≤ n ∧ ∀ (H' : Hp), Same H H' → Q (.int (abv m).length) H'
theorem ok_depth (T : Tp K mg) : GFn P w K mg base 2 "depth" ["tree", "mood"] (spDepth K) := by
  have G_above : GFn P w K mg base 1 "above" ["tree", "mood"] (spAbove K) := ok_above T
  refine gfn T.g_depth (mk_ok T.f_depth sc_depth (bn_depth "depth") (fun vs H Q E h => ?_) (fun cdv A outer s H vs Q E hr h => ?_))
  · obtain ⟨t, n, m, rfl, _⟩ := h
    rfl
  · obtain ⟨t, n, m, rfl, ht, hm, q⟩ := h
    refine ⟨_, (pss_one (ps_ret (pe_callB call_len_seq (by rfl) T.m_len PySem.boot_len (pa_cons (pe_g G_above hr rfl (pa_cons (pv 0) (pa_cons (pv 1) pa_nil))) pa_nil)))), ?_⟩
    refine ⟨_, rfl, _, rfl, t, n, m, rfl, ht, hm, fun H' r sm nr hl => ?_⟩
    refine ⟨r, _, rfl, .inl (SqL.of hl), ?_⟩
    have e : (iV (abv m)).length = (abv m).length := by unfold iV; rw [List.length_map]
    rw [e]
    exact q H' sm
theorem in_iV {x : Int} : ∀ {l : List Int}, inV (.int x) (iV l) = decide (x ∈ l)
  | [] => rfl
  | y :: l => by
    show (eqV (.int y) (.int x) || inV (.int x) (iV l)) = _
    rw [in_iV]
    by_cases e : x = y
    · subst e
      have h1 : eqV (.int x) (.int x) = true := by show (x == x) = true; simp
      rw [h1, Bool.true_or, decide_eq_true List.mem_cons_self]
    · have h1 : eqV (.int y) (.int x) = false := by show (y == x) = false; simp; exact fun z => e z.symm
      rw [h1, Bool.false_or]
      by_cases h : x ∈ l
      · rw [decide_eq_true h, decide_eq_true (List.mem_cons_of_mem _ h)]
      · rw [decide_eq_false h, decide_eq_false fun z => (List.mem_cons.mp z).elim e h]
theorem flat_iV (l : List Int) : (iV l).all flatV = true := by
  rw [List.all_eq_true]
  intro x hx
  obtain ⟨i, _, rfl⟩ := List.mem_map.mp hx
  rfl
def spWithin (K : PySem.W.Frag) : Sp := fun vs H Q _ => ∃ (t : Addr) (n m : Nat) (u : Int), vs = [.ref t, .int (m : Nat), .int u] ∧ TreeAt K H t n ∧ m ≤ n ∧ 0 ≤ u ∧ ∀ (H' : Hp), Same H H' → Q (.bl (decide (u ∈ abv m))) H'
theorem ok_within (T : Tp K mg) : GFn P w K mg base 2 "within" ["tree", "mood", "other"] (spWithin K) := by
  have G_above : GFn P w K mg base 1 "above" ["tree", "mood"] (spAbove K) := ok_above T
  refine gfn T.g_within (mk_ok T.f_within sc_within (bn_within "within") (fun vs H Q E h => ?_) (fun cdv A outer s H vs Q E hr h => ?_))
  · obtain ⟨t, n, m, u, rfl, _⟩ := h
    rfl
  · obtain ⟨t, n, m, u, rfl, ht, hm, hu, q⟩ := h
    refine ⟨_, (pss_cons (ps_if (pt_cmpR op_eq (pv 2) (pe_un un_neg pe_int) (nomark _))
        (pss_one (ps_ret pe_bl))
        pss_nil)
      (pss_one (ps_ret (pe_cmpR op_in_seq (pv 2) (pe_g G_above hr rfl (pa_cons (pv 0) (pa_cons (pv 1) pa_nil))) (by rfl))))), ?_⟩
    have e : decide (V.int u = V.int (-1)) = false := by rw [dec_int']; exact decide_eq_false (by omega)
    refine ⟨_, rfl, _, rfl, rfl, _, rfl, ?_⟩
    rw [e]
    refine iteF ⟨_, rfl, _, rfl, _, rfl, t, n, m, rfl, ht, hm, fun H' r sm nr hl => ?_⟩
    refine ⟨r, _, rfl, .inl (SqL.of hl), rfl, flat_iV _, ?_⟩
    rw [if_neg Bool.false_ne_true, in_iV]
    exact q H' sm
/-- the road from the root to a leaf -/
def spRoad (K : PySem.W.Frag) : Sp := fun vs H Q _ => ∃ (t : Addr) (n m : Nat), vs = [.ref t, .int 0, .int (m : Nat)] ∧ TreeAt K H t n ∧ 1 ≤ m ∧ m ≤ n ∧ ∀ (H' : Hp) (r : Addr), Same H H' → H r = none → H' r = some (.lst (iV [(m : Int)])) → Q (.ref r) H'
theorem ok_road (T : Tp K mg) : GFn P w K mg base 2 "road" ["tree", "upper", "mood"] (spRoad K) := by
  have G_above : GFn P w K mg base 1 "above" ["tree", "mood"] (spAbove K) := ok_above T
  refine gfn T.g_road (mk_ok T.f_road sc_road (bn_road "road") (fun vs H Q E h => ?_) (fun cdv A outer s H vs Q E hr h => ?_))
  · obtain ⟨t, n, m, rfl, _⟩ := h
    rfl
  · obtain ⟨t, n, m, rfl, ht, h1, hm, q⟩ := h
    refine ⟨_, (pss_cons (ps_set (i := 3) sc_road.nd rfl (Or.inl rfl) (pe_lst (pa_cons (pv 2) pa_nil)))
      (pss_cons (ps_for PassesOwn.never rfl (pi_list (pe_g G_above hr rfl (pa_cons (pv 0) (pa_cons (pv 2) pa_nil)))) (pg_name (i := 4) sc_road.nd rfl (Or.inl rfl))
        (pss_cons (ps_if (pt_cmpR op_eq (pv 4) (pv 1) (nomark _))
          (pss_one ps_break)
          pss_nil)
        (pss_one (ps_set (i := 3) sc_road.nd rfl (Or.inl rfl) (pe_op op_cat (pe_lst (pa_cons (pv 4) pa_nil)) (pv 3))))))
      (pss_one (ps_ret (pv 3))))), ?_⟩
    refine ⟨_, rfl, by show 1 ≤ sizeLine; decide, fun r nr => ?_⟩
    have s1 : Same H (upd H r (.lst [.int (m : Nat)])) := same_upd nr
    have e : abv m = [0] := by unfold abv; rw [if_neg (by omega)]
    refine ⟨_, rfl, _, rfl, t, n, m, rfl, ht.mono (xn_of s1), hm, fun H2 l s2 nl hl => ?_⟩
    rw [e] at hl
    have fin : ∀ v4 : Option V, ∃ v, ([some (.ref t), some (.int 0), some (.int (m : Nat)), some (.ref r), v4] : L2.St)[3]? = some (some v) ∧ Q v H2 := fun v4 => ⟨_, rfl, q H2 r (s1.trans s2) nr (s2 _ _ upd_same)⟩
    refine ⟨l, rfl, ⟨_, SqL.of hl⟩, for_list (K := K) (a := l) (xs := iV [0]) (fun i σ H' => i = 0 ∧ σ = [some (.ref t), some (.int 0), some (.int (m : Nat)), some (.ref r), none] ∧ H' = H2) ⟨rfl, rfl, rfl⟩ (fun i σ H' _ ⟨_, _, e⟩ => by rw [e]; exact SqL.of hl) ?_ ?_⟩
    · rintro i y σ H' hy ⟨rfl, rfl, rfl⟩
      cases hy
      exact ⟨_, rfl, _, rfl, rfl, _, rfl, iteT (fin _)⟩
    · rintro σ H' ⟨e1, _, _⟩
      cases e1
/-- the top of two leaves -/
def spTop (K : PySem.W.Frag) : Sp := fun vs H Q _ => ∃ (t : Addr) (n m k : Nat), vs = [.ref t, .int (m : Nat), .int (k : Nat)] ∧ TreeAt K H t n ∧ 1 ≤ m ∧ m ≤ n ∧ 1 ≤ k ∧ k ≤ n ∧ ∀ (H' : Hp), Same H H' → Q (.int 0) H'
theorem ok_top (T : Tp K mg) : GFn P w K mg base 2 "top" ["tree", "one", "other"] (spTop K) := by
  have G_above : GFn P w K mg base 1 "above" ["tree", "mood"] (spAbove K) := ok_above T
  refine gfn T.g_top (mk_ok T.f_top sc_top (bn_top "top") (fun vs H Q E h => ?_) (fun cdv A outer s H vs Q E hr h => ?_))
  · obtain ⟨t, n, m, k, rfl, _⟩ := h
    rfl
  · obtain ⟨t, n, m, k, rfl, ht, h1, hm, h2, hk, q⟩ := h
    refine ⟨_, (pss_cons (ps_set (i := 3) sc_top.nd rfl (Or.inl rfl) (pe_g G_above hr rfl (pa_cons (pv 0) (pa_cons (pv 2) pa_nil))))
      (pss_cons (ps_for PassesOwn.never rfl (pi_list (pe_g G_above hr rfl (pa_cons (pv 0) (pa_cons (pv 1) pa_nil)))) (pg_name (i := 4) sc_top.nd rfl (Or.inl rfl))
        (pss_one (ps_if (PW.pt (pw_and (pt_cmpR op_eq (pe_ix ix_list (pe_fld (pv 0) rfl) (pv 4) (fun _ _ => rfl)) pe_str (nomark _)) (pw_and1 (pt_cmpR op_in_seq (pv 4) (pv 3) (by rfl)))))
          (pss_one (ps_ret (pv 4)))
          pss_nil)))
      (pss_one (ps_ret (pe_un un_neg pe_int))))), ?_⟩
    have e1 : abv m = [0] := by unfold abv; rw [if_neg (by omega)]
    have e2 : abv k = [0] := by unfold abv; rw [if_neg (by omega)]
    refine ⟨_, rfl, _, rfl, t, n, k, rfl, ht, hk, fun H1 r s1 nr hr1 => ?_⟩
    rw [e2] at hr1
    have ht1 := ht.mono (xn_of s1)
    refine ⟨_, rfl, _, rfl, t, n, m, rfl, ht1, hm, fun H2 l s2 nl hl => ?_⟩
    rw [e1] at hl
    have s12 := s1.trans s2
    obtain ⟨dx, kk, e, st, t0, t1, t2, t3⟩ := (ht.mono (xn_of s12)).ex
    refine ⟨l, rfl, ⟨_, SqL.of hl⟩, for_list (K := K) (a := l) (xs := iV [0]) (fun i σ H' => i = 0 ∧ σ = [some (.ref t), some (.int (m : Nat)), some (.int (k : Nat)), some (.ref r), none] ∧ H' = H2) ⟨rfl, rfl, rfl⟩ (fun i σ H' _ ⟨_, _, e⟩ => by rw [e]; exact SqL.of hl) ?_ ?_⟩
    · rintro i y σ H' hy ⟨rfl, rfl, rfl⟩
      cases hy
      refine ⟨_, rfl, t, He.ga K "Tree", dx, _, _, rfl, t0, T.c_Tree, T.n_Tree_kinds, rfl, _, rfl, kk, _, _, _, rfl, rfl, SqL.of t1, kind_at (m := 0) (Nat.zero_le _), rfl, _, rfl, iteT ?_⟩
      refine ⟨_, rfl, _, rfl, r, _, rfl, .inl (SqL.of (s2 _ _ hr1)), rfl, rfl, _, rfl, iteT ?_⟩
      exact ⟨_, rfl, q _ s12⟩
    · rintro σ H' ⟨e1, _, _⟩
      cases e1
/-! ### charts -/
def spFirsts (K : PySem.W.Frag) : Sp := fun vs H Q _ => ∃ (c : Addr) (n : Nat) (bl : List (Str × Int)) (beg : List Dd) (ws : List Wy), vs = [.ref c] ∧ ChartAt K H c n bl beg ws ∧ bl.length ≤ 1000 ∧ ∀ (H' : Hp) (r : Addr), Same H H' → H r = none → H' r = some (.lst (iV (bl.map (·.2)))) → Q (.ref r) H'
theorem ok_firsts (T : Tp K mg) : GFn P w K mg base 1 "firsts" ["chart"] (spFirsts K) := by
  refine gfn T.g_firsts (mk_ok T.f_firsts sc_firsts (bn_firsts "firsts") (fun vs H Q E h => ?_) (fun cdv A outer s H vs Q E hr h => ?_))
  · obtain ⟨c, n, bl, beg, ws, rfl, _⟩ := h
    rfl
  · obtain ⟨c, n, bl, beg, ws, rfl, hc, hz, q⟩ := h
    obtain ⟨dx, b, nm, t, is, os, wy, h1, ⟨xs, hb, tb⟩, _⟩ := hc.ex
    refine ⟨_, (pss_one (ps_ret (pe_lc (own := [("box", 1)]) (g := gName 1) (tt := tYes) rfl sc_firsts.nd (pi_list (pe_fld (pv 0) rfl)) (blkOk_by (own := [("box", 1)]) (N := ["chart", "box"]) (sc := defScope s_firsts) (by decide +kernel)) (fun _ _ _ _ _ => pg_name (i := 1) sc_firsts.nd rfl (Or.inl rfl)) (fun _ _ _ _ _ => pts_nil) (fun _ _ _ _ _ => (pe_ix (ix_tupK (K := K)) (pv 1) pe_int (fun _ _ => rfl)))))), ?_⟩
    refine ⟨_, rfl, c, He.ga K "Chart", dx, _, _, rfl, h1, T.c_Chart, T.n_Chart_boxes, rfl, b, rfl, ⟨_, SqL.of hb⟩, fun D hD => lc_list (K := K) (a := b) (xs := xs) (fun i H' => Same H H' ∧ H' D = some (.lst (iV ((bl.take i).map (·.2))))) ⟨same_upd hD, upd_same⟩ (fun i H' _ p => SqL.of (p.1 _ _ hb)) ?_ ?_⟩
    · rintro i y H' hy ⟨sm, hl⟩
      obtain ⟨pd, hpd, td⟩ := tb.get' hy
      rw [List.getElem?_map] at hpd
      obtain ⟨d, hd, rfl⟩ := Option.map_eq_some_iff.mp hpd
      obtain ⟨f, x1, x2, rfl, hf, _, e2⟩ := TD.t2 (TD.mono (TS.of sm) _ _ td)
      obtain rfl := TD.i e2
      refine ⟨rfl, _, rfl, f, _, _, _, rfl, rfl, SqT.of hf, rfl, _, hl, ?_, same_put sm hD, ?_⟩
      · unfold iV
        rw [List.length_map, List.length_map, List.length_take]
        exact small1000 (by omega)
      · rw [upd_same, List.take_add_one, hd]
        unfold iV
        rw [List.map_append, List.map_append]
        rfl
    · rintro H' ⟨sm, hl⟩
      rw [tb.len, List.length_map, List.take_length] at hl
      exact q H' D sm hD hl
end
end K56
set_option Elab.async false
set_option linter.all false
set_option maxRecDepth 100000
set_option maxHeartbeats 4000000
namespace K56
open PySem PySem.Spec PyProof.Rows L2
/-! ### the numbers of the ways that may go -/
def isWay (ws : List Wy) (m : Nat) (s : Str) (j : Nat) : Bool := match ws[j]? with
  | some w => decide (w.src = m) && decide (w.sign = s)
  | none => false
def gN (ws : List Wy) (m : Nat) (s : Str) (i : Nat) : List Nat := (List.range i).filter (isWay ws m s)
def holdsAt (ws : List Wy) (bx : List Int) (j : Nat) : Bool := match ws[j]? with
  | some w => allHold w.asks bx
  | none => false
theorem gN_succ (ws : List Wy) (m : Nat) (s : Str) (i : Nat) : gN ws m s (i + 1) = if isWay ws m s i = true then gN ws m s i ++ [i] else gN ws m s i := by
  unfold gN
  rw [List.range_succ, List.filter_append]
  by_cases h : isWay ws m s i = true
  · rw [if_pos h, List.filter_cons, if_pos h]; rfl
  · rw [if_neg h, List.filter_cons, if_neg h]; simp
theorem gN_len (ws : List Wy) (m : Nat) (s : Str) (i : Nat) : (gN ws m s i).length ≤ i := by
  unfold gN
  have := List.length_filter_le (isWay ws m s) (List.range i)
  rwa [List.length_range] at this
theorem pick_gN (ws : List Wy) (p : Nat) (bx : List Int) (s : Str) : pick ws p bx s = (gN ws (p + 1) s ws.length).find? (holdsAt ws bx) := by
  unfold gN
  rw [List.find?_filter]
  unfold pick
  have key : ∀ j : Nat, ∀ h : j < ws.length, decide (isWay ws (p + 1) s j = true ∧ holdsAt ws bx j = true) = goes p s bx ws[j] := fun j h => by
    unfold isWay holdsAt goes
    rw [List.getElem?_eq_getElem h]
    dsimp only
    rw [Bool.decide_and, Bool.decide_eq_true, Bool.decide_eq_true, Bool.and_assoc]
  cases e : ws.findIdx? (goes p s bx) with
  | none =>
    rw [List.findIdx?_eq_none_iff] at e
    symm
    rw [List.find?_range_eq_none]
    intro i hi
    rw [key i hi, e _ (List.getElem_mem hi)]
    rfl
  | some i =>
    rw [List.findIdx?_eq_some_iff_getElem] at e
    obtain ⟨h, h1, h2⟩ := e
    symm
    rw [List.find?_range_eq_some]
    refine ⟨by rw [key i h]; exact h1, List.mem_range.mpr h, fun j hj => ?_⟩
    rw [key j (by omega)]
    cases e2 : goes p s bx ws[j] with
    | false => rfl
    | true => exact absurd e2 (h2 j hj)
def natV (l : List Nat) : List V := iV (l.map fun (j : Nat) => (j : Int))
/-- what is known of a flat chart's ways: n leaves, m boxes -/
structure WaysOk (n m : Nat) (ws : List Wy) : Prop where
  len : ws.length ≤ 1000
  ok : ∀ w ∈ ws, 1 ≤ w.src ∧ w.src ≤ n ∧ 1 ≤ w.tgt ∧ w.tgt ≤ n ∧ AsksOk m w.asks ∧ AsksM w.asks ∧ DdsOk m w.deeds ∧ w.deeds.length ≤ 3 ∧ w.asks.length ≤ 2
section
variable {P : Program} {w : World} {K : PySem.W.Frag} {mg : Str → Option Value} {base : Heap}
theorem mk_false {k : Ask} (h : MrkOk k) : inV (.str k.mrk) [.str "open", .str "shut"] = false := by
  have h1 : ¬ k.mrk = "open" := fun z => by have := h.1; rw [dec_str'] at this; exact absurd z (of_decide_eq_false this)
  have h2 : ¬ k.mrk = "shut" := fun z => by have := h.2; rw [dec_str'] at this; exact absurd z (of_decide_eq_false this)
  show ((("open" : Str) == k.mrk) || ((("shut" : Str) == k.mrk) || false)) = false
  rw [beq_eq_false_iff_ne.mpr fun z => h1 z.symm, beq_eq_false_iff_ne.mpr fun z => h2 z.symm]
  rfl
def spAM : Sp := fun vs H Q _ => ∃ (x : V) (k : Ask), vs = [x] ∧ TD H (askD k) x ∧ MrkOk k ∧ ∀ H' : Hp, Same H H' → Q (.bl false) H'
theorem ok_asks_moods (T : Tp K mg) : GFn P w K mg base 1 "asks_moods" ["ask"] spAM := by
  refine gfn T.g_asks_moods (mk_ok T.f_asks_moods sc_asks_moods (bn_asks_moods "asks_moods") (fun vs H Q E h => ?_) (fun cdv A outer s H vs Q E hr h => ?_))
  · obtain ⟨x, k, rfl, _⟩ := h
    rfl
  · obtain ⟨x, k, rfl, td, hk, q⟩ := h
    obtain ⟨a, x1, x2, x3, rfl, ha, e1, _⟩ := TD.t3 td
    obtain rfl := TD.s e1
    refine ⟨_, (pss_one (ps_ret (pe_cmpR op_in_seq (pe_ix ix_tup (pv 0) pe_int (fun _ _ => rfl)) (pe_tup (pa_cons pe_str (pa_cons pe_str pa_nil))) (by rfl)))), ?_⟩
    refine ⟨_, rfl, a, _, _, _, rfl, rfl, SqT.of ha, rfl, by show 2 ≤ sizeLine; decide, fun r nr => ?_⟩
    refine ⟨r, _, rfl, .inr (SqT.of upd_same), rfl, rfl, ?_⟩
    rw [if_neg Bool.false_ne_true, mk_false hk]
    exact q _ (same_upd nr)
def spFits : Sp := fun vs H Q _ => ∃ (x : V) (o : Addr) (l : List Ask), vs = [x, .ref o] ∧ TD H (asksD l) x ∧ AsksM l ∧ Q (.bl true) H
theorem ok_fits (T : Tp K mg) : GFn P w K mg base 1 "fits" ["asks", "opens"] spFits := by
  refine gfn T.g_fits (mk_ok T.f_fits sc_fits (bn_fits "fits") (fun vs H Q E h => ?_) (fun cdv A outer s H vs Q E hr h => ?_))
  · obtain ⟨x, o, l, rfl, _⟩ := h
    rfl
  · obtain ⟨x, o, l, rfl, ⟨a, xs, rfl, ha, txs⟩, hl, q⟩ := h
    refine ⟨_, (pss_cons (ps_for PassesOwn.never rfl (pi_tup (pv 0)) (pg_name (i := 2) sc_fits.nd rfl (Or.inl rfl))
        (pss_cons (ps_if (PW.pt (pw_and (pt_cmpR op_eq (pe_ix ix_tup (pv 2) pe_int (fun _ _ => rfl)) pe_str (nomark _)) (pw_and1 (pt_cmpR op_notIn_seq (pe_ix ix_tup (pv 2) pe_int (fun _ _ => rfl)) (pv 1) (by rfl)))))
          (pss_one (ps_ret pe_bl))
          pss_nil)
        (pss_one (ps_if (PW.pt (pw_and (pt_cmpR op_eq (pe_ix ix_tup (pv 2) pe_int (fun _ _ => rfl)) pe_str (nomark _)) (pw_and1 (pt_cmpR op_in_seq (pe_ix ix_tup (pv 2) pe_int (fun _ _ => rfl)) (pv 1) (by rfl)))))
          (pss_one (ps_ret pe_bl))
          pss_nil))))
      (pss_one (ps_ret pe_bl))), ?_⟩
    refine ⟨_, rfl, a, rfl, ⟨_, SqT.of ha⟩, for_tup (K := K) (a := a) (xs := xs) (fun i σ H' => ∃ v2, σ = [some (.ref a), some (.ref o), v2] ∧ H' = H) ⟨none, rfl, rfl⟩ (fun i σ H' _ ⟨_, _, e⟩ => by rw [e]; exact SqT.of ha) ?_ ?_⟩
    · rintro i y σ H' hy ⟨v2, rfl, rfl⟩
      obtain ⟨pd, hpd, td⟩ := txs.get' hy
      rw [List.getElem?_map] at hpd
      obtain ⟨k, hk, rfl⟩ := Option.map_eq_some_iff.mp hpd
      obtain ⟨f, x1, x2, x3, rfl, hf, e1, _⟩ := TD.t3 td
      obtain rfl := TD.s e1
      obtain ⟨m1, m2⟩ := hl k (List.mem_of_getElem? hk)
      refine ⟨_, rfl, f, _, _, _, rfl, rfl, SqT.of hf, rfl, rfl, _, rfl, ?_⟩
      rw [m1]
      refine iteF ?_
      refine iteF ⟨_, rfl, f, _, _, _, rfl, rfl, SqT.of hf, rfl, rfl, _, rfl, ?_⟩
      rw [m2]
      refine iteF ?_
      exact iteF ⟨_, rfl, rfl⟩
    · rintro σ H' ⟨v2, rfl, rfl⟩
      exact q
def spGo (K : PySem.W.Frag) : Sp := fun vs H Q _ => ∃ (c o : Addr) (n m p : Nat) (s : Str) (bl : List (Str × Int)) (beg : List Dd) (ws : List Wy), vs = [.ref c, .ref o, .int ((p + 1 : Nat) : Int), .str s] ∧ ChartAt K H c n bl beg ws ∧ WaysOk n m ws ∧ p < n ∧
  ∀ (H' : Hp) (r : Addr), Same H H' → H r = none → H' r = some (.lst (natV (gN ws (p + 1) s ws.length))) → Q (.ref r) H'
theorem wy_get {H : Hp} {y : Wy} {v : V} (h : TD H (wyD y) v) : ∃ a x3 x4, v = .ref a ∧ H a = some (.tup [.int y.src, .str y.sign, x3, x4, .int y.tgt, .str "new"]) ∧ TD H (asksD y.asks) x3 ∧ TD H (ddsD y.deeds) x4 := by
  obtain ⟨a, xs, h1, h2, y1, s1, e1, t1, y2, s2, e2, t2, y3, s3, e3, t3, y4, s4, e4, t4, y5, s5, e5, t5, y6, s6, e6, t6, e7⟩ := h
  have e7 : s6 = [] := e7
  subst e1 e2 e3 e4 e5 e6 e7
  cases TD.i t1
  cases TD.s t2
  cases TD.i t5
  cases TD.s t6
  exact ⟨a, y3, y4, h1, h2, t3, t4⟩
theorem gN_zero {ws : List Wy} {s : Str} (h : ∀ w ∈ ws, 1 ≤ w.src) (i : Nat) : gN ws 0 s i = [] := by
  unfold gN
  rw [List.filter_eq_nil_iff]
  intro j _ e
  unfold isWay at e
  cases q : ws[j]? with
  | none => rw [q] at e; cases e
  | some w =>
    rw [q] at e
    have := h w (List.mem_of_getElem? q)
    simp only [Bool.and_eq_true, decide_eq_true_eq] at e
    omega
theorem ok_goable (T : Tp K mg) : GFn P w K mg base 2 "goable" ["chart", "opens", "leaf", "sign"] (spGo K) := by
  have G_above : GFn P w K mg base 1 "above" ["tree", "mood"] (spAbove K) := ok_above T
  have G_fits : GFn P w K mg base 1 "fits" ["asks", "opens"] spFits := ok_fits T
  refine gfn T.g_goable (mk_ok T.f_goable sc_goable (bn_goable "goable") (fun vs H Q E h => ?_) (fun cdv A outer s H vs Q E hr h => ?_))
  · obtain ⟨c, o, n, m, p, s, bl, beg, ws, rfl, _⟩ := h
    rfl
  · obtain ⟨c, o, n, m, p, sg, bl, beg, ws, rfl, hc, hw, hp, q⟩ := h
    refine ⟨_, (pss_cons (ps_set (i := 4) sc_goable.nd rfl (Or.inl rfl) (pe_lst pa_nil))
      (pss_cons (ps_for PassesOwn.never rfl (pi_list (pe_op op_cat (pe_lst (pa_cons (pv 2) pa_nil)) (pe_g G_above hr rfl (pa_cons (pe_fld (pv 0) rfl) (pa_cons (pv 2) pa_nil))))) (pg_name (i := 5) sc_goable.nd rfl (Or.inl rfl))
        (pss_one (ps_for PassesOwn.never rfl (pi_enum (by rfl) T.m_enumerate (pa_cons (pe_fld (pv 0) rfl) pa_nil)) (pg_tup rfl (pgs_cons (pg_name (i := 6) sc_goable.nd rfl (Or.inl rfl)) (pgs_cons (pg_name (i := 7) sc_goable.nd rfl (Or.inl rfl)) pgs_nil)))
          (pss_one (ps_if (PW.pt (pw_and (pt_cmpR op_eq (pe_ix ix_tup (pv 7) pe_int (fun _ _ => rfl)) (pv 5) (nomark _)) (pw_and (pt_cmpR op_eq (pe_ix ix_tup (pv 7) pe_int (fun _ _ => rfl)) (pv 3) (nomark _)) (pw_and1 (pt_val (pe_g G_fits hr rfl (pa_cons (pe_ix ix_tup (pv 7) pe_int (fun _ _ => rfl)) (pa_cons (pv 1) pa_nil))))))))
            (pss_one (ps_expr (pe_bm PySem.F.plainAttrs_list PySem.F.slot_list_append PySem.F.type_list_append mt_append (pv 4) (pa_cons (pv 6) pa_nil))))
            pss_nil)))))
      (pss_one (ps_ret (pv 4))))), ?_⟩
    refine ⟨Nat.zero_le _, fun r nr => ?_⟩
    have s1 : Same H (upd H r (.lst [])) := same_upd nr
    refine ⟨_, rfl, by show 1 ≤ sizeLine; decide, fun l nl => ?_⟩
    have s2 := s1.trans (same_upd (o := .lst [.int ((p + 1 : Nat) : Int)]) nl)
    have rl : r ≠ l := ne_of_none upd_same nl
    obtain ⟨dx, b, nm, t, is, os, wy, h1, h2, h3, h4, h5, ⟨wv, hwy, tw⟩⟩ := hc.ex
    refine ⟨_, rfl, c, He.ga K "Chart", dx, _, _, rfl, s2 _ _ h1, T.c_Chart, T.n_Chart_tree, rfl, _, rfl, t, n, p + 1, rfl, h3.mono (xn_of s2), by omega, fun H3 l2 s3 nl2 hl2 => ?_⟩
    have ea : abv (p + 1) = [0] := by unfold abv; rw [if_neg (by omega)]
    rw [ea] at hl2
    refine ⟨l, l2, _, _, rfl, rfl, s3 _ _ upd_same, hl2, by show 2 ≤ sizeLine; decide, fun l3 nl3 => ?_⟩
    have s4 := (s2.trans s3).trans (same_upd (o := .lst ([.int ((p + 1 : Nat) : Int)] ++ iV [0])) nl3)
    have rl3 : r ≠ l3 := ne_of_none (s3 _ _ (by rw [upd_ne rl]; exact upd_same)) nl3
    have nl30 : H l3 = none := (s2.trans s3).free nl3
    have hwl : wv.length = ws.length := by rw [tw.len, List.length_map]
    have hr4 : (upd H3 l3 (.lst ([.int ((p + 1 : Nat) : Int)] ++ iV [0]))) r = some (.lst (natV [])) := by
      rw [upd_ne rl3]
      exact s3 _ _ (by rw [upd_ne rl]; exact upd_same)
    -- the inner loop, for the mood mo, found so far l0
    refine ⟨l3, rfl, ⟨_, SqL.of upd_same⟩, for_list (K := K) (a := l3) (xs := [.int ((p + 1 : Nat) : Int), .int 0]) (fun i σ H' => ∃ v5 v6 v7, σ = [some (.ref c), some (.ref o), some (.int ((p + 1 : Nat) : Int)), some (.str sg), some (.ref r), v5, v6, v7] ∧ Same H H' ∧ H' l3 = some (.lst [.int ((p + 1 : Nat) : Int), .int 0]) ∧
        H' r = some (.lst (natV (if i = 0 then [] else gN ws (p + 1) sg ws.length)))) ⟨none, none, none, rfl, s4, upd_same, hr4⟩ (fun i σ H' _ ⟨_, _, _, _, _, e, _⟩ => SqL.of e) ?_ ?_⟩
    · rintro i y σ H' hy ⟨v5, v6, v7, rfl, sm, hl3, hrr⟩
      obtain ⟨mo, rfl, hmo⟩ : ∃ mo : Nat, y = .int (mo : Int) ∧ ((i = 0 ∧ mo = p + 1) ∨ (i = 1 ∧ mo = 0)) := by
        match i, hy with
        | 0, hy => exact ⟨p + 1, (Option.some.inj hy).symm, .inl ⟨rfl, rfl⟩⟩
        | 1, hy => exact ⟨0, (Option.some.inj hy).symm, .inr ⟨rfl, rfl⟩⟩
        | i + 2, hy => simp at hy
      refine ⟨_, rfl, c, He.ga K "Chart", dx, _, _, rfl, sm _ _ h1, T.c_Chart, T.n_Chart_ways, rfl, wy, wv, rfl, SqL.of (sm _ _ hwy), ?_⟩
      refine for_it (walk_enum (K := K) (a := wy) (xs := wv)) (fun k σ H'' => ∃ v6 v7, σ = [some (.ref c), some (.ref o), some (.int ((p + 1 : Nat) : Int)), some (.str sg), some (.ref r), some (.int (mo : Int)), v6, v7] ∧ Same H H'' ∧ H'' l3 = some (.lst [.int ((p + 1 : Nat) : Int), .int 0]) ∧
        H'' r = some (.lst (natV ((if i = 0 then [] else gN ws (p + 1) sg ws.length) ++ gN ws mo sg k)))) ⟨v6, v7, rfl, sm, hl3, by rw [show gN ws mo sg 0 = [] from rfl, List.append_nil]; exact hrr⟩ (fun k σ H'' _ ⟨_, _, _, e, _⟩ => SqL.of (e _ _ hwy)) ?_ ?_
      · rintro k yv σ H1 H2 hk ⟨w6, w7, rfl, sm1, hl31, hr1⟩ ⟨T', x, y, rfl, nT, rfl, ex, ey⟩
        cases ex
        obtain ⟨pd, hpd, td⟩ := tw.get' ey
        rw [List.getElem?_map] at hpd
        obtain ⟨wk, hwk, rfl⟩ := Option.map_eq_some_iff.mp hpd
        have sT := same_upd (o := .tup [.int (k : Nat), y]) nT
        have smT := sm1.trans sT
        obtain ⟨f, x3, x4, rfl, hf, ta, tds⟩ := wy_get (TD.mono (TS.of smT) _ _ td)
        have w0 := hw.ok wk (List.mem_of_getElem? hwk)
        refine ⟨T', _, rfl, SqT.of upd_same, rfl, _, _, rfl, _, _, rfl, rfl, ?_⟩
        have hr2 := sT _ _ hr1
        have hl32 := sT _ _ hl31
        have isw : isWay ws mo sg k = (decide (wk.src = mo) && decide (wk.sign = sg)) := by unfold isWay; rw [hwk]
        have gs := gN_succ ws mo sg k
        refine ⟨_, rfl, f, _, _, _, rfl, rfl, SqT.of hf, rfl, _, rfl, rfl, _, rfl, ?_⟩
        have d1 : decide (V.int (wk.src : Nat) = V.int (mo : Int)) = decide (wk.src = mo) := by
          rw [dec_int']
          by_cases z : wk.src = mo
          · rw [decide_eq_true z, decide_eq_true (by omega)]
          · rw [decide_eq_false z, decide_eq_false (by omega)]
        rw [d1]
        cases q1 : decide (wk.src = mo) with
        | false =>
          rw [isw, q1, Bool.false_and, if_neg Bool.false_ne_true] at gs
          refine iteF (iteF ⟨_, _, rfl, smT, hl32, ?_⟩)
          rw [gs]
          exact hr2
        | true =>
          rw [isw, q1, Bool.true_and] at gs
          refine iteT ⟨_, rfl, f, _, _, _, rfl, rfl, SqT.of hf, rfl, _, rfl, rfl, _, rfl, ?_⟩
          rw [dec_str']
          cases q2 : decide (wk.sign = sg) with
          | false =>
            rw [q2, if_neg Bool.false_ne_true] at gs
            refine iteF (iteF ⟨_, _, rfl, smT, hl32, ?_⟩)
            rw [gs]
            exact hr2
          | true =>
            rw [q2, if_pos rfl] at gs
            refine iteT ⟨_, rfl, f, _, _, _, rfl, rfl, SqT.of hf, rfl, _, rfl, x3, o, wk.asks, rfl, ta, w0.2.2.2.2.2.1, _, rfl, iteT ?_⟩
            refine ⟨_, rfl, .inl ⟨rfl, _, SqL.of hr2⟩, _, rfl, r, _, _, rfl, rfl, hr2, ?_, ?_⟩
            · unfold natV iV
              rw [List.length_map, List.length_map, List.length_append]
              have z1 := gN_len ws mo sg k
              have z2 := gN_len ws (p + 1) sg ws.length
              have z3 := hw.len
              refine Nat.lt_of_le_of_lt (m := 2000) ?_ (by decide)
              split
              · simp; omega
              · omega
            · refine ⟨_, _, rfl, same_put smT nr, by rw [upd_ne rl3.symm]; exact hl32, ?_⟩
              rw [upd_same, gs]
              simp only [natV, iV, List.map_append, List.append_assoc, List.map_cons, List.map_nil]
      · rintro σ H1 ⟨w6, w7, rfl, sm1, hl31, hr1⟩
        refine ⟨_, _, _, rfl, sm1, hl31, ?_⟩
        rw [if_neg (by omega), hr1, hwl]
        rcases hmo with ⟨rfl, rfl⟩ | ⟨rfl, rfl⟩
        · rfl
        · rw [if_neg (by decide), gN_zero (fun w h => (hw.ok w h).1), List.append_nil]
    · rintro σ H' ⟨v5, v6, v7, rfl, sm, _, hrr⟩
      exact ⟨_, rfl, q H' r sm nr hrr⟩
end
end K56
set_option Elab.async false
set_option linter.all false
set_option maxRecDepth 100000
set_option maxHeartbeats 4000000
namespace K56
open PySem PySem.Spec PyProof.Rows L2
theorem natV_get {l : List Nat} {k : Nat} {y : V} (h : (natV l)[k]? = some y) : ∃ j, l[k]? = some j ∧ y = .int (j : Nat) := by
  unfold natV iV at h
  rw [List.getElem?_map, List.getElem?_map, Option.map_map] at h
  obtain ⟨j, h1, h2⟩ := Option.map_eq_some_iff.mp h
  exact ⟨j, h1, h2.symm⟩
theorem natV_len (l : List Nat) : (natV l).length = l.length := by
  unfold natV iV
  rw [List.length_map, List.length_map]
theorem mem_gN {ws : List Wy} {m : Nat} {s : Str} {i j : Nat} (h : j ∈ gN ws m s i) : ∃ w, ws[j]? = some w := by
  unfold gN at h
  have h2 := (List.mem_filter.mp h).2
  unfold isWay at h2
  cases e : ws[j]? with
  | none => rw [e] at h2; cases h2
  | some w => exact ⟨w, rfl⟩
theorem find_hit {l : List Nat} {k x : Nat} {f : Nat → Bool} (hx : l[k]? = some x) (h0 : (l.take k).find? f = none) (h1 : f x = true) : l.find? f = some x := by
  have hk : k < l.length := (List.getElem?_eq_some_iff.mp hx).1
  have e : l = l.take k ++ (x :: l.drop (k + 1)) := by
    rw [← (List.getElem?_eq_some_iff.mp hx).2, ← List.drop_eq_getElem_cons hk, List.take_append_drop]
  rw [e, List.find?_append, h0, List.find?_cons, h1]
  rfl
theorem find_miss {l : List Nat} {k x : Nat} {f : Nat → Bool} (hx : l[k]? = some x) (h0 : (l.take k).find? f = none) (h1 : f x = false) : (l.take (k + 1)).find? f = none := by
  rw [List.take_add_one, hx, List.find?_append, h0]
  show (List.find? f [x]) = none
  rw [List.find?_cons, h1]
  rfl
section
variable {P : Program} {w : World} {K : PySem.W.Frag} {mg : Str → Option Value} {base : Heap}
def spNA (K : PySem.W.Frag) : Sp := fun vs H Q _ => ∃ (c : Addr) (j n m : Nat) (bl : List (Str × Int)) (beg : List Dd) (ws : List Wy) (y : Wy), vs = [.ref c, .int (j : Nat)] ∧ ChartAt K H c n bl beg ws ∧ WaysOk n m ws ∧ ws[j]? = some y ∧
  ∀ (H' : Hp) (r : Addr), Same H H' → TD H' (asksD y.asks) (.ref r) → Q (.ref r) H'
theorem ok_number_asks (T : Tp K mg) : GFn P w K mg base 2 "number_asks" ["chart", "way"] (spNA K) := by
  have G_asks_moods : GFn P w K mg base 1 "asks_moods" ["ask"] spAM := ok_asks_moods T
  refine gfn T.g_number_asks (mk_ok T.f_number_asks sc_number_asks (bn_number_asks "number_asks") (fun vs H Q E h => ?_) (fun cdv A outer s H vs Q E hr h => ?_))
  · obtain ⟨c, j, n, m, bl, beg, ws, y, rfl, _⟩ := h
    rfl
  · obtain ⟨c, j, n, m, bl, beg, ws, y, rfl, hc, hw, hj, q⟩ := h
    refine ⟨_, (pss_one (ps_ret (pe_callTy call_tuple_of (by rfl) T.m_tuple (by decide +kernel) (pa_cons (pe_lc (own := [("ask", 2)]) (g := gName 2) rfl sc_number_asks.nd (pi_tup (pe_ix ix_tup (pe_ix ix_list (pe_fld (pv 0) rfl) (pv 1) (fun _ _ => rfl)) pe_int (fun _ _ => rfl))) (blkOk_by (own := [("ask", 2)]) (N := ["chart", "way", "ask"]) (sc := defScope s_number_asks) (by decide +kernel)) (fun _ _ _ _ _ => pg_name (i := 2) sc_number_asks.nd rfl (Or.inl rfl)) (fun _ _ _ _ _ => pts_one (pt_not (pt_val (pe_g G_asks_moods hr rfl (pa_cons (pv 2) pa_nil))))) (fun _ _ _ _ _ => (pv 2))) pa_nil)))), ?_⟩
    obtain ⟨dx, b, nm, t, is, os, wy, h1, h2, h3, h4, h5, ⟨wv, hwy, tw⟩⟩ := hc.ex
    obtain ⟨v, hv, td⟩ := tw.get (i := j) (d := wyD y) (by rw [List.getElem?_map, hj]; rfl)
    obtain ⟨f, x3, x4, rfl, hf, ⟨fa, as, rfl, hfa, tas⟩, tds⟩ := wy_get td
    have w0 := hw.ok y (List.mem_of_getElem? hj)
    have hal : as.length = y.asks.length := by rw [tas.len, List.length_map]
    refine ⟨_, rfl, c, He.ga K "Chart", dx, _, _, rfl, h1, T.c_Chart, T.n_Chart_ways, rfl, _, rfl, wy, wv, _, _, rfl, rfl, SqL.of hwy, atI_nat hv, f, _, _, _, rfl, rfl, SqT.of hf, rfl, fa, rfl, ⟨_, SqT.of hfa⟩,
      fun D hD => lc_tup (K := K) (a := fa) (xs := as) (fun i H' => Same H H' ∧ H' D = some (.lst (as.take i))) ⟨same_upd hD, upd_same⟩ (fun i H' _ p => SqT.of (p.1 _ _ hfa)) ?_ ?_⟩
    · rintro i v H' hv ⟨sm, hl⟩
      obtain ⟨pd, hpd, tk⟩ := tas.get' hv
      rw [List.getElem?_map] at hpd
      obtain ⟨k, hk, rfl⟩ := Option.map_eq_some_iff.mp hpd
      refine ⟨rfl, _, rfl, v, k, rfl, TD.mono (TS.of sm) _ _ tk, w0.2.2.2.2.2.1 k (List.mem_of_getElem? hk), fun H2 s2 => ⟨_, rfl, ?_⟩⟩
      have sm2 := sm.trans s2
      have hl2 := s2 _ _ hl
      refine iteT ⟨_, rfl, _, hl2, ?_, same_put sm2 hD, ?_⟩
      · rw [List.length_take]
        exact small1000 (by omega)
      · rw [upd_same, List.take_add_one, hv]
        rfl
    · rintro H' ⟨sm, hl⟩
      rw [List.take_length] at hl
      refine ⟨D, as, rfl, .inl ⟨SqL.of hl, fun l nl => ?_⟩⟩
      have s2 := same_upd (o := .tup as) nl
      exact q _ l (sm.trans s2) ⟨l, as, rfl, upd_same, TDs.mono (TS.of (sm.trans s2)) _ _ tas⟩
def spPicks (K : PySem.W.Frag) : Sp := fun vs H Q _ => ∃ (c o b : Addr) (n p : Nat) (s : Str) (bl : List (Str × Int)) (beg : List Dd) (ws : List Wy) (bx : List Int), vs = [.ref c, .ref o, .ref b, .str s] ∧ ChartAt K H c n bl beg ws ∧ WaysOk n bx.length ws ∧ p < n ∧
  H o = some (.lst (iV [0, ((p + 1 : Nat) : Int)])) ∧ H b = some (.lst (iV bx)) ∧ ∀ (H' : Hp) (r : Addr), Same H H' → H r = none → H' r = some (.lst (natV (pick ws p bx s).toList)) → Q (.ref r) H'
theorem ok_picks (T : Tp K mg) : GFn P w K mg base 4 "picks" ["chart", "opens", "boxes", "sign"] (spPicks K) := by
  have G_goable : GFn P w K mg base 2 "goable" ["chart", "opens", "leaf", "sign"] (spGo K) := ok_goable T
  have G_all_hold : GFn P w K mg base 3 "all_hold" ["asks", "boxes"] (spAllHold K) := ok_all_hold T
  have G_number_asks : GFn P w K mg base 2 "number_asks" ["chart", "way"] (spNA K) := ok_number_asks T
  refine gfn T.g_picks (mk_ok T.f_picks sc_picks (bn_picks "picks") (fun vs H Q E h => ?_) (fun cdv A outer s H vs Q E hr h => ?_))
  · obtain ⟨c, o, b, n, p, sg, bl, beg, ws, bx, rfl, _⟩ := h
    rfl
  · obtain ⟨c, o, b, n, p, sg, bl, beg, ws, bx, rfl, hc, hw, hp, ho, hb, q⟩ := h
    refine ⟨_, (pss_cons (ps_set (i := 4) sc_picks.nd rfl (Or.inl rfl) (pe_lst pa_nil))
      (pss_cons (ps_for PassesOwn.never rfl (pi_list (pv 1)) (pg_name (i := 5) sc_picks.nd rfl (Or.inl rfl))
        (pss_cons (ps_if (pt_cmpR op_ne (pe_ix ix_list (pe_fld (pe_fld (pv 0) rfl) rfl) (pv 5) (fun _ _ => rfl)) pe_str (nomark _))
          (pss_one ps_continue)
          pss_nil)
        (pss_one (ps_for PassesOwn.never rfl (pi_list (pe_g G_goable hr rfl (pa_cons (pv 0) (pa_cons (pv 1) (pa_cons (pv 5) (pa_cons (pv 3) pa_nil)))))) (pg_name (i := 6) sc_picks.nd rfl (Or.inl rfl))
          (pss_one (ps_if (pt_val (pe_g G_all_hold hr rfl (pa_cons (pe_g G_number_asks hr rfl (pa_cons (pv 0) (pa_cons (pv 6) pa_nil))) (pa_cons (pv 2) pa_nil))))
            (pss_cons (ps_if (pt_cmpR op_notIn_seq (pv 6) (pv 4) (by rfl))
              (pss_one (ps_expr (pe_bm PySem.F.plainAttrs_list PySem.F.slot_list_append PySem.F.type_list_append mt_append (pv 4) (pa_cons (pv 6) pa_nil))))
              pss_nil)
            (pss_one ps_break))
            pss_nil))))))
      (pss_one (ps_ret (pv 4))))), ?_⟩
    refine ⟨Nat.zero_le _, fun f nf => ?_⟩
    have s1 : Same H (upd H f (.lst [])) := same_upd nf
    refine ⟨_, rfl, o, rfl, ⟨_, SqL.of (s1 _ _ ho)⟩, for_list (K := K) (a := o) (xs := iV [0, ((p + 1 : Nat) : Int)]) (fun i σ H' => ∃ v5 v6, σ = [some (.ref c), some (.ref o), some (.ref b), some (.str sg), some (.ref f), v5, v6] ∧ Same H H' ∧
        H' f = some (.lst (natV (if i < 2 then [] else (pick ws p bx sg).toList)))) ⟨none, none, rfl, s1, upd_same⟩ (fun i σ H' _ ⟨_, _, _, e, _⟩ => SqL.of (e _ _ ho)) ?_ ?_⟩
    · rintro i y σ H' hy ⟨v5, v6, rfl, sm, hf⟩
      obtain ⟨dx, bb, nm, t, is, os, wy, h1, h2, h3, h4, h5, h6⟩ := (hc.mono (xn_of sm)).ex
      obtain ⟨dt, kk, e, st, t0, t1, t2, t3⟩ := h3.ex
      match i, hy with
      | 0, hy =>
        cases hy
        refine ⟨_, rfl, c, He.ga K "Chart", dx, _, _, rfl, h1, T.c_Chart, T.n_Chart_tree, rfl, t, He.ga K "Tree", dt, _, _, rfl, t0, T.c_Tree, T.n_Tree_kinds, rfl, _, rfl, kk, _, _, _, rfl, rfl, SqL.of t1, kind_at (m := 0) (Nat.zero_le _), rfl, _, rfl, iteT ?_⟩
        exact ⟨_, _, rfl, sm, hf⟩
      | 1, hy =>
        cases hy
        refine ⟨_, rfl, c, He.ga K "Chart", dx, _, _, rfl, h1, T.c_Chart, T.n_Chart_tree, rfl, t, He.ga K "Tree", dt, _, _, rfl, t0, T.c_Tree, T.n_Tree_kinds, rfl, _, rfl, kk, _, _, _, rfl, rfl, SqL.of t1, kind_at (m := p + 1) (by omega), rfl, _, rfl, iteF ?_⟩
        refine ⟨_, rfl, _, rfl, _, rfl, _, rfl, c, o, n, bx.length, p, sg, bl, beg, ws, rfl, hc.mono (xn_of sm), hw, hp, fun H2 r s2 nr hr2 => ?_⟩
        have sm2 := sm.trans s2
        have fr : f ≠ r := ne_of_none hf nr
        refine ⟨r, rfl, ⟨_, SqL.of hr2⟩, for_list (K := K) (a := r) (xs := natV (gN ws (p + 1) sg ws.length)) (fun k σ H' => ∃ v6, σ = [some (.ref c), some (.ref o), some (.ref b), some (.str sg), some (.ref f), some (.int ((p + 1 : Nat) : Int)), v6] ∧ Same H H' ∧ H' r = some (.lst (natV (gN ws (p + 1) sg ws.length))) ∧
          H' f = some (.lst (natV [])) ∧ ((gN ws (p + 1) sg ws.length).take k).find? (holdsAt ws bx) = none) ⟨v6, rfl, sm2, hr2, s2 _ _ hf, rfl⟩ (fun k σ H' _ ⟨_, _, _, e, _⟩ => SqL.of e) ?_ ?_⟩
        · rintro k z σ H3 hz ⟨w6, rfl, sm3, hr3, hf3, hmiss⟩
          obtain ⟨j, hj, rfl⟩ := natV_get hz
          obtain ⟨y, hy⟩ := mem_gN (List.mem_of_getElem? hj)
          have w0 := hw.ok y (List.mem_of_getElem? hy)
          have hh : holdsAt ws bx j = allHold y.asks bx := by unfold holdsAt; rw [hy]
          refine ⟨_, rfl, _, rfl, c, j, n, bx.length, bl, beg, ws, y, rfl, hc.mono (xn_of sm3), hw, hy, fun H4 ra s4 ta => ?_⟩
          have sm4 := sm3.trans s4
          refine ⟨_, rfl, _, b, y.asks, bx, rfl, ta, SqL.of (sm4 _ _ hb), w0.2.2.2.2.1, _, rfl, ?_⟩
          cases h : allHold y.asks bx with
          | true =>
            refine iteT ⟨_, rfl, _, rfl, f, [], rfl, .inl (SqL.of (s4 _ _ hf3)), rfl, rfl, _, rfl, iteT ?_⟩
            refine ⟨_, rfl, .inl ⟨rfl, _, SqL.of (s4 _ _ hf3)⟩, _, rfl, f, _, _, rfl, rfl, s4 _ _ hf3, by show 0 < sizeLine; decide, ?_⟩
            refine ⟨_, _, rfl, same_put sm4 nf, ?_⟩
            rw [upd_same, if_neg (by omega), pick_gN, find_hit hj hmiss (hh.trans h)]
            rfl
          | false =>
            exact iteF ⟨_, rfl, sm4, s4 _ _ hr3, s4 _ _ hf3, find_miss hj hmiss (hh.trans h)⟩
        · rintro σ H3 ⟨w6, rfl, sm3, hr3, hf3, hmiss⟩
          rw [natV_len, List.take_length] at hmiss
          refine ⟨_, _, rfl, sm3, ?_⟩
          rw [if_neg (by omega), pick_gN, hmiss]
          exact hf3
      | i + 2, hy => simp [iV] at hy
    · rintro σ H' ⟨v5, v6, rfl, sm, hf⟩
      refine ⟨_, rfl, q H' f sm nf hf⟩
end
end K56
set_option Elab.async false
set_option linter.all false
set_option maxRecDepth 100000
set_option maxHeartbeats 4000000
namespace K56
open PySem PySem.Spec PyProof.Rows L2
theorem start_at {n : Nat} : atI (iV (1 :: List.replicate n (-1))) ((0 : Nat) : Int) = some (.int 1) := atI_nat rfl
theorem perm_one {ns : List Int} {i : Int} (p : ns.Perm [i]) : ns = [i] := List.perm_singleton.mp p
section
variable {P : Program} {w : World} {K : PySem.W.Frag} {mg : Str → Option Value} {base : Heap}
/-! ### what opens -/
def spOpenL (K : PySem.W.Frag) : Sp := fun vs H Q _ => ∃ (t : Addr) (mem : V) (n m : Nat), vs = [.ref t, mem, .int (m : Nat), .str "new"] ∧ TreeAt K H t n ∧ 1 ≤ m ∧ m ≤ n ∧ ∀ (H' : Hp) (r : Addr), Same H H' → H r = none → H' r = some (.lst (iV [(m : Int)])) → Q (.ref r) H'
theorem ok_openedL (T : Tp K mg) : GFn P w K mg base 1 "opened" ["tree", "memory", "mood", "mode"] (spOpenL K) := by
  refine gfn T.g_opened (mk_ok T.f_opened sc_opened (bn_opened "opened") (fun vs H Q E h => ?_) (fun cdv A outer s H vs Q E hr h => ?_))
  · obtain ⟨t, mem, n, m, rfl, _⟩ := h
    rfl
  · obtain ⟨t, mem, n, m, rfl, ht, h1, hm, q⟩ := h
    refine ⟨_, (pss_cons (ps_set (i := 4) sc_opened.nd rfl (Or.inl rfl) (pe_lst (pa_cons (pv 2) pa_nil)))
      (pss_cons (ps_set (i := 5) sc_opened.nd rfl (Or.inl rfl) pe_str)
      (pss_cons (ps_if (pt_cmpR op_eq (pv 3) pe_str (nomark _))
        (pss_one (ps_set (i := 5) sc_opened.nd rfl (Or.inl rfl) pe_str))
        pss_nil)
      (pss_cons (ps_if (pt_cmpR op_eq (pe_ix ix_list (pe_fld (pv 0) rfl) (pv 2) (fun _ _ => rfl)) pe_str (nomark _))
        (pss_cons (ps_set (i := 6) sc_opened.nd rfl (Or.inl rfl) (pe_ix ix_list (pe_fld (pv 0) rfl) (pv 2) (fun _ _ => rfl)))
        (pss_cons (ps_if (PW.pt (pw_and (pt_cmpR op_ne (pv 3) pe_str (nomark _)) (pw_and1 (pt_cmpR op_ne (pe_ix ix_list (pv 1) (pv 2) (fun _ _ => rfl)) (pe_un un_neg pe_int) (nomark _)))))
          (pss_one (ps_set (i := 6) sc_opened.nd rfl (Or.inl rfl) (pe_ix ix_list (pv 1) (pv 2) (fun _ _ => rfl))))
          pss_nil)
        (pss_one (ps_expr (pe_bm PySem.F.plainAttrs_list PySem.F.slot_list_extend PySem.F.type_list_extend mt_extend (pv 4) (pa_cons pe_never pa_nil))))))
        pss_nil)
      (pss_cons (ps_if (pt_cmpR op_eq (pe_ix ix_list (pe_fld (pv 0) rfl) (pv 2) (fun _ _ => rfl)) pe_str (nomark _))
        (pss_one (ps_for PassesOwn.never rfl (pi_list pe_never) (pg_name (i := 7) sc_opened.nd rfl (Or.inl rfl))
          (pss_one (ps_expr (pe_bm PySem.F.plainAttrs_list PySem.F.slot_list_extend PySem.F.type_list_extend mt_extend (pv 4) (pa_cons pe_never pa_nil))))))
        pss_nil)
      (pss_one (ps_ret (pv 4)))))))), ?_⟩
    obtain ⟨dt, kk, e, st, t0, t1, t2, t3⟩ := ht.ex
    have m0 : ¬ m = 0 := by omega
    refine ⟨_, rfl, by show 1 ≤ sizeLine; decide, fun r nr => ?_⟩
    have s1 := same_upd (o := .lst [.int (m : Nat)]) nr
    refine ⟨_, rfl, rfl, _, rfl, iteF ?_⟩
    refine ⟨_, rfl, t, He.ga K "Tree", dt, _, _, rfl, s1 _ _ t0, T.c_Tree, T.n_Tree_kinds, rfl, _, rfl, kk, _, _, _, rfl, rfl, SqL.of (s1 _ _ t1), kind_at hm, rfl, _, rfl, ?_⟩
    rw [if_neg m0]
    refine iteF ⟨_, rfl, t, He.ga K "Tree", dt, _, _, rfl, s1 _ _ t0, T.c_Tree, T.n_Tree_kinds, rfl, _, rfl, kk, _, _, _, rfl, rfl, SqL.of (s1 _ _ t1), kind_at hm, rfl, _, rfl, ?_⟩
    rw [if_neg m0]
    exact iteF ⟨_, rfl, q _ r s1 nr upd_same⟩
def spOpenR (K : PySem.W.Frag) : Sp := fun vs H Q _ => ∃ (t : Addr) (mem : V) (n : Nat), vs = [.ref t, mem, .int 0, .str "new"] ∧ TreeAt K H t n ∧ 1 ≤ n ∧ ∀ (H' : Hp) (r : Addr), Same H H' → H r = none → H' r = some (.lst (iV [0, 1])) → Q (.ref r) H'
theorem ok_openedR (T : Tp K mg) : GFn P w K mg base 2 "opened" ["tree", "memory", "mood", "mode"] (spOpenR K) := by
  have G_opened : GFn P w K mg base 1 "opened" ["tree", "memory", "mood", "mode"] (spOpenL K) := ok_openedL T
  refine gfn T.g_opened (mk_ok T.f_opened sc_opened (bn_opened "opened") (fun vs H Q E h => ?_) (fun cdv A outer s H vs Q E hr h => ?_))
  · obtain ⟨t, mem, n, rfl, _⟩ := h
    rfl
  · obtain ⟨t, mem, n, rfl, ht, hn, q⟩ := h
    refine ⟨_, (pss_cons (ps_set (i := 4) sc_opened.nd rfl (Or.inl rfl) (pe_lst (pa_cons (pv 2) pa_nil)))
      (pss_cons (ps_set (i := 5) sc_opened.nd rfl (Or.inl rfl) pe_str)
      (pss_cons (ps_if (pt_cmpR op_eq (pv 3) pe_str (nomark _))
        (pss_one (ps_set (i := 5) sc_opened.nd rfl (Or.inl rfl) pe_str))
        pss_nil)
      (pss_cons (ps_if (pt_cmpR op_eq (pe_ix ix_list (pe_fld (pv 0) rfl) (pv 2) (fun _ _ => rfl)) pe_str (nomark _))
        (pss_cons (ps_set (i := 6) sc_opened.nd rfl (Or.inl rfl) (pe_ix ix_list (pe_fld (pv 0) rfl) (pv 2) (fun _ _ => rfl)))
        (pss_cons (ps_if (PW.pt (pw_and (pt_cmpR op_ne (pv 3) pe_str (nomark _)) (pw_and1 (pt_cmpR op_ne (pe_ix ix_list (pv 1) (pv 2) (fun _ _ => rfl)) (pe_un un_neg pe_int) (nomark _)))))
          (pss_one (ps_set (i := 6) sc_opened.nd rfl (Or.inl rfl) (pe_ix ix_list (pv 1) (pv 2) (fun _ _ => rfl))))
          pss_nil)
        (pss_one (ps_expr (pe_bm PySem.F.plainAttrs_list PySem.F.slot_list_extend PySem.F.type_list_extend mt_extend (pv 4) (pa_cons (pe_g G_opened hr rfl (pa_cons (pv 0) (pa_cons (pv 1) (pa_cons (pv 6) (pa_cons (pv 5) pa_nil))))) pa_nil))))))
        pss_nil)
      (pss_cons (ps_if (pt_cmpR op_eq (pe_ix ix_list (pe_fld (pv 0) rfl) (pv 2) (fun _ _ => rfl)) pe_str (nomark _))
        (pss_one (ps_for PassesOwn.never rfl (pi_list pe_never) (pg_name (i := 7) sc_opened.nd rfl (Or.inl rfl))
          (pss_one (ps_expr (pe_bm PySem.F.plainAttrs_list PySem.F.slot_list_extend PySem.F.type_list_extend mt_extend (pv 4) (pa_cons (pe_g G_opened hr rfl (pa_cons (pv 0) (pa_cons (pv 1) (pa_cons (pv 7) (pa_cons (pv 5) pa_nil))))) pa_nil))))))
        pss_nil)
      (pss_one (ps_ret (pv 4)))))))), ?_⟩
    obtain ⟨dt, kk, e, st, t0, t1, t2, t3⟩ := ht.ex
    refine ⟨_, rfl, by show 1 ≤ sizeLine; decide, fun r nr => ?_⟩
    have s1 := same_upd (o := .lst [.int 0]) nr
    refine ⟨_, rfl, rfl, _, rfl, iteF ?_⟩
    refine ⟨_, rfl, t, He.ga K "Tree", dt, _, _, rfl, s1 _ _ t0, T.c_Tree, T.n_Tree_kinds, rfl, _, rfl, kk, _, _, _, rfl, rfl, SqL.of (s1 _ _ t1), kind_at (m := 0) (Nat.zero_le _), rfl, _, rfl, iteT ?_⟩
    refine ⟨_, rfl, t, He.ga K "Tree", dt, _, _, rfl, s1 _ _ t0, T.c_Tree, T.n_Tree_starts, rfl, _, rfl, st, _, _, _, rfl, rfl, SqL.of (s1 _ _ t3), start_at, ?_⟩
    refine ⟨_, rfl, rfl, _, rfl, iteF ?_⟩
    refine iteF ?_
    refine ⟨_, rfl, .inl ⟨rfl, _, SqL.of upd_same⟩, _, rfl, _, rfl, _, rfl, _, rfl, t, mem, n, 1, rfl, ht.mono (xn_of s1), Nat.le_refl _, hn, fun H2 r2 s2 nr2 hr2 => ?_⟩
    have hr := s2 _ _ (upd_same (H := H) (o := HO.lst [V.int 0]))
    refine ⟨r, r2, _, _, rfl, rfl, hr, hr2, by show 2 ≤ sizeLine; decide, ?_⟩
    have s3 := same_put (o := .lst ([.int 0] ++ iV [1])) (s1.trans s2) nr
    refine ⟨_, rfl, t, He.ga K "Tree", dt, _, _, rfl, s3 _ _ t0, T.c_Tree, T.n_Tree_kinds, rfl, _, rfl, kk, _, _, _, rfl, rfl, SqL.of (s3 _ _ t1), kind_at (m := 0) (Nat.zero_le _), rfl, _, rfl, iteF ?_⟩
    exact ⟨_, rfl, q _ r s3 nr upd_same⟩
def spEntered (K : PySem.W.Frag) : Sp := fun vs H Q _ => ∃ (t : Addr) (mem : V) (n m : Nat), vs = [.ref t, mem, .int 0, .int (m : Nat), .str "new"] ∧ TreeAt K H t n ∧ 1 ≤ m ∧ m ≤ n ∧ ∀ (H' : Hp) (r : Addr), Same H H' → H r = none → H' r = some (.lst (iV [(m : Int)])) → Q (.ref r) H'
theorem ok_entered (T : Tp K mg) : GFn P w K mg base 3 "entered" ["tree", "memory", "upper", "target", "mode"] (spEntered K) := by
  have G_opened : GFn P w K mg base 1 "opened" ["tree", "memory", "mood", "mode"] (spOpenL K) := ok_openedL T
  have G_road : GFn P w K mg base 2 "road" ["tree", "upper", "mood"] (spRoad K) := ok_road T
  refine gfn T.g_entered (mk_ok T.f_entered sc_entered (bn_entered "entered") (fun vs H Q E h => ?_) (fun cdv A outer s H vs Q E hr h => ?_))
  · obtain ⟨t, mem, n, m, rfl, _⟩ := h
    rfl
  · obtain ⟨t, mem, n, m, rfl, ht, h1, hm, q⟩ := h
    refine ⟨_, (pss_cons (ps_set (i := 5) sc_entered.nd rfl (Or.inl rfl) (pe_g G_road hr rfl (pa_cons (pv 0) (pa_cons (pv 2) (pa_cons (pv 3) pa_nil)))))
      (pss_cons (ps_set (i := 6) sc_entered.nd rfl (Or.inl rfl) (pe_g G_opened hr rfl (pa_cons (pv 0) (pa_cons (pv 1) (pa_cons (pv 3) (pa_cons (pv 4) pa_nil))))))
      (pss_cons (ps_for PassesOwn.never rfl (pi_list (pv 5)) (pg_name (i := 7) sc_entered.nd rfl (Or.inl rfl))
        (pss_one (ps_if (pt_cmpR op_ne (pv 7) (pv 3) (nomark _))
          (pss_cons (ps_expr (pe_bm PySem.F.plainAttrs_list PySem.F.slot_list_append PySem.F.type_list_append mt_append (pv 6) (pa_cons (pv 7) pa_nil)))
          (pss_one (ps_if (pt_cmpR op_eq (pe_ix ix_list (pe_fld (pv 0) rfl) (pv 7) (fun _ _ => rfl)) pe_str (nomark _))
            (pss_one (ps_for PassesOwn.never rfl (pi_list pe_never) (pg_name (i := 8) sc_entered.nd rfl (Or.inl rfl))
              (pss_one (ps_if (pt_cmpR op_notIn_seq (pv 8) (pv 5) (by rfl))
                (pss_one (ps_expr (pe_bm PySem.F.plainAttrs_list PySem.F.slot_list_extend PySem.F.type_list_extend mt_extend (pv 6) (pa_cons (pe_g G_opened hr rfl (pa_cons (pv 0) (pa_cons (pv 1) (pa_cons (pv 8) (pa_cons pe_str pa_nil))))) pa_nil))))
                pss_nil))))
            pss_nil)))
          pss_nil)))
      (pss_one (ps_ret (pe_callB cr_sorted (by rfl) T.m_sorted (by decide +kernel) (pa_cons (pv 6) pa_nil))))))), ?_⟩
    refine ⟨_, rfl, _, rfl, _, rfl, t, n, m, rfl, ht, h1, hm, fun H1 r s1 nr hr1 => ?_⟩
    refine ⟨_, rfl, _, rfl, _, rfl, _, rfl, t, mem, n, m, rfl, ht.mono (xn_of s1), h1, hm, fun H2 f s2 nf hf2 => ?_⟩
    have s12 := s1.trans s2
    refine ⟨_, rfl, r, rfl, ⟨_, SqL.of (s2 _ _ hr1)⟩, for_list (K := K) (a := r) (xs := iV [(m : Int)]) (fun i σ H' => ∃ v7, σ = [some (.ref t), some mem, some (.int 0), some (.int (m : Nat)), some (.str "new"), some (.ref r), some (.ref f), v7, none] ∧ H' = H2) ⟨none, rfl, rfl⟩ (fun i σ H' _ ⟨_, _, e⟩ => by rw [e]; exact SqL.of (s2 _ _ hr1)) ?_ ?_⟩
    · rintro i y σ H' hy ⟨v7, rfl, rfl⟩
      match i, hy with
      | 0, hy =>
        cases hy
        refine ⟨_, rfl, _, rfl, rfl, _, rfl, ?_⟩
        rw [decide_eq_true (rfl : V.int (m : Nat) = V.int (m : Nat))]
        exact iteF ⟨_, rfl, rfl⟩
      | i + 1, hy => simp [iV] at hy
    · rintro σ H' ⟨v7, rfl, rfl⟩
      refine ⟨_, rfl, f, [(m : Int)], rfl, SqL.of hf2, by show 1 < 64; decide, fun ns p hp _ np => ?_⟩
      rw [perm_one hp]
      exact q _ p (s12.trans (same_upd np)) (s12.free np) upd_same
def spLeft (K : PySem.W.Frag) : Sp := fun vs H Q _ => ∃ (t o : Addr) (n p : Nat), vs = [.ref t, .ref o, .int 0] ∧ TreeAt K H t n ∧ p < n ∧ H o = some (.lst (iV [0, ((p + 1 : Nat) : Int)])) ∧ ∀ (H' : Hp) (r : Addr), Same H H' → H r = none → H' r = some (.lst (iV [((p + 1 : Nat) : Int)])) → Q (.ref r) H'
theorem ok_left (T : Tp K mg) : GFn P w K mg base 3 "left" ["tree", "opens", "upper"] (spLeft K) := by
  have G_within : GFn P w K mg base 2 "within" ["tree", "mood", "other"] (spWithin K) := ok_within T
  refine gfn T.g_left (mk_ok T.f_left sc_left (bn_left "left") (fun vs H Q E h => ?_) (fun cdv A outer s H vs Q E hr h => ?_))
  · obtain ⟨t, o, n, p, rfl, _⟩ := h
    rfl
  · obtain ⟨t, o, n, p, rfl, ht, hp, ho, q⟩ := h
    refine ⟨_, (pss_one (ps_ret (pe_lc (own := [("mood", 3)]) (g := gName 3) rfl sc_left.nd (pi_reversed (by rfl) T.m_reversed (pa_cons (pv 1) pa_nil)) (blkOk_by (own := [("mood", 3)]) (N := ["tree", "opens", "upper", "mood"]) (sc := defScope s_left) (by decide +kernel)) (fun _ _ _ _ _ => pg_name (i := 3) sc_left.nd rfl (Or.inl rfl)) (fun _ _ _ _ _ => pts_one (pt_val (pe_g G_within hr rfl (pa_cons (pv 0) (pa_cons (pv 3) (pa_cons (pv 2) pa_nil)))))) (fun _ _ _ _ _ => (pv 3))))), ?_⟩
    refine ⟨_, rfl, o, _, rfl, SqL.of ho, fun D hD => lc_it (walk_rev (K := K) (a := o) (xs := iV [0, ((p + 1 : Nat) : Int)])) (fun i H' => Same H H' ∧ H' D = some (.lst (iV (if i = 0 then [] else [((p + 1 : Nat) : Int)])))) ⟨same_upd hD, upd_same⟩ (fun i H' _ p => SqL.of (p.1 _ _ ho)) ?_ ?_⟩
    · rintro i v H1 H2 hi ⟨sm, hl⟩ ⟨rfl, hv⟩
      match i, hv with
      | 0, hv =>
        cases hv
        refine ⟨rfl, _, rfl, _, rfl, _, rfl, t, n, p + 1, 0, rfl, ht.mono (xn_of sm), by omega, by omega, fun H3 s3 => ⟨_, rfl, ?_⟩⟩
        rw [show decide ((0 : Int) ∈ abv (p + 1)) = true by unfold abv; rw [if_neg (by omega)]; rfl]
        refine iteT ⟨_, rfl, _, s3 _ _ hl, by show 0 < sizeLine; decide, same_put (sm.trans s3) hD, upd_same⟩
      | 1, hv =>
        cases hv
        refine ⟨rfl, _, rfl, _, rfl, _, rfl, t, n, 0, 0, rfl, ht.mono (xn_of sm), by omega, by omega, fun H3 s3 => ⟨_, rfl, ?_⟩⟩
        refine iteF ⟨sm.trans s3, s3 _ _ hl⟩
      | i + 2, hv =>
        have : (iV [0, ((p + 1 : Nat) : Int)]).length = 2 := rfl
        omega
    · rintro H' ⟨sm, hl⟩
      exact q H' D sm hD hl
def spRemem : Sp := fun vs H Q _ => ∃ (t m o l : Addr) (ms : List V), vs = [.ref t, .ref m, .ref o, .ref l] ∧ H m = some (.lst ms) ∧ H l = some (.lst []) ∧ ∀ (H' : Hp) (r : Addr), Same H H' → H r = none → H' r = some (.lst ms) → Q (.ref r) H'
theorem ok_remembered (T : Tp K mg) : GFn P w K mg base 1 "remembered" ["tree", "memory", "opens", "moods"] spRemem := by
  refine gfn T.g_remembered (mk_ok T.f_remembered sc_remembered (bn_remembered "remembered") (fun vs H Q E h => ?_) (fun cdv A outer s H vs Q E hr h => ?_))
  · obtain ⟨t, m, o, l, ms, rfl, _⟩ := h
    rfl
  · obtain ⟨t, m, o, l, ms, rfl, hm, hl, q⟩ := h
    refine ⟨_, (pss_cons (ps_set (i := 4) sc_remembered.nd rfl (Or.inl rfl) (pe_callTy call_list_of (by rfl) T.m_list (by decide +kernel) (pa_cons (pv 1) pa_nil)))
      (pss_cons (ps_for PassesOwn.never rfl (pi_list (pv 3)) (pg_name (i := 5) sc_remembered.nd rfl (Or.inl rfl))
        (pss_one (ps_if (pt_cmpR op_eq (pe_ix ix_list (pe_fld (pv 0) rfl) (pv 5) (fun _ _ => rfl)) pe_str (nomark _))
          (pss_one (ps_for PassesOwn.never rfl (pi_list pe_never) (pg_name (i := 6) sc_remembered.nd rfl (Or.inl rfl))
            (pss_one (ps_if (pt_cmpR op_in_seq (pv 6) (pv 2) (by rfl))
              (pss_one (ps_asg (pv 6) (pg_sub (pv 4) (pv 5) set_list)))
              pss_nil))))
          pss_nil)))
      (pss_one (ps_ret (pv 4))))), ?_⟩
    refine ⟨_, rfl, m, _, rfl, .inl (SqL.of hm), fun r nr => ?_⟩
    have s1 := same_upd (o := .lst ms) nr
    refine ⟨_, rfl, l, rfl, ⟨_, SqL.of (s1 _ _ hl)⟩, for_list (K := K) (a := l) (xs := []) (fun i σ H' => σ = [some (.ref t), some (.ref m), some (.ref o), some (.ref l), some (.ref r), none, none] ∧ H' = upd H r (.lst ms)) ⟨rfl, rfl⟩ (fun i σ H' _ ⟨_, e⟩ => by rw [e]; exact SqL.of (s1 _ _ hl)) ?_ ?_⟩
    · rintro i y σ H' hy _
      simp at hy
    · rintro σ H' ⟨rfl, rfl⟩
      exact ⟨_, rfl, q _ r s1 nr upd_same⟩
def spHeeded (K : PySem.W.Frag) : Sp := fun vs H Q _ => ∃ (c : Addr) (n m : Nat) (bl : List (Str × Int)) (beg : List Dd) (ws : List Wy), vs = [.ref c, .int (m : Nat)] ∧ ChartAt K H c n bl beg ws ∧ 1 ≤ m ∧ m ≤ n ∧ Q (.bl false) H
theorem ok_heeded (T : Tp K mg) : GFn P w K mg base 1 "heeded" ["chart", "mood"] (spHeeded K) := by
  refine gfn T.g_heeded (mk_ok T.f_heeded sc_heeded (bn_heeded "heeded") (fun vs H Q E h => ?_) (fun cdv A outer s H vs Q E hr h => ?_))
  · obtain ⟨c, n, m, bl, beg, ws, rfl, _⟩ := h
    rfl
  · obtain ⟨c, n, m, bl, beg, ws, rfl, hc, hm1, hm, q⟩ := h
    refine ⟨_, (pss_cons (ps_if (pt_cmpR op_ne (pe_ix ix_list (pe_fld (pe_fld (pv 0) rfl) rfl) (pv 1) (fun _ _ => rfl)) pe_str (nomark _))
        (pss_one (ps_ret pe_bl))
        pss_nil)
      (pss_cons (ps_for PassesOwn.never rfl (pi_list (pe_fld (pv 0) rfl)) (pg_name (i := 2) sc_heeded.nd rfl (Or.inl rfl))
        (pss_cons (ps_if (PW.pt (pw_and (pt_cmpR op_eq (pe_ix ix_tup (pv 2) pe_int (fun _ _ => rfl)) (pv 1) (nomark _)) (pw_and1 (pt_cmpR op_ne (pe_ix ix_tup (pv 2) pe_int (fun _ _ => rfl)) pe_str (nomark _)))))
          (pss_one (ps_ret pe_bl))
          pss_nil)
        (pss_one (ps_if (PW.pt (pw_and (pt_cmpR op_eq (pe_ix ix_tup (pv 2) pe_int (fun _ _ => rfl)) pe_str (nomark _)) (pw_and1 (pt_val pe_never))))
          (pss_one (ps_ret pe_bl))
          pss_nil))))
      (pss_one (ps_ret pe_bl)))), ?_⟩
    obtain ⟨dx, bb, nm, t, is, os, wy, h1, h2, h3, h4, h5, h6⟩ := hc.ex
    obtain ⟨dt, kk, e, st, t0, t1, t2, t3⟩ := h3.ex
    refine ⟨_, rfl, c, He.ga K "Chart", dx, _, _, rfl, h1, T.c_Chart, T.n_Chart_tree, rfl, t, He.ga K "Tree", dt, _, _, rfl, t0, T.c_Tree, T.n_Tree_kinds, rfl, _, rfl, kk, _, _, _, rfl, rfl, SqL.of t1, kind_at hm, rfl, _, rfl, ?_⟩
    rw [if_neg (show ¬ m = 0 by omega)]
    exact iteT q
end
end K56
set_option Elab.async false
set_option linter.all false
set_option maxRecDepth 100000
set_option maxHeartbeats 4000000
namespace K56
open PySem PySem.Spec PyProof.Rows L2
/-- what loops over a list of no things, of one thing ask -/
abbrev LoopL (K : PySem.W.Frag) (a : Addr) (g : TG) (tb : L2.TS) (D : Ends) (σ : L2.St) (H : Hp) : Prop := ∃ W : Nat → Nat → L2.St → Hp → Prop, (∃ m0, W 0 m0 σ H) ∧ ∀ i0 m0 σ0 H0, W i0 m0 σ0 H0 →
      ((Itl K a).stop i0 H0 ∧ D.nx σ0 H0) ∨
      ((Itl K a).go i0 H0 ∧ ∃ Nn : L2.St → Hp → Prop, (∀ σ9 H9, Nn σ9 H9 → ∃ m9, m9 < m0 ∧ W (i0 + 1) m9 σ9 H9) ∧
        ∀ x0 H9, (Itl K a).yld i0 H0 x0 H9 → g x0 σ0 H9 fun σ2 H2 => tb { D with nx := Nn, ct := Nn, bk := D.nx } σ2 H2)
theorem for_nil {K : PySem.W.Frag} {a : Addr} {g : TG} {tb : L2.TS} {D : Ends} {σ : L2.St} {H : Hp} (h : SqL K H a []) (hd : D.nx σ H) : LoopL K a g tb D σ H :=
  for_list (K := K) (a := a) (xs := []) (fun _ σ' H' => σ' = σ ∧ H' = H) ⟨rfl, rfl⟩ (fun _ _ _ _ ⟨_, e⟩ => by rw [e]; exact h) (fun i x _ _ hx _ => by simp at hx) fun _ _ ⟨e1, e2⟩ => by rw [e1, e2]; exact hd
theorem for_one {K : PySem.W.Frag} {a : Addr} {x : V} {g : TG} {tb : L2.TS} {D : Ends} {σ : L2.St} {H : Hp} (h : SqL K H a [x])
    (hs : ∀ Nn : L2.St → Hp → Prop, (∀ σ' H', SqL K H' a [x] → D.nx σ' H' → Nn σ' H') → g x σ H fun σ2 H2 => tb { D with nx := Nn, ct := Nn, bk := D.nx } σ2 H2) : LoopL K a g tb D σ H := by
  refine for_list (K := K) (a := a) (xs := [x]) (fun i σ' H' => (i = 0 ∧ σ' = σ ∧ H' = H) ∨ (i = 1 ∧ SqL K H' a [x] ∧ D.nx σ' H')) (.inl ⟨rfl, rfl, rfl⟩) (fun i σ' H' _ p => ?_) (fun i y σ' H' hy p => ?_) fun σ' H' p => ?_
  · rcases p with ⟨_, _, e⟩ | ⟨_, e, _⟩
    · rw [e]; exact h
    · exact e
  · rcases p with ⟨rfl, rfl, rfl⟩ | ⟨rfl, _⟩
    · cases hy
      exact hs _ fun σ9 H9 q1 q2 => .inr ⟨rfl, q1, q2⟩
    · simp at hy
  · rcases p with ⟨e, _⟩ | ⟨_, _, e⟩
    · cases e
    · exact e
def insOf (beg : List Dd) (m : Nat) : List Dd := if m = 0 then beg else []
def entS (beg : List Dd) (ms : List Nat) : List Dd := ms.flatMap fun m => .mark (.inn (m : Nat)) :: insOf beg m
def outS (ms : List Nat) : List Dd := ms.map fun (m : Nat) => .mark (.out (m : Int))
theorem entS_len {beg : List Dd} (hb : beg.length ≤ 100) (ms : List Nat) : (entS beg ms).length ≤ ms.length * 101 := by
  unfold entS
  induction ms with
  | nil => exact Nat.le_refl _
  | cons m ms ih =>
    rw [List.flatMap_cons, List.length_append, List.length_cons, List.length_cons]
    have : (insOf beg m).length ≤ 100 := by unfold insOf; split; exact hb; exact Nat.zero_le _
    omega
theorem entS_take (beg : List Dd) {ms : List Nat} {i m : Nat} (h : ms[i]? = some m) : entS beg (ms.take (i + 1)) = (entS beg (ms.take i) ++ [.mark (.inn (m : Nat))]) ++ insOf beg m := by
  unfold entS
  rw [List.take_add_one, h, List.flatMap_append, List.append_assoc]
  simp
section
variable {P : Program} {w : World} {K : PySem.W.Frag} {mg : Str → Option Value} {base : Heap}
def spEntering (K : PySem.W.Frag) : Sp := fun vs H Q _ => ∃ (c l : Addr) (n : Nat) (bl : List (Str × Int)) (beg : List Dd) (ws : List Wy) (ms : List Nat), vs = [.ref c, .ref l] ∧ ChartAt K H c n bl beg ws ∧ H l = some (.lst (natV ms)) ∧ beg.length ≤ 100 ∧ ms.length ≤ 2 ∧ (∀ m ∈ ms, m ≤ n) ∧
  ∀ (H' : Hp) (r : Addr), Same H H' → H r = none → TL H' r ((entS beg ms).map ddD) → Q (.ref r) H'
theorem ok_entering (T : Tp K mg) : GFn P w K mg base 1 "entering" ["chart", "moods"] (spEntering K) := by
  refine gfn T.g_entering (mk_ok T.f_entering sc_entering (bn_entering "entering") (fun vs H Q E h => ?_) (fun cdv A outer s H vs Q E hr h => ?_))
  · obtain ⟨c, l, n, bl, beg, ws, ms, rfl, _⟩ := h
    rfl
  · obtain ⟨c, l, n, bl, beg, ws, ms, rfl, hc, hl, hbg, hml, hmn, q⟩ := h
    refine ⟨_, (pss_cons (ps_set (i := 2) sc_entering.nd rfl (Or.inl rfl) (pe_lst pa_nil))
      (pss_cons (ps_for PassesOwn.never rfl (pi_list (pv 1)) (pg_name (i := 3) sc_entering.nd rfl (Or.inl rfl))
        (pss_cons (ps_expr (pe_bm PySem.F.plainAttrs_list PySem.F.slot_list_append PySem.F.type_list_append mt_append (pv 2) (pa_cons (pe_tup (pa_cons pe_str (pa_cons (pv 3) pa_nil))) pa_nil)))
        (pss_one (ps_expr (pe_bm PySem.F.plainAttrs_list PySem.F.slot_list_extend PySem.F.type_list_extend mt_extendT (pv 2) (pa_cons (pe_ix ix_list (pe_fld (pv 0) rfl) (pv 3) (fun _ _ => rfl)) pa_nil))))))
      (pss_one (ps_ret (pv 2))))), ?_⟩
    obtain ⟨dx, bb, nm, t, is, os, wy, h1, h2, h3, ⟨iv, his, tis⟩, h5, h6⟩ := hc.ex
    refine ⟨Nat.zero_le _, fun r nr => ?_⟩
    have s1 : Same H (upd H r (.lst [])) := same_upd nr
    refine ⟨_, rfl, l, rfl, ⟨_, SqL.of (s1 _ _ hl)⟩, for_list (K := K) (a := l) (xs := natV ms) (fun i σ H' => ∃ v3, σ = [some (.ref c), some (.ref l), some (.ref r), v3] ∧ Same H H' ∧ TL H' r ((entS beg (ms.take i)).map ddD)) ⟨none, rfl, s1, [], upd_same, TDs.nil⟩ (fun i σ H' _ ⟨_, _, e, _⟩ => SqL.of (e _ _ hl)) ?_ ?_⟩
    · rintro i y σ H' hy ⟨v3, rfl, sm, ys, hr1, tys⟩
      obtain ⟨m, hm, rfl⟩ := natV_get hy
      have hmm := hmn m (List.mem_of_getElem? hm)
      have hyl : ys.length = (entS beg (ms.take i)).length := by rw [tys.len, List.length_map]
      have e1 := entS_len hbg (ms.take i)
      rw [List.length_take] at e1
      refine ⟨_, rfl, .inl ⟨rfl, _, SqL.of hr1⟩, _, rfl, by show 2 ≤ sizeLine; decide, fun p np => ?_⟩
      have s2 := same_upd (o := .tup [.str "in", .int (m : Nat)]) np
      have hr2 := s2 _ _ hr1
      have pr : p ≠ r := (ne_of_none hr1 np).symm
      refine ⟨r, _, _, rfl, rfl, hr2, small1000 (by omega), ?_⟩
      have sm2 := same_put (o := .lst (ys ++ [.ref p])) (sm.trans s2) nr
      obtain ⟨v, hv, td⟩ := tis.get (i := m) (d := ddsD (insOf beg m)) (by
        unfold insOf
        cases m with
        | zero => rfl
        | succ m => rw [List.getElem?_cons_succ, rep_get (by omega), if_neg (by omega)])
      obtain ⟨fa, as, rfl, hfa, tas⟩ := TD.mono (TS.of sm2) _ _ td
      have hil : (insOf beg m).length ≤ 100 := by unfold insOf; split; exact hbg; exact Nat.zero_le _
      have hal : as.length = (insOf beg m).length := by rw [tas.len, List.length_map]
      refine ⟨_, rfl, .inl ⟨rfl, _, SqL.of upd_same⟩, _, rfl, c, He.ga K "Chart", dx, _, _, rfl, sm2 _ _ h1, T.c_Chart, T.n_Chart_ins, rfl, _, rfl, is, _, _, _, rfl, rfl, SqL.of (sm2 _ _ his), atI_nat hv, ?_⟩
      refine ⟨r, fa, _, _, rfl, rfl, upd_same, hfa, len1000 (by rw [List.length_append, List.length_singleton]; omega), ?_⟩
      refine ⟨_, rfl, same_put sm2 nr, _, upd_same, ?_⟩
      rw [entS_take beg hm, List.map_append, List.map_append]
      have t1 : TS (upd H' p (.tup [.str "in", .int (m : Nat)])) (upd (upd H' p (.tup [.str "in", .int (m : Nat)])) r (.lst (ys ++ [.ref p]))) := ts_put hr2
      have tt : TS (upd (upd H' p (.tup [.str "in", .int (m : Nat)])) r (.lst (ys ++ [.ref p]))) (upd (upd (upd H' p (.tup [.str "in", .int (m : Nat)])) r (.lst (ys ++ [.ref p]))) r (.lst ((ys ++ [.ref p]) ++ as))) := ts_put upd_same
      refine TDs.app (TDs.snoc (TDs.mono (TS.trans (TS.trans (TS.of s2) t1) tt) _ _ tys) ?_) (TDs.mono tt _ _ tas)
      exact TD.mk2 (tt _ _ (t1 _ _ upd_same)) TD.ss TD.ii
    · rintro σ H' ⟨v3, rfl, sm, hr1⟩
      rw [natV_len, List.take_length] at hr1
      exact ⟨_, rfl, q H' r sm nr hr1⟩
def spLeaving (K : PySem.W.Frag) : Sp := fun vs H Q _ => ∃ (c l : Addr) (v1 v2 : V) (n : Nat) (bl : List (Str × Int)) (beg : List Dd) (ws : List Wy) (ms : List Nat), vs = [.ref c, v1, v2, .ref l] ∧ ChartAt K H c n bl beg ws ∧ H l = some (.lst (natV ms)) ∧ ms.length ≤ 2 ∧ (∀ m ∈ ms, 1 ≤ m ∧ m ≤ n) ∧
  ∀ (H' : Hp) (r : Addr), Same H H' → H r = none → TL H' r ((outS ms).map ddD) → Q (.ref r) H'
theorem ok_leaving (T : Tp K mg) : GFn P w K mg base 2 "leaving" ["chart", "memory", "behind", "moods"] (spLeaving K) := by
  have G_heeded : GFn P w K mg base 1 "heeded" ["chart", "mood"] (spHeeded K) := ok_heeded T
  refine gfn T.g_leaving (mk_ok T.f_leaving sc_leaving (bn_leaving "leaving") (fun vs H Q E h => ?_) (fun cdv A outer s H vs Q E hr h => ?_))
  · obtain ⟨c, l, v1, v2, n, bl, beg, ws, ms, rfl, _⟩ := h
    rfl
  · obtain ⟨c, l, v1, v2, n, bl, beg, ws, ms, rfl, hc, hl, hml, hmn, q⟩ := h
    refine ⟨_, (pss_cons (ps_set (i := 4) sc_leaving.nd rfl (Or.inl rfl) (pe_lst pa_nil))
      (pss_cons (ps_for PassesOwn.never rfl (pi_list (pv 3)) (pg_name (i := 5) sc_leaving.nd rfl (Or.inl rfl))
        (pss_cons (ps_expr (pe_bm PySem.F.plainAttrs_list PySem.F.slot_list_append PySem.F.type_list_append mt_append (pv 4) (pa_cons (pe_tup (pa_cons pe_str (pa_cons (pv 5) pa_nil))) pa_nil)))
        (pss_cons (ps_if (pt_val (pe_g G_heeded hr rfl (pa_cons (pv 0) (pa_cons (pv 5) pa_nil))))
          (pss_one (ps_expr (pe_bm PySem.F.plainAttrs_list PySem.F.slot_list_append PySem.F.type_list_append mt_append (pv 4) (pa_cons (pe_tup (pa_cons pe_str (pa_cons (pv 5) (pa_cons (pe_ix ix_list (pv 1) (pv 5) (fun _ _ => rfl)) (pa_cons (pe_ix ix_list (pv 2) (pv 5) (fun _ _ => rfl)) pa_nil))))) pa_nil))))
          pss_nil)
        (pss_one (ps_expr (pe_bm PySem.F.plainAttrs_list PySem.F.slot_list_extend PySem.F.type_list_extend mt_extendT (pv 4) (pa_cons (pe_ix ix_list (pe_fld (pv 0) rfl) (pv 5) (fun _ _ => rfl)) pa_nil)))))))
      (pss_one (ps_ret (pv 4))))), ?_⟩
    obtain ⟨dx, bb, nm, t, is, os, wy, h1, h2, h3, h4, ⟨ov, hos, tos⟩, h6⟩ := hc.ex
    refine ⟨Nat.zero_le _, fun r nr => ?_⟩
    have s1 : Same H (upd H r (.lst [])) := same_upd nr
    refine ⟨_, rfl, l, rfl, ⟨_, SqL.of (s1 _ _ hl)⟩, for_list (K := K) (a := l) (xs := natV ms) (fun i σ H' => ∃ v5, σ = [some (.ref c), some v1, some v2, some (.ref l), some (.ref r), v5] ∧ Same H H' ∧ TL H' r ((outS (ms.take i)).map ddD)) ⟨none, rfl, s1, [], upd_same, TDs.nil⟩ (fun i σ H' _ ⟨_, _, e, _⟩ => SqL.of (e _ _ hl)) ?_ ?_⟩
    · rintro i y σ H' hy ⟨v3, rfl, sm, ys, hr1, tys⟩
      obtain ⟨m, hm, rfl⟩ := natV_get hy
      obtain ⟨hm1, hmm⟩ := hmn m (List.mem_of_getElem? hm)
      have hyl : ys.length = (ms.take i).length := by rw [tys.len, List.length_map]; unfold outS; rw [List.length_map]
      rw [List.length_take] at hyl
      refine ⟨_, rfl, .inl ⟨rfl, _, SqL.of hr1⟩, _, rfl, by show 2 ≤ sizeLine; decide, fun p np => ?_⟩
      have s2 := same_upd (o := .tup [.str "out", .int (m : Nat)]) np
      have hr2 := s2 _ _ hr1
      refine ⟨r, _, _, rfl, rfl, hr2, small1000 (by omega), ?_⟩
      have sm2 := same_put (o := .lst (ys ++ [.ref p])) (sm.trans s2) nr
      refine ⟨_, rfl, _, rfl, c, n, m, bl, beg, ws, rfl, hc.mono (xn_of sm2), hm1, hmm, _, rfl, iteF ?_⟩
      obtain ⟨v, hv, td⟩ := tos.get (i := m) (d := ddsD []) (rep_get (by omega))
      obtain ⟨fa, as, rfl, hfa, tas⟩ := TD.mono (TS.of sm2) _ _ td
      obtain rfl : as = [] := tas
      refine ⟨_, rfl, .inl ⟨rfl, _, SqL.of upd_same⟩, _, rfl, c, He.ga K "Chart", dx, _, _, rfl, sm2 _ _ h1, T.c_Chart, T.n_Chart_outs, rfl, _, rfl, os, _, _, _, rfl, rfl, SqL.of (sm2 _ _ hos), atI_nat hv, ?_⟩
      refine ⟨r, fa, _, _, rfl, rfl, upd_same, hfa, len1000 (by rw [List.length_append]; simp; omega), ?_⟩
      refine ⟨_, rfl, same_put sm2 nr, _, upd_same, ?_⟩
      unfold outS at tys ⊢
      rw [List.take_add_one, hm, List.map_append, List.map_append, List.append_nil]
      have t1 : TS (upd H' p (.tup [.str "out", .int (m : Nat)])) (upd (upd H' p (.tup [.str "out", .int (m : Nat)])) r (.lst (ys ++ [.ref p]))) := ts_put hr2
      have tt : TS (upd (upd H' p (.tup [.str "out", .int (m : Nat)])) r (.lst (ys ++ [.ref p]))) (upd (upd (upd H' p (.tup [.str "out", .int (m : Nat)])) r (.lst (ys ++ [.ref p]))) r (.lst (ys ++ [.ref p]))) := ts_put upd_same
      refine TDs.snoc (TDs.mono (TS.trans (TS.trans (TS.of s2) t1) tt) _ _ tys) ?_
      exact TD.mk2 (tt _ _ (t1 _ _ upd_same)) TD.ss TD.ii
    · rintro σ H' ⟨v3, rfl, sm, hr1⟩
      rw [natV_len, List.take_length] at hr1
      exact ⟨_, rfl, q H' r sm nr hr1⟩
/-! ### begun -/
def spBegun (K : PySem.W.Frag) : Sp := fun vs H Q _ => ∃ (c : Addr) (n : Nat) (bl : List (Str × Int)) (beg : List Dd) (ws : List Wy), vs = [.ref c] ∧ ChartAt K H c n bl beg ws ∧ 1 ≤ n ∧ n ≤ 100 ∧ beg.length ≤ 100 ∧
  ∀ (H' : Hp) (p sc o mm : Addr) (ms : List Int), ms ≠ [] → Same H H' → H' p = some (.tup [.ref sc, .ref o, .ref mm]) → H o = none → H mm = none → TL H' sc ((entS beg [0, 1]).map ddD) → H' o = some (.lst (iV [0, 1])) → H' mm = some (.lst (iV ms)) → Q (.ref p) H'
theorem ok_begun (T : Tp K mg) : GFn P w K mg base 3 "begun" ["chart"] (spBegun K) := by
  have G_opened : GFn P w K mg base 2 "opened" ["tree", "memory", "mood", "mode"] (spOpenR K) := ok_openedR T
  have G_entering : GFn P w K mg base 1 "entering" ["chart", "moods"] (spEntering K) := ok_entering T
  refine gfn T.g_begun (mk_ok T.f_begun sc_begun (bn_begun "begun") (fun vs H Q E h => ?_) (fun cdv A outer s H vs Q E hr h => ?_))
  · obtain ⟨c, n, bl, beg, ws, rfl, _⟩ := h
    rfl
  · obtain ⟨c, n, bl, beg, ws, rfl, hc, hn, hn2, hbg, q⟩ := h
    refine ⟨_, (pss_cons (ps_setLc (i := 1) (own := [("mood", 3)]) (g := gName 3) (tt := tYes) rfl sc_begun.nd rfl rfl (sw_true rfl rfl rfl (by decide +kernel)) (pi_list (pe_fld (pe_fld (pv 0) rfl) rfl)) (blkOk_by (own := [("mood", 3)]) (N := ["chart", "memory", "opens", "mood"]) (sc := defScope s_begun) (by decide +kernel)) (fun _ _ _ _ _ => pg_name (i := 3) sc_begun.nd rfl (Or.inl rfl)) (fun _ _ _ _ _ => pts_nil) (fun _ _ _ _ _ => (pe_un un_neg pe_int)))
      (pss_cons (ps_set (i := 2) sc_begun.nd rfl (Or.inl rfl) (pe_g G_opened hr rfl (pa_cons (pe_fld (pv 0) rfl) (pa_cons (pv 1) (pa_cons pe_int (pa_cons pe_str pa_nil))))))
      (pss_one (ps_ret (pe_tup (pa_cons (pe_g G_entering hr rfl (pa_cons (pv 0) (pa_cons (pv 2) pa_nil))) (pa_cons (pv 2) (pa_cons (pv 1) pa_nil)))))))), ?_⟩
    obtain ⟨dx, bb, nm, t, is, os, wy, h1, h2, h3, h4, h5, h6⟩ := hc.ex
    obtain ⟨dt, kk, e, st, t0, t1, t2, t3⟩ := h3.ex
    have kl : (strV (("one" : Str) :: List.replicate n ("leaf" : Str))).length = n + 1 := by unfold strV; rw [List.length_map, List.length_cons, List.length_replicate]
    refine ⟨_, rfl, c, He.ga K "Chart", dx, _, _, rfl, h1, T.c_Chart, T.n_Chart_tree, rfl, t, He.ga K "Tree", dt, _, _, rfl, t0, T.c_Tree, T.n_Tree_kinds, rfl, kk, rfl, ⟨_, SqL.of t1⟩,
      fun D hD => lc_list (K := K) (a := kk) (xs := strV (("one" : Str) :: List.replicate n ("leaf" : Str))) (fun i H' => Same H H' ∧ ∃ ms : List Int, ms.length = i ∧ H' D = some (.lst (iV ms))) ⟨same_upd hD, [], rfl, upd_same⟩ (fun i H' _ p => SqL.of (p.1 _ _ t1)) ?_ ?_⟩
    · rintro i y H' hy ⟨sm, ms, hms, hl⟩
      have hi := (List.getElem?_eq_some_iff.mp hy).1
      rw [kl] at hi
      refine ⟨rfl, _, rfl, _, hl, ?_, same_put sm hD, ms ++ [-1], by rw [List.length_append, hms]; rfl, ?_⟩
      · unfold iV
        rw [List.length_map]
        exact small1000 (by omega)
      · rw [upd_same]
        unfold iV
        rw [List.map_append]
        rfl
    · rintro H1 ⟨sm, ms, hms, hl⟩
      rw [kl] at hms
      refine ⟨_, rfl, c, He.ga K "Chart", dx, _, _, rfl, sm _ _ h1, T.c_Chart, T.n_Chart_tree, rfl, _, rfl, t, _, n, rfl, h3.mono (xn_of sm), hn, fun H2 o s2 no ho => ?_⟩
      have sm2 := sm.trans s2
      refine ⟨_, rfl, _, rfl, c, o, n, bl, beg, ws, [0, 1], rfl, hc.mono (xn_of sm2), ho, hbg, by decide, (fun m hm => ?_), fun H3 sc s3 nsc tsc => ?_⟩
      · have hm := List.mem_cons.mp hm
        rcases hm with rfl | hm
        · exact Nat.zero_le _
        · rw [List.mem_singleton.mp hm]; exact hn
      refine ⟨_, rfl, _, rfl, by show 3 ≤ sizeLine; decide, fun p np => ?_⟩
      have s4 := same_upd (o := .tup [.ref sc, .ref o, .ref D]) np
      exact q _ p sc o D ms (fun z => by rw [z] at hms; cases hms) ((sm2.trans s3).trans s4) upd_same (sm.free no) hD (tsc.same s4) (s4 _ _ (s3 _ _ ho)) (s4 _ _ (s3 _ _ (s2 _ _ hl)))
end
end K56
set_option Elab.async false
set_option linter.all false
set_option maxRecDepth 100000
set_option maxHeartbeats 4000000
namespace K56
open PySem PySem.Spec PyProof.Rows L2
theorem perm_few {α : Type} {l ns : List α} (h : l.length ≤ 1) (p : ns.Perm l) : ns = l := by
  match l, h with
  | [], _ => exact p.eq_nil
  | [x], _ => exact List.perm_singleton.mp p
  | _ :: _ :: _, h => simp at h
def aimD (x : Nat × Wy) : PyData := .tuple [.int 0, .int x.2.tgt, .str "new"]
def wayS (ps : List (Nat × Wy)) : List Dd := ps.flatMap fun x => .mark (.way (x.1 : Nat)) :: x.2.deeds
/-- what a move's script is, for at most one way -/
def mvS (p : Nat) (beg : List Dd) (ps : List (Nat × Wy)) : List Dd := outS (ps.map fun _ => p + 1) ++ wayS ps ++ entS beg (ps.map fun x => x.2.tgt)
def mvP (p : Nat) (ps : List (Nat × Wy)) : Nat := match ps with
  | [] => p + 1
  | x :: _ => x.2.tgt
def stay (p : Nat) (ps : List (Nat × Wy)) (j : Nat) : Bool := !decide (j ∈ ps.map fun _ => p + 1)
theorem wayS_take {ps : List (Nat × Wy)} {i : Nat} {x : Nat × Wy} (h : ps[i]? = some x) : wayS (ps.take (i + 1)) = (wayS (ps.take i) ++ [.mark (.way (x.1 : Nat))]) ++ x.2.deeds := by
  unfold wayS
  rw [List.take_add_one, h, List.flatMap_append, List.append_assoc]
  simp
theorem map_get {α β : Type} {f : α → β} {l : List α} {i : Nat} {y : β} (h : (l.map f)[i]? = some y) : ∃ x, l[i]? = some x ∧ y = f x := by
  rw [List.getElem?_map] at h
  obtain ⟨x, h1, h2⟩ := Option.map_eq_some_iff.mp h
  exact ⟨x, h1, h2.symm⟩
theorem natV_snoc (l : List Nat) (j : Nat) : natV l ++ [.int (j : Nat)] = natV (l ++ [j]) := by
  simp only [natV, iV, List.map_append, List.map_cons, List.map_nil]
section
variable {P : Program} {w : World} {K : PySem.W.Frag} {mg : Str → Option Value} {base : Heap}
def spMoved (K : PySem.W.Frag) : Sp := fun vs H Q _ => ∃ (c o mm l : Addr) (n m p : Nat) (bl : List (Str × Int)) (beg : List Dd) (ws : List Wy) (ms : List V) (ps : List (Nat × Wy)), vs = [.ref c, .ref o, .ref mm, .ref l] ∧ ChartAt K H c n bl beg ws ∧ WaysOk n m ws ∧ p < n ∧ beg.length ≤ 100 ∧
  H o = some (.lst (iV [0, ((p + 1 : Nat) : Int)])) ∧ H mm = some (.lst ms) ∧ ps.length ≤ 1 ∧ (∀ x ∈ ps, ws[x.1]? = some x.2) ∧ H l = some (.lst (natV (ps.map (·.1)))) ∧
  ∀ (H' : Hp) (q sc o' b' : Addr), Same H H' → H' q = some (.tup [.ref sc, .ref o', .ref b']) → H o' = none → H b' = none → TL H' sc ((mvS p beg ps).map ddD) → H' o' = some (.lst (iV [0, ((mvP p ps : Nat) : Int)])) → H' b' = some (.lst ms) → Q (.ref q) H'
theorem ok_moved (T : Tp K mg) : GFn P w K mg base 4 "moved" ["chart", "opens", "memory", "ways"] (spMoved K) := by
  have G_top : GFn P w K mg base 2 "top" ["tree", "one", "other"] (spTop K) := ok_top T
  have G_left : GFn P w K mg base 3 "left" ["tree", "opens", "upper"] (spLeft K) := ok_left T
  have G_remembered : GFn P w K mg base 1 "remembered" ["tree", "memory", "opens", "moods"] spRemem := ok_remembered T
  have G_heeded : GFn P w K mg base 1 "heeded" ["chart", "mood"] (spHeeded K) := ok_heeded T
  have G_entered : GFn P w K mg base 3 "entered" ["tree", "memory", "upper", "target", "mode"] (spEntered K) := ok_entered T
  have G_leaving : GFn P w K mg base 2 "leaving" ["chart", "memory", "behind", "moods"] (spLeaving K) := ok_leaving T
  have G_entering : GFn P w K mg base 1 "entering" ["chart", "moods"] (spEntering K) := ok_entering T
  refine gfn T.g_moved (mk_ok T.f_moved sc_moved (bn_moved "moved") (fun vs H Q E h => ?_) (fun cdv A outer s H vs Q E hr h => ?_))
  · obtain ⟨c, o, mm, l, n, m, p, bl, beg, ws, ms, ps, rfl, _⟩ := h
    rfl
  · obtain ⟨c, o, mm, l, n, m, p, bl, beg, ws, ms, ps, rfl, hc, hw, hp, hbg, ho, hmm, hps, hpw, hl, q⟩ := h
    refine ⟨_, (pss_cons (ps_set (i := 4) sc_moved.nd rfl (Or.inl rfl) (pe_fld (pv 0) rfl))
      (pss_cons (ps_set (i := 5) sc_moved.nd rfl (Or.inl rfl) (pe_lst pa_nil))
      (pss_cons (ps_set (i := 6) sc_moved.nd rfl (Or.inl rfl) (pe_lst pa_nil))
      (pss_cons (ps_for PassesOwn.never rfl (pi_list (pv 3)) (pg_name (i := 7) sc_moved.nd rfl (Or.inl rfl))
        (pss_cons (ps_set (i := 8) sc_moved.nd rfl (Or.inl rfl) (pe_ix ix_list (pe_fld (pv 0) rfl) (pv 7) (fun _ _ => rfl)))
        (pss_cons (ps_if (pt_cmpR op_ne (pe_ix ix_tup (pv 8) pe_int (fun _ _ => rfl)) (pe_un un_neg pe_int) (nomark _))
          (pss_one (ps_expr (pe_bm PySem.F.plainAttrs_list PySem.F.slot_list_append PySem.F.type_list_append mt_append (pv 5) (pa_cons (pe_tup (pa_cons (pe_g G_top hr rfl (pa_cons (pv 4) (pa_cons (pe_ix ix_tup (pv 8) pe_int (fun _ _ => rfl)) (pa_cons (pe_ix ix_tup (pv 8) pe_int (fun _ _ => rfl)) pa_nil)))) (pa_cons (pe_ix ix_tup (pv 8) pe_int (fun _ _ => rfl)) (pa_cons (pe_ix ix_tup (pv 8) pe_int (fun _ _ => rfl)) pa_nil)))) pa_nil))))
          pss_nil)
        (pss_cons (ps_expr (pe_bm PySem.F.plainAttrs_list PySem.F.slot_list_append PySem.F.type_list_append mt_append (pv 6) (pa_cons (pe_tup (pa_cons pe_str (pa_cons (pv 7) pa_nil))) pa_nil)))
        (pss_one (ps_expr (pe_bm PySem.F.plainAttrs_list PySem.F.slot_list_extend PySem.F.type_list_extend mt_extendT (pv 6) (pa_cons (pe_ix ix_tup (pv 8) pe_int (fun _ _ => rfl)) pa_nil))))))))
      (pss_cons (ps_set (i := 9) sc_moved.nd rfl (Or.inr rfl) (pe_lst pa_nil))
      (pss_cons (ps_for PassesOwn.never rfl (pi_list (pv 5)) (pg_name (i := 10) sc_moved.nd rfl (Or.inl rfl))
        (pss_one (ps_expr (pe_bm PySem.F.plainAttrs_list PySem.F.slot_list_extend PySem.F.type_list_extend mt_extend (pv 9) (pa_cons (pe_g G_left hr rfl (pa_cons (pv 4) (pa_cons (pv 1) (pa_cons (pe_ix ix_tup (pv 10) pe_int (fun _ _ => rfl)) pa_nil)))) pa_nil)))))
      (pss_cons (ps_set (i := 9) sc_moved.nd rfl (Or.inr rfl) (pe_callBK (cr_sortedRev (b := true)) rfl T.m_sorted (by decide +kernel) (pa_cons (pv 9) pa_nil) (pk_cons pe_bl pk_nil)))
      (pss_cons (ps_set (i := 11) sc_moved.nd rfl (Or.inl rfl) (pe_g G_remembered hr rfl (pa_cons (pv 4) (pa_cons (pv 2) (pa_cons (pv 1) (pa_cons (pe_lc (own := [("mood", 13)]) (g := gName 13) rfl sc_moved.nd (pi_list (pv 9)) (blkOk_by (own := [("mood", 13)]) (N := ["chart", "opens", "memory", "ways", "tree", "aims", "script", "number", "way", "gone", "aim", "behind", "made", "mood"]) (sc := defScope s_moved) (by decide +kernel)) (fun _ _ _ _ _ => pg_name (i := 13) sc_moved.nd rfl (Or.inl rfl)) (fun _ _ _ _ _ => pts_one (pt_val (pe_g G_heeded hr rfl (pa_cons (pv 0) (pa_cons (pv 13) pa_nil))))) (fun _ _ _ _ _ => (pv 13))) pa_nil))))))
      (pss_cons (ps_set (i := 12) sc_moved.nd rfl (Or.inl rfl) (pe_lst pa_nil))
      (pss_cons (ps_for PassesOwn.never rfl (pi_list (pv 5)) (pg_name (i := 10) sc_moved.nd rfl (Or.inl rfl))
        (pss_one (ps_expr (pe_bm PySem.F.plainAttrs_list PySem.F.slot_list_extend PySem.F.type_list_extend mt_extend (pv 12) (pa_cons (pe_g G_entered hr rfl (pa_cons (pv 4) (pa_cons (pv 11) (pa_cons (pe_ix ix_tup (pv 10) pe_int (fun _ _ => rfl)) (pa_cons (pe_ix ix_tup (pv 10) pe_int (fun _ _ => rfl)) (pa_cons (pe_ix ix_tup (pv 10) pe_int (fun _ _ => rfl)) pa_nil)))))) pa_nil)))))
      (pss_cons (ps_set (i := 12) sc_moved.nd rfl (Or.inl rfl) (pe_callB cr_sorted (by rfl) T.m_sorted (by decide +kernel) (pa_cons (pv 12) pa_nil)))
      (pss_cons (ps_set (i := 6) sc_moved.nd rfl (Or.inl rfl) (pe_op op_cat (pe_op op_cat (pe_g G_leaving hr rfl (pa_cons (pv 0) (pa_cons (pv 2) (pa_cons (pv 11) (pa_cons (pv 9) pa_nil))))) (pv 6)) (pe_g G_entering hr rfl (pa_cons (pv 0) (pa_cons (pv 12) pa_nil)))))
      (pss_one (ps_ret (pe_tup (pa_cons (pv 6) (pa_cons (pe_callB cr_sorted (by rfl) T.m_sorted (by decide +kernel) (pa_cons (pe_op op_cat (pe_lc (own := [("mood", 13)]) (g := gName 13) rfl sc_moved.nd (pi_list (pv 1)) (blkOk_by (own := [("mood", 13)]) (N := ["chart", "opens", "memory", "ways", "tree", "aims", "script", "number", "way", "gone", "aim", "behind", "made", "mood"]) (sc := defScope s_moved) (by decide +kernel)) (fun _ _ _ _ _ => pg_name (i := 13) sc_moved.nd rfl (Or.inl rfl)) (fun _ _ _ _ _ => pts_one (pt_cmpR (op_notIn_seqK (K := K)) (pv 13) (pv 9) (by rfl))) (fun _ _ _ _ _ => (pv 13))) (pv 12)) pa_nil)) (pa_cons (pv 11) pa_nil)))))))))))))))))), ?_⟩
    obtain ⟨dx, bb, nm, t, is, os, wy, h1, h2, h3, h4, h5, ⟨wv, hwy, tw⟩⟩ := hc.ex
    refine ⟨_, rfl, c, He.ga K "Chart", dx, _, _, rfl, h1, T.c_Chart, T.n_Chart_tree, rfl, ?_⟩
    refine ⟨Nat.zero_le _, fun a na => ⟨Nat.zero_le _, fun sc nsc => ?_⟩⟩
    have s1 : Same H (upd H a (.lst [])) := same_upd na
    have nsc0 : H sc = none := s1.free nsc
    have asc : a ≠ sc := ne_of_none upd_same nsc
    have s2 := s1.trans (same_upd (o := .lst []) nsc)
    refine ⟨_, rfl, l, rfl, ⟨_, SqL.of (s2 _ _ hl)⟩, for_list (K := K) (a := l) (xs := natV (ps.map (·.1))) (fun i σ H' => ∃ v7 v8, σ = [some (.ref c), some (.ref o), some (.ref mm), some (.ref l), some (.ref t), some (.ref a), some (.ref sc), v7, v8, none, none, none, none, none] ∧ Same H H' ∧
      TL H' a ((ps.take i).map aimD) ∧ TL H' sc ((wayS (ps.take i)).map ddD)) ⟨none, none, rfl, s2, ⟨[], by rw [upd_ne asc]; exact upd_same, TDs.nil⟩, ⟨[], upd_same, TDs.nil⟩⟩ (fun i σ H' _ ⟨_, _, _, e, _⟩ => SqL.of (e _ _ hl)) ?_ ?_⟩
    · rintro i y σ H' hy ⟨v7, v8, rfl, sm, ⟨avs, ha, tas⟩, ⟨svs, hs, tss⟩⟩
      obtain ⟨j, hj, rfl⟩ := natV_get hy
      obtain ⟨x, hx, rfl⟩ := map_get hj
      have hxi := (List.getElem?_eq_some_iff.mp hx).1
      have i0 : i = 0 := by omega
      have hwx := hpw x (List.mem_of_getElem? hx)
      have w0 := hw.ok x.2 (List.mem_of_getElem? hwx)
      obtain ⟨v, hv, td⟩ := tw.get (i := x.1) (d := wyD x.2) (by rw [List.getElem?_map, hwx]; rfl)
      obtain ⟨f, x3, x4, rfl, hf0, _, ⟨fa, dv, rfl, hfa0, tdv⟩⟩ := wy_get td
      have hf := sm _ _ hf0
      refine ⟨_, rfl, c, He.ga K "Chart", dx, _, _, rfl, sm _ _ h1, T.c_Chart, T.n_Chart_ways, rfl, _, rfl, wy, wv, _, _, rfl, rfl, SqL.of (sm _ _ hwy), atI_nat hv, ?_⟩
      refine ⟨_, rfl, f, _, _, _, rfl, rfl, SqT.of hf, rfl, _, rfl, rfl, _, rfl, ?_⟩
      have dt : decide (V.int ((x.2.tgt : Nat) : Int) = V.int (-1)) = false := by rw [dec_int']; exact decide_eq_false (by omega)
      rw [dt]
      have hal : avs.length ≤ 1 := by rw [tas.len, List.length_map, List.length_take]; omega
      have hsl : svs.length = 0 := by rw [tss.len, List.length_map, i0]; rfl
      refine iteT ⟨_, rfl, .inl ⟨rfl, _, SqL.of ha⟩, _, rfl, _, rfl, f, _, _, _, rfl, rfl, SqT.of hf, rfl, _, rfl, f, _, _, _, rfl, rfl, SqT.of hf, rfl, t, n, x.2.src, x.2.tgt, rfl, h3.mono (xn_of sm), w0.1, w0.2.1, w0.2.2.1, w0.2.2.2.1, fun H2 s2' => ?_⟩
      have hf2 := s2' _ _ hf
      refine ⟨_, rfl, f, _, _, _, rfl, rfl, SqT.of hf2, rfl, _, rfl, f, _, _, _, rfl, rfl, SqT.of hf2, rfl, by show 3 ≤ sizeLine; decide, fun qq nq => ?_⟩
      have s3 := s2'.trans (same_upd (o := .tup [.int 0, .int (x.2.tgt : Nat), .str "new"]) nq)
      have ha3 := s3 _ _ ha
      refine ⟨a, _, _, rfl, rfl, ha3, small1000 (by omega), ?_⟩
      have sm4 := same_put (o := .lst (avs ++ [.ref qq])) (sm.trans s3) na
      have ts4 : TS H' _ := (TS.of s3).trans (ts_put (o := .lst (avs ++ [.ref qq])) ha3)
      have hs4 : (upd (upd H2 qq (.tup [.int 0, .int (x.2.tgt : Nat), .str "new"])) a (.lst (avs ++ [.ref qq]))) sc = some (.lst svs) := by
        rw [upd_ne asc.symm]
        exact s3 _ _ hs
      refine ⟨_, rfl, .inl ⟨rfl, _, SqL.of hs4⟩, _, rfl, by show 2 ≤ sizeLine; decide, fun u nu => ?_⟩
      have s5 := same_upd (o := .tup [.str "way", .int (x.1 : Nat)]) nu
      have hs5 := s5 _ _ hs4
      refine ⟨sc, _, _, rfl, rfl, hs5, small1000 (by omega), ?_⟩
      have sm6 := same_put (o := .lst (svs ++ [.ref u])) (sm4.trans s5) nsc0
      have ts6 := (TS.of s5).trans (ts_put (o := .lst (svs ++ [.ref u])) hs5)
      have hdl : dv.length = x.2.deeds.length := by rw [tdv.len, List.length_map]
      have w8 : x.2.deeds.length ≤ 3 := w0.2.2.2.2.2.2.2.1
      refine ⟨_, rfl, .inl ⟨rfl, _, SqL.of upd_same⟩, _, rfl, f, _, _, _, rfl, rfl, SqT.of (sm6 _ _ hf0), rfl, sc, fa, _, _, rfl, rfl, upd_same, sm6 _ _ hfa0, len1000 (by rw [List.length_append, List.length_singleton]; omega), ?_⟩
      have ts7 := ts6.trans (ts_put (o := .lst ((svs ++ [.ref u]) ++ dv)) upd_same)
      refine ⟨_, _, rfl, same_put sm6 nsc0, ⟨avs ++ [.ref qq], ?_, ?_⟩, ⟨_, upd_same, ?_⟩⟩
      · rw [upd_ne asc, upd_ne asc]
        exact s5 _ _ upd_same
      · rw [List.take_add_one, hx, List.map_append]
        refine TDs.snoc (TDs.mono (ts4.trans ts7) _ _ tas) (TD.mono ((ts_put (o := .lst (avs ++ [.ref qq])) ha3).trans ts7) _ _ (TD.mk3 upd_same TD.ii TD.ii TD.ss))
      · rw [wayS_take hx, List.map_append, List.map_append]
        refine TDs.app (TDs.snoc (TDs.mono (ts4.trans ts7) _ _ tss) (TD.mono ((ts_put (o := .lst (svs ++ [.ref u])) hs5).trans (ts_put (o := .lst ((svs ++ [.ref u]) ++ dv)) upd_same)) _ _ (TD.mk2 upd_same TD.ss TD.ii))) ?_
        exact TDs.mono (TS.of (same_put sm6 nsc0)) _ _ tdv
    · rintro σ H1 ⟨v7, v8, rfl, sm1, la, ls⟩
      rw [natV_len, List.length_map, List.take_length] at la ls
      refine ⟨Nat.zero_le _, fun g ng => ?_⟩
      obtain ⟨avs, ha1, tas1⟩ := la
      have hal : avs.length = ps.length := by rw [tas1.len, List.length_map]
      have s2 := same_upd (o := .lst []) ng
      have ng0 : H g = none := sm1.free ng
      have ag : a ≠ g := ne_of_none ha1 ng
      have sg : sc ≠ g := ne_of_none ls.choose_spec.1 ng
      refine ⟨_, rfl, a, rfl, ⟨_, SqL.of (s2 _ _ ha1)⟩, for_list (K := K) (a := a) (xs := avs) (fun i σ H' => ∃ v10, σ = [some (.ref c), some (.ref o), some (.ref mm), some (.ref l), some (.ref t), some (.ref a), some (.ref sc), v7, v8, some (.ref g), v10, none, none, none] ∧ Same H H' ∧ TS H1 H' ∧
        H' a = some (.lst avs) ∧ TL H' sc ((wayS ps).map ddD) ∧ H' g = some (.lst (natV ((ps.take i).map fun _ => p + 1)))) ⟨none, rfl, sm1.trans s2, TS.of s2, s2 _ _ ha1, ls.same s2, upd_same⟩ (fun i σ H' _ ⟨_, _, _, _, e, _⟩ => SqL.of e) ?_ ?_⟩
      · rintro i y σ H' hy ⟨v10, rfl, sm, tsm, ha, lsc, hg⟩
        obtain ⟨pd, hpd, td⟩ := tas1.get' hy
        obtain ⟨x, hx, rfl⟩ := map_get hpd
        obtain ⟨f, y1, y2, y3, rfl, hf, e1, e2, e3⟩ := TD.t3 (TD.mono tsm _ _ td)
        obtain rfl := TD.i e1
        have hxi := (List.getElem?_eq_some_iff.mp hx).1
        refine ⟨_, rfl, .inl ⟨rfl, _, SqL.of hg⟩, _, rfl, _, rfl, _, rfl, f, _, _, _, rfl, rfl, SqT.of hf, rfl, t, o, n, p, rfl, h3.mono (xn_of sm), hp, sm _ _ ho, fun H2 r s3 nr hr3 => ?_⟩
        refine ⟨g, r, _, _, rfl, rfl, s3 _ _ hg, hr3, len1000 (by rw [natV_len, List.length_map, List.length_take]; show _ + 1 ≤ 1000; omega), ?_⟩
        refine ⟨_, rfl, same_put (sm.trans s3) ng0, tsm.trans ((TS.of s3).trans (ts_put (s3 _ _ hg))), by rw [upd_ne ag]; exact s3 _ _ ha, ?_, ?_⟩
        · exact (lsc.same s3).mono (ts_put (s3 _ _ hg)) fun xs e => by rw [upd_ne sg]; exact e
        · rw [upd_same, List.take_add_one, hx, List.map_append]
          exact congrArg (fun z => some (HO.lst z)) (natV_snoc _ _)
      · rintro σ H2 ⟨v10, rfl, sm2, ts2, ha2, ls2, hg2⟩
        rw [hal, List.take_length] at hg2
        refine ⟨_, rfl, g, _, rfl, rfl, SqL.of hg2, fun ns g2 hperm _ ng2 => ?_⟩
        obtain rfl := perm_few (by rw [List.length_map, List.length_map]; exact hps) hperm
        have s3 := same_upd (o := .lst (natV (ps.map fun _ => p + 1))) ng2
        have sm3 := sm2.trans s3
        have hg3 : (upd H2 g2 (.lst (natV (ps.map fun _ => p + 1)))) g2 = some (.lst (natV (ps.map fun _ => p + 1))) := upd_same
        refine ⟨_, rfl, _, rfl, _, rfl, _, rfl, g2, rfl, ⟨_, SqL.of hg3⟩, fun D hD => lc_list (K := K) (a := g2) (xs := natV (ps.map fun _ => p + 1)) (fun i H' => H' = upd (upd H2 g2 (.lst (natV (ps.map fun _ => p + 1)))) D (.lst [])) rfl (fun i H' _ p => by rw [p]; exact SqL.of (same_upd hD _ _ hg3)) ?_ ?_⟩
        · rintro i y H' hy rfl
          obtain ⟨j, hj, rfl⟩ := natV_get hy
          obtain ⟨x, hx, rfl⟩ := map_get hj
          refine ⟨rfl, _, rfl, _, rfl, c, n, p + 1, bl, beg, ws, rfl, hc.mono (xn_of (sm3.trans (same_upd hD))), by omega, by omega, _, rfl, iteF rfl⟩
        · rintro H3 rfl
          have s4 := same_upd (o := .lst []) hD
          have sm4 := sm3.trans s4
          refine ⟨t, mm, o, D, ms, rfl, sm4 _ _ hmm, upd_same, fun H4 b s5 nb hb => ?_⟩
          have sm5 := sm4.trans s5
          have nb0 : H b = none := sm4.free nb
          refine ⟨Nat.zero_le _, fun d nd => ?_⟩
          have s6 := same_upd (o := .lst []) nd
          have nd0 : H d = none := sm5.free nd
          have s26 := ((s3.trans s4).trans s5).trans s6
          have ha6 := s26 _ _ ha2
          have ad : a ≠ d := ne_of_none (((s3.trans s4).trans s5) _ _ ha2) nd
          have gd : g2 ≠ d := ne_of_none (s5 _ _ (s4 _ _ hg3)) nd
          have bd : b ≠ d := ne_of_none hb nd
          have sd : sc ≠ d := ne_of_none (((s3.trans s4).trans s5) _ _ ls2.choose_spec.1) nd
          refine ⟨_, rfl, a, rfl, ⟨_, SqL.of ha6⟩, for_list (K := K) (a := a) (xs := avs) (fun i σ H' => ∃ v10, σ = [some (.ref c), some (.ref o), some (.ref mm), some (.ref l), some (.ref t), some (.ref a), some (.ref sc), v7, v8, some (.ref g2), v10, some (.ref b), some (.ref d), none] ∧ Same H H' ∧ TS H1 H' ∧
            H' a = some (.lst avs) ∧ TL H' sc ((wayS ps).map ddD) ∧ H' g2 = some (.lst (natV (ps.map fun _ => p + 1))) ∧ H' b = some (.lst ms) ∧ H' d = some (.lst (natV ((ps.take i).map fun x => x.2.tgt)))) ⟨v10, rfl, sm5.trans s6, ts2.trans (TS.of s26), ha6, ls2.same s26, s6 _ _ (s5 _ _ (s4 _ _ hg3)), s6 _ _ hb, upd_same⟩ (fun i σ H' _ ⟨_, _, _, _, e, _⟩ => SqL.of e) ?_ ?_⟩
          · rintro i y σ H' hy ⟨v10', rfl, sm, tsm, ha, lsc, hg, hbb, hd⟩
            obtain ⟨pd, hpd, td⟩ := tas1.get' hy
            obtain ⟨x, hx, rfl⟩ := map_get hpd
            obtain ⟨f, y1, y2, y3, rfl, hf, e1, e2, e3⟩ := TD.t3 (TD.mono tsm _ _ td)
            obtain rfl := TD.i e1
            obtain rfl := TD.i e2
            obtain rfl := TD.s e3
            have hxi := (List.getElem?_eq_some_iff.mp hx).1
            have w0 := hw.ok x.2 (List.mem_of_getElem? (hpw x (List.mem_of_getElem? hx)))
            refine ⟨_, rfl, .inl ⟨rfl, _, SqL.of hd⟩, _, rfl, _, rfl, _, rfl, f, _, _, _, rfl, rfl, SqT.of hf, rfl, _, rfl, f, _, _, _, rfl, rfl, SqT.of hf, rfl, _, rfl, f, _, _, _, rfl, rfl, SqT.of hf, rfl, t, .ref b, n, x.2.tgt, rfl, h3.mono (xn_of sm), w0.2.2.1, w0.2.2.2.1, fun H5 r s7 nr hr3 => ?_⟩
            refine ⟨d, r, _, _, rfl, rfl, s7 _ _ hd, hr3, len1000 (by rw [natV_len, List.length_map, List.length_take]; show _ + 1 ≤ 1000; omega), ?_⟩
            refine ⟨_, rfl, same_put (sm.trans s7) nd0, tsm.trans ((TS.of s7).trans (ts_put (s7 _ _ hd))), by rw [upd_ne ad]; exact s7 _ _ ha, ?_, by rw [upd_ne gd]; exact s7 _ _ hg, by rw [upd_ne bd]; exact s7 _ _ hbb, ?_⟩
            · exact (lsc.same s7).mono (ts_put (s7 _ _ hd)) fun xs e => by rw [upd_ne sd]; exact e
            · rw [upd_same, List.take_add_one, hx, List.map_append]
              exact congrArg (fun z => some (HO.lst z)) (natV_snoc _ _)
          · rintro σ H5 ⟨v10', rfl, sm7, ts7, ha7, ls7, hg7, hb7, hd7⟩
            rw [hal, List.take_length] at hd7
            refine ⟨_, rfl, d, _, rfl, SqL.of hd7, by rw [List.length_map, List.length_map]; omega, fun ns d2 hperm _ nd2 => ?_⟩
            obtain rfl := perm_few (by rw [List.length_map, List.length_map]; exact hps) hperm
            have s8 := same_upd (o := .lst (natV (ps.map fun x => x.2.tgt))) nd2
            have sm8 := sm7.trans s8
            have hd8 : (upd H5 d2 (.lst (natV (ps.map fun x => x.2.tgt)))) d2 = some (.lst (natV (ps.map fun x => x.2.tgt))) := upd_same
            refine ⟨_, rfl, _, rfl, _, rfl, _, rfl, c, g2, .ref mm, .ref b, n, bl, beg, ws, ps.map (fun (_ : Nat × Wy) => p + 1), rfl, hc.mono (xn_of sm8), s8 _ _ hg7, by rw [List.length_map]; omega, (fun m hm => ?_), fun H6 r1 s9 nr1 ⟨xs1, hr1, t1⟩ => ?_⟩
            · obtain ⟨_, _, rfl⟩ := List.mem_map.mp hm
              omega
            have sm9 := sm8.trans s9
            obtain ⟨svs, hs9, tss⟩ := (ls7.same s8).same s9
            have xl1 : xs1.length ≤ 1 := by rw [t1.len, List.length_map]; unfold outS; rw [List.length_map, List.length_map]; exact hps
            have wl : (wayS ps).length ≤ 4 := by
              match ps, hps, hpw with
              | [], _, _ => exact Nat.zero_le _
              | [x], _, hpw =>
                have w0 := hw.ok x.2 (List.mem_of_getElem? (hpw x List.mem_cons_self))
                have w8 : x.2.deeds.length ≤ 3 := w0.2.2.2.2.2.2.2.1
                unfold wayS
                simp
                omega
              | _ :: _ :: _, h, _ => simp at h
            have svl : svs.length ≤ 4 := by rw [tss.len, List.length_map]; exact wl
            refine ⟨_, rfl, r1, sc, xs1, svs, rfl, rfl, hr1, hs9, len1000 (by omega), fun q1 nq1 => ?_⟩
            have s10 := same_upd (o := .lst (xs1 ++ svs)) nq1
            have sm10 := sm9.trans s10
            refine ⟨_, rfl, _, rfl, c, d2, n, bl, beg, ws, ps.map (fun (x : Nat × Wy) => x.2.tgt), rfl, hc.mono (xn_of sm10), s10 _ _ (s9 _ _ hd8), hbg, by rw [List.length_map]; omega, (fun m hm => ?_), fun H7 r2 s11 nr2 ⟨xs2, hr2, t2⟩ => ?_⟩
            · obtain ⟨x, hx, rfl⟩ := List.mem_map.mp hm
              exact (hw.ok x.2 (List.mem_of_getElem? (hpw x hx))).2.2.2.1
            have sm11 := sm10.trans s11
            have hq1 := s11 _ _ (upd_same (H := H6) (o := HO.lst (xs1 ++ svs)))
            have xl2 : xs2.length ≤ 101 := by
              have e1 := t2.len
              have e2 := entS_len hbg (ps.map fun x => x.2.tgt)
              rw [List.length_map] at e1 e2
              have : ps.length * 101 ≤ 1 * 101 := Nat.mul_le_mul_right _ hps
              omega
            refine ⟨q1, r2, _, xs2, rfl, rfl, hq1, hr2, len1000 (by rw [List.length_append]; omega), fun q2 nq2 => ?_⟩
            have s12 := same_upd (o := .lst ((xs1 ++ svs) ++ xs2)) nq2
            have sm12 := sm11.trans s12
            have s712 := ((s9.trans s10).trans s11).trans s12
            have tres : TDs (upd H7 q2 (.lst ((xs1 ++ svs) ++ xs2))) ((mvS p beg ps).map ddD) ((xs1 ++ svs) ++ xs2) := by
              unfold mvS
              rw [List.map_append, List.map_append]
              exact TDs.app (TDs.app (TDs.mono (TS.of ((s10.trans s11).trans s12)) _ _ t1) (TDs.mono (TS.of ((s10.trans s11).trans s12)) _ _ tss)) (TDs.mono (TS.of s12) _ _ t2)
            have hg12 := s712 _ _ (s8 _ _ hg7)
            -- the script, then the open moods
            refine ⟨_, rfl, _, rfl, o, rfl, ⟨_, SqL.of (sm12 _ _ ho)⟩, fun D2 hD2 => lc_list (K := K) (a := o) (xs := natV [0, p + 1]) (fun i H' => Same (upd H7 q2 (.lst ((xs1 ++ svs) ++ xs2))) H' ∧ H' D2 = some (.lst (natV ((([0, p + 1] : List Nat).take i).filter (stay p ps))))) ⟨same_upd hD2, upd_same⟩ (fun i H' _ pp => SqL.of (pp.1 _ _ (sm12 _ _ ho))) ?_ ?_⟩
            · rintro i y H' hy ⟨sm, hD'⟩
              obtain ⟨j, hj, rfl⟩ := natV_get hy
              have hi := (List.getElem?_eq_some_iff.mp hj).1
              refine ⟨rfl, _, rfl, _, rfl, g2, _, rfl, .inl (SqL.of (sm _ _ hg12)), rfl, ?_, ?_⟩
              · exact flat_iV _
              · rw [if_pos rfl]
                have e : inV (.int (j : Nat)) (natV (ps.map fun _ => p + 1)) = decide (j ∈ ps.map fun _ => p + 1) := by
                  unfold natV
                  rw [in_iV]
                  refine decide_eq_decide.mpr ⟨fun z => ?_, fun z => ?_⟩
                  · obtain ⟨k, hk, e⟩ := List.mem_map.mp z
                    have : k = j := by omega
                    rw [← this]; exact hk
                  · exact List.mem_map.mpr ⟨j, z, rfl⟩
                rw [e, List.take_add_one, hj]
                by_cases z : j ∈ ps.map fun _ => p + 1
                · rw [decide_eq_true z]
                  refine ⟨_, rfl, iteF ⟨sm, ?_⟩⟩
                  rw [List.filter_append, hD']
                  simp [stay, z]
                · rw [decide_eq_false z]
                  refine ⟨_, rfl, iteT ⟨_, rfl, _, hD', small1000 ?_, same_put sm hD2, ?_⟩⟩
                  · rw [natV_len]
                    have := List.length_filter_le (stay p ps) (([0, p + 1] : List Nat).take i)
                    rw [List.length_take] at this
                    have e2 : ([0, p + 1] : List Nat).length = 2 := rfl
                    omega
                  · rw [upd_same, List.filter_append]
                    refine congrArg (fun z => some (HO.lst z)) ((natV_snoc _ _).trans (congrArg natV ?_))
                    simp [stay, z]
            · rintro H8 ⟨sm13, hD8⟩
              have sm13' := sm12.trans sm13
              have hd13 := sm13 _ _ (s712 _ _ hd8)
              rw [natV_len, List.take_length] at hD8
              refine ⟨_, rfl, D2, d2, _, _, rfl, rfl, hD8, hd13, len1000 ?_, fun q3 nq3 => ?_⟩
              · rw [natV_len, natV_len, List.length_map]
                have := List.length_filter_le (stay p ps) ([0, p + 1] : List Nat)
                have e2 : ([0, p + 1] : List Nat).length = 2 := rfl
                omega
              have eo : natV (([0, p + 1] : List Nat).filter (stay p ps)) ++ natV (ps.map fun x => x.2.tgt) = iV [0, ((mvP p ps : Nat) : Int)] := by
                match ps, hps with
                | [], _ => simp [mvP, natV, iV, stay]
                | [x], _ => simp [mvP, natV, iV, stay]
                | _ :: _ :: _, h => simp at h
              have hmv : 1 ≤ ((mvP p ps : Nat) : Int) := by
                match ps, hps, hpw with
                | [], _, _ => show (1 : Int) ≤ ((p + 1 : Nat) : Int); omega
                | [x], _, hpw =>
                  have w0 := hw.ok x.2 (List.mem_of_getElem? (hpw x List.mem_cons_self))
                  have := w0.2.2.1
                  show (1 : Int) ≤ ((x.2.tgt : Nat) : Int)
                  omega
                | _ :: _ :: _, h, _ => simp at h
              rw [eo]
              have s14 := same_upd (o := .lst (iV [0, ((mvP p ps : Nat) : Int)])) nq3
              refine ⟨q3, [0, ((mvP p ps : Nat) : Int)], rfl, SqL.of upd_same, by show 2 < 64; decide, fun ns q4 hperm hord nq4 => ?_⟩
              obtain rfl := perm_pair hmv hperm hord
              have s15 := s14.trans (same_upd (o := .lst (iV [0, ((mvP p ps : Nat) : Int)])) nq4)
              have sm15 := sm13'.trans s15
              refine ⟨_, rfl, by show 3 ≤ sizeLine; decide, fun q5 nq5 => ?_⟩
              have s16 := same_upd (o := .tup [.ref q2, .ref q4, .ref b]) nq5
              have s1216 := (sm13.trans s15).trans s16
              refine q _ q5 q2 q4 b (sm15.trans s16) upd_same (sm13'.free (s14.free nq4)) nb0 ⟨_, s1216 _ _ upd_same, TDs.mono (TS.of s1216) _ _ tres⟩ (s16 _ _ upd_same) (s1216 _ _ (s712 _ _ (s8 _ _ hb7)))
end
end K56
set_option Elab.async false
set_option linter.all false
set_option maxRecDepth 100000
set_option maxHeartbeats 4000000
namespace K56
open PySem PySem.Spec PyProof.Rows L2
/-- the table of kept's code object, the name of its lambda -/
abbrev kP (K : PySem.W.Frag) : Addr := (He.cT K ("kept", none)).2
abbrev kC (K : PySem.W.Frag) : Addr := (He.cT K ("kept", none)).1
abbrev TT (K : PySem.W.Frag) : List (Addr × Str) := [(kP K, (envOfC "kept" (defScope s_kept) 0 0 .none).qual ++ "<lambda>")]
theorem tabs_xn {T : List (Addr × Str)} {H H' : Hp} (t : LamX.Tabs T H) (s : Same H H') : LamX.Tabs T H' := t.ext s
/-- a list is written: the tables stay -/
theorem tabs_put {T : List (Addr × Str)} {H : Hp} {r : Addr} {xs : List V} {o : HO} (t : LamX.Tabs T H) (h : H r = some (.lst xs)) : LamX.Tabs T (upd H r o) := fun p hp => by
  obtain ⟨ps, h1, h2, h3⟩ := t p hp
  refine ⟨ps, by rw [upd_ne (ne_of h1 h (by intro z; cases z))]; exact h1, h2, fun pos cv hc => ?_⟩
  obtain ⟨c, e1, e2⟩ := h3 pos cv hc
  exact ⟨c, e1, by rw [upd_ne (ne_of e2 h (by intro z; unfold LamX.CodeO at z; cases z))]; exact e2⟩
section
variable {P : Program} {w : World} {K : PySem.W.Frag} {mg : Str → Option Value} {base : Heap}
/-- a def by its body, its code object known -/
theorem mk_okc {x qual : Str} {st : Stmt} {N ps : List Str} {k : Nat} {sp : Sp} (F : ∃ fd, FunD K x qual (defArgs st) (defBody st) (defScope st) [] [] (He.ga K x) fd) (S : FnScope N ps (defScope st))
    (hb : ∀ (kV doc pm : Value) (an : Option Addr) (cdv ct : Value) (us : List Value), us.length = ps.length → bindArgs (PySem.W.fnOf x qual (defArgs st) (defBody st) (defScope st) .none kV doc pm an cdv ct) ⟨us, []⟩ = pure (ps.zip us))
    (len : ∀ vs H Q E, sp vs H Q E → vs.length = ps.length)
    (hbody : ∀ (A : Around) (outer : List Env) (s : Shared) (H : Hp) (vs : List V) (Q : VK) (E : XK), Room k (A.deeper (envOfC qual (defScope st) s.heap.objs.size (He.ga K x) (.ref (He.cT K (x, none)).1))) → sp vs H Q E →
      ∃ t, PSs (cxOf CX0 P w K mg base N qual (defScope st) (He.ga K x) (.ref (He.cT K (x, none)).1) A outer s H E).nox (defBody st) t ∧ t { nx := fun _ H' => Q .non H', rt := Q } (start N vs) H) :
    ∃ fd, FnOk P w K mg base CX0 (k + 1) (He.ga K x) fd ps sp ∧ Binds K fd ps [] ∧ PySem.W.keepIn K (.ref (He.ga K x)) = true := by
  obtain ⟨fd, F⟩ := F
  refine ⟨fd, ?_, F.bindsN hb, F.kp⟩
  obtain ⟨oc, od, dV, kV, doc, pm, an, cdv, ct, osl, rfl, lk, hcd, _, _⟩ := F.ex
  obtain ⟨c, rfl⟩ := He.codeIn_ref hcd
  have ec : (He.cT K (x, none)).1 = c := He.codeOf_eq (K := K) (p := (x, none)) lk rfl
  subst ec
  refine fn_of lk hcd S len fun A outer s H vs Q E hr hsp => ?_
  obtain ⟨t, h, q⟩ := hbody A outer s H vs Q E hr hsp
  exact ⟨t, h.nox, q⟩
def spKept (K : PySem.W.Frag) : Sp := fun vs H Q _ => ∃ (c f : Addr) (n m : Nat) (bl : List (Str × Int)) (beg : List Dd) (ws : List Wy) (js : List Nat), vs = [.ref c, .ref f] ∧ ChartAt K H c n bl beg ws ∧ WaysOk n m ws ∧ H f = some (.lst (natV js)) ∧ js.length ≤ 1 ∧ (∀ j ∈ js, j < ws.length) ∧ LamX.Tabs (TT K) H ∧
  ∀ (H' : Hp) (r : Addr), Xn H H' → LamX.Tabs (TT K) H' → H' r = some (.lst (natV js)) → Q (.ref r) H'
theorem nsc_lam : NdefX.NScope ["one", "chart"] ["one"] ["chart"] ⟨.function, [("one", .local), ("chart", .free), ("depth", .globalImplicit)], false, false, []⟩ :=
  ⟨rfl, rfl, rfl, by decide +kernel, rfl, by decide +kernel, by decide +kernel, by decide +kernel, by decide +kernel⟩
theorem lam_free : ∀ y ∈ ([("one", .local), ("chart", .free), ("depth", .globalImplicit)] : List (Str × NameKind)), y.2 = .free → (defScope s_kept).names.lookup y.1 = some .cell ∨ (defScope s_kept).names.lookup y.1 = some .free := by
  decide +kernel
theorem ok_kept (T : Tp K mg) (TB : LamX.TabB base mg (kC K) (kP K)) : GFn P w K mg base 7 "kept" ["chart", "found"] (spKept K) := by
  have G_depth : GFn P w K mg base 2 "depth" ["tree", "mood"] (spDepth K) := ok_depth T
  refine gfn T.g_kept (mk_okc T.f_kept sc_kept (bn_kept "kept") (fun vs H Q E h => ?_) (fun A outer s H vs Q E hr h => ?_))
  · obtain ⟨c, f, n, m, bl, beg, ws, js, rfl, _⟩ := h
    rfl
  · obtain ⟨c, f, n, m, bl, beg, ws, js, rfl, hc, hw, hf, hl, hj, hT, q⟩ := h
    refine ⟨_, (pss_cons (ps_set (i := 2) sc_kept.nd rfl (Or.inl rfl) (pe_lst pa_nil))
      (pss_cons (ps_for PassesOwn.never rfl (pi_list (pe_sortlam (T := TT K) (c := kC K) (P := kP K) (N := ["one", "chart"]) (fr := ["chart"]) (one := "one") (js := [0]) (k := 2) rfl T.m_sorted (pv 1) TB rfl (List.mem_singleton.mpr rfl) (fun p hp _ => by rw [List.mem_singleton.mp hp]; rfl) (hr.mono (by decide)) rfl nsc_lam lam_free (by decide +kernel) rfl (fun _ _ _ _ _ _ => rfl)
        (fun A outer s H F f hsc hr => by
          obtain ⟨nm, qq, pr, bd, scp, cl, cc⟩ := F
          cases hsc
          exact pe_un un_neg (pe_g G_depth hr rfl (pa_cons (pe_fldK (K := K) (pv 1) rfl) (pa_cons (pe_ix (ix_tupK (K := K)) (pe_ix (ix_listK (K := K)) (pe_fldK (K := K) (pv 1) rfl) (pv 0) (fun _ _ => rfl)) pe_int (fun _ _ => rfl)) pa_nil)))) (fun _ _ z => z.elim))) (pg_name (i := 3) sc_kept.nd rfl (Or.inr rfl))
        (pss_one (ps_if (pt_not (pt_val (pe_callB (cr_any rfl) (by rfl) T.m_any (by decide +kernel) (pa_cons (pe_lc (own := [("other", 4)]) (g := gName 4) (tt := tYes) rfl sc_kept.nd (pi_list (pv 2)) (blkOk_by (own := [("other", 4)]) (N := ["chart", "found", "taken", "way", "other"]) (sc := defScope s_kept) (by decide +kernel)) (fun _ _ _ _ _ => pg_name (i := 4) sc_kept.nd rfl (Or.inl rfl)) (fun _ _ _ _ _ => pts_nil) (fun _ _ _ _ _ => pe_never)) pa_nil))))
          (pss_one (ps_expr (pe_bm PySem.F.plainAttrs_list PySem.F.slot_list_append PySem.F.type_list_append mt_append (pv 2) (pa_cons (pv 3) pa_nil))))
          pss_nil)))
      (pss_one (ps_ret (pe_callB cr_sorted (by rfl) T.m_sorted (by decide +kernel) (pa_cons (pv 2) pa_nil)))))), ?_⟩
    refine ⟨Nat.zero_le _, fun tk ntk => ?_⟩
    have s1 := same_upd (o := .lst []) ntk
    refine ⟨_, rfl, f, natV js, rfl, s1 _ _ hf, by rw [natV_len]; exact hl, tabs_xn hT s1, fun H2 x2 hT2 => ⟨fun e p np => ?_, fun y e => ?_⟩⟩
    · obtain rfl : js = [] := by
        have := natV_len js
        rw [e] at this
        exact List.eq_nil_of_length_eq_zero this.symm
      have s2 := same_upd (o := .lst []) np
      have htk := s2 _ _ (xn_l x2 upd_same)
      refine ⟨p, rfl, ⟨_, SqL.of upd_same⟩, for_nil (SqL.of upd_same) ?_⟩
      refine ⟨_, rfl, tk, [], rfl, SqL.of htk, by decide, fun ns r hp _ nr => ?_⟩
      obtain rfl := hp.eq_nil
      have s3 := same_upd (o := .lst []) nr
      exact q _ r (((xn_of s1).trans x2).trans (xn_of (s2.trans s3))) (tabs_xn hT2 (s2.trans s3)) upd_same
    · obtain ⟨j, rfl, rfl⟩ : ∃ j, js = [j] ∧ y = .int (j : Nat) := by
        have h2 := natV_len js
        rw [e] at h2
        match js, h2 with
        | [j], _ => exact ⟨j, rfl, (List.cons.inj e).1.symm⟩
      have hjl := hj j List.mem_cons_self
      obtain ⟨dx, bb, nm, t, is, os, wy, h1, h2, h3, h4, h5, ⟨wv, hwy, tw⟩⟩ := ((hc.mono (xn_of s1)).mono x2).ex
      have hwx : ws[j]? = some ws[j] := List.getElem?_eq_getElem hjl
      have w0 := hw.ok _ (List.mem_of_getElem? hwx)
      obtain ⟨v, hv, td⟩ := tw.get (i := j) (d := wyD ws[j]) (by rw [List.getElem?_map, hwx]; rfl)
      obtain ⟨g, x3, x4, rfl, hg, _⟩ := wy_get td
      refine ⟨_, rfl, c, He.ga K "Chart", dx, _, _, rfl, h1, T.c_Chart, T.n_Chart_tree, rfl, _, rfl, c, He.ga K "Chart", dx, _, _, rfl, h1, T.c_Chart, T.n_Chart_ways, rfl, _, rfl, wy, wv, _, _, rfl, rfl, SqL.of hwy, atI_nat hv, g, _, _, _, rfl, rfl, SqT.of hg, rfl, t, n, (ws[j]).src, rfl, h3, w0.2.1, fun H3 s3 => ?_⟩
      refine ⟨_, rfl, xn_of s3, fun p np => ?_⟩
      have s4 := same_upd (o := .lst [.int (j : Nat)]) np
      have hp4 : (upd H3 p (.lst [.int (j : Nat)])) p = some (.lst [.int (j : Nat)]) := upd_same
      have htk := s4 _ _ (s3 _ _ (xn_l x2 upd_same))
      have tkp : p ≠ tk := (ne_of_none (s3 _ _ (xn_l x2 upd_same)) np).symm
      refine ⟨p, rfl, ⟨_, SqL.of hp4⟩, for_one (SqL.of hp4) fun Nn hN => ?_⟩
      refine ⟨_, rfl, tk, rfl, ⟨_, SqL.of htk⟩, fun D hD => lc_list (K := K) (te := (fun _ _ _ => False : TE)) (a := tk) (xs := []) (fun i H' => H' = upd (upd H3 p (.lst [.int (j : Nat)])) D (.lst [])) rfl (fun i H' _ p => by rw [p]; exact SqL.of (same_upd hD _ _ htk)) (fun i y H' hy _ => by simp at hy) ?_⟩
      rintro H5 rfl
      have s5 := same_upd (o := .lst []) hD
      refine ⟨D, [], rfl, SqL.of upd_same, _, rfl, iteT ?_⟩
      have htk5 := s5 _ _ htk
      refine ⟨_, rfl, .inl ⟨rfl, _, SqL.of htk5⟩, _, rfl, tk, _, _, rfl, rfl, htk5, by show 0 < sizeLine; decide, ?_⟩
      refine hN _ _ (SqL.of (by rw [upd_ne tkp]; exact s5 _ _ hp4)) ?_
      refine ⟨_, rfl, tk, [(j : Int)], rfl, SqL.of upd_same, by show 1 < 64; decide, fun ns r hp _ nr => ?_⟩
      obtain rfl := perm_one hp
      have s6 : Xn H _ := ((xn_of s1).trans x2).trans (xn_of ((s3.trans s4).trans s5))
      have s7 : Xn H (upd (upd (upd H3 p (.lst [.int (j : Nat)])) D (.lst [])) tk (.lst ([] ++ [.int (j : Nat)]))) := fun b o e n => by
        rw [upd_ne (ne_of_none e ntk)]
        exact s6 b o e n
      have ht7 : LamX.Tabs (TT K) (upd (upd (upd H3 p (.lst [.int (j : Nat)])) D (.lst [])) tk (.lst ([] ++ [.int (j : Nat)]))) := by
        refine tabs_put (tabs_xn hT2 ((s3.trans s4).trans s5)) htk5
      have s8 := same_upd (o := .lst [.int (j : Nat)]) nr
      exact q _ r (s7.trans (xn_of s8)) (tabs_xn ht7 s8) upd_same
end
end K56
set_option Elab.async false
set_option linter.all false
set_option maxRecDepth 100000
set_option maxHeartbeats 4000000
namespace K56
open PySem PySem.Spec PyProof.Rows L2
/-- all but the objects at xs and the tables stays; kept's table stays one -/
structure Fx (K : PySem.W.Frag) (xs : List Addr) (H H' : Hp) : Prop where
  keep : ∀ a o, H a = some o → (∀ x ∈ xs, a ≠ x) → (∀ ps, o ≠ .tbl ps) → H' a = some o
  tabs : LamX.Tabs (TT K) H → LamX.Tabs (TT K) H'
section
variable {K : PySem.W.Frag} {xs ys : List Addr} {H H1 H2 S : Hp} {a : Addr}
theorem Fx.same (s : Same H H1) : Fx K xs H H1 := ⟨fun b o e _ _ => s b o e, fun t => tabs_xn t s⟩
theorem Fx.refl : Fx K xs H H := Fx.same (Same.refl H)
theorem Fx.trans (f : Fx K xs H H1) (g : Fx K xs H1 H2) : Fx K xs H H2 := ⟨fun b o e n m => g.keep b o (f.keep b o e n m) n m, fun t => g.tabs (f.tabs t)⟩
theorem Fx.mono (f : Fx K xs H H1) (h : ∀ x ∈ xs, x ∈ ys) : Fx K ys H H1 := ⟨fun b o e n m => f.keep b o e (fun x hx => n x (h x hx)) m, f.tabs⟩
theorem Fx.lst {l : List V} {o : HO} (h : H a = some (.lst l)) (m : a ∈ xs) : Fx K xs H (upd H a o) := ⟨fun b u e n _ => by rw [upd_ne (n a m)]; exact e, fun t => tabs_put t h⟩
theorem tabs_putI {T : List (Addr × Str)} {C dx : Addr} {fs : Fl} {o : HO} (t : LamX.Tabs T H) (h : H a = some (.ins C dx fs)) : LamX.Tabs T (upd H a o) := fun p hp => by
  obtain ⟨ps, h1, h2, h3⟩ := t p hp
  refine ⟨ps, by rw [upd_ne (ne_of h1 h (by intro z; cases z))]; exact h1, h2, fun pos cv hc => ?_⟩
  obtain ⟨c, e1, e2⟩ := h3 pos cv hc
  exact ⟨c, e1, by rw [upd_ne (ne_of e2 h (by intro z; unfold LamX.CodeO at z; cases z))]; exact e2⟩
theorem Fx.ins {C dx : Addr} {fs : Fl} {o : HO} (h : H a = some (.ins C dx fs)) (m : a ∈ xs) : Fx K xs H (upd H a o) := ⟨fun b u e n _ => by rw [upd_ne (n a m)]; exact e, fun t => tabs_putI t h⟩
theorem Fx.drop (f : Fx K xs H H1) (g : Fx K (a :: xs) H1 H2) (n : H a = none) : Fx K xs H H2 := ⟨fun b o e m k => g.keep b o (f.keep b o e m k) (fun x hx => (List.mem_cons.mp hx).elim (fun z => by rw [z]; exact ne_of_none e n) fun z => m x z) k, fun t => g.tabs (f.tabs t)⟩
theorem Fx.xn (f : Fx K xs H H1) (s : Xn S H) (n : ∀ x ∈ xs, S x = none) : Xn S H1 := fun b o e k => f.keep b o (s b o e k) (fun x hx => ne_of_none e (n x hx)) k
theorem Fx.l {l : List V} (f : Fx K xs H H1) (h : H a = some (.lst l)) (n : ∀ x ∈ xs, a ≠ x) : H1 a = some (.lst l) := f.keep a _ h n fun _ z => nomatch z
theorem Fx.i {C dx : Addr} {fs : Fl} (f : Fx K xs H H1) (h : H a = some (.ins C dx fs)) (n : ∀ x ∈ xs, a ≠ x) : H1 a = some (.ins C dx fs) := f.keep a _ h n fun _ z => nomatch z
theorem Fx.t {l : List V} (f : Fx K xs H H1) (h : H a = some (.tup l)) (n : ∀ x ∈ xs, a ≠ x) : H1 a = some (.tup l) := f.keep a _ h n fun _ z => nomatch z
theorem n1 {p : Addr} (h : a ≠ p) : ∀ x ∈ [p], a ≠ x := fun x hx => by rw [List.mem_singleton.mp hx]; exact h
theorem n2 {p q : Addr} (h : a ≠ p) (k : a ≠ q) : ∀ x ∈ [p, q], a ≠ x := fun x hx => (List.mem_cons.mp hx).elim (fun z => by rw [z]; exact h) (n1 k x)
theorem n3 {p q r : Addr} (h : a ≠ p) (k : a ≠ q) (l : a ≠ r) : ∀ x ∈ [p, q, r], a ≠ x := fun x hx => (List.mem_cons.mp hx).elim (fun z => by rw [z]; exact h) (n2 k l x)
theorem s1_ {p : Addr} (h : S p = none) : ∀ x ∈ [p], S x = none := fun x hx => by rw [List.mem_singleton.mp hx]; exact h
theorem s2_ {p q : Addr} (h : S p = none) (k : S q = none) : ∀ x ∈ [p, q], S x = none := fun x hx => (List.mem_cons.mp hx).elim (fun z => by rw [z]; exact h) (s1_ k x)
theorem s3_ {p q r : Addr} (h : S p = none) (k : S q = none) (l : S r = none) : ∀ x ∈ [p, q, r], S x = none := fun x hx => (List.mem_cons.mp hx).elim (fun z => by rw [z]; exact h) (s2_ k l x)
/-- all but tables, an instance and lists: the tuples stay -/
theorem Fx.ts (f : Fx K xs H H1) (h : ∀ x ∈ xs, ∀ l, H x ≠ some (.tup l)) : TS H H1 := fun b l e => f.t e fun x hx z => h x hx l (by rw [← z]; exact e)
end
/-- a run's fields -/
abbrev rnF (b bk : Addr) (r : Fl) : Fl := ("boxes", .ref b) :: ("book", .ref bk) :: r
/-- what is known of a class of runs -/
structure Rn (K : PySem.W.Frag) (mg : Str → Option Value) (C : Str) : Prop where
  cls : Cls K (He.ga K C)
  nb : NoAttr K (He.ga K C) "boxes"
  nk : NoAttr K (He.ga K C) "book"
theorem Tp.rnF {K : PySem.W.Frag} {mg : Str → Option Value} (T : Tp K mg) : Rn K mg "FlatRun" := ⟨T.c_FlatRun, T.n_FlatRun_boxes, T.n_FlatRun_book⟩
theorem Tp.rnN {K : PySem.W.Frag} {mg : Str → Option Value} (T : Tp K mg) : Rn K mg "NestRun" := ⟨T.c_NestRun, T.n_NestRun_boxes, T.n_NestRun_book⟩
section
variable {P : Program} {w : World} {K : PySem.W.Frag} {mg : Str → Option Value} {base : Heap} {C : Str}
def spDo (K : PySem.W.Frag) (C : Str) : Sp := fun vs H Q _ => ∃ (p dx b bk rows : Addr) (rest : Fl) (v : V) (ds : List Dd) (bx : List Int) (js : List Jr), vs = [.ref p, v, .ref rows] ∧ H p = some (.ins (He.ga K C) dx (rnF b bk rest)) ∧ rest.length ≤ 10 ∧ SD H v (ds.map ddD) ∧ H b = some (.lst (iV bx)) ∧
  DdsOk bx.length ds ∧ bx.length ≤ 1000 ∧ ds.length ≤ 100 ∧ TL H rows (js.map jrD) ∧ js.length ≤ 800 ∧ ∀ (H' : Hp) (c k : Addr), Fx K [p, rows] H H' → H c = none → H k = none → H' p = some (.ins (He.ga K C) dx (rnF c bk rest)) → H' c = some (.lst (iV (perf ds bx).1)) →
    TL H' rows ((js ++ (perf ds bx).2.1).map jrD) → H' k = some (.lst (strV (perf ds bx).2.2)) → Q (.ref k) H'
theorem ok_do (T : Tp K mg) (R : Rn K mg C) (F : ∃ fd, FunD K "do_script" "Runner.do_script" (defArgs s_Runner_do_script) (defBody s_Runner_do_script) (defScope s_Runner_do_script) [] [] (He.ma K (He.ga K C) "do_script") fd) (M : Meth K (He.ga K C) "do_script" (He.ma K (He.ga K C) "do_script")) :
    GMt P w K mg base 4 (He.ga K C) "do_script" ["self", "script", "rows"] (spDo K C) := by
  have G_performed : GFn P w K mg base 3 "performed" ["script", "boxes"] (spPerf K) := ok_performed T
  refine gmt R.cls M (mk_ok F sc_Runner_do_script (bn_Runner_do_script "Runner.do_script") (fun vs H Q E h => ?_) (fun cdv A outer s H vs Q E hr h => ?_))
  · obtain ⟨p, dx, b, bk, rows, rest, v, ds, bx, js, rfl, _⟩ := h
    rfl
  · obtain ⟨p, dx, b, bk, rows, rest, v, ds, bx, js, rfl, hp, hrl, hsd, hb, hok, hbl, hdl, ⟨ys, hrw, tys⟩, hjl, q⟩ := h
    refine ⟨_, (pss_cons (ps_set (i := 3) sc_Runner_do_script.nd rfl (Or.inl rfl) (pe_g G_performed hr rfl (pa_cons (pv 1) (pa_cons (pe_fld (pv 0) rfl) pa_nil))))
      (pss_cons (ps_fld (pv 0) (pe_ix ix_tup (pv 3) pe_int (fun _ _ => rfl)) rfl)
      (pss_cons (ps_expr (pe_bm PySem.F.plainAttrs_list PySem.F.slot_list_extend PySem.F.type_list_extend mt_extend (pv 2) (pa_cons (pe_ix ix_tup (pv 3) pe_int (fun _ _ => rfl)) pa_nil)))
      (pss_one (ps_ret (pe_ix ix_tup (pv 3) pe_int (fun _ _ => rfl))))))), ?_⟩
    refine ⟨_, rfl, _, rfl, p, _, dx, _, _, rfl, hp, R.cls, R.nb, rfl, v, b, ds, bx, rfl, hsd, SqL.of hb, hok, hbl, hdl, fun H1 t c r k s1 nc nr nk pf => ?_⟩
    have hp1 := s1 _ _ hp
    refine ⟨_, rfl, t, _, _, _, rfl, rfl, SqT.of pf.tup, rfl, _, rfl, p, _, dx, _, rfl, hp1, R.cls, R.nb, by show rest.length + 1 + 1 < 1000; omega, ?_⟩
    obtain ⟨zs, hr1, tzs⟩ := pf.rows
    have rp : rows ≠ p := ne_of hrw hp (by intro z; cases z)
    have pt : t ≠ p := ne_of pf.tup hp1 (by intro z; cases z)
    have prr : r ≠ p := ne_of hr1 hp1 (by intro z; cases z)
    have rr : r ≠ rows := (ne_of_none hrw nr).symm
    have cp : c ≠ p := ne_of pf.bx hp1 (by intro z; cases z)
    have cr : c ≠ rows := (ne_of_none hrw nc).symm
    have kp : k ≠ p := ne_of pf.calls hp1 (by intro z; cases z)
    have kr : k ≠ rows := (ne_of_none hrw nk).symm
    have hrw1 := s1 _ _ hrw
    have hrw2 : ∀ o, upd H1 p o rows = some (.lst ys) := fun o => by rw [upd_ne rp]; exact hrw1
    have hr2 : ∀ o, upd H1 p o r = some (.lst zs) := fun o => by rw [upd_ne prr]; exact hr1
    have ht2 : ∀ o, upd H1 p o t = some (.tup [.ref c, .ref r, .ref k]) := fun o => by rw [upd_ne pt]; exact pf.tup
    have pr := perf_rows ds (bx, [], [])
    have pr1 : (perf ds bx).2.1.length = 0 + ds.length := pr.1
    have hyl : ys.length = js.length := by rw [tys.len, List.length_map]
    have hzl : zs.length ≤ 100 := by rw [tzs.len, List.length_map]; omega
    refine ⟨_, rfl, .inl ⟨rfl, _, SqL.of (hrw2 _)⟩, _, rfl, t, _, _, _, rfl, rfl, SqT.of (ht2 _), rfl, rows, r, _, _, rfl, rfl, hrw2 _, hr2 _, len1000 (by omega), ?_⟩
    have tr : t ≠ rows := fun z => by
      have e := pf.tup
      rw [z, hrw1] at e
      cases e
    refine ⟨_, rfl, t, _, _, _, rfl, rfl, SqT.of (by rw [upd_ne tr]; exact ht2 _), rfl, ?_⟩
    have f1 : Fx K [p, rows] H1 (upd H1 p (.ins (He.ga K C) dx (rnF c bk rest))) := Fx.ins hp1 List.mem_cons_self
    have f2 : Fx K [p, rows] _ (upd (upd H1 p (.ins (He.ga K C) dx (rnF c bk rest))) rows (.lst (ys ++ zs))) := Fx.lst (hrw2 _) (List.mem_cons_of_mem _ List.mem_cons_self)
    have fa := (Fx.same (K := K) (xs := [p, rows]) s1).trans (f1.trans f2)
    have ts1 : TS H1 (upd H1 p (.ins (He.ga K C) dx (rnF c bk rest))) := kb_ts hp1 kb_put
    have ts2 : TS _ (upd (upd H1 p (.ins (He.ga K C) dx (rnF c bk rest))) rows (.lst (ys ++ zs))) := ts_put (hrw2 _)
    refine q _ c k fa nc nk ?_ ?_ ⟨ys ++ zs, upd_same, ?_⟩ ?_
    · rw [upd_ne rp.symm]
      exact upd_same
    · rw [upd_ne cr, upd_ne cp]
      exact pf.bx
    · rw [List.map_append]
      exact TDs.app (TDs.mono ((TS.of s1).trans (ts1.trans ts2)) _ _ tys) (TDs.mono (ts1.trans ts2) _ _ tzs)
    · rw [upd_ne kr, upd_ne kp]
      exact pf.calls
end
end K56
set_option Elab.async false
set_option linter.all false
set_option maxRecDepth 100000
set_option maxHeartbeats 4000000
namespace K56
open PySem PySem.Spec PyProof.Rows L2
/-! ### the plain model: what is told is in order -/
theorem jr_done {n : Nat} {d : Dd} (h : DdOk n d) (bx : List Int) : JrOk n (done1 d bx).2 := by
  cases d with
  | mark m => exact True.intro
  | put b t => exact h.1
  | say w t => exact h.2
  | call s => exact h
theorem call_ok {n : Nat} {d : Dd} (h : DdOk n d) : ∀ s ∈ d.calls, PyData.strOk s = true := by
  cases d with
  | call s => intro t ht; rw [List.mem_singleton.mp ht]; exact h
  | _ => intro t ht; cases ht
theorem perf_ok {n : Nat} (ds : List Dd) (h : DdsOk n ds) : ∀ q : Pf, (∀ j ∈ q.2.1, JrOk n j) → (∀ s ∈ q.2.2, PyData.strOk s = true) → (∀ j ∈ (ds.foldl perf1 q).2.1, JrOk n j) ∧ ∀ s ∈ (ds.foldl perf1 q).2.2, PyData.strOk s = true := by
  induction ds with
  | nil => intro q a b; exact ⟨a, b⟩
  | cons d ds ih =>
    intro q a b
    have hd := h d List.mem_cons_self
    rw [List.foldl_cons]
    refine ih (fun e he => h e (List.mem_cons_of_mem _ he)) _ ?_ ?_
    · intro j hj
      rcases List.mem_append.mp hj with hj | hj
      · exact a j hj
      · rw [List.mem_singleton.mp hj]; exact jr_done hd _
    · intro s hs
      rcases List.mem_append.mp hs with hs | hs
      · exact b s hs
      · exact call_ok hd s hs
structure GivOk (n m : Nat) (so : Giver) : Prop where
  ok : ∀ pl bx s, pl < n → bx.length = m → DdsOk m (so pl bx s).1 ∧ (so pl bx s).1.length ≤ 12 ∧ (so pl bx s).2 < n
/-- a state of the deal is in order -/
structure DsOk (n m r0 w0 : Nat) (x : Ds) : Prop where
  pl : x.1 < n
  bx : x.2.1.length = m
  js : ∀ j ∈ x.2.2.1, JrOk m j
  wt : ∀ s ∈ x.2.2.2, PyData.strOk s = true
  jl : x.2.2.1.length ≤ r0
  wl : x.2.2.2.length ≤ w0
theorem dstep_ok {n m r0 w0 : Nat} {so : Giver} (g : GivOk n m so) {x : Ds} (h : DsOk n m r0 w0 x) : DsOk n m (r0 + 13) (w0 + 12) (dstep so x) := by
  obtain ⟨p, bx, rows, wt⟩ := x
  obtain ⟨a, b, c, d, e, f⟩ := h
  dsimp only at a b c d e f
  cases wt with
  | nil => exact ⟨a, b, c, d, Nat.le_trans e (Nat.le_add_right _ _), Nat.le_trans f (Nat.le_add_right _ _)⟩
  | cons sg wt =>
    obtain ⟨g1, g2, g3⟩ := g.ok p bx sg a b
    obtain ⟨p1, p2⟩ := perf_ok (n := m) _ g1 (bx, [], []) (fun j hj => by cases hj) fun s hs => by cases hs
    obtain ⟨r1, r2⟩ := perf_rows (so p bx sg).1 (bx, [], [])
    have r1' : (perf (so p bx sg).1 bx).2.1.length = 0 + (so p bx sg).1.length := r1
    have r2' : (perf (so p bx sg).1 bx).2.2.length ≤ 0 + (so p bx sg).1.length := r2
    refine ⟨g3, ?_, ?_, ?_, ?_, ?_⟩
    · show (perf _ bx).1.length = m
      rw [perf_len']; exact b
    · intro j hj
      rcases List.mem_append.mp hj with hj | hj
      · rcases List.mem_append.mp hj with hj | hj
        · exact c j hj
        · rw [List.mem_singleton.mp hj]; exact d sg List.mem_cons_self
      · exact p1 j hj
    · intro s hs
      rcases List.mem_append.mp hs with hs | hs
      · exact d s (List.mem_cons_of_mem _ hs)
      · exact p2 s hs
    · show (rows ++ [Jr.sign sg] ++ (perf (so p bx sg).1 bx).2.1).length ≤ _
      rw [List.length_append, List.length_append, r1', List.length_singleton]
      omega
    · show (wt ++ (perf (so p bx sg).1 bx).2.2).length ≤ _
      rw [List.length_append]
      rw [List.length_cons] at f
      omega
theorem dealN_ok {n m r0 w0 : Nat} {so : Giver} (g : GivOk n m so) {x : Ds} (h : DsOk n m r0 w0 x) : ∀ k : Nat, DsOk n m (r0 + 13 * k) (w0 + 12 * k) (dealN so k x)
  | 0 => h
  | k + 1 => by
    have e := dstep_ok g (dealN_ok g h k)
    rw [show r0 + 13 * (k + 1) = r0 + 13 * k + 13 by omega, show w0 + 12 * (k + 1) = w0 + 12 * k + 12 by omega]
    exact e
theorem dealN_stop {so : Giver} {x : Ds} {k : Nat} (h : (dealN so k x).2.2.2 = []) : ∀ i : Nat, dealN so (k + i) x = dealN so k x
  | 0 => rfl
  | i + 1 => by
    show dstep so (dealN so (k + i) x) = _
    rw [dealN_stop h i]
    generalize dealN so k x = y at h ⊢
    obtain ⟨p, bx, rows, wt⟩ := y
    have h : wt = [] := h
    subst h
    rfl
theorem deal_ok {n m r0 w0 : Nat} {so : Giver} (g : GivOk n m so) {p : Nat} {bx : List Int} {js : List Jr} {wt : List Str} (h : DsOk n m r0 w0 (p, bx, js, wt)) :
    (deal so p bx js wt).1 < n ∧ (deal so p bx js wt).2.1.length = m ∧ (∀ j ∈ (deal so p bx js wt).2.2, JrOk m j) ∧ (deal so p bx js wt).2.2.length ≤ r0 + 105 := by
  have k := dealN_ok g h 8
  unfold deal
  refine ⟨k.pl, k.bx, fun j hj => ?_, ?_⟩
  · rcases List.mem_append.mp hj with hj | hj
    · exact k.js j hj
    · unfold restOf at hj
      split at hj
      · cases hj
      · rw [List.mem_singleton.mp hj]; exact True.intro
  · have := k.jl
    rw [List.length_append]
    have e : (restOf (dealN so 8 (p, bx, js, wt)).2.2.2).length ≤ 1 := by unfold restOf; split <;> simp
    omega
/-! ### heads -/
theorem jr_ref {H : Hp} {j : Jr} {v : V} (h : TD H (jrD j) v) : ∃ a, v = .ref a := by
  obtain ⟨a, _, e, _⟩ := jr_hd h
  exact ⟨a, e⟩
/-- lists whose first item is an int stay -/
def IntL (H H' : Hp) : Prop := ∀ a i zs, H a = some (.lst (.int i :: zs)) → H' a = some (.lst (.int i :: zs))
def NoInt (H : Hp) (a : Addr) : Prop := ∀ i zs, H a ≠ some (.lst (.int i :: zs))
theorem tl_noint {H : Hp} {a : Addr} {js : List Jr} (h : TL H a (js.map jrD)) : NoInt H a := fun i zs e => by
  obtain ⟨xs, h1, h2⟩ := h
  rw [h1] at e
  have e : xs = .int i :: zs := HO.lst.inj (Option.some.inj e)
  subst e
  cases js with
  | nil => have h2 : _ = ([] : List V) := h2; cases h2
  | cons j js =>
    obtain ⟨y, ys, e, t, _⟩ := h2
    obtain ⟨c, e2⟩ := jr_ref t
    rw [e2] at e
    cases e
theorem ins_noint {H : Hp} {a C dx : Addr} {fs : Fl} (h : H a = some (.ins C dx fs)) : NoInt H a := fun i zs e => by rw [h] at e; cases e
theorem intl {K : PySem.W.Frag} {xs : List Addr} {H H' : Hp} (f : Fx K xs H H') (h : ∀ x ∈ xs, NoInt H x) : IntL H H' := fun a i zs e => f.l e fun x hx z => h x hx i zs (by rw [← z]; exact e)
theorem IntL.trans {H H1 H2 : Hp} (a : IntL H H1) (b : IntL H1 H2) : IntL H H2 := fun c i zs e => b c i zs (a c i zs e)
theorem IntL.same {H H1 : Hp} (s : Same H H1) : IntL H H1 := fun c i zs e => s _ _ e
/-- a side of the two runs, for each index: its script-giver, and what its further fields hold -/
structure Side (K : PySem.W.Frag) {X : Type} (so : X → Giver) (nf nb : X → Nat) (SR : X → Hp → Hp → Fl → Nat → Prop) : Prop where
  giv : ∀ ix S H r pl, SR ix S H r pl → GivOk (nf ix) (nb ix) (so ix)
  look : ∀ ix S H r pl, SR ix S H r pl → r.lookup ("script_of" : Str) = none ∧ r.lookup ("do_script" : Str) = none ∧ r.lookup ("deal" : Str) = none ∧ r.lookup ("put_back" : Str) = none ∧ r.length ≤ 10
  stay : ∀ ix S H H' r pl, SR ix S H r pl → Xn S H' → IntL H H' → (LamX.Tabs (TT K) H → LamX.Tabs (TT K) H') → SR ix S H' r pl
/-- what a side's script_of does -/
def spSo (K : PySem.W.Frag) (C : Str) {X : Type} (so : X → Giver) (nf nb : X → Nat) (SR : X → Hp → Hp → Fl → Nat → Prop) : Sp := fun vs H Q _ => ∃ (ix : X) (S : Hp) (p dx b bk : Addr) (rest : Fl) (pl : Nat) (bx : List Int) (s : Str), vs = [.ref p, .str s] ∧ H p = some (.ins (He.ga K C) dx (rnF b bk rest)) ∧ H b = some (.lst (iV bx)) ∧ bx.length = (nb ix) ∧ Xn S H ∧ S p = none ∧ (SR ix) S H rest pl ∧ pl < (nf ix) ∧
  ∀ (H' : Hp) (v : V) (rest' : Fl), Fx K [p] H H' → H' p = some (.ins (He.ga K C) dx (rnF b bk rest')) → (SR ix) S H' rest' ((so ix) pl bx s).2 → SD H' v (((so ix) pl bx s).1.map ddD) → Q v H'
section
variable {P : Program} {w : World} {K : PySem.W.Frag} {mg : Str → Option Value} {base : Heap} {C : Str} {X : Type} {so : X → Giver} {nf nb : X → Nat} {SR : X → Hp → Hp → Fl → Nat → Prop}
def spDeal (K : PySem.W.Frag) (C : Str) {X : Type} (so : X → Giver) (nf nb : X → Nat) (SR : X → Hp → Hp → Fl → Nat → Prop) : Sp := fun vs H Q _ => ∃ (ix : X) (S : Hp) (p dx b bk rows wl : Addr) (rest : Fl) (pl : Nat) (bx : List Int) (js : List Jr) (wt : List Str) (books : List V), vs = [.ref p, .ref rows, .ref wl] ∧ H p = some (.ins (He.ga K C) dx (rnF b bk rest)) ∧ H b = some (.lst (iV bx)) ∧ H bk = some (.lst books) ∧
  TL H rows (js.map jrD) ∧ H wl = some (.lst (strV wt)) ∧ b ≠ bk ∧ b ≠ rows ∧ rows ≠ bk ∧ wl ≠ rows ∧ Xn S H ∧ S p = none ∧ S rows = none ∧ S bk = none ∧ (SR ix) S H rest pl ∧ DsOk (nf ix) (nb ix) 100 20 (pl, bx, js, wt) ∧ (nb ix) ≤ 1000 ∧ books.length ≤ 500 ∧ NoInt H bk ∧
  ∀ (H' : Hp) (b' : Addr) (rest' : Fl), Fx K [p, rows, bk] H H' → H' p = some (.ins (He.ga K C) dx (rnF b' bk rest')) → H' b' = some (.lst (iV (deal (so ix) pl bx js wt).2.1)) → b' ≠ bk → b' ≠ rows → H' bk = some (.lst (books ++ [.ref rows])) → TL H' rows ((deal (so ix) pl bx js wt).2.2.map jrD) → (SR ix) S H' rest' (deal (so ix) pl bx js wt).1 → Xn S H' → Q .non H'
/-- the state at a turn of the deal -/
structure DealAt (K : PySem.W.Frag) (C : Str) (SR : Hp → Hp → Fl → Nat → Prop) (S H H' : Hp) (p dx bk rows : Addr) (x : Ds) (b wl : Addr) (rest : Fl) : Prop where
  fx : Fx K [p, rows] H H'
  hp : H' p = some (.ins (He.ga K C) dx (rnF b bk rest))
  hb : H' b = some (.lst (iV x.2.1))
  bb : b ≠ bk
  br : b ≠ rows
  sr : SR S H' rest x.1
  xn : Xn S H'
  hr : TL H' rows (x.2.2.1.map jrD)
  hw : H' wl = some (.lst (strV x.2.2.2))
  hwr : wl ≠ rows
theorem cut_tail {x : V} {xs : List V} : cutV (x :: xs) (some 1) none = xs := by
  unfold cutV
  have e : HT.sIx (x :: xs).length 0 (some ((1 : Nat) : Int)) = 1 := by rw [HT.sIx_nat, List.length_cons]; omega
  rw [show (some (1 : Int)) = some ((1 : Nat) : Int) from rfl, e, HT.sIx_none, List.drop_one, List.tail_cons, List.length_cons]
  exact List.take_of_length_le (by omega)
theorem strs_dp {K : PySem.W.Frag} {H : Hp} : ∀ wt : List Str, DpAll K H (strV wt) (wt.map PyData.str)
  | [] => .nil
  | s :: wt => .cons (.str s) (strs_dp wt)
theorem strs_flat {wt : List Str} (h : ∀ s ∈ wt, PyData.strOk s = true) : ∀ d ∈ wt.map PyData.str, flatD d := fun d hd => by
  obtain ⟨s, hs, rfl⟩ := List.mem_map.mp hd
  exact ⟨h s hs, by show (0 : Nat) ≤ 10; decide⟩
theorem ok_deal (T : Tp K mg) (R : Rn K mg C) (F : ∃ fd, FunD K "deal" "Runner.deal" (defArgs s_Runner_deal) (defBody s_Runner_deal) (defScope s_Runner_deal) [] [] (He.ma K (He.ga K C) "deal") fd) (M : Meth K (He.ga K C) "deal" (He.ma K (He.ga K C) "deal"))
    (sd : Side K so nf nb SR) (G_do_script : GMt P w K mg base 4 (He.ga K C) "do_script" ["self", "script", "rows"] (spDo K C)) (G_script_of : GMt P w K mg base 8 (He.ga K C) "script_of" ["self", "sign"] (spSo K C so nf nb SR)) :
    GMt P w K mg base 9 (He.ga K C) "deal" ["self", "rows", "waiting"] (spDeal K C so nf nb SR) := by
  obtain ⟨tM, hMost⟩ := T.i_MOST
  refine gmt R.cls M (mk_ok F sc_Runner_deal (bn_Runner_deal "Runner.deal") (fun vs H Q E h => ?_) (fun cdv A outer s H vs Q E hr h => ?_))
  · obtain ⟨ix, S, p, dx, b, bk, rows, wl, rest, pl, bx, js, wt, books, rfl, _⟩ := h
    rfl
  · obtain ⟨ix, S, p, dx, b, bk, rows, wl, rest, pl, bx, js, wt, books, rfl, hp, hb, hbk, hrw, hwl, n_b_bk, n_b_rows, n_rows_bk, n_wl_rows, xn, Sp, Srw, Sbk, sr, ok0, hnb, hbl, hni, q⟩ := h
    refine ⟨_, (pss_cons (ps_set (i := 3) sc_Runner_deal.nd rfl (Or.inl rfl) pe_int)
      (pss_cons (ps_while PassesOwn.never (PW.pt (pw_and (pt_cmpR (op_neD hr.units) (pv 2) (pe_lst pa_nil) (nomark _)) (pw_and1 (pt_cmpR op_lt (pv 3) (pe_glob (v := .int 8) rfl hMost ⟨_, rfl⟩) (nomark _)))))
        (pss_cons (ps_set (i := 4) sc_Runner_deal.nd rfl (Or.inl rfl) (pe_ix ix_list (pv 2) pe_int (fun _ _ => rfl)))
        (pss_cons (ps_expr (pe_bm PySem.F.plainAttrs_list PySem.F.slot_list_append PySem.F.type_list_append mt_append (pv 1) (pa_cons (pe_tup (pa_cons pe_str (pa_cons (pv 4) pa_nil))) pa_nil)))
        (pss_cons (ps_set (i := 5) sc_Runner_deal.nd rfl (Or.inl rfl) (pe_gm G_do_script hr (pv 0) (pa_cons (pe_gm G_script_of hr (pv 0) (pa_cons (pv 4) pa_nil)) (pa_cons (pv 1) pa_nil))))
        (pss_cons (ps_set (i := 2) sc_Runner_deal.nd rfl (Or.inl rfl) (pe_op op_cat (pe_slice sl_list (pv 2) (po_some pe_int) po_none) (pv 5)))
        (pss_one (ps_aug (i := 3) sc_Runner_deal.nd rfl (Or.inl rfl) pe_int ip_add)))))))
      (pss_cons (ps_if (pt_cmpR (op_neD hr.units) (pv 2) (pe_lst pa_nil) (nomark _))
        (pss_one (ps_expr (pe_bm PySem.F.plainAttrs_list PySem.F.slot_list_append PySem.F.type_list_append mt_append (pv 1) (pa_cons (pe_tup (pa_cons pe_str (pa_cons (pe_callB call_len_seq (by rfl) T.m_len PySem.boot_len (pa_cons (pv 2) pa_nil)) pa_nil))) pa_nil))))
        pss_nil)
      (pss_one (ps_expr (pe_bm PySem.F.plainAttrs_list PySem.F.slot_list_append PySem.F.type_list_append mt_append (pe_fld (pv 0) rfl) (pa_cons (pv 1) pa_nil))))))), ?_⟩
    have pbk : bk ≠ p := ne_of hbk hp (by intro z; cases z)
    have prw : rows ≠ p := ne_of hrw.choose_spec.1 hp (by intro z; cases z)
    refine ⟨fun k σ H' => ∃ j b' wl' rest' v4 v5, k = 8 - j ∧ j ≤ 8 ∧ σ = [some (.ref p), some (.ref rows), some (.ref wl'), some (.int (j : Nat)), v4, v5] ∧ DealAt K C (SR ix) S H H' p dx bk rows (dealN (so ix) j (pl, bx, js, wt)) b' wl' rest',
      ⟨8, 0, b, wl, rest, none, none, rfl, Nat.zero_le _, rfl, Fx.refl, hp, hb, n_b_bk, n_b_rows, sr, xn, hrw, hwl, n_wl_rows⟩, ?_⟩
    rintro k σ H' ⟨j, b', wl', rest', v4, v5, rfl, hj, rfl, D⟩
    have okj := dealN_ok (sd.giv _ _ _ _ _ sr) ok0 j
    generalize hx : dealN (so ix) j (pl, bx, js, wt) = x at D okj
    obtain ⟨pj, bxj, jsj, wtj⟩ := x
    obtain ⟨fx, hp1, hb1, bb1, br1, sr1, xn1, ⟨ys, hr1, tys⟩, wl1, wr1⟩ := D
    obtain ⟨o1, o2, o3, o4, o5, o6⟩ := okj
    dsimp only at hb1 sr1 tys wl1 o1 o2 o3 o4 o5 o6
    obtain ⟨l1, l2, l3, l4, l5⟩ := sd.look _ _ _ _ _ sr1
    refine ⟨_, rfl, Nat.zero_le _, fun e ne => ?_⟩
    have se := same_upd (o := .lst []) ne
    refine ⟨.list (wtj.map .str), .list [], .lst (SqL.of (se _ _ wl1)) (strs_dp wtj), .lst (SqL.of upd_same) .nil, shaped_list (strs_flat o4), shaped_list (by simp), _, rfl, ?_⟩
    rw [eqv_nil, List.isEmpty_map]
    have hbk1 : H' bk = some (.lst books) := fx.l hbk (n2 pbk n_rows_bk.symm)
    have hyl : ys.length = jsj.length := by rw [tys.len, List.length_map]
    have sub3 : ∀ x ∈ [p, rows], x ∈ [p, rows, bk] := fun x hx => by
      rcases List.mem_cons.mp hx with z | hx
      · rw [z]; exact List.mem_cons_self
      · rw [List.mem_singleton.mp hx]; exact List.mem_cons_of_mem _ List.mem_cons_self
    have mbk : bk ∈ [p, rows, bk] := List.mem_cons_of_mem _ (List.mem_cons_of_mem _ List.mem_cons_self)
    -- the end: the book has one part more
    have fin : ∀ (H2 : Hp) (zs : List V) (jz : List Jr), dealN (so ix) 8 (pl, bx, js, wt) = (pj, bxj, jsj, wtj) → jz = jsj ++ restOf wtj → Fx K [rows] H' H2 → H2 rows = some (.lst zs) → TDs H2 (jz.map jrD) zs → Q .non (upd H2 bk (.lst (books ++ [.ref rows]))) := fun H2 zs jz e8 ez f20 hr2 tz => by
      have f2 : Fx K [p, rows] H' H2 := f20.mono fun x hx => List.mem_cons_of_mem _ hx
      have ed : deal (so ix) pl bx js wt = (pj, bxj, jz) := by unfold deal; rw [e8, ez]
      have hbk2 : H2 bk = some (.lst books) := f2.l hbk1 (n2 pbk n_rows_bk.symm)
      have f3 : Fx K [p, rows, bk] H2 (upd H2 bk (.lst (books ++ [.ref rows]))) := Fx.lst hbk2 mbk
      have fa := ((fx.trans f2).mono sub3).trans f3
      have bp : b' ≠ p := ne_of hb1 hp1 (by intro z; cases z)
      have hp2 : H2 p = some (.ins (He.ga K C) dx (rnF b' bk rest')) := f20.i hp1 (n1 prw.symm)
      have xn2 := f2.xn xn1 (s2_ Sp Srw)
      have ni2 : NoInt H2 bk := fun i zs e => hni i zs (by rw [hbk2] at e; rw [hbk]; exact e)
      have ni1 : ∀ x ∈ [p, rows], NoInt H' x := fun x hx => by
        rcases List.mem_cons.mp hx with z | hx
        · rw [z]; exact ins_noint hp1
        · rw [List.mem_singleton.mp hx]; exact tl_noint (js := jsj) ⟨ys, hr1, tys⟩
      refine q _ b' rest' fa (by rw [upd_ne pbk.symm]; exact hp2) ?_ bb1 br1 upd_same ⟨zs, by rw [upd_ne n_rows_bk]; exact hr2, ?_⟩ ?_ (f3.xn xn2 (s3_ Sp Srw Sbk))
      · rw [upd_ne bb1, ed]
        exact f2.l hb1 (n2 bp br1)
      · rw [ed]
        exact TDs.mono (ts_put hbk2) _ _ tz
      · rw [ed]
        exact sd.stay _ _ _ _ _ _ (sd.stay _ _ _ _ _ _ sr1 xn2 (intl f2 ni1) f2.tabs) (f3.xn xn2 (s3_ Sp Srw Sbk)) (intl (Fx.lst (K := K) (xs := [bk]) hbk2 List.mem_cons_self) (fun x hx => by rw [List.mem_singleton.mp hx]; exact ni2)) f3.tabs
    have restl : rest'.length + 2 < 1000 := by omega
    cases wtj with
    | nil =>
      refine iteF (iteF ?_)
      refine ⟨_, rfl, Nat.zero_le _, fun e2 ne2 => ?_⟩
      have s2 := se.trans (same_upd (o := .lst []) ne2)
      refine ⟨.list [], .list [], .lst (SqL.of (s2 _ _ wl1)) .nil, .lst (SqL.of upd_same) .nil, shaped_list (by simp), shaped_list (by simp), _, rfl, iteF ?_⟩
      refine ⟨_, rfl, p, _, dx, _, _, rfl, s2 _ _ hp1, R.cls, R.nk, rfl, .inl ⟨rfl, _, SqL.of (s2 _ _ hbk1)⟩, _, rfl, bk, _, _, rfl, rfl, s2 _ _ hbk1, small1000 (by omega), ?_⟩
      refine fin _ ys jsj ?_ ?_ (Fx.same s2) (s2 _ _ hr1) (TDs.mono (TS.of s2) _ _ tys)
      · have z := dealN_stop (so := so ix) (x := (pl, bx, js, wt)) (k := j) (by rw [hx]) (8 - j)
        rw [show j + (8 - j) = 8 by omega, hx] at z
        exact z
      · unfold restOf
        simp
    | cons sg wt' =>
      refine iteT ⟨_, rfl, _, _, rfl, rfl, _, rfl, ?_⟩
      by_cases hj8 : j < 8
      · rw [decide_eq_true (show ((j : Nat) : Int) < 8 by omega)]
        refine iteT ⟨fun σ' H9 => ∃ b9 wl9 rest9 v4 v5, σ' = [some (.ref p), some (.ref rows), some (.ref wl9), some (.int ((j + 1 : Nat) : Int)), v4, v5] ∧ DealAt K C (SR ix) S H H9 p dx bk rows (dealN (so ix) (j + 1) (pl, bx, js, wt)) b9 wl9 rest9,
          fun σ' H9 ⟨b9, wl9, rest9, w4, w5, e1, e2⟩ => ⟨8 - (j + 1), by omega, j + 1, b9, wl9, rest9, w4, w5, rfl, by omega, e1, e2⟩, ?_⟩
        have ex : dealN (so ix) (j + 1) (pl, bx, js, wt) = (((so ix) pj bxj sg).2, (perf ((so ix) pj bxj sg).1 bxj).1, jsj ++ [.sign sg] ++ (perf ((so ix) pj bxj sg).1 bxj).2.1, wt' ++ (perf ((so ix) pj bxj sg).1 bxj).2.2) := by
          show dstep (so ix) (dealN (so ix) j (pl, bx, js, wt)) = _
          rw [hx]
          rfl
        obtain ⟨g1, g2, g3⟩ := (sd.giv _ _ _ _ _ sr).ok pj bxj sg o1 o2
        refine ⟨_, rfl, wl', _, _, _, rfl, rfl, SqL.of (se _ _ wl1), at0, ?_⟩
        refine ⟨_, rfl, .inl ⟨rfl, _, SqL.of (se _ _ hr1)⟩, _, rfl, by show 2 ≤ sizeLine; decide, fun u nu => ?_⟩
        have s2 := se.trans (same_upd (o := .tup [.str "sign", .str sg]) nu)
        refine ⟨rows, _, _, rfl, rfl, s2 _ _ hr1, small1000 (by omega), ?_⟩
        have f3 : Fx K [rows] H' (upd (upd (upd H' e (.lst [])) u (.tup [.str "sign", .str sg])) rows (.lst (ys ++ [.ref u]))) := (Fx.same s2).trans (Fx.lst (s2 _ _ hr1) List.mem_cons_self)
        have ts3 : TS H' (upd (upd (upd H' e (.lst [])) u (.tup [.str "sign", .str sg])) rows (.lst (ys ++ [.ref u]))) := (TS.of s2).trans (ts_put (s2 _ _ hr1))
        have hr3 : (upd (upd (upd H' e (.lst [])) u (.tup [.str "sign", .str sg])) rows (.lst (ys ++ [.ref u]))) rows = some (.lst (ys ++ [.ref u])) := upd_same
        have t3 : TDs (upd (upd (upd H' e (.lst [])) u (.tup [.str "sign", .str sg])) rows (.lst (ys ++ [.ref u]))) ((jsj ++ [Jr.sign sg]).map jrD) (ys ++ [.ref u]) := by
          rw [List.map_append]
          exact (TDs.mono ts3 _ _ tys).snoc (TD.mono (ts_put (s2 _ _ hr1)) _ _ (TD.mk2 upd_same TD.ss TD.ss))
        have bp : b' ≠ p := ne_of hb1 hp1 (by intro z; cases z)
        have hp3 := f3.i hp1 (n1 prw.symm)
        have hb3 := f3.l hb1 (n1 br1)
        have wl3 := f3.l wl1 (n1 wr1)
        have xn3 := f3.xn xn1 (s1_ Srw)
        have ni3 : ∀ x ∈ [rows], NoInt H' x := fun x hx => by rw [List.mem_singleton.mp hx]; exact tl_noint (js := jsj) ⟨ys, hr1, tys⟩
        have sr3 := sd.stay _ _ _ _ _ _ sr1 xn3 (intl f3 ni3) f3.tabs
        generalize (upd (upd (upd H' e (.lst [])) u (.tup [.str "sign", .str sg])) rows (.lst (ys ++ [.ref u]))) = H3 at f3 ts3 hr3 t3 hp3 hb3 wl3 xn3 sr3
        refine ⟨_, rfl, p, dx, _, rfl, hp3, l2, _, rfl, p, dx, _, rfl, hp3, l1, _, rfl, ix, S, p, dx, b', bk, rest', pj, bxj, sg, rfl, hp3, hb3, o2, xn3, Sp, sr3, o1, fun H4 v rest4 f4 hp4 sr4 sd4 => ?_⟩
        have hr4 := f4.l hr3 (n1 prw)
        have ts4 : TS H3 H4 := f4.ts fun x hx l z => by rw [List.mem_singleton.mp hx, hp3] at z; cases z
        have hb4 := f4.l hb3 (n1 bp)
        have wp : wl' ≠ p := ne_of wl1 hp1 (by intro z; cases z)
        have wl4 := f4.l wl3 (n1 wp)
        have xn4 := f4.xn xn3 (s1_ Sp)
        have lk4 := sd.look _ _ _ _ _ sr4
        have hbk3 := f3.l hbk1 (n1 n_rows_bk.symm)
        have hbk4 := f4.l hbk3 (n1 pbk)
        refine ⟨_, rfl, p, dx, b', bk, rows, rest4, v, ((so ix) pj bxj sg).1, bxj, jsj ++ [.sign sg], rfl, hp4, lk4.2.2.2.2, sd4, hb4, by rw [o2]; exact g1, by rw [o2]; exact hnb, by omega, ⟨_, hr4, TDs.mono ts4 _ _ t3⟩, by rw [List.length_append, List.length_singleton]; omega, fun H5 c k f5 nc nk hp5 hc5 hr5 hk5 => ?_⟩
        have wl5 := f5.l wl4 (n2 wp wr1)
        have kl : (perf ((so ix) pj bxj sg).1 bxj).2.2.length ≤ 12 := by
          have r2 : (perf ((so ix) pj bxj sg).1 bxj).2.2.length ≤ 0 + ((so ix) pj bxj sg).1.length := (perf_rows _ _).2
          omega
        refine ⟨_, rfl, _, rfl, wl', _, rfl, SqL.of wl5, fun q1 nq1 => ?_⟩
        rw [show strV (sg :: wt') = .str sg :: strV wt' from rfl, cut_tail]
        have s6 := same_upd (o := .lst (strV wt')) nq1
        refine ⟨_, rfl, q1, k, _, _, rfl, rfl, upd_same, s6 _ _ hk5, len1000 (by unfold strV; rw [List.length_map, List.length_map]; rw [List.length_cons] at o6; omega), fun u1 nu1 => ?_⟩
        have s7 := s6.trans (same_upd (o := .lst (strV wt' ++ strV (perf ((so ix) pj bxj sg).1 bxj).2.2)) nu1)
        refine ⟨_, rfl, _, _, rfl, rfl, ?_⟩
        have f57 : Fx K [p, rows] H4 _ := f5.trans (Fx.same s7)
        have sub1 : ∀ x ∈ [p], x ∈ [p, rows] := fun x hx => by rw [List.mem_singleton.mp hx]; exact List.mem_cons_self
        have sub2 : ∀ x ∈ [rows], x ∈ [p, rows] := fun x hx => List.mem_cons_of_mem _ hx
        have xn7 := f57.xn xn4 (s2_ Sp Srw)
        have ni4 : ∀ x ∈ [p, rows], NoInt H4 x := fun x hx => by
          rcases List.mem_cons.mp hx with z | hx
          · rw [z]; exact ins_noint hp4
          · rw [List.mem_singleton.mp hx]; exact tl_noint (js := jsj ++ [.sign sg]) ⟨_, hr4, TDs.mono ts4 _ _ t3⟩
        obtain ⟨r5, hr5', t5⟩ := hr5
        refine ⟨c, u1, rest4, _, _, rfl, ?_⟩
        rw [ex]
        refine ⟨(fx.trans (f3.mono sub2)).trans ((f4.mono sub1).trans f57), s7 _ _ hp5, s7 _ _ hc5, (ne_of_none hbk4 nc).symm, (ne_of_none hr4 nc).symm, sd.stay _ _ _ _ _ _ sr4 xn7 (intl f57 ni4) f57.tabs, xn7, ⟨r5, s7 _ _ hr5', TDs.mono (TS.of s7) _ _ t5⟩, ?_, (ne_of_none (s6 _ _ hr5') nu1).symm⟩
        rw [upd_same]
        unfold strV
        rw [List.map_append]
      · obtain rfl : j = 8 := by omega
        rw [decide_eq_false (show ¬ (((8 : Nat) : Int) < 8) by omega)]
        refine iteF ?_
        refine ⟨_, rfl, Nat.zero_le _, fun e2 ne2 => ?_⟩
        have s2 := se.trans (same_upd (o := .lst []) ne2)
        refine ⟨.list ((sg :: wt').map .str), .list [], .lst (SqL.of (s2 _ _ wl1)) (strs_dp _), .lst (SqL.of upd_same) .nil, shaped_list (strs_flat o4), shaped_list (by simp), _, rfl, iteT ?_⟩
        refine ⟨_, rfl, .inl ⟨rfl, _, SqL.of (s2 _ _ hr1)⟩, _, rfl, wl', _, rfl, .inl (SqL.of (s2 _ _ wl1)), by show 2 ≤ sizeLine; decide, fun u nu => ?_⟩
        have s3 := s2.trans (same_upd (o := .tup [.str "rest", .int ((strV (sg :: wt')).length : Nat)]) nu)
        refine ⟨rows, _, _, rfl, rfl, s3 _ _ hr1, small1000 (by omega), ?_⟩
        have f4 : Fx K [rows] H' _ := (Fx.same s3).trans (Fx.lst (o := .lst (ys ++ [.ref u])) (s3 _ _ hr1) List.mem_cons_self)
        have hbk4 := f4.l hbk1 (n1 n_rows_bk.symm)
        refine ⟨_, rfl, p, _, dx, _, _, rfl, f4.i hp1 (n1 prw.symm), R.cls, R.nk, rfl, .inl ⟨rfl, _, SqL.of hbk4⟩, _, rfl, bk, _, _, rfl, rfl, hbk4, small1000 (by omega), ?_⟩
        refine fin _ _ _ hx rfl f4 upd_same ?_
        rw [List.map_append]
        refine (TDs.mono ((TS.of s3).trans (ts_put (s3 _ _ hr1))) _ _ tys).snoc ?_
        have e : (strV (sg :: wt')).length = (sg :: wt').length := by unfold strV; rw [List.length_map]
        show TD _ (jrD (.rest (((sg :: wt').length : Nat) : Int))) _
        rw [← e]
        exact TD.mono (ts_put (s3 _ _ hr1)) _ _ (TD.mk2 upd_same TD.ss TD.ii)
end
end K56
set_option Elab.async false
set_option linter.all false
set_option maxRecDepth 100000
set_option maxHeartbeats 4000000
namespace K56
open PySem PySem.Spec PyProof.Rows L2
/-- a heap without tables -/
def NoTb (S : Hp) : Prop := ∀ a ps, S a ≠ some (.tbl ps)
theorem xn_none {S H : Hp} {a : Addr} (n : NoTb S) (x : Xn S H) (h : H a = none) : S a = none := by
  cases e : S a with
  | none => rfl
  | some o =>
    have := x a o e fun ps z => n a ps (by rw [e, z])
    rw [h] at this
    cases this
theorem at_last {xs : List V} {x : V} : atI (xs ++ [x]) (-1) = some x := by
  unfold atI
  have e : ixN (xs ++ [x]).length (-1) = some xs.length := by
    unfold ixN
    rw [List.length_append, List.length_singleton, if_neg (by omega)]
    first
      | (rw [if_pos (by omega)]; congr 1; omega)
      | (simp; omega)
  rw [e]
  simp
theorem cut_init {xs : List V} {x : V} : cutV (xs ++ [x]) none (some (-1)) = xs := by
  unfold cutV
  have e : HT.sIx (xs ++ [x]).length (xs ++ [x]).length (some (-1)) = xs.length := by
    unfold HT.sIx
    rw [List.length_append, List.length_singleton]
    show (if (-1 : Int) < 0 then _ else _) = _
    rw [if_pos (by omega)]
    omega
  rw [e, HT.sIx_none, List.drop_zero, Nat.sub_zero]
  exact List.take_left' rfl
theorem dsok_one {nf nb pl : Nat} {bx : List Int} {sg : Str} (h : pl < nf) (hb : bx.length = nb) (hs : PyData.strOk sg = true) : DsOk nf nb 100 20 (pl, bx, [], [sg]) :=
  ⟨h, hb, (fun _ z => by cases z), (fun s z => by rw [List.mem_singleton.mp z]; exact hs), Nat.zero_le _, (by show 1 ≤ 20; decide)⟩
theorem dsok_begin {nf nb pl : Nat} {bx : List Int} {ds : List Dd} (h : pl < nf) (hb : bx.length = nb) (hd : DdsOk nb ds) (hl : ds.length ≤ 12) : DsOk nf nb 100 20 (pl, (perf ds bx).1, (perf ds bx).2.1, (perf ds bx).2.2) := by
  obtain ⟨p1, p2⟩ := perf_ok (n := nb) ds hd (bx, [], []) (fun j hj => by cases hj) fun s hs => by cases hs
  obtain ⟨r1, r2⟩ := perf_rows ds (bx, [], [])
  have r1' : (perf ds bx).2.1.length = 0 + ds.length := r1
  have r2' : (perf ds bx).2.2.length ≤ 0 + ds.length := r2
  exact ⟨h, by rw [perf_len']; exact hb, p1, p2, by show (perf ds bx).2.1.length ≤ 100; omega, by show (perf ds bx).2.2.length ≤ 20; omega⟩
/-- the parts of a book -/
def Parts (H : Hp) : List (List Jr) → List V → Prop
  | [], xs => xs = []
  | j :: js, xs => ∃ r ys, xs = .ref r :: ys ∧ TL H r (j.map jrD) ∧ Parts H js ys
theorem Parts.len {H : Hp} : ∀ {js : List (List Jr)} {xs : List V}, Parts H js xs → xs.length = js.length
  | [], _, h => by have e : _ = ([] : List V) := h; rw [e]; rfl
  | j :: js, _, h => by
    obtain ⟨r, ys, e, _, h2⟩ := h
    rw [e, List.length_cons, List.length_cons, h2.len]
theorem Parts.app {H : Hp} : ∀ {js ks : List (List Jr)} {xs ys : List V}, Parts H js xs → Parts H ks ys → Parts H (js ++ ks) (xs ++ ys)
  | [], _, _, _, h, h' => by have e : _ = ([] : List V) := h; rw [e]; exact h'
  | j :: js, _, _, _, h, h' => by
    obtain ⟨r, ys, e, t, h2⟩ := h
    subst e
    exact ⟨r, _, rfl, t, h2.app h'⟩
theorem Parts.one {H : Hp} {j : List Jr} {r : Addr} (t : TL H r (j.map jrD)) : Parts H [j] [.ref r] := ⟨r, [], rfl, t, rfl⟩
theorem Parts.get {H : Hp} : ∀ {js : List (List Jr)} {xs : List V} {i : Nat} {x : V}, Parts H js xs → xs[i]? = some x → ∃ j r, js[i]? = some j ∧ x = .ref r ∧ TL H r (j.map jrD)
  | [], _, i, x, h, e => by have e2 : _ = ([] : List V) := h; rw [e2] at e; simp at e
  | j :: js, _, 0, x, h, e => by
    obtain ⟨r, ys, e1, t, _⟩ := h
    subst e1
    exact ⟨j, r, rfl, (Option.some.inj e).symm, t⟩
  | j :: js, _, i + 1, x, h, e => by
    obtain ⟨r, ys, e1, _, h2⟩ := h
    subst e1
    obtain ⟨k, c, h3, h4, h5⟩ := Parts.get (i := i) h2 (by simpa using e)
    exact ⟨k, c, by simpa using h3, h4, h5⟩
theorem Parts.mono {H H' : Hp} : ∀ {js : List (List Jr)} {xs : List V}, Parts H js xs → (∀ (r : Addr) (j : List Jr), TL H r (j.map jrD) → TL H' r (j.map jrD)) → Parts H' js xs
  | [], _, h, _ => h
  | j :: js, _, h, f => by
    obtain ⟨r, ys, e, t, h2⟩ := h
    exact ⟨r, ys, e, f r j t, h2.mono f⟩
theorem Parts.noint {H : Hp} {a : Addr} {js : List (List Jr)} {xs : List V} (h : Parts H js xs) (e : H a = some (.lst xs)) : NoInt H a := fun i zs z => by
  rw [e] at z
  have z : xs = .int i :: zs := HO.lst.inj (Option.some.inj z)
  subst z
  cases js with
  | nil => have h : _ = ([] : List V) := h; cases h
  | cons j js => obtain ⟨r, ys, e, _⟩ := h; cases e
section
variable {P : Program} {w : World} {K : PySem.W.Frag} {mg : Str → Option Value} {base : Heap} {C : Str} {X : Type} {so : X → Giver} {nf nb : X → Nat} {SR : X → Hp → Hp → Fl → Nat → Prop}
/-! ### Runner's init -/
def spRInit (K : PySem.W.Frag) (C : Str) : Sp := fun vs H Q _ => ∃ (p dx nl : Addr) (bx : List Int), vs = [.ref p, .ref nl] ∧ H p = some (.ins (He.ga K C) dx []) ∧ H nl = some (.lst (iV bx)) ∧
  ∀ (H' : Hp) (b bk : Addr), Fx K [p] H H' → H' p = some (.ins (He.ga K C) dx (rnF b bk [])) → H' b = some (.lst (iV bx)) → H' bk = some (.lst []) → b ≠ bk → H b = none → H bk = none → Q .non H'
theorem ok_rinit (T : Tp K mg) (R : Rn K mg C) : GCl P w K mg base 1 (He.ga K "Runner") "__init__" ["self", "numbers"] (spRInit K C) := by
  refine gcl T T.rcls.1 (mk_ok T.f_Runner_init sc_Runner_init (bn_Runner_init "Runner.__init__") (fun vs H Q E h => ?_) (fun cdv A outer s H vs Q E hr h => ?_))
  · obtain ⟨p, dx, nl, bx, rfl, _⟩ := h
    rfl
  · obtain ⟨p, dx, nl, bx, rfl, hp, hn, q⟩ := h
    refine ⟨_, (pss_cons (ps_fld (pv 0) (pe_callTy call_list_of (by rfl) T.m_list (by decide +kernel) (pa_cons (pv 1) pa_nil)) rfl)
      (pss_one (ps_fld (pv 0) (pe_lst pa_nil) rfl))), ?_⟩
    refine ⟨_, rfl, nl, _, rfl, .inl (SqL.of hn), fun c nc => ?_⟩
    have s1 := same_upd (o := .lst (iV bx)) nc
    have hp1 := s1 _ _ hp
    refine ⟨_, rfl, p, _, dx, _, rfl, hp1, R.cls, R.nb, by show 0 < 1000; decide, ?_⟩
    refine ⟨Nat.zero_le _, fun k nk => ?_⟩
    have cp : c ≠ p := (ne_of_none hp nc).symm
    have kp : k ≠ p := (ne_of_none upd_same nk).symm
    have hc : (upd (upd H c (.lst (iV bx))) p (.ins (He.ga K C) dx [("boxes", .ref c)])) c = some (.lst (iV bx)) := by rw [upd_ne cp]; exact upd_same
    have ck : c ≠ k := ne_of_none hc nk
    refine ⟨_, rfl, p, _, dx, [("boxes", .ref c)], rfl, by rw [upd_ne kp.symm]; exact upd_same, R.cls, R.nk, by show 1 < 1000; decide, ?_⟩
    have f1 : Fx K [p] H _ := (Fx.same s1).trans (Fx.ins (o := .ins (He.ga K C) dx [("boxes", .ref c)]) hp1 List.mem_cons_self)
    have f2 : Fx K [p] H _ := f1.trans (Fx.same (same_upd (o := .lst []) nk))
    have f3 : Fx K [p] H _ := f2.trans (Fx.ins (o := .ins (He.ga K C) dx (rnF c k [])) (by rw [upd_ne kp.symm]; exact upd_same) List.mem_cons_self)
    have nk0 : H k = none := by
      rw [upd_ne kp, upd_ne ck.symm] at nk
      exact nk
    exact q _ c k f3 upd_same (by rw [upd_ne cp, upd_ne ck]; exact hc) (by rw [upd_ne kp]; exact upd_same) ck nc nk0
/-! ### begin_with -/
def spBegin (K : PySem.W.Frag) (C : Str) {X : Type} (so : X → Giver) (nf nb : X → Nat) (SR : X → Hp → Hp → Fl → Nat → Prop) : Sp := fun vs H Q _ => ∃ (ix : X) (S : Hp) (p dx b bk : Addr) (rest : Fl) (v : V) (pl : Nat) (ds : List Dd) (bx : List Int), vs = [.ref p, v] ∧ H p = some (.ins (He.ga K C) dx (rnF b bk rest)) ∧ H b = some (.lst (iV bx)) ∧ H bk = some (.lst []) ∧ b ≠ bk ∧
  NoTb S ∧ Xn S H ∧ S p = none ∧ S bk = none ∧ (SR ix) S H rest pl ∧ pl < (nf ix) ∧ bx.length = (nb ix) ∧ (nb ix) ≤ 1000 ∧ SD H v (ds.map ddD) ∧ DdsOk (nb ix) ds ∧ ds.length ≤ 12 ∧
  ∀ dl : Nat × List Int × List Jr, deal (so ix) pl (perf ds bx).1 (perf ds bx).2.1 (perf ds bx).2.2 = dl → ∀ (H' : Hp) (b' : Addr) (rest' : Fl) (rows : Addr), Fx K [p, bk] H H' → H' p = some (.ins (He.ga K C) dx (rnF b' bk rest')) → H' b' = some (.lst (iV dl.2.1)) → b' ≠ bk → H' bk = some (.lst [.ref rows]) →
    TL H' rows (dl.2.2.map jrD) → (SR ix) S H' rest' dl.1 → Xn S H' → Q .non H'
theorem ok_begin (T : Tp K mg) (R : Rn K mg C) (F : ∃ fd, FunD K "begin_with" "Runner.begin_with" (defArgs s_Runner_begin_with) (defBody s_Runner_begin_with) (defScope s_Runner_begin_with) [] [] (He.ma K (He.ga K C) "begin_with") fd) (M : Meth K (He.ga K C) "begin_with" (He.ma K (He.ga K C) "begin_with"))
    (sd : Side K so nf nb SR) (G_do_script : GMt P w K mg base 4 (He.ga K C) "do_script" ["self", "script", "rows"] (spDo K C)) (G_deal : GMt P w K mg base 9 (He.ga K C) "deal" ["self", "rows", "waiting"] (spDeal K C so nf nb SR)) :
    GMt P w K mg base 10 (He.ga K C) "begin_with" ["self", "script"] (spBegin K C so nf nb SR) := by
  refine gmt R.cls M (mk_ok F sc_Runner_begin_with (bn_Runner_begin_with "Runner.begin_with") (fun vs H Q E h => ?_) (fun cdv A outer s H vs Q E hr h => ?_))
  · obtain ⟨ix, S, p, dx, b, bk, rest, v, pl, ds, bx, rfl, _⟩ := h
    rfl
  · obtain ⟨ix, S, p, dx, b, bk, rest, v, pl, ds, bx, rfl, hp, hb, hbk, nbk, nt, xn, Sp, Sbk, sr, hpl, hbl, hnb, hsd, hdo, hdl, q⟩ := h
    refine ⟨_, (pss_cons (ps_set (i := 2) sc_Runner_begin_with.nd rfl (Or.inl rfl) (pe_lst pa_nil))
      (pss_cons (ps_set (i := 3) sc_Runner_begin_with.nd rfl (Or.inl rfl) (pe_gm G_do_script hr (pv 0) (pa_cons (pv 1) (pa_cons (pv 2) pa_nil))))
      (pss_one (ps_expr (pe_gm G_deal hr (pv 0) (pa_cons (pv 2) (pa_cons (pv 3) pa_nil))))))), ?_⟩
    obtain ⟨l1, l2, l3, l4, l5⟩ := sd.look _ _ _ _ _ sr
    refine ⟨Nat.zero_le _, fun rows nr => ?_⟩
    have s1 := same_upd (o := .lst []) nr
    have Srw : S rows = none := xn_none nt xn nr
    obtain ⟨va, vx, ev, hv, tv⟩ := hsd
    have hp1 := s1 _ _ hp
    refine ⟨_, rfl, p, dx, _, rfl, hp1, l2, _, rfl, _, rfl, p, dx, b, bk, rows, rest, v, ds, bx, [], rfl, hp1, l5, ⟨va, vx, ev, hv.imp (s1 _ _) (s1 _ _), TDs.mono (TS.of s1) _ _ tv⟩, s1 _ _ hb, by rw [hbl]; exact hdo, by omega, by omega, ⟨[], upd_same, TDs.nil⟩, by decide, fun H2 c k f2 nc nk hp2 hc2 hr2 hk2 => ?_⟩
    have pbk : bk ≠ p := ne_of hbk hp (by intro z; cases z)
    have rp : rows ≠ p := (ne_of_none hp nr).symm
    have rbk : rows ≠ bk := (ne_of_none hbk nr).symm
    have hr1 : (upd H rows (.lst [])) rows = some (.lst []) := upd_same
    have hbk2 := f2.l (s1 _ _ hbk) (n2 pbk rbk.symm)
    have xn2 := f2.xn ((xn_of s1) |> fun z => LamX.ExtN.trans xn z) (s2_ Sp Srw)
    have ni : ∀ x ∈ [p, rows], NoInt (upd H rows (.lst [])) x := fun x hx => by
      rcases List.mem_cons.mp hx with z | hx
      · rw [z]; exact ins_noint hp1
      · rw [List.mem_singleton.mp hx]; intro i zs z; rw [hr1] at z; cases z
    have sr2 := sd.stay _ _ _ _ _ _ (sd.stay _ _ _ _ _ _ sr (LamX.ExtN.trans xn (xn_of s1)) (IntL.same s1) fun t => tabs_xn t s1) xn2 (intl f2 ni) f2.tabs
    have kr : k ≠ rows := (ne_of_none hr1 nk).symm
    refine ⟨_, rfl, p, dx, _, rfl, hp2, l3, _, rfl, _, rfl, ix, S, p, dx, c, bk, rows, k, rest, pl, (perf ds bx).1, (perf ds bx).2.1, (perf ds bx).2.2, [], rfl, hp2, hc2, hbk2, hr2, hk2, (ne_of_none (s1 _ _ hbk) nc).symm, (ne_of_none hr1 nc).symm, rbk, kr, xn2, Sp, Srw, Sbk, sr2,
      dsok_begin hpl hbl hdo hdl, hnb, by decide, (fun i zs z => by rw [hbk2] at z; cases z), fun H3 b' rest' f3 hp3 hb3 nb3 nr3 hbk3 hr3 sr3 xn3 => ?_⟩
    have f13 : Fx K [p, bk] H H3 := by
      have fa : Fx K [rows, p, bk] (upd H rows (.lst [])) H3 := ((f2.mono (ys := [rows, p, bk]) fun x hx => ?_).trans (f3.mono fun x hx => ?_))
      · exact Fx.drop (Fx.same s1) fa nr
      · rcases List.mem_cons.mp hx with z | hx
        · rw [z]; exact List.mem_cons_of_mem _ List.mem_cons_self
        · rw [List.mem_singleton.mp hx]; exact List.mem_cons_self
      · rcases List.mem_cons.mp hx with z | hx
        · rw [z]; exact List.mem_cons_of_mem _ List.mem_cons_self
        · rcases List.mem_cons.mp hx with z | hx
          · rw [z]; exact List.mem_cons_self
          · rw [List.mem_singleton.mp hx]; exact List.mem_cons_of_mem _ (List.mem_cons_of_mem _ List.mem_cons_self)
    exact q _ rfl H3 b' rest' rows f13 hp3 hb3 nb3 hbk3 hr3 sr3 xn3
/-! ### feed -/
def spFeed (K : PySem.W.Frag) (C : Str) {X : Type} (so : X → Giver) (nf nb : X → Nat) (SR : X → Hp → Hp → Fl → Nat → Prop) : Sp := fun vs H Q _ => ∃ (ix : X) (S : Hp) (p dx b bk : Addr) (rest : Fl) (pl : Nat) (bx : List Int) (sg : Str) (books : List V), vs = [.ref p, .str sg] ∧ H p = some (.ins (He.ga K C) dx (rnF b bk rest)) ∧ H b = some (.lst (iV bx)) ∧ H bk = some (.lst books) ∧ b ≠ bk ∧
  NoTb S ∧ Xn S H ∧ S p = none ∧ S bk = none ∧ (SR ix) S H rest pl ∧ pl < (nf ix) ∧ bx.length = (nb ix) ∧ (nb ix) ≤ 1000 ∧ books.length ≤ 500 ∧ NoInt H bk ∧ PyData.strOk sg = true ∧
  ∀ dl : Nat × List Int × List Jr, deal (so ix) pl bx [] [sg] = dl → ∀ (H' : Hp) (b' : Addr) (rest' : Fl) (rows r : Addr), Fx K [p, bk] H H' → H' p = some (.ins (He.ga K C) dx (rnF b' bk rest')) → H' b' = some (.lst (iV dl.2.1)) → b' ≠ bk → H' bk = some (.lst (books ++ [.ref rows])) →
    TL H' rows (dl.2.2.map jrD) → TL H' r (dl.2.2.map jrD) → (SR ix) S H' rest' dl.1 → Xn S H' → Q (.ref r) H'
theorem ok_feed {f : Addr} (T : Tp K mg) (R : Rn K mg C) (F : ∃ fd, FunD K "feed" "Runner.feed" (defArgs s_Runner_feed) (defBody s_Runner_feed) (defScope s_Runner_feed) [] [] f fd)
    (sd : Side K so nf nb SR) (G_deal : GMt P w K mg base 9 (He.ga K C) "deal" ["self", "rows", "waiting"] (spDeal K C so nf nb SR)) :
    ∃ fd, FnOk P w K mg base CX0 10 f fd ["self", "sign"] (spFeed K C so nf nb SR) ∧ Binds K fd ["self", "sign"] [] ∧ PySem.W.keepIn K (.ref f) = true := by
  refine mk_ok F sc_Runner_feed (bn_Runner_feed "Runner.feed") (fun vs H Q E h => ?_) (fun cdv A outer s H vs Q E hr h => ?_)
  · obtain ⟨ix, S, p, dx, b, bk, rest, pl, bx, sg, books, rfl, _⟩ := h
    rfl
  · obtain ⟨ix, S, p, dx, b, bk, rest, pl, bx, sg, books, rfl, hp, hb, hbk, nbk, nt, xn, Sp, Sbk, sr, hpl, hbl, hnb, hbl2, hni, hsg, q⟩ := h
    refine ⟨_, (pss_cons (ps_expr (pe_gm G_deal hr (pv 0) (pa_cons (pe_lst pa_nil) (pa_cons (pe_lst (pa_cons (pv 1) pa_nil)) pa_nil))))
      (pss_one (ps_ret (pe_callTy call_list_of (by rfl) T.m_list (by decide +kernel) (pa_cons (pe_ix ix_list (pe_fld (pv 0) rfl) (pe_un un_neg pe_int) (fun _ _ => rfl)) pa_nil))))), ?_⟩
    obtain ⟨l1, l2, l3, l4, l5⟩ := sd.look _ _ _ _ _ sr
    refine ⟨_, rfl, p, dx, _, rfl, hp, l3, Nat.zero_le _, fun rows nr => ?_⟩
    have s1 := same_upd (o := .lst []) nr
    have hr1 : (upd H rows (.lst [])) rows = some (.lst []) := upd_same
    refine ⟨_, rfl, by show 1 ≤ sizeLine; decide, fun wl nw => ?_⟩
    have s2 := s1.trans (same_upd (o := .lst [.str sg]) nw)
    have hr2 := (same_upd (o := .lst [.str sg]) nw) _ _ hr1
    have Srw : S rows = none := xn_none nt xn nr
    have pbk : bk ≠ p := ne_of hbk hp (by intro z; cases z)
    have xn2 := LamX.ExtN.trans xn (xn_of s2)
    refine ⟨ix, S, p, dx, b, bk, rows, wl, rest, pl, bx, [], [sg], books, rfl, s2 _ _ hp, s2 _ _ hb, s2 _ _ hbk, ⟨[], hr2, TDs.nil⟩, upd_same, nbk, ne_of_none hb nr, (ne_of_none hbk nr).symm, (ne_of_none hr1 nw).symm, xn2, Sp, Srw, Sbk, sd.stay _ _ _ _ _ _ sr xn2 (IntL.same s2) (fun t => tabs_xn t s2),
      dsok_one hpl hbl hsg, hnb, hbl2, (fun i zs z => hni i zs (by rw [s2 _ _ hbk] at z; rw [hbk]; exact z)), fun H3 b' rest' f3 hp3 hb3 nb3 nr3 hbk3 hr3 sr3 xn3 => ?_⟩
    obtain ⟨ys, hrw3, tys⟩ := hr3
    refine ⟨_, rfl, p, _, dx, _, _, rfl, hp3, R.cls, R.nk, rfl, _, rfl, bk, _, _, _, rfl, rfl, SqL.of hbk3, at_last, rows, _, rfl, .inl (SqL.of hrw3), fun r nr' => ?_⟩
    have s4 := same_upd (o := .lst ys) nr'
    have f13 : Fx K [p, bk] H H3 := by
      have fa : Fx K [rows, p, bk] (upd (upd H rows (.lst [])) wl (.lst [.str sg])) H3 := f3.mono fun x hx => by
        rcases List.mem_cons.mp hx with z | hx
        · rw [z]; exact List.mem_cons_of_mem _ List.mem_cons_self
        · rcases List.mem_cons.mp hx with z | hx
          · rw [z]; exact List.mem_cons_self
          · rw [List.mem_singleton.mp hx]; exact List.mem_cons_of_mem _ (List.mem_cons_of_mem _ List.mem_cons_self)
      exact Fx.drop (Fx.same s2) fa nr
    have xn4 := LamX.ExtN.trans xn3 (xn_of s4)
    generalize deal (so ix) pl bx [] [sg] = dl at q hb3 tys sr3
    exact q _ rfl _ b' rest' rows r (f13.trans (Fx.same s4)) (s4 _ _ hp3) (s4 _ _ hb3) nb3 (s4 _ _ hbk3) ⟨ys, s4 _ _ hrw3, TDs.mono (TS.of s4) _ _ tys⟩ ⟨ys, upd_same, TDs.mono (TS.of s4) _ _ tys⟩ (sd.stay _ _ _ _ _ _ sr3 xn4 (IntL.same s4) fun t => tabs_xn t s4) xn4
/-! ### fed, story, numbers -/
def spFed (K : PySem.W.Frag) (C : Str) : Sp := fun vs H Q _ => ∃ (p dx b bk : Addr) (rest : Fl) (books : List V), vs = [.ref p] ∧ H p = some (.ins (He.ga K C) dx (rnF b bk rest)) ∧ H bk = some (.lst books) ∧ Q (.int ((books.length : Int) - 1)) H
theorem ok_fed (T : Tp K mg) (R : Rn K mg C) (F : ∃ fd, FunD K "fed" "Runner.fed" (defArgs s_Runner_fed) (defBody s_Runner_fed) (defScope s_Runner_fed) [] [] (He.ma K (He.ga K C) "fed") fd) (M : Meth K (He.ga K C) "fed" (He.ma K (He.ga K C) "fed")) :
    GMt P w K mg base 1 (He.ga K C) "fed" ["self"] (spFed K C) := by
  refine gmt R.cls M (mk_ok F sc_Runner_fed (bn_Runner_fed "Runner.fed") (fun vs H Q E h => ?_) (fun cdv A outer s H vs Q E hr h => ?_))
  · obtain ⟨p, dx, b, bk, rest, books, rfl, _⟩ := h
    rfl
  · obtain ⟨p, dx, b, bk, rest, books, rfl, hp, hbk, q⟩ := h
    refine ⟨_, (pss_one (ps_ret (pe_op op_sub (pe_callB call_len_seq (by rfl) T.m_len PySem.boot_len (pa_cons (pe_fld (pv 0) rfl) pa_nil)) pe_int))), ?_⟩
    exact ⟨_, rfl, p, _, dx, _, _, rfl, hp, R.cls, R.nk, rfl, bk, _, rfl, .inl (SqL.of hbk), _, _, rfl, rfl, q⟩
def spNumbers (K : PySem.W.Frag) (C : Str) : Sp := fun vs H Q _ => ∃ (p dx b bk : Addr) (rest : Fl) (xs : List V), vs = [.ref p] ∧ H p = some (.ins (He.ga K C) dx (rnF b bk rest)) ∧ H b = some (.lst xs) ∧ ∀ (H' : Hp) (r : Addr), Same H H' → H' r = some (.lst xs) → Q (.ref r) H'
theorem ok_numbers (T : Tp K mg) (R : Rn K mg C) (F : ∃ fd, FunD K "numbers" "Runner.numbers" (defArgs s_Runner_numbers) (defBody s_Runner_numbers) (defScope s_Runner_numbers) [] [] (He.ma K (He.ga K C) "numbers") fd) (M : Meth K (He.ga K C) "numbers" (He.ma K (He.ga K C) "numbers")) :
    GMt P w K mg base 1 (He.ga K C) "numbers" ["self"] (spNumbers K C) := by
  refine gmt R.cls M (mk_ok F sc_Runner_numbers (bn_Runner_numbers "Runner.numbers") (fun vs H Q E h => ?_) (fun cdv A outer s H vs Q E hr h => ?_))
  · obtain ⟨p, dx, b, bk, rest, xs, rfl, _⟩ := h
    rfl
  · obtain ⟨p, dx, b, bk, rest, xs, rfl, hp, hb, q⟩ := h
    refine ⟨_, (pss_one (ps_ret (pe_callTy call_list_of (by rfl) T.m_list (by decide +kernel) (pa_cons (pe_fld (pv 0) rfl) pa_nil)))), ?_⟩
    exact ⟨_, rfl, p, _, dx, _, _, rfl, hp, R.cls, R.nb, rfl, b, _, rfl, .inl (SqL.of hb), fun r nr => q _ r (same_upd nr) upd_same⟩
def spStory (K : PySem.W.Frag) (C : Str) : Sp := fun vs H Q _ => ∃ (p dx b bk : Addr) (rest : Fl) (books : List V) (js : List (List Jr)), vs = [.ref p] ∧ H p = some (.ins (He.ga K C) dx (rnF b bk rest)) ∧ H bk = some (.lst books) ∧ Parts H js books ∧ js.length ≤ 30 ∧ (∀ j ∈ js, j.length ≤ 300) ∧ ∀ (H' : Hp) (r : Addr), Same H H' → TL H' r (js.flatten.map jrD) → Q (.ref r) H'
theorem flat_take {α : Type} {js : List (List α)} {i : Nat} {j : List α} (h : js[i]? = some j) : (js.take (i + 1)).flatten = (js.take i).flatten ++ j := by
  rw [List.take_add_one, h, List.flatten_append]
  simp
theorem flat_len {α : Type} {n : Nat} : ∀ {js : List (List α)}, (∀ j ∈ js, j.length ≤ n) → js.flatten.length ≤ js.length * n
  | [], _ => Nat.zero_le _
  | j :: js, h => by
    rw [List.flatten_cons, List.length_append, List.length_cons, Nat.succ_mul]
    have a := h j List.mem_cons_self
    have b := flat_len (js := js) fun k hk => h k (List.mem_cons_of_mem _ hk)
    omega
theorem ok_story (T : Tp K mg) (R : Rn K mg C) (F : ∃ fd, FunD K "story" "Runner.story" (defArgs s_Runner_story) (defBody s_Runner_story) (defScope s_Runner_story) [] [] (He.ma K (He.ga K C) "story") fd) (M : Meth K (He.ga K C) "story" (He.ma K (He.ga K C) "story")) :
    GMt P w K mg base 1 (He.ga K C) "story" ["self"] (spStory K C) := by
  refine gmt R.cls M (mk_ok F sc_Runner_story (bn_Runner_story "Runner.story") (fun vs H Q E h => ?_) (fun cdv A outer s H vs Q E hr h => ?_))
  · obtain ⟨p, dx, b, bk, rest, books, js, rfl, _⟩ := h
    rfl
  · obtain ⟨p, dx, b, bk, rest, books, js, rfl, hp, hbk, hpt, hjl, hjj, q⟩ := h
    refine ⟨_, (pss_cons (ps_set (i := 1) sc_Runner_story.nd rfl (Or.inl rfl) (pe_lst pa_nil))
      (pss_cons (ps_for PassesOwn.never rfl (pi_list (pe_fld (pv 0) rfl)) (pg_name (i := 2) sc_Runner_story.nd rfl (Or.inl rfl))
        (pss_one (ps_expr (pe_bm PySem.F.plainAttrs_list PySem.F.slot_list_extend PySem.F.type_list_extend mt_extend (pv 1) (pa_cons (pv 2) pa_nil)))))
      (pss_one (ps_ret (pv 1))))), ?_⟩
    refine ⟨Nat.zero_le _, fun r nr => ?_⟩
    have s1 := same_upd (o := .lst []) nr
    refine ⟨_, rfl, p, _, dx, _, _, rfl, s1 _ _ hp, R.cls, R.nk, rfl, bk, rfl, ⟨_, SqL.of (s1 _ _ hbk)⟩, for_list (K := K) (a := bk) (xs := books) (fun i σ H' => ∃ v2, σ = [some (.ref p), some (.ref r), v2] ∧ Same H H' ∧ TL H' r ((js.take i).flatten.map jrD)) ⟨none, rfl, s1, [], upd_same, TDs.nil⟩ (fun i σ H' _ ⟨_, _, e, _⟩ => SqL.of (e _ _ hbk)) ?_ ?_⟩
    · rintro i y σ H' hy ⟨v2, rfl, sm, ys, hr1, tys⟩
      obtain ⟨j, c, hj, rfl, zs, hc, tz⟩ := hpt.get hy
      have tz' := TDs.mono (TS.of sm) _ _ tz
      have hi := (List.getElem?_eq_some_iff.mp hj).1
      have e1 := flat_len (n := 300) (js := js.take (i + 1)) fun k hk => hjj k (List.mem_of_mem_take hk)
      rw [List.length_take, flat_take hj, List.length_append] at e1
      have e2 : ys.length = (js.take i).flatten.length := by rw [tys.len, List.length_map]
      have e3 : zs.length = j.length := by rw [tz.len, List.length_map]
      have e4 : min (i + 1) js.length * 300 ≤ 30 * 300 := Nat.mul_le_mul_right _ (by omega)
      refine ⟨_, rfl, .inl ⟨rfl, _, SqL.of hr1⟩, _, rfl, r, c, _, _, rfl, rfl, hr1, sm _ _ hc, ?_, ?_⟩
      · refine Nat.le_trans (show ys.length + zs.length ≤ 9000 by omega) (by decide)
      · refine ⟨_, rfl, same_put sm nr, _, upd_same, ?_⟩
        rw [flat_take hj, List.map_append]
        exact TDs.app (TDs.mono (ts_put hr1) _ _ tys) (TDs.mono (ts_put hr1) _ _ tz')
    · rintro σ H' ⟨v2, rfl, sm, l⟩
      rw [hpt.len, List.take_length] at l
      exact ⟨_, rfl, q H' r sm l⟩
end
end K56
set_option Elab.async false
set_option linter.all false
set_option maxRecDepth 100000
set_option maxHeartbeats 4000000
namespace K56
open PySem PySem.Spec PyProof.Rows L2
/-- a heap but two objects and the tables -/
def cutS (H : Hp) (p q : Addr) : Hp := fun a => if a = p ∨ a = q then none else match H a with
  | some (.tbl _) => none
  | o => o
theorem cutS_l {H : Hp} {p q a : Addr} {o : HO} (h : H a = some o) (n : ∀ ps, o ≠ .tbl ps) (hp : a ≠ p) (hq : a ≠ q) : cutS H p q a = some o := by
  unfold cutS
  rw [if_neg (by intro z; exact z.elim hp hq), h]
  cases o with
  | tbl ps => exact absurd rfl (n ps)
  | _ => rfl
theorem cutS_p {H : Hp} {p q : Addr} : cutS H p q p = none := by unfold cutS; rw [if_pos (.inl rfl)]
theorem cutS_q {H : Hp} {p q : Addr} : cutS H p q q = none := by unfold cutS; rw [if_pos (.inr rfl)]
theorem cutS_nt {H : Hp} {p q : Addr} : NoTb (cutS H p q) := fun a ps z => by
  unfold cutS at z
  split at z
  · cases z
  · split at z
    · cases z
    · exact absurd z (by rename_i h; exact h ps)
theorem cutS_xn {H : Hp} {p q : Addr} : Xn (cutS H p q) H := fun a o e n => by
  unfold cutS at e
  split at e
  · cases e
  · split at e
    · cases e
    · exact e
theorem xn_cutS {B H : Hp} {p q : Addr} (x : Xn B H) (hp : B p = none) (hq : B q = none) : Xn B (cutS H p q) := fun a o e n => cutS_l (x a o e n) n (ne_of_none e hp) (ne_of_none e hq)
section
variable {P : Program} {w : World} {K : PySem.W.Frag} {mg : Str → Option Value} {base : Heap} {C : Str} {nb : Nat}
/-! ### back -/
def spPb (K : PySem.W.Frag) (C : Str) {X : Type} (PB1 : X → Hp → Fl → List Jr → Prop) (PB2 : X → Hp → Fl → Prop) : Sp := fun vs H Q _ => ∃ (ix : X) (p dx b bk rows : Addr) (rest : Fl) (js : List Jr) (bx : List Int), vs = [.ref p, .ref rows] ∧ H p = some (.ins (He.ga K C) dx (rnF b bk rest)) ∧ H b = some (.lst (iV bx)) ∧ (∀ j ∈ js, JrOk bx.length j) ∧ TL H rows (js.map jrD) ∧ PB1 ix H rest js ∧
  ∀ (H' : Hp) (rest' : Fl), Fx K [p] H H' → H' p = some (.ins (He.ga K C) dx (rnF b bk rest')) → PB2 ix H' rest' → Q .non H'
def spBackR (K : PySem.W.Frag) (C : Str) {X : Type} (PB1 : X → Hp → Fl → List Jr → Prop) (PB2 : X → Hp → Fl → Prop) : Sp := fun vs H Q _ => ∃ (ix : X) (p dx b bk rows : Addr) (rest : Fl) (js : List Jr) (bx : List Int) (books : List V), vs = [.ref p] ∧ H p = some (.ins (He.ga K C) dx (rnF b bk rest)) ∧ H b = some (.lst (iV bx)) ∧ H bk = some (.lst (books ++ [.ref rows])) ∧ books ≠ [] ∧
  (∀ j ∈ js, JrOk bx.length j) ∧ TL H rows (js.map jrD) ∧ PB1 ix H rest js ∧ ∀ (H' : Hp) (b' bk' : Addr) (rest' : Fl) (r : Addr), Fx K [p] H H' → H' p = some (.ins (He.ga K C) dx (rnF b' bk' rest')) → H' b' = some (.lst (iV (undo js bx))) → H' bk' = some (.lst books) → b' ≠ bk' → H bk' = none → PB2 ix H' rest' → TL H' r (js.map jrD) → Q (.ref r) H'
theorem ok_back {X : Type} {PB1 : X → Hp → Fl → List Jr → Prop} {PB2 : X → Hp → Fl → Prop} (T : Tp K mg) (R : Rn K mg C) (F : ∃ fd, FunD K "back" "Runner.back" (defArgs s_Runner_back) (defBody s_Runner_back) (defScope s_Runner_back) [] [] (He.ma K (He.ga K C) "back") fd) (M : Meth K (He.ga K C) "back" (He.ma K (He.ga K C) "back"))
    (look : ∀ ix H rest js, PB1 ix H rest js → rest.lookup ("put_back" : Str) = none ∧ rest.length ≤ 10) (stay : ∀ ix H H' rest js, PB1 ix H rest js → (∀ a xs, H a = some (.lst xs) → H' a = some (.lst xs)) → PB1 ix H' rest js) (stay2 : ∀ ix H H' rest, PB2 ix H rest → Same H H' → PB2 ix H' rest)
    (G_put_back : GMt P w K mg base 3 (He.ga K C) "put_back" ["self", "rows"] (spPb K C PB1 PB2)) :
    GMt P w K mg base 4 (He.ga K C) "back" ["self"] (spBackR K C PB1 PB2) := by
  have G_undone : GFn P w K mg base 1 "undone" ["row", "boxes"] (spUndone K) := ok_undone T
  refine gmt R.cls M (mk_ok F sc_Runner_back (bn_Runner_back "Runner.back") (fun vs H Q E h => ?_) (fun cdv A outer s H vs Q E hr h => ?_))
  · obtain ⟨ix, p, dx, b, bk, rows, rest, js, bx, books, rfl, _⟩ := h
    rfl
  · obtain ⟨ix, p, dx, b, bk, rows, rest, js, bx, books, rfl, hp, hb, hbk, hne, hjs, ⟨xs, hrw, txs⟩, hpb, q⟩ := h
    refine ⟨_, (pss_cons (ps_if (pt_cmpR op_eq (pe_callB call_len_seq (by rfl) T.m_len PySem.boot_len (pa_cons (pe_fld (pv 0) rfl) pa_nil)) pe_int (nomark _))
        (pss_one ps_never)
        pss_nil)
      (pss_cons (ps_set (i := 1) sc_Runner_back.nd rfl (Or.inl rfl) (pe_ix ix_list (pe_fld (pv 0) rfl) (pe_un un_neg pe_int) (fun _ _ => rfl)))
      (pss_cons (ps_fld (pv 0) (pe_slice sl_list (pe_fld (pv 0) rfl) po_none (po_some (pe_un un_neg pe_int))) rfl)
      (pss_cons (ps_for PassesOwn.never rfl (pi_reversed (by rfl) T.m_reversed (pa_cons (pv 1) pa_nil)) (pg_name (i := 2) sc_Runner_back.nd rfl (Or.inl rfl))
        (pss_one (ps_fld (pv 0) (pe_g G_undone hr rfl (pa_cons (pv 2) (pa_cons (pe_fld (pv 0) rfl) pa_nil))) rfl)))
      (pss_cons (ps_expr (pe_gm G_put_back hr (pv 0) (pa_cons (pv 1) pa_nil)))
      (pss_one (ps_ret (pe_callTy call_list_of (by rfl) T.m_list (by decide +kernel) (pa_cons (pv 1) pa_nil))))))))), ?_⟩
    obtain ⟨l4, l5⟩ := look _ _ _ _ hpb
    have e1 : decide (V.int ((books ++ [V.ref rows]).length : Nat) = V.int 1) = false := by
      rw [dec_int']
      refine decide_eq_false ?_
      rw [List.length_append, List.length_singleton]
      have : books.length ≠ 0 := fun z => hne (List.eq_nil_of_length_eq_zero z)
      omega
    refine ⟨_, rfl, p, _, dx, _, _, rfl, hp, R.cls, R.nk, rfl, bk, _, rfl, .inl (SqL.of hbk), rfl, _, rfl, ?_⟩
    rw [e1]
    refine iteF ?_
    refine ⟨_, rfl, p, _, dx, _, _, rfl, hp, R.cls, R.nk, rfl, _, rfl, bk, _, _, _, rfl, rfl, SqL.of hbk, at_last, ?_⟩
    refine ⟨_, rfl, p, _, dx, _, _, rfl, hp, R.cls, R.nk, rfl, _, rfl, _, rfl, bk, _, rfl, SqL.of hbk, fun c nc => ?_⟩
    rw [cut_init]
    have s1 := same_upd (o := .lst books) nc
    have hp1 := s1 _ _ hp
    have cp : c ≠ p := (ne_of_none hp nc).symm
    have bp : b ≠ p := ne_of hb hp (by intro z; cases z)
    have rp : rows ≠ p := ne_of hrw hp (by intro z; cases z)
    have bc : b ≠ c := ne_of_none hb nc
    refine ⟨_, rfl, p, _, dx, _, rfl, hp1, R.cls, R.nk, by show rest.length + 2 < 1000; omega, ?_⟩
    have f1 : Fx K [p] H _ := (Fx.same s1).trans (Fx.ins (o := .ins (He.ga K C) dx (rnF b c rest)) hp1 List.mem_cons_self)
    have hc1 : (upd (upd H c (.lst books)) p (.ins (He.ga K C) dx (rnF b c rest))) c = some (.lst books) := by rw [upd_ne cp]; exact upd_same
    have hp2 : (upd (upd H c (.lst books)) p (.ins (He.ga K C) dx (rnF b c rest))) p = some (.ins (He.ga K C) dx (rnF b c rest)) := upd_same
    have hfx : ∀ (H' : Hp), Fx K [p] H H' → (∀ a ys, H a = some (.lst ys) → H' a = some (.lst ys)) := fun H' f a ys e => f.l e (n1 (ne_of e hp (by intro z; cases z)))
    refine ⟨_, rfl, rows, xs, rfl, SqL.of (hfx _ f1 _ _ hrw), for_it (walk_rev (K := K) (a := rows) (xs := xs)) (fun i σ H' => ∃ v2 bi, σ = [some (.ref p), some (.ref rows), v2] ∧ Fx K [p] H H' ∧ H' p = some (.ins (He.ga K C) dx (rnF bi c rest)) ∧ H' c = some (.lst books) ∧ bi ≠ c ∧
        H' bi = some (.lst (iV ((js.reverse.take i).foldl undo1 bx)))) ⟨none, b, rfl, f1, hp2, hc1, bc, hfx _ f1 _ _ hb⟩ (fun i σ H' _ ⟨_, _, _, f, _⟩ => SqL.of (hfx _ f _ _ hrw)) ?_ ?_⟩
    · rintro i v σ Hx H1 hi ⟨v2, bi, rfl, f, hpi, hci, nbc, hbi⟩ ⟨rfl, hv⟩
      have hxl : xs.length = js.length := by rw [txs.len, List.length_map]
      obtain ⟨pd, hpd, td⟩ := txs.get' hv
      rw [hxl] at hpd
      obtain ⟨j, hj, rfl⟩ := map_get hpd
      have hrev : js.reverse[i]? = some j := by
        rw [List.getElem?_reverse (by omega)]
        exact hj
      have ts : TS H H1 := f.ts fun x hx l z => by rw [List.mem_singleton.mp hx, hp] at z; cases z
      have okj := hjs j (List.mem_of_getElem? hj)
      refine ⟨_, rfl, _, rfl, p, _, dx, _, _, rfl, hpi, R.cls, R.nb, rfl, v, bi, j, (js.reverse.take i).foldl undo1 bx, rfl, TD.mono ts _ _ td, SqL.of hbi, by rw [undo_len]; exact okj, fun H2 d s2 nd hd => ?_⟩
      have hp3 := s2 _ _ hpi
      have dp : d ≠ p := (ne_of_none hpi nd).symm
      refine ⟨_, rfl, p, _, dx, _, rfl, hp3, R.cls, R.nb, by show rest.length + 2 < 1000; omega, ?_⟩
      refine ⟨_, d, rfl, f.trans ((Fx.same s2).trans (Fx.ins hp3 List.mem_cons_self)), upd_same, by rw [upd_ne cp]; exact s2 _ _ hci, (ne_of_none hci nd).symm, ?_⟩
      rw [upd_ne dp, hd, List.take_add_one, hrev, List.foldl_append]
      rfl
    · rintro σ H1 ⟨v2, bi, rfl, f, hpi, hci, nbc, hbi⟩
      have hxl : xs.length = js.reverse.length := by rw [txs.len, List.length_map, List.length_reverse]
      rw [hxl, List.take_length] at hbi
      have ts : TS H H1 := f.ts fun x hx l z => by rw [List.mem_singleton.mp hx, hp] at z; cases z
      refine ⟨_, rfl, p, dx, _, rfl, hpi, l4, _, rfl, ix, p, dx, bi, c, rows, rest, js, js.reverse.foldl undo1 bx, rfl, hpi, hbi, by rw [undo_len]; exact hjs, ⟨xs, hfx _ f _ _ hrw, TDs.mono ts _ _ txs⟩, stay _ _ _ _ _ hpb (hfx _ f), fun H2 rest' f2 hp3 hpb2 => ?_⟩
      have hrw2 := f2.l (hfx _ f _ _ hrw) (n1 rp)
      refine ⟨_, rfl, rows, _, rfl, .inl (SqL.of hrw2), fun r nr => ?_⟩
      have s3 := same_upd (o := .lst xs) nr
      have bip : bi ≠ p := ne_of hbi hpi (by intro z; cases z)
      have ts2 : TS H1 H2 := f2.ts fun x hx l z => by rw [List.mem_singleton.mp hx, hpi] at z; cases z
      exact q _ bi c rest' r ((f.trans f2).trans (Fx.same s3)) (s3 _ _ hp3) (s3 _ _ (f2.l hbi (n1 bip))) (s3 _ _ (f2.l hci (n1 cp))) nbc nc (stay2 _ _ _ _ hpb2 s3) ⟨xs, upd_same, TDs.mono (TS.trans ts (TS.trans ts2 (TS.of s3))) _ _ txs⟩
/-! ### the flat side -/
/-- a table, as a run needs it -/
structure FTab (K : PySem.W.Frag) (H : Hp) (t : Addr) (T : Tab) : Prop where
  ex : ∃ dx bx sg bg fl rw, H t = some (.ins (He.ga K "Table") dx (tbF bx sg bg fl rw)) ∧ RowsAt H rw T
theorem FTab.mono {H H' : Hp} {t : Addr} {T : Tab} (h : FTab K H t T) (s : Xn H H') : FTab K H' t T := by
  obtain ⟨dx, bx, sg, bg, fl, rw, h1, h2⟩ := h.ex
  exact ⟨dx, bx, sg, bg, fl, rw, xn_i s h1, h2.mono s⟩
theorem TabAt.f {H : Hp} {t : Addr} {T : Tab} {bl : List (Str × Int)} {beg : List Dd} (h : TabAt K H t T bl beg) : FTab K H t T := by
  obtain ⟨dx, bx, sg, bg, fl, rw, xs, h1, h2, h3, h4, h5, h6, h7⟩ := h.ex
  exact ⟨dx, bx, sg, bg, fl, rw, h1, h7⟩
abbrev rsV (t : Addr) (v : V) (bn : Addr) : Fl := [("table", .ref t), ("place", v), ("been", .ref bn)]
abbrev rsF (t : Addr) (pl : Nat) (bn : Addr) : Fl := [("table", .ref t), ("place", .int (pl : Nat)), ("been", .ref bn)]
structure IxF where
  m : Nat
  T : Tab
  t : Addr
  bn : Addr
  been : List Int
def SRF (K : PySem.W.Frag) (ix : IxF) : Hp → Hp → Fl → Nat → Prop := fun S _ r pl => r = rsF ix.t pl ix.bn ∧ FTab K S ix.t ix.T ∧ S ix.bn = some (.lst (iV ix.been)) ∧ TabOk ix.m ix.T
theorem giv_F {m : Nat} {T : Tab} (h : TabOk m T) : GivOk T.nf m (soF T) := ⟨fun pl bx s hp _ => by
  unfold soF
  by_cases hs : s ∈ T.heard
  · rw [if_pos hs]
    cases e : (T.rows pl s).find? fun r => allHold r.asks bx with
    | none => exact ⟨fun d hd => (by cases hd), Nat.zero_le _, hp⟩
    | some r =>
      have o := h.ro pl s r hp hs (List.mem_of_find?_eq_some e)
      exact ⟨o.2.2.1, Nat.le_trans o.2.2.2.2.2 (by decide), o.2.2.2.1⟩
  · rw [if_neg hs]
    exact ⟨fun d hd => (by cases hd), Nat.zero_le _, hp⟩⟩
theorem side_F : Side K (fun ix : IxF => soF ix.T) (fun ix => ix.T.nf) (fun ix => ix.m) (SRF K) := by
  refine ⟨fun ix S H r pl e => giv_F e.2.2.2, fun ix S H r pl e => ?_, fun ix S H H' r pl e _ _ _ => e⟩
  obtain ⟨rfl, _⟩ := e
  exact ⟨rfl, rfl, rfl, rfl, by show 3 ≤ 10; decide⟩
theorem find_hitR {α : Type} {l : List α} {k : Nat} {x : α} {f : α → Bool} (hx : l[k]? = some x) (h0 : (l.take k).find? f = none) (h1 : f x = true) : l.find? f = some x := by
  have hk : k < l.length := (List.getElem?_eq_some_iff.mp hx).1
  have e : l = l.take k ++ (x :: l.drop (k + 1)) := by
    rw [← (List.getElem?_eq_some_iff.mp hx).2, ← List.drop_eq_getElem_cons hk, List.take_append_drop]
  rw [e, List.find?_append, h0, List.find?_cons, h1]
  rfl
theorem find_missR {α : Type} {l : List α} {k : Nat} {x : α} {f : α → Bool} (hx : l[k]? = some x) (h0 : (l.take k).find? f = none) (h1 : f x = false) : (l.take (k + 1)).find? f = none := by
  rw [List.take_add_one, hx, List.find?_append, h0]
  show (List.find? f [x]) = none
  rw [List.find?_cons, h1]
  rfl
theorem ok_scriptF (T : Tp K mg) : GMt P w K mg base 8 (He.ga K "FlatRun") "script_of" ["self", "sign"] (spSo K "FlatRun" (fun ix : IxF => soF ix.T) (fun ix => ix.T.nf) (fun ix => ix.m) (SRF K)) := by
  have G_all_hold : GFn P w K mg base 3 "all_hold" ["asks", "boxes"] (spAllHold K) := ok_all_hold T
  refine gmt T.c_FlatRun T.h_FlatRun_script_of (mk_ok T.f_FlatRun_script_of sc_FlatRun_script_of (bn_FlatRun_script_of "FlatRun.script_of") (fun vs H Q E h => ?_) (fun cdv A outer s H vs Q E hr h => ?_))
  · obtain ⟨ix, S, p, dx, b, bk, rest, pl, bx, sg, rfl, _⟩ := h
    rfl
  · obtain ⟨⟨m, Tb, t, bn, been⟩, S, p, dx, b, bk, rest, pl, bx, sg, rfl, hp, hb, hbl, xn, Sp, ⟨rfl, hft, hbn, tok⟩, hpl, q⟩ := h
    dsimp only at hbl hft hbn tok hpl hp q
    refine ⟨_, (pss_cons (ps_for PassesOwn.never rfl (pi_list (pe_dget2 (hu_of hr) (pe_fld (pe_fld (pv 0) rfl) rfl) (pe_tup (pa_cons (pe_fld (pv 0) rfl) (pa_cons (pv 1) pa_nil))) (pe_lst pa_nil) ⟨rfl, rfl, rfl, rfl⟩)) (pg_name (i := 2) sc_FlatRun_script_of.nd rfl (Or.inl rfl))
        (pss_one (ps_if (pt_val (pe_g G_all_hold hr rfl (pa_cons (pe_ix ix_tup (pv 2) pe_int (fun _ _ => rfl)) (pa_cons (pe_fld (pv 0) rfl) pa_nil))))
          (pss_cons (ps_fld (pv 0) (pe_ix ix_tup (pv 2) pe_int (fun _ _ => rfl)) rfl)
          (pss_one (ps_ret (pe_ix ix_tup (pv 2) pe_int (fun _ _ => rfl)))))
          pss_nil)))
      (pss_one (ps_ret (pe_lst pa_nil)))), ?_⟩
    obtain ⟨dxt, bxa, sga, bga, fla, rwa, ht, kvs, hrw, hin, hout⟩ := (hft.mono xn).ex
    refine ⟨_, rfl, p, _, dx, _, _, rfl, hp, T.c_FlatRun, T.n_FlatRun_table, rfl, t, _, dxt, _, _, rfl, ht, T.c_Table, T.n_Table_rows, rfl, rwa, rfl, .inr ⟨kvs, .inl hrw⟩, ?_⟩
    refine ⟨_, rfl, p, _, dx, _, _, rfl, hp, T.c_FlatRun, T.n_FlatRun_place, rfl, _, rfl, by show 2 ≤ sizeLine; decide, fun ku nku => ⟨Nat.zero_le _, fun e ne => ?_⟩⟩
    have s1 := same_upd (o := .tup [.int (pl : Nat), .str sg]) nku
    have s2 := s1.trans (same_upd (o := .lst []) ne)
    have hku : (upd (upd H ku (.tup [.int (pl : Nat), .str sg])) e (.lst [])) ku = some (.tup ((rkey pl sg).map kV)) := (same_upd (o := .lst []) ne) _ _ upd_same
    refine ⟨valV kvs (rkey pl sg), DGet.t (s2 _ _ hrw) hku, ?_⟩
    have hso : soF Tb pl bx sg = (match (if sg ∈ Tb.heard then Tb.rows pl sg else []).find? fun r => allHold r.asks bx with
      | some r => (r.scr, r.nxt)
      | none => ([], pl)) := rfl
    by_cases hs : sg ∈ Tb.heard
    · obtain ⟨r, er, ys, hr1, tys⟩ := hin pl sg hpl hs
      rw [er]
      rw [if_pos hs] at hso
      refine ⟨r, rfl, ⟨_, SqL.of (s2 _ _ hr1)⟩, for_list (K := K) (a := r) (xs := ys) (fun i σ H' => ∃ v2, σ = [some (.ref p), some (.str sg), v2] ∧ Same H H' ∧ ((Tb.rows pl sg).take i).find? (fun r => allHold r.asks bx) = none) ⟨none, rfl, s2, rfl⟩ (fun i σ H' _ ⟨_, _, e, _⟩ => SqL.of (e _ _ hr1)) ?_ ?_⟩
      · rintro i y σ H' hy ⟨v2, rfl, sm, hmiss⟩
        obtain ⟨pd, hpd, td⟩ := tys.get' hy
        obtain ⟨rw, hrw', rfl⟩ := map_get hpd
        obtain ⟨f, x1, x2, x3, rfl, hf, t1, t2, t3⟩ := TD.t3 (TD.mono (TS.of sm) _ _ td)
        obtain rfl := TD.i t3
        have ro := tok.ro pl sg rw hpl hs (List.mem_of_getElem? hrw')
        refine ⟨_, rfl, f, _, _, _, rfl, rfl, SqT.of hf, rfl, _, rfl, p, _, dx, _, _, rfl, sm _ _ hp, T.c_FlatRun, T.n_FlatRun_boxes, rfl, x1, b, rw.asks, bx, rfl, t1, SqL.of (sm _ _ hb), by rw [hbl]; exact ro.1, _, rfl, ?_⟩
        cases hh : allHold rw.asks bx with
        | false => exact iteF ⟨_, rfl, sm, find_missR hrw' hmiss hh⟩
        | true =>
          have hp' := sm _ _ hp
          refine iteT ⟨_, rfl, f, _, _, _, rfl, rfl, SqT.of hf, rfl, _, rfl, p, _, dx, _, rfl, hp', T.c_FlatRun, T.n_FlatRun_place, by show 5 < 1000; decide, ?_⟩
          have fp : f ≠ p := ne_of hf hp' (by intro z; cases z)
          have f1 : Fx K [p] H _ := (Fx.same sm).trans (Fx.ins (o := .ins (He.ga K "FlatRun") dx (rnF b bk (rsF t rw.nxt bn))) hp' List.mem_cons_self)
          refine ⟨_, rfl, f, _, _, _, rfl, rfl, SqT.of (by rw [upd_ne fp]; exact hf), rfl, ?_⟩
          rw [find_hitR hrw' hmiss hh] at hso
          have hso : soF Tb pl bx sg = (rw.scr, rw.nxt) := hso
          rw [hso] at q
          obtain ⟨fa, zs, rfl, hfa, tz⟩ := TD.mono (kb_ts hp' kb_put) _ _ t2
          exact q _ _ (rsF t rw.nxt bn) f1 upd_same ⟨rfl, hft, hbn, tok⟩ ⟨fa, zs, rfl, .inl hfa, tz⟩
      · rintro σ H' ⟨v2, rfl, sm, hmiss⟩
        rw [tys.len, List.length_map, List.take_length] at hmiss
        rw [hmiss] at hso
        have hso : soF Tb pl bx sg = ([], pl) := hso
        rw [hso] at q
        refine ⟨Nat.zero_le _, fun z nz => ?_⟩
        have s3 := sm.trans (same_upd (o := .lst []) nz)
        exact q _ _ (rsF t pl bn) (Fx.same s3) (s3 _ _ hp) ⟨rfl, hft, hbn, tok⟩ ⟨z, [], rfl, .inr upd_same, TDs.nil⟩
    · rw [hout pl sg hs]
      rw [if_neg hs] at hso
      have hso : soF Tb pl bx sg = ([], pl) := hso
      rw [hso] at q
      refine ⟨e, rfl, ⟨_, SqL.of upd_same⟩, for_nil (SqL.of upd_same) ?_⟩
      refine ⟨Nat.zero_le _, fun z nz => ?_⟩
      have s3 := s2.trans (same_upd (o := .lst []) nz)
      exact q _ _ (rsF t pl bn) (Fx.same s3) (s3 _ _ hp) ⟨rfl, hft, hbn, tok⟩ ⟨z, [], rfl, .inr upd_same, TDs.nil⟩
/-- put_back of the flat run -/
structure IxB where
  t : Addr
  been : List Int
  q0 : Int
def PB1F (ix : IxB) : Hp → Fl → List Jr → Prop := fun H r _ => ∃ (v : V) (bn : Addr), r = rsV ix.t v bn ∧ H bn = some (.lst (iV (ix.been ++ [ix.q0])))
def PB2F (ix : IxB) : Hp → Fl → Prop := fun H r => ∃ (bn : Addr), r = rsV ix.t (.int ix.q0) bn ∧ H bn = some (.lst (iV ix.been))
theorem ok_putF (T : Tp K mg) : GMt P w K mg base 3 (He.ga K "FlatRun") "put_back" ["self", "rows"] (spPb K "FlatRun" PB1F PB2F) := by
  refine gmt T.c_FlatRun T.h_FlatRun_put_back (mk_ok T.f_FlatRun_put_back sc_FlatRun_put_back (bn_FlatRun_put_back "FlatRun.put_back") (fun vs H Q E h => ?_) (fun cdv A outer s H vs Q E hr h => ?_))
  · obtain ⟨ix, p, dx, b, bk, rows, rest, js, bx, rfl, _⟩ := h
    rfl
  · obtain ⟨⟨t, been, q0⟩, p, dx, b, bk, rows, rest, js, bx, rfl, hp, hb, hjs, hrw, ⟨v, bn, rfl, hbn⟩, q⟩ := h
    dsimp only at hbn hp q
    refine ⟨_, (pss_cons (ps_fld (pv 0) (pe_ix ix_list (pe_fld (pv 0) rfl) (pe_un un_neg pe_int) (fun _ _ => rfl)) rfl)
      (pss_one (ps_fld (pv 0) (pe_slice sl_list (pe_fld (pv 0) rfl) po_none (po_some (pe_un un_neg pe_int))) rfl))), ?_⟩
    have ea : iV (been ++ [q0]) = iV been ++ [.int q0] := by unfold iV; rw [List.map_append]; rfl
    rw [ea] at hbn
    have bnp : bn ≠ p := ne_of hbn hp (by intro z; cases z)
    refine ⟨_, rfl, p, _, dx, _, _, rfl, hp, T.c_FlatRun, T.n_FlatRun_been, rfl, _, rfl, bn, _, _, _, rfl, rfl, SqL.of hbn, at_last, _, rfl, p, _, dx, _, rfl, hp, T.c_FlatRun, T.n_FlatRun_place, by show 5 < 1000; decide, ?_⟩
    have hp1 : (upd H p (.ins (He.ga K "FlatRun") dx (rnF b bk (rsV t (.int q0) bn)))) p = some (.ins (He.ga K "FlatRun") dx (rnF b bk (rsV t (.int q0) bn))) := upd_same
    refine ⟨_, rfl, p, _, dx, _, _, rfl, hp1, T.c_FlatRun, T.n_FlatRun_been, rfl, _, rfl, _, rfl, bn, _, rfl, SqL.of (by rw [upd_ne bnp]; exact hbn), fun c nc => ?_⟩
    rw [cut_init]
    have cp : c ≠ p := (ne_of_none hp1 nc).symm
    have hp2 := same_upd (o := .lst (iV been)) nc _ _ hp1
    refine ⟨_, rfl, p, _, dx, _, rfl, hp2, T.c_FlatRun, T.n_FlatRun_been, by show 5 < 1000; decide, ?_⟩
    have f1 : Fx K [p] H _ := (Fx.ins (o := .ins (He.ga K "FlatRun") dx (rnF b bk (rsV t (.int q0) bn))) hp List.mem_cons_self).trans ((Fx.same (same_upd (o := .lst (iV been)) nc)).trans (Fx.ins (o := .ins (He.ga K "FlatRun") dx (rnF b bk (rsV t (.int q0) c))) hp2 List.mem_cons_self))
    exact q _ _ f1 upd_same ⟨c, rfl, by rw [upd_ne cp]; exact upd_same⟩
theorem pbF_look : ∀ ix H rest js, PB1F ix H rest js → rest.lookup ("put_back" : Str) = none ∧ rest.length ≤ 10 := fun ix H rest js ⟨v, bn, e, _⟩ => by
  rw [e]
  exact ⟨rfl, by show 3 ≤ 10; decide⟩
theorem pbF_stay : ∀ ix H H' rest js, PB1F ix H rest js → (∀ a xs, H a = some (.lst xs) → H' a = some (.lst xs)) → PB1F ix H' rest js := fun ix H H' rest js ⟨v, bn, e, h⟩ s => ⟨v, bn, e, s _ _ h⟩
theorem pbF_stay2 : ∀ ix H H' rest, PB2F ix H rest → Same H H' → PB2F ix H' rest := fun ix H H' rest ⟨bn, e, h⟩ s => ⟨bn, e, s _ _ h⟩
def spFlat (K : PySem.W.Frag) : Sp := fun vs H Q _ => ∃ (p dx b bk t bn : Addr) (pl : Nat), vs = [.ref p] ∧ H p = some (.ins (He.ga K "FlatRun") dx (rnF b bk (rsF t pl bn))) ∧ Q (.int (pl : Nat)) H
theorem ok_flat (T : Tp K mg) : GMt P w K mg base 1 (He.ga K "FlatRun") "flat" ["self"] (spFlat K) := by
  refine gmt T.c_FlatRun T.h_FlatRun_flat (mk_ok T.f_FlatRun_flat sc_FlatRun_flat (bn_FlatRun_flat "FlatRun.flat") (fun vs H Q E h => ?_) (fun cdv A outer s H vs Q E hr h => ?_))
  · obtain ⟨p, dx, b, bk, t, bn, pl, rfl, _⟩ := h
    rfl
  · obtain ⟨p, dx, b, bk, t, bn, pl, rfl, hp, q⟩ := h
    refine ⟨_, (pss_one (ps_ret (pe_fld (pv 0) rfl))), ?_⟩
    exact ⟨_, rfl, p, _, dx, _, _, rfl, hp, T.c_FlatRun, T.n_FlatRun_place, rfl, q⟩
end
end K56
set_option Elab.async false
set_option linter.all false
set_option maxRecDepth 100000
set_option maxHeartbeats 4000000
namespace K56
open PySem PySem.Spec PyProof.Rows L2
/-- what the beginning of a run deals -/
def begD (so : Giver) (ds : List Dd) (bx : List Int) : Nat × List Int × List Jr := deal so 0 (perf ds bx).1 (perf ds bx).2.1 (perf ds bx).2.2
abbrev gvF : IxF → Giver := fun ix => soF ix.T
abbrev nfF : IxF → Nat := fun ix => ix.T.nf
abbrev nbF : IxF → Nat := fun ix => ix.m
section
variable {P : Program} {w : World} {K : PySem.W.Frag} {mg : Str → Option Value} {base : Heap}
theorem F_do (T : Tp K mg) : GMt P w K mg base 4 (He.ga K "FlatRun") "do_script" ["self", "script", "rows"] (spDo K "FlatRun") := ok_do T T.rnF T.f_FlatRun_do_script T.h_FlatRun_do_script
theorem F_deal (T : Tp K mg) : GMt P w K mg base 9 (He.ga K "FlatRun") "deal" ["self", "rows", "waiting"] (spDeal K "FlatRun" gvF nfF nbF (SRF K)) :=
  ok_deal T T.rnF T.f_FlatRun_deal T.h_FlatRun_deal side_F (F_do T) (ok_scriptF T)
theorem F_begin (T : Tp K mg) : GMt P w K mg base 10 (He.ga K "FlatRun") "begin_with" ["self", "script"] (spBegin K "FlatRun" gvF nfF nbF (SRF K)) :=
  ok_begin T T.rnF T.f_FlatRun_begin_with T.h_FlatRun_begin_with side_F (F_do T) (F_deal T)
theorem F_rfeed (T : Tp K mg) : GCl P w K mg base 10 (He.ga K "Runner") "feed" ["self", "sign"] (spFeed K "FlatRun" gvF nfF nbF (SRF K)) :=
  gcl T T.rcls.2 (ok_feed T T.rnF T.f_Runner_feed side_F (F_deal T))
theorem F_back (T : Tp K mg) : GMt P w K mg base 4 (He.ga K "FlatRun") "back" ["self"] (spBackR K "FlatRun" PB1F PB2F) :=
  ok_back T T.rnF T.f_FlatRun_back T.h_FlatRun_back pbF_look pbF_stay pbF_stay2 (ok_putF T)
/-! ### a flat run is made -/
def spInitF (K : PySem.W.Frag) : Sp := fun vs H Q _ => ∃ (B : Hp) (p dx t : Addr) (bl : List (Str × Int)) (beg : List Dd) (Tb : Tab), vs = [.ref p, .ref t] ∧ H p = some (.ins (He.ga K "FlatRun") dx []) ∧ Same B H ∧ B p = none ∧ TabAt K B t Tb bl beg ∧ TabOk bl.length Tb ∧ DdsOk bl.length beg ∧ beg.length ≤ 12 ∧ bl.length ≤ 1000 ∧
  ∀ dl : Nat × List Int × List Jr, begD (soF Tb) beg (bl.map (·.2)) = dl → ∀ (H' : Hp) (b bk bn rows : Addr), Fx K [p] H H' → H' p = some (.ins (He.ga K "FlatRun") dx (rnF b bk (rsF t dl.1 bn))) → H' b = some (.lst (iV dl.2.1)) → b ≠ bk → H' bk = some (.lst [.ref rows]) →
    TL H' rows (dl.2.2.map jrD) → H' bn = some (.lst []) → H bk = none → Q .non H'
theorem ok_initF (T : Tp K mg) : GMk P w K mg base 11 "FlatRun" (He.ga K "FlatRun") ["self", "table"] (spInitF K) := by
  have G_Runner_init : GCl P w K mg base 1 (He.ga K "Runner") "__init__" ["self", "numbers"] (spRInit K "FlatRun") := ok_rinit T T.rnF
  have G_begin_with : GMt P w K mg base 10 (He.ga K "FlatRun") "begin_with" ["self", "script"] (spBegin K "FlatRun" gvF nfF nbF (SRF K)) := F_begin T
  refine gmk T.g_FlatRun T.k_FlatRun (mk_ok T.f_FlatRun_init sc_FlatRun_init (bn_FlatRun_init "FlatRun.__init__") (fun vs H Q E h => ?_) (fun cdv A outer s H vs Q E hr h => ?_))
  · obtain ⟨B, p, dx, t, bl, beg, Tb, rfl, _⟩ := h
    rfl
  · obtain ⟨B, p, dx, t, bl, beg, Tb, rfl, hp, sB, Bp, htab, tok, hdo, hdl, hbl, q⟩ := h
    refine ⟨_, (pss_cons (ps_expr (pe_gc G_Runner_init hr (pe_glob (v := .ref (He.ga K "Runner")) rfl T.g_Runner rfl) (pa_cons (pv 0) (pa_cons (pe_lc (own := [("box", 2)]) (g := gName 2) (tt := tYes) rfl sc_FlatRun_init.nd (pi_list (pe_fld (pv 1) rfl)) (blkOk_by (own := [("box", 2)]) (N := ["self", "table", "box"]) (sc := defScope s_FlatRun_init) (by decide +kernel)) (fun _ _ _ _ _ => pg_name (i := 2) sc_FlatRun_init.nd rfl (Or.inl rfl)) (fun _ _ _ _ _ => pts_nil) (fun _ _ _ _ _ => (pe_ix (ix_tupK (K := K)) (pv 2) pe_int (fun _ _ => rfl)))) pa_nil))))
      (pss_cons (ps_fld (pv 0) (pv 1) rfl)
      (pss_cons (ps_fld (pv 0) pe_int rfl)
      (pss_cons (ps_fld (pv 0) (pe_lst pa_nil) rfl)
      (pss_one (ps_expr (pe_gm G_begin_with hr (pv 0) (pa_cons (pe_fld (pv 1) rfl) pa_nil)))))))), ?_⟩
    obtain ⟨dxt, bxa, sga, bga, fla, rwa, fls, ht0, ⟨xs, hbx0, txs0⟩, hsg, hbg0, hfl, hfn, hro⟩ := htab.ex
    have ht := sB _ _ ht0
    have tp : t ≠ p := ne_of_none ht0 Bp
    have txs := TDs.mono (TS.of sB) _ _ txs0
    have hbx := sB _ _ hbx0
    refine ⟨rfl, _, rfl, _, rfl, t, _, dxt, _, _, rfl, ht, T.c_Table, T.n_Table_boxes, rfl, bxa, rfl, ⟨_, SqL.of hbx⟩, fun D hD => lc_list (K := K) (a := bxa) (xs := xs) (fun i H' => Same H H' ∧ H' D = some (.lst (iV ((bl.take i).map (·.2))))) ⟨same_upd hD, upd_same⟩ (fun i H' _ p => SqL.of (p.1 _ _ hbx)) ?_ ?_⟩
    · rintro i y H' hy ⟨sm, hl⟩
      obtain ⟨pd, hpd, td⟩ := txs.get' hy
      obtain ⟨d, hd, rfl⟩ := map_get hpd
      obtain ⟨f, x1, x2, rfl, hf, _, e2⟩ := TD.t2 (TD.mono (TS.of sm) _ _ td)
      obtain rfl := TD.i e2
      refine ⟨rfl, _, rfl, f, _, _, _, rfl, rfl, SqT.of hf, rfl, _, hl, ?_, same_put sm hD, ?_⟩
      · unfold iV
        rw [List.length_map, List.length_map, List.length_take]
        exact small1000 (by omega)
      · rw [upd_same, List.take_add_one, hd]
        unfold iV
        rw [List.map_append, List.map_append]
        rfl
    · rintro H1 ⟨sm, hl⟩
      rw [txs.len, List.length_map, List.take_length] at hl
      refine ⟨p, dx, D, bl.map (·.2), rfl, sm _ _ hp, hl, fun H2 b bk f2 hp2 hb2 hbk2 nbk nb1 nbk1 => ?_⟩
      have bp : b ≠ p := ne_of hb2 hp2 (by intro z; cases z)
      have pbk : bk ≠ p := ne_of hbk2 hp2 (by intro z; cases z)
      refine ⟨_, rfl, _, rfl, p, _, dx, _, rfl, hp2, T.c_FlatRun, T.n_FlatRun_table, by show 2 < 1000; decide, ?_⟩
      refine ⟨_, rfl, p, _, dx, _, rfl, upd_same, T.c_FlatRun, T.n_FlatRun_place, by show 3 < 1000; decide, ?_⟩
      rw [upd_upd]
      refine ⟨Nat.zero_le _, fun bn nbn => ?_⟩
      have f3 : Fx K [p] H2 (upd H2 p (.ins (He.ga K "FlatRun") dx (rnF b bk [("table", .ref t), ("place", .int 0)]))) := Fx.ins hp2 List.mem_cons_self
      have hp3 : (upd H2 p (.ins (He.ga K "FlatRun") dx (rnF b bk [("table", .ref t), ("place", .int 0)]))) p = some (.ins (He.ga K "FlatRun") dx (rnF b bk [("table", .ref t), ("place", .int 0)])) := upd_same
      have hbk3 := f3.l hbk2 (n1 pbk)
      have hb3 := f3.l hb2 (n1 bp)
      have bnp : bn ≠ p := (ne_of_none hp3 nbn).symm
      have bnk : bn ≠ bk := (ne_of_none hbk3 nbn).symm
      have s4 := same_upd (o := .lst []) nbn
      refine ⟨_, rfl, p, _, dx, _, rfl, s4 _ _ hp3, T.c_FlatRun, T.n_FlatRun_been, by show 4 < 1000; decide, ?_⟩
      have f45 : Fx K [p] _ _ := Fx.ins (K := K) (xs := [p]) (o := .ins (He.ga K "FlatRun") dx (putF "been" (.ref bn) (rnF b bk [("table", .ref t), ("place", .int 0)]))) (s4 _ _ hp3) List.mem_cons_self
      have f5 : Fx K [p] H2 _ := f3.trans ((Fx.same s4).trans f45)
      have f05 : Fx K [p] H _ := (Fx.same sm).trans (f2.trans f5)
      have hbn5 := f45.l upd_same (n1 bnp)
      have hb5 := f5.l hb2 (n1 bp)
      have hbk5 := f5.l hbk2 (n1 pbk)
      have xB := f05.xn (xn_of sB) (s1_ Bp)
      have Bbk : B bk = none := sB.free (sm.free nbk1)
      have ht5 := xB _ _ ht0 (fun ps z => nomatch z)
      have hbg5 := TD.mono (xn_ts xB) _ _ hbg0
      obtain ⟨ga, gs, eg, hga, tgs⟩ := hbg5
      cases eg
      refine ⟨_, rfl, p, dx, _, rfl, upd_same, rfl, _, rfl, t, _, dxt, _, _, rfl, ht5, T.c_Table, T.n_Table_begin, rfl, ?_⟩
      refine ⟨⟨bl.length, Tb, t, bn, []⟩, cutS _ p bk, p, dx, b, bk, rsF t 0 bn, .ref bga, 0, beg, bl.map (fun (z : Str × Int) => z.2), rfl, upd_same, hb5, hbk5, nbk, cutS_nt, cutS_xn, cutS_p, cutS_q, ⟨rfl, htab.f.mono (xn_cutS xB Bp Bbk), cutS_l hbn5 (fun _ z => nomatch z) bnp bnk, tok⟩, tok.nf.1, by show (bl.map (·.2)).length = bl.length; rw [List.length_map], hbl, ⟨_, _, rfl, .inl hga, tgs⟩, hdo, hdl, fun dl edl H6 b' rest' rows f6 hp6 hb6 nb6 hbk6 hr6 sr6 xn6 => ?_⟩
      obtain ⟨rfl, _, hbn6, _⟩ := sr6
      dsimp only at hbn6 hp6 hb6 hr6
      have f6' : Fx K [bk, p] _ H6 := f6.mono fun x hx => by
        rcases List.mem_cons.mp hx with z | hx
        · rw [z]; exact List.mem_cons_of_mem _ List.mem_cons_self
        · rw [List.mem_singleton.mp hx]; exact List.mem_cons_self
      exact q dl edl H6 b' bk bn rows (Fx.drop f05 f6' (sm.free nbk1)) hp6 hb6 nb6 hbk6 hr6 (xn_l xn6 hbn6) (sm.free nbk1)
/-! ### a flat run is fed -/
def spFeedF (K : PySem.W.Frag) : Sp := fun vs H Q _ => ∃ (B : Hp) (Tb : Tab) (p dx b bk t bn : Addr) (pl : Nat) (been bx : List Int) (sg : Str) (books : List V), vs = [.ref p, .str sg] ∧ H p = some (.ins (He.ga K "FlatRun") dx (rnF b bk (rsF t pl bn))) ∧ H b = some (.lst (iV bx)) ∧ H bk = some (.lst books) ∧ b ≠ bk ∧
  Xn B H ∧ B p = none ∧ B bk = none ∧ FTab K B t Tb ∧ TabOk bx.length Tb ∧ H bn = some (.lst (iV been)) ∧ pl < Tb.nf ∧ been.length ≤ 500 ∧ bx.length ≤ 1000 ∧ books.length ≤ 500 ∧ NoInt H bk ∧ PyData.strOk sg = true ∧
  ∀ dl : Nat × List Int × List Jr, deal (soF Tb) pl bx [] [sg] = dl → ∀ (H' : Hp) (b' bn' rows r : Addr), Fx K [p, bk] H H' → H' p = some (.ins (He.ga K "FlatRun") dx (rnF b' bk (rsF t dl.1 bn'))) → H' b' = some (.lst (iV dl.2.1)) → b' ≠ bk → H' bk = some (.lst (books ++ [.ref rows])) →
    TL H' rows (dl.2.2.map jrD) → TL H' r (dl.2.2.map jrD) → H' bn' = some (.lst (iV (been ++ [(pl : Int)]))) → Q (.ref r) H'
theorem ok_feedF (T : Tp K mg) : GMt P w K mg base 11 (He.ga K "FlatRun") "feed" ["self", "sign"] (spFeedF K) := by
  have G_Runner_feed : GCl P w K mg base 10 (He.ga K "Runner") "feed" ["self", "sign"] (spFeed K "FlatRun" gvF nfF nbF (SRF K)) := F_rfeed T
  refine gmt T.c_FlatRun T.h_FlatRun_feed (mk_ok T.f_FlatRun_feed sc_FlatRun_feed (bn_FlatRun_feed "FlatRun.feed") (fun vs H Q E h => ?_) (fun cdv A outer s H vs Q E hr h => ?_))
  · obtain ⟨B, Tb, p, dx, b, bk, t, bn, pl, been, bx, sg, books, rfl, _⟩ := h
    rfl
  · obtain ⟨B, Tb, p, dx, b, bk, t, bn, pl, been, bx, sg, books, rfl, hp, hb, hbk, nbk, xB, Bp, Bbk, hft, tok, hbn, hpl, hbe, hbl, hbol, hni, hsg, q⟩ := h
    refine ⟨_, (pss_cons (ps_fld (pv 0) (pe_op op_cat (pe_fld (pv 0) rfl) (pe_lst (pa_cons (pe_fld (pv 0) rfl) pa_nil))) rfl)
      (pss_one (ps_ret (pe_gc G_Runner_feed hr (pe_glob (v := .ref (He.ga K "Runner")) rfl T.g_Runner rfl) (pa_cons (pv 0) (pa_cons (pv 1) pa_nil)))))), ?_⟩
    refine ⟨_, rfl, p, _, dx, _, _, rfl, hp, T.c_FlatRun, T.n_FlatRun_been, rfl, _, rfl, p, _, dx, _, _, rfl, hp, T.c_FlatRun, T.n_FlatRun_place, rfl, by show 1 ≤ sizeLine; decide, fun l nl => ?_⟩
    have s1 := same_upd (o := .lst [.int (pl : Nat)]) nl
    refine ⟨bn, l, _, _, rfl, rfl, s1 _ _ hbn, upd_same, len1000 (by unfold iV; rw [List.length_map]; show been.length + 1 ≤ 1000; omega), fun d nd => ?_⟩
    have e1 : iV been ++ [V.int (pl : Nat)] = iV (been ++ [(pl : Int)]) := by unfold iV; rw [List.map_append]; rfl
    rw [e1]
    have s2 := s1.trans (same_upd (o := .lst (iV (been ++ [(pl : Int)]))) nd)
    have hp2 := s2 _ _ hp
    refine ⟨_, rfl, p, _, dx, _, rfl, hp2, T.c_FlatRun, T.n_FlatRun_been, by show 5 < 1000; decide, ?_⟩
    have f23 : Fx K [p] _ _ := Fx.ins (K := K) (xs := [p]) (o := .ins (He.ga K "FlatRun") dx (rnF b bk (rsF t pl d))) hp2 List.mem_cons_self
    have f3 : Fx K [p] H _ := (Fx.same s2).trans f23
    have bp : b ≠ p := ne_of hb hp (by intro z; cases z)
    have pbk : bk ≠ p := ne_of hbk hp (by intro z; cases z)
    have dp : d ≠ p := (ne_of_none (s1 _ _ hp) nd).symm
    have dbk : d ≠ bk := (ne_of_none (s1 _ _ hbk) nd).symm
    have hd3 := f23.l upd_same (n1 dp)
    have xB3 := f3.xn xB (s1_ Bp)
    have hbk3 := f3.l hbk (n1 pbk)
    refine ⟨rfl, _, rfl, _, rfl, ⟨bx.length, Tb, t, d, been ++ [(pl : Int)]⟩, cutS _ p bk, p, dx, b, bk, rsF t pl d, pl, bx, sg, books, rfl, upd_same, f3.l hb (n1 bp), hbk3, nbk, cutS_nt, cutS_xn, cutS_p, cutS_q, ⟨rfl, hft.mono (xn_cutS xB3 Bp Bbk), cutS_l hd3 (fun _ z => nomatch z) dp dbk, tok⟩, hpl, rfl, hbl, hbol, (fun i zs z => hni i zs (hbk.trans (hbk3.symm.trans z))), hsg, fun dl edl H4 b' rest' rows r f4 hp4 hb4 nb4 hbk4 hr4 hrr4 sr4 xn4 => ?_⟩
    obtain ⟨rfl, _, hbn4, _⟩ := sr4
    dsimp only at hbn4 hp4 hb4 hr4 hrr4
    have f34 : Fx K [p, bk] H H4 := (f3.mono fun x hx => by rw [List.mem_singleton.mp hx]; exact List.mem_cons_self).trans f4
    exact q dl edl H4 b' d rows r f34 hp4 hb4 nb4 hbk4 hr4 hrr4 (xn_l xn4 hbn4)
end
end K56
set_option Elab.async false
set_option linter.all false
set_option maxRecDepth 100000
set_option maxHeartbeats 4000000
namespace K56
open PySem PySem.Spec PyProof.Rows L2
structure IxN where
  n : Nat
  m : Nat
  bl : List (Str × Int)
  beg : List Dd
  ws : List Wy
  c : Addr
abbrev rsN (c o mm : Addr) : Fl := [("chart", .ref c), ("opens", .ref o), ("mind", .ref mm)]
def SRN (K : PySem.W.Frag) (ix : IxN) : Hp → Hp → Fl → Nat → Prop := fun S H r pl => ∃ (o mm : Addr) (ml : List Int), r = rsN ix.c o mm ∧ ChartAt K S ix.c ix.n ix.bl ix.beg ix.ws ∧ WaysOk ix.n ix.m ix.ws ∧ ix.beg.length ≤ 100 ∧ H o = some (.lst (iV [0, ((pl + 1 : Nat) : Int)])) ∧ ml ≠ [] ∧ H mm = some (.lst (iV ml)) ∧ LamX.Tabs (TT K) H
abbrev gvN : IxN → Giver := fun ix => soN ix.ws
abbrev nfN : IxN → Nat := fun ix => ix.n
abbrev nbN : IxN → Nat := fun ix => ix.m
theorem intl_iV {H H' : Hp} {a : Addr} {ml : List Int} (f : IntL H H') (h : H a = some (.lst (iV ml))) (n : ml ≠ []) : H' a = some (.lst (iV ml)) := by
  cases ml with
  | nil => exact absurd rfl n
  | cons i ml => exact f a i (iV ml) h
theorem pick_some {ws : List Wy} {p : Nat} {bx : List Int} {s : Str} {j : Nat} (h : pick ws p bx s = some j) : ∃ w, ws[j]? = some w := by
  rcases pick_find ws p bx s with ⟨e, _⟩ | ⟨k, w, e, e2, _⟩
  · rw [h] at e; cases e
  · rw [h] at e; cases e; exact ⟨w, e2⟩
theorem giv_N {n m : Nat} {ws : List Wy} (h : WaysOk n m ws) : GivOk n m (soN ws) := ⟨fun pl bx s hp _ => by
  unfold soN
  cases e : pick ws pl bx s with
  | none => exact ⟨fun d hd => (by cases hd), Nat.zero_le _, hp⟩
  | some j =>
    obtain ⟨y, hy⟩ := pick_some e
    have o := h.ok y (List.mem_of_getElem? hy)
    have o8 : y.deeds.length ≤ 3 := o.2.2.2.2.2.2.2.1
    dsimp only
    rw [hy]
    refine ⟨fun d hd => ?_, ?_, ?_⟩
    · rcases List.mem_cons.mp hd with z | hd
      · rw [z]; exact True.intro
      · rcases List.mem_cons.mp hd with z | hd
        · rw [z]; exact True.intro
        · rcases List.mem_append.mp hd with hd | hd
          · exact o.2.2.2.2.2.2.1 d hd
          · rw [List.mem_singleton.mp hd]; exact True.intro
    · show (scrN j pl y).length ≤ 12
      unfold scrN
      rw [List.length_cons, List.length_cons, List.length_append, List.length_singleton]
      omega
    · show y.tgt - 1 < n
      have := o.2.2.1
      have := o.2.2.2.1
      omega⟩
theorem mv_some {p j : Nat} {beg : List Dd} {y : Wy} (h : 1 ≤ y.tgt) : mvS p beg [(j, y)] = scrN j p y := by
  unfold mvS scrN outS wayS entS insOf
  simp
  omega
section
variable {P : Program} {w : World} {K : PySem.W.Frag} {mg : Str → Option Value} {base : Heap}
theorem side_N : Side K gvN nfN nbN (SRN K) := by
  refine ⟨fun ix S H r pl ⟨_, _, _, _, _, h, _⟩ => giv_N h, fun ix S H r pl e => ?_, fun ix S H H' r pl e xn il tb => ?_⟩
  · obtain ⟨o, mm, ml, rfl, _⟩ := e
    exact ⟨rfl, rfl, rfl, rfl, by show 3 ≤ 10; decide⟩
  · obtain ⟨o, mm, ml, rfl, hc, hw, hb, ho, hml, hmm, ht⟩ := e
    exact ⟨o, mm, ml, rfl, hc, hw, hb, intl_iV il ho (by simp), hml, intl_iV il hmm hml, tb ht⟩
theorem ok_scriptN (T : Tp K mg) (TB : LamX.TabB base mg (kC K) (kP K)) : GMt P w K mg base 8 (He.ga K "NestRun") "script_of" ["self", "sign"] (spSo K "NestRun" gvN nfN nbN (SRN K)) := by
  have G_kept : GFn P w K mg base 7 "kept" ["chart", "found"] (spKept K) := ok_kept T TB
  have G_picks : GFn P w K mg base 4 "picks" ["chart", "opens", "boxes", "sign"] (spPicks K) := ok_picks T
  have G_moved : GFn P w K mg base 4 "moved" ["chart", "opens", "memory", "ways"] (spMoved K) := ok_moved T
  refine gmt T.c_NestRun T.h_NestRun_script_of (mk_ok T.f_NestRun_script_of sc_NestRun_script_of (bn_NestRun_script_of "NestRun.script_of") (fun vs H Q E h => ?_) (fun cdv A outer s H vs Q E hr h => ?_))
  · obtain ⟨ix, S, p, dx, b, bk, rest, pl, bx, sg, rfl, _⟩ := h
    rfl
  · obtain ⟨⟨n, m, bl, beg, ws, c⟩, S, p, dx, b, bk, rest, pl, bx, sg, rfl, hp, hb, hbl, xn, Sp, ⟨o, mm, ml, rfl, hcS, hw, hbg, ho, hml, hmm, ht⟩, hpl, q⟩ := h
    dsimp only at hp hbl hcS hw hbg hpl q
    subst hbl
    refine ⟨_, (pss_cons (ps_set (i := 2) sc_NestRun_script_of.nd rfl (Or.inl rfl) (pe_g G_kept hr rfl (pa_cons (pe_fld (pv 0) rfl) (pa_cons (pe_g G_picks hr rfl (pa_cons (pe_fld (pv 0) rfl) (pa_cons (pe_fld (pv 0) rfl) (pa_cons (pe_fld (pv 0) rfl) (pa_cons (pv 1) pa_nil))))) pa_nil))))
      (pss_cons (ps_set (i := 3) sc_NestRun_script_of.nd rfl (Or.inl rfl) (pe_g G_moved hr rfl (pa_cons (pe_fld (pv 0) rfl) (pa_cons (pe_fld (pv 0) rfl) (pa_cons (pe_fld (pv 0) rfl) (pa_cons (pv 2) pa_nil))))))
      (pss_cons (ps_fld (pv 0) (pe_ix ix_tup (pv 3) pe_int (fun _ _ => rfl)) rfl)
      (pss_cons (ps_fld (pv 0) (pe_ix ix_tup (pv 3) pe_int (fun _ _ => rfl)) rfl)
      (pss_one (ps_ret (pe_ix ix_tup (pv 3) pe_int (fun _ _ => rfl)))))))), ?_⟩
    have hc := hcS.mono xn
    refine ⟨_, rfl, p, _, dx, _, _, rfl, hp, T.c_NestRun, T.n_NestRun_chart, rfl, _, rfl, p, _, dx, _, _, rfl, hp, T.c_NestRun, T.n_NestRun_chart, rfl, _, rfl, p, _, dx, _, _, rfl, hp, T.c_NestRun, T.n_NestRun_opens, rfl, _, rfl, p, _, dx, _, _, rfl, hp, T.c_NestRun, T.n_NestRun_boxes, rfl, _, rfl,
      c, o, b, n, pl, sg, bl, beg, ws, bx, rfl, hc, hw, hpl, ho, hb, fun H1 r s1 nr hr1 => ?_⟩
    have f1 : Fx K [p] H H1 := Fx.same s1
    obtain ⟨ps, hps, hpm, hpw, hres⟩ : ∃ ps : List (Nat × Wy), ps.length ≤ 1 ∧ ps.map (·.1) = (pick ws pl bx sg).toList ∧ (∀ x ∈ ps, ws[x.1]? = some x.2) ∧ soN ws pl bx sg = (mvS pl beg ps, mvP pl ps - 1) := by
      unfold soN
      cases e : pick ws pl bx sg with
      | none => exact ⟨[], by decide, rfl, (fun x hx => by cases hx), rfl⟩
      | some j =>
        obtain ⟨y, hy⟩ := pick_some e
        have o3 := (hw.ok y (List.mem_of_getElem? hy)).2.2.1
        refine ⟨[(j, y)], by show 1 ≤ 1; decide, rfl, (fun x hx => by rw [List.mem_singleton.mp hx]; exact hy), ?_⟩
        dsimp only
        rw [hy, mv_some o3]
        rfl
    have hpl1 : (pick ws pl bx sg).toList.length ≤ 1 := by rw [← hpm, List.length_map]; exact hps
    refine ⟨c, r, n, bx.length, bl, beg, ws, (pick ws pl bx sg).toList, rfl, hc.mono (xn_of s1), hw, hr1, hpl1, (fun j hj => ?_), tabs_xn ht s1, fun H2 r2 x2 t2 hr2 => ?_⟩
    · have e : pick ws pl bx sg = some j := by
        cases e : pick ws pl bx sg with
        | none => rw [e] at hj; cases hj
        | some k => rw [e] at hj; rw [List.mem_singleton.mp hj]
      obtain ⟨y, hy⟩ := pick_some e
      exact (List.getElem?_eq_some_iff.mp hy).1
    rw [← hpm] at hr2
    have f2 : Fx K [p] H1 H2 := ⟨fun a u e _ k => x2 a u e k, fun _ => t2⟩
    have hp2 := xn_i x2 (s1 _ _ hp)
    have ho2 := xn_l x2 (s1 _ _ ho)
    have hmm2 := xn_l x2 (s1 _ _ hmm)
    refine ⟨_, rfl, p, _, dx, _, _, rfl, hp2, T.c_NestRun, T.n_NestRun_chart, rfl, _, rfl, p, _, dx, _, _, rfl, hp2, T.c_NestRun, T.n_NestRun_opens, rfl, _, rfl, p, _, dx, _, _, rfl, hp2, T.c_NestRun, T.n_NestRun_mind, rfl, _, rfl,
      c, o, mm, r2, n, bx.length, pl, bl, beg, ws, iV ml, ps, rfl, (hc.mono (xn_of s1)).mono x2, hw, hpl, hbg, ho2, hmm2, hps, hpw, hr2, fun H3 qq sc o' b' s3 hq no nb ⟨xs, hsc, txs⟩ ho' hb' => ?_⟩
    have hp3 := s3 _ _ hp2
    have qp : qq ≠ p := ne_of hq hp3 (by intro z; cases z)
    have op : o' ≠ p := ne_of ho' hp3 (by intro z; cases z)
    have bp : b' ≠ p := ne_of hb' hp3 (by intro z; cases z)
    have sp : sc ≠ p := ne_of hsc hp3 (by intro z; cases z)
    refine ⟨_, rfl, qq, _, _, _, rfl, rfl, SqT.of hq, rfl, _, rfl, p, _, dx, _, rfl, hp3, T.c_NestRun, T.n_NestRun_opens, by show 5 < 1000; decide, ?_⟩
    refine ⟨_, rfl, qq, _, _, _, rfl, rfl, SqT.of (by rw [upd_ne qp]; exact hq), rfl, _, rfl, p, _, dx, _, rfl, upd_same, T.c_NestRun, T.n_NestRun_mind, by show 5 < 1000; decide, ?_⟩
    rw [upd_upd]
    refine ⟨_, rfl, qq, _, _, _, rfl, rfl, SqT.of (by rw [upd_ne qp]; exact hq), rfl, ?_⟩
    have f4 : Fx K [p] H3 (upd H3 p (.ins (He.ga K "NestRun") dx (rnF b bk (rsN c o' b')))) := Fx.ins hp3 List.mem_cons_self
    have fa : Fx K [p] H _ := (f1.trans f2).trans ((Fx.same s3).trans f4)
    dsimp only [gvN] at q
    rw [hres] at q
    refine q _ _ (rsN c o' b') fa upd_same ⟨o', b', ml, rfl, hcS, hw, hbg, ?_, hml, by rw [upd_ne bp]; exact hb', fa.tabs ht⟩ ⟨sc, xs, rfl, .inr (by rw [upd_ne sp]; exact hsc), TDs.mono (kb_ts hp3 kb_put) _ _ txs⟩
    have e : ((mvP pl ps - 1 + 1 : Nat) : Int) = ((mvP pl ps : Nat) : Int) := by
      have : 1 ≤ mvP pl ps := by
        match ps, hps, hpw with
        | [], _, _ => exact Nat.succ_le_succ (Nat.zero_le _)
        | [x], _, hpw => exact (hw.ok x.2 (List.mem_of_getElem? (hpw x List.mem_cons_self))).2.2.1
        | _ :: _ :: _, h, _ => simp at h
      omega
    show upd H3 p _ o' = some (.lst (iV [0, ((mvP pl ps - 1 + 1 : Nat) : Int)]))
    rw [e, upd_ne op]
    exact ho'
theorem N_do (T : Tp K mg) : GMt P w K mg base 4 (He.ga K "NestRun") "do_script" ["self", "script", "rows"] (spDo K "NestRun") := ok_do T T.rnN T.f_NestRun_do_script T.h_NestRun_do_script
theorem N_deal (T : Tp K mg) (TB : LamX.TabB base mg (kC K) (kP K)) : GMt P w K mg base 9 (He.ga K "NestRun") "deal" ["self", "rows", "waiting"] (spDeal K "NestRun" gvN nfN nbN (SRN K)) :=
  ok_deal T T.rnN T.f_NestRun_deal T.h_NestRun_deal side_N (N_do T) (ok_scriptN T TB)
theorem N_begin (T : Tp K mg) (TB : LamX.TabB base mg (kC K) (kP K)) : GMt P w K mg base 10 (He.ga K "NestRun") "begin_with" ["self", "script"] (spBegin K "NestRun" gvN nfN nbN (SRN K)) :=
  ok_begin T T.rnN T.f_NestRun_begin_with T.h_NestRun_begin_with side_N (N_do T) (N_deal T TB)
theorem N_feed (T : Tp K mg) (TB : LamX.TabB base mg (kC K) (kP K)) : GMt P w K mg base 10 (He.ga K "NestRun") "feed" ["self", "sign"] (spFeed K "NestRun" gvN nfN nbN (SRN K)) :=
  gmt T.c_NestRun T.h_NestRun_feed (ok_feed T T.rnN T.f_NestRun_feed side_N (N_deal T TB))
/-! ### put_back, moods -/
structure IxM where
  c : Addr
  ot : List Int
def PB1N (ix : IxM) : Hp → Fl → List Jr → Prop := fun H r js => ∃ (o mm : Addr) (ol ml : List Int), r = rsN ix.c o mm ∧ H o = some (.lst (iV ol)) ∧ H mm = some (.lst (iV ml)) ∧ ml ≠ [] ∧ Back js.reverse ol ix.ot
def PB2N (ix : IxM) : Hp → Fl → Prop := fun H r => ∃ (o mm : Addr) (ml : List Int), r = rsN ix.c o mm ∧ H o = some (.lst (iV ix.ot)) ∧ H mm = some (.lst (iV ml)) ∧ ml ≠ []
theorem ok_putN (T : Tp K mg) : GMt P w K mg base 3 (He.ga K "NestRun") "put_back" ["self", "rows"] (spPb K "NestRun" PB1N PB2N) := by
  have G_walked_back : GFn P w K mg base 2 "walked_back" ["rows", "state"] (spBack K) := ok_walked_back T
  refine gmt T.c_NestRun T.h_NestRun_put_back (mk_ok T.f_NestRun_put_back sc_NestRun_put_back (bn_NestRun_put_back "NestRun.put_back") (fun vs H Q E h => ?_) (fun cdv A outer s H vs Q E hr h => ?_))
  · obtain ⟨ix, p, dx, b, bk, rows, rest, js, bx, rfl, _⟩ := h
    rfl
  · obtain ⟨⟨c, ot⟩, p, dx, b, bk, rows, rest, js, bx, rfl, hp, hb, hjs, hrw, ⟨o, mm, ol, ml, rfl, ho, hmm, hml, hbk⟩, q⟩ := h
    dsimp only at hp hbk q
    refine ⟨_, (pss_cons (ps_set (i := 2) sc_NestRun_put_back.nd rfl (Or.inl rfl) (pe_g G_walked_back hr rfl (pa_cons (pv 1) (pa_cons (pe_tup (pa_cons (pe_fld (pv 0) rfl) (pa_cons (pe_fld (pv 0) rfl) (pa_cons (pe_fld (pv 0) rfl) pa_nil)))) pa_nil))))
      (pss_cons (ps_fld (pv 0) (pe_ix ix_tup (pv 2) pe_int (fun _ _ => rfl)) rfl)
      (pss_one (ps_fld (pv 0) (pe_ix ix_tup (pv 2) pe_int (fun _ _ => rfl)) rfl)))), ?_⟩
    refine ⟨_, rfl, _, rfl, p, _, dx, _, _, rfl, hp, T.c_NestRun, T.n_NestRun_opens, rfl, _, rfl, p, _, dx, _, _, rfl, hp, T.c_NestRun, T.n_NestRun_mind, rfl, _, rfl, p, _, dx, _, _, rfl, hp, T.c_NestRun, T.n_NestRun_boxes, rfl, by show 3 ≤ sizeLine; decide, fun y ny => ?_⟩
    have s1 := same_upd (o := .tup [.ref o, .ref mm, .ref b]) ny
    refine ⟨rows, y, o, mm, b, js, ol, ot, ml, bx, rfl, hrw.same s1, upd_same, s1 _ _ ho, s1 _ _ hmm, s1 _ _ hb, hjs, hbk, fun H2 qq c1 c2 c3 s2 hq nc1 nc2 hc1 hc2 => ?_⟩
    have sm := s1.trans s2
    have hp2 := sm _ _ hp
    have qp : qq ≠ p := ne_of hq hp2 (by intro z; cases z)
    have c1p : c1 ≠ p := ne_of hc1 hp2 (by intro z; cases z)
    have c2p : c2 ≠ p := ne_of hc2 hp2 (by intro z; cases z)
    refine ⟨_, rfl, qq, _, _, _, rfl, rfl, SqT.of hq, rfl, _, rfl, p, _, dx, _, rfl, hp2, T.c_NestRun, T.n_NestRun_opens, by show 5 < 1000; decide, ?_⟩
    refine ⟨_, rfl, qq, _, _, _, rfl, rfl, SqT.of (by rw [upd_ne qp]; exact hq), rfl, _, rfl, p, _, dx, _, rfl, upd_same, T.c_NestRun, T.n_NestRun_mind, by show 5 < 1000; decide, ?_⟩
    rw [upd_upd]
    have f4 : Fx K [p] H2 (upd H2 p (.ins (He.ga K "NestRun") dx (rnF b bk (rsN c c1 c2)))) := Fx.ins hp2 List.mem_cons_self
    exact q _ (rsN c c1 c2) ((Fx.same sm).trans f4) upd_same ⟨c1, c2, ml, rfl, by rw [upd_ne c1p]; exact hc1, by rw [upd_ne c2p]; exact hc2, hml⟩
theorem pbN_look : ∀ ix H rest js, PB1N ix H rest js → rest.lookup ("put_back" : Str) = none ∧ rest.length ≤ 10 := fun ix H rest js ⟨o, mm, ol, ml, e, _⟩ => by
  rw [e]
  exact ⟨rfl, by show 3 ≤ 10; decide⟩
theorem pbN_stay : ∀ ix H H' rest js, PB1N ix H rest js → (∀ a xs, H a = some (.lst xs) → H' a = some (.lst xs)) → PB1N ix H' rest js := fun ix H H' rest js ⟨o, mm, ol, ml, e, h1, h2, h3, h4⟩ s => ⟨o, mm, ol, ml, e, s _ _ h1, s _ _ h2, h3, h4⟩
theorem pbN_stay2 : ∀ ix H H' rest, PB2N ix H rest → Same H H' → PB2N ix H' rest := fun ix H H' rest ⟨o, mm, ml, e, h1, h2, h3⟩ s => ⟨o, mm, ml, e, s _ _ h1, s _ _ h2, h3⟩
theorem N_back (T : Tp K mg) : GMt P w K mg base 4 (He.ga K "NestRun") "back" ["self"] (spBackR K "NestRun" PB1N PB2N) :=
  ok_back T T.rnN T.f_NestRun_back T.h_NestRun_back pbN_look pbN_stay pbN_stay2 (ok_putN T)
def spMoods (K : PySem.W.Frag) : Sp := fun vs H Q _ => ∃ (p dx b bk c o mm : Addr) (xs : List V), vs = [.ref p] ∧ H p = some (.ins (He.ga K "NestRun") dx (rnF b bk (rsN c o mm))) ∧ H o = some (.lst xs) ∧ ∀ (H' : Hp) (r : Addr), Same H H' → H' r = some (.lst xs) → Q (.ref r) H'
theorem ok_moods (T : Tp K mg) : GMt P w K mg base 1 (He.ga K "NestRun") "moods" ["self"] (spMoods K) := by
  refine gmt T.c_NestRun T.h_NestRun_moods (mk_ok T.f_NestRun_moods sc_NestRun_moods (bn_NestRun_moods "NestRun.moods") (fun vs H Q E h => ?_) (fun cdv A outer s H vs Q E hr h => ?_))
  · obtain ⟨p, dx, b, bk, c, o, mm, xs, rfl, _⟩ := h
    rfl
  · obtain ⟨p, dx, b, bk, c, o, mm, xs, rfl, hp, ho, q⟩ := h
    refine ⟨_, (pss_one (ps_ret (pe_callTy call_list_of (by rfl) T.m_list (by decide +kernel) (pa_cons (pe_fld (pv 0) rfl) pa_nil)))), ?_⟩
    exact ⟨_, rfl, p, _, dx, _, _, rfl, hp, T.c_NestRun, T.n_NestRun_opens, rfl, o, _, rfl, .inl (SqL.of ho), fun r nr => q _ r (same_upd nr) upd_same⟩
end
end K56
set_option Elab.async false
set_option linter.all false
set_option maxRecDepth 100000
set_option maxHeartbeats 4000000
namespace K56
open PySem PySem.Spec PyProof.Rows L2
theorem entS_01 (beg : List Dd) : entS beg [0, 1] = .mark (.inn 0) :: (beg ++ [.mark (.inn 1)]) := by
  unfold entS insOf
  simp
theorem entS_ok {m : Nat} {beg : List Dd} (h : DdsOk m beg) : DdsOk m (entS beg [0, 1]) := fun d hd => by
  rw [entS_01] at hd
  rcases List.mem_cons.mp hd with z | hd
  · rw [z]; exact True.intro
  · rcases List.mem_append.mp hd with hd | hd
    · exact h d hd
    · rw [List.mem_singleton.mp hd]; exact True.intro
section
variable {P : Program} {w : World} {K : PySem.W.Frag} {mg : Str → Option Value} {base : Heap}
def spInitN (K : PySem.W.Frag) : Sp := fun vs H Q _ => ∃ (B : Hp) (p dx c n : Nat) (bl : List (Str × Int)) (beg : List Dd) (ws : List Wy), vs = [.ref p, .ref c] ∧ H p = some (.ins (He.ga K "NestRun") dx []) ∧ Same B H ∧ B p = none ∧ ChartAt K B c n bl beg ws ∧ WaysOk n bl.length ws ∧ 1 ≤ n ∧ n ≤ 100 ∧ DdsOk bl.length beg ∧ beg.length ≤ 10 ∧ bl.length ≤ 1000 ∧ LamX.Tabs (TT K) H ∧
  ∀ dl : Nat × List Int × List Jr, begD (soN ws) (entS beg [0, 1]) (bl.map (·.2)) = dl → ∀ (H' : Hp) (b bk o mm rows : Addr) (ml : List Int), Fx K [p] H H' → H' p = some (.ins (He.ga K "NestRun") dx (rnF b bk (rsN c o mm))) → H' b = some (.lst (iV dl.2.1)) → b ≠ bk → H' bk = some (.lst [.ref rows]) →
    TL H' rows (dl.2.2.map jrD) → H' o = some (.lst (iV [0, ((dl.1 + 1 : Nat) : Int)])) → ml ≠ [] → H' mm = some (.lst (iV ml)) → H bk = none → Q .non H'
theorem ok_initN (T : Tp K mg) (TB : LamX.TabB base mg (kC K) (kP K)) : GMk P w K mg base 11 "NestRun" (He.ga K "NestRun") ["self", "chart"] (spInitN K) := by
  have G_Runner_init : GCl P w K mg base 1 (He.ga K "Runner") "__init__" ["self", "numbers"] (spRInit K "NestRun") := ok_rinit T T.rnN
  have G_firsts : GFn P w K mg base 1 "firsts" ["chart"] (spFirsts K) := ok_firsts T
  have G_begun : GFn P w K mg base 3 "begun" ["chart"] (spBegun K) := ok_begun T
  have G_begin_with : GMt P w K mg base 10 (He.ga K "NestRun") "begin_with" ["self", "script"] (spBegin K "NestRun" gvN nfN nbN (SRN K)) := N_begin T TB
  refine gmk T.g_NestRun T.k_NestRun (mk_ok T.f_NestRun_init sc_NestRun_init (bn_NestRun_init "NestRun.__init__") (fun vs H Q E h => ?_) (fun cdv A outer s H vs Q E hr h => ?_))
  · obtain ⟨B, p, dx, c, n, bl, beg, ws, rfl, _⟩ := h
    rfl
  · obtain ⟨B, p, dx, c, n, bl, beg, ws, rfl, hp, sB, Bp, hcB, hw, hn, hn2, hdo, hdl, hbl, ht, q⟩ := h
    refine ⟨_, (pss_cons (ps_expr (pe_gc G_Runner_init hr (pe_glob (v := .ref (He.ga K "Runner")) rfl T.g_Runner rfl) (pa_cons (pv 0) (pa_cons (pe_g G_firsts hr rfl (pa_cons (pv 1) pa_nil)) pa_nil))))
      (pss_cons (ps_fld (pv 0) (pv 1) rfl)
      (pss_cons (ps_set (i := 2) sc_NestRun_init.nd rfl (Or.inl rfl) (pe_g G_begun hr rfl (pa_cons (pv 1) pa_nil)))
      (pss_cons (ps_fld (pv 0) (pe_ix ix_tup (pv 2) pe_int (fun _ _ => rfl)) rfl)
      (pss_cons (ps_fld (pv 0) (pe_ix ix_tup (pv 2) pe_int (fun _ _ => rfl)) rfl)
      (pss_one (ps_expr (pe_gm G_begin_with hr (pv 0) (pa_cons (pe_ix ix_tup (pv 2) pe_int (fun _ _ => rfl)) pa_nil))))))))), ?_⟩
    have hc := hcB.mono (xn_of sB)
    refine ⟨rfl, _, rfl, _, rfl, c, n, bl, beg, ws, rfl, hc, hbl, fun H1 l s1 nl hl => ?_⟩
    refine ⟨p, dx, l, bl.map (·.2), rfl, s1 _ _ hp, hl, fun H2 b bk f2 hp2 hb2 hbk2 nbk nb1 nbk1 => ?_⟩
    have bp : b ≠ p := ne_of hb2 hp2 (by intro z; cases z)
    have pbk : bk ≠ p := ne_of hbk2 hp2 (by intro z; cases z)
    refine ⟨_, rfl, _, rfl, p, _, dx, _, rfl, hp2, T.c_NestRun, T.n_NestRun_chart, by show 2 < 1000; decide, ?_⟩
    have f3 : Fx K [p] H2 _ := Fx.ins (K := K) (xs := [p]) (o := .ins (He.ga K "NestRun") dx (rnF b bk [("chart", .ref c)])) hp2 List.mem_cons_self
    have f03 : Fx K [p] H _ := (Fx.same s1).trans (f2.trans f3)
    have xB3 := f03.xn (xn_of sB) (s1_ Bp)
    refine ⟨_, rfl, c, n, bl, beg, ws, rfl, hcB.mono xB3, hn, hn2, by omega, fun H4 qq sc o mm ml hml s4 hq no nmm tsc ho hmm => ?_⟩
    have hp4 := s4 _ _ (upd_same (H := H2) (a := p) (o := .ins (He.ga K "NestRun") dx (rnF b bk [("chart", .ref c)])))
    have hb4 := s4 _ _ (f3.l hb2 (n1 bp))
    have hbk4 := s4 _ _ (f3.l hbk2 (n1 pbk))
    have qp : qq ≠ p := ne_of hq hp4 (by intro z; cases z)
    have op : o ≠ p := ne_of ho hp4 (by intro z; cases z)
    have mp : mm ≠ p := ne_of hmm hp4 (by intro z; cases z)
    have scp : sc ≠ p := ne_of tsc.choose_spec.1 hp4 (by intro z; cases z)
    refine ⟨_, rfl, qq, _, _, _, rfl, rfl, SqT.of hq, rfl, _, rfl, p, _, dx, _, rfl, hp4, T.c_NestRun, T.n_NestRun_opens, by show 3 < 1000; decide, ?_⟩
    refine ⟨_, rfl, qq, _, _, _, rfl, rfl, SqT.of (by rw [upd_ne qp]; exact hq), rfl, _, rfl, p, _, dx, _, rfl, upd_same, T.c_NestRun, T.n_NestRun_mind, by show 4 < 1000; decide, ?_⟩
    rw [upd_upd]
    have f5 : Fx K [p] H4 (upd H4 p (.ins (He.ga K "NestRun") dx (rnF b bk (rsN c o mm)))) := Fx.ins hp4 List.mem_cons_self
    have f05 : Fx K [p] H _ := f03.trans ((Fx.same s4).trans f5)
    have xB5 := f05.xn (xn_of sB) (s1_ Bp)
    have nbkH : H bk = none := s1.free nbk1
    have Bbk : B bk = none := sB.free nbkH
    have okn : o ≠ bk := (ne_of_none (f3.l hbk2 (n1 pbk)) no).symm
    have hbk5 := f5.l hbk4 (n1 pbk)
    refine ⟨_, rfl, p, dx, _, rfl, upd_same, rfl, _, rfl, qq, _, _, _, rfl, rfl, SqT.of (by rw [upd_ne qp]; exact hq), rfl, ?_⟩
    obtain ⟨xs, hsc, txs⟩ := tsc
    refine ⟨⟨n, bl.length, bl, beg, ws, c⟩, cutS _ p bk, p, dx, b, bk, rsN c o mm, .ref sc, 0, entS beg [0, 1], bl.map (fun (z : Str × Int) => z.2), rfl, upd_same, f5.l hb4 (n1 bp), hbk5, nbk, cutS_nt, cutS_xn, cutS_p, cutS_q,
      ⟨o, mm, ml, rfl, hcB.mono (xn_cutS xB5 Bp Bbk), hw, by show beg.length ≤ 100; omega, f5.l ho (n1 op), hml, f5.l hmm (n1 mp), f05.tabs ht⟩, hn, by show (bl.map (fun (z : Str × Int) => z.2)).length = bl.length; rw [List.length_map], hbl,
      ⟨sc, xs, rfl, .inr (f5.l hsc (n1 scp)), TDs.mono (kb_ts hp4 kb_put) _ _ txs⟩, entS_ok hdo, by rw [entS_01, List.length_cons, List.length_append, List.length_singleton]; omega, fun dl edl H6 b' rest' rows f6 hp6 hb6 nb6 hbk6 hr6 sr6 xn6 => ?_⟩
    obtain ⟨o6, mm6, ml6, rfl, _, _, _, ho6, hml6, hmm6, ht6⟩ := sr6
    dsimp only at hp6 hb6 hr6 ho6
    have f6' : Fx K [bk, p] _ H6 := f6.mono fun x hx => by
      rcases List.mem_cons.mp hx with z | hx
      · rw [z]; exact List.mem_cons_of_mem _ List.mem_cons_self
      · rw [List.mem_singleton.mp hx]; exact List.mem_cons_self
    exact q dl edl H6 b' bk o6 mm6 rows ml6 (Fx.drop f05 f6' nbkH) hp6 hb6 nb6 hbk6 hr6 ho6 hml6 hmm6 nbkH
end
end K56
set_option Elab.async false
set_option linter.all false
set_option maxRecDepth 100000
set_option maxHeartbeats 4000000
namespace K56
open PySem PySem.Spec PyProof.Rows L2
/-- the ways of the first k rows -/
def wysK (T : Tab) (p : Nat) (s : Str) (k : Nat) : List Wy := ((T.rows p s).zipIdx.take k).filterMap fun x => if idle p (T.rows p s).length x.1 x.2 then none else some (wyOf p s x.1)
theorem wysK_succ {T : Tab} {p : Nat} {s : Str} {k : Nat} {r : Rw} (h : (T.rows p s)[k]? = some r) : wysK T p s (k + 1) = if idle p (T.rows p s).length r k = true then wysK T p s k else wysK T p s k ++ [wyOf p s r] := by
  unfold wysK
  have e : (T.rows p s).zipIdx[k]? = some (r, k) := by
    rw [List.getElem?_zipIdx, h]
    simp
  rw [List.take_add_one, e, List.filterMap_append]
  by_cases z : idle p (T.rows p s).length r k = true
  · rw [if_pos z]; simp [z]
  · rw [if_neg z]; simp [z]
theorem wysK_all (T : Tab) (p : Nat) (s : Str) : wysK T p s (T.rows p s).length = wysS T p s := by
  unfold wysK wysS
  rw [List.take_of_length_le (by rw [List.length_zipIdx]; exact Nat.le_refl _)]
theorem wysK_len (T : Tab) (p : Nat) (s : Str) (k : Nat) : (wysK T p s k).length ≤ (T.rows p s).length := by
  unfold wysK
  refine Nat.le_trans (List.length_filterMap_le _ _) ?_
  rw [List.length_take, List.length_zipIdx]
  omega
theorem wysF_len {m p : Nat} {T : Tab} (tok : TabOk m T) (hp : p < T.nf) : ∀ l : List Str, (∀ s ∈ l, s ∈ T.heard) → (l.flatMap (wysS T p)).length ≤ l.length * 3
  | [], _ => Nat.zero_le _
  | s :: l, h => by
    rw [List.flatMap_cons, List.length_append, List.length_cons, Nat.succ_mul]
    have a := wysF_len tok hp l fun t ht => h t (List.mem_cons_of_mem _ ht)
    have b := wysK_len T p s (T.rows p s).length
    rw [wysK_all] at b
    have c := tok.rl p s hp (h s List.mem_cons_self)
    omega
section
variable {P : Program} {w : World} {K : PySem.W.Frag} {mg : Str → Option Value} {base : Heap}
def spWaysOf (K : PySem.W.Frag) : Sp := fun vs H Q _ => ∃ (t : Addr) (p m : Nat) (Tb : Tab) (bl : List (Str × Int)) (beg : List Dd), vs = [.ref t, .int (p : Nat)] ∧ TabAt K H t Tb bl beg ∧ TabOk m Tb ∧ p < Tb.nf ∧ ∀ (H' : Hp) (r : Addr), Same H H' → H r = none → TL H' r ((wysF Tb p).map wyD) → Q (.ref r) H'
theorem ok_ways_of (T : Tp K mg) : GFn P w K mg base 3 "ways_of" ["table", "flat"] (spWaysOf K) := by
  have G_idle_end : GFn P w K mg base 2 "idle_end" ["rows", "at", "flat"] spIdle := ok_idle_end T
  have G_told : GFn P w K mg base 1 "told" ["rows"] spTold := ok_told T
  refine gfn T.g_ways_of (mk_ok T.f_ways_of sc_ways_of (bn_ways_of "ways_of") (fun vs H Q E h => ?_) (fun cdv A outer s H vs Q E hr h => ?_))
  · obtain ⟨t, p, m, Tb, bl, beg, rfl, _⟩ := h
    rfl
  · obtain ⟨t, p, m, Tb, bl, beg, rfl, htab, tok, hp, q⟩ := h
    refine ⟨_, (pss_cons (ps_set (i := 2) sc_ways_of.nd rfl (Or.inl rfl) (pe_lst pa_nil))
      (pss_cons (ps_for PassesOwn.never rfl (pi_list (pe_fld (pv 0) rfl)) (pg_name (i := 3) sc_ways_of.nd rfl (Or.inl rfl))
        (pss_cons (ps_set (i := 4) sc_ways_of.nd rfl (Or.inl rfl) (pe_dget (hu_of hr) (pe_fld (pv 0) rfl) (pe_tup (pa_cons (pv 1) (pa_cons (pv 3) pa_nil))) (fun _ _ => rfl)))
        (pss_one (ps_for PassesOwn.never rfl (pi_enum (by rfl) T.m_enumerate (pa_cons (pv 4) pa_nil)) (pg_tup rfl (pgs_cons (pg_name (i := 5) sc_ways_of.nd rfl (Or.inl rfl)) (pgs_cons (pg_name (i := 6) sc_ways_of.nd rfl (Or.inl rfl)) pgs_nil)))
          (pss_one (ps_if (pt_not (pt_val (pe_g G_idle_end hr rfl (pa_cons (pv 4) (pa_cons (pv 5) (pa_cons (pv 1) pa_nil))))))
            (pss_one (ps_expr (pe_bm PySem.F.plainAttrs_list PySem.F.slot_list_append PySem.F.type_list_append mt_append (pv 2) (pa_cons (pe_tup (pa_cons (pe_op op_add (pv 1) pe_int) (pa_cons (pv 3) (pa_cons (pe_callTy call_tuple_of (by rfl) T.m_tuple (by decide +kernel) (pa_cons (pe_ix ix_tup (pv 6) pe_int (fun _ _ => rfl)) pa_nil)) (pa_cons (pe_callTy call_tuple_of (by rfl) T.m_tuple (by decide +kernel) (pa_cons (pe_g G_told hr rfl (pa_cons (pe_ix ix_tup (pv 6) pe_int (fun _ _ => rfl)) pa_nil)) pa_nil)) (pa_cons (pe_op op_add (pe_ix ix_tup (pv 6) pe_int (fun _ _ => rfl)) pe_int) (pa_cons pe_str pa_nil))))))) pa_nil))))
            pss_nil))))))
      (pss_one (ps_ret (pv 2))))), ?_⟩
    obtain ⟨dxt, bxa, sga, bga, fla, rwa, fls, ht, hbx, hsg, hbg, hfl, hfn, kvs, hrw, hin, hout⟩ := htab.ex
    refine ⟨Nat.zero_le _, fun r nr => ?_⟩
    have s1 : Same H (upd H r (.lst [])) := same_upd nr
    refine ⟨_, rfl, t, _, dxt, _, _, rfl, s1 _ _ ht, T.c_Table, T.n_Table_signs, rfl, sga, rfl, ⟨_, SqL.of (s1 _ _ hsg)⟩, for_list (K := K) (a := sga) (xs := strV Tb.heard) (fun i σ H' => ∃ v3 v4 v5 v6, σ = [some (.ref t), some (.int (p : Nat)), some (.ref r), v3, v4, v5, v6] ∧ Same H H' ∧ TL H' r (((Tb.heard.take i).flatMap (wysS Tb p)).map wyD)) ⟨none, none, none, none, rfl, s1, [], upd_same, TDs.nil⟩ (fun i σ H' _ ⟨_, _, _, _, _, e, _⟩ => SqL.of (e _ _ hsg)) ?_ ?_⟩
    · rintro i y σ H' hy ⟨v3, v4, v5, v6, rfl, sm, hl⟩
      obtain ⟨sg, hsgi, rfl⟩ := map_get hy
      have hsm := List.mem_of_getElem? hsgi
      obtain ⟨rl, er, ys, hrl, tys⟩ := hin p sg hp hsm
      have hrl3 := tok.rl p sg hp hsm
      refine ⟨_, rfl, t, _, dxt, _, _, rfl, sm _ _ ht, T.c_Table, T.n_Table_rows, rfl, _, rfl, _, rfl, by show 2 ≤ sizeLine; decide, fun ku nku => ?_⟩
      have sk := sm.trans (same_upd (o := .tup [.int (p : Nat), .str sg]) nku)
      have hku : (upd H' ku (.tup [.int (p : Nat), .str sg])) ku = some (.tup ((rkey p sg).map kV)) := upd_same
      refine ⟨rwa, .ref rl, rfl, er ▸ DGet.t (sk _ _ hrw) hku, ?_⟩
      have hl' : TL (upd H' ku (.tup [.int (p : Nat), .str sg])) r (((Tb.heard.take i).flatMap (wysS Tb p)).map wyD) := hl.same (same_upd nku)
      have hpre := wysF_len tok hp (Tb.heard.take i) fun s hs => List.mem_of_mem_take hs
      have hhl := tok.hl
      rw [List.length_take] at hpre
      refine ⟨_, rfl, rl, ys, rfl, SqL.of (sk _ _ hrl), for_it (walk_enum (K := K) (a := rl) (xs := ys)) (fun k σ H'' => ∃ v5 v6, σ = [some (.ref t), some (.int (p : Nat)), some (.ref r), some (.str sg), some (.ref rl), v5, v6] ∧ Same H H'' ∧ TL H'' r (((Tb.heard.take i).flatMap (wysS Tb p) ++ wysK Tb p sg k).map wyD)) ⟨v5, v6, rfl, sk, by rw [show wysK Tb p sg 0 = [] from rfl, List.append_nil]; exact hl'⟩ (fun k σ H'' _ ⟨_, _, _, e, _⟩ => SqL.of (e _ _ hrl)) ?_ ?_⟩
      · rintro k yv σ H1 H2 hk ⟨w5, w6, rfl, sm1, hl1⟩ ⟨T', x, y, rfl, nT, rfl, ex, ey⟩
        cases ex
        obtain ⟨pd, hpd, td⟩ := tys.get' ey
        obtain ⟨rw, hrk, rfl⟩ := map_get hpd
        have sT := same_upd (o := .tup [.int (k : Nat), y]) nT
        have smT := sm1.trans sT
        obtain ⟨f, x1, x2, x3, rfl, hf, ⟨fa, as, rfl, hfa, tas⟩, td2, e3⟩ := TD.t3 (TD.mono (TS.of smT) _ _ td)
        obtain rfl := TD.i e3
        have ro := tok.ro p sg rw hp hsm (List.mem_of_getElem? hrk)
        refine ⟨T', _, rfl, SqT.of upd_same, rfl, _, _, rfl, _, _, rfl, rfl, ?_⟩
        refine ⟨_, rfl, _, rfl, _, rfl, rl, Tb.rows p sg, k, p, rw, m, rfl, ⟨ys, smT _ _ hrl, TDs.mono (TS.of smT) _ _ tys⟩, hrk, ro.2.2.1, ro.2.2.2.2.2, fun H3 s3 => ⟨_, rfl, ?_⟩⟩
        have sm3 := smT.trans s3
        have ws := wysK_succ hrk
        have wl := wysK_len Tb p sg k
        cases hid : idle p (Tb.rows p sg).length rw k with
        | true =>
          rw [hid, if_pos rfl] at ws
          refine iteF ⟨_, _, rfl, sm3, ?_⟩
          rw [ws]
          exact (hl1.same sT).same s3
        | false =>
          rw [hid, if_neg Bool.false_ne_true] at ws
          obtain ⟨zs, hz, tz⟩ := (hl1.same sT).same s3
          have hf3 := s3 _ _ hf
          have hfa3 := s3 _ _ hfa
          refine iteT ⟨_, rfl, .inl ⟨rfl, _, SqL.of hz⟩, _, rfl, _, _, rfl, rfl, _, rfl, _, rfl, f, _, _, _, rfl, rfl, SqT.of hf3, rfl, fa, as, rfl, .inr ⟨SqT.of hfa3, ?_⟩⟩
          refine ⟨_, rfl, f, _, _, _, rfl, rfl, SqT.of hf3, rfl, x2, rw.scr, rfl, TD.mono (TS.of s3) _ _ td2, by have := ro.2.2.2.2.2; omega, fun H4 c s4 nc ⟨cs, hc, tcs⟩ => ?_⟩
          refine ⟨c, cs, rfl, .inl ⟨SqL.of hc, fun l nl => ?_⟩⟩
          have s5 := s4.trans (same_upd (o := .tup cs) nl)
          refine ⟨_, rfl, f, _, _, _, rfl, rfl, SqT.of (s5 _ _ hf3), rfl, _, _, rfl, rfl, by show 6 ≤ sizeLine; decide, fun u nu => ?_⟩
          have s6 := s5.trans (same_upd (o := .tup [.int ((p : Nat) + 1), .str sg, .ref fa, .ref l, .int ((rw.nxt : Nat) + 1), .str "new"]) nu)
          have hz6 := s6 _ _ hz
          have zl : zs.length ≤ 20 := by
            rw [tz.len, List.length_map, List.length_append]
            omega
          refine ⟨r, _, _, rfl, rfl, hz6, small1000 (by omega), ?_⟩
          refine ⟨_, _, rfl, same_put (sm3.trans s6) nr, _, upd_same, ?_⟩
          have tp : TS _ (upd (upd (upd H4 l (.tup cs)) u (.tup [.int ((p : Nat) + 1), .str sg, .ref fa, .ref l, .int ((rw.nxt : Nat) + 1), .str "new"])) r (.lst (zs ++ [.ref u]))) := ts_put hz6
          rw [ws, ← List.append_assoc, List.map_append]
          refine (TDs.mono ((TS.of s6).trans tp) _ _ tz).snoc ?_
          refine TD.mono tp _ _ ⟨u, _, rfl, upd_same, .cons (show V.int _ = V.int _ from rfl) (.cons TD.ss (.cons ⟨fa, as, rfl, s6 _ _ hfa3, TDs.mono (TS.of (s3.trans s6)) _ _ tas⟩ (.cons ⟨l, cs, rfl, (same_upd nu) _ _ upd_same, ?_⟩ (.cons (show V.int _ = V.int _ from rfl) (.cons TD.ss .nil)))))⟩
          exact TDs.mono (TS.of ((same_upd (o := .tup cs) nl).trans (same_upd nu))) _ _ tcs
      · rintro σ H1 ⟨w5, w6, rfl, sm1, hl1⟩
        rw [tys.len, List.length_map, wysK_all] at hl1
        refine ⟨_, _, _, _, rfl, sm1, ?_⟩
        rw [List.take_add_one, hsgi, List.flatMap_append]
        simpa using hl1
    · rintro σ H' ⟨v3, v4, v5, v6, rfl, sm, hl⟩
      have e : (strV Tb.heard).length = Tb.heard.length := by unfold strV; rw [List.length_map]
      rw [e, List.take_length] at hl
      exact ⟨_, rfl, q H' r sm nr hl⟩
end
end K56
set_option Elab.async false
set_option linter.all false
set_option maxRecDepth 100000
set_option maxHeartbeats 4000000
namespace K56
open PySem PySem.Spec PyProof.Rows L2
/-- the rows' dict as it comes -/
structure RowsIn (H : Hp) (a : Addr) (T : Tab) : Prop where
  ex : ∃ kvs, H a = some (.dT kvs) ∧ kvs.length ≤ 100 ∧ (∀ k ∈ kvs.map (·.1), ∃ r xs, valV kvs k = some (.ref r) ∧ H r = some (.lst xs)) ∧
    (∀ p s, p < T.nf → s ∈ T.heard → ∃ r, valV kvs (rkey p s) = some (.ref r) ∧ TL H r ((T.rows p s).map rwD)) ∧ ∀ p s, ¬ s ∈ T.heard → valV kvs (rkey p s) = none
theorem put_len {κ : Type} [DecidableEq κ] (kvs : List (κ × V)) (k : κ) (v : V) : (putK kvs k v).length ≤ kvs.length + 1 := by
  unfold putK
  split
  · rw [List.length_map]; omega
  · rw [List.length_append]; simp
section
variable {P : Program} {w : World} {K : PySem.W.Frag} {mg : Str → Option Value} {base : Heap}
def spTable (K : PySem.W.Frag) : Sp := fun vs H Q _ => ∃ (p dx b hd bg fl rd : Addr) (bl : List (Str × Int)) (T : Tab) (beg : List Dd) (fls : List V), vs = [.ref p, .ref b, .ref hd, .ref bg, .ref fl, .ref rd] ∧ H p = some (.ins (He.ga K "Table") dx []) ∧ TL H b (bl.map bxD) ∧ H hd = some (.lst (strV T.heard)) ∧ TD H (ddsD beg) (.ref bg) ∧ H fl = some (.lst fls) ∧ fls.length = T.nf ∧ RowsIn H rd T ∧
  ∀ H' : Hp, TabAt K H' p T bl beg → Kb p H H' → Q .non H'
theorem ok_Table (T : Tp K mg) : GMk P w K mg base 1 "Table" (He.ga K "Table") ["self", "boxes", "heard", "begin", "flats", "rows"] (spTable K) := by
  refine gmk T.g_Table T.k_Table (mk_ok T.f_Table_init sc_Table_init (bn_Table_init "Table.__init__") (fun vs H Q E h => ?_) (fun cdv A outer s H vs Q E hr h => ?_))
  · obtain ⟨p, dx, b, hd, bg, fl, rd, bl, Tb, beg, fls, rfl, _⟩ := h
    rfl
  · obtain ⟨p, dx, b, hd, bg, fl, rd, bl, Tb, beg, fls, rfl, hp, ⟨bs, hb, tb⟩, hh, hbg, hfl, hfn, ⟨⟨kvs, hrd, hkl, hall, hin, hout⟩⟩, q⟩ := h
    refine ⟨_, (pss_cons (ps_fld (pv 0) (pe_callTy call_list_of (by rfl) T.m_list (by decide +kernel) (pa_cons (pv 1) pa_nil)) rfl)
      (pss_cons (ps_fld (pv 0) (pe_callTy call_list_of (by rfl) T.m_list (by decide +kernel) (pa_cons (pv 2) pa_nil)) rfl)
      (pss_cons (ps_fld (pv 0) (pe_callTy call_tuple_of (by rfl) T.m_tuple (by decide +kernel) (pa_cons (pv 3) pa_nil)) rfl)
      (pss_cons (ps_fld (pv 0) (pe_callTy call_list_of (by rfl) T.m_list (by decide +kernel) (pa_cons (pv 4) pa_nil)) rfl)
      (pss_cons (ps_fld (pv 0) pe_dnewT rfl)
      (pss_one (ps_lock (ps_for PassesOwn.never rfl (pi_keys (pv 5)) (pg_name (i := 6) sc_Table_init.nd rfl (Or.inl rfl))
        (pss_one (ps_dput (hu_of hr) (pe_fld (pv 0) rfl) (pv 6) (pe_callTy call_list_of (by rfl) T.m_list (by decide +kernel) (pa_cons (pe_dget (hu_of hr) (pv 5) (pv 6) (fun _ _ => rfl)) pa_nil)) rfl)))))))))), ?_⟩
    have lp : ∀ {x : Addr} {l : List V}, H x = some (.lst l) → x ≠ p := fun h => ne_of h hp (by intro z; cases z)
    have rdp : rd ≠ p := ne_of hrd hp (by intro z; cases z)
    obtain ⟨ga, gs, eg, hga, tgs⟩ := hbg
    cases eg
    have bgp : bg ≠ p := ne_of hga hp (by intro z; cases z)
    refine ⟨_, rfl, b, _, rfl, .inl (SqL.of hb), fun c1 n1 => ?_⟩
    obtain ⟨a1, b1, d1, e1⟩ := kb_step (o := .lst bs) (fs' := [("boxes", .ref c1)]) hp n1
    refine ⟨_, rfl, p, _, dx, [], rfl, by rw [upd_ne e1.symm]; exact hp, T.c_Table, T.n_Table_boxes, by show 0 < 1000; decide, ?_⟩
    refine ⟨_, rfl, hd, _, rfl, .inl (SqL.of (a1 _ _ hh (lp hh))), fun c2 n2 => ?_⟩
    obtain ⟨a2, b2, d2, e2⟩ := kb_step (o := .lst (strV Tb.heard)) (fs' := [("boxes", .ref c1), ("signs", .ref c2)]) b1 n2
    refine ⟨_, rfl, p, _, dx, _, rfl, by rw [upd_ne e2.symm]; exact b1, T.c_Table, T.n_Table_signs, by show 1 < 1000; decide, ?_⟩
    have a12 := a1.trans a2
    refine ⟨_, rfl, bg, gs, rfl, .inr ⟨SqT.of (a12 _ _ hga bgp), ?_⟩⟩
    refine ⟨_, rfl, p, _, dx, _, rfl, b2, T.c_Table, T.n_Table_begin, by show 2 < 1000; decide, ?_⟩
    have b3 := upd_same (H := upd (upd (upd (upd H c1 (.lst bs)) p (.ins (He.ga K "Table") dx [("boxes", .ref c1)])) c2 (.lst (strV Tb.heard))) p (.ins (He.ga K "Table") dx [("boxes", .ref c1), ("signs", .ref c2)])) (a := p) (o := .ins (He.ga K "Table") dx [("boxes", .ref c1), ("signs", .ref c2), ("begin", .ref bg)])
    have a3 := a12.trans (kb_put (H := upd (upd (upd (upd H c1 (.lst bs)) p (.ins (He.ga K "Table") dx [("boxes", .ref c1)])) c2 (.lst (strV Tb.heard))) p (.ins (He.ga K "Table") dx [("boxes", .ref c1), ("signs", .ref c2)])) (p := p) (o := .ins (He.ga K "Table") dx [("boxes", .ref c1), ("signs", .ref c2), ("begin", .ref bg)]))
    have k3 : ∀ {x : Addr} {o : HO}, x ≠ p → upd (upd (upd (upd H c1 (.lst bs)) p (.ins (He.ga K "Table") dx [("boxes", .ref c1)])) c2 (.lst (strV Tb.heard))) p (.ins (He.ga K "Table") dx [("boxes", .ref c1), ("signs", .ref c2)]) x = some o → upd (upd (upd (upd (upd H c1 (.lst bs)) p (.ins (He.ga K "Table") dx [("boxes", .ref c1)])) c2 (.lst (strV Tb.heard))) p (.ins (He.ga K "Table") dx [("boxes", .ref c1), ("signs", .ref c2)])) p (.ins (He.ga K "Table") dx [("boxes", .ref c1), ("signs", .ref c2), ("begin", .ref bg)]) x = some o := fun n e => by rw [upd_ne n]; exact e
    have d1' := k3 e1 (a2 _ _ d1 e1)
    have d2' := k3 e2 d2
    refine ⟨_, rfl, fl, _, rfl, .inl (SqL.of (a3 _ _ hfl (lp hfl))), fun c4 n4 => ?_⟩
    obtain ⟨a4, b4, d4, e4⟩ := kb_step (o := .lst fls) (fs' := [("boxes", .ref c1), ("signs", .ref c2), ("begin", .ref bg), ("flats", .ref c4)]) b3 n4
    refine ⟨_, rfl, p, _, dx, _, rfl, by rw [upd_ne e4.symm]; exact b3, T.c_Table, T.n_Table_flats, by show 3 < 1000; decide, ?_⟩
    refine fun n n5 => ?_
    obtain ⟨a5, b5, d5, e5⟩ := kb_step (o := .dT []) (fs' := tbF c1 c2 bg c4 n) b4 n5
    refine ⟨_, rfl, p, _, dx, _, rfl, by rw [upd_ne e5.symm]; exact b4, T.c_Table, T.n_Table_rows, by show 4 < 1000; decide, ?_⟩
    have a45 := a4.trans a5
    have all := a3.trans a45
    have hc1 := a45 _ _ d1' e1
    have hc2 := a45 _ _ d2' e2
    have hc4 := a5 _ _ d4 e4
    have hrd5 := all _ _ hrd rdp
    have nrd : n ≠ rd := (ne_of_none ((a3.trans a4) _ _ hrd rdp) n5).symm
    have hga5 := all _ _ hga bgp
    generalize hH5 : upd (upd (upd (upd (upd (upd (upd (upd (upd H c1 (.lst bs)) p (.ins (He.ga K "Table") dx [("boxes", .ref c1)])) c2 (.lst (strV Tb.heard))) p (.ins (He.ga K "Table") dx [("boxes", .ref c1), ("signs", .ref c2)])) p (.ins (He.ga K "Table") dx [("boxes", .ref c1), ("signs", .ref c2), ("begin", .ref bg)])) c4 (.lst fls)) p (.ins (He.ga K "Table") dx [("boxes", .ref c1), ("signs", .ref c2), ("begin", .ref bg), ("flats", .ref c4)])) n (.dT [])) p (.ins (He.ga K "Table") dx (tbF c1 c2 bg c4 n)) = H5 at b5 d5 all hc1 hc2 hc4 hrd5 hga5
    have nn : H n = none := by
      cases e : H n with
      | none => rfl
      | some o =>
        have z := (a3.trans a4) _ _ e e5
        exact absurd (z.symm.trans n5) (by intro y; cases y)
    refine ⟨rd, .dT kvs, by rw [← hH5] at hrd5; exact hrd5, True.intro, fun od => ?_⟩
    refine ⟨_, rfl, rd, od, rfl, .inr ⟨kvs, upd_same, ?_⟩⟩
    refine for_it (walk_keysT (kvs := kvs)) (fun i σ H' => ∃ v6 kn, σ = [some (.ref p), some (.ref b), some (.ref hd), some (.ref bg), some (.ref fl), some (.ref rd), v6] ∧ H' rd = some (.frz od (.dT kvs)) ∧ (∀ x o, H5 x = some o → x ≠ n → x ≠ rd → H' x = some o) ∧ H' n = some (.dT kn) ∧ kn.length ≤ i ∧
      ∀ k : List Key, (k ∈ (kvs.take i).map (·.1) → ∃ r r' xs, valV kvs k = some (.ref r) ∧ H r = some (.lst xs) ∧ valV kn k = some (.ref r') ∧ H' r' = some (.lst xs)) ∧ (¬ k ∈ (kvs.take i).map (·.1) → valV kn k = none)) ⟨none, [], rfl, upd_same, fun x o e h1 h2 => ?_, ?_, Nat.le_refl _, fun k => ⟨fun z => (by cases z), fun _ => rfl⟩⟩ (fun i σ H' _ ⟨_, _, _, e, _⟩ => e) ?_ ?_
    · rw [upd_ne h2]
      rw [← hH5] at e
      exact e
    · rw [upd_ne nrd]
      rw [← hH5] at d5
      exact d5
    · rintro i v σ Hx H' hi ⟨v6, kn, rfl, hfz, hk, hn, hkl2, hkn⟩ ⟨rfl, k, v0, kq, hkv, rfl, hkq⟩
      have hkm : k ∈ kvs.map (·.1) := List.mem_map.mpr ⟨(k, v0), List.mem_of_getElem? hkv, rfl⟩
      obtain ⟨r, xs, hv, hr⟩ := hall k hkm
      have rp : r ≠ p := lp hr
      have hr5 := all _ _ hr rp
      have rn : r ≠ n := ne_of hr5 d5 (by intro z; cases z)
      have rrd : r ≠ rd := ne_of hr hrd (by intro z; cases z)
      have hr' := hk _ _ hr5 rn rrd
      refine ⟨_, rfl, _, rfl, rd, .ref r, rfl, .inr ⟨kvs, k, kq, .inr ⟨od, hfz⟩, rfl, hkq, hv.symm⟩, r, xs, rfl, .inl (SqL.of hr'), fun c nc => ?_⟩
      have s1 := same_upd (o := .lst xs) nc
      have pn : p ≠ n := ne_of b5 d5 (by intro z; cases z)
      have prd : p ≠ rd := rdp.symm
      refine ⟨_, rfl, p, _, dx, _, _, rfl, s1 _ _ (hk _ _ b5 pn prd), T.c_Table, T.n_Table_rows, rfl, _, rfl, n, _, rfl, DPut.t (s1 _ _ hn) (s1 _ _ hkq) (Nat.lt_of_le_of_lt hkl2 (small1000 (by omega))), ?_⟩
      have cn : c ≠ n := (ne_of_none hn nc).symm
      refine ⟨_, _, rfl, by rw [upd_ne nrd.symm]; exact s1 _ _ hfz, fun x o e h1 h2 => by rw [upd_ne h1]; exact s1 _ _ (hk x o e h1 h2), upd_same, by have := put_len kn k (.ref c); omega, fun k2 => ?_⟩
      have et : (kvs.take (i + 1)).map (·.1) = (kvs.take i).map (·.1) ++ [k] := by rw [List.take_add_one, hkv, List.map_append]; rfl
      rw [et, valV_put]
      obtain ⟨m1, m2⟩ := hkn k2
      by_cases e : k2 = k
      · subst e
        rw [if_pos rfl]
        exact ⟨fun _ => ⟨r, c, xs, hv, hr, rfl, by rw [upd_ne cn]; exact upd_same⟩, fun z => absurd (List.mem_append.mpr (.inr List.mem_cons_self)) z⟩
      · rw [if_neg e]
        refine ⟨fun z => ?_, fun z => m2 fun y => z (List.mem_append.mpr (.inl y))⟩
        rcases List.mem_append.mp z with z | z
        · obtain ⟨r2, r3, xs2, g1, g2, g3, g4⟩ := m1 z
          have r3n : r3 ≠ n := ne_of g4 hn (by intro z; cases z)
          exact ⟨r2, r3, xs2, g1, g2, g3, by rw [upd_ne r3n]; exact s1 _ _ g4⟩
        · exact absurd (List.mem_singleton.mp z) e
    · rintro σ H' ⟨v6, kn, rfl, hfz, hk, hn, hkl2, hkn⟩
      rw [List.take_length] at hkn
      refine ⟨hfz, ?_⟩
      have kb : Kb p H (upd H' rd (.dT kvs)) := fun x o e nx => by
        by_cases z : x = rd
        · rw [z, upd_same]
          rw [z, hrd] at e
          exact e
        · rw [upd_ne z]
          have e5 := all x o e nx
          by_cases zn : x = n
          · rw [zn, nn] at e; cases e
          · exact hk x o e5 zn z
      have ts : TS H (upd H' rd (.dT kvs)) := kb_ts hp kb
      have k9 : ∀ {x : Addr} {l : List V}, H5 x = some (.lst l) → upd H' rd (.dT kvs) x = some (.lst l) := fun {x l} e => by
        rw [upd_ne (ne_of e hrd5 (by intro z; cases z))]
        exact hk _ _ e (ne_of e d5 (by intro z; cases z)) (ne_of e hrd5 (by intro z; cases z))
      have pn : p ≠ n := ne_of b5 d5 (by intro z; cases z)
      have hb5 := k9 hc1
      refine q _ ⟨dx, c1, c2, bg, c4, n, fls, by rw [upd_ne rdp.symm]; exact hk _ _ b5 pn rdp.symm, ⟨bs, k9 hc1, TDs.mono ts _ _ tb⟩, k9 hc2, ⟨bg, gs, rfl, ts _ _ hga, TDs.mono ts _ _ tgs⟩, k9 hc4, hfn, kn, by rw [upd_ne nrd]; exact hn, fun a s ha hs => ?_, fun a s hs => ?_⟩ kb
      · obtain ⟨r, hv, xs0, hx0, txs⟩ := hin a s ha hs
        have hm : rkey a s ∈ kvs.map (·.1) := by
          refine Classical.byContradiction fun z => ?_
          have hnone : valV kvs (rkey a s) = none := by
            unfold valV
            rw [List.find?_eq_none.mpr fun kv hkv y => z (List.mem_map.mpr ⟨kv, hkv, of_decide_eq_true y⟩)]
            rfl
          rw [hnone] at hv
          cases hv
        obtain ⟨r2, r3, xs, g1, g2, g3, g4⟩ := (hkn (rkey a s)).1 hm
        rw [hv] at g1
        cases g1
        rw [hx0] at g2
        cases g2
        have r3rd : r3 ≠ rd := fun z => by rw [z, hfz] at g4; cases g4
        exact ⟨r3, g3, xs0, by rw [upd_ne r3rd]; exact g4, TDs.mono ts _ _ txs⟩
      · refine (hkn (rkey a s)).2 fun hm => ?_
        obtain ⟨r, xs, g1, _⟩ := hall _ hm
        rw [hout a s hs] at g1
        cases g1
/-! ### unnested -/
theorem rep_flat {α : Type} (n : Nat) (x : α) : (List.replicate n [x]).flatten = List.replicate n x := by
  induction n with
  | zero => rfl
  | succ n ih => rw [List.replicate_succ, List.flatten_cons, ih]; rfl
theorem f_len : ∀ k : Fin 13, (("f" : Str).length + (toString ((k.val : Nat) : Int) : Str).length ≤ 1000 ∧ (((k.val : Nat) : Int).natAbs.log2 < 1920)) := by decide +kernel
end
end K56
set_option Elab.async false
set_option linter.all false
set_option maxRecDepth 100000
set_option maxHeartbeats 4000000
namespace K56
open PySem PySem.Spec PyProof.Rows L2
theorem wysF_len2 {m p : Nat} {T : Tab} (tok : TabOk m T) (hp : p < T.nf) : (wysF T p).length ≤ 6 := by
  have a := wysF_len tok hp T.heard fun s h => h
  have b := tok.hl
  unfold wysF
  omega
theorem wysR_len {m : Nat} {T : Tab} (tok : TabOk m T) : ∀ i : Nat, i ≤ T.nf → ((List.range i).flatMap (wysF T)).length ≤ i * 6
  | 0, _ => Nat.zero_le _
  | i + 1, h => by
    rw [List.range_succ, List.flatMap_append, List.length_append]
    have a := wysR_len tok i (by omega)
    have b := wysF_len2 tok (p := i) (by omega)
    have e : (List.flatMap (wysF T) [i]) = wysF T i := by simp
    rw [e]
    omega
theorem ways_ok {m : Nat} {T : Tab} (tok : TabOk m T) : WaysOk T.nf m (wysT T) := by
  refine ⟨?_, fun y hy => ?_⟩
  · have a := wysR_len tok T.nf (Nat.le_refl _)
    have b := tok.nf.2
    unfold wysT
    omega
  · unfold wysT at hy
    obtain ⟨p, hp, hy⟩ := List.mem_flatMap.mp hy
    have hp := List.mem_range.mp hp
    obtain ⟨s, hs, hy⟩ := List.mem_flatMap.mp hy
    unfold wysS at hy
    obtain ⟨x, hx, e⟩ := List.mem_filterMap.mp hy
    split at e
    · cases e
    · have e := Option.some.inj e
      obtain ⟨i, hi, hxi⟩ := List.mem_iff_getElem.mp hx
      have hr : x.1 ∈ T.rows p s := by
        rw [← hxi]
        simp
      have ro := tok.ro p s x.1 hp hs hr
      rw [← e]
      refine ⟨Nat.succ_le_succ (Nat.zero_le _), hp, Nat.succ_le_succ (Nat.zero_le _), ro.2.2.2.1, ro.1, ro.2.1, dds_tolds ro.2.2.1, Nat.le_trans (tolds_len _) ro.2.2.2.2.2, ro.2.2.2.2.1⟩
section
variable {P : Program} {w : World} {K : PySem.W.Frag} {mg : Str → Option Value} {base : Heap}
theorem tds_rep {H : Hp} {d : PyData} {x : V} (h : TD H d x) : ∀ n : Nat, TDs H (List.replicate n d) (List.replicate n x)
  | 0 => rfl
  | n + 1 => ⟨x, _, rfl, h, tds_rep h n⟩
theorem td_nil {H : Hp} {a : Addr} (h : H a = some (.tup [])) : TD H (ddsD []) (.ref a) := ⟨a, [], rfl, h, TDs.nil⟩
theorem sz100 {n : Nat} (h : n ≤ 13) : n ≤ sizeLine := len1000 (by omega)
def spUn (K : PySem.W.Frag) : Sp := fun vs H Q _ => ∃ (t : Addr) (Tb : Tab) (bl : List (Str × Int)) (beg : List Dd), vs = [.ref t] ∧ TabAt K H t Tb bl beg ∧ TabOk bl.length Tb ∧ beg.length ≤ 3 ∧ ∀ (H' : Hp) (c : Addr), Same H H' → ChartAt K H' c Tb.nf bl (tolds beg) (wysT Tb) → Q (.ref c) H'
theorem ok_unnested (T : Tp K mg) : GFn P w K mg base 5 "unnested" ["table"] (spUn K) := by
  have G_ways_of : GFn P w K mg base 3 "ways_of" ["table", "flat"] (spWaysOf K) := ok_ways_of T
  have G_told : GFn P w K mg base 1 "told" ["rows"] spTold := ok_told T
  have G_Tree : GMk P w K mg base 1 "Tree" (He.ga K "Tree") ["self", "kinds", "elders", "starts"] (spTree K) := ok_Tree T
  have G_Chart : GMk P w K mg base 3 "Chart" (He.ga K "Chart") ["self", "boxes", "names", "tree", "ins", "outs", "ways"] (spChart K) := ok_Chart T
  refine gfn T.g_unnested (mk_ok T.f_unnested sc_unnested (bn_unnested "unnested") (fun vs H Q E h => ?_) (fun cdv A outer s H vs Q E hr h => ?_))
  · obtain ⟨t, Tb, bl, beg, rfl, _⟩ := h
    rfl
  · obtain ⟨t, Tb, bl, beg, rfl, htab, tok, hbl, q⟩ := h
    refine ⟨_, (pss_cons (ps_set (i := 1) sc_unnested.nd rfl (Or.inl rfl) (pe_callB call_len_seq (by rfl) T.m_len PySem.boot_len (pa_cons (pe_fld (pv 0) rfl) pa_nil)))
      (pss_cons (ps_set (i := 2) sc_unnested.nd rfl (Or.inl rfl) (pe_op op_cat (pe_lst (pa_cons pe_str pa_nil)) (pe_lc (own := [("flat", 5)]) (g := gName 5) (tt := tYes) rfl sc_unnested.nd (pi_range1 rfl T.m_range (pa_cons (pv 1) pa_nil)) (blkOk_by (own := [("flat", 5)]) (N := ["table", "many", "names", "tree", "ways", "flat", "ins"]) (sc := defScope s_unnested) (by decide +kernel)) (fun _ _ _ _ _ => pg_name (i := 5) sc_unnested.nd rfl (Or.inl rfl)) (fun _ _ _ _ _ => pts_nil) (fun _ _ _ _ _ => (pe_op op_add_str pe_str (pe_callTy call_str_int (by rfl) T.m_str (by decide +kernel) (pa_cons (pv 5) pa_nil)))))))
      (pss_cons (ps_set (i := 3) sc_unnested.nd rfl (Or.inl rfl) (pe_gk G_Tree hr rfl (pa_cons (pe_op op_cat (pe_lst (pa_cons pe_str pa_nil)) (pe_op op_rep (pe_lst (pa_cons pe_str pa_nil)) (pv 1))) (pa_cons (pe_op op_cat (pe_lst (pa_cons (pe_un un_neg pe_int) pa_nil)) (pe_op op_rep (pe_lst (pa_cons pe_int pa_nil)) (pv 1))) (pa_cons (pe_op op_cat (pe_lst (pa_cons pe_int pa_nil)) (pe_op op_rep (pe_lst (pa_cons (pe_un un_neg pe_int) pa_nil)) (pv 1))) pa_nil)))))
      (pss_cons (ps_set (i := 4) sc_unnested.nd rfl (Or.inl rfl) (pe_lst pa_nil))
      (pss_cons (ps_for PassesOwn.never rfl (pi_range1 rfl T.m_range (pa_cons (pv 1) pa_nil)) (pg_name (i := 5) sc_unnested.nd rfl (Or.inl rfl))
        (pss_one (ps_expr (pe_bm PySem.F.plainAttrs_list PySem.F.slot_list_extend PySem.F.type_list_extend mt_extend (pv 4) (pa_cons (pe_g G_ways_of hr rfl (pa_cons (pv 0) (pa_cons (pv 5) pa_nil))) pa_nil)))))
      (pss_cons (ps_set (i := 6) sc_unnested.nd rfl (Or.inl rfl) (pe_op op_cat (pe_lst (pa_cons (pe_callTy call_tuple_of (by rfl) T.m_tuple (by decide +kernel) (pa_cons (pe_g G_told hr rfl (pa_cons (pe_fld (pv 0) rfl) pa_nil)) pa_nil)) pa_nil)) (pe_op op_rep (pe_lst (pa_cons (pe_tup pa_nil) pa_nil)) (pv 1))))
      (pss_one (ps_ret (pe_gk G_Chart hr rfl (pa_cons (pe_fld (pv 0) rfl) (pa_cons (pv 2) (pa_cons (pv 3) (pa_cons (pv 6) (pa_cons (pe_op op_rep (pe_lst (pa_cons (pe_tup pa_nil) pa_nil)) (pe_op op_add (pv 1) pe_int)) (pa_cons (pv 4) pa_nil))))))))))))))), ?_⟩
    obtain ⟨dxt, bxa, sga, bga, fla, rwa, fls, ht, ⟨bs, hbs, tbs⟩, hsg, hbg, hfl, hfn, hrw⟩ := htab.ex
    have hn := tok.nf.2
    refine ⟨_, rfl, t, _, dxt, _, _, rfl, ht, T.c_Table, T.n_Table_flats, rfl, fla, fls, rfl, .inl (SqL.of hfl), ?_⟩
    rw [hfn]
    refine ⟨by show 1 ≤ sizeLine; decide, fun l1 m1 => ?_⟩
    have s1 := same_upd (o := .lst [.str "flat"]) m1
    have h1 : (upd H l1 (.lst [.str "flat"])) l1 = some (.lst [.str "flat"]) := upd_same
    refine ⟨_, rfl, Tb.nf, rfl, by omega, by omega, fun D hD => lc_range (lo := 0) (n := Tb.nf) (fun i H' => Same (upd H l1 (.lst [.str "flat"])) H' ∧ ∃ xs, xs.length = i ∧ H' D = some (.lst xs)) ⟨same_upd hD, [], rfl, upd_same⟩ ?_ ?_⟩
    · rintro i H' hi ⟨sm, xs, hxl, hx⟩
      rw [Int.zero_add]
      obtain ⟨z1, z2⟩ := f_len ⟨i, by omega⟩
      refine ⟨rfl, _, rfl, (i : Int), rfl, z2, _, _, rfl, rfl, len1000 z1, xs, hx, small1000 (by omega), same_put sm hD, _, by rw [List.length_append, hxl]; rfl, upd_same⟩
    · rintro H2 ⟨sm, xs, hxl, hx⟩
      refine ⟨l1, D, _, xs, rfl, rfl, sm _ _ h1, hx, len1000 (by show 1 + xs.length ≤ 1000; omega), fun nm mnm => ?_⟩
      have s3 := (s1.trans sm).trans (same_upd (o := .lst ([.str "flat"] ++ xs)) mnm)
      have hnm : (upd H2 nm (.lst ([.str "flat"] ++ xs))) nm = some (.lst ([.str "flat"] ++ xs)) := upd_same
      generalize (upd H2 nm (.lst ([.str "flat"] ++ xs))) = H3 at s3 hnm
      -- kinds
      refine ⟨by show 1 ≤ sizeLine; decide, fun a1 n1 => ⟨by show 1 ≤ sizeLine; decide, fun a2 n2 => ⟨_, rfl, a2, Tb.nf, _, rfl, rfl, upd_same, by omega, by omega, sz100 (by show 1 * Tb.nf ≤ 13; omega), fun a3 n3 => ?_⟩⟩⟩
      rw [Int.toNat_natCast, rep_flat]
      have ka := same_upd (o := .lst [.str "leaf"]) n2
      have kb := same_upd (o := .lst (List.replicate Tb.nf (.str "leaf"))) n3
      refine ⟨a1, a3, _, _, rfl, rfl, kb _ _ (ka _ _ upd_same), upd_same, len1000 (by rw [List.length_replicate]; show 1 + Tb.nf ≤ 1000; omega), fun kd n4 => ?_⟩
      have s4 := (((same_upd (o := .lst [.str "one"]) n1).trans ka).trans kb).trans (same_upd (o := .lst ([.str "one"] ++ List.replicate Tb.nf (.str "leaf"))) n4)
      have hkd : (upd (upd (upd (upd H3 a1 (.lst [.str "one"])) a2 (.lst [.str "leaf"])) a3 (.lst (List.replicate Tb.nf (.str "leaf")))) kd (.lst ([.str "one"] ++ List.replicate Tb.nf (.str "leaf")))) kd = some (.lst ([.str "one"] ++ List.replicate Tb.nf (.str "leaf"))) := upd_same
      generalize (upd (upd (upd (upd H3 a1 (.lst [.str "one"])) a2 (.lst [.str "leaf"])) a3 (.lst (List.replicate Tb.nf (.str "leaf")))) kd (.lst ([.str "one"] ++ List.replicate Tb.nf (.str "leaf")))) = H4 at s4 hkd
      -- elders
      refine ⟨_, rfl, by show 1 ≤ sizeLine; decide, fun b1 p1 => ⟨by show 1 ≤ sizeLine; decide, fun b2 p2 => ⟨_, rfl, b2, Tb.nf, _, rfl, rfl, upd_same, by omega, by omega, sz100 (by show 1 * Tb.nf ≤ 13; omega), fun b3 p3 => ?_⟩⟩⟩
      rw [Int.toNat_natCast, rep_flat]
      have ea := same_upd (o := .lst [.int 0]) p2
      have eb := same_upd (o := .lst (List.replicate Tb.nf (.int 0))) p3
      refine ⟨b1, b3, _, _, rfl, rfl, eb _ _ (ea _ _ upd_same), upd_same, len1000 (by rw [List.length_replicate]; show 1 + Tb.nf ≤ 1000; omega), fun ed p4 => ?_⟩
      have s5 := (((same_upd (o := .lst [.int (-1)]) p1).trans ea).trans eb).trans (same_upd (o := .lst ([.int (-1)] ++ List.replicate Tb.nf (.int 0))) p4)
      have hed : (upd (upd (upd (upd H4 b1 (.lst [.int (-1)])) b2 (.lst [.int 0])) b3 (.lst (List.replicate Tb.nf (.int 0)))) ed (.lst ([.int (-1)] ++ List.replicate Tb.nf (.int 0)))) ed = some (.lst ([.int (-1)] ++ List.replicate Tb.nf (.int 0))) := upd_same
      generalize (upd (upd (upd (upd H4 b1 (.lst [.int (-1)])) b2 (.lst [.int 0])) b3 (.lst (List.replicate Tb.nf (.int 0)))) ed (.lst ([.int (-1)] ++ List.replicate Tb.nf (.int 0)))) = H5 at s5 hed
      -- starts
      refine ⟨by show 1 ≤ sizeLine; decide, fun c1 r1 => ⟨_, rfl, by show 1 ≤ sizeLine; decide, fun c2 r2 => ⟨_, rfl, c2, Tb.nf, _, rfl, rfl, upd_same, by omega, by omega, sz100 (by show 1 * Tb.nf ≤ 13; omega), fun c3 r3 => ?_⟩⟩⟩
      rw [Int.toNat_natCast, rep_flat]
      have sa := same_upd (o := .lst [.int (-1)]) r2
      have sb := same_upd (o := .lst (List.replicate Tb.nf (.int (-1)))) r3
      refine ⟨c1, c3, _, _, rfl, rfl, sb _ _ (sa _ _ upd_same), upd_same, len1000 (by rw [List.length_replicate]; show 1 + Tb.nf ≤ 1000; omega), fun st r4 => ?_⟩
      have s6 := (((same_upd (o := .lst [.int 1]) r1).trans sa).trans sb).trans (same_upd (o := .lst ([.int 1] ++ List.replicate Tb.nf (.int (-1)))) r4)
      have hst : (upd (upd (upd (upd H5 c1 (.lst [.int 1])) c2 (.lst [.int (-1)])) c3 (.lst (List.replicate Tb.nf (.int (-1))))) st (.lst ([.int 1] ++ List.replicate Tb.nf (.int (-1))))) st = some (.lst ([.int 1] ++ List.replicate Tb.nf (.int (-1)))) := upd_same
      generalize (upd (upd (upd (upd H5 c1 (.lst [.int 1])) c2 (.lst [.int (-1)])) c3 (.lst (List.replicate Tb.nf (.int (-1))))) st (.lst ([.int 1] ++ List.replicate Tb.nf (.int (-1))))) = H6 at s6 hst
      intro tr dxr ntr ndxr ner
      have hkd6 := s6 _ _ (s5 _ _ hkd)
      have hed6 := s6 _ _ hed
      have s7 : Same H6 (upd (upd H6 dxr (.own tr)) tr (.ins (He.ga K "Tree") dxr [])) := fun b' o' e' => by
        rw [upd_ne (ne_of_none e' ntr), upd_ne (ne_of_none e' ndxr)]
        exact e'
      refine ⟨tr, dxr, kd, ed, st, _, _, _, rfl, upd_same, s7 _ _ hkd6, s7 _ _ hed6, s7 _ _ hst, fun H8 k' e' s' g0 g1 g2 g3 kb => ⟨rfl, ?_⟩⟩
      have s8 : Same H6 H8 := Same.made ntr ndxr kb
      have htr : TreeAt K H8 tr Tb.nf := ⟨dxr, k', e', s', g0, by
        have e : strV (("one" : Str) :: List.replicate Tb.nf ("leaf" : Str)) = [V.str "one"] ++ List.replicate Tb.nf (V.str "leaf") := by unfold strV; rw [List.map_cons, List.map_replicate]; rfl
        rw [e]; exact g1, by
        have e : iV ((-1) :: List.replicate Tb.nf 0) = [V.int (-1)] ++ List.replicate Tb.nf (V.int 0) := by unfold iV; rw [List.map_cons, List.map_replicate]; rfl
        rw [e]; exact g2, by
        have e : iV (1 :: List.replicate Tb.nf (-1)) = [V.int 1] ++ List.replicate Tb.nf (V.int (-1)) := by unfold iV; rw [List.map_cons, List.map_replicate]; rfl
        rw [e]; exact g3⟩
      have s38 := ((s4.trans s5).trans s6).trans s8
      have s08 := s3.trans s38
      have hnm8 := s38 _ _ hnm
      refine ⟨Nat.zero_le _, fun wy nwy => ?_⟩
      have s9 := same_upd (o := .lst []) nwy
      have nwy0 : H wy = none := s08.free nwy
      refine ⟨_, rfl, Tb.nf, rfl, by omega, by omega, for_range (lo := 0) (n := Tb.nf) (fun i σ H' => ∃ v5, σ = [some (.ref t), some (.int (Tb.nf : Nat)), some (.ref nm), some (.ref tr), some (.ref wy), v5, none] ∧ Same H8 H' ∧ TL H' wy (((List.range i).flatMap (wysF Tb)).map wyD)) ⟨none, rfl, s9, [], upd_same, TDs.nil⟩ ?_ ?_⟩
      · rintro i σ H' hi ⟨v5, rfl, sm9, ys, hy, tys⟩
        rw [Int.zero_add]
        have sm0 := s08.trans sm9
        have hyl : ys.length ≤ i * 6 := by
          rw [tys.len, List.length_map]
          exact wysR_len tok i (by omega)
        refine ⟨_, rfl, .inl ⟨rfl, _, SqL.of hy⟩, _, rfl, _, rfl, t, i, bl.length, Tb, bl, beg, rfl, htab.mono (xn_of sm0), tok, hi, fun H9 r s10 nr ⟨zs, hz, tz⟩ => ?_⟩
        have hzl : zs.length ≤ 6 := by
          rw [tz.len, List.length_map]
          exact wysF_len2 tok hi
        have hy9 := s10 _ _ hy
        refine ⟨wy, r, _, _, rfl, rfl, hy9, hz, len1000 (by omega), ?_⟩
        refine ⟨_, rfl, same_put (sm9.trans s10) nwy, _, upd_same, ?_⟩
        rw [List.range_succ, List.flatMap_append, List.map_append]
        have e : (List.flatMap (wysF Tb) [i]) = wysF Tb i := by simp
        rw [e]
        exact TDs.app (TDs.mono ((TS.of s10).trans (ts_put hy9)) _ _ tys) (TDs.mono (ts_put hy9) _ _ tz)
      · rintro σ H10 ⟨v5, rfl, sm9, hwy⟩
        have s010 := s08.trans sm9
        refine ⟨_, rfl, t, _, dxt, _, _, rfl, s010 _ _ ht, T.c_Table, T.n_Table_begin, rfl, .ref bga, beg, rfl, TD.mono (TS.of s010) _ _ hbg, by omega, fun H11 c s11 nc ⟨cs, hcc, tcs⟩ => ?_⟩
        refine ⟨c, cs, rfl, .inl ⟨SqL.of hcc, fun l nl => ?_⟩⟩
        have s12 := s11.trans (same_upd (o := .tup cs) nl)
        have hl : (upd H11 l (.tup cs)) l = some (.tup cs) := upd_same
        have tcs' := TDs.mono (TS.of (same_upd (o := .tup cs) nl)) _ _ tcs
        generalize (upd H11 l (.tup cs)) = H12 at s12 hl tcs'
        refine ⟨by show 1 ≤ sizeLine; decide, fun i1 ni1 => ⟨by show 0 ≤ sizeLine; exact Nat.zero_le _, fun e0 ne0 => ⟨by show 1 ≤ sizeLine; decide, fun i2 ni2 => ⟨_, rfl, i2, Tb.nf, _, rfl, rfl, upd_same, by omega, by omega, sz100 (by show 1 * Tb.nf ≤ 13; omega), fun i3 ni3 => ?_⟩⟩⟩⟩
        rw [Int.toNat_natCast, rep_flat]
        have ia := same_upd (o := .tup []) ne0
        have ib := same_upd (o := .lst [.ref e0]) ni2
        have ic := same_upd (o := .lst (List.replicate Tb.nf (.ref e0))) ni3
        refine ⟨i1, i3, _, _, rfl, rfl, ic _ _ (ib _ _ (ia _ _ upd_same)), upd_same, len1000 (by rw [List.length_replicate]; show 1 + Tb.nf ≤ 1000; omega), fun is nis => ?_⟩
        have s13 := ((((same_upd (o := .lst [.ref l]) ni1).trans ia).trans ib).trans ic).trans (same_upd (o := .lst ([.ref l] ++ List.replicate Tb.nf (.ref e0))) nis)
        have his : (upd (upd (upd (upd (upd H12 i1 (.lst [.ref l])) e0 (.tup [])) i2 (.lst [.ref e0])) i3 (.lst (List.replicate Tb.nf (.ref e0)))) is (.lst ([.ref l] ++ List.replicate Tb.nf (.ref e0)))) is = some (.lst ([.ref l] ++ List.replicate Tb.nf (.ref e0))) := upd_same
        have he0 := (same_upd (o := .lst ([.ref l] ++ List.replicate Tb.nf (.ref e0))) nis) _ _ (ic _ _ (ib _ _ (upd_same (H := upd H12 i1 (.lst [.ref l])) (a := e0) (o := .tup []))))
        generalize (upd (upd (upd (upd (upd H12 i1 (.lst [.ref l])) e0 (.tup [])) i2 (.lst [.ref e0])) i3 (.lst (List.replicate Tb.nf (.ref e0)))) is (.lst ([.ref l] ++ List.replicate Tb.nf (.ref e0)))) = H13 at s13 his he0
        have s013 := (s010.trans s12).trans s13
        refine ⟨_, rfl, t, _, dxt, _, _, rfl, s013 _ _ ht, T.c_Table, T.n_Table_boxes, rfl, _, rfl, _, rfl, _, rfl, Nat.zero_le _, fun o0 no0 => ⟨by show 1 ≤ sizeLine; decide, fun o1 no1 => ⟨_, rfl, _, _, rfl, rfl, o1, ((Tb.nf + 1 : Nat) : Int), _, rfl, rfl, upd_same, by omega, by omega, len1000 (by show 1 * (Tb.nf + 1) ≤ 1000; omega), fun os nos => ?_⟩⟩⟩
        rw [Int.toNat_natCast, rep_flat]
        have oa := same_upd (o := .tup []) no0
        have ob' := same_upd (o := .lst [.ref o0]) no1
        have oc := same_upd (o := .lst (List.replicate (Tb.nf + 1) (.ref o0))) nos
        have ho0 := oc _ _ (ob' _ _ (upd_same (H := H13) (a := o0) (o := .tup [])))
        have hos : (upd (upd (upd H13 o0 (.tup [])) o1 (.lst [.ref o0])) os (.lst (List.replicate (Tb.nf + 1) (.ref o0)))) os = some (.lst (List.replicate (Tb.nf + 1) (.ref o0))) := upd_same
        have s14 := (oa.trans ob').trans oc
        generalize (upd (upd (upd H13 o0 (.tup [])) o1 (.lst [.ref o0])) os (.lst (List.replicate (Tb.nf + 1) (.ref o0)))) = H14 at s14 ho0 hos
        have s014 := s013.trans s14
        refine ⟨_, rfl, ?_⟩
        intro ch dxc nch ndxc nec
        have s15 : Same H14 (upd (upd H14 dxc (.own ch)) ch (.ins (He.ga K "Chart") dxc [])) := fun b' o' e' => by
          rw [upd_ne (ne_of_none e' nch), upd_ne (ne_of_none e' ndxc)]
          exact e'
        have s1315 := s14.trans s15
        have s1215 := s13.trans s1315
        have s815 := ((sm9.trans s12).trans s1215)
        have s015 := s014.trans s15
        refine ⟨ch, dxc, bxa, nm, tr, is, os, wy, Tb.nf, bl, tolds beg, wysT Tb, _, rfl, upd_same, ⟨bs, s015 _ _ hbs, TDs.mono (TS.of s015) _ _ tbs⟩, s815 _ _ hnm8, htr.mono (xn_of s815), ⟨_, s1315 _ _ his, ?_⟩, ⟨_, s15 _ _ hos, tds_rep (td_nil (s15 _ _ ho0)) _⟩, ?_, fun H16 hch kb => ⟨rfl, ?_⟩⟩
        · exact .cons ⟨l, cs, rfl, s1215 _ _ hl, TDs.mono (TS.of s1215) _ _ tcs'⟩ (tds_rep (td_nil (s1315 _ _ he0)) _)
        · exact hwy.same (s12.trans s1215)
        · exact q H16 ch (s014.trans (Same.made nch ndxc kb)) hch
end
end K56
set_option Elab.async false
set_option linter.all false
set_option maxRecDepth 100000
set_option maxHeartbeats 4000000
namespace K56
open PySem PySem.Spec PyProof.Rows L2
/-- a pot: a list of one int -/
def Pot (H : Hp) (a : Addr) : Prop := ∃ z : Int, H a = some (.lst [.int z])
theorem kb_pot_ts {H H' : Hp} {a : Addr} (h : Pot H a) (k : Kb a H H') : TS H H' := fun b xs e => k b _ e (ne_of e h.choose_spec (by intro z; cases z))
theorem kb_fresh {H H1 H' : Hp} {a : Addr} (s : Same H H1) (n : H a = none) (k : Kb a H1 H') : Same H H' := fun b o e => k b o (s b o e) (ne_of_none e n)
theorem kb_same {H H1 H' : Hp} {a : Addr} (k : Kb a H H1) (s : Same H1 H') : Kb a H H' := k.trans (Kb.of s)
section
variable {P : Program} {w : World} {K : PySem.W.Frag} {mg : Str → Option Value} {base : Heap}
def spCell (K : PySem.W.Frag) : Sp := fun vs H Q _ => ∃ (a : Addr) (ns : List Int) (k : Nat), vs = [.ref a, .int (k : Nat)] ∧ SqL K H a (iV ns) ∧ ∀ z : Int, Q (.int z) H
theorem ok_cell (T : Tp K mg) : GFn P w K mg base 1 "_law_cell_at" ["script", "k"] (spCell K) := by
  refine gfn T.g_law_cell_at (mk_ok T.f_law_cell_at sc_law_cell_at (bn_law_cell_at "_law_cell_at") (fun vs H Q E h => ?_) (fun cdv A outer s H vs Q E hr h => ?_))
  · obtain ⟨a, ns, k, rfl, _⟩ := h
    rfl
  · obtain ⟨a, ns, k, rfl, ha, q⟩ := h
    refine ⟨_, (pss_cons (ps_if (pt_cmpR op_lt (pv 1) (pe_callB call_len_seq (by rfl) T.m_len PySem.boot_len (pa_cons (pv 0) pa_nil)) (nomark _))
        (pss_one (ps_ret (pe_ix ix_list (pv 0) (pv 1) (fun _ _ => rfl))))
        pss_nil)
      (pss_one (ps_ret pe_int))), ?_⟩
    refine ⟨_, rfl, _, rfl, a, _, rfl, .inl ha, _, _, rfl, rfl, _, rfl, ite2 (fun e => ?_) (fun e => ?_)⟩
    · have e' := tt_of e
      have hl : (iV ns).length = ns.length := by unfold iV; rw [List.length_map]
      rw [hl] at e'
      exact ⟨_, rfl, _, rfl, a, _, _, _, rfl, rfl, ha, at_iV ⟨by omega, e'⟩, q _⟩
    · exact q 0
def spTake : Sp := fun vs H Q _ => ∃ (a : Addr) (m : Int), vs = [.ref a, .int m] ∧ Pot H a ∧ 0 < m ∧ m.natAbs.log2 < 9000 ∧ ∀ (d : Int) (H' : Hp), 0 ≤ d → d < m → Kb a H H' → Pot H' a → Q (.int d) H'
theorem ok_take (T : Tp K mg) : GFn P w K mg base 1 "_law_take" ["pot", "many"] spTake := by
  refine gfn T.g_law_take (mk_ok T.f_law_take sc_law_take (bn_law_take "_law_take") (fun vs H Q E h => ?_) (fun cdv A outer s H vs Q E hr h => ?_))
  · obtain ⟨a, m, rfl, _⟩ := h
    rfl
  · obtain ⟨a, m, rfl, ⟨z, ha⟩, h0, hl, q⟩ := h
    refine ⟨_, (pss_cons (ps_set (i := 2) sc_law_take.nd rfl (Or.inl rfl) (pe_op op_mod (pe_ix ix_list (pv 0) pe_int (fun _ _ => rfl)) (pv 1)))
      (pss_cons (ps_asg (pe_op op_fdivW (pe_ix ix_list (pv 0) pe_int (fun _ _ => rfl)) (pv 1)) (pg_sub (pv 0) pe_int set_list))
      (pss_one (ps_ret (pv 2))))), ?_⟩
    refine ⟨_, rfl, a, _, _, _, rfl, rfl, SqL.of ha, rfl, _, rfl, z, m, rfl, rfl, h0, ?_⟩
    refine ⟨_, rfl, a, _, _, _, rfl, rfl, SqL.of ha, rfl, _, rfl, z, m, rfl, rfl, ⟨h0, hl⟩, _, rfl, a, _, _, _, rfl, rfl, ha, rfl, ?_⟩
    exact ⟨_, rfl, q _ _ (Int.emod_nonneg _ (by omega)) (Int.emod_lt_of_pos _ h0) kb_put ⟨z / m, upd_same⟩⟩
theorem l2 {m : Int} (h : m.natAbs < 2 ^ 100) (h0 : 0 < m) : m.natAbs.log2 < 9000 := Nat.lt_of_lt_of_le (PySem.Flt.log2_lt_of (by decide) h) (by decide)
def spTerm : Sp := fun vs H Q _ => ∃ (a : Addr) (k : Nat), vs = [.ref a, .int (k : Nat)] ∧ Pot H a ∧ k ≤ 3 ∧ ∀ (t : Tm) (v : V) (H' : Hp), TmOk k t → Kb a H H' → Pot H' a → TD H' (tmD t) v → Q v H'
theorem pot_put {H : Hp} {a p : Addr} {o : HO} (h : Pot H a) (n : H p = none) : Pot (upd H p o) a := by
  obtain ⟨z, h⟩ := h
  exact ⟨z, same_upd n _ _ h⟩
theorem pot_same {H H' : Hp} {a : Addr} (h : Pot H a) (s : Same H H') : Pot H' a := by
  obtain ⟨z, h⟩ := h
  exact ⟨z, s _ _ h⟩
theorem ok_term (T : Tp K mg) : GFn P w K mg base 2 "_law_term" ["pot", "many"] spTerm := by
  have G_law_take : GFn P w K mg base 1 "_law_take" ["pot", "many"] spTake := ok_take T
  refine gfn T.g_law_term (mk_ok T.f_law_term sc_law_term (bn_law_term "_law_term") (fun vs H Q E h => ?_) (fun cdv A outer s H vs Q E hr h => ?_))
  · obtain ⟨a, k, rfl, _⟩ := h
    rfl
  · obtain ⟨a, k, rfl, hp, hk, q⟩ := h
    refine ⟨_, (pss_cons (ps_set (i := 2) sc_law_term.nd rfl (Or.inl rfl) (pe_op op_sub (pe_g G_law_take hr rfl (pa_cons (pv 0) (pa_cons (pe_op op_add (pv 1) pe_int) pa_nil))) pe_int))
      (pss_cons (ps_if (pt_cmpR op_eq (pe_g G_law_take hr rfl (pa_cons (pv 0) (pa_cons pe_int pa_nil))) pe_int (nomark _))
        (pss_one (ps_ret (pe_tup (pa_cons (pv 2) (pa_cons (pe_op op_sub (pe_g G_law_take hr rfl (pa_cons (pv 0) (pa_cons (pe_op op_add (pe_op op_mul pe_int (pe_op op_pow pe_int pe_int)) pe_int) pa_nil))) (pe_op op_pow pe_int pe_int)) pa_nil)))))
        pss_nil)
      (pss_one (ps_ret (pe_tup (pa_cons (pv 2) (pa_cons (pe_op op_sub (pe_g G_law_take hr rfl (pa_cons (pv 0) (pa_cons pe_int pa_nil))) pe_int) pa_nil))))))), ?_⟩
    have mono : ∀ {H1 H2 : Hp}, Kb a H H1 → Kb a H1 H2 → Kb a H H2 := fun x y => x.trans y
    refine ⟨_, rfl, _, rfl, _, _, rfl, rfl, a, (k : Int) + 1, rfl, hp, by omega, l2 (by omega) (by omega), fun d H1 d0 d1 k1 p1 => ?_⟩
    refine ⟨_, _, rfl, rfl, ?_⟩
    have tok : ∀ z : Int, TmOk k (d - 1, z) := fun z => by
      unfold TmOk
      dsimp only
      omega
    refine ⟨_, rfl, a, 3, rfl, p1, by decide, l2 (by decide) (by decide), fun e H2 e0 e1 k2 p2 => ?_⟩
    refine ⟨rfl, _, rfl, ite2 (fun _ => ?_) (fun _ => ?_)⟩
    · refine ⟨_, rfl, _, rfl, _, _, rfl, rfl, ⟨by decide, by decide, by decide⟩, _, _, rfl, rfl, .inl ⟨by decide, by decide⟩, _, _, rfl, rfl, a, _, rfl, p2, by decide, l2 (by decide) (by decide), fun f H3 f0 f1 k3 p3 => ?_⟩
      refine ⟨_, _, rfl, rfl, ⟨by decide, by decide, by decide⟩, _, _, rfl, rfl, by show 2 ≤ sizeLine; decide, fun r nr => ?_⟩
      exact q (d - 1, _) _ _ (tok _) (kb_same (k1.trans (k2.trans k3)) (same_upd nr)) (pot_put p3 nr) (TD.mk2 upd_same TD.ii TD.ii)
    · refine ⟨_, rfl, _, rfl, a, 7, rfl, p2, by decide, l2 (by decide) (by decide), fun f H3 f0 f1 k3 p3 => ?_⟩
      refine ⟨_, _, rfl, rfl, by show 2 ≤ sizeLine; decide, fun r nr => ?_⟩
      exact q (d - 1, _) _ _ (tok _) (kb_same (k1.trans (k2.trans k3)) (same_upd nr)) (pot_put p3 nr) (TD.mk2 upd_same TD.ii TD.ii)
theorem w_str : ∀ k : Fin 3, (("w" : Str).length + (toString ((k.val : Nat) : Int) : Str).length ≤ 1000 ∧ ((k.val : Nat) : Int).natAbs.log2 < 1920) ∧ PyData.strOk (("w" : Str) ++ (toString ((k.val : Nat) : Int) : Str)) = true := by decide +kernel
theorem w_str' {d : Int} (h0 : 0 ≤ d) (h : d < 3) : (("w" : Str).length + (toString d : Str).length ≤ 1000 ∧ d.natAbs.log2 < 1920) ∧ PyData.strOk (("w" : Str) ++ (toString d : Str)) = true := by
  have e := w_str ⟨d.toNat, by omega⟩
  have e2 : ((d.toNat : Nat) : Int) = d := by omega
  rw [← e2]
  exact e
structure HdOk (l : List Str) : Prop where
  ne : 1 ≤ l.length
  le : l.length ≤ 2
  ok : ∀ s ∈ l, PyData.strOk s = true
theorem hd_kb {H H' : Hp} {a h : Addr} {l : List Str} (hh : H h = some (.lst (strV l))) (ho : HdOk l) (hp : Pot H a) (k : Kb a H H') : H' h = some (.lst (strV l)) := by
  refine k _ _ hh (ne_of hh hp.choose_spec fun z => ?_)
  have z : strV l = [V.int _] := HO.lst.inj z
  cases l with
  | nil => cases z
  | cons s l => cases z
def spPiece : Sp := fun vs H Q _ => ∃ (a h : Addr) (k : Nat) (l : List Str), vs = [.ref a, .int (k : Nat), .ref h] ∧ Pot H a ∧ k ≤ 3 ∧ H h = some (.lst (strV l)) ∧ HdOk l ∧ ∀ (d : Dd) (v : V) (H' : Hp), DdOk k d → Kb a H H' → Pot H' a → TD H' (ddD d) v → Q v H'
theorem ok_piece (T : Tp K mg) : GFn P w K mg base 3 "_law_piece" ["pot", "many", "heard"] spPiece := by
  have G_law_take : GFn P w K mg base 1 "_law_take" ["pot", "many"] spTake := ok_take T
  have G_law_term : GFn P w K mg base 2 "_law_term" ["pot", "many"] spTerm := ok_term T
  refine gfn T.g_law_piece (mk_ok T.f_law_piece sc_law_piece (bn_law_piece "_law_piece") (fun vs H Q E h => ?_) (fun cdv A outer s H vs Q E hr h => ?_))
  · obtain ⟨a, h, k, l, rfl, _⟩ := h
    rfl
  · obtain ⟨a, h, k, l, rfl, hp, hk, hh, ho, q⟩ := h
    refine ⟨_, (pss_cons (ps_set (i := 3) sc_law_piece.nd rfl (Or.inl rfl) (pe_g G_law_take hr rfl (pa_cons (pv 0) (pa_cons pe_int pa_nil))))
      (pss_cons (ps_if (pt_cmpR op_lt (pv 3) pe_int (nomark _))
        (pss_one (ps_ret (pe_ix ix_list (pe_lst (pa_cons (pe_tup (pa_cons pe_str (pa_cons pe_int pa_nil))) (pa_cons (pe_tup (pa_cons pe_str (pa_cons pe_int (pa_cons (pe_un un_neg pe_int) (pa_cons pe_int pa_nil))))) (pa_cons (pe_tup (pa_cons pe_str (pa_cons (pe_g G_law_take hr rfl (pa_cons (pv 0) (pa_cons pe_int pa_nil))) pa_nil))) (pa_cons (pe_tup (pa_cons pe_str (pa_cons pe_int pa_nil))) pa_nil))))) (pv 3) (fun _ _ => rfl))))
        pss_nil)
      (pss_cons (ps_if (PW.pt (pw_and (pt_cmpR op_lt (pv 3) pe_int (nomark _)) (pw_and1 (pt_cmpR op_gt (pv 1) pe_int (nomark _)))))
        (pss_cons (ps_set (i := 4) sc_law_piece.nd rfl (Or.inl rfl) (pe_g G_law_take hr rfl (pa_cons (pv 0) (pa_cons (pv 1) pa_nil))))
        (pss_one (ps_ret (pe_tup (pa_cons pe_str (pa_cons (pv 4) (pa_cons (pe_g G_law_term hr rfl (pa_cons (pv 0) (pa_cons (pv 1) pa_nil))) pa_nil)))))))
        pss_nil)
      (pss_cons (ps_if (pt_cmpR op_lt (pv 3) pe_int (nomark _))
        (pss_one (ps_ret (pe_tup (pa_cons pe_str (pa_cons (pe_op op_add_str pe_str (pe_callTy call_str_int (by rfl) T.m_str (by decide +kernel) (pa_cons (pe_g G_law_take hr rfl (pa_cons (pv 0) (pa_cons pe_int pa_nil))) pa_nil))) (pa_cons (pe_g G_law_term hr rfl (pa_cons (pv 0) (pa_cons (pv 1) pa_nil))) pa_nil))))))
        pss_nil)
      (pss_one (ps_ret (pe_tup (pa_cons pe_str (pa_cons (pe_ix ix_list (pv 2) (pe_g G_law_take hr rfl (pa_cons (pv 0) (pa_cons (pe_callB call_len_seq (by rfl) T.m_len PySem.boot_len (pa_cons (pv 2) pa_nil)) pa_nil))) (fun _ _ => rfl)) pa_nil))))))))), ?_⟩
    refine ⟨_, rfl, a, 9, rfl, hp, by decide, l2 (by decide) (by decide), fun d H1 d0 d1 k1 p1 => ?_⟩
    have hh1 := hd_kb hh ho hp k1
    refine ⟨_, rfl, _, _, rfl, rfl, _, rfl, ite2 (fun e => ?_) (fun e => ?_)⟩
    · have d4 : d < 4 := tt_of e
      refine ⟨by show 2 ≤ sizeLine; decide, fun r1 n1 => ⟨_, rfl, by show 4 ≤ sizeLine; decide, fun r2 n2 => ?_⟩⟩
      have s1 := same_upd (o := .tup [.str "out", .int 1]) n1
      have s2 := same_upd (o := .tup [.str "keep", .int 0, .int (-1), .int 2]) n2
      refine ⟨_, rfl, a, 5, rfl, pot_put (pot_put p1 n1) n2, by decide, l2 (by decide) (by decide), fun x H2 x0 x1 k2 p2 => ?_⟩
      refine ⟨by show 2 ≤ sizeLine; decide, fun r3 n3 => ⟨by show 2 ≤ sizeLine; decide, fun r4 n4 => ⟨by show 4 ≤ sizeLine; decide, fun r5 n5 => ?_⟩⟩⟩
      have s3 := same_upd (o := .tup [.str "way", .int x]) n3
      have s4 := same_upd (o := .tup [.str "in", .int 2]) n4
      have s5 := same_upd (o := .lst [.ref r1, .ref r2, .ref r3, .ref r4]) n5
      have ts2 := kb_pot_ts (pot_put (pot_put p1 n1) n2) k2
      have kk : Kb a H _ := kb_same (((kb_same k1 (s1.trans s2))).trans k2) ((s3.trans s4).trans s5)
      have pp := pot_put (o := .lst [.ref r1, .ref r2, .ref r3, .ref r4]) (pot_put (o := .tup [.str "in", .int 2]) (pot_put (o := .tup [.str "way", .int x]) p2 n3) n4) n5
      have t345 := TS.of ((s3.trans s4).trans s5)
      have m1 := t345 _ _ (ts2 _ _ (s2 _ _ (upd_same (H := H1) (a := r1) (o := .tup [.str "out", .int 1]))))
      have m2 := t345 _ _ (ts2 _ _ (upd_same (H := upd H1 r1 (.tup [.str "out", .int 1])) (a := r2) (o := .tup [.str "keep", .int 0, .int (-1), .int 2])))
      have m3 := s5 _ _ (s4 _ _ (upd_same (H := H2) (a := r3) (o := .tup [.str "way", .int x])))
      have m4 := s5 _ _ (upd_same (H := upd H2 r3 (.tup [.str "way", .int x])) (a := r4) (o := .tup [.str "in", .int 2]))
      have dd : d = 0 ∨ d = 1 ∨ d = 2 ∨ d = 3 := by omega
      rcases dd with rfl | rfl | rfl | rfl
      · exact ⟨_, rfl, r5, _, _, _, rfl, rfl, SqL.of upd_same, rfl, q (.mark (.out 1)) _ _ True.intro kk pp (TD.mk2 m1 TD.ss TD.ii)⟩
      · exact ⟨_, rfl, r5, _, _, _, rfl, rfl, SqL.of upd_same, rfl, q (.mark (.keep 0 (-1) 2)) _ _ True.intro kk pp (TD.mk4 m2 TD.ss TD.ii TD.ii TD.ii)⟩
      · exact ⟨_, rfl, r5, _, _, _, rfl, rfl, SqL.of upd_same, rfl, q (.mark (.way x)) _ _ True.intro kk pp (TD.mk2 m3 TD.ss TD.ii)⟩
      · exact ⟨_, rfl, r5, _, _, _, rfl, rfl, SqL.of upd_same, rfl, q (.mark (.inn 2)) _ _ True.intro kk pp (TD.mk2 m4 TD.ss TD.ii)⟩
    · refine ⟨_, rfl, _, _, rfl, rfl, _, rfl, ite2 (fun e6 => ?_) (fun e6 => ?_)⟩
      · refine ⟨_, rfl, _, _, rfl, rfl, _, rfl, ite2 (fun ek => ?_) (fun ek => ?_)⟩
        · have k0 : (0 : Int) < (k : Nat) := tt_of ek
          refine ⟨_, rfl, _, rfl, a, (k : Nat), rfl, p1, k0, l2 (by omega) k0, fun b H2 b0 b1 k2 p2 => ?_⟩
          refine ⟨_, rfl, _, rfl, _, rfl, a, k, rfl, p2, hk, fun t v H3 ht k3 p3 tv => ?_⟩
          refine ⟨by show 3 ≤ sizeLine; decide, fun r nr => ?_⟩
          exact q (.put b t) _ _ ⟨⟨b0, b1⟩, ht⟩ (kb_same (k1.trans (k2.trans k3)) (same_upd nr)) (pot_put p3 nr) (TD.mk3 upd_same TD.ss TD.ii (TD.mono (TS.of (same_upd nr)) _ _ tv))
        · skip
          refine ⟨_, rfl, _, _, rfl, rfl, _, rfl, ite2 (fun e8 => ?_) (fun e8 => ?_)⟩
          · refine ⟨_, rfl, a, 3, rfl, p1, by decide, l2 (by decide) (by decide), fun b H2 b0 b1 k2 p2 => ?_⟩
            obtain ⟨⟨z1, z2⟩, z3⟩ := w_str' b0 b1
            refine ⟨b, rfl, z2, _, _, rfl, rfl, len1000 z1, _, rfl, _, rfl, a, k, rfl, p2, hk, fun t v H3 ht k3 p3 tv => ?_⟩
            refine ⟨by show 3 ≤ sizeLine; decide, fun r nr => ?_⟩
            exact q (.say _ t) _ _ ⟨ht, z3⟩ (kb_same (k1.trans (k2.trans k3)) (same_upd nr)) (pot_put p3 nr) (TD.mk3 upd_same TD.ss TD.ss (TD.mono (TS.of (same_upd nr)) _ _ tv))
          · have hl : (strV l).length = l.length := by unfold strV; rw [List.length_map]
            have l1 := ho.ne
            have l22 := ho.le
            refine ⟨_, rfl, _, rfl, _, rfl, h, _, rfl, .inl (SqL.of hh1), a, ((strV l).length : Nat), rfl, p1, by omega, l2 (by omega) (by omega), fun b H2 b0 b1 k2 p2 => ?_⟩
            have hh2 := hd_kb hh1 ho p1 k2
            have bl : b.toNat < l.length := by omega
            have at_ : atI (strV l) b = some (.str l[b.toNat]) := at_of (j := b.toNat) (by omega) (by unfold strV; rw [List.getElem?_map, List.getElem?_eq_getElem bl]; rfl)
            refine ⟨h, _, _, _, rfl, rfl, SqL.of hh2, at_, by show 2 ≤ sizeLine; decide, fun r nr => ?_⟩
            exact q (.call l[b.toNat]) _ _ (ho.ok _ (List.getElem_mem bl)) (kb_same (k1.trans k2) (same_upd nr)) (pot_put p2 nr) (TD.mk2 upd_same TD.ss TD.ss)
      · refine iteF ?_
        refine ⟨_, rfl, _, _, rfl, rfl, _, rfl, ite2 (fun e8 => ?_) (fun e8 => ?_)⟩
        · refine ⟨_, rfl, a, 3, rfl, p1, by decide, l2 (by decide) (by decide), fun b H2 b0 b1 k2 p2 => ?_⟩
          obtain ⟨⟨z1, z2⟩, z3⟩ := w_str' b0 b1
          refine ⟨b, rfl, z2, _, _, rfl, rfl, len1000 z1, _, rfl, _, rfl, a, k, rfl, p2, hk, fun t v H3 ht k3 p3 tv => ?_⟩
          refine ⟨by show 3 ≤ sizeLine; decide, fun r nr => ?_⟩
          exact q (.say _ t) _ _ ⟨ht, z3⟩ (kb_same (k1.trans (k2.trans k3)) (same_upd nr)) (pot_put p3 nr) (TD.mk3 upd_same TD.ss TD.ss (TD.mono (TS.of (same_upd nr)) _ _ tv))
        · have hl : (strV l).length = l.length := by unfold strV; rw [List.length_map]
          have l1 := ho.ne
          have l22 := ho.le
          refine ⟨_, rfl, _, rfl, _, rfl, h, _, rfl, .inl (SqL.of hh1), a, ((strV l).length : Nat), rfl, p1, by omega, l2 (by omega) (by omega), fun b H2 b0 b1 k2 p2 => ?_⟩
          have hh2 := hd_kb hh1 ho p1 k2
          have bl : b.toNat < l.length := by omega
          have at_ : atI (strV l) b = some (.str l[b.toNat]) := at_of (j := b.toNat) (by omega) (by unfold strV; rw [List.getElem?_map, List.getElem?_eq_getElem bl]; rfl)
          refine ⟨h, _, _, _, rfl, rfl, SqL.of hh2, at_, by show 2 ≤ sizeLine; decide, fun r nr => ?_⟩
          exact q (.call l[b.toNat]) _ _ (ho.ok _ (List.getElem_mem bl)) (kb_same (k1.trans k2) (same_upd nr)) (pot_put p2 nr) (TD.mk2 upd_same TD.ss TD.ss)
def spScript (K : PySem.W.Frag) : Sp := fun vs H Q _ => ∃ (a h : Addr) (k : Nat) (l : List Str), vs = [.ref a, .int (k : Nat), .ref h] ∧ Pot H a ∧ k ≤ 3 ∧ H h = some (.lst (strV l)) ∧ HdOk l ∧ ∀ (ds : List Dd) (r : Addr) (H' : Hp), DdsOk k ds → ds.length ≤ 3 → Kb a H H' → Pot H' a → TD H' (ddsD ds) (.ref r) → Q (.ref r) H'
theorem ok_script (T : Tp K mg) : GFn P w K mg base 4 "_law_script" ["pot", "many", "heard"] (spScript K) := by
  have G_law_take : GFn P w K mg base 1 "_law_take" ["pot", "many"] spTake := ok_take T
  have G_law_piece : GFn P w K mg base 3 "_law_piece" ["pot", "many", "heard"] spPiece := ok_piece T
  refine gfn T.g_law_script (mk_ok T.f_law_script sc_law_script (bn_law_script "_law_script") (fun vs H Q E h => ?_) (fun cdv A outer s H vs Q E hr h => ?_))
  · obtain ⟨a, h, k, l, rfl, _⟩ := h
    rfl
  · obtain ⟨a, h, k, l, rfl, hp, hk, hh, ho, q⟩ := h
    refine ⟨_, (pss_one (ps_ret (pe_callTy call_tuple_of (by rfl) T.m_tuple (by decide +kernel) (pa_cons (pe_lc (own := [("k", 3)]) (g := gName 3) (tt := tYes) rfl sc_law_script.nd (pi_range1 rfl T.m_range (pa_cons (pe_g G_law_take hr rfl (pa_cons (pv 0) (pa_cons pe_int pa_nil))) pa_nil)) (blkOk_by (own := [("k", 3)]) (N := ["pot", "many", "heard", "k"]) (sc := defScope s_law_script) (by decide +kernel)) (fun _ _ _ _ _ => pg_name (i := 3) sc_law_script.nd rfl (Or.inl rfl)) (fun _ _ _ _ _ => pts_nil) (fun _ _ _ _ _ => (pe_g G_law_piece hr rfl (pa_cons (pv 0) (pa_cons (pv 1) (pa_cons (pv 2) pa_nil)))))) pa_nil)))), ?_⟩
    refine ⟨_, rfl, a, 4, rfl, hp, by decide, l2 (by decide) (by decide), fun n H1 n0 n4 k1 p1 => ?_⟩
    have hh1 := hd_kb hh ho hp k1
    refine ⟨n, rfl, by omega, by omega, fun D hD => lc_range (lo := 0) (n := n.toNat) (fun i H' => Kb a H H' ∧ Pot H' a ∧ H' h = some (.lst (strV l)) ∧ ∃ ds, ds.length = i ∧ DdsOk k ds ∧ D ≠ a ∧ TL H' D (ds.map ddD)) ⟨kb_same k1 (same_upd hD), pot_put p1 hD, same_upd hD _ _ hh1, [], rfl, (fun d z => by cases z), (ne_of_none p1.choose_spec hD).symm, [], upd_same, TDs.nil⟩ ?_ ?_⟩
    · rintro i H' hi ⟨kk, pp, hh', ds, hdl, hdo, hDa, xs, hx, txs⟩
      refine ⟨rfl, _, rfl, _, rfl, _, rfl, a, h, k, l, rfl, pp, hk, hh', ho, fun d v H2 okd k2 p2 td => ?_⟩
      have hx2 := k2 _ _ hx hDa
      have xl : xs.length = i := by rw [txs.len, List.length_map, hdl]
      have tp : TS H2 (upd H2 D (.lst (xs ++ [v]))) := ts_put hx2
      have ha2 : a ≠ D := hDa.symm
      obtain ⟨z, hz⟩ := p2
      have hDH : H D = none := by
        cases e : H D with
        | none => rfl
        | some o => exact absurd ((k1 _ _ e hDa).symm.trans hD) (by intro y; cases y)
      refine ⟨xs, hx2, small1000 (by omega), fun b o e n => ?_, ⟨z, by rw [upd_ne ha2]; exact hz⟩, ?_, ds ++ [d], by rw [List.length_append, hdl]; rfl, ?_, hDa, _, upd_same, ?_⟩
      · rw [upd_ne (ne_of_none e hDH)]
        exact (kk.trans k2) b o e n
      · rw [upd_ne (ne_of_none hh hDH)]
        exact hd_kb hh' ho pp k2
      · intro e he
        rcases List.mem_append.mp he with he | he
        · exact hdo e he
        · rw [List.mem_singleton.mp he]; exact okd
      · rw [List.map_append]
        exact (TDs.mono ((kb_pot_ts pp k2).trans tp) _ _ txs).snoc (TD.mono tp _ _ td)
    · rintro H' ⟨kk, pp, hh', ds, hdl, hdo, hDa, xs, hx, txs⟩
      refine ⟨D, xs, rfl, .inl ⟨SqL.of hx, fun r nr => ?_⟩⟩
      exact q ds r _ hdo (by omega) (kb_same kk (same_upd nr)) (pot_put pp nr) ⟨r, xs, rfl, upd_same, TDs.mono (TS.of (same_upd nr)) _ _ txs⟩
end
end K56
set_option Elab.async false
set_option linter.all false
set_option maxRecDepth 100000
set_option maxHeartbeats 4000000
namespace K56
open PySem PySem.Spec PyProof.Rows L2
def RwOk (k f : Nat) (r : Rw) : Prop := AsksOk k r.asks ∧ AsksM r.asks ∧ DdsOk k r.scr ∧ r.nxt < f ∧ r.asks.length ≤ 2 ∧ r.scr.length ≤ 3
theorem mrk_at {d : Int} (h0 : 0 ≤ d) (h : d < 4) : ∃ s : Str, atI [V.str "<", V.str "<=", V.str "=", V.str "!="] d = some (.str s) ∧ decide (V.str s = V.str "open") = false ∧ decide (V.str s = V.str "shut") = false := by
  have dd : d = 0 ∨ d = 1 ∨ d = 2 ∨ d = 3 := by omega
  rcases dd with rfl | rfl | rfl | rfl
  · exact ⟨_, rfl, by decide +kernel, by decide +kernel⟩
  · exact ⟨_, rfl, by decide +kernel, by decide +kernel⟩
  · exact ⟨_, rfl, by decide +kernel, by decide +kernel⟩
  · exact ⟨_, rfl, by decide +kernel, by decide +kernel⟩
theorem nat_ii {H : Hp} {x : Int} (h : 0 ≤ x) : TD H (.int ((x.toNat : Nat) : Int)) (.int x) := by
  have e : ((x.toNat : Nat) : Int) = x := by omega
  rw [e]
  exact TD.ii
theorem tl_kb {H H' : Hp} {a r : Addr} {ds : List PyData} (h : TL H r ds) (p : Pot H a) (n : r ≠ a) (k : Kb a H H') : TL H' r ds := h.mono (kb_pot_ts p k) fun xs e => k _ _ e n
section
variable {P : Program} {w : World} {K : PySem.W.Frag} {mg : Str → Option Value} {base : Heap}
def spRows (K : PySem.W.Frag) : Sp := fun vs H Q _ => ∃ (c : Int) (h : Addr) (k f : Nat) (l : List Str), vs = [.int c, .int (k : Nat), .ref h, .int (f : Nat)] ∧ k ≤ 3 ∧ H h = some (.lst (strV l)) ∧ HdOk l ∧ 1 ≤ f ∧ f ≤ 13 ∧ ∀ (rs : List Rw) (r : Addr) (H' : Hp), (∀ x ∈ rs, RwOk k f x) → rs.length ≤ 3 → Same H H' → H r = none → TL H' r (rs.map rwD) → Q (.ref r) H'
theorem ok_rows (T : Tp K mg) : GFn P w K mg base 5 "_law_rows" ["cell", "many", "heard", "flats"] (spRows K) := by
  have G_law_take : GFn P w K mg base 1 "_law_take" ["pot", "many"] spTake := ok_take T
  have G_law_term : GFn P w K mg base 2 "_law_term" ["pot", "many"] spTerm := ok_term T
  have G_law_script : GFn P w K mg base 4 "_law_script" ["pot", "many", "heard"] (spScript K) := ok_script T
  refine gfn T.g_law_rows (mk_ok T.f_law_rows sc_law_rows (bn_law_rows "_law_rows") (fun vs H Q E h => ?_) (fun cdv A outer s H vs Q E hr h => ?_))
  · obtain ⟨c, h, k, f, l, rfl, _⟩ := h
    rfl
  · obtain ⟨c, h, k, f, l, rfl, hk, hh, ho, hf1, hf, q⟩ := h
    refine ⟨_, (pss_cons (ps_set (i := 4) sc_law_rows.nd rfl (Or.inl rfl) (pe_lst (pa_cons (pe_op op_mod (pv 0) (pe_op op_pow pe_int pe_int)) pa_nil)))
      (pss_cons (ps_set (i := 5) sc_law_rows.nd rfl (Or.inl rfl) (pe_lst pa_nil))
      (pss_cons (ps_for PassesOwn.never rfl (pi_range1 rfl T.m_range (pa_cons (pe_g G_law_take hr rfl (pa_cons (pv 4) (pa_cons pe_int pa_nil))) pa_nil)) (pg_name (i := 6) sc_law_rows.nd rfl (Or.inl rfl))
        (pss_cons (ps_set (i := 7) sc_law_rows.nd rfl (Or.inl rfl) (pe_lst pa_nil))
        (pss_cons (ps_for PassesOwn.never rfl (pi_range1 rfl T.m_range (pa_cons (pe_op op_add pe_int (pe_g G_law_take hr rfl (pa_cons (pv 4) (pa_cons pe_int pa_nil)))) pa_nil)) (pg_name (i := 8) sc_law_rows.nd rfl (Or.inl rfl))
          (pss_cons (ps_set (i := 9) sc_law_rows.nd rfl (Or.inl rfl) (pe_ix ix_list (pe_lst (pa_cons pe_str (pa_cons pe_str (pa_cons pe_str (pa_cons pe_str pa_nil))))) (pe_g G_law_take hr rfl (pa_cons (pv 4) (pa_cons pe_int pa_nil))) (fun _ _ => rfl)))
          (pss_cons (ps_set (i := 10) sc_law_rows.nd rfl (Or.inl rfl) (pe_g G_law_term hr rfl (pa_cons (pv 4) (pa_cons (pv 1) pa_nil))))
          (pss_one (ps_expr (pe_bm PySem.F.plainAttrs_list PySem.F.slot_list_append PySem.F.type_list_append mt_append (pv 7) (pa_cons (pe_tup (pa_cons (pv 9) (pa_cons (pv 10) (pa_cons (pe_g G_law_term hr rfl (pa_cons (pv 4) (pa_cons (pv 1) pa_nil))) pa_nil)))) pa_nil)))))))
        (pss_cons (ps_set (i := 11) sc_law_rows.nd rfl (Or.inl rfl) (pe_g G_law_script hr rfl (pa_cons (pv 4) (pa_cons (pv 1) (pa_cons (pv 2) pa_nil)))))
        (pss_one (ps_expr (pe_bm PySem.F.plainAttrs_list PySem.F.slot_list_append PySem.F.type_list_append mt_append (pv 5) (pa_cons (pe_tup (pa_cons (pe_callTy call_tuple_of (by rfl) T.m_tuple (by decide +kernel) (pa_cons (pv 7) pa_nil)) (pa_cons (pv 11) (pa_cons (pe_g G_law_take hr rfl (pa_cons (pv 4) (pa_cons (pv 3) pa_nil))) pa_nil)))) pa_nil))))))))
      (pss_cons (ps_set (i := 11) sc_law_rows.nd rfl (Or.inl rfl) (pe_g G_law_script hr rfl (pa_cons (pv 4) (pa_cons (pv 1) (pa_cons (pv 2) pa_nil)))))
      (pss_cons (ps_expr (pe_bm PySem.F.plainAttrs_list PySem.F.slot_list_append PySem.F.type_list_append mt_append (pv 5) (pa_cons (pe_tup (pa_cons (pe_tup pa_nil) (pa_cons (pv 11) (pa_cons (pe_g G_law_take hr rfl (pa_cons (pv 4) (pa_cons (pv 3) pa_nil))) pa_nil)))) pa_nil)))
      (pss_one (ps_ret (pv 5)))))))), ?_⟩
    refine ⟨_, rfl, _, _, rfl, rfl, ⟨by decide, by decide, by decide⟩, _, _, rfl, rfl, (by show (0 : Int) < 10 ^ Int.toNat 64; decide +kernel), by show 1 ≤ sizeLine; decide, fun a na => ?_⟩
    have s1 := same_upd (o := .lst [.int (c % 10 ^ Int.toNat 64)]) na
    have p1 : Pot (upd H a (.lst [.int (c % 10 ^ Int.toNat 64)])) a := ⟨_, upd_same⟩
    generalize (upd H a (.lst [.int (c % 10 ^ Int.toNat 64)])) = H1 at s1 p1
    refine ⟨Nat.zero_le _, fun r nr => ?_⟩
    have nr0 : H r = none := s1.free nr
    have s2 := s1.trans (same_upd (o := .lst []) nr)
    have p2 := pot_put (o := .lst []) p1 nr
    have ra : r ≠ a := (ne_of_none p1.choose_spec nr).symm
    have hr2 : TL (upd H1 r (.lst [])) r (([] : List Rw).map rwD) := ⟨[], upd_same, TDs.nil⟩
    generalize (upd H1 r (.lst [])) = H2 at s2 p2 hr2
    refine ⟨_, rfl, a, 3, rfl, p2, by decide, l2 (by decide) (by decide), fun n H3 n0 n3 k3 p3 => ?_⟩
    refine ⟨n, rfl, by omega, by omega, for_range (lo := 0) (n := n.toNat) (fun i σ H' => ∃ v6 v7 v8 v9 v10 v11, σ = [some (.int c), some (.int (k : Nat)), some (.ref h), some (.int (f : Nat)), some (.ref a), some (.ref r), v6, v7, v8, v9, v10, v11] ∧ Same H H' ∧ Pot H' a ∧ ∃ rs, rs.length = i ∧ (∀ x ∈ rs, RwOk k f x) ∧ TL H' r (rs.map rwD))
      ⟨none, none, none, none, none, none, rfl, kb_fresh s2 na k3, p3, [], rfl, (fun x z => by cases z), tl_kb hr2 p2 ra k3⟩ ?_ ?_⟩
    · rintro i σ H4 hi ⟨v6, v7, v8, v9, v10, v11, rfl, s4, p4, rs, hrl, hro, hrr⟩
      refine ⟨Nat.zero_le _, fun qa nq => ?_⟩
      have qaa : qa ≠ a := (ne_of_none p4.choose_spec nq).symm
      have qar : qa ≠ r := (ne_of_none hrr.choose_spec.1 nq).symm
      have nq0 : H qa = none := s4.free nq
      have s5 := s4.trans (same_upd (o := .lst []) nq)
      have p5 := pot_put (o := .lst []) p4 nq
      have hrr5 := hrr.same (same_upd (o := .lst []) nq)
      have hq5 : TL (upd H4 qa (.lst [])) qa (([] : List Ask).map askD) := ⟨[], upd_same, TDs.nil⟩
      generalize (upd H4 qa (.lst [])) = H5 at s5 p5 hrr5 hq5
      refine ⟨_, rfl, a, 2, rfl, p5, by decide, l2 (by decide) (by decide), fun m H6 m0 m2 k6 p6 => ?_⟩
      refine ⟨_, _, rfl, rfl, _, rfl, by omega, by omega, for_range (lo := 0) (n := (1 + m).toNat) (fun j σ H' => ∃ v8 v9 v10 v11, σ = [some (.int c), some (.int (k : Nat)), some (.ref h), some (.int (f : Nat)), some (.ref a), some (.ref r), some (.int (0 + (i : Nat))), some (.ref qa), v8, v9, v10, v11] ∧ Same H H' ∧ Pot H' a ∧ TL H' r (rs.map rwD) ∧
        ∃ as, as.length = j ∧ AsksOk k as ∧ AsksM as ∧ TL H' qa (as.map askD)) ⟨_, _, _, _, rfl, kb_fresh s5 na k6, p6, tl_kb hrr5 p5 ra k6, [], rfl, (fun x z => by cases z), (fun x z => by cases z), tl_kb hq5 p5 qaa k6⟩ ?_ ?_⟩
      · rintro j σ H7 hj ⟨v8, v9, v10, v11, rfl, s7, p7, hr7, as, hal, hao, ham, hq7⟩
        refine ⟨by show 4 ≤ sizeLine; decide, fun ml nml => ?_⟩
        have sm := same_upd (o := .lst [V.str "<", V.str "<=", V.str "=", V.str "!="]) nml
        have mla : ml ≠ a := (ne_of_none p7.choose_spec nml).symm
        have hml : (upd H7 ml (.lst [V.str "<", V.str "<=", V.str "=", V.str "!="])) ml = some (.lst [V.str "<", V.str "<=", V.str "=", V.str "!="]) := upd_same
        have s8 := s7.trans sm
        have p8 := pot_same p7 sm
        have hr8 := hr7.same sm
        have hq8 := hq7.same sm
        generalize (upd H7 ml (.lst [V.str "<", V.str "<=", V.str "=", V.str "!="])) = H8 at sm hml s8 p8 hr8 hq8
        refine ⟨_, rfl, a, 4, rfl, p8, by decide, l2 (by decide) (by decide), fun d H9 d0 d4 k9 p9 => ?_⟩
        obtain ⟨mk, hat, hm1, hm2⟩ := mrk_at d0 d4
        refine ⟨ml, _, _, _, rfl, rfl, SqL.of (k9 _ _ hml mla), hat, ?_⟩
        have s9 := kb_fresh s8 na k9
        refine ⟨_, rfl, _, rfl, a, k, rfl, p9, hk, fun t1 v1 H10 ht1 k10 p10 tv1 => ?_⟩
        have hr10 := tl_kb (tl_kb hr8 p8 ra k9) p9 ra k10
        obtain ⟨qs, hqs, tqs⟩ := tl_kb (tl_kb hq8 p8 qaa k9) p9 qaa k10
        refine ⟨_, rfl, .inl ⟨rfl, _, SqL.of hqs⟩, _, rfl, _, rfl, _, rfl, _, rfl, a, k, rfl, p10, hk, fun t2 v2 H11 ht2 k11 p11 tv2 => ?_⟩
        have hr11 := tl_kb hr10 p10 ra k11
        have ts11 := kb_pot_ts p10 k11
        have hq11 := k11 _ _ hqs qaa
        refine ⟨by show 3 ≤ sizeLine; decide, fun u nu => ?_⟩
        have s12 := same_upd (o := .tup [.str mk, v1, v2]) nu
        have hq12 := s12 _ _ hq11
        have ql : qs.length ≤ 2 := by rw [tqs.len, List.length_map]; omega
        refine ⟨qa, _, _, rfl, rfl, hq12, small1000 (by omega), ?_⟩
        have tp : TS _ (upd (upd H11 u (.tup [.str mk, v1, v2])) qa (.lst (qs ++ [.ref u]))) := ts_put hq12
        refine ⟨_, _, _, _, rfl, same_put ((kb_fresh (kb_fresh s9 na k10) na k11).trans s12) nq0, ?_, ?_, as ++ [⟨mk, t1, t2⟩], by rw [List.length_append, hal]; rfl, ?_, ?_, _, upd_same, ?_⟩
        · obtain ⟨z, hz⟩ := pot_put (o := .tup [.str mk, v1, v2]) p11 nu
          exact ⟨z, by rw [upd_ne qaa.symm]; exact hz⟩
        · obtain ⟨ys, hy, ty⟩ := hr11.same s12
          exact ⟨ys, by rw [upd_ne qar.symm]; exact hy, TDs.mono tp _ _ ty⟩
        · intro x hx
          rcases List.mem_append.mp hx with hx | hx
          · exact hao x hx
          · rw [List.mem_singleton.mp hx]; exact ⟨ht1, ht2⟩
        · intro x hx
          rcases List.mem_append.mp hx with hx | hx
          · exact ham x hx
          · rw [List.mem_singleton.mp hx]; exact ⟨hm1, hm2⟩
        · rw [List.map_append]
          refine (TDs.mono (ts11.trans ((TS.of s12).trans tp)) _ _ tqs).snoc (TD.mono tp _ _ ?_)
          exact TD.mk3 upd_same TD.ss (TD.mono (ts11.trans (TS.of s12)) _ _ tv1) (TD.mono (TS.of s12) _ _ tv2)
      · rintro σ H7 ⟨v8, v9, v10, v11, rfl, s7, p7, hr7, as, hal, hao, ham, hq7⟩
        refine ⟨_, rfl, _, rfl, _, rfl, a, h, k, l, rfl, p7, hk, s7 _ _ hh, ho, fun ds sr H8 hds hdl k8 p8 tds => ?_⟩
        obtain ⟨ys, hy, ty⟩ := tl_kb hr7 p7 ra k8
        obtain ⟨qs, hqs, tqs⟩ := tl_kb hq7 p7 qaa k8
        refine ⟨_, rfl, .inl ⟨rfl, _, SqL.of hy⟩, _, rfl, qa, qs, rfl, .inl ⟨SqL.of hqs, fun ta nta => ?_⟩⟩
        have s9 := same_upd (o := .tup qs) nta
        have p9 := pot_same p8 s9
        have t9 : TD (upd H8 ta (.tup qs)) (asksD as) (.ref ta) := ⟨ta, qs, rfl, upd_same, TDs.mono (TS.of s9) _ _ tqs⟩
        refine ⟨_, rfl, _, rfl, _, rfl, a, (f : Nat), rfl, p9, by omega, l2 (by omega) (by omega), fun x H10 x0 xf k10 p10 => ?_⟩
        have ts10 := kb_pot_ts p9 k10
        have hy10 := k10 _ _ (s9 _ _ hy) ra
        refine ⟨by show 3 ≤ sizeLine; decide, fun u nu => ?_⟩
        have s11 := same_upd (o := .tup [.ref ta, .ref sr, .int x]) nu
        have hy11 := s11 _ _ hy10
        have yl : ys.length ≤ 3 := by rw [ty.len, List.length_map]; omega
        refine ⟨r, _, _, rfl, rfl, hy11, small1000 (by omega), ?_⟩
        have tp : TS _ (upd (upd H10 u (.tup [.ref ta, .ref sr, .int x])) r (.lst (ys ++ [.ref u]))) := ts_put hy11
        have sH : Same H H10 := kb_fresh ((kb_fresh s7 na k8).trans s9) na k10
        refine ⟨_, _, _, _, _, _, rfl, same_put (sH.trans s11) nr0, ?_, rs ++ [⟨as, ds, x.toNat⟩], by rw [List.length_append, hrl]; rfl, ?_, _, upd_same, ?_⟩
        · obtain ⟨z, hz⟩ := pot_put (o := .tup [.ref ta, .ref sr, .int x]) p10 nu
          exact ⟨z, by rw [upd_ne ra.symm]; exact hz⟩
        · intro y hy
          rcases List.mem_append.mp hy with hy | hy
          · exact hro y hy
          · rw [List.mem_singleton.mp hy]
            exact ⟨hao, ham, hds, by show x.toNat < f; omega, by show as.length ≤ 2; omega, hdl⟩
        · rw [List.map_append]
          refine (TDs.mono ((TS.of s9).trans (ts10.trans ((TS.of s11).trans tp))) _ _ ty).snoc (TD.mono tp _ _ ?_)
          exact TD.mk3 upd_same (TD.mono (ts10.trans (TS.of s11)) _ _ t9) (TD.mono ((TS.of s9).trans (ts10.trans (TS.of s11))) _ _ tds) (nat_ii x0)
    · rintro σ H7 ⟨v6, v7, v8, v9, v10, v11, rfl, s7, p7, rs, hrl, hro, hr7⟩
      refine ⟨_, rfl, _, rfl, _, rfl, a, h, k, l, rfl, p7, hk, s7 _ _ hh, ho, fun ds sr H8 hds hdl k8 p8 tds => ?_⟩
      obtain ⟨ys, hy, ty⟩ := tl_kb hr7 p7 ra k8
      refine ⟨_, rfl, .inl ⟨rfl, _, SqL.of hy⟩, Nat.zero_le _, fun ta nta => ?_⟩
      have s9 := same_upd (o := .tup []) nta
      have p9 := pot_same p8 s9
      have t9 : TD (upd H8 ta (.tup [])) (asksD []) (.ref ta) := ⟨ta, [], rfl, upd_same, TDs.nil⟩
      refine ⟨_, rfl, _, rfl, _, rfl, a, (f : Nat), rfl, p9, by omega, l2 (by omega) (by omega), fun x H10 x0 xf k10 p10 => ?_⟩
      have ts10 := kb_pot_ts p9 k10
      have hy10 := k10 _ _ (s9 _ _ hy) ra
      refine ⟨by show 3 ≤ sizeLine; decide, fun u nu => ?_⟩
      have s11 := same_upd (o := .tup [.ref ta, .ref sr, .int x]) nu
      have hy11 := s11 _ _ hy10
      have yl : ys.length ≤ 3 := by rw [ty.len, List.length_map]; omega
      refine ⟨r, _, _, rfl, rfl, hy11, small1000 (by omega), ?_⟩
      have tp : TS _ (upd (upd H10 u (.tup [.ref ta, .ref sr, .int x])) r (.lst (ys ++ [.ref u]))) := ts_put hy11
      have sH : Same H H10 := kb_fresh ((kb_fresh s7 na k8).trans s9) na k10
      refine ⟨_, rfl, q (rs ++ [⟨[], ds, x.toNat⟩]) r _ ?_ (by rw [List.length_append, List.length_singleton]; omega) (same_put (sH.trans s11) nr0) nr0 ⟨_, upd_same, ?_⟩⟩
      · intro y hy
        rcases List.mem_append.mp hy with hy | hy
        · exact hro y hy
        · rw [List.mem_singleton.mp hy]
          exact ⟨(fun z hz => by cases hz), (fun z hz => by cases hz), hds, by show x.toNat < f; omega, Nat.zero_le _, hdl⟩
      · rw [List.map_append]
        refine (TDs.mono ((TS.of s9).trans (ts10.trans ((TS.of s11).trans tp))) _ _ ty).snoc (TD.mono tp _ _ ?_)
        exact TD.mk3 upd_same (TD.mono (ts10.trans (TS.of s11)) _ _ t9) (TD.mono ((TS.of s9).trans (ts10.trans (TS.of s11))) _ _ tds) (nat_ii x0)
end
end K56
set_option Elab.async false
set_option linter.all false
set_option maxRecDepth 100000
set_option maxHeartbeats 4000000
namespace K56
open PySem PySem.Spec PyProof.Rows L2
theorem sql_same {K : PySem.W.Frag} {H H' : Hp} {a : Addr} {xs : List V} (h : SqL K H a xs) (s : Same H H') : SqL K H' a xs := by
  rcases h with (h | ⟨o, h⟩) | h
  · exact .inl (.inl (s _ _ h))
  · exact .inl (.inr ⟨o, s _ _ h⟩)
  · exact .inr h
theorem cut_go {d : Int} (h0 : 0 ≤ d) (h : d < 2) : ∃ l : List Str, HdOk l ∧ cutV [V.str "go", V.str "go2"] none (some (1 + d)) = strV l := by
  have dd : d = 0 ∨ d = 1 := by omega
  rcases dd with rfl | rfl
  · exact ⟨["go"], ⟨by decide, by decide, by decide +kernel⟩, rfl⟩
  · exact ⟨["go", "go2"], ⟨by decide, by decide, by decide +kernel⟩, rfl⟩
theorem ix_52 (i : Nat) : ∃ m : Int, atI [V.int 5, V.int (10 ^ Int.toNat 30)] ((i : Int) % 2) = some (.int m) ∧ 0 < m := by
  have h : (i : Int) % 2 = 0 ∨ (i : Int) % 2 = 1 := by omega
  rcases h with h | h
  · rw [h]; exact ⟨_, rfl, by decide⟩
  · rw [h]; exact ⟨_, rfl, by decide +kernel⟩
theorem b_str : ∀ k : Fin 4, (("b" : Str).length + (toString ((k.val : Nat) : Int) : Str).length ≤ 1000 ∧ ((k.val : Nat) : Int).natAbs.log2 < 1920) := by decide +kernel
theorem rkey_inj {p p' : Nat} {s s' : Str} (h : rkey p s = rkey p' s') : p = p' ∧ s = s' := by
  unfold rkey at h
  injection h with h1 h2
  injection h2 with h2 _
  injection h1 with h1
  injection h2 with h2
  exact ⟨by omega, h2⟩
/-- the rows' dict as far as it is filled -/
structure DicAt (H : Hp) (rd : Addr) (k f cnt : Nat) (l : List Str) (rf : Nat → Str → List Rw) (dn : Nat → Str → Prop) : Prop where
  ex : ∃ kn, H rd = some (.dT kn) ∧ kn.length ≤ cnt ∧ (∀ key v, valV kn key = some v → ∃ p s r, key = rkey p s ∧ v = .ref r ∧ p < f ∧ s ∈ l ∧ TL H r ((rf p s).map rwD) ∧ (rf p s).length ≤ 3 ∧ ∀ x ∈ rf p s, RwOk k f x) ∧ ∀ p s, dn p s → ∃ v, valV kn (rkey p s) = some v
theorem DicAt.same {H H' : Hp} {rd : Addr} {k f cnt : Nat} {l : List Str} {rf : Nat → Str → List Rw} {dn : Nat → Str → Prop} (h : DicAt H rd k f cnt l rf dn) (s : Same H H') : DicAt H' rd k f cnt l rf dn := by
  obtain ⟨kn, h1, h2, h3, h4⟩ := h.ex
  refine ⟨kn, s _ _ h1, h2, fun key v e => ?_, h4⟩
  obtain ⟨p, z, r, e1, e2, e3, e4, e5, e6, e7⟩ := h3 key v e
  exact ⟨p, z, r, e1, e2, e3, e4, e5.same s, e6, e7⟩
theorem DicAt.put {H : Hp} {rd : Addr} {k f cnt : Nat} {l : List Str} {rf : Nat → Str → List Rw} {dn dn' : Nat → Str → Prop} {kn : List (List Key × V)} {p0 : Nat} {s0 : Str} {r0 : Addr} {rs : List Rw}
    (h1 : H rd = some (.dT kn)) (h2 : kn.length ≤ cnt) (h3 : ∀ key v, valV kn key = some v → ∃ p s r, key = rkey p s ∧ v = .ref r ∧ p < f ∧ s ∈ l ∧ TL H r ((rf p s).map rwD) ∧ (rf p s).length ≤ 3 ∧ ∀ x ∈ rf p s, RwOk k f x) (h4 : ∀ p s, dn p s → ∃ v, valV kn (rkey p s) = some v)
    (hp : p0 < f) (hs : s0 ∈ l) (hr : TL H r0 (rs.map rwD)) (hl : rs.length ≤ 3) (ho : ∀ x ∈ rs, RwOk k f x) (hd : ∀ p s, dn' p s → dn p s ∨ (p = p0 ∧ s = s0)) :
    DicAt (upd H rd (.dT (putK kn (rkey p0 s0) (.ref r0)))) rd k f (cnt + 1) l (fun p s => if p = p0 ∧ s = s0 then rs else rf p s) dn' := by
  have tl : ∀ {r : Addr} {ds : List PyData}, TL H r ds → TL (upd H rd (.dT (putK kn (rkey p0 s0) (.ref r0)))) r ds := fun {r ds} ⟨xs, hx, tx⟩ =>
    ⟨xs, by rw [upd_ne (ne_of hx h1 (by intro z; cases z))]; exact hx, TDs.mono (fun b ys e => by rw [upd_ne (ne_of e h1 (by intro z; cases z))]; exact e) _ _ tx⟩
  refine ⟨_, upd_same, Nat.le_trans (put_len _ _ _) (by omega), fun key v e => ?_, fun p s z => ?_⟩
  · rw [valV_put] at e
    by_cases ek : key = rkey p0 s0
    · rw [if_pos ek] at e
      cases e
      refine ⟨p0, s0, r0, ek, rfl, hp, hs, ?_, ?_, ?_⟩
      · rw [if_pos ⟨rfl, rfl⟩]; exact tl hr
      · rw [if_pos ⟨rfl, rfl⟩]; exact hl
      · rw [if_pos ⟨rfl, rfl⟩]; exact ho
    · rw [if_neg ek] at e
      obtain ⟨p, s, r, e1, e2, e3, e4, e5, e6, e7⟩ := h3 key v e
      have nn : ¬ (p = p0 ∧ s = s0) := fun z => ek (by rw [e1, z.1, z.2])
      refine ⟨p, s, r, e1, e2, e3, e4, ?_, ?_, ?_⟩
      · rw [if_neg nn]; exact tl e5
      · rw [if_neg nn]; exact e6
      · rw [if_neg nn]; exact e7
  · rw [valV_put]
    by_cases ek : rkey p s = rkey p0 s0
    · rw [if_pos ek]; exact ⟨_, rfl⟩
    · rw [if_neg ek]
      rcases hd p s z with z | ⟨e1, e2⟩
      · exact h4 p s z
      · exact absurd (by rw [e1, e2]) ek
section
variable {P : Program} {w : World} {K : PySem.W.Frag} {mg : Str → Option Value} {base : Heap}
def spPieces (K : PySem.W.Frag) : Sp := fun vs H Q _ => ∃ (a : Addr) (ns : List Int), vs = [.ref a] ∧ SqL K H a (iV ns) ∧ ∀ (r b hd bg fl rd : Addr) (bl : List (Str × Int)) (Tb : Tab) (beg : List Dd) (fls : List V) (H' : Hp), Same H H' → H' r = some (.lst [.ref b, .ref hd, .ref bg, .ref fl, .ref rd]) →
  TL H' b (bl.map bxD) → H' hd = some (.lst (strV Tb.heard)) → TD H' (ddsD beg) (.ref bg) → H' fl = some (.lst fls) → fls.length = Tb.nf → RowsIn H' rd Tb → TabOk bl.length Tb → DdsOk bl.length beg → beg.length ≤ 3 → bl.length ≤ 3 → Q (.ref r) H'
theorem ok_pieces (T : Tp K mg) : GFn P w K mg base 6 "_law_pieces" ["script"] (spPieces K) := by
  have G_law_cell_at : GFn P w K mg base 1 "_law_cell_at" ["script", "k"] (spCell K) := ok_cell T
  have G_law_take : GFn P w K mg base 1 "_law_take" ["pot", "many"] spTake := ok_take T
  have G_law_script : GFn P w K mg base 4 "_law_script" ["pot", "many", "heard"] (spScript K) := ok_script T
  have G_law_rows : GFn P w K mg base 5 "_law_rows" ["cell", "many", "heard", "flats"] (spRows K) := ok_rows T
  refine gfn T.g_law_pieces (mk_ok T.f_law_pieces sc_law_pieces (bn_law_pieces "_law_pieces") (fun vs H Q E h => ?_) (fun cdv A outer s H vs Q E hr h => ?_))
  · obtain ⟨a, ns, rfl, _⟩ := h
    rfl
  · obtain ⟨a, ns, rfl, ha, q⟩ := h
    refine ⟨_, (pss_cons (ps_set (i := 1) sc_law_pieces.nd rfl (Or.inl rfl) (pe_lst (pa_cons (pe_op op_mod (pe_g G_law_cell_at hr rfl (pa_cons (pv 0) (pa_cons pe_int pa_nil))) (pe_op op_pow pe_int pe_int)) pa_nil)))
      (pss_cons (ps_set (i := 2) sc_law_pieces.nd rfl (Or.inl rfl) (pe_g G_law_take hr rfl (pa_cons (pv 1) (pa_cons pe_int pa_nil))))
      (pss_cons (ps_set (i := 3) sc_law_pieces.nd rfl (Or.inl rfl) (pe_op op_add pe_int (pe_g G_law_take hr rfl (pa_cons (pv 1) (pa_cons pe_int pa_nil)))))
      (pss_cons (ps_set (i := 4) sc_law_pieces.nd rfl (Or.inl rfl) (pe_slice sl_list (pe_lst (pa_cons pe_str (pa_cons pe_str pa_nil))) po_none (po_some (pe_op op_add pe_int (pe_g G_law_take hr rfl (pa_cons (pv 1) (pa_cons pe_int pa_nil)))))))
      (pss_cons (ps_setLc (i := 5) (own := [("k", 8)]) (g := gName 8) (tt := tYes) rfl sc_law_pieces.nd rfl rfl (sw_true rfl rfl rfl (by decide +kernel)) (pi_range1 rfl T.m_range (pa_cons (pv 2) pa_nil)) (blkOk_by (own := [("k", 8)]) (N := ["script", "pot", "many", "flats", "heard", "boxes", "rows", "flat", "k", "begin", "pairs"]) (sc := defScope s_law_pieces) (by decide +kernel)) (fun _ _ _ _ _ => pg_name (i := 8) sc_law_pieces.nd rfl (Or.inl rfl)) (fun _ _ _ _ _ => pts_nil) (fun _ _ _ _ _ => (pe_tup (pa_cons (pe_op op_add_str pe_str (pe_callTy call_str_int (by rfl) T.m_str (by decide +kernel) (pa_cons (pv 8) pa_nil))) (pa_cons (pe_op op_sub (pe_op op_mod (pe_op op_mod (pe_g G_law_cell_at hr rfl (pa_cons (pv 0) (pa_cons (pe_op op_add pe_int (pv 8)) pa_nil))) (pe_op op_pow pe_int pe_int)) (pe_ix (ix_listK (K := K)) (pe_lst (pa_cons pe_int (pa_cons (pe_op op_pow pe_int pe_int) pa_nil))) (pe_op op_mod (pv 8) pe_int) (fun _ _ => rfl))) pe_int) pa_nil)))))
      (pss_cons (ps_set (i := 6) sc_law_pieces.nd rfl (Or.inl rfl) pe_dnewT)
      (pss_cons (ps_for PassesOwn.never rfl (pi_range1 rfl T.m_range (pa_cons (pv 3) pa_nil)) (pg_name (i := 7) sc_law_pieces.nd rfl (Or.inl rfl))
        (pss_one (ps_for PassesOwn.never rfl (pi_range1 rfl T.m_range (pa_cons (pe_callB call_len_seq (by rfl) T.m_len PySem.boot_len (pa_cons (pv 4) pa_nil)) pa_nil)) (pg_name (i := 8) sc_law_pieces.nd rfl (Or.inl rfl))
          (pss_one (ps_dput (hu_of hr) (pv 6) (pe_tup (pa_cons (pv 7) (pa_cons (pe_ix ix_list (pv 4) (pv 8) (fun _ _ => rfl)) pa_nil))) (pe_g G_law_rows hr rfl (pa_cons (pe_g G_law_cell_at hr rfl (pa_cons (pv 0) (pa_cons (pe_op op_add (pe_op op_add pe_int (pe_op op_mul pe_int (pv 7))) (pv 8)) pa_nil))) (pa_cons (pv 2) (pa_cons (pv 4) (pa_cons (pv 3) pa_nil))))) rfl)))))
      (pss_cons (ps_set (i := 9) sc_law_pieces.nd rfl (Or.inl rfl) (pe_g G_law_script hr rfl (pa_cons (pe_lst (pa_cons (pe_op op_fdivW (pe_op op_mod (pe_g G_law_cell_at hr rfl (pa_cons (pv 0) (pa_cons pe_int pa_nil))) (pe_op op_pow pe_int pe_int)) pe_int) pa_nil)) (pa_cons (pv 2) (pa_cons (pv 4) pa_nil)))))
      (pss_cons (ps_setLc (i := 10) (own := [("flat", 7)]) (g := gName 7) (tt := tYes) rfl sc_law_pieces.nd rfl rfl (sw_true rfl rfl rfl (by decide +kernel)) (pi_range1 rfl T.m_range (pa_cons (pv 3) pa_nil)) (blkOk_by (own := [("flat", 7)]) (N := ["script", "pot", "many", "flats", "heard", "boxes", "rows", "flat", "k", "begin", "pairs"]) (sc := defScope s_law_pieces) (by decide +kernel)) (fun _ _ _ _ _ => pg_name (i := 7) sc_law_pieces.nd rfl (Or.inl rfl)) (fun _ _ _ _ _ => pts_nil) (fun _ _ _ _ _ => (pe_tup (pa_cons (pe_tup (pa_cons pe_int (pa_cons (pe_op op_add pe_int (pv 7)) pa_nil))) (pa_cons (pe_tup (pa_cons (pe_un un_neg pe_int) (pa_cons (pe_op op_sub (pv 7) pe_int) pa_nil))) pa_nil)))))
      (pss_one (ps_ret (pe_lst (pa_cons (pv 5) (pa_cons (pv 4) (pa_cons (pv 9) (pa_cons (pv 10) (pa_cons (pv 6) pa_nil))))))))))))))))), ?_⟩
    refine ⟨_, rfl, a, ns, 0, rfl, ha, fun c0 => ?_⟩
    refine ⟨_, _, rfl, rfl, ⟨by decide, by decide, by decide⟩, _, _, rfl, rfl, (by show (0 : Int) < 10 ^ Int.toNat 12; decide +kernel), by show 1 ≤ sizeLine; decide, fun pt npt => ?_⟩
    have s1 := same_upd (o := .lst [.int (c0 % 10 ^ Int.toNat 12)]) npt
    have p1 : Pot (upd H pt (.lst [.int (c0 % 10 ^ Int.toNat 12)])) pt := ⟨_, upd_same⟩
    generalize (upd H pt (.lst [.int (c0 % 10 ^ Int.toNat 12)])) = H1 at s1 p1
    refine ⟨_, rfl, pt, 4, rfl, p1, by decide, l2 (by decide) (by decide), fun m0 H2 m1 m2 k2 p2 => ?_⟩
    obtain ⟨m, rfl⟩ : ∃ m : Nat, m0 = (m : Int) := ⟨m0.toNat, by omega⟩
    refine ⟨_, rfl, pt, 13, rfl, p2, by decide, l2 (by decide) (by decide), fun f0 H3 f1 f2 k3 p3 => ?_⟩
    obtain ⟨f, hf⟩ : ∃ f : Nat, 1 + f0 = (f : Int) := ⟨(1 + f0).toNat, by omega⟩
    refine ⟨_, _, rfl, rfl, ?_⟩
    dsimp only
    rw [hf]
    have s3 : Same H H3 := kb_fresh s1 npt (k2.trans k3)
    refine ⟨by show 2 ≤ sizeLine; decide, fun gl ngl => ?_⟩
    have s4 := s3.trans (same_upd (o := .lst [.str "go", .str "go2"]) ngl)
    have p4 := pot_put (o := .lst [.str "go", .str "go2"]) p3 ngl
    have gp : gl ≠ pt := (ne_of_none p3.choose_spec ngl).symm
    have hgl : (upd H3 gl (.lst [.str "go", .str "go2"])) gl = some (.lst [.str "go", .str "go2"]) := upd_same
    refine ⟨_, rfl, pt, 2, rfl, p4, by decide, l2 (by decide) (by decide), fun g0 H5 g1 g2 k5 p5 => ?_⟩
    obtain ⟨l, hl, hcut⟩ := cut_go g1 g2
    refine ⟨_, _, rfl, rfl, _, rfl, gl, _, rfl, SqL.of (k5 _ _ hgl gp), fun hd nhd => ?_⟩
    rw [hcut]
    have s6 : Same H (upd H5 hd (.lst (strV l))) := (kb_fresh s4 npt k5).trans (same_upd nhd)
    have hhd : (upd H5 hd (.lst (strV l))) hd = some (.lst (strV l)) := upd_same
    generalize (upd H5 hd (.lst (strV l))) = H6 at s6 hhd
    -- the boxes
    refine ⟨_, rfl, (m : Nat), rfl, by omega, by omega, fun D hD => lc_range (lo := 0) (n := m) (fun i H' => Same H6 H' ∧ ∃ bl : List (Str × Int), bl.length = i ∧ TL H' D (bl.map bxD)) ⟨same_upd hD, [], rfl, [], upd_same, TDs.nil⟩ ?_ ?_⟩
    · rintro i H' hi ⟨sm, bl, hbl, xs, hx, tx⟩
      rw [Int.zero_add]
      obtain ⟨z1, z2⟩ := b_str ⟨i, by omega⟩
      obtain ⟨mm, hat, hmm⟩ := ix_52 i
      have xl : xs.length = i := by rw [tx.len, List.length_map, hbl]
      refine ⟨rfl, _, rfl, (i : Int), rfl, z2, _, _, rfl, rfl, len1000 z1, ?_⟩
      refine ⟨_, rfl, _, rfl, _, _, rfl, rfl, a, ns, 1 + i, rfl, sql_same ha (s6.trans sm), fun c => ?_⟩
      refine ⟨_, _, rfl, rfl, ⟨by decide, by decide, by decide⟩, _, _, rfl, rfl, (by show (0 : Int) < 10 ^ Int.toNat 30; decide +kernel), ?_⟩
      refine ⟨_, _, rfl, rfl, ⟨by decide, by decide, by decide⟩, by show 2 ≤ sizeLine; decide, fun q2 nq2 => ?_⟩
      have sq := same_upd (o := .lst [.int 5, .int (10 ^ Int.toNat 30)]) nq2
      refine ⟨_, rfl, _, _, rfl, rfl, (by show (0 : Int) < 2; decide), q2, _, _, _, rfl, rfl, SqL.of upd_same, hat, ?_⟩
      refine ⟨_, _, rfl, rfl, hmm, _, _, rfl, rfl, by show 2 ≤ sizeLine; decide, fun u nu => ?_⟩
      have su := sq.trans (same_upd (o := .tup [.str (("b" : Str) ++ (toString (i : Int) : Str)), .int (c % 10 ^ Int.toNat 30 % mm - 2)]) nu)
      have hx2 := su _ _ hx
      have nDH : H6 D = none := hD
      refine ⟨xs, hx2, small1000 (by omega), same_put (sm.trans su) hD, bl ++ [((("b" : Str) ++ (toString (i : Int) : Str)), c % 10 ^ Int.toNat 30 % mm - 2)], by rw [List.length_append, hbl]; rfl, _, upd_same, ?_⟩
      rw [List.map_append]
      exact (TDs.mono ((TS.of su).trans (ts_put hx2)) _ _ tx).snoc (TD.mono (ts_put hx2) _ _ (TD.mk2 upd_same TD.ss TD.ii))
    · rintro H7 ⟨sm7, bl, hbl, tbl⟩
      have s7 := s6.trans sm7
      refine fun rd nrd => ?_
      have s8 := s7.trans (same_upd (o := .dT []) nrd)
      have hhd8 := (same_upd (o := .dT []) nrd) _ _ (sm7 _ _ hhd)
      have nrd0 : H rd = none := s7.free nrd
      have tbl8 := tbl.same (same_upd (o := .dT []) nrd)
      have dc0 : DicAt (upd H7 rd (.dT [])) rd m f 0 l (fun _ _ => []) (fun _ _ => False) := ⟨[], upd_same, Nat.le_refl _, (fun key v e => by cases e), (fun p s z => False.elim z)⟩
      have nhr : hd ≠ rd := ne_of_none (sm7 _ _ hhd) nrd
      have nDr : D ≠ rd := ne_of_none tbl.choose_spec.1 nrd
      generalize (upd H7 rd (.dT [])) = H8 at s8 hhd8 tbl8 dc0
      have hll := hl.le
      have frame : ∀ {Hx : Hp} {kn kn' : List (List Key × V)}, Hx rd = some (.dT kn) → (∀ {b : Addr} {o : HO}, Hx b = some o → b ≠ rd → upd Hx rd (.dT kn') b = some o) := fun {Hx kn kn'} _ {b o} e n => by rw [upd_ne n]; exact e
      refine ⟨_, rfl, (f : Nat), rfl, by omega, by omega, for_range (lo := 0) (n := f) (fun i σ H' => ∃ v7 v8 rf, σ = [some (.ref a), some (.ref pt), some (.int (m : Nat)), some (.int (f : Nat)), some (.ref hd), some (.ref D), some (.ref rd), v7, v8, none, none] ∧ Same H H' ∧ H' hd = some (.lst (strV l)) ∧ TL H' D (bl.map bxD) ∧ DicAt H' rd m f (i * 2) l rf (fun p s => p < i ∧ s ∈ l))
        ⟨none, none, fun _ _ => [], rfl, s8, hhd8, tbl8, ?_⟩ ?_ ?_⟩
      · obtain ⟨kn, e1, e2, e3, e4⟩ := dc0.ex
        exact ⟨kn, e1, e2, e3, fun p s z => absurd z.1 (by omega)⟩
      · rintro i σ H9 hi ⟨v7, v8, rf, rfl, s9, hhd9, tbl9, dc⟩
        rw [Int.zero_add]
        have slen : (strV l).length = l.length := by unfold strV; rw [List.length_map]
        refine ⟨_, rfl, hd, _, rfl, .inl (SqL.of hhd9), ((strV l).length : Nat), rfl, by omega, by omega, ?_⟩
        rw [slen]
        refine for_range (lo := 0) (n := l.length) (fun j σ H' => ∃ v8 rf, σ = [some (.ref a), some (.ref pt), some (.int (m : Nat)), some (.int (f : Nat)), some (.ref hd), some (.ref D), some (.ref rd), some (.int (i : Nat)), v8, none, none] ∧ Same H H' ∧ H' hd = some (.lst (strV l)) ∧ TL H' D (bl.map bxD) ∧ DicAt H' rd m f (i * 2 + j) l rf (fun p s => (p < i ∧ s ∈ l) ∨ (p = i ∧ s ∈ l.take j)))
          ⟨v8, rf, rfl, s9, hhd9, tbl9, ?_⟩ ?_ ?_
        · obtain ⟨kn, e1, e2, e3, e4⟩ := dc.ex
          exact ⟨kn, e1, e2, e3, fun p s z => e4 p s (z.elim id fun z => absurd z.2 (by simp))⟩
        · rintro j σ H10 hj ⟨v8, rf, rfl, s10, hhd10, tbl10, dc⟩
          rw [Int.zero_add]
          refine ⟨_, rfl, _, rfl, _, _, rfl, rfl, .inl ⟨by decide, by decide⟩, _, _, rfl, rfl, _, rfl, _, _, rfl, rfl, a, ns, 4 + 2 * i + j, rfl, sql_same ha s10, fun c => ?_⟩
          refine ⟨_, rfl, _, rfl, _, rfl, c, hd, m, f, l, rfl, by omega, hhd10, hl, by omega, by omega, fun rs r H11 hrs hrl s11 nr hrr => ?_⟩
          have hhd11 := s11 _ _ hhd10
          obtain ⟨kn, e1, e2, e3, e4⟩ := (dc.same s11).ex
          have hsj : (strV l)[j]? = some (.str l[j]) := by unfold strV; rw [List.getElem?_map, List.getElem?_eq_getElem hj]; rfl
          refine ⟨_, rfl, _, rfl, _, rfl, _, rfl, hd, _, _, _, rfl, rfl, SqL.of hhd11, atI_nat hsj, by show 2 ≤ sizeLine; decide, fun kq nkq => ?_⟩
          have sk := same_upd (o := .tup [.int (i : Nat), .str l[j]]) nkq
          have hkq : (upd H11 kq (.tup [.int (i : Nat), .str l[j]])) kq = some (.tup ((rkey i l[j]).map kV)) := upd_same
          refine ⟨rd, _, rfl, DPut.t (sk _ _ e1) hkq (small1000 (by omega)), ?_⟩
          obtain ⟨kn', g1, g2, g3, g4⟩ := ((dc.same s11).same sk).ex
          have ekn : kn' = kn := by
            have z := sk _ _ e1
            rw [z] at g1
            exact (HO.dT.inj (Option.some.inj g1)).symm
          subst ekn
          have dput := DicAt.put (rs := rs) (r0 := r) (p0 := i) (s0 := l[j]) (dn' := fun p s => (p < i ∧ s ∈ l) ∨ (p = i ∧ s ∈ l.take (j + 1))) g1 g2 g3 g4 hi (List.getElem_mem hj) (hrr.same sk) hrl hrs (fun p s z => ?_)
          · refine ⟨_, _, rfl, same_put ((s10.trans s11).trans sk) nrd0, ?_, ?_, dput⟩
            · rw [upd_ne nhr]; exact sk _ _ hhd11
            · obtain ⟨ys, hy, ty⟩ := (tbl10.same s11).same sk
              exact ⟨ys, by rw [upd_ne nDr]; exact hy, TDs.mono (fun b zs e => by rw [upd_ne (ne_of e g1 (by intro z; cases z))]; exact e) _ _ ty⟩
          · rcases z with z | ⟨z1, z2⟩
            · exact .inl (.inl z)
            · rw [List.take_add_one, List.getElem?_eq_getElem hj] at z2
              rcases List.mem_append.mp z2 with z2 | z2
              · exact .inl (.inr ⟨z1, z2⟩)
              · exact .inr ⟨z1, by simpa using z2⟩
        · rintro σ H10 ⟨v8, rf, rfl, s10, hhd10, tbl10, dc⟩
          refine ⟨_, _, rf, rfl, s10, hhd10, tbl10, ?_⟩
          obtain ⟨kn, e1, e2, e3, e4⟩ := dc.ex
          refine ⟨kn, e1, by omega, e3, fun p s z => e4 p s ?_⟩
          by_cases zi : p = i
          · exact .inr ⟨zi, by rw [List.take_length]; exact z.2⟩
          · exact .inl ⟨by omega, z.2⟩
      · rintro σ H9 ⟨v7, v8, rf, rfl, s9, hhd9, tbl9, dc⟩
        refine ⟨_, rfl, a, ns, 3, rfl, sql_same ha s9, fun c => ?_⟩
        refine ⟨_, _, rfl, rfl, ⟨by decide, by decide, by decide⟩, _, _, rfl, rfl, (by show (0 : Int) < 10 ^ Int.toNat 60; decide +kernel), _, _, rfl, rfl, ⟨by decide, l2 (by decide) (by decide)⟩, by show 1 ≤ sizeLine; decide, fun bp nbp => ?_⟩
        have sb := same_upd (o := .lst [.int (c % 10 ^ Int.toNat 60 / 7)]) nbp
        have pb : Pot (upd H9 bp (.lst [.int (c % 10 ^ Int.toNat 60 / 7)])) bp := ⟨_, upd_same⟩
        refine ⟨_, rfl, _, rfl, bp, hd, m, l, rfl, pb, by omega, sb _ _ hhd9, hl, fun ds bg H12 hds hdl k12 p12 tds => ?_⟩
        have s12 : Same H9 H12 := kb_fresh sb nbp k12
        refine ⟨_, rfl, (f : Nat), rfl, by omega, by omega, fun D2 hD2 => lc_range (lo := 0) (n := f) (fun i H' => Same H12 H' ∧ ∃ xs, xs.length = i ∧ H' D2 = some (.lst xs)) ⟨same_upd hD2, [], rfl, upd_same⟩ ?_ ?_⟩
        · rintro i H' hi ⟨sm, xs, hxl, hx⟩
          refine ⟨rfl, _, rfl, _, _, rfl, rfl, by show 2 ≤ sizeLine; decide, fun u1 n1 => ?_⟩
          have t1 := same_upd (o := .tup [.int 0, .int (1 + (0 + (i : Int)))]) n1
          refine ⟨_, rfl, _, rfl, _, _, rfl, rfl, by show 2 ≤ sizeLine; decide, fun u2 n2 => ⟨by show 2 ≤ sizeLine; decide, fun u3 n3 => ?_⟩⟩
          have t2 := t1.trans ((same_upd (o := .tup [.int (-1), .int (0 + (i : Int) - 1)]) n2).trans (same_upd (o := .tup [.ref u1, .ref u2]) n3))
          exact ⟨xs, t2 _ _ hx, small1000 (by omega), same_put (sm.trans t2) hD2, _, by rw [List.length_append, hxl]; rfl, upd_same⟩
        · rintro H13 ⟨sm, xs, hxl, hx⟩
          refine ⟨_, rfl, _, rfl, _, rfl, _, rfl, _, rfl, by show 5 ≤ sizeLine; decide, fun r nr => ?_⟩
          have s14 := sm.trans (same_upd (o := .lst [.ref D, .ref hd, .ref bg, .ref D2, .ref rd]) nr)
          have s914 := s12.trans s14
          obtain ⟨kn, e1, e2, e3, e4⟩ := (dc.same s914).ex
          have hin : ∀ p s, p < f → s ∈ l → ∃ r9, valV kn (rkey p s) = some (.ref r9) ∧ TL (upd H13 r (.lst [.ref D, .ref hd, .ref bg, .ref D2, .ref rd])) r9 ((rf p s).map rwD) ∧ (rf p s).length ≤ 3 ∧ ∀ x ∈ rf p s, RwOk m f x := fun p s hp hs => by
            obtain ⟨v, hv⟩ := e4 p s ⟨hp, hs⟩
            obtain ⟨p', s', r', g1, g2, g3, g4, g5, g6, g7⟩ := e3 _ v hv
            obtain ⟨rfl, rfl⟩ := rkey_inj g1
            rw [g2] at hv
            exact ⟨r', hv, g5, g6, g7⟩
          refine q r D hd bg D2 rd bl ⟨f, l, rf⟩ ds xs _ (s9.trans s914) upd_same (tbl9.same s914) (s914 _ _ hhd9) (TD.mono (TS.of s14) _ _ tds) ((same_upd nr) _ _ hx) hxl ⟨kn, e1, by omega, fun k hk => ?_, fun p s hp hs => ?_, fun p s hs => ?_⟩ ⟨by show 1 ≤ f ∧ f ≤ 13; omega, hl.le, hl.ok, fun p s hp hs => ?_, fun p s r' hp hs hr' => ?_⟩ (by rw [hbl]; exact hds) hdl (by omega)
          · obtain ⟨kv, hkv, rfl⟩ := List.mem_map.mp hk
            have hsome : ∃ v, valV kn kv.1 = some v := by
              unfold valV
              cases e : kn.find? fun z => decide (z.1 = kv.1) with
              | some z => exact ⟨_, rfl⟩
              | none => exact absurd (decide_eq_true rfl) (List.find?_eq_none.mp e kv hkv)
            obtain ⟨v, hv⟩ := hsome
            obtain ⟨p', s', r', g1, g2, g3, g4, ⟨ys, hy, _⟩, _⟩ := e3 _ v hv
            exact ⟨r', ys, by rw [hv, g2], hy⟩
          · obtain ⟨r', h1, h2, _⟩ := hin p s hp hs
            exact ⟨r', h1, h2⟩
          · cases e : valV kn (rkey p s) with
            | none => rfl
            | some v =>
              obtain ⟨p', s', r', g1, g2, g3, g4, _⟩ := e3 _ v e
              obtain ⟨rfl, rfl⟩ := rkey_inj g1
              exact absurd g4 hs
          · obtain ⟨_, _, _, h3, _⟩ := hin p s hp hs
            exact h3
          · obtain ⟨_, _, _, _, h4⟩ := hin p s hp hs
            have := h4 r' hr'
            rw [hbl]
            exact this
/-! ### the table of the law -/
def spTabl (K : PySem.W.Frag) : Sp := fun vs H Q _ => ∃ (a : Addr) (ns : List Int), vs = [.ref a] ∧ SqL K H a (iV ns) ∧ ∀ (t : Addr) (bl : List (Str × Int)) (Tb : Tab) (beg : List Dd) (H' : Hp), Same H H' → TabAt K H' t Tb bl beg → TabOk bl.length Tb → DdsOk bl.length beg → beg.length ≤ 3 → bl.length ≤ 3 → Q (.ref t) H'
theorem ok_table (T : Tp K mg) : GFn P w K mg base 7 "_law_table" ["script"] (spTabl K) := by
  have G_law_pieces : GFn P w K mg base 6 "_law_pieces" ["script"] (spPieces K) := ok_pieces T
  have G_Table : GMk P w K mg base 1 "Table" (He.ga K "Table") ["self", "boxes", "heard", "begin", "flats", "rows"] (spTable K) := ok_Table T
  refine gfn T.g_law_table (mk_ok T.f_law_table sc_law_table (bn_law_table "_law_table") (fun vs H Q E h => ?_) (fun cdv A outer s H vs Q E hr h => ?_))
  · obtain ⟨a, ns, rfl, _⟩ := h
    rfl
  · obtain ⟨a, ns, rfl, ha, q⟩ := h
    refine ⟨_, (pss_cons (ps_set (i := 1) sc_law_table.nd rfl (Or.inl rfl) (pe_g G_law_pieces hr rfl (pa_cons (pv 0) pa_nil)))
      (pss_one (ps_ret (pe_gk G_Table hr rfl (pa_cons (pe_ix ix_list (pv 1) pe_int (fun _ _ => rfl)) (pa_cons (pe_ix ix_list (pv 1) pe_int (fun _ _ => rfl)) (pa_cons (pe_ix ix_list (pv 1) pe_int (fun _ _ => rfl)) (pa_cons (pe_ix ix_list (pv 1) pe_int (fun _ _ => rfl)) (pa_cons (pe_ix ix_list (pv 1) pe_int (fun _ _ => rfl)) pa_nil))))))))), ?_⟩
    refine ⟨_, rfl, a, ns, rfl, ha, fun r b hd bg fl rd bl Tb beg fls H1 s1 hr1 hb hhd hbg hfl hfn hrd tok hdo hdl hbl => ?_⟩
    refine ⟨_, rfl, r, _, _, _, rfl, rfl, SqL.of hr1, rfl, _, rfl, r, _, _, _, rfl, rfl, SqL.of hr1, rfl, _, rfl, r, _, _, _, rfl, rfl, SqL.of hr1, rfl, _, rfl, r, _, _, _, rfl, rfl, SqL.of hr1, rfl, _, rfl, r, _, _, _, rfl, rfl, SqL.of hr1, rfl, ?_⟩
    intro t dx nt ndx ne
    have s2 : Same H1 (upd (upd H1 dx (.own t)) t (.ins (He.ga K "Table") dx [])) := fun b' o' e' => by
      rw [upd_ne (ne_of_none e' nt), upd_ne (ne_of_none e' ndx)]
      exact e'
    have hrd2 : RowsIn (upd (upd H1 dx (.own t)) t (.ins (He.ga K "Table") dx [])) rd Tb := by
      obtain ⟨kvs, e1, e2, e3, e4, e5⟩ := hrd.ex
      refine ⟨kvs, s2 _ _ e1, e2, fun k hk => ?_, fun p s hp hs => ?_, e5⟩
      · obtain ⟨r', xs, g1, g2⟩ := e3 k hk
        exact ⟨r', xs, g1, s2 _ _ g2⟩
      · obtain ⟨r', g1, g2⟩ := e4 p s hp hs
        exact ⟨r', g1, g2.same s2⟩
    exact ⟨t, dx, b, hd, bg, fl, rd, bl, Tb, beg, fls, rfl, upd_same, hb.same s2, s2 _ _ hhd, TD.mono (TS.of s2) _ _ hbg, s2 _ _ hfl, hfn, hrd2, fun H3 ht kb => ⟨rfl, q t bl Tb beg H3 (s1.trans (Same.made nt ndx kb)) ht tok hdo hdl hbl⟩⟩
end
end K56
set_option Elab.async false
set_option linter.all false
set_option maxRecDepth 100000
set_option maxHeartbeats 4000000
namespace K56
open PySem PySem.Spec PyProof.Rows L2
theorem pe_stepK2 {X : Cx} {K : PySem.W.Frag} {e lo st : Expr} {te tl tc : TE} {pos p2 : Pos} (he : PE X e te) (hl : PE X lo tl) (hc : PE X st tc) (h : X.K = K := by rfl) : PE X (.Subscript e (.Slice (some lo) none (some st) p2) pos) (tStep K te tl tc) := by
  subst h
  exact pe_step he hl hc
theorem told_in (j : Jr) : inV (.str j.hd) [V.str "sign", V.str "put", V.str "call", V.str "say", V.str "rest"] = j.told := by
  cases j with
  | mark m =>
    cases m with
    | out _ => exact (by decide +kernel : inV (.str "out") [V.str "sign", V.str "put", V.str "call", V.str "say", V.str "rest"] = false)
    | keep _ _ _ => exact (by decide +kernel : inV (.str "keep") [V.str "sign", V.str "put", V.str "call", V.str "say", V.str "rest"] = false)
    | way _ => exact (by decide +kernel : inV (.str "way") [V.str "sign", V.str "put", V.str "call", V.str "say", V.str "rest"] = false)
    | inn _ => exact (by decide +kernel : inV (.str "in") [V.str "sign", V.str "put", V.str "call", V.str "say", V.str "rest"] = false)
  | put _ _ _ => exact (by decide +kernel : inV (.str "put") [V.str "sign", V.str "put", V.str "call", V.str "say", V.str "rest"] = true)
  | say _ _ => exact (by decide +kernel : inV (.str "say") [V.str "sign", V.str "put", V.str "call", V.str "say", V.str "rest"] = true)
  | call _ => exact (by decide +kernel : inV (.str "call") [V.str "sign", V.str "put", V.str "call", V.str "say", V.str "rest"] = true)
  | sign _ => exact (by decide +kernel : inV (.str "sign") [V.str "sign", V.str "put", V.str "call", V.str "say", V.str "rest"] = true)
  | rest _ => exact (by decide +kernel : inV (.str "rest") [V.str "sign", V.str "put", V.str "call", V.str "say", V.str "rest"] = true)
theorem toldJ_take {js : List Jr} {i : Nat} {j : Jr} (h : js[i]? = some j) : toldJ (js.take (i + 1)) = if j.told = true then toldJ (js.take i) ++ [j] else toldJ (js.take i) := by
  unfold toldJ
  rw [List.take_add_one, h, List.filter_append]
  show _ ++ List.filter Jr.told [j] = _
  by_cases e : j.told = true
  · rw [if_pos e, List.filter_cons, if_pos e]; rfl
  · rw [if_neg e, List.filter_cons, if_neg e]; simp
theorem jr_flat {n : Nat} {j : Jr} (h : JrOk n j) : flatD (jrD j) := by
  cases j with
  | mark m => exact dd_flat (n := n) (d := .mark m) True.intro
  | put b x y => exact ⟨(by decide +kernel : (PyData.strOk "put" && true) = true), by show max 0 (max 0 (max 0 (max 0 0))) + 1 ≤ 10; decide⟩
  | call s =>
    refine ⟨?_, by show max 0 (max 0 0) + 1 ≤ 10; decide⟩
    show (PyData.strOk "call" && (PyData.strOk s && true)) = true
    rw [show PyData.strOk s = true from h]
    decide +kernel
  | say s x =>
    refine ⟨?_, by show max 0 (max 0 (max 0 0)) + 1 ≤ 10; decide⟩
    show (PyData.strOk "say" && (PyData.strOk s && true)) = true
    rw [show PyData.strOk s = true from h]
    decide +kernel
  | sign s =>
    refine ⟨?_, by show max 0 (max 0 0) + 1 ≤ 10; decide⟩
    show (PyData.strOk "sign" && (PyData.strOk s && true)) = true
    rw [show PyData.strOk s = true from h]
    decide +kernel
  | rest x => exact ⟨(by decide +kernel : (PyData.strOk "rest" && true) = true), by show max 0 (max 0 0) + 1 ≤ 10; decide⟩
theorem eqv_list {ds : List PyData} (h : ∀ d ∈ ds, flatD d) : PyData.eqv (.list ds) (.list ds) = true := SeqAt.eqv_refl _ (lay_all h).1
theorem int_flat (l : List Int) : ∀ d ∈ l.map PyData.int, flatD d := fun d hd => by
  obtain ⟨i, _, rfl⟩ := List.mem_map.mp hd
  exact ⟨rfl, by show 0 ≤ 10; decide⟩
section
variable {P : Program} {w : World} {K : PySem.W.Frag} {mg : Str → Option Value} {base : Heap}
theorem ints_dp {H : Hp} : ∀ l : List Int, DpAll K H (iV l) (l.map PyData.int)
  | [] => .nil
  | i :: l => .cons (.int i) (ints_dp l)
def spLTold : Sp := fun vs H Q _ => ∃ (a : Addr) (js : List Jr), vs = [.ref a] ∧ TL H a (js.map jrD) ∧ js.length ≤ 9000 ∧ ∀ (H' : Hp) (r : Addr), Same H H' → TL H' r ((toldJ js).map jrD) → Q (.ref r) H'
theorem ok_ltold (T : Tp K mg) : GFn P w K mg base 1 "_law_told" ["rows"] spLTold := by
  refine gfn T.g_law_told (mk_ok T.f_law_told sc_law_told (bn_law_told "_law_told") (fun vs H Q E h => ?_) (fun cdv A outer s H vs Q E hr h => ?_))
  · obtain ⟨a, js, rfl, _⟩ := h
    rfl
  · obtain ⟨a, js, rfl, ⟨xs, ha, txs⟩, hl, q⟩ := h
    refine ⟨_, (pss_one (ps_ret (pe_lc (own := [("row", 1)]) (g := gName 1) rfl sc_law_told.nd (pi_list (pv 0)) (blkOk_by (own := [("row", 1)]) (N := ["rows", "row"]) (sc := defScope s_law_told) (by decide +kernel)) (fun _ _ _ _ _ => pg_name (i := 1) sc_law_told.nd rfl (Or.inl rfl)) (fun _ _ _ _ _ => pts_one (pt_cmpR (op_in_seqK (K := K)) (pe_ix (ix_tupK (K := K)) (pv 1) pe_int (fun _ _ => rfl)) (pe_lst (pa_cons pe_str (pa_cons pe_str (pa_cons pe_str (pa_cons pe_str (pa_cons pe_str pa_nil)))))) (by rfl))) (fun _ _ _ _ _ => (pv 1))))), ?_⟩
    have hdl : xs.length = js.length := by rw [txs.len, List.length_map]
    refine ⟨_, rfl, a, rfl, ⟨_, SqL.of ha⟩, fun D hD => lc_list (K := K) (a := a) (xs := xs) (fun i H' => Same H H' ∧ TL H' D ((toldJ (js.take i)).map jrD)) ⟨same_upd hD, [], upd_same, TDs.nil⟩ (fun i H' _ p => SqL.of (p.1 _ _ ha)) ?_ ?_⟩
    · rintro i y H' hy ⟨sm, ys, hy2, tys⟩
      obtain ⟨pd, hpd, td⟩ := txs.get' hy
      obtain ⟨j, hj, rfl⟩ := map_get hpd
      have td' := TD.mono (TS.of sm) _ _ td
      obtain ⟨f, zs, rfl, hf⟩ := jr_hd td'
      refine ⟨rfl, ?_⟩
      refine ⟨_, rfl, f, _, _, _, rfl, rfl, SqT.of hf, at0, by show 5 ≤ sizeLine; decide, fun u nu => ?_⟩
      have s2 := same_upd (o := .lst [V.str "sign", V.str "put", V.str "call", V.str "say", V.str "rest"]) nu
      refine ⟨u, _, rfl, .inl (SqL.of upd_same), rfl, by decide +kernel, _, rfl, ?_⟩
      rw [if_neg Bool.false_ne_true, told_in]
      have hy3 := s2 _ _ hy2
      have tys3 := TDs.mono (TS.of s2) _ _ tys
      have tt := toldJ_take hj
      cases htl : j.told with
      | false =>
        rw [htl, if_neg Bool.false_ne_true] at tt
        refine iteF ⟨sm.trans s2, ys, hy3, ?_⟩
        rw [tt]
        exact tys3
      | true =>
        rw [htl, if_pos rfl] at tt
        refine iteT ⟨_, rfl, ys, hy3, ?_, same_put (sm.trans s2) hD, _, upd_same, ?_⟩
        · have e1 := tys.len
          rw [List.length_map] at e1
          have e2 : (toldJ (js.take i)).length ≤ (js.take i).length := List.length_filter_le _ _
          rw [List.length_take] at e2
          exact Nat.lt_of_le_of_lt (show ys.length ≤ 9000 by omega) (by decide)
        · rw [tt, List.map_append]
          exact (TDs.mono (ts_put hy3) _ _ tys3).snoc (TD.mono (ts_put hy3) _ _ (TD.mono (TS.of s2) _ _ td'))
    · rintro H' ⟨sm, l⟩
      rw [hdl, List.take_length] at l
      exact q H' D sm l
theorem mn_ok (x : Int) : 0 ≤ (if (if x > 0 then x else 0) < 24 then (if x > 0 then x else 0) else (24 : Int)) ∧ (if (if x > 0 then x else 0) < 24 then (if x > 0 then x else 0) else (24 : Int)) ≤ 24 := by
  by_cases h : x > 0
  · rw [if_pos h]
    by_cases h2 : x < 24
    · rw [if_pos h2]; omega
    · rw [if_neg h2]; omega
  · rw [if_neg h]
    decide
def spTurns (K : PySem.W.Frag) : Sp := fun vs H Q _ => ∃ (a : Addr) (ns : List Int), vs = [.ref a, .int 16, .int 24] ∧ SqL K H a (iV ns) ∧ ∀ (H' : Hp) (r : Addr) (cs : List Int), Same H H' → H r = none → cs.length ≤ 24 → H' r = some (.lst (iV cs)) → Q (.ref r) H'
theorem ok_turns (T : Tp K mg) : GFn P w K mg base 1 "_law_turns" ["script", "start", "most"] (spTurns K) := by
  refine gfn T.g_law_turns (mk_ok T.f_law_turns sc_law_turns (bn_law_turns "_law_turns") (fun vs H Q E h => ?_) (fun cdv A outer s H vs Q E hr h => ?_))
  · obtain ⟨a, ns, rfl, _⟩ := h
    rfl
  · obtain ⟨a, ns, rfl, ha, q⟩ := h
    refine ⟨_, (pss_cons (ps_set (i := 3) sc_law_turns.nd rfl (Or.inl rfl) (pe_callB (call_min2 rfl) (by rfl) T.m_min (by decide +kernel) (pa_cons (pv 2) (pa_cons (pe_callB (call_max2 rfl) (by rfl) T.m_max (by decide +kernel) (pa_cons pe_int (pa_cons (pe_op op_sub (pe_callB call_len_seq (by rfl) T.m_len PySem.boot_len (pa_cons (pv 0) pa_nil)) (pv 1)) pa_nil))) pa_nil))))
      (pss_one (ps_ret (pe_lc (own := [("k", 4)]) (g := gName 4) (tt := tYes) rfl sc_law_turns.nd (pi_range1 rfl T.m_range (pa_cons (pv 3) pa_nil)) (blkOk_by (own := [("k", 4)]) (N := ["script", "start", "most", "many", "k"]) (sc := defScope s_law_turns) (by decide +kernel)) (fun _ _ _ _ _ => pg_name (i := 4) sc_law_turns.nd rfl (Or.inl rfl)) (fun _ _ _ _ _ => pts_nil) (fun _ _ _ _ _ => (pe_callB (cr_sumK (K := K) rfl) (by rfl) T.m_sum (by decide +kernel) (pa_cons (pe_stepK2 (K := K) (pv 0) (pe_op op_add (pv 1) (pv 4)) (pv 2)) pa_nil))))))), ?_⟩
    refine ⟨_, rfl, _, rfl, a, _, rfl, .inl ha, _, rfl, _, _, rfl, rfl, _, _, rfl, ?_⟩
    obtain ⟨m1, m2⟩ := mn_ok (((iV ns).length : Int) - 16)
    refine ⟨_, _, rfl, _, rfl, _, rfl, by omega, by omega, fun D hD => lc_range (lo := 0) (fun i H' => Same H H' ∧ ∃ cs : List Int, cs.length = i ∧ H' D = some (.lst (iV cs))) ⟨same_upd hD, [], rfl, upd_same⟩ ?_ ?_⟩
    · rintro i H' hi ⟨sm, cs, hcl, hc⟩
      refine ⟨rfl, _, rfl, _, rfl, _, rfl, _, _, rfl, rfl, _, rfl, a, ns, _, _, rfl, rfl, rfl, by decide, sql_same ha sm, fun p ms hml np => ?_⟩
      have s2 := same_upd (o := .lst (ms.map V.int)) np
      refine ⟨p, ms, rfl, SqL.of upd_same, _, s2 _ _ hc, ?_, same_put (sm.trans s2) hD, cs ++ [ms.sum], by rw [List.length_append, hcl]; rfl, ?_⟩
      · unfold iV
        rw [List.length_map]
        exact small1000 (by omega)
      · rw [upd_same]
        unfold iV
        rw [List.map_append]
        rfl
    · rintro H' ⟨sm, cs, hcl, hc⟩
      exact q H' D cs sm hD (by omega) hc
/-- what is known of the two runs when they are compared -/
def spAlike (K : PySem.W.Frag) : Sp := fun vs H Q _ => ∃ (p1 dx1 b1 bk1 t bn p2 dx2 b2 bk2 c o mm : Addr) (pl : Nat) (bx : List Int) (ks1 ks2 : List V), vs = [.ref p1, .ref p2] ∧ H p1 = some (.ins (He.ga K "FlatRun") dx1 (rnF b1 bk1 (rsF t pl bn))) ∧ H b1 = some (.lst (iV bx)) ∧ H bk1 = some (.lst ks1) ∧
  H p2 = some (.ins (He.ga K "NestRun") dx2 (rnF b2 bk2 (rsN c o mm))) ∧ H b2 = some (.lst (iV bx)) ∧ H bk2 = some (.lst ks2) ∧ ks1.length = ks2.length ∧ H o = some (.lst (iV [0, ((pl + 1 : Nat) : Int)])) ∧ ∀ H' : Hp, Same H H' → Q (.bl true) H'
theorem ok_alike (T : Tp K mg) : GFn P w K mg base 2 "_law_alike" ["run", "other"] (spAlike K) := by
  have G_FlatRun_numbers : GMt P w K mg base 1 (He.ga K "FlatRun") "numbers" ["self"] (spNumbers K "FlatRun") := ok_numbers T T.rnF T.f_FlatRun_numbers T.h_FlatRun_numbers
  have G_NestRun_numbers : GMt P w K mg base 1 (He.ga K "NestRun") "numbers" ["self"] (spNumbers K "NestRun") := ok_numbers T T.rnN T.f_NestRun_numbers T.h_NestRun_numbers
  have G_FlatRun_fed : GMt P w K mg base 1 (He.ga K "FlatRun") "fed" ["self"] (spFed K "FlatRun") := ok_fed T T.rnF T.f_FlatRun_fed T.h_FlatRun_fed
  have G_NestRun_fed : GMt P w K mg base 1 (He.ga K "NestRun") "fed" ["self"] (spFed K "NestRun") := ok_fed T T.rnN T.f_NestRun_fed T.h_NestRun_fed
  have G_NestRun_moods : GMt P w K mg base 1 (He.ga K "NestRun") "moods" ["self"] (spMoods K) := ok_moods T
  have G_FlatRun_flat : GMt P w K mg base 1 (He.ga K "FlatRun") "flat" ["self"] (spFlat K) := ok_flat T
  refine gfn T.g_law_alike (mk_ok T.f_law_alike sc_law_alike (bn_law_alike "_law_alike") (fun vs H Q E h => ?_) (fun cdv A outer s H vs Q E hr h => ?_))
  · obtain ⟨p1, dx1, b1, bk1, t, bn, p2, dx2, b2, bk2, c, o, mm, pl, bx, ks1, ks2, rfl, _⟩ := h
    rfl
  · obtain ⟨p1, dx1, b1, bk1, t, bn, p2, dx2, b2, bk2, c, o, mm, pl, bx, ks1, ks2, rfl, hp1, hb1, hk1, hp2, hb2, hk2, hkl, ho, q⟩ := h
    refine ⟨_, (pss_one (ps_ret (pe_and (pe_cmpR (op_eqD hr.units) (pe_gm0 G_FlatRun_numbers hr (pv 0)) (pe_gm0 G_NestRun_numbers hr (pv 1)) (nomark _)) (pe_and (pe_cmpR (op_eqD hr.units) (pe_gm0 G_NestRun_moods hr (pv 1)) (pe_lst (pa_cons pe_int (pa_cons (pe_op op_add pe_int (pe_gm0 G_FlatRun_flat hr (pv 0))) pa_nil))) (nomark _)) (pe_one (pe_cmpR op_eq (pe_gm0 G_FlatRun_fed hr (pv 0)) (pe_gm0 G_NestRun_fed hr (pv 1)) (nomark _))))))), ?_⟩
    refine ⟨_, rfl, p1, dx1, _, rfl, hp1, rfl, p1, dx1, b1, bk1, _, iV bx, rfl, hp1, hb1, fun H1 r1 s1 h1 => ?_⟩
    refine ⟨_, rfl, p2, dx2, _, rfl, s1 _ _ hp2, rfl, p2, dx2, b2, bk2, _, iV bx, rfl, s1 _ _ hp2, s1 _ _ hb2, fun H2 r2 s2 h2 => ?_⟩
    refine ⟨.list (bx.map .int), .list (bx.map .int), .lst (SqL.of (s2 _ _ h1)) (ints_dp bx), .lst (SqL.of h2) (ints_dp bx), shaped_list (int_flat bx), shaped_list (int_flat bx), _, rfl, ?_⟩
    rw [eqv_list (int_flat bx)]
    have s12 := s1.trans s2
    refine iteT ⟨_, rfl, p2, dx2, _, rfl, s12 _ _ hp2, rfl, p2, dx2, b2, bk2, c, o, mm, iV [0, ((pl + 1 : Nat) : Int)], rfl, s12 _ _ hp2, s12 _ _ ho, fun H3 r3 s3 h3 => ?_⟩
    have s13 := s12.trans s3
    refine ⟨_, rfl, p1, dx1, _, rfl, s13 _ _ hp1, rfl, p1, dx1, b1, bk1, t, bn, pl, rfl, s13 _ _ hp1, _, _, rfl, rfl, by show 2 ≤ sizeLine; decide, fun u nu => ?_⟩
    have s4 := same_upd (o := .lst [.int 0, .int (1 + (pl : Int))]) nu
    have e1 : (1 : Int) + (pl : Int) = ((pl + 1 : Nat) : Int) := by omega
    refine ⟨.list ([0, ((pl + 1 : Nat) : Int)].map .int), .list ([0, ((pl + 1 : Nat) : Int)].map .int), .lst (SqL.of (s4 _ _ h3)) (ints_dp _), .lst (SqL.of (by rw [← e1]; exact upd_same)) (ints_dp [0, ((pl + 1 : Nat) : Int)]), shaped_list (int_flat _), shaped_list (int_flat _), _, rfl, ?_⟩
    rw [eqv_list (int_flat _)]
    have s14 := s13.trans s4
    refine iteT ⟨_, rfl, p1, dx1, _, rfl, s14 _ _ hp1, rfl, p1, dx1, b1, bk1, _, ks1, rfl, s14 _ _ hp1, s14 _ _ hk1, ?_⟩
    refine ⟨_, rfl, p2, dx2, _, rfl, s14 _ _ hp2, rfl, p2, dx2, b2, bk2, _, ks2, rfl, s14 _ _ hp2, s14 _ _ hk2, rfl, ?_⟩
    rw [dec_int', decide_eq_true (show ((ks1.length : Int) - 1) = ((ks2.length : Int) - 1) by omega)]
    exact q _ s14
end
end K56
set_option Elab.async false
set_option linter.all false
set_option maxRecDepth 100000
set_option maxHeartbeats 4000000
namespace K56
open PySem PySem.Spec PyProof.Rows L2
/-! ### the plain law: what the two runs tell -/
def dmk : Dd → Option Mk
  | .mark m => some m
  | _ => none
def jmk : Jr → Option Mk
  | .mark m => some m
  | _ => none
theorem done_mk (d : Dd) (bx : List Int) : jmk (done1 d bx).2 = dmk d := by cases d <;> rfl
theorem perf_mk (ds : List Dd) : ∀ q : Pf, (ds.foldl perf1 q).2.1.map jmk = q.2.1.map jmk ++ ds.map dmk := by
  induction ds with
  | nil => intro q; simp
  | cons d ds ih =>
    intro q
    rw [List.foldl_cons, ih]
    unfold perf1
    rw [List.map_append, List.map_cons, List.map_cons, List.append_assoc]
    simp [done_mk]
theorem jmk_some {j : Jr} {m : Mk} (h : jmk j = some m) : j = .mark m := by
  cases j with
  | mark k => cases h; rfl
  | _ => cases h
theorem jmk_none {j : Jr} (h : jmk j = none) : NoMove j.hd := by
  rcases move_hd j with ⟨i, rfl⟩ | ⟨i, rfl⟩ | ⟨a, b, c, rfl⟩ | h2
  · cases h
  · cases h
  · cases h
  · exact h2
theorem Back.app {xs ys : List Jr} {o o1 o0 : List Int} (h : Back xs o o1) (h2 : Back ys o1 o0) : Back (xs ++ ys) o o0 := by
  induction h with
  | nil o => exact h2
  | inn hi _ ih => exact .inn hi (ih h2)
  | out hi _ ih => exact .out hi (ih h2)
  | other hn _ ih => exact .other hn (ih h2)
theorem Back.quiet {xs : List Jr} {o : List Int} (h : ∀ j ∈ xs, NoMove j.hd) : Back xs o o := by
  induction xs with
  | nil => exact .nil o
  | cons j xs ih => exact .other (h j List.mem_cons_self) (ih fun k hk => h k (List.mem_cons_of_mem _ hk))
theorem back_rows {R : List Jr} {a b n : Int} {ns : List (Option Mk)} (ha : 1 ≤ a) (hb : 1 ≤ b) (hn : ∀ x ∈ ns, x = none) (h : R.map jmk = some (.out a) :: some (.way n) :: (ns ++ [some (.inn b)])) : Back R.reverse [0, b] [0, a] := by
  match R, h with
  | [_], h =>
    rw [List.map_cons, List.map_nil] at h
    injection h with _ h
    cases h
  | j1 :: j2 :: R', h =>
    rw [List.map_cons, List.map_cons] at h
    injection h with h1 h
    injection h with h2 h
    obtain ⟨R1, R2, rfl, h3, h4⟩ := List.map_eq_append_iff.mp h
    obtain ⟨j4, rfl, h5⟩ := List.map_eq_singleton_iff.mp h4
    rw [jmk_some h1, jmk_some h2, jmk_some h5]
    have e : (Jr.mark (.out a) :: Jr.mark (.way n) :: (R1 ++ [Jr.mark (.inn b)])).reverse = Jr.mark (.inn b) :: (R1.reverse ++ [Jr.mark (.way n), Jr.mark (.out a)]) := by simp
    rw [e]
    refine .inn hb (Back.app (Back.quiet fun j hj => jmk_none (hn _ ?_)) (.other ?_ (.out ha (.nil _))))
    · rw [← h3]
      exact List.mem_map.mpr ⟨j, List.mem_reverse.mp hj, rfl⟩
    · exact (show NoMove "way" from ⟨by decide +kernel, by decide +kernel, by decide +kernel⟩)
theorem back_soN {ws : List Wy} (h : ∀ w ∈ ws, 1 ≤ w.tgt ∧ ∀ d ∈ w.deeds, d.told = true) (p : Nat) (bx : List Int) (s : Str) : Back (perf (soN ws p bx s).1 bx).2.1.reverse [0, (((soN ws p bx s).2 + 1 : Nat) : Int)] [0, ((p + 1 : Nat) : Int)] := by
  unfold soN
  cases e : pick ws p bx s with
  | none => exact .nil _
  | some j =>
    obtain ⟨y, hy⟩ := pick_some e
    obtain ⟨ht, hd⟩ := h y (List.mem_of_getElem? hy)
    dsimp only
    rw [hy]
    show Back (perf (scrN j p y) bx).2.1.reverse [0, ((y.tgt - 1 + 1 : Nat) : Int)] [0, ((p + 1 : Nat) : Int)]
    rw [show y.tgt - 1 + 1 = y.tgt by omega]
    refine back_rows (n := (j : Int)) (ns := y.deeds.map dmk) (by omega) (by omega) (fun x hx => ?_) ?_
    · obtain ⟨d, hd', rfl⟩ := List.mem_map.mp hx
      have := hd d hd'
      cases d with
      | mark m => cases this
      | _ => rfl
    · have z := perf_mk (scrN j p y) (bx, [], [])
      unfold perf
      rw [z]
      unfold scrN
      simp [dmk]
theorem back_dealN {ws : List Wy} (h : ∀ w ∈ ws, 1 ≤ w.tgt ∧ ∀ d ∈ w.deeds, d.told = true) (p : Nat) (bx : List Int) (wt : List Str) : ∀ k : Nat, Back (dealN (soN ws) k (p, bx, [], wt)).2.2.1.reverse [0, (((dealN (soN ws) k (p, bx, [], wt)).1 + 1 : Nat) : Int)] [0, ((p + 1 : Nat) : Int)]
  | 0 => .nil _
  | k + 1 => by
    have ih := back_dealN h p bx wt k
    show Back (dstep (soN ws) (dealN (soN ws) k (p, bx, [], wt))).2.2.1.reverse [0, (((dstep (soN ws) (dealN (soN ws) k (p, bx, [], wt))).1 + 1 : Nat) : Int)] _
    generalize dealN (soN ws) k (p, bx, [], wt) = x at ih ⊢
    obtain ⟨q, b, rows, w⟩ := x
    cases w with
    | nil => exact ih
    | cons sg w =>
      have z := back_soN h q b sg
      show Back (rows ++ [Jr.sign sg] ++ (perf (soN ws q b sg).1 b).2.1).reverse [0, (((soN ws q b sg).2 + 1 : Nat) : Int)] [0, ((p + 1 : Nat) : Int)]
      rw [List.reverse_append, List.reverse_append]
      exact z.app (.other (show NoMove "sign" from ⟨by decide +kernel, by decide +kernel, by decide +kernel⟩) ih)
theorem back_deal {ws : List Wy} (h : ∀ w ∈ ws, 1 ≤ w.tgt ∧ ∀ d ∈ w.deeds, d.told = true) {p : Nat} {bx : List Int} {wt : List Str} {dl : Nat × List Int × List Jr} (e : deal (soN ws) p bx [] wt = dl) : Back dl.2.2.reverse [0, ((dl.1 + 1 : Nat) : Int)] [0, ((p + 1 : Nat) : Int)] := by
  have z := back_dealN h p bx wt 8
  unfold deal at e
  generalize dealN (soN ws) 8 (p, bx, [], wt) = x at z e
  subst e
  show Back (x.2.2.1 ++ restOf x.2.2.2).reverse [0, ((x.1 + 1 : Nat) : Int)] _
  rw [List.reverse_append]
  refine Back.app (Back.quiet fun j hj => ?_) z
  unfold restOf at hj
  split at hj
  · cases hj
  · rw [List.mem_singleton.mp (List.mem_reverse.mp hj)]
    exact (show NoMove "rest" from ⟨by decide +kernel, by decide +kernel, by decide +kernel⟩)
theorem wysT_told (T : Tab) : ∀ w ∈ wysT T, 1 ≤ w.tgt ∧ ∀ d ∈ w.deeds, d.told = true := fun y hy => by
  unfold wysT at hy
  obtain ⟨p, hp, hy⟩ := List.mem_flatMap.mp hy
  obtain ⟨s, hs, hy⟩ := List.mem_flatMap.mp hy
  unfold wysS at hy
  obtain ⟨x, hx, e⟩ := List.mem_filterMap.mp hy
  split at e
  · cases e
  · have e := Option.some.inj e
    rw [← e]
    exact ⟨Nat.succ_le_succ (Nat.zero_le _), fun d hd => (List.mem_filter.mp hd).2⟩
theorem tolds_entS (beg : List Dd) : tolds (entS (tolds beg) [0, 1]) = tolds beg := by
  rw [entS_01]
  unfold tolds
  rw [List.filter_cons, if_neg (by simp [Dd.told]), List.filter_append, List.filter_filter]
  rw [show List.filter Dd.told [Dd.mark (.inn 1)] = [] from rfl, List.append_nil]
  simp only [Bool.and_self]
/-- the two runs' deals are alike -/
structure Like (nf m : Nat) (x y : Nat × List Int × List Jr) : Prop where
  pl : x.1 = y.1
  lt : x.1 < nf
  bx : x.2.1 = y.2.1
  len : x.2.1.length = m
  told : toldJ x.2.2 = toldJ y.2.2
  ok1 : ∀ j ∈ x.2.2, JrOk m j
  ok2 : ∀ j ∈ y.2.2, JrOk m j
  l1 : x.2.2.length ≤ 300
  l2 : y.2.2.length ≤ 300
theorem alike_T {m : Nat} {T : Tab} (tok : TabOk m T) : Alike T.nf m (soF T) (soN (wysT T)) := alike_FN fun p s r hp hs hr => (tok.ro p s r hp hs hr).2.2.2.1
theorem like_feed {m : Nat} {T : Tab} (tok : TabOk m T) {p : Nat} {bx : List Int} {sg : Str} (hp : p < T.nf) (hb : bx.length = m) (hs : PyData.strOk sg = true) {x y : Nat × List Int × List Jr} (ex : deal (soF T) p bx [] [sg] = x) (ey : deal (soN (wysT T)) p bx [] [sg] = y) : Like T.nf m x y := by
  have a := deal_like (alike_T tok) (p := p) (bx := bx) (rows := []) (rows' := []) (wt := [sg]) hp hb rfl
  have o1 := deal_ok (giv_F tok) (dsok_one (nf := T.nf) (nb := m) (pl := p) (bx := bx) hp hb hs)
  have o2 := deal_ok (giv_N (ways_ok tok)) (dsok_one (nf := T.nf) (nb := m) (pl := p) (bx := bx) hp hb hs)
  rw [ex] at a o1
  rw [ey] at a o2
  exact ⟨a.1, a.2.1, a.2.2.1, a.2.2.2.1, a.2.2.2.2, o1.2.2.1, o2.2.2.1, by have := o1.2.2.2; omega, by have := o2.2.2.2; omega⟩
theorem like_begin {m : Nat} {T : Tab} (tok : TabOk m T) {beg : List Dd} {bx : List Int} (hb : bx.length = m) (hd : DdsOk m beg) (hl : beg.length ≤ 3) {x y : Nat × List Int × List Jr} (ex : begD (soF T) beg bx = x) (ey : begD (soN (wysT T)) (entS (tolds beg) [0, 1]) bx = y) : Like T.nf m x y := by
  have ps := perf_same (ds := beg) (es := entS (tolds beg) [0, 1]) (tolds_entS beg).symm bx
  have hel : (entS (tolds beg) [0, 1]).length ≤ 12 := by
    rw [entS_01, List.length_cons, List.length_append, List.length_singleton]
    have := tolds_len beg
    omega
  have o1 := deal_ok (giv_F tok) (dsok_begin (nf := T.nf) (nb := m) (pl := 0) (bx := bx) (ds := beg) tok.nf.1 hb hd (by omega))
  have o2 := deal_ok (giv_N (ways_ok tok)) (dsok_begin (nf := T.nf) (nb := m) (pl := 0) (bx := bx) (ds := entS (tolds beg) [0, 1]) tok.nf.1 hb (entS_ok (dds_tolds hd)) hel)
  have a := deal_like (alike_T tok) (p := 0) (bx := (perf beg bx).1) (rows := (perf beg bx).2.1) (rows' := (perf (entS (tolds beg) [0, 1]) bx).2.1) (wt := (perf beg bx).2.2) tok.nf.1 (by rw [perf_len']; exact hb) ps.2.2
  unfold begD at ex ey
  rw [ex] at a o1
  rw [ey] at o2
  rw [ps.1, ps.2.1, ey] at a
  exact ⟨a.1, a.2.1, a.2.2.1, a.2.2.2.1, a.2.2.2.2, o1.2.2.1, o2.2.2.1, by have := o1.2.2.2; omega, by have := o2.2.2.2; omega⟩
/-- the feeds so far, the last one first: the flat rows, the chart's, the place before -/
abbrev Fd := List Jr × List Jr × Nat
def Ch (nf : Nat) : Nat → List Fd → Prop
  | _, [] => True
  | pl, x :: fs => Back x.2.1.reverse [0, ((pl + 1 : Nat) : Int)] [0, ((x.2.2 + 1 : Nat) : Int)] ∧ x.2.2 < nf ∧ Ch nf x.2.2 fs
structure FdOk (m : Nat) (x : Fd) : Prop where
  told : toldJ x.1 = toldJ x.2.1
  ok1 : ∀ j ∈ x.1, JrOk m j
  ok2 : ∀ j ∈ x.2.1, JrOk m j
  l1 : x.1.length ≤ 300
  l2 : x.2.1.length ≤ 300
theorem told_flat : ∀ {ls ms : List (List Jr)}, ls.map toldJ = ms.map toldJ → toldJ ls.flatten = toldJ ms.flatten
  | [], [], _ => rfl
  | l :: ls, m :: ms, h => by
    rw [List.map_cons, List.map_cons] at h
    injection h with h1 h2
    have ih := told_flat h2
    rw [List.flatten_cons, List.flatten_cons]
    unfold toldJ at h1 ih ⊢
    rw [List.filter_append, List.filter_append, h1, ih]
  | [], _ :: _, h => by cases h
  | _ :: _, [], h => by cases h
end K56
set_option Elab.async false
set_option linter.all false
set_option maxRecDepth 100000
set_option maxHeartbeats 4000000
namespace K56
open PySem PySem.Spec PyProof.Rows L2
/-- the list at bk begins with a list -/
def BkAt (H : Hp) (bk : Addr) : Prop := ∃ r ys zs, H bk = some (.lst (.ref r :: ys)) ∧ H r = some (.lst zs)
theorem Parts.bk {H : Hp} {bk : Addr} {j : List Jr} {js : List (List Jr)} {xs : List V} (h : Parts H (j :: js) xs) (e : H bk = some (.lst xs)) : BkAt H bk := by
  obtain ⟨r, ys, e2, ⟨zs, hz, _⟩, _⟩ := h
  subst e2
  exact ⟨r, ys, zs, e, hz⟩
theorem td_ref {H : Hp} {d : PyData} {r : Addr} (h : TD H d (.ref r)) : ∃ xs, H r = some (.tup xs) := by
  cases d with
  | int i => cases TD.i h
  | str s => cases TD.s h
  | tuple ds =>
    obtain ⟨a, xs, e, h1, _⟩ := h
    cases e
    exact ⟨xs, h1⟩
  | none => exact False.elim h
  | bool b => exact False.elim h
  | list l => exact False.elim h
  | dict l => exact False.elim h
theorem tl_ne {H : Hp} {a bk : Addr} {ds : List PyData} (h : TL H a ds) (b : BkAt H bk) : a ≠ bk := fun z => by
  obtain ⟨xs, h1, h2⟩ := h
  obtain ⟨r, ys, zs, b1, b2⟩ := b
  rw [z, b1] at h1
  have e : .ref r :: ys = xs := HO.lst.inj (Option.some.inj h1)
  subst e
  cases ds with
  | nil => have h2 : _ = ([] : List V) := h2; cases h2
  | cons d ds =>
    obtain ⟨y, ws, e, t, _⟩ := h2
    injection e with e1 e2
    rw [← e1] at t
    obtain ⟨us, hu⟩ := td_ref t
    rw [b2] at hu
    cases hu
theorem iv_ne {H : Hp} {a bk : Addr} {l : List Int} (h : H a = some (.lst (iV l))) (b : BkAt H bk) : a ≠ bk := fun z => by
  obtain ⟨r, ys, zs, b1, b2⟩ := b
  rw [z, b1] at h
  have e : .ref r :: ys = iV l := HO.lst.inj (Option.some.inj h)
  cases l with
  | nil => cases e
  | cons i l => cases e
theorem sv_ne {H : Hp} {a bk : Addr} {l : List Str} (h : H a = some (.lst (strV l))) (b : BkAt H bk) : a ≠ bk := fun z => by
  obtain ⟨r, ys, zs, b1, b2⟩ := b
  rw [z, b1] at h
  have e : .ref r :: ys = strV l := HO.lst.inj (Option.some.inj h)
  cases l with
  | nil => cases e
  | cons i l => cases e
section
variable {K : PySem.W.Frag} {H H' : Hp} {q bq C dx : Addr} {fq : Fl}
/-- what stays where an instance and a book change -/
structure Fr (H H' : Hp) (q bq : Addr) : Prop where
  keep : ∀ a o, H a = some o → a ≠ q → a ≠ bq → (∀ ps, o ≠ .tbl ps) → H' a = some o
  bk : BkAt H bq
  ins : ∃ C dx fs, H q = some (.ins C dx fs)
theorem Fr.of {b bk : Addr} {r : Fl} (f : Fx K [q, bq] H H') (b : BkAt H bq) (h : H q = some (.ins C dx fq)) : Fr H H' q bq := ⟨fun a o e n1 n2 n3 => f.keep a o e (K56.n2 n1 n2) n3, b, C, dx, fq, h⟩
theorem Fr.l {a : Addr} {xs : List V} (f : Fr H H' q bq) (h : H a = some (.lst xs)) (n : a ≠ bq) : H' a = some (.lst xs) := by
  obtain ⟨C, dx, fs, hq⟩ := f.ins
  exact f.keep a _ h (ne_of h hq (by intro z; cases z)) n fun _ z => nomatch z
theorem Fr.ts (f : Fr H H' q bq) : TS H H' := fun a xs h => by
  obtain ⟨C, dx, fs, hq⟩ := f.ins
  obtain ⟨r, ys, zs, b1, b2⟩ := f.bk
  exact f.keep a _ h (ne_of h hq (by intro z; cases z)) (ne_of h b1 (by intro z; cases z)) fun _ z => nomatch z
theorem Fr.tl {a : Addr} {ds : List PyData} (f : Fr H H' q bq) (h : TL H a ds) : TL H' a ds := by
  have n := tl_ne h f.bk
  obtain ⟨xs, h1, h2⟩ := h
  exact ⟨xs, f.l h1 n, TDs.mono f.ts _ _ h2⟩
theorem Fr.iv {a : Addr} {l : List Int} (f : Fr H H' q bq) (h : H a = some (.lst (iV l))) : H' a = some (.lst (iV l)) := f.l h (iv_ne h f.bk)
theorem Fr.pt {js : List (List Jr)} {xs : List V} (f : Fr H H' q bq) (h : Parts H js xs) : Parts H' js xs := h.mono fun r j t => f.tl t
theorem Fr.i {a C dx : Addr} {fs : Fl} (f : Fr H H' q bq) (h : H a = some (.ins C dx fs)) (n : a ≠ q) : H' a = some (.ins C dx fs) := by
  obtain ⟨r, ys, zs, b1, b2⟩ := f.bk
  exact f.keep a _ h n (ne_of h b1 (by intro z; cases z)) fun _ z => nomatch z
theorem ins_ne {a b C C' dx dx' : Addr} {f g : Fl} (h : H a = some (.ins C dx f)) (h' : H b = some (.ins C' dx' g)) (n : f ≠ g) : a ≠ b := fun z => by
  rw [z, h'] at h
  exact n (HO.ins.inj (Option.some.inj h)).2.2.symm
/-- a chart stays where a run changes -/
theorem Fr.tree {t : Addr} {n : Nat} {b bk : Addr} {r : Fl} (f : Fr H H' q bq) (hq : H q = some (.ins C dx (rnF b bk r))) (h : TreeAt K H t n) : TreeAt K H' t n := by
  obtain ⟨dt, k, e, s, h1, h2, h3, h4⟩ := h.ex
  exact ⟨dt, k, e, s, f.i h1 (ins_ne h1 hq (by intro z; injection z with z; injection z with z _; exact absurd z (by decide +kernel))), f.l h2 (sv_ne h2 f.bk), f.iv h3, f.iv h4⟩
theorem Fr.chart {c : Addr} {n : Nat} {bl : List (Str × Int)} {beg : List Dd} {ws : List Wy} {b bk : Addr} {r : Fl} (f : Fr H H' q bq) (hq : H q = some (.ins C dx (rnF b bk r))) (h : ChartAt K H c n bl beg ws) : ChartAt K H' c n bl beg ws := by
  obtain ⟨dc, b', nm, t, is, os, wy, h1, h2, h3, h4, h5, h6⟩ := h.ex
  exact ⟨dc, b', nm, t, is, os, wy, f.i h1 (ins_ne h1 hq (by intro z; injection z with _ z; injection z with z _; injection z with z _; exact absurd z (by decide +kernel))), f.tl h2, f.tree hq h3, f.tl h4, f.tl h5, f.tl h6⟩
end
/-- the flat run at a moment -/
structure S1 (K : PySem.W.Frag) (H : Hp) (p dx t b bk bn : Addr) (pl : Nat) (bx been : List Int) (j : List Jr) (js : List (List Jr)) (xs : List V) : Prop where
  hp : H p = some (.ins (He.ga K "FlatRun") dx (rnF b bk (rsF t pl bn)))
  hb : H b = some (.lst (iV bx))
  hk : H bk = some (.lst xs)
  pt : Parts H (j :: js) xs
  hn : H bn = some (.lst (iV been))
  nb : b ≠ bk
/-- the chart's run at a moment -/
structure S2 (K : PySem.W.Frag) (H : Hp) (p dx c b bk o mm : Addr) (pl : Nat) (bx ml : List Int) (j : List Jr) (js : List (List Jr)) (xs : List V) : Prop where
  hp : H p = some (.ins (He.ga K "NestRun") dx (rnF b bk (rsN c o mm)))
  hb : H b = some (.lst (iV bx))
  hk : H bk = some (.lst xs)
  pt : Parts H (j :: js) xs
  ho : H o = some (.lst (iV [0, ((pl + 1 : Nat) : Int)]))
  hl : ml ≠ []
  hm : H mm = some (.lst (iV ml))
  ht : LamX.Tabs (TT K) H
  nb : b ≠ bk
section
variable {K : PySem.W.Frag} {H H' : Hp} {p1 dx1 t b1 bk1 bn p2 dx2 c b2 bk2 o mm : Addr} {pl : Nat} {bx been ml : List Int} {j1 j2 : List Jr} {js1 js2 : List (List Jr)} {xs1 xs2 : List V}
theorem run_ne {pl' : Nat} {bx' : List Int} (h : S1 K H p1 dx1 t b1 bk1 bn pl bx been j1 js1 xs1) (g : S2 K H p2 dx2 c b2 bk2 o mm pl' bx' ml j2 js2 xs2) : p1 ≠ p2 := ins_ne h.hp g.hp (by
  intro z
  injection z with _ z
  injection z with _ z
  injection z with z _
  injection z with z _
  exact absurd z (by decide +kernel))
theorem S1.bk (h : S1 K H p1 dx1 t b1 bk1 bn pl bx been j1 js1 xs1) : BkAt H bk1 := h.pt.bk h.hk
theorem S2.bk (h : S2 K H p2 dx2 c b2 bk2 o mm pl bx ml j2 js2 xs2) : BkAt H bk2 := h.pt.bk h.hk
theorem S1.fr (h : S1 K H p1 dx1 t b1 bk1 bn pl bx been j1 js1 xs1) (f : Fx K [p1, bk1] H H') : Fr H H' p1 bk1 := ⟨fun a o e n1 n2 n3 => f.keep a o e (K56.n2 n1 n2) n3, h.bk, _, _, _, h.hp⟩
theorem S2.fr (h : S2 K H p2 dx2 c b2 bk2 o mm pl bx ml j2 js2 xs2) (f : Fx K [p2, bk2] H H') : Fr H H' p2 bk2 := ⟨fun a o e n1 n2 n3 => f.keep a o e (K56.n2 n1 n2) n3, h.bk, _, _, _, h.hp⟩
theorem S1.stay {q bq : Addr} (h : S1 K H p1 dx1 t b1 bk1 bn pl bx been j1 js1 xs1) (f : Fr H H' q bq) (n : p1 ≠ q) (k : bk1 ≠ bq) : S1 K H' p1 dx1 t b1 bk1 bn pl bx been j1 js1 xs1 :=
  ⟨f.i h.hp n, f.iv h.hb, f.l h.hk k, f.pt h.pt, f.iv h.hn, h.nb⟩
theorem S2.stay {q bq : Addr} (h : S2 K H p2 dx2 c b2 bk2 o mm pl bx ml j2 js2 xs2) (f : Fr H H' q bq) (n : p2 ≠ q) (k : bk2 ≠ bq) (t : LamX.Tabs (TT K) H → LamX.Tabs (TT K) H') : S2 K H' p2 dx2 c b2 bk2 o mm pl bx ml j2 js2 xs2 :=
  ⟨f.i h.hp n, f.iv h.hb, f.l h.hk k, f.pt h.pt, f.iv h.ho, h.hl, f.iv h.hm, t h.ht, h.nb⟩
theorem S1.same (h : S1 K H p1 dx1 t b1 bk1 bn pl bx been j1 js1 xs1) (s : Same H H') : S1 K H' p1 dx1 t b1 bk1 bn pl bx been j1 js1 xs1 :=
  ⟨s _ _ h.hp, s _ _ h.hb, s _ _ h.hk, h.pt.mono fun r j t => t.same s, s _ _ h.hn, h.nb⟩
theorem S2.same (h : S2 K H p2 dx2 c b2 bk2 o mm pl bx ml j2 js2 xs2) (s : Same H H') : S2 K H' p2 dx2 c b2 bk2 o mm pl bx ml j2 js2 xs2 :=
  ⟨s _ _ h.hp, s _ _ h.hb, s _ _ h.hk, h.pt.mono fun r j t => t.same s, s _ _ h.ho, h.hl, s _ _ h.hm, tabs_xn h.ht s, h.nb⟩
end
abbrev jF (fs : List Fd) : List (List Jr) := fs.reverse.map (·.1)
abbrev jN (fs : List Fd) : List (List Jr) := fs.reverse.map (·.2.1)
abbrev bF (fs : List Fd) : List Int := fs.reverse.map fun x => ((x.2.2 : Nat) : Int)
/-- the bases: what both runs leave alone -/
structure Bs2 (K : PySem.W.Frag) (B1 B2 H : Hp) (Tb : Tab) (bl : List (Str × Int)) (bg : List Dd) (t c p1 p2 bk1 bk2 : Addr) : Prop where
  x1 : Xn B1 H
  x2 : Xn B2 H
  n1 : NoTb B1
  n2 : NoTb B2
  tb : FTab K B1 t Tb
  ch : ChartAt K B2 c Tb.nf bl bg (wysT Tb)
  z1 : B1 p1 = none ∧ B1 bk1 = none ∧ B1 p2 = none ∧ B1 bk2 = none
  z2 : B2 p1 = none ∧ B2 bk1 = none ∧ B2 p2 = none ∧ B2 bk2 = none
/-- both runs at a moment of the law, i feeds at most -/
structure LI (K : PySem.W.Frag) (B1 B2 : Hp) (Tb : Tab) (bl : List (Str × Int)) (bg : List Dd) (t c p1 dx1 p2 dx2 : Addr) (i : Nat) (H : Hp) : Prop where
  ex : ∃ b1 bk1 bn b2 bk2 o mm pl bx ml j1 j2 fs xs1 xs2, S1 K H p1 dx1 t b1 bk1 bn pl bx (bF fs) j1 (jF fs) xs1 ∧ S2 K H p2 dx2 c b2 bk2 o mm pl bx ml j2 (jN fs) xs2 ∧ bk1 ≠ bk2 ∧ Bs2 K B1 B2 H Tb bl bg t c p1 p2 bk1 bk2 ∧
    pl < Tb.nf ∧ bx.length = bl.length ∧ fs.length ≤ i ∧ Ch Tb.nf pl fs ∧ FdOk bl.length (j1, j2, 0) ∧ ∀ x ∈ fs, FdOk bl.length x
theorem LI.same {K : PySem.W.Frag} {B1 B2 H H' : Hp} {Tb : Tab} {bl : List (Str × Int)} {bg : List Dd} {t c p1 dx1 p2 dx2 : Addr} {i : Nat} (h : LI K B1 B2 Tb bl bg t c p1 dx1 p2 dx2 i H) (s : Same H H') : LI K B1 B2 Tb bl bg t c p1 dx1 p2 dx2 i H' := by
  obtain ⟨b1, bk1, bn, b2, bk2, o, mm, pl, bx, ml, j1, j2, fs, xs1, xs2, h1, h2, h3, h4, h5⟩ := h.ex
  exact ⟨b1, bk1, bn, b2, bk2, o, mm, pl, bx, ml, j1, j2, fs, xs1, xs2, h1.same s, h2.same s, h3, ⟨LamX.ExtN.trans h4.x1 (xn_of s), LamX.ExtN.trans h4.x2 (xn_of s), h4.n1, h4.n2, h4.tb, h4.ch, h4.z1, h4.z2⟩, h5⟩
theorem LI.le {K : PySem.W.Frag} {B1 B2 H : Hp} {Tb : Tab} {bl : List (Str × Int)} {bg : List Dd} {t c p1 dx1 p2 dx2 : Addr} {i k : Nat} (h : LI K B1 B2 Tb bl bg t c p1 dx1 p2 dx2 i H) (s : i ≤ k) : LI K B1 B2 Tb bl bg t c p1 dx1 p2 dx2 k H := by
  obtain ⟨b1, bk1, bn, b2, bk2, o, mm, pl, bx, ml, j1, j2, fs, xs1, xs2, h1, h2, h3, h4, h5, h6, h7, h8⟩ := h.ex
  exact ⟨b1, bk1, bn, b2, bk2, o, mm, pl, bx, ml, j1, j2, fs, xs1, xs2, h1, h2, h3, h4, h5, h6, by omega, h8⟩
end K56
set_option Elab.async false
set_option linter.all false
set_option maxRecDepth 100000
set_option maxHeartbeats 4000000
namespace K56
open PySem PySem.Spec PyProof.Rows L2
theorem Parts.split {H : Hp} : ∀ {js : List (List Jr)} {j : List Jr} {xs : List V}, Parts H (js ++ [j]) xs → ∃ ys r, xs = ys ++ [.ref r] ∧ Parts H js ys ∧ TL H r (j.map jrD)
  | [], j, _, h => by
    obtain ⟨r, ys, e, t, e2⟩ := h
    have e2 : ys = [] := e2
    subst e2
    exact ⟨[], r, e, rfl, t⟩
  | k :: js, j, _, h => by
    obtain ⟨r, ys, e, t, h2⟩ := h
    obtain ⟨zs, r2, e2, h3, t2⟩ := Parts.split h2
    subst e2
    exact ⟨.ref r :: zs, r2, by rw [e]; rfl, ⟨r, zs, rfl, t, h3⟩, t2⟩
theorem jF_cons (x : Fd) (fs : List Fd) : jF (x :: fs) = jF fs ++ [x.1] := by simp [jF]
theorem jN_cons (x : Fd) (fs : List Fd) : jN (x :: fs) = jN fs ++ [x.2.1] := by simp [jN]
theorem bF_cons (x : Fd) (fs : List Fd) : bF (x :: fs) = bF fs ++ [((x.2.2 : Nat) : Int)] := by simp [bF]
theorem jF_len (fs : List Fd) : (jF fs).length = fs.length := by simp [jF]
theorem jN_len (fs : List Fd) : (jN fs).length = fs.length := by simp [jN]
theorem bF_len (fs : List Fd) : (bF fs).length = fs.length := by simp [bF]
theorem sg_at (x : Int) : ∃ s : Str, atI [V.str "go", V.str "go2", V.str "gog"] (x % 3) = some (.str s) ∧ PyData.strOk s = true := by
  have h : x % 3 = 0 ∨ x % 3 = 1 ∨ x % 3 = 2 := by omega
  rcases h with h | h | h
  · rw [h]; exact ⟨_, rfl, by decide +kernel⟩
  · rw [h]; exact ⟨_, rfl, by decide +kernel⟩
  · rw [h]; exact ⟨_, rfl, by decide +kernel⟩
section
variable {K : PySem.W.Frag} {B1 B2 H H1 H2 : Hp} {Tb : Tab} {bl : List (Str × Int)} {bg : List Dd} {p1 dx1 t b1 bk1 bn p2 dx2 c b2 bk2 o mm : Addr} {pl i : Nat} {bx ml : List Int} {j1 j2 : List Jr} {fs : List Fd} {xs1 xs2 : List V}
theorem li_feed {sg : Str} {dl dn : Nat × List Int × List Jr} {b1' bn' r1 b2' o' mm' r2 : Addr} {ml' : List Int} (a1 : S1 K H p1 dx1 t b1 bk1 bn pl bx (bF fs) j1 (jF fs) xs1) (a2 : S2 K H p2 dx2 c b2 bk2 o mm pl bx ml j2 (jN fs) xs2) (nbk : bk1 ≠ bk2) (bs : Bs2 K B1 B2 H Tb bl bg t c p1 p2 bk1 bk2)
    (hpl : pl < Tb.nf) (hbx : bx.length = bl.length) (hfl : fs.length ≤ i) (hch : Ch Tb.nf pl fs) (h0 : FdOk bl.length (j1, j2, 0)) (hfs : ∀ x ∈ fs, FdOk bl.length x) (tok : TabOk bl.length Tb) (hsg : PyData.strOk sg = true)
    (e1 : deal (soF Tb) pl bx [] [sg] = dl) (e2 : deal (soN (wysT Tb)) pl bx [] [sg] = dn)
    (f1 : Fx K [p1, bk1] H H1) (hp1 : H1 p1 = some (.ins (He.ga K "FlatRun") dx1 (rnF b1' bk1 (rsF t dl.1 bn')))) (hb1 : H1 b1' = some (.lst (iV dl.2.1))) (nb1 : b1' ≠ bk1) (hk1 : H1 bk1 = some (.lst (xs1 ++ [.ref r1]))) (tr1 : TL H1 r1 (dl.2.2.map jrD)) (hbn : H1 bn' = some (.lst (iV (bF fs ++ [(pl : Int)]))))
    (f2 : Fx K [p2, bk2] H1 H2) (hp2 : H2 p2 = some (.ins (He.ga K "NestRun") dx2 (rnF b2' bk2 (rsN c o' mm')))) (hb2 : H2 b2' = some (.lst (iV dn.2.1))) (nb2 : b2' ≠ bk2) (hk2 : H2 bk2 = some (.lst (xs2 ++ [.ref r2]))) (tr2 : TL H2 r2 (dn.2.2.map jrD)) (ho : H2 o' = some (.lst (iV [0, ((dn.1 + 1 : Nat) : Int)]))) (hml : ml' ≠ []) (hmm : H2 mm' = some (.lst (iV ml'))) :
    LI K B1 B2 Tb bl bg t c p1 dx1 p2 dx2 (i + 1) H2 ∧ toldJ dl.2.2 = toldJ dn.2.2 ∧ (∀ j ∈ dl.2.2, JrOk bl.length j) ∧ dl.2.2.length ≤ 300 ∧ dn.2.2.length ≤ 300 := by
  have lk := like_feed tok hpl hbx hsg e1 e2
  have bb := back_deal (wysT_told Tb) e2
  have fr1 := a1.fr f1
  have np := run_ne a1 a2
  have a2' := a2.stay fr1 np.symm nbk.symm f1.tabs
  have fr2 := a2'.fr f2
  have s1 : S1 K H1 p1 dx1 t b1' bk1 bn' dl.1 dl.2.1 (bF ((dl.2.2, dn.2.2, pl) :: fs)) j1 (jF ((dl.2.2, dn.2.2, pl) :: fs)) (xs1 ++ [.ref r1]) :=
    ⟨hp1, hb1, hk1, by rw [jF_cons]; exact (fr1.pt a1.pt).app (Parts.one tr1), by rw [bF_cons]; exact hbn, nb1⟩
  have s1' := s1.stay fr2 np nbk
  have s2 : S2 K H2 p2 dx2 c b2' bk2 o' mm' dl.1 dl.2.1 ml' j2 (jN ((dl.2.2, dn.2.2, pl) :: fs)) (xs2 ++ [.ref r2]) :=
    ⟨hp2, by rw [lk.bx]; exact hb2, hk2, by rw [jN_cons]; exact (fr2.pt a2'.pt).app (Parts.one tr2), by rw [lk.pl]; exact ho, hml, hmm, f2.tabs a2'.ht, nb2⟩
  refine ⟨⟨b1', bk1, bn', b2', bk2, o', mm', dl.1, dl.2.1, ml', j1, j2, (dl.2.2, dn.2.2, pl) :: fs, _, _, s1', s2, nbk, ⟨?_, ?_, bs.n1, bs.n2, bs.tb, bs.ch, bs.z1, bs.z2⟩, lk.lt, lk.len, Nat.succ_le_succ hfl, ⟨?_, hpl, hch⟩, h0, fun x hx => ?_⟩, lk.told, lk.ok1, lk.l1, lk.l2⟩
  · exact f2.xn (f1.xn bs.x1 (s2_ bs.z1.1 bs.z1.2.1)) (s2_ bs.z1.2.2.1 bs.z1.2.2.2)
  · exact f2.xn (f1.xn bs.x2 (s2_ bs.z2.1 bs.z2.2.1)) (s2_ bs.z2.2.2.1 bs.z2.2.2.2)
  · show Back dn.2.2.reverse [0, ((dl.1 + 1 : Nat) : Int)] [0, ((pl + 1 : Nat) : Int)]
    rw [lk.pl]
    exact bb
  · rcases List.mem_cons.mp hx with z | hx
    · rw [z]; exact ⟨lk.told, lk.ok1, lk.ok2, lk.l1, lk.l2⟩
    · exact hfs x hx
theorem li_back {x : Fd} {b1' bk1' bn' b2' bk2' o' mm' : Addr} {ml' : List Int} {ys1 ys2 : List V} (a1 : S1 K H p1 dx1 t b1 bk1 bn pl bx (bF (x :: fs)) j1 (jF (x :: fs)) xs1) (a2 : S2 K H p2 dx2 c b2 bk2 o mm pl bx ml j2 (jN (x :: fs)) xs2) (nbk : bk1 ≠ bk2) (bs : Bs2 K B1 B2 H Tb bl bg t c p1 p2 bk1 bk2)
    (hbx : bx.length = bl.length) (hfl : (x :: fs).length ≤ i) (hch : Ch Tb.nf pl (x :: fs)) (h0 : FdOk bl.length (j1, j2, 0)) (hfs : ∀ y ∈ x :: fs, FdOk bl.length y)
    (q1 : Parts H (j1 :: jF fs) ys1) (q2 : Parts H (j2 :: jN fs) ys2)
    (f1 : Fx K [p1] H H1) (hp1 : H1 p1 = some (.ins (He.ga K "FlatRun") dx1 (rnF b1' bk1' (rsV t (.int ((x.2.2 : Nat) : Int)) bn')))) (hb1 : H1 b1' = some (.lst (iV (undo x.1 bx)))) (hk1 : H1 bk1' = some (.lst ys1)) (nb1 : b1' ≠ bk1') (nk1 : H bk1' = none) (hbn : H1 bn' = some (.lst (iV (bF fs))))
    (f2 : Fx K [p2] H1 H2) (hp2 : H2 p2 = some (.ins (He.ga K "NestRun") dx2 (rnF b2' bk2' (rsN c o' mm')))) (hb2 : H2 b2' = some (.lst (iV (undo x.2.1 bx)))) (hk2 : H2 bk2' = some (.lst ys2)) (nb2 : b2' ≠ bk2') (nk2 : H1 bk2' = none) (ho : H2 o' = some (.lst (iV [0, ((x.2.2 + 1 : Nat) : Int)]))) (hml : ml' ≠ []) (hmm : H2 mm' = some (.lst (iV ml'))) :
    LI K B1 B2 Tb bl bg t c p1 dx1 p2 dx2 i H2 := by
  have hx := hfs x List.mem_cons_self
  have np := run_ne a1 a2
  have g1 : Fx K [p1, bk1] H H1 := f1.mono fun y hy => by rw [List.mem_singleton.mp hy]; exact List.mem_cons_self
  have g2 : Fx K [p2, bk2] H1 H2 := f2.mono fun y hy => by rw [List.mem_singleton.mp hy]; exact List.mem_cons_self
  have fr1 := a1.fr g1
  have a2' := a2.stay fr1 np.symm nbk.symm f1.tabs
  have fr2 := a2'.fr g2
  have eu := undo_like hx.told bx
  have s1 : S1 K H1 p1 dx1 t b1' bk1' bn' x.2.2 (undo x.1 bx) (bF fs) j1 (jF fs) ys1 := ⟨hp1, hb1, hk1, fr1.pt q1, hbn, nb1⟩
  have hkn : bk1' ≠ bk2 := by
    intro z
    have e := a2.hk
    rw [← z, nk1] at e
    cases e
  have s1' := s1.stay fr2 np hkn
  have s2 : S2 K H2 p2 dx2 c b2' bk2' o' mm' x.2.2 (undo x.1 bx) ml' j2 (jN fs) ys2 := ⟨hp2, by rw [eu]; exact hb2, hk2, fr2.pt (fr1.pt q2), ho, hml, hmm, f2.tabs a2'.ht, nb2⟩
  obtain ⟨c1, c2, c3⟩ := hch
  have xa := f1.xn bs.x1 (s1_ bs.z1.1)
  have xb := f1.xn bs.x2 (s1_ bs.z2.1)
  refine ⟨b1', bk1', bn', b2', bk2', o', mm', x.2.2, undo x.1 bx, ml', j1, j2, fs, ys1, ys2, s1', s2, ne_of_none hk1 nk2, ⟨f2.xn xa (s1_ bs.z1.2.2.1), f2.xn xb (s1_ bs.z2.2.2.1), bs.n1, bs.n2, bs.tb, bs.ch, ⟨bs.z1.1, xn_none bs.n1 bs.x1 nk1, bs.z1.2.2.1, xn_none bs.n1 xa nk2⟩, ⟨bs.z2.1, xn_none bs.n2 bs.x2 nk1, bs.z2.2.2.1, xn_none bs.n2 xb nk2⟩⟩, c2, ?_, ?_, c3, h0, fun y hy => hfs y (List.mem_cons_of_mem _ hy)⟩
  · unfold undo
    rw [undo_len]
    exact hbx
  · rw [List.length_cons] at hfl
    omega
end
end K56
set_option Elab.async false
set_option linter.all false
set_option maxRecDepth 100000
set_option maxHeartbeats 400000
namespace K56
open PySem PySem.Spec PyProof.Rows L2
theorem told_flatD {n : Nat} {js : List Jr} (h : ∀ j ∈ js, JrOk n j) : ∀ d ∈ (toldJ js).map jrD, flatD d := fun d hd => by
  obtain ⟨j, hj, rfl⟩ := List.mem_map.mp hd
  exact jr_flat (h j (List.mem_filter.mp hj).1)
theorem sql_xn {K : PySem.W.Frag} {H H' : Hp} {a : Addr} {xs : List V} (h : SqL K H a xs) (s : Xn H H') : SqL K H' a xs := by
  rcases h with (h | ⟨o, h⟩) | h
  · exact .inl (.inl (xn_l s h))
  · exact .inl (.inr ⟨o, s _ _ h fun _ z => nomatch z⟩)
  · exact .inr h
theorem sql_fx {K : PySem.W.Frag} {H H' : Hp} {a p C dx : Addr} {fs : Fl} {xs : List V} (h : SqL K H a xs) (f : Fx K [p] H H') (hp : H p = some (.ins C dx fs)) : SqL K H' a xs := by
  rcases h with (h | ⟨o, h⟩) | h
  · exact .inl (.inl (f.l h (n1 (ne_of h hp (by intro z; cases z)))))
  · exact .inl (.inr ⟨o, f.keep a _ h (n1 (ne_of h hp (by intro z; cases z))) fun _ z => nomatch z⟩)
  · exact .inr h
theorem story_facts {m i : Nat} {j1 j2 : List Jr} {fs : List Fd} (hfl : fs.length ≤ i) (hi : i ≤ 24) (h0 : FdOk m (j1, j2, 0)) (hfs : ∀ x ∈ fs, FdOk m x) :
    (∀ j ∈ j1 :: jF fs, j.length ≤ 300) ∧ (∀ j ∈ j2 :: jN fs, j.length ≤ 300) ∧ (j1 :: jF fs).flatten.length ≤ 9000 ∧ (j2 :: jN fs).flatten.length ≤ 9000 ∧ toldJ (j1 :: jF fs).flatten = toldJ (j2 :: jN fs).flatten ∧ ∀ j ∈ (j1 :: jF fs).flatten, JrOk m j := by
  have mF : ∀ j ∈ jF fs, ∃ x ∈ fs, x.1 = j := fun j hj => by
    obtain ⟨x, hx, e⟩ := List.mem_map.mp hj
    exact ⟨x, List.mem_reverse.mp hx, e⟩
  have mN : ∀ j ∈ jN fs, ∃ x ∈ fs, x.2.1 = j := fun j hj => by
    obtain ⟨x, hx, e⟩ := List.mem_map.mp hj
    exact ⟨x, List.mem_reverse.mp hx, e⟩
  have lF : ∀ j ∈ j1 :: jF fs, j.length ≤ 300 := fun j hj => by
    rcases List.mem_cons.mp hj with z | hj
    · rw [z]; exact h0.l1
    · obtain ⟨x, hx, rfl⟩ := mF j hj
      exact (hfs x hx).l1
  have lN : ∀ j ∈ j2 :: jN fs, j.length ≤ 300 := fun j hj => by
    rcases List.mem_cons.mp hj with z | hj
    · rw [z]; exact h0.l2
    · obtain ⟨x, hx, rfl⟩ := mN j hj
      exact (hfs x hx).l2
  have a := flat_len lF
  have b := flat_len lN
  rw [List.length_cons, jF_len] at a
  rw [List.length_cons, jN_len] at b
  have c : (fs.length + 1) * 300 ≤ 25 * 300 := Nat.mul_le_mul_right _ (by omega)
  refine ⟨lF, lN, by omega, by omega, told_flat ?_, fun j hj => ?_⟩
  · rw [List.map_cons, List.map_cons, show toldJ j1 = toldJ j2 from h0.told]
    unfold jF jN
    rw [List.map_map, List.map_map]
    congr 1
    refine List.map_congr_left fun x hx => ?_
    exact (hfs x (List.mem_reverse.mp hx)).told
  · obtain ⟨l, hl, hj⟩ := List.mem_flatten.mp hj
    rcases List.mem_cons.mp hl with z | hl
    · rw [z] at hj; exact h0.ok1 j hj
    · obtain ⟨x, hx, rfl⟩ := mF l hl
      exact (hfs x hx).ok1 j hj
section
variable {P : Program} {w : World} {K : PySem.W.Frag} {mg : Str → Option Value} {base : Heap}
theorem LI.alike {B1 B2 H : Hp} {Tb : Tab} {bl : List (Str × Int)} {bg : List Dd} {t c p1 dx1 p2 dx2 : Addr} {i : Nat} (h : LI K B1 B2 Tb bl bg t c p1 dx1 p2 dx2 i H) : ∃ (b1 bk1 bn b2 bk2 o mm : Addr) (pl : Nat) (bx : List Int) (ks1 ks2 : List V), H p1 = some (.ins (He.ga K "FlatRun") dx1 (rnF b1 bk1 (rsF t pl bn))) ∧ H b1 = some (.lst (iV bx)) ∧ H bk1 = some (.lst ks1) ∧
    H p2 = some (.ins (He.ga K "NestRun") dx2 (rnF b2 bk2 (rsN c o mm))) ∧ H b2 = some (.lst (iV bx)) ∧ H bk2 = some (.lst ks2) ∧ ks1.length = ks2.length ∧ H o = some (.lst (iV [0, ((pl + 1 : Nat) : Int)])) := by
  obtain ⟨b1, bk1, bn, b2, bk2, o, mm, pl, bx, ml, j1, j2, fs, xs1, xs2, a1, a2, _⟩ := h.ex
  exact ⟨b1, bk1, bn, b2, bk2, o, mm, pl, bx, xs1, xs2, a1.hp, a1.hb, a1.hk, a2.hp, a2.hb, a2.hk, by rw [a1.pt.len, a2.pt.len, List.length_cons, List.length_cons, jF_len, jN_len], a2.ho⟩
theorem S1.stay1 {H H' : Hp} {p1 dx1 t b1 bk1 bn q C dx : Addr} {fq : Fl} {pl : Nat} {bx been : List Int} {j1 : List Jr} {js1 : List (List Jr)} {xs1 : List V} (h : S1 K H p1 dx1 t b1 bk1 bn pl bx been j1 js1 xs1) (f : Fx K [q] H H') (hq : H q = some (.ins C dx fq)) (n : p1 ≠ q) : S1 K H' p1 dx1 t b1 bk1 bn pl bx been j1 js1 xs1 := by
  have ll : ∀ {a : Addr} {l : List V}, H a = some (.lst l) → H' a = some (.lst l) := fun e => f.l e (n1 (ne_of e hq (by intro z; cases z)))
  have ts : TS H H' := f.ts fun x hx l z => by rw [List.mem_singleton.mp hx, hq] at z; cases z
  exact ⟨f.i h.hp (n1 n), ll h.hb, ll h.hk, h.pt.mono fun r j ⟨zs, hz, tz⟩ => ⟨zs, ll hz, TDs.mono ts _ _ tz⟩, ll h.hn, h.nb⟩
def spLaw (K : PySem.W.Frag) : Sp := fun vs H Q _ => ∃ (a : Addr) (ns : List Int), vs = [.ref a] ∧ SqL K H a (iV ns) ∧ LamX.Tabs (TT K) H ∧ ∀ H' : Hp, Q (.bl true) H'
theorem ok_law {fd : FuncData} (T : Tp K mg) (TB : LamX.TabB base mg (kC K) (kP K)) (F : FunD K "law" "law" (defArgs s_law) (defBody s_law) (defScope s_law) [] [] (He.ga K "law") fd) : FnOk P w K mg base CX0 14 (He.ga K "law") fd ["script"] (spLaw K) := by
  have G_law_table : GFn P w K mg base 7 "_law_table" ["script"] (spTabl K) := ok_table T
  have G_FlatRun : GMk P w K mg base 11 "FlatRun" (He.ga K "FlatRun") ["self", "table"] (spInitF K) := ok_initF T
  have G_NestRun : GMk P w K mg base 11 "NestRun" (He.ga K "NestRun") ["self", "chart"] (spInitN K) := ok_initN T TB
  have G_unnested : GFn P w K mg base 5 "unnested" ["table"] (spUn K) := ok_unnested T
  have G_law_told : GFn P w K mg base 1 "_law_told" ["rows"] spLTold := ok_ltold T
  have G_law_alike : GFn P w K mg base 2 "_law_alike" ["run", "other"] (spAlike K) := ok_alike T
  have G_law_turns : GFn P w K mg base 1 "_law_turns" ["script", "start", "most"] (spTurns K) := ok_turns T
  have G_FlatRun_story : GMt P w K mg base 1 (He.ga K "FlatRun") "story" ["self"] (spStory K "FlatRun") := ok_story T T.rnF T.f_FlatRun_story T.h_FlatRun_story
  have G_NestRun_story : GMt P w K mg base 1 (He.ga K "NestRun") "story" ["self"] (spStory K "NestRun") := ok_story T T.rnN T.f_NestRun_story T.h_NestRun_story
  have G_FlatRun_fed : GMt P w K mg base 1 (He.ga K "FlatRun") "fed" ["self"] (spFed K "FlatRun") := ok_fed T T.rnF T.f_FlatRun_fed T.h_FlatRun_fed
  have G_FlatRun_back : GMt P w K mg base 4 (He.ga K "FlatRun") "back" ["self"] (spBackR K "FlatRun" PB1F PB2F) := F_back T
  have G_NestRun_back : GMt P w K mg base 4 (He.ga K "NestRun") "back" ["self"] (spBackR K "NestRun" PB1N PB2N) := N_back T
  have G_FlatRun_feed : GMt P w K mg base 11 (He.ga K "FlatRun") "feed" ["self", "sign"] (spFeedF K) := ok_feedF T
  have G_NestRun_feed : GMt P w K mg base 10 (He.ga K "NestRun") "feed" ["self", "sign"] (spFeed K "NestRun" gvN nfN nbN (SRN K)) := N_feed T TB
  refine F.ok sc_law (fun vs H Q E h => ?_) fun cdv A outer s H vs Q E hr h => ?_
  · obtain ⟨a, ns, rfl, _⟩ := h
    rfl
  · obtain ⟨a, ns, rfl, ha, ht, q⟩ := h
    have noxx : ∀ tt : L2.TS, PSs (cxOf CX0 P w K mg base ["script", "table", "run", "other", "cell", "ours", "theirs", "sign"] "law" (defScope s_law) (He.ga K "law") cdv A outer s H E).nox (defBody s_law) tt → PSs (cxOf CX0 P w K mg base ["script", "table", "run", "other", "cell", "ours", "theirs", "sign"] "law" (defScope s_law) (He.ga K "law") cdv A outer s H E) (defBody s_law) tt := fun tt h => h.nox
    suffices hh : ∃ tt, PSs (cxOf CX0 P w K mg base ["script", "table", "run", "other", "cell", "ours", "theirs", "sign"] "law" (defScope s_law) (He.ga K "law") cdv A outer s H E).nox (defBody s_law) tt ∧ tt { nx := fun _ H' => Q .non H', rt := Q } (start ["script", "table", "run", "other", "cell", "ours", "theirs", "sign"] [.ref a]) H from by
      obtain ⟨tt, h1, h2⟩ := hh
      exact ⟨tt, noxx tt h1, h2⟩
    refine ⟨_, (pss_cons (ps_set (i := 1) sc_law.nd rfl (Or.inl rfl) (pe_g G_law_table hr rfl (pa_cons (pv 0) pa_nil)))
      (pss_cons (ps_set (i := 2) sc_law.nd rfl (Or.inl rfl) (pe_gk G_FlatRun hr rfl (pa_cons (pv 1) pa_nil)))
      (pss_cons (ps_set (i := 3) sc_law.nd rfl (Or.inl rfl) (pe_gk G_NestRun hr rfl (pa_cons (pe_g G_unnested hr rfl (pa_cons (pv 1) pa_nil)) pa_nil)))
      (pss_cons (ps_if (PW.pt (pw_or (pt_cmpR (op_neD hr.units) (pe_g G_law_told hr rfl (pa_cons (pe_gm0 G_FlatRun_story hr (pv 2)) pa_nil)) (pe_g G_law_told hr rfl (pa_cons (pe_gm0 G_NestRun_story hr (pv 3)) pa_nil)) (nomark _)) (pw_or1 (pt_not (pt_val (pe_g G_law_alike hr rfl (pa_cons (pv 2) (pa_cons (pv 3) pa_nil))))))))
        (pss_one (ps_ret pe_bl))
        pss_nil)
      (pss_cons (ps_for PassesOwn.never rfl (pi_list (pe_g G_law_turns hr rfl (pa_cons (pv 0) (pa_cons pe_int (pa_cons pe_int pa_nil))))) (pg_name (i := 4) sc_law.nd rfl (Or.inl rfl))
        (pss_cons (ps_if (PW.pt (pw_and (pt_cmpR op_eq (pe_op op_mod (pv 4) pe_int) pe_int (nomark _)) (pw_and1 (pt_cmpR op_gt (pe_gm0 G_FlatRun_fed hr (pv 2)) pe_int (nomark _)))))
          (pss_cons (ps_set (i := 5) sc_law.nd rfl (Or.inl rfl) (pe_gm0 G_FlatRun_back hr (pv 2)))
          (pss_one (ps_set (i := 6) sc_law.nd rfl (Or.inl rfl) (pe_gm0 G_NestRun_back hr (pv 3)))))
          (pss_cons (ps_set (i := 7) sc_law.nd rfl (Or.inl rfl) (pe_ix ix_list (pe_lst (pa_cons pe_str (pa_cons pe_str (pa_cons pe_str pa_nil)))) (pe_op op_mod (pe_op op_fdivW (pv 4) pe_int) pe_int) (fun _ _ => rfl)))
          (pss_cons (ps_set (i := 5) sc_law.nd rfl (Or.inl rfl) (pe_gm G_FlatRun_feed hr (pv 2) (pa_cons (pv 7) pa_nil)))
          (pss_one (ps_set (i := 6) sc_law.nd rfl (Or.inl rfl) (pe_gm G_NestRun_feed hr (pv 3) (pa_cons (pv 7) pa_nil)))))))
        (pss_one (ps_if (PW.pt (pw_or (pt_cmpR (op_neD hr.units) (pe_g G_law_told hr rfl (pa_cons (pv 5) pa_nil)) (pe_g G_law_told hr rfl (pa_cons (pv 6) pa_nil)) (nomark _)) (pw_or1 (pt_not (pt_val (pe_g G_law_alike hr rfl (pa_cons (pv 2) (pa_cons (pv 3) pa_nil))))))))
          (pss_one (ps_ret pe_bl))
          pss_nil))))
      (pss_one (ps_ret (pe_cmpR (op_eqD hr.units) (pe_g G_law_told hr rfl (pa_cons (pe_gm0 G_FlatRun_story hr (pv 2)) pa_nil)) (pe_g G_law_told hr rfl (pa_cons (pe_gm0 G_NestRun_story hr (pv 3)) pa_nil)) (nomark _))))))))), ?_⟩
    refine ⟨_, rfl, a, ns, rfl, ha, fun t bl Tb beg H1 s1 htab tok hdo hdl hbl => ?_⟩
    refine ⟨_, rfl, ?_⟩
    intro p1 dx1 np1 ndx1 ne1
    have sM : Same H1 (upd (upd H1 dx1 (.own p1)) p1 (.ins (He.ga K "FlatRun") dx1 [])) := fun b' o' e' => by
      rw [upd_ne (ne_of_none e' np1), upd_ne (ne_of_none e' ndx1)]
      exact e'
    refine ⟨H1, p1, dx1, t, bl, beg, Tb, rfl, upd_same, sM, np1, htab, tok, hdo, by omega, by omega, fun dl e1 H2 b1 bk1 bn r1 f1 hp1 hb1 nb1 hk1 tr1 hbn nk1 => ⟨rfl, ?_⟩⟩
    have x12 : Xn H1 H2 := f1.xn (xn_of sM) (s1_ np1)
    have nbk1 : H1 bk1 = none := sM.free nk1
    have t2 := f1.tabs (tabs_xn (tabs_xn ht s1) sM)
    refine ⟨_, rfl, t, Tb, bl, beg, rfl, htab.mono x12, tok, hdl, fun H3 c s3 hch => ?_⟩
    intro p2 dx2 np2 ndx2 ne2
    have sM2 : Same H3 (upd (upd H3 dx2 (.own p2)) p2 (.ins (He.ga K "NestRun") dx2 [])) := fun b' o' e' => by
      rw [upd_ne (ne_of_none e' np2), upd_ne (ne_of_none e' ndx2)]
      exact e'
    refine ⟨H3, p2, dx2, c, Tb.nf, bl, tolds beg, wysT Tb, rfl, upd_same, sM2, np2, hch, ways_ok tok, tok.nf.1, by have := tok.nf.2; omega, dds_tolds hdo, by have := tolds_len beg; omega, by omega, tabs_xn (tabs_xn t2 s3) sM2, fun dn e2 H4 b2 bk2 o mm r2 ml f2 hp2 hb2 nb2 hk2 tr2 ho hml hmm nk2 => ⟨rfl, ?_⟩⟩
    have lk := like_begin tok (by rw [List.length_map]) hdo hdl e1 e2
    have a12 : S1 K H2 p1 dx1 t b1 bk1 bn dl.1 dl.2.1 (bF []) dl.2.2 (jF []) [.ref r1] := ⟨hp1, hb1, hk1, Parts.one tr1, hbn, nb1⟩
    have a13 := a12.same s3
    have p12 : p1 ≠ p2 := ne_of_none a13.hp np2
    have a14 := (a13.same sM2).stay1 f2 upd_same p12
    have t4 := f2.tabs (tabs_xn (tabs_xn t2 s3) sM2)
    have a24 : S2 K H4 p2 dx2 c b2 bk2 o mm dl.1 dl.2.1 ml dn.2.2 (jN []) [.ref r2] := ⟨hp2, by rw [lk.bx]; exact hb2, hk2, Parts.one tr2, by rw [lk.pl]; exact ho, hml, hmm, t4, nb2⟩
    have xb1 : Xn (cutS H2 p1 bk1) H3 := LamX.ExtN.trans cutS_xn (xn_of s3)
    have xb2 : Xn (cutS H3 p1 bk1) H3 := cutS_xn
    have zb1 : cutS H2 p1 bk1 p2 = none := xn_none cutS_nt xb1 np2
    have zb2 : cutS H3 p1 bk1 p2 = none := xn_none cutS_nt xb2 np2
    have xb1' := LamX.ExtN.trans xb1 (xn_of sM2)
    have xb2' := LamX.ExtN.trans xb2 (xn_of sM2)
    have frc : Fr H3 (cutS H3 p1 bk1) p1 bk1 := ⟨fun a o e n1 n2 n3 => cutS_l e n3 n1 n2, a13.bk, _, _, _, a13.hp⟩
    have li0 : LI K (cutS H2 p1 bk1) (cutS H3 p1 bk1) Tb bl (tolds beg) t c p1 dx1 p2 dx2 0 H4 :=
      ⟨b1, bk1, bn, b2, bk2, o, mm, dl.1, dl.2.1, ml, dl.2.2, dn.2.2, [], _, _, a14, a24, ne_of_none (a13.same sM2).hk nk2,
        ⟨f2.xn xb1' (s1_ zb1), f2.xn xb2' (s1_ zb2), cutS_nt, cutS_nt, htab.f.mono (xn_cutS x12 np1 nbk1), frc.chart a13.hp hch, ⟨cutS_p, cutS_q, zb1, xn_none cutS_nt xb1' nk2⟩, ⟨cutS_p, cutS_q, zb2, xn_none cutS_nt xb2' nk2⟩⟩, lk.lt, lk.len, Nat.le_refl _, True.intro, ⟨lk.told, lk.ok1, lk.ok2, lk.l1, lk.l2⟩, fun x hx => by cases hx⟩
    have ha1 : SqL K H1 a (iV ns) := sql_same ha s1
    have ha4 := sql_fx (sql_same (sql_same (sql_xn ha1 x12) s3) sM2) f2 upd_same
    clear a12 a13 a14 a24 xb1 xb2 xb1' xb2' frc hp1 hp2 hb1 hb2 hk1 hk2 tr1 tr2 ho hmm
    generalize cutS H2 p1 bk1 = B1 at li0
    generalize cutS H3 p1 bk1 = B2 at li0
    obtain ⟨b1, bk1, bn, b2, bk2, o, mm, pl, bx, ml, j1, j2, fs, xs1, xs2, a1, a2, nbk, bs, hpl, hbx, hfl, hch, h0, hfs⟩ := li0.ex
    obtain ⟨lF, lN, flF, flN, tdF, okF⟩ := story_facts hfl (Nat.zero_le 24) h0 hfs

    refine ⟨_, rfl, p1, dx1, _, rfl, a1.hp, rfl, p1, dx1, b1, bk1, _, xs1, j1 :: jF fs, rfl, a1.hp, a1.hk, a1.pt, by rw [List.length_cons, jF_len]; omega, lF, fun H5 u1 s5 t5 => ⟨u1, (j1 :: jF fs).flatten, rfl, t5, flF, fun H6 w1 s6 t6 => ?_⟩⟩
    have s56 := s5.trans s6
    refine ⟨_, rfl, p2, dx2, _, rfl, s56 _ _ a2.hp, rfl, p2, dx2, b2, bk2, _, xs2, j2 :: jN fs, rfl, s56 _ _ a2.hp, s56 _ _ a2.hk, (a2.same s56).pt, by rw [List.length_cons, jN_len]; omega, lN, fun H7 u2 s7 t7 => ⟨u2, (j2 :: jN fs).flatten, rfl, t7, flN, fun H8 w2 s8 t8 => ?_⟩⟩
    have s78 := s7.trans s8
    have s58 := s56.trans s78
    obtain ⟨y1, hy1, ty1⟩ := t6.same s78
    obtain ⟨y2, hy2, ty2⟩ := t8
    rw [← tdF] at ty2
    refine ⟨.list ((toldJ (j1 :: jF fs).flatten).map jrD), .list ((toldJ (j1 :: jF fs).flatten).map jrD), .lst (SqL.of hy1) (TDs.dp _ _ ty1), .lst (SqL.of hy2) (TDs.dp _ _ ty2), shaped_list (told_flatD okF), shaped_list (told_flatD okF), _, rfl, ?_⟩
    rw [eqv_list (told_flatD okF)]
    obtain ⟨b1, bk1, bn, b2, bk2, o, mm, pl, bx, ks1, ks2, g1, g2, g3, g4, g5, g6, g7, g8⟩ := (li0.same s58).alike
    refine iteF ⟨_, rfl, _, rfl, p1, dx1, b1, bk1, t, bn, p2, dx2, b2, bk2, c, o, mm, pl, bx, ks1, ks2, rfl, g1, g2, g3, g4, g5, g6, g7, g8, fun H9 s9 => ⟨_, rfl, iteF ?_⟩⟩
    have s49 := s58.trans s9
    have li9 := li0.same s49
    refine ⟨_, rfl, a, ns, rfl, sql_same ha4 s49, fun H10 r cs s10 nr hcl hr => ?_⟩
    have hcl' : (iV cs).length ≤ 24 := by unfold iV; rw [List.length_map]; exact hcl
    have li10 := li9.same s10
    clear s5 s6 s7 s8 s56 s78 s58 t5 t6 t7 hy1 ty1 hy2 ty2 li0 li9 a1 a2 bs g1 g2 g3 g4 g5 g6 g7 g8 h0 hfs hch lF lN flF flN tdF okF
    refine ⟨r, rfl, ⟨_, SqL.of hr⟩, for_list (K := K) (a := r) (xs := iV cs) (fun i σ H' => ∃ v4 v5 v6 v7, σ = [some (.ref a), some (.ref t), some (.ref p1), some (.ref p2), v4, v5, v6, v7] ∧ LI K B1 B2 Tb bl (tolds beg) t c p1 dx1 p2 dx2 i H' ∧ H' r = some (.lst (iV cs))) ⟨none, none, none, none, rfl, li10, hr⟩ (fun i σ H' _ ⟨_, _, _, _, _, _, e⟩ => SqL.of e) ?_ ?_⟩
    · rintro i y σ H' hy ⟨v4, v5, v6, v7, rfl, li, hrr⟩
      obtain ⟨z, hz, rfl⟩ := map_get hy
      have hi := (List.getElem?_eq_some_iff.mp hz).1
      refine ⟨_, rfl, _, _, rfl, rfl, (by show (0 : Int) < 5; decide), rfl, _, rfl, ite2 (fun e5 => ?_) (fun e5 => ?_)⟩
      · obtain ⟨b1, bk1, bn, b2, bk2, o, mm, pl, bx, ml, j1, j2, fs, xs1, xs2, a1, a2, nbk, bs, hpl, hbx, hfl, hch, h0, hfs⟩ := li.ex
        refine ⟨_, rfl, p1, dx1, _, rfl, a1.hp, rfl, p1, dx1, b1, bk1, _, xs1, rfl, a1.hp, a1.hk, _, _, rfl, rfl, _, rfl, ite2 (fun hfed => ?_) (fun hfed => ?_)⟩
        · skip
          cases fs with
          | nil =>
            have e : xs1.length = 1 := by rw [a1.pt.len]; rfl
            exact absurd (tt_of hfed) (by omega)
          | cons x fs =>
            have hx := hfs x List.mem_cons_self
            have pt1 := a1.pt
            have pt2 := a2.pt
            rw [jF_cons, ← List.cons_append] at pt1
            rw [jN_cons, ← List.cons_append] at pt2
            obtain ⟨ys1, r1, rfl, q1, tl1⟩ := Parts.split pt1
            obtain ⟨ys2, r2, rfl, q2, tl2⟩ := Parts.split pt2
            have np := run_ne a1 a2
            have hyn1 : ys1 ≠ [] := by obtain ⟨_, _, e, _⟩ := q1; rw [e]; simp
            have hyn2 : ys2 ≠ [] := by obtain ⟨_, _, e, _⟩ := q2; rw [e]; simp
            have hn1 := a1.hn
            rw [bF_cons] at hn1
            refine ⟨_, rfl, p1, dx1, _, rfl, a1.hp, rfl, ⟨t, bF fs, ((x.2.2 : Nat) : Int)⟩, p1, dx1, b1, bk1, r1, rsF t pl bn, x.1, bx, ys1, rfl, a1.hp, a1.hb, a1.hk, hyn1, by rw [hbx]; exact hx.ok1, tl1, ⟨_, bn, rfl, hn1⟩, fun H1 b1' bk1' rest1 ro f1 hp1' hb1' hk1' nb1' nk1' pb1 tlo1 => ?_⟩
            obtain ⟨bn', rfl, hbn'⟩ := pb1
            have g1 : Fx K [p1, bk1] H' H1 := f1.mono fun y hy => by rw [List.mem_singleton.mp hy]; exact List.mem_cons_self
            have fr1 := a1.fr g1
            have a2' := a2.stay fr1 np.symm nbk.symm f1.tabs
            refine ⟨_, rfl, p2, dx2, _, rfl, a2'.hp, rfl, ⟨c, [0, ((x.2.2 + 1 : Nat) : Int)]⟩, p2, dx2, b2, bk2, r2, rsN c o mm, x.2.1, bx, ys2, rfl, a2'.hp, a2'.hb, a2'.hk, hyn2, by rw [hbx]; exact hx.ok2, fr1.tl tl2, ⟨o, mm, _, ml, rfl, a2'.ho, a2'.hm, a2'.hl, hch.1⟩, fun H2 b2' bk2' rest2 rt f2 hp2' hb2' hk2' nb2' nk2' pb2 tlt => ?_⟩
            obtain ⟨o', mm', ml', rfl, ho', hmm', hml'⟩ := pb2
            have g2 : Fx K [p2, bk2] H1 H2 := f2.mono fun y hy => by rw [List.mem_singleton.mp hy]; exact List.mem_cons_self
            have fr2 := a2'.fr g2
            have li2 := (li_back a1 a2 nbk bs hbx hfl hch h0 hfs q1 q2 f1 hp1' hb1' hk1' nb1' nk1' hbn' f2 hp2' hb2' hk2' nb2' nk2' ho' hml' hmm').le (Nat.le_succ i)
            have tlo := fr2.tl tlo1
            have hr2 := fr2.iv (fr1.iv hrr)
            have hl1 := hx.l1
            have hl2 := hx.l2
            clear nb1' nb2' a1 a2 a2' bs hp1' hp2' hb1' hb2' hk1' hk2' fr1 fr2 hbn' ho' hmm' hch h0 pt1 pt2
            refine ⟨_, rfl, ro, x.1, rfl, tlo, by omega, fun H5 u1 s5 t5 => ⟨_, rfl, rt, x.2.1, rfl, tlt.same s5, by omega, fun H6 u2 s6 t6 => ?_⟩⟩
            obtain ⟨y1, hy1, ty1⟩ := t5.same s6
            obtain ⟨y2, hy2, ty2⟩ := t6
            rw [← hx.told] at ty2
            refine ⟨.list ((toldJ x.1).map jrD), .list ((toldJ x.1).map jrD), .lst (SqL.of hy1) (TDs.dp _ _ ty1), .lst (SqL.of hy2) (TDs.dp _ _ ty2), shaped_list (told_flatD hx.ok1), shaped_list (told_flatD hx.ok1), _, rfl, ?_⟩
            rw [eqv_list (told_flatD hx.ok1)]
            have s56 := s5.trans s6
            obtain ⟨b1, bk1, bn, b2, bk2, o, mm, pl, bx, ks1, ks2, g1, g2, g3, g4, g5, g6, g7, g8⟩ := (li2.same s56).alike
            refine iteF ⟨_, rfl, _, rfl, p1, dx1, b1, bk1, t, bn, p2, dx2, b2, bk2, c, o, mm, pl, bx, ks1, ks2, rfl, g1, g2, g3, g4, g5, g6, g7, g8, fun H7 s7 => ⟨_, rfl, iteF ?_⟩⟩
            have s57 := s56.trans s7
            exact ⟨_, _, _, _, rfl, li2.same s57, s57 _ _ hr2⟩
        · skip
          refine ⟨by show 3 ≤ sizeLine; decide, fun gl ngl => ?_⟩
          have sg1 := same_upd (o := .lst [V.str "go", V.str "go2", V.str "gog"]) ngl
          obtain ⟨sg, hat, hsg⟩ := sg_at (z / 5)
          refine ⟨_, rfl, _, _, rfl, rfl, ⟨by decide, l2 (by decide) (by decide)⟩, _, _, rfl, rfl, (by show (0 : Int) < 3; decide), gl, _, _, _, rfl, rfl, SqL.of upd_same, hat, ?_⟩
          have li1 := li.same sg1
          have hr1 := sg1 _ _ hrr
          generalize (upd H' gl (.lst [V.str "go", V.str "go2", V.str "gog"])) = Hg at li1 hr1
          obtain ⟨b1, bk1, bn, b2, bk2, o, mm, pl, bx, ml, j1, j2, fs, xs1, xs2, a1, a2, nbk, bs, hpl, hbx, hfl, hch, h0, hfs⟩ := li1.ex
          have tokx : TabOk bx.length Tb := by rw [hbx]; exact tok
          have xl1 : xs1.length ≤ 500 := by rw [a1.pt.len, List.length_cons, jF_len]; omega
          have xl2 : xs2.length ≤ 500 := by rw [a2.pt.len, List.length_cons, jN_len]; omega
          have np := run_ne a1 a2
          refine ⟨_, rfl, p1, dx1, _, rfl, a1.hp, rfl, _, rfl, B1, Tb, p1, dx1, b1, bk1, t, bn, pl, bF fs, bx, sg, xs1, rfl, a1.hp, a1.hb, a1.hk, a1.nb, bs.x1, bs.z1.1, bs.z1.2.1, bs.tb, tokx, a1.hn, hpl, by rw [bF_len]; omega, by omega, xl1, a1.pt.noint a1.hk, hsg, fun dl e1 H1 b1' bn' r1 ro f1 hp1' hb1' nb1' hk1' tr1 tlo1 hbn' => ?_⟩
          have fr1 := a1.fr f1
          have a2' := a2.stay fr1 np.symm nbk.symm f1.tabs
          have x2' := f1.xn bs.x2 (s2_ bs.z2.1 bs.z2.2.1)
          refine ⟨_, rfl, p2, dx2, _, rfl, a2'.hp, rfl, _, rfl, ⟨Tb.nf, bx.length, bl, tolds beg, wysT Tb, c⟩, cutS H1 p2 bk2, p2, dx2, b2, bk2, rsN c o mm, pl, bx, sg, xs2, rfl, a2'.hp, a2'.hb, a2'.hk, a2'.nb, cutS_nt, cutS_xn, cutS_p, cutS_q,
            ⟨o, mm, ml, rfl, bs.ch.mono (xn_cutS x2' bs.z2.2.2.1 bs.z2.2.2.2), ways_ok tokx, by have := tolds_len beg; show (tolds beg).length ≤ 100; omega, a2'.ho, a2'.hl, a2'.hm, a2'.ht⟩, hpl, rfl, by show bx.length ≤ 1000; omega, xl2, a2'.pt.noint a2'.hk, hsg, fun dn e2 H2 b2' rest2 r2 rt f2 hp2' hb2' nb2' hk2' tr2 tlt sr2 xn2 => ?_⟩
          obtain ⟨o', mm', ml', rfl, _, _, _, ho', hml', hmm', _⟩ := sr2
          have fr2 := a2'.fr f2
          obtain ⟨li2, htold, hok1, hl1, hl2⟩ := li_feed a1 a2 nbk bs hpl hbx hfl hch h0 hfs tok hsg e1 e2 f1 hp1' hb1' nb1' hk1' tr1 hbn' f2 hp2' hb2' nb2' hk2' tr2 ho' hml' hmm'
          have tlo := fr2.tl tlo1
          have hr2 := fr2.iv (fr1.iv hr1)
          clear nb1' nb2' a1 a2 a2' bs hp1' hp2' hb1' hb2' hk1' hk2' fr1 fr2 hbn' ho' hmm' hch h0 hfs

          refine ⟨_, rfl, ro, dl.2.2, rfl, tlo, by omega, fun H5 u1 s5 t5 => ⟨_, rfl, rt, dn.2.2, rfl, tlt.same s5, by omega, fun H6 u2 s6 t6 => ?_⟩⟩
          obtain ⟨y1, hy1, ty1⟩ := t5.same s6
          obtain ⟨y2, hy2, ty2⟩ := t6
          rw [← htold] at ty2
          refine ⟨.list ((toldJ dl.2.2).map jrD), .list ((toldJ dl.2.2).map jrD), .lst (SqL.of hy1) (TDs.dp _ _ ty1), .lst (SqL.of hy2) (TDs.dp _ _ ty2), shaped_list (told_flatD hok1), shaped_list (told_flatD hok1), _, rfl, ?_⟩
          rw [eqv_list (told_flatD hok1)]
          have s56 := s5.trans s6
          obtain ⟨b1, bk1, bn, b2, bk2, o, mm, pl, bx, ks1, ks2, g1, g2, g3, g4, g5, g6, g7, g8⟩ := (li2.same s56).alike
          refine iteF ⟨_, rfl, _, rfl, p1, dx1, b1, bk1, t, bn, p2, dx2, b2, bk2, c, o, mm, pl, bx, ks1, ks2, rfl, g1, g2, g3, g4, g5, g6, g7, g8, fun H7 s7 => ⟨_, rfl, iteF ?_⟩⟩
          have s57 := s56.trans s7
          exact ⟨_, _, _, _, rfl, li2.same s57, s57 _ _ hr2⟩
      · refine iteF ?_
        refine ⟨by show 3 ≤ sizeLine; decide, fun gl ngl => ?_⟩
        have sg1 := same_upd (o := .lst [V.str "go", V.str "go2", V.str "gog"]) ngl
        obtain ⟨sg, hat, hsg⟩ := sg_at (z / 5)
        refine ⟨_, rfl, _, _, rfl, rfl, ⟨by decide, l2 (by decide) (by decide)⟩, _, _, rfl, rfl, (by show (0 : Int) < 3; decide), gl, _, _, _, rfl, rfl, SqL.of upd_same, hat, ?_⟩
        have li1 := li.same sg1
        have hr1 := sg1 _ _ hrr
        generalize (upd H' gl (.lst [V.str "go", V.str "go2", V.str "gog"])) = Hg at li1 hr1
        obtain ⟨b1, bk1, bn, b2, bk2, o, mm, pl, bx, ml, j1, j2, fs, xs1, xs2, a1, a2, nbk, bs, hpl, hbx, hfl, hch, h0, hfs⟩ := li1.ex
        have tokx : TabOk bx.length Tb := by rw [hbx]; exact tok
        have xl1 : xs1.length ≤ 500 := by rw [a1.pt.len, List.length_cons, jF_len]; omega
        have xl2 : xs2.length ≤ 500 := by rw [a2.pt.len, List.length_cons, jN_len]; omega
        have np := run_ne a1 a2
        refine ⟨_, rfl, p1, dx1, _, rfl, a1.hp, rfl, _, rfl, B1, Tb, p1, dx1, b1, bk1, t, bn, pl, bF fs, bx, sg, xs1, rfl, a1.hp, a1.hb, a1.hk, a1.nb, bs.x1, bs.z1.1, bs.z1.2.1, bs.tb, tokx, a1.hn, hpl, by rw [bF_len]; omega, by omega, xl1, a1.pt.noint a1.hk, hsg, fun dl e1 H1 b1' bn' r1 ro f1 hp1' hb1' nb1' hk1' tr1 tlo1 hbn' => ?_⟩
        have fr1 := a1.fr f1
        have a2' := a2.stay fr1 np.symm nbk.symm f1.tabs
        have x2' := f1.xn bs.x2 (s2_ bs.z2.1 bs.z2.2.1)
        refine ⟨_, rfl, p2, dx2, _, rfl, a2'.hp, rfl, _, rfl, ⟨Tb.nf, bx.length, bl, tolds beg, wysT Tb, c⟩, cutS H1 p2 bk2, p2, dx2, b2, bk2, rsN c o mm, pl, bx, sg, xs2, rfl, a2'.hp, a2'.hb, a2'.hk, a2'.nb, cutS_nt, cutS_xn, cutS_p, cutS_q,
          ⟨o, mm, ml, rfl, bs.ch.mono (xn_cutS x2' bs.z2.2.2.1 bs.z2.2.2.2), ways_ok tokx, by have := tolds_len beg; show (tolds beg).length ≤ 100; omega, a2'.ho, a2'.hl, a2'.hm, a2'.ht⟩, hpl, rfl, by show bx.length ≤ 1000; omega, xl2, a2'.pt.noint a2'.hk, hsg, fun dn e2 H2 b2' rest2 r2 rt f2 hp2' hb2' nb2' hk2' tr2 tlt sr2 xn2 => ?_⟩
        obtain ⟨o', mm', ml', rfl, _, _, _, ho', hml', hmm', _⟩ := sr2
        have fr2 := a2'.fr f2
        obtain ⟨li2, htold, hok1, hl1, hl2⟩ := li_feed a1 a2 nbk bs hpl hbx hfl hch h0 hfs tok hsg e1 e2 f1 hp1' hb1' nb1' hk1' tr1 hbn' f2 hp2' hb2' nb2' hk2' tr2 ho' hml' hmm'
        have tlo := fr2.tl tlo1
        have hr2 := fr2.iv (fr1.iv hr1)
        clear nb1' nb2' a1 a2 a2' bs hp1' hp2' hb1' hb2' hk1' hk2' fr1 fr2 hbn' ho' hmm' hch h0 hfs

        refine ⟨_, rfl, ro, dl.2.2, rfl, tlo, by omega, fun H5 u1 s5 t5 => ⟨_, rfl, rt, dn.2.2, rfl, tlt.same s5, by omega, fun H6 u2 s6 t6 => ?_⟩⟩
        obtain ⟨y1, hy1, ty1⟩ := t5.same s6
        obtain ⟨y2, hy2, ty2⟩ := t6
        rw [← htold] at ty2
        refine ⟨.list ((toldJ dl.2.2).map jrD), .list ((toldJ dl.2.2).map jrD), .lst (SqL.of hy1) (TDs.dp _ _ ty1), .lst (SqL.of hy2) (TDs.dp _ _ ty2), shaped_list (told_flatD hok1), shaped_list (told_flatD hok1), _, rfl, ?_⟩
        rw [eqv_list (told_flatD hok1)]
        have s56 := s5.trans s6
        obtain ⟨b1, bk1, bn, b2, bk2, o, mm, pl, bx, ks1, ks2, g1, g2, g3, g4, g5, g6, g7, g8⟩ := (li2.same s56).alike
        refine iteF ⟨_, rfl, _, rfl, p1, dx1, b1, bk1, t, bn, p2, dx2, b2, bk2, c, o, mm, pl, bx, ks1, ks2, rfl, g1, g2, g3, g4, g5, g6, g7, g8, fun H7 s7 => ⟨_, rfl, iteF ?_⟩⟩
        have s57 := s56.trans s7
        exact ⟨_, _, _, _, rfl, li2.same s57, s57 _ _ hr2⟩
    · rintro σ H' ⟨v4, v5, v6, v7, rfl, li, hrr⟩
      obtain ⟨b1, bk1, bn, b2, bk2, o, mm, pl, bx, ml, j1, j2, fs, xs1, xs2, a1, a2, nbk, bs, hpl, hbx, hfl, hch, h0, hfs⟩ := li.ex
      obtain ⟨lF, lN, flF, flN, tdF, okF⟩ := story_facts hfl hcl' h0 hfs

      refine ⟨_, rfl, p1, dx1, _, rfl, a1.hp, rfl, p1, dx1, b1, bk1, _, xs1, j1 :: jF fs, rfl, a1.hp, a1.hk, a1.pt, by rw [List.length_cons, jF_len]; omega, lF, fun H5 u1 s5 t5 => ⟨u1, (j1 :: jF fs).flatten, rfl, t5, flF, fun H6 w1 s6 t6 => ?_⟩⟩
      have s56 := s5.trans s6
      refine ⟨_, rfl, p2, dx2, _, rfl, s56 _ _ a2.hp, rfl, p2, dx2, b2, bk2, _, xs2, j2 :: jN fs, rfl, s56 _ _ a2.hp, s56 _ _ a2.hk, (a2.same s56).pt, by rw [List.length_cons, jN_len]; omega, lN, fun H7 u2 s7 t7 => ⟨u2, (j2 :: jN fs).flatten, rfl, t7, flN, fun H8 w2 s8 t8 => ?_⟩⟩
      have s78 := s7.trans s8
      have s58 := s56.trans s78
      obtain ⟨y1, hy1, ty1⟩ := t6.same s78
      obtain ⟨y2, hy2, ty2⟩ := t8
      rw [← tdF] at ty2
      refine ⟨.list ((toldJ (j1 :: jF fs).flatten).map jrD), .list ((toldJ (j1 :: jF fs).flatten).map jrD), .lst (SqL.of hy1) (TDs.dp _ _ ty1), .lst (SqL.of hy2) (TDs.dp _ _ ty2), shaped_list (told_flatD okF), shaped_list (told_flatD okF), ?_⟩
      rw [eqv_list (told_flatD okF)]
      exact q _
end
end K56
set_option Elab.async false
set_option linter.all false
set_option maxRecDepth 100000
set_option maxHeartbeats 4000000
namespace K56
open PySem PySem.Spec PyProof.Rows L2
theorem law_at {w : World} {K : PySem.W.Frag} {h : Heap} {mg : Str → Option Value} {f : Addr} (X : K.In h) (G : h.Ns mainGlobals mg) (hfa : mg ("law" : Str) = some (.ref f)) (c : He.SaysX fa fn [] tf ex w h K) :
    LamX.LawAtS PySem.Challenge.rw_moodtree_k56_whole_written_back_runs w K CX0 14 63 "script" mg f h := by
  have T : Tp K mg := ⟨c.t.d, c.more, fun x e => He.glo_ok X G e, fun x e => He.free_ok X G e, fun x i e => He.int_ok X G e⟩
  obtain ⟨fd, F⟩ := T.f_law
  have e := hfa.symm.trans T.g_law
  cases e
  have b := FunD.bindsA (ps := ["script"]) F fun _ _ _ _ _ _ us hl => match us, hl with | [_], _ => rfl
  have one : ∀ p ∈ ([(kC K, kP K)] : List (Addr × Addr)), p = (kC K, kP K) := fun p hp => List.mem_singleton.mp hp
  have mt : (("kept", none) : He.Defn) ∈ tf := List.mem_singleton.mpr rfl
  refine ⟨fd, [(kC K, kP K)], spLaw K, fun p hp => ?_, fun p hp => ?_, fun p hp => ?_, fun s v => b s [v] rfl, fun H a ns hl _ hT hS => ?_, fun base X' G' hB => ok_law T (hB _ List.mem_cons_self) F⟩
  · rw [one p hp]; exact c.empty _ mt
  · rw [one p hp]; exact c.out _ mt
  · rw [one p hp]; exact PySem.W.codeHd_of_K X (c.hd _ mt)
  · refine ⟨a, ns, rfl, hS, fun p hp => ?_, fun _ => rfl⟩
    rw [List.mem_singleton.mp hp]
    exact LamX.TabS.nil (hT _ List.mem_cons_self)
end K56
open PySem PySem.W PySem.Calls PyProof.Rows
theorem PySem.Challenge.cw_moodtree_k56_whole_written_back_runs_holds : PySem.Challenge.rw_moodtree_k56_whole_written_back_runs.Holds := by
  w_on; o_law
  refine HandSHeadRun.head_any (r := OpenLaw.row PySem.Challenge.rw_moodtree_k56_whole_written_back_runs) (q := view (OpenLaw.row PySem.Challenge.rw_moodtree_k56_whole_written_back_runs).prog [72]) (H := K56.hk) (ob := K56R.ob) (M := 20000) (loose := K56.names)
    (d := HandSHeadRun.topDef (OpenLaw.row PySem.Challenge.rw_moodtree_k56_whole_written_back_runs).prog 72) (kwd := []) K56R.ob_eq
    (by kernel_rfl) (fun s => by kernel_rfl) K56R.run (by kernel_rfl) (by kernel_rfl) (by kernel_rfl) (by rfl) (by first | assumption | decide +kernel) (by decide +kernel) ⟨rfl, rfl, rfl, rfl, rfl, by decide +kernel⟩ ?hw ?hc
  case hw => w_witness2
  case hc =>
    refine LamX.walk_ofTsE (l := PySem.Challenge.rw_moodtree_k56_whole_written_back_runs) (n := 63) (k := 14) (x := "script") (CX := fun _ => L2.CX0) rfl (by decide) (by kernel_rfl) ⟨rfl, by decide, by decide⟩ ?F (fun _ _ _ _ _ z => z)
    intro w mg fa h Y G hmg0
    obtain ⟨K, KX, c⟩ := Y
    have hmg : mg ("law" : PySem.Str) = some (.ref fa) := by
      have e : (HandSHeadRun.topDef (OpenLaw.row PySem.Challenge.rw_moodtree_k56_whole_written_back_runs).prog 72).name = ("law" : PySem.Str) := by kernel_rfl
      rw [← e]
      exact hmg0
    exact ⟨K, KX, K56.law_at KX G hmg c⟩
