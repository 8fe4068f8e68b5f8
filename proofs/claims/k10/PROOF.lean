import PyProof.Rows.All
import Wide.All
import OpenK.AllK
import Wide.FinOn
import HandS.ForMost
import HandS.Exc
import HandS.TryOnly
import HandS.ExcOwn
import HandS.WordsExc
import HandS.Defaults
import HandS.Property
import HandS.Lambda
import HandS.HeadWalk
import HandS.HeadHook4
import HandS.Head2
import HandS.HeadEnd
import PySem.Challenge.RW_cacheheld_k10_whole_desks
import HandS.ExcInit
import KE.KExcSuper
import HandS.Steps
import HandS.Evl
import HandS.Small
import HandS.Deep
import HandS.IsInst
import HandS.Zip
import PyProof.EqAt
import PyProof.NeKinds
import HandS.Text
import HandS.Nested
import HandS.RaiseMore
import HandS.SetFor
import HandS.ExcIs
import HandS.ExcField
import KE.KExcIs
import KE.SortData
import HandS.More
import HandS.ListItems
section
set_option Elab.async false
set_option linter.all false
set_option maxRecDepth 100000
set_option maxHeartbeats 4000000
namespace K10
open PySem L2
def top (i : Nat) : Stmt := PySem.Challenge.pw_cacheheld_k10_whole_desks.main.body.getD i (.Pass ⟨0, 0, 0, 0⟩)
abbrev s_is_list : Stmt := top 1
abbrev s_InvalidText_init : Stmt := inClass (top 8) 0
abbrev s_is_choice : Stmt := top 16
abbrev s_is_design : Stmt := top 17
abbrev s_is_world : Stmt := top 18
abbrev s_need_design : Stmt := top 19
abbrev s_need_world : Stmt := top 20
abbrev s_need_both : Stmt := top 21
abbrev s_steps_of : Stmt := top 22
abbrev s_Operation_init : Stmt := inClass (top 26) 0
abbrev s_Operation_is_under_way : Stmt := inClass (top 26) 1
abbrev s_Run_init : Stmt := inClass (top 27) 0
abbrev s_Run_under_way : Stmt := inClass (top 27) 1
abbrev s_Run_is_writing : Stmt := inClass (top 27) 2
abbrev s_Run_next_step : Stmt := inClass (top 27) 3
abbrev s_Run_events : Stmt := inClass (top 27) 4
abbrev s_Run_do : Stmt := inClass (top 27) 5
abbrev s_Run_do_step : Stmt := inClass (top 27) 6
abbrev s_Run_do_read : Stmt := inClass (top 27) 7
abbrev s_Run_begin : Stmt := inClass (top 27) 8
abbrev s_Run_end : Stmt := inClass (top 27) 9
abbrev s_Run_do_write : Stmt := inClass (top 27) 10
abbrev s_Run_spoil : Stmt := inClass (top 27) 11
abbrev s_Run_is_newer : Stmt := inClass (top 27) 12
abbrev s_Run_put : Stmt := inClass (top 27) 13
abbrev s_Run_look : Stmt := inClass (top 27) 14
abbrev s_Run_fetch : Stmt := inClass (top 27) 15
abbrev s_Run_fill : Stmt := inClass (top 27) 16
abbrev s_Run_take : Stmt := inClass (top 27) 17
abbrev s_is_behind : Stmt := top 30
abbrev s_again : Stmt := top 31
abbrev s_run_of_list : Stmt := top 32
abbrev s_behind_write : Stmt := top 33
abbrev s_fills : Stmt := top 34
abbrev s_zones : Stmt := top 35
abbrev s_is_linear : Stmt := top 36
abbrev s_is_broken_by : Stmt := top 37
abbrev s_need_text : Stmt := top 41
abbrev s_number_in : Stmt := top 42
abbrev s_event_in : Stmt := top 43
abbrev s_event_text : Stmt := top 44
abbrev s_Desk_init : Stmt := inClass (top 46) 0
abbrev s_Desk_begin : Stmt := inClass (top 46) 1
abbrev s_Desk_show : Stmt := inClass (top 46) 2
abbrev s_Desk_done : Stmt := inClass (top 46) 3
abbrev s_Desk_broken : Stmt := inClass (top 46) 4
abbrev s_Desk_answer : Stmt := inClass (top 46) 5
abbrev s_Desk_run : Stmt := inClass (top 46) 6
abbrev s_Desk_undo : Stmt := inClass (top 46) 7
abbrev s_L_taken : Stmt := top 48
abbrev s_L_pick : Stmt := top 49
abbrev s_L_alike : Stmt := top 50
abbrev s_L_paths : Stmt := top 51
abbrev s_L_design : Stmt := top 52
abbrev s_L_world : Stmt := top 53
abbrev s_L_begin : Stmt := top 54
abbrev s_L_going : Stmt := top 55
abbrev s_L_next : Stmt := top 56
abbrev s_L_events : Stmt := top 57
abbrev s_L_end : Stmt := top 58
abbrev s_L_hold : Stmt := top 59
abbrev s_L_newer : Stmt := top 60
abbrev s_L_lets : Stmt := top 61
abbrev s_L_write : Stmt := top 62
abbrev s_L_read : Stmt := top 63
abbrev s_L_do : Stmt := top 64
abbrev s_L_run : Stmt := top 65
abbrev s_L_behind : Stmt := top 66
abbrev s_L_before : Stmt := top 67
abbrev s_L_was_quiet : Stmt := top 68
abbrev s_L_ordered : Stmt := top 69
abbrev s_L_in_order : Stmt := top 70
abbrev s_L_alone : Stmt := top 71
abbrev s_L_at_rest : Stmt := top 72
abbrev s_L_broken : Stmt := top 73
abbrev s_L_promises : Stmt := top 74
abbrev s_L_word : Stmt := top 75
abbrev s_L_line : Stmt := top 76
abbrev s_L_shown : Stmt := top 77
abbrev s_law : Stmt := top 78
def fnL : List He.DefD := [
  ⟨("is_list", none), "is_list", "is_list", defArgs s_is_list, defBody s_is_list, defScope s_is_list, [], []⟩,
  ⟨("is_choice", none), "is_choice", "is_choice", defArgs s_is_choice, defBody s_is_choice, defScope s_is_choice, [], []⟩,
  ⟨("is_design", none), "is_design", "is_design", defArgs s_is_design, defBody s_is_design, defScope s_is_design, [], []⟩,
  ⟨("is_world", none), "is_world", "is_world", defArgs s_is_world, defBody s_is_world, defScope s_is_world, [], []⟩,
  ⟨("need_design", none), "need_design", "need_design", defArgs s_need_design, defBody s_need_design, defScope s_need_design, [], []⟩,
  ⟨("need_world", none), "need_world", "need_world", defArgs s_need_world, defBody s_need_world, defScope s_need_world, [], []⟩,
  ⟨("need_both", none), "need_both", "need_both", defArgs s_need_both, defBody s_need_both, defScope s_need_both, [], []⟩,
  ⟨("steps_of", none), "steps_of", "steps_of", defArgs s_steps_of, defBody s_steps_of, defScope s_steps_of, [], []⟩,
  ⟨("Operation", some "__init__"), "__init__", "Operation.__init__", defArgs s_Operation_init, defBody s_Operation_init, defScope s_Operation_init, [], []⟩,
  ⟨("Operation", some "is_under_way"), "is_under_way", "Operation.is_under_way", defArgs s_Operation_is_under_way, defBody s_Operation_is_under_way, defScope s_Operation_is_under_way, [], []⟩,
  ⟨("Run", some "__init__"), "__init__", "Run.__init__", defArgs s_Run_init, defBody s_Run_init, defScope s_Run_init, [], []⟩,
  ⟨("Run", some "under_way"), "under_way", "Run.under_way", defArgs s_Run_under_way, defBody s_Run_under_way, defScope s_Run_under_way, [], []⟩,
  ⟨("Run", some "is_writing"), "is_writing", "Run.is_writing", defArgs s_Run_is_writing, defBody s_Run_is_writing, defScope s_Run_is_writing, [], []⟩,
  ⟨("Run", some "next_step"), "next_step", "Run.next_step", defArgs s_Run_next_step, defBody s_Run_next_step, defScope s_Run_next_step, [], []⟩,
  ⟨("Run", some "events"), "events", "Run.events", defArgs s_Run_events, defBody s_Run_events, defScope s_Run_events, [], []⟩,
  ⟨("Run", some "do"), "do", "Run.do", defArgs s_Run_do, defBody s_Run_do, defScope s_Run_do, [], []⟩,
  ⟨("Run", some "do_step"), "do_step", "Run.do_step", defArgs s_Run_do_step, defBody s_Run_do_step, defScope s_Run_do_step, [], []⟩,
  ⟨("Run", some "do_read"), "do_read", "Run.do_read", defArgs s_Run_do_read, defBody s_Run_do_read, defScope s_Run_do_read, [], []⟩,
  ⟨("Run", some "begin"), "begin", "Run.begin", defArgs s_Run_begin, defBody s_Run_begin, defScope s_Run_begin, [], []⟩,
  ⟨("Run", some "end"), "end", "Run.end", defArgs s_Run_end, defBody s_Run_end, defScope s_Run_end, [], []⟩,
  ⟨("Run", some "do_write"), "do_write", "Run.do_write", defArgs s_Run_do_write, defBody s_Run_do_write, defScope s_Run_do_write, [], []⟩,
  ⟨("Run", some "spoil"), "spoil", "Run.spoil", defArgs s_Run_spoil, defBody s_Run_spoil, defScope s_Run_spoil, [], []⟩,
  ⟨("Run", some "is_newer"), "is_newer", "Run.is_newer", defArgs s_Run_is_newer, defBody s_Run_is_newer, defScope s_Run_is_newer, [], []⟩,
  ⟨("Run", some "put"), "put", "Run.put", defArgs s_Run_put, defBody s_Run_put, defScope s_Run_put, [], []⟩,
  ⟨("Run", some "look"), "look", "Run.look", defArgs s_Run_look, defBody s_Run_look, defScope s_Run_look, [], []⟩,
  ⟨("Run", some "fetch"), "fetch", "Run.fetch", defArgs s_Run_fetch, defBody s_Run_fetch, defScope s_Run_fetch, [], []⟩,
  ⟨("Run", some "fill"), "fill", "Run.fill", defArgs s_Run_fill, defBody s_Run_fill, defScope s_Run_fill, [], []⟩,
  ⟨("Run", some "take"), "take", "Run.take", defArgs s_Run_take, defBody s_Run_take, defScope s_Run_take, [], []⟩,
  ⟨("is_behind", none), "is_behind", "is_behind", defArgs s_is_behind, defBody s_is_behind, defScope s_is_behind, [], []⟩,
  ⟨("again", none), "again", "again", defArgs s_again, defBody s_again, defScope s_again, [], []⟩,
  ⟨("run_of_list", none), "run_of_list", "run_of_list", defArgs s_run_of_list, defBody s_run_of_list, defScope s_run_of_list, [], []⟩,
  ⟨("behind_write", none), "behind_write", "behind_write", defArgs s_behind_write, defBody s_behind_write, defScope s_behind_write, [], []⟩,
  ⟨("fills", none), "fills", "fills", defArgs s_fills, defBody s_fills, defScope s_fills, [], []⟩,
  ⟨("zones", none), "zones", "zones", defArgs s_zones, defBody s_zones, defScope s_zones, [], []⟩,
  ⟨("is_linear", none), "is_linear", "is_linear", defArgs s_is_linear, defBody s_is_linear, defScope s_is_linear, [], []⟩,
  ⟨("is_broken_by", none), "is_broken_by", "is_broken_by", defArgs s_is_broken_by, defBody s_is_broken_by, defScope s_is_broken_by, [], []⟩,
  ⟨("need_text", none), "need_text", "need_text", defArgs s_need_text, defBody s_need_text, defScope s_need_text, [], []⟩,
  ⟨("number_in", none), "number_in", "number_in", defArgs s_number_in, defBody s_number_in, defScope s_number_in, [], []⟩,
  ⟨("event_in", none), "event_in", "event_in", defArgs s_event_in, defBody s_event_in, defScope s_event_in, [], []⟩,
  ⟨("event_text", none), "event_text", "event_text", defArgs s_event_text, defBody s_event_text, defScope s_event_text, [], []⟩,
  ⟨("Desk", some "__init__"), "__init__", "Desk.__init__", defArgs s_Desk_init, defBody s_Desk_init, defScope s_Desk_init, [], []⟩,
  ⟨("Desk", some "_begin"), "_begin", "Desk._begin", defArgs s_Desk_begin, defBody s_Desk_begin, defScope s_Desk_begin, [], []⟩,
  ⟨("Desk", some "_show"), "_show", "Desk._show", defArgs s_Desk_show, defBody s_Desk_show, defScope s_Desk_show, [], []⟩,
  ⟨("Desk", some "_answer"), "_answer", "Desk._answer", defArgs s_Desk_answer, defBody s_Desk_answer, defScope s_Desk_answer, [], []⟩,
  ⟨("Desk", some "run"), "run", "Desk.run", defArgs s_Desk_run, defBody s_Desk_run, defScope s_Desk_run, [], []⟩,
  ⟨("Desk", some "undo"), "undo", "Desk.undo", defArgs s_Desk_undo, defBody s_Desk_undo, defScope s_Desk_undo, [], []⟩,
  ⟨("_law_taken", none), "_law_taken", "_law_taken", defArgs s_L_taken, defBody s_L_taken, defScope s_L_taken, [], []⟩,
  ⟨("_law_pick", none), "_law_pick", "_law_pick", defArgs s_L_pick, defBody s_L_pick, defScope s_L_pick, [], []⟩,
  ⟨("_law_alike", none), "_law_alike", "_law_alike", defArgs s_L_alike, defBody s_L_alike, defScope s_L_alike, [], []⟩,
  ⟨("_law_paths", none), "_law_paths", "_law_paths", defArgs s_L_paths, defBody s_L_paths, defScope s_L_paths, [], []⟩,
  ⟨("_law_design", none), "_law_design", "_law_design", defArgs s_L_design, defBody s_L_design, defScope s_L_design, [], []⟩,
  ⟨("_law_world", none), "_law_world", "_law_world", defArgs s_L_world, defBody s_L_world, defScope s_L_world, [], []⟩,
  ⟨("_law_begin", none), "_law_begin", "_law_begin", defArgs s_L_begin, defBody s_L_begin, defScope s_L_begin, [], []⟩,
  ⟨("_law_going", none), "_law_going", "_law_going", defArgs s_L_going, defBody s_L_going, defScope s_L_going, [], []⟩,
  ⟨("_law_next", none), "_law_next", "_law_next", defArgs s_L_next, defBody s_L_next, defScope s_L_next, [], []⟩,
  ⟨("_law_events", none), "_law_events", "_law_events", defArgs s_L_events, defBody s_L_events, defScope s_L_events, [], []⟩,
  ⟨("_law_end", none), "_law_end", "_law_end", defArgs s_L_end, defBody s_L_end, defScope s_L_end, [], []⟩,
  ⟨("_law_hold", none), "_law_hold", "_law_hold", defArgs s_L_hold, defBody s_L_hold, defScope s_L_hold, [], []⟩,
  ⟨("_law_newer", none), "_law_newer", "_law_newer", defArgs s_L_newer, defBody s_L_newer, defScope s_L_newer, [], []⟩,
  ⟨("_law_lets", none), "_law_lets", "_law_lets", defArgs s_L_lets, defBody s_L_lets, defScope s_L_lets, [], []⟩,
  ⟨("_law_write", none), "_law_write", "_law_write", defArgs s_L_write, defBody s_L_write, defScope s_L_write, [], []⟩,
  ⟨("_law_read", none), "_law_read", "_law_read", defArgs s_L_read, defBody s_L_read, defScope s_L_read, [], []⟩,
  ⟨("_law_do", none), "_law_do", "_law_do", defArgs s_L_do, defBody s_L_do, defScope s_L_do, [], []⟩,
  ⟨("_law_run", none), "_law_run", "_law_run", defArgs s_L_run, defBody s_L_run, defScope s_L_run, [], []⟩,
  ⟨("_law_behind", none), "_law_behind", "_law_behind", defArgs s_L_behind, defBody s_L_behind, defScope s_L_behind, [], []⟩,
  ⟨("_law_before", none), "_law_before", "_law_before", defArgs s_L_before, defBody s_L_before, defScope s_L_before, [], []⟩,
  ⟨("_law_was_quiet", none), "_law_was_quiet", "_law_was_quiet", defArgs s_L_was_quiet, defBody s_L_was_quiet, defScope s_L_was_quiet, [], []⟩,
  ⟨("_law_ordered", none), "_law_ordered", "_law_ordered", defArgs s_L_ordered, defBody s_L_ordered, defScope s_L_ordered, [], []⟩,
  ⟨("_law_in_order", none), "_law_in_order", "_law_in_order", defArgs s_L_in_order, defBody s_L_in_order, defScope s_L_in_order, [], []⟩,
  ⟨("_law_alone", none), "_law_alone", "_law_alone", defArgs s_L_alone, defBody s_L_alone, defScope s_L_alone, [], []⟩,
  ⟨("_law_at_rest", none), "_law_at_rest", "_law_at_rest", defArgs s_L_at_rest, defBody s_L_at_rest, defScope s_L_at_rest, [], []⟩,
  ⟨("_law_broken", none), "_law_broken", "_law_broken", defArgs s_L_broken, defBody s_L_broken, defScope s_L_broken, [], []⟩,
  ⟨("_law_promises", none), "_law_promises", "_law_promises", defArgs s_L_promises, defBody s_L_promises, defScope s_L_promises, [], []⟩,
  ⟨("_law_word", none), "_law_word", "_law_word", defArgs s_L_word, defBody s_L_word, defScope s_L_word, [], []⟩,
  ⟨("_law_line", none), "_law_line", "_law_line", defArgs s_L_line, defBody s_L_line, defScope s_L_line, [], []⟩,
  ⟨("_law_shown", none), "_law_shown", "_law_shown", defArgs s_L_shown, defBody s_L_shown, defScope s_L_shown, [], []⟩,
  ⟨("law", none), "law", "law", defArgs s_law, defBody s_law, defScope s_law, [], []⟩]
def faL : List He.Fa := [
  .glo "is_list",
  .glo "CacheError",
  .glo "BadDesign",
  .glo "BadWorld",
  .glo "NotNow",
  .glo "NotText",
  .glo "InvalidText",
  .glo "NothingToUndo",
  .glo "PATHS",
  .glo "GUARDS",
  .glo "FLIGHTS",
  .glo "DESIGNS",
  .glo "WORLDS",
  .glo "is_choice",
  .glo "is_design",
  .glo "is_world",
  .glo "need_design",
  .glo "need_world",
  .glo "need_both",
  .glo "steps_of",
  .glo "OVER",
  .glo "Operation",
  .glo "Run",
  .glo "PROMISES",
  .glo "is_behind",
  .glo "again",
  .glo "run_of_list",
  .glo "behind_write",
  .glo "fills",
  .glo "zones",
  .glo "is_linear",
  .glo "is_broken_by",
  .glo "STEPS",
  .glo "need_text",
  .glo "number_in",
  .glo "event_in",
  .glo "event_text",
  .glo "Desk",
  .glo "_law_taken",
  .glo "_law_pick",
  .glo "_law_alike",
  .glo "_law_paths",
  .glo "_law_design",
  .glo "_law_world",
  .glo "_law_begin",
  .glo "_law_going",
  .glo "_law_next",
  .glo "_law_events",
  .glo "_law_end",
  .glo "_law_hold",
  .glo "_law_newer",
  .glo "_law_lets",
  .glo "_law_write",
  .glo "_law_read",
  .glo "_law_do",
  .glo "_law_run",
  .glo "_law_behind",
  .glo "_law_before",
  .glo "_law_was_quiet",
  .glo "_law_ordered",
  .glo "_law_in_order",
  .glo "_law_alone",
  .glo "_law_at_rest",
  .glo "_law_broken",
  .glo "_law_promises",
  .glo "_law_word",
  .glo "_law_line",
  .glo "_law_shown",
  .glo "law",
  .int "MOST_EVENTS" 60,
  .str "FIGURES" "0123456789",
  .free "all",
  .free "any",
  .free "bool",
  .free "dict",
  .free "enumerate",
  .free "int",
  .free "isinstance",
  .free "len",
  .free "list",
  .free "max",
  .free "min",
  .free "range",
  .free "sorted",
  .free "str",
  .free "tuple",
  .free "zip",
  .cls "Operation",
  .cls "Run",
  .cls "Desk",
  .noat "Operation" "number",
  .noat "Operation" "kind",
  .noat "Operation" "stage",
  .noat "Operation" "version",
  .noat "Operation" "begun",
  .noat "Operation" "ended",
  .noat "Operation" "step",
  .noat "Operation" "token",
  .noat "Operation" "leader",
  .noat "Operation" "floors",
  .noat "Operation" "is_quiet",
  .noat "Run" "steps",
  .noat "Run" "guard",
  .noat "Run" "is_shared",
  .noat "Run" "has_replica",
  .noat "Run" "has_evictions",
  .noat "Run" "has_stops",
  .noat "Run" "database",
  .noat "Run" "replica",
  .noat "Run" "cache",
  .noat "Run" "mark",
  .noat "Run" "flight",
  .noat "Run" "operations",
  .noat "Run" "events_done",
  .noat "Run" "finished",
  .noat "Run" "returned",
  .noat "Run" "last",
  .noat "Desk" "_design",
  .noat "Desk" "_world",
  .noat "Desk" "_now",
  .noat "Desk" "_done",
  .noat "Desk" "_broken",
  .meth "Operation" "is_under_way",
  .meth "Run" "under_way",
  .meth "Run" "is_writing",
  .meth "Run" "next_step",
  .meth "Run" "events",
  .meth "Run" "do",
  .meth "Run" "do_step",
  .meth "Run" "do_read",
  .meth "Run" "begin",
  .meth "Run" "end",
  .meth "Run" "do_write",
  .meth "Run" "spoil",
  .meth "Run" "is_newer",
  .meth "Run" "put",
  .meth "Run" "look",
  .meth "Run" "fetch",
  .meth "Run" "fill",
  .meth "Run" "take",
  .meth "Desk" "_begin",
  .meth "Desk" "_show",
  .meth "Desk" "_answer",
  .meth "Desk" "run",
  .meth "Desk" "undo",
  .mkr "Operation",
  .mkr "Run",
  .mkr "Desk",
  .exm "NotNow" "CacheError" true,
  .exm "NotText" "CacheError" true,
  .exm "InvalidText" "CacheError" true,
  .exm "NothingToUndo" "CacheError" true,
  .exm "NotNow" "NotNow" true,
  .exm "NotNow" "NotText" false,
  .exm "NotNow" "InvalidText" false,
  .exm "NotNow" "NothingToUndo" false,
  .exm "NotText" "NotNow" false,
  .exm "NotText" "NotText" true,
  .exm "NotText" "InvalidText" false,
  .exm "NotText" "NothingToUndo" false,
  .exm "InvalidText" "NotNow" false,
  .exm "InvalidText" "NotText" false,
  .exm "InvalidText" "InvalidText" true,
  .exm "InvalidText" "NothingToUndo" false,
  .exm "NothingToUndo" "NotNow" false,
  .exm "NothingToUndo" "NotText" false,
  .exm "NothingToUndo" "InvalidText" false,
  .exm "NothingToUndo" "NothingToUndo" true,
  .keep "CacheError",
  .keep "BadDesign",
  .keep "BadWorld",
  .keep "NotNow",
  .keep "NotText",
  .keep "InvalidText",
  .keep "NothingToUndo"]
def globL : List Str := (["is_list", "CacheError", "BadDesign", "BadWorld", "NotNow", "NotText", "InvalidText", "NothingToUndo", "PATHS", "GUARDS", "FLIGHTS", "DESIGNS", "WORLDS", "is_choice", "is_design", "is_world", "need_design", "need_world", "need_both", "steps_of", "MOST_EVENTS", "OVER", "Operation", "Run", "PROMISES"] : List Str) ++ (["is_behind", "again", "run_of_list", "behind_write", "fills", "zones", "is_linear", "is_broken_by", "FIGURES", "STEPS", "need_text", "number_in", "event_in", "event_text", "Desk", "_law_taken", "_law_pick", "_law_alike", "_law_paths", "_law_design", "_law_world", "_law_begin", "_law_going", "_law_next", "_law_events"] : List Str) ++ (["_law_end", "_law_hold", "_law_newer", "_law_lets", "_law_write", "_law_read", "_law_do", "_law_run", "_law_behind", "_law_before", "_law_was_quiet", "_law_ordered", "_law_in_order", "_law_alone", "_law_at_rest", "_law_broken", "_law_promises", "_law_word", "_law_line", "_law_shown"] : List Str)
end K10
end
section
set_option Elab.async false
set_option linter.all false
set_option maxRecDepth 100000
set_option maxHeartbeats 4000000
namespace K10
open PySem PySem.Spec PyProof.Rows L2
def fdOf (K : PySem.W.Frag) (a : Addr) : FuncData := match K.lookup a with
  | some ⟨_, _, .func fd, _⟩ => fd
  | _ => default
def gW (K : PySem.W.Frag) (a : Addr) : He.FnW := match K.lookup a with
  | some ⟨_, _, .func fd, _⟩ => some (fd.name, fd.qualname, fd.params, fd.body, fd.scope, fd.globals, fd.closure, fd.builtins)
  | _ => none
def gAd (K : PySem.W.Frag) (f : Str) : Addr := match PySem.W.recIn K (He.ma K (He.ga K "Desk") f) "property" with
  | some (.ref a :: _) => a
  | _ => 0
def itA (x : Str) (i : Nat) (K : PySem.W.Frag) : Addr := match K.lookup (He.ga K x) with
  | some ⟨_, _, .seq its _, _⟩ => (match its.toList[i]? with
    | some (.ref a) => a
    | _ => 0)
  | _ => 0
def tupAt (K : PySem.W.Frag) (a : Addr) (vs : List V) : Bool := match K.lookup a with
  | some ⟨.type c, _, .seq its _, _⟩ => decide (c = "tuple") && (decide (its.size ≤ sizeLine) && He.relAll vs its.toList)
  | _ => false
theorem tupAt_ok {K : PySem.W.Frag} {a : Addr} {vs : List V} (h : tupAt K a vs = true) (H : Hp) : SqT K H a vs := by
  unfold tupAt at h
  cases q : K.lookup a with
  | none =>
    rw [q] at h
    cases h
  | some o =>
    obtain ⟨oc, od, dt, osl⟩ := o
    rw [q] at h
    cases oc with
    | type c =>
      cases dt with
      | seq its n =>
        obtain ⟨h1, h2⟩ := He.ba (show (decide (c = "tuple") && (decide (its.size ≤ sizeLine) && He.relAll vs its.toList)) = true from h)
        obtain ⟨h3, h4⟩ := He.ba h2
        exact .inr ⟨_, its, n, q, congrArg Value.type (of_decide_eq_true h1), rfl, of_decide_eq_true h3, He.relAll_ok h4⟩
      | _ => cases h
    | _ => cases dt <;> cases h
def tyAt (K : PySem.W.Frag) (a : Addr) : Bool := match K.lookup a with
  | some ⟨.type c, _, .seq _ _, _⟩ => decide (c = "tuple")
  | _ => false
def propAt (K : PySem.W.Frag) (f : Str) : Bool :=
  He.eqO (PySem.W.findIn K (.ref (He.ga K "Desk")) f) (some (some (.ref (He.ma K (He.ga K "Desk") f)))) &&
  (decide (PySem.W.specialIn K (.ref (He.ma K (He.ga K "Desk") f)) "__get__" = some (some (.builtin "property.__get__"))) &&
  (decide (PySem.W.takesIn K (.ref (He.ma K (He.ga K "Desk") f)) = some true) &&
  ((match PySem.W.recIn K (He.ma K (He.ga K "Desk") f) "property" with
    | some (.ref a :: _) => decide (a = gAd K f)
    | _ => false) &&
  (match K.lookup (gAd K f) with
    | some ⟨_, _, .func fd, _⟩ => PySem.W.codeIn K fd.code ("Desk." ++ f) && (He.dflB K fd.defaults [] && PySem.W.keepIn K (.ref (gAd K f)))
    | _ => false))))
def exL : List (PySem.W.Frag → Bool) := [
  fun K => tupAt K (He.ga K "PATHS") [V.str "drop store", V.str "drop store drop", V.str "store", V.str "store drop", V.str "store set"],
  fun K => tupAt K (He.ga K "GUARDS") [V.str "always", V.str "empty", V.str "mark", V.str "never", V.str "newer", V.str "token"],
  fun K => tupAt K (He.ga K "FLIGHTS") [V.str "alone", V.str "shared"],
  fun K => tupAt K (He.ga K "OVER") [V.str "ended", V.str "stopped"],
  fun K => tupAt K (He.ga K "PROMISES") [V.str "ending", V.str "filled", V.str "forward", V.str "fresh", V.str "linear", V.str "mended", V.str "moving", V.str "quiet", V.str "rest", V.str "single"],
  fun K => tupAt K (He.ga K "STEPS") [V.str "drop", V.str "fetch", V.str "fill", V.str "look", V.str "set", V.str "stop", V.str "store", V.str "take"],
  fun K => tupAt K (He.ga K "DESIGNS") [V.ref (He.ga K "PATHS"), V.ref (He.ga K "GUARDS"), V.ref (He.ga K "FLIGHTS")],
  fun K => tupAt K (He.ga K "WORLDS") [V.ref (itA "WORLDS" 0 K), V.ref (itA "WORLDS" 1 K), V.ref (itA "WORLDS" 2 K)],
  fun K => tupAt K (itA "WORLDS" 0 K) [V.str "primary", V.str "replica"],
  fun K => tupAt K (itA "WORLDS" 1 K) [V.str "evicts", V.str "keeps"],
  fun K => tupAt K (itA "WORLDS" 2 K) [V.str "finishes", V.str "stops"],
  fun K => propAt K "done",
  fun K => propAt K "broken"]
def exB (K : PySem.W.Frag) : Bool := exL.all fun f => f K
def dDone : He.DefD := ⟨("Desk", none), "done", "Desk.done", defArgs s_Desk_done, defBody s_Desk_done, defScope s_Desk_done, [], []⟩
def dBroken : He.DefD := ⟨("Desk", none), "broken", "Desk.broken", defArgs s_Desk_broken, defBody s_Desk_broken, defScope s_Desk_broken, [], []⟩
end K10
end
section
set_option Elab.async false
set_option linter.all false
set_option maxRecDepth 100000
set_option maxHeartbeats 4000000
namespace K10
open PySem PySem.Spec PyProof.Rows L2
abbrev fileS : Str := PySem.Challenge.pw_cacheheld_k10_whole_desks.main.file
abbrev itC (K : PySem.W.Frag) : Addr := He.ga K "InvalidText"
abbrev itF (K : PySem.W.Frag) : Addr := He.ma K (He.ga K "InvalidText") "__init__"
abbrev itFd (cc cda : Addr) (kV doc pm ct : Value) (an : Option Addr) : FuncData := PySem.W.fnX "__init__" "InvalidText.__init__" (defArgs s_InvalidText_init) (defBody s_InvalidText_init) (defScope s_InvalidText_init) [("__class__", cc)] .none kV doc pm an (.ref cda) ct
abbrev CW : Type := Option (Str × Str × Arguments × FuncBody × Scope × Addr × List Str × Addr)
def gC (K : PySem.W.Frag) (a : Addr) : CW := match K.lookup a with
  | some ⟨_, _, .func fd, _⟩ => some (fd.name, fd.qualname, fd.params, fd.body, fd.scope, fd.globals, fd.closure.map (·.1), fd.builtins)
  | _ => none
def itVal : CW := some ("__init__", "InvalidText.__init__", defArgs s_InvalidText_init, .stmts (defBody s_InvalidText_init), defScope s_InvalidText_init, mainGlobals, ["__class__"], builtinsNs)
def itCls (K : PySem.W.Frag) (C : Addr) : Bool := match K.lookup C with
  | some ⟨.type c, _, .cls cd, sl⟩ => decide (c = "type") && (cd.hasDict && (!cd.hasDel && ((match cd.mro with
    | .ref C' :: bm => decide (C' = C) && PySem.HandSPX.refsVE bm
    | _ => false) && (match sl.toList with
    | [_, _, _, _, some (.builtin n), _] => decide (n = "ValueError.__new__")
    | _ => false))))
  | _ => false
def itFn (K : PySem.W.Frag) : Bool := match K.lookup (itF K) with
  | some ⟨_, _, .func fd, _⟩ => (match fd.defaults with
    | .none => true
    | _ => false) && ((match fd.code with
    | .ref cda => PySem.W.codeIn K (.ref cda) "InvalidText.__init__" && (match K.lookup cda with
      | some ⟨_, _, .fields vs, _⟩ => (match vs.toList.getD 2 Value.none with
        | .str z _ => decide (z = fileS)
        | _ => false)
      | _ => false)
    | _ => false) && (match fd.closure with
    | [(_, cc)] => (match K.lookup cc with
      | some ⟨_, _, .cell (some (.ref d)), _⟩ => decide (d = itC K)
      | _ => false)
    | _ => false))
  | _ => false
def itB (K : PySem.W.Frag) : Bool := itCls K (itC K) && (itFn K && (He.eqO (PySem.W.findIn K (.ref (itC K)) "__setattr__") (some (some (.builtin "object.__setattr__"))) && (decide (PySem.W.subIn K (.ref (itC K)) (.type "BaseException") = some true) &&
  (decide (PySem.W.typeIn K (.ref (itC K)) = some (.type "type")) && (PySem.W.keepIn K (.ref (itC K)) && (He.eqO (PySem.W.findIn K (.ref (itC K)) "__init__") (some (some (.ref (itF K)))) && (decide (PySem.W.typeIn K (.ref (itF K)) = some (.type "function")) &&
  (He.eqO (PySem.W.findIn K (.ref (itC K)) "line") (some none) && (decide (PySem.W.mroIn K (itC K) (.ref (itC K)) = some true) && (He.eqO (PySem.W.nsIn K mainGlobals "super") (some none) && (He.eqO (PySem.W.nsIn K cStatics "thirdparty.any") (some none) &&
  (He.eqO (PySem.W.ks_superIn K (itC K) (itC K) "__init__") (some (some (.builtin "ValueError.__init__"))) && decide (PySem.W.subIn K (.ref (itC K)) (.type "ValueError") = some true)))))))))))))
inductive Ex4 where
  | invalid | now | text | undo
  deriving DecidableEq, Inhabited
def Ex4.nm : Ex4 → Str
  | .invalid => "InvalidText" | .now => "NotNow" | .text => "NotText" | .undo => "NothingToUndo"
def Ex4.all : List Ex4 := [.invalid, .now, .text, .undo]
def excCB (K : PySem.W.Frag) (D : Addr) : Bool := decide (PySem.W.findIn K (.ref D) "__getattribute__" = some (some (.builtin "BaseException.__getattribute__"))) && (decide (PySem.W.findIn K (.ref D) "__getattr__" = some none) && (decide (PySem.W.subIn K (.ref D) (.type "BaseException") = some true) && (PySem.W.hasDictIn K D &&
  (decide (PySem.W.findIn K (.ref D) "__class__" = some (some (.builtin "object.__class__"))) && (decide (PySem.W.specialIn K (.builtin "object.__class__") "__get__" = some (some (.builtin "getset_descriptor.__get__"))) && (decide (PySem.W.takesIn K (.builtin "object.__class__") = some true) && decide (PySem.W.mroIn K D (.type "object") = some true)))))))
def xqB (K : PySem.W.Frag) : Bool := ([Ex4.now, .text, .undo].all fun x => (He.Fa.exc x.nm).ok K) && ((Ex4.all.all fun x => excCB K (He.ga K x.nm)) && Ex4.all.all fun x => Ex4.all.all fun y => decide (PySem.W.kitOne K (.ref (He.ga K x.nm)) (.ref (He.ga K y.nm)) = some (decide (x = y))) && true)
def xmB (K : PySem.W.Frag) : Bool := (Ex4.all.all fun x => decide (PySem.W.exmOne K (.ref (He.ga K x.nm)) (.ref (He.ga K "CacheError")) = some true)) && decide (PySem.W.findIn K (.ref (He.ga K "InvalidText")) "line" = some none)
end K10
end
section
set_option Elab.async false
set_option linter.all false
set_option maxRecDepth 100000
set_option maxHeartbeats 4000000
namespace K10
open PySem PySem.Spec PyProof.Rows L2
def exAll (K : PySem.W.Frag) : Bool := exB K && (itB K && (xqB K && xmB K))
def tfL : List He.Defn := [("law", none)]
def asK (g : Addr → Option Obj) : List Addr := (He.asD g 4 ++ (["done", "broken"] : List Str).flatMap fun f => match g (gAd (He.frT g (He.asD g 4)) f) with
  | some o => He.refsD o
  | none => []) ++ [cStatics]
abbrev AlK : Type := He.AlX × (He.FnW × (He.FnW × CW))
def obsF (g : Addr → Option Obj) (K : PySem.W.Frag) : AlK := ((He.obsT faL fnL [] K, exAll K && He.tabsB g tfL K), (gW K (gAd K "done"), (gW K (gAd K "broken"), gC K (itF K))))
def obsK (g : Addr → Option Obj) : AlK := obsF g (He.frT g (asK g))
def valK (w : World) : AlK := (He.valX fnL [] w, (dDone.val, (dBroken.val, itVal)))
structure SaysK (w : World) (h : Heap) (K : PySem.W.Frag) : Prop where
  x : He.SaysX faL fnL [] tfL exAll w h K
  d : gW K (gAd K "done") = dDone.val
  b : gW K (gAd K "broken") = dBroken.val
  i : gC K (itF K) = itVal
theorem saysK_of {w : World} {h : Heap} {K : PySem.W.Frag} (hK : K.In h) (nK : ∀ {a : Addr} {o : Obj}, h.get? a = some o → He.emptyTab o = true → K.lookup a = none) (e : obsF h.get? K = valK w) : SaysK w h K := by
  have e1 : He.obsT faL fnL [] K = He.valT fnL [] w := congrArg (fun z : AlK => z.1.1) e
  have e2 : (exAll K && He.tabsB h.get? tfL K) = true := congrArg (fun z : AlK => z.1.2) e
  obtain ⟨h1, h2⟩ := He.ba e2
  have key : ∀ p ∈ tfL, PySem.W.codeHdIn K (He.cT K p).1 (He.cT K p).2 = true ∧ ∃ o, h.get? (He.cT K p).2 = some o ∧ He.emptyTab o = true := fun p hp => by
    obtain ⟨h3, h4⟩ := He.ba (List.all_eq_true.mp h2 p hp)
    refine ⟨h3, ?_⟩
    cases q : h.get? (He.cT K p).2 with
    | none =>
      rw [q] at h4
      cases h4
    | some o =>
      rw [q] at h4
      exact ⟨o, rfl, h4⟩
  refine ⟨⟨e1, h1, fun p hp => (key p hp).1, fun p hp => ?_, fun p hp => ?_⟩, congrArg (fun z : AlK => z.2.1) e, congrArg (fun z : AlK => z.2.2.1) e, congrArg (fun z : AlK => z.2.2.2) e⟩
  · obtain ⟨_, o, q, z⟩ := key p hp
    exact nK q z
  · obtain ⟨_, o, q, z⟩ := key p hp
    rw [q, He.emptyTab_eq z]
def hookK : PySem.W.Hook where
  α := AlK
  obs := fun s => obsK s.heap.get?
  val := fun w => valK w
  says := fun w h => ∃ K : PySem.W.Frag, K.In h ∧ SaysK w h K
  of := fun _ _ e => ⟨_, He.frT_in, saysK_of He.frT_in (fun h t => He.frT_none h t) e⟩
  keeps := fun _ _ _ ⟨K, hK, c⟩ k => ⟨K, PySem.W.Frag.In.keeps hK k, ⟨⟨c.x.t, c.x.more, c.x.hd, c.x.out, fun p hp => k _ _ (c.x.empty p hp)⟩, c.d, c.b, c.i⟩⟩
abbrev RR : PySem.W.OpenRow := PySem.W.OpenLaw.row PySem.Challenge.rw_cacheheld_k10_whole_desks
def obH (s : PySem.W.SharedT) : AlK := obsK (HandSHeadRun.getT s)
theorem obH_eq (s : PySem.W.SharedT) : obH s = hookK.obs s.abs := by
  have e : HandSHeadRun.getT s = s.abs.heap.get? := funext (HandSHeadRun.getT_eq s)
  unfold obH
  rw [e]
  rfl
end K10
end
section
set_option Elab.async false
set_option linter.all false
set_option maxRecDepth 100000
set_option maxHeartbeats 0
namespace K10
open PySem PySem.Spec PyProof.Rows L2
theorem runH (w : World) : HandSHeadRun.RunEq RR (PySem.W.view RR.prog [78]) hookK obH 20000 globL w := by
  intro os
  kernel_rfl
end K10
end
section
set_option linter.all false
namespace K10
inductive Wd where
  | drop | fetch | fill | look | set | stop | store | take | waits | ended | stopped
  deriving DecidableEq, Inhabited
inductive Gd where
  | always | empty | mark | never | newer | token
  deriving DecidableEq, Inhabited
inductive Pt where
  | ds | dsd | s | sd | ss
  deriving DecidableEq, Inhabited
def Pt.steps : Pt → List Wd
  | .ds => [.drop, .store]
  | .dsd => [.drop, .store, .drop]
  | .s => [.store]
  | .sd => [.store, .drop]
  | .ss => [.store, .set]
inductive Evt where
  | evict | copy | op (w : Wd) (n : Nat)
  deriving DecidableEq, Inhabited
structure Cfg where
  path : Pt
  guard : Gd
  shared : Bool
  repl : Bool
  evic : Bool
  stops : Bool
  deriving DecidableEq, Inhabited
structure Op where
  wr : Bool
  stage : Wd
  ver : Option Int
  begun : Int
  ended : Option Int
  over : Option Int
  step : Nat
  token : Bool
  clean : Bool
  leader : Option Nat
  fin : Int
  ret : Int
  quiet : Bool
  deriving DecidableEq, Inhabited
structure S where
  cfg : Cfg
  db : Int
  rep : Int
  cache : Option Int
  mark : Int
  fl : Option Nat
  ops : List Op
  past : List Evt
  fin : Int
  ret : Int
  last : Option Nat
  deriving Inhabited
def S.init (c : Cfg) : S := ⟨c, 0, 0, none, 0, none, [], [], 0, 0, none⟩
def mx (i j : Int) : Int := if j > i then j else i
def mn (i j : Int) : Int := if j < i then j else i
def Op.going (o : Op) : Bool := !(decide (o.stage = .ended) || decide (o.stage = .stopped))
def S.steps (s : S) : List Wd := s.cfg.path.steps
def S.first (s : S) : Wd := s.steps.getD 0 .store
def S.now (s : S) : Int := (s.past.length : Int)
def S.at (s : S) (i : Nat) : Op := s.ops.getD i default
def S.ldr (s : S) (o : Op) : Op := s.at (o.leader.getD 0)
def S.nextW (s : S) (o : Op) : Option Wd :=
  if o.stage = .waits then (if (s.ldr o).stage = .ended then some .take else none) else some o.stage
def S.setOp (s : S) (i : Nat) (o : Op) : S := { s with ops := s.ops.set i o }
def S.writing (s : S) : Bool := s.ops.any fun o => o.going && o.wr
def Op.hush (o : Op) : Op := if o.going then { o with quiet := false } else o
def S.newOp (s : S) (wr : Bool) : Op :=
  ⟨wr, if wr then s.first else .look, none, s.now, none, none, 0, true, true, none, s.fin, s.ret, !s.writing⟩
def S.begin (s : S) (wr : Bool) : S :=
  { s with ops := (if wr then s.ops.map Op.hush else s.ops) ++ [s.newOp wr] }
def S.endOp (s : S) (i : Nat) (o : Op) : S :=
  { s with
    ops := s.ops.set i { o with stage := .ended, ended := some s.now, over := some s.now }
    fin := if o.wr then mx s.fin (o.ver.getD 0) else s.fin
    ret := if o.wr then s.ret else mx s.ret (o.ver.getD 0)
    last := if o.wr then s.last else some i
    fl := if s.fl = some i then none else s.fl }
def Op.spoil (o : Op) : Op := { o with clean := false, token := if o.going then false else o.token }
def S.spoil (s : S) : S := { s with ops := s.ops.map Op.spoil }
def S.isNewer (s : S) (v : Int) : Bool :=
  if s.cfg.guard = .mark then decide (s.mark ≤ v) else match s.cache with
    | none => true
    | some c => decide (c < v)
def S.put (s : S) (v : Int) : S := { s with cache := some v, mark := if s.cfg.guard = .mark then mx s.mark v else s.mark }
def S.wrote (s : S) (i : Nat) (w : Wd) (o : Op) : S :=
  if w = .store then { s with db := s.db + 1, ops := s.ops.set i { o with ver := some (s.db + 1) } }
  else if w = .drop then
    let t : S := { s with cache := none }.spoil
    match decide (s.cfg.guard = .mark), o.ver with
    | true, some v => { t with mark := mx s.mark v }
    | _, _ => t
  else
    let t := s.spoil
    if (!(decide (s.cfg.guard = .mark) || decide (s.cfg.guard = .newer)) || t.isNewer (o.ver.getD 0)) = true then t.put (o.ver.getD 0) else t
def S.advance (s : S) (i : Nat) (o : Op) : S :=
  if o.step + 1 = s.steps.length then s.endOp i { o with step := o.step + 1 }
  else s.setOp i { o with step := o.step + 1, stage := s.steps.getD (o.step + 1) .store }
def S.doWrite (s : S) (i : Nat) (w : Wd) (o : Op) : S := (s.wrote i w o).advance i ((s.wrote i w o).at i)
def S.doLook (s : S) (i : Nat) (o : Op) : S :=
  match s.cache with
  | some v => s.endOp i { o with ver := some v }
  | none =>
    if s.cfg.shared = true ∧ s.fl ≠ none then s.setOp i { o with stage := .waits, leader := s.fl }
    else { s with ops := s.ops.set i { o with stage := .fetch }, fl := if s.cfg.shared then some i else none }
def S.source (s : S) : Int := if s.cfg.repl then s.rep else s.db
def S.doFetch (s : S) (i : Nat) (o : Op) : S :=
  let o1 : Op := { o with ver := some s.source, stage := .fill }
  if s.cfg.guard = .never then (s.setOp i o1).endOp i o1 else s.setOp i o1
def S.lets (s : S) (o : Op) (tk : Bool) : Bool :=
  if s.cfg.guard = .empty then decide (s.cache = none)
  else if s.cfg.guard = .token then tk
  else decide (s.cfg.guard = .always) || s.isNewer (o.ver.getD 0)
def S.doFill (s : S) (i : Nat) (o : Op) : S :=
  (if s.lets o o.token = true then s.put (o.ver.getD 0) else s).endOp i o
def S.doTake (s : S) (i : Nat) (o : Op) : S :=
  let o1 : Op := { o with ver := (s.ldr o).ver }
  (s.setOp i o1).endOp i o1
def S.doRead (s : S) (i : Nat) (w : Wd) (o : Op) : S :=
  if w = .look then s.doLook i o else if w = .fetch then s.doFetch i o else if w = .fill then s.doFill i o else s.doTake i o
def S.stopOp (s : S) (i : Nat) (o : Op) : S := s.setOp i { o with stage := .stopped, over := some s.now }
def S.begun (s : S) (w : Wd) (n : Nat) : S := if n = s.ops.length then s.begin (decide (w ≠ .look)) else s
def S.doStep (s : S) (w : Wd) (n : Nat) : S :=
  let t := s.begun w n
  let o := t.at n
  if w = .stop then t.stopOp n o else if o.wr then t.doWrite n w o else t.doRead n w o
def S.doCore (s : S) (e : Evt) : S :=
  let t : S := { s with last := none }
  match e with
  | .evict => { t with cache := none, mark := 0 }
  | .copy => { t with rep := t.rep + 1 }
  | .op w n => t.doStep w n
def S.addPast (s : S) (e : Evt) : S := { s with past := s.past ++ [e] }
def S.doEv (s : S) (e : Evt) : S := (s.doCore e).addPast e
def S.run (s : S) (es : List Evt) : S := es.foldl S.doEv s
def S.opEvs (s : S) : Nat → List Op → List Evt
  | _, [] => []
  | i, o :: r => (if o.going then (match s.nextW o with
      | some w => [Evt.op w i]
      | none => []) ++ (if s.cfg.stops then [Evt.op .stop i] else []) else []) ++ s.opEvs (i + 1) r
def S.canEvict (s : S) : Bool := s.cfg.evic && (decide (s.cache ≠ none) || decide (0 < s.mark))
def S.canCopy (s : S) : Bool := s.cfg.repl && decide (s.rep < s.db)
def S.evList (s : S) : List Evt :=
  ([Evt.op .look s.ops.length, Evt.op s.first s.ops.length] ++ s.opEvs 0 s.ops) ++ ((if s.canEvict then [Evt.evict] else []) ++ (if s.canCopy then [Evt.copy] else []))
end K10
end
section
set_option linter.all false
namespace K10
theorem endOp_past (v : S) (i : Nat) (q : Op) : (v.endOp i q).past = v.past := rfl
theorem endOp_cfg (v : S) (i : Nat) (q : Op) : (v.endOp i q).cfg = v.cfg := rfl
theorem wrote_past (v : S) (i : Nat) (w : Wd) (q : Op) : (v.wrote i w q).past = v.past := by
  unfold S.wrote
  split
  · rfl
  · split
    · show (match decide (v.cfg.guard = Gd.mark), q.ver with
        | true, some x => ({ ({ v with cache := none }.spoil : S) with mark := mx v.mark x } : S)
        | _, _ => ({ v with cache := none }.spoil : S)).past = _
      split <;> rfl
    · show (if _ then _ else _ : S).past = _
      split <;> rfl
theorem wrote_cfg (v : S) (i : Nat) (w : Wd) (q : Op) : (v.wrote i w q).cfg = v.cfg := by
  unfold S.wrote
  split
  · rfl
  · split
    · show (match decide (v.cfg.guard = Gd.mark), q.ver with
        | true, some x => ({ ({ v with cache := none }.spoil : S) with mark := mx v.mark x } : S)
        | _, _ => ({ v with cache := none }.spoil : S)).cfg = _
      split <;> rfl
    · show (if _ then _ else _ : S).cfg = _
      split <;> rfl
theorem advance_past (v : S) (i : Nat) (q : Op) : (v.advance i q).past = v.past := by
  unfold S.advance
  split <;> rfl
theorem advance_cfg (v : S) (i : Nat) (q : Op) : (v.advance i q).cfg = v.cfg := by
  unfold S.advance
  split <;> rfl
theorem doRead_past (v : S) (i : Nat) (w : Wd) (q : Op) : (v.doRead i w q).past = v.past := by
  unfold S.doRead S.doLook S.doFetch S.doFill S.doTake
  split
  · split
    · rfl
    · split <;> rfl
  · split
    · simp only
      split <;> rfl
    · split
      · rw [endOp_past]
        split <;> rfl
      · rfl
theorem doRead_cfg (v : S) (i : Nat) (w : Wd) (q : Op) : (v.doRead i w q).cfg = v.cfg := by
  unfold S.doRead S.doLook S.doFetch S.doFill S.doTake
  split
  · split
    · rfl
    · split <;> rfl
  · split
    · simp only
      split <;> rfl
    · split
      · rw [endOp_cfg]
        split <;> rfl
      · rfl
theorem begun_past (s : S) (w : Wd) (n : Nat) : (s.begun w n).past = s.past := by
  unfold S.begun
  split <;> rfl
theorem begun_cfg (s : S) (w : Wd) (n : Nat) : (s.begun w n).cfg = s.cfg := by
  unfold S.begun
  split <;> rfl
theorem doStep_past (s : S) (w : Wd) (n : Nat) : (s.doStep w n).past = s.past := by
  unfold S.doStep
  simp only
  split
  · exact begun_past s w n
  · split
    · unfold S.doWrite
      rw [advance_past, wrote_past]
      exact begun_past s w n
    · rw [doRead_past]
      exact begun_past s w n
theorem doStep_cfg (s : S) (w : Wd) (n : Nat) : (s.doStep w n).cfg = s.cfg := by
  unfold S.doStep
  simp only
  split
  · exact begun_cfg s w n
  · split
    · unfold S.doWrite
      rw [advance_cfg, wrote_cfg]
      exact begun_cfg s w n
    · rw [doRead_cfg]
      exact begun_cfg s w n
theorem doEv_past (s : S) (e : Evt) : (s.doEv e).past = s.past ++ [e] := by
  have h : (s.doCore e).past = s.past := by
    cases e with
    | evict => rfl
    | copy => rfl
    | op w n => exact doStep_past _ w n
  show (s.doCore e).past ++ [e] = _
  rw [h]
theorem doEv_cfg (s : S) (e : Evt) : (s.doEv e).cfg = s.cfg := by
  cases e with
  | evict => rfl
  | copy => rfl
  | op w n => exact doStep_cfg _ w n
theorem run_past (s : S) (es : List Evt) : (s.run es).past = s.past ++ es := by
  induction es generalizing s with
  | nil => simp [S.run]
  | cons e r ih =>
    show ((s.doEv e).run r).past = _
    rw [ih, doEv_past]
    simp
theorem run_cfg (s : S) (es : List Evt) : (s.run es).cfg = s.cfg := by
  induction es generalizing s with
  | nil => rfl
  | cons e r ih =>
    show ((s.doEv e).run r).cfg = _
    rw [ih, doEv_cfg]
theorem run_snoc (s : S) (es : List Evt) (e : Evt) : s.run (es ++ [e]) = (s.run es).doEv e := by
  unfold S.run
  rw [List.foldl_append]
  rfl
theorem run_append (s : S) (es fs : List Evt) : s.run (es ++ fs) = (s.run es).run fs := by
  unfold S.run
  rw [List.foldl_append]
end K10
end
section
set_option linter.all false
namespace K10
def Wd.rank : Wd → Nat
  | .drop => 1 | .fetch => 3 | .fill => 4 | .look => 5 | .set => 6 | .stop => 7 | .store => 9 | .take => 10 | .ended => 2 | .stopped => 8 | .waits => 11
def Evt.rank : Evt → Nat
  | .copy => 0
  | .evict => 20
  | .op w _ => 30 + w.rank
def Evt.key : Evt → Nat
  | .copy => 0
  | .op .drop _ => 1
  | .op .ended _ => 2
  | .evict => 3
  | .op .fetch _ => 4
  | .op .fill _ => 5
  | .op .look _ => 6
  | .op .set _ => 7
  | .op .stop _ => 8
  | .op .stopped _ => 9
  | .op .store _ => 10
  | .op .take _ => 11
  | .op .waits _ => 12
def Evt.num : Evt → Nat
  | .op _ n => n
  | _ => 0
def evLe (a b : Evt) : Bool := decide (a.key < b.key) || (decide (a.key = b.key) && decide (a.num ≤ b.num))
theorem key_num_inj {a b : Evt} (h : a.key = b.key) (h2 : a.num = b.num) : a = b := by
  cases a with
  | evict =>
    cases b with
    | evict => rfl
    | copy => simp [Evt.key] at h
    | op w n => cases w <;> simp [Evt.key] at h
  | copy =>
    cases b with
    | evict => simp [Evt.key] at h
    | copy => rfl
    | op w n => cases w <;> simp [Evt.key] at h
  | op v m =>
    cases b with
    | evict => cases v <;> simp [Evt.key] at h
    | copy => cases v <;> simp [Evt.key] at h
    | op w n =>
      have e : m = n := h2
      subst e
      cases v <;> cases w <;> first | rfl | (simp [Evt.key] at h)
theorem evLe_iff {a b : Evt} : evLe a b = true ↔ a.key < b.key ∨ (a.key = b.key ∧ a.num ≤ b.num) := by
  unfold evLe
  rw [Bool.or_eq_true, Bool.and_eq_true, decide_eq_true_eq, decide_eq_true_eq, decide_eq_true_eq]
theorem evLe_total (a b : Evt) : (evLe a b || evLe b a) = true := by
  rw [Bool.or_eq_true, evLe_iff, evLe_iff]
  omega
theorem evLe_trans (a b c : Evt) (h1 : evLe a b = true) (h2 : evLe b c = true) : evLe a c = true := by
  rw [evLe_iff] at *
  omega
theorem evLe_anti {a b : Evt} (h1 : evLe a b = true) (h2 : evLe b a = true) : a = b := by
  rw [evLe_iff] at *
  exact key_num_inj (by omega) (by omega)
def S.evs (s : S) : List Evt := s.evList.mergeSort evLe
theorem sorted_one : ∀ {l m : List Evt}, l.Perm m → l.Pairwise (fun a b => evLe a b = true) → m.Pairwise (fun a b => evLe a b = true) → l = m := by
  intro l
  induction l with
  | nil =>
    intro m p _ _
    exact (List.perm_nil.mp p.symm).symm
  | cons x l ih =>
    intro m p hl hm
    cases m with
    | nil => exact absurd p.symm (by simp)
    | cons y m =>
      have hx : x ∈ y :: m := p.subset (List.mem_cons_self ..)
      have hy : y ∈ x :: l := p.symm.subset (List.mem_cons_self ..)
      have exy : x = y := by
        rcases List.mem_cons.mp hx with e | e
        · exact e
        rcases List.mem_cons.mp hy with e2 | e2
        · exact e2.symm
        exact evLe_anti ((List.pairwise_cons.mp hl).1 y e2) ((List.pairwise_cons.mp hm).1 x e)
      subst exy
      rw [ih (List.Perm.cons_inv p) (List.pairwise_cons.mp hl).2 (List.pairwise_cons.mp hm).2]
theorem mergeSort_perm_eq {l m : List Evt} (p : l.Perm m) : l.mergeSort evLe = m.mergeSort evLe :=
  sorted_one (((List.mergeSort_perm l evLe).trans p).trans (List.mergeSort_perm m evLe).symm) (List.pairwise_mergeSort evLe_trans evLe_total l) (List.pairwise_mergeSort evLe_trans evLe_total m)
theorem mem_evs {s : S} {e : Evt} : e ∈ s.evs ↔ e ∈ s.evList := (List.mergeSort_perm s.evList evLe).mem_iff
end K10
end
section
set_option linter.all false
namespace K10
abbrev Zn := List (Int × (Int × Int))
def zGet (z : Zn) (k : Int) : Option (Int × Int) := (z.find? fun p => decide (p.1 = k)).map (·.2)
def zPut (z : Zn) (k : Int) (v : Int × Int) : Zn :=
  if (z.any fun p => decide (p.1 = k)) = true then z.map (fun p => if p.1 = k then (p.1, v) else p) else z ++ [(k, v)]
def Op.zoned (o : Op) : Bool := (o.wr && decide (o.ver ≠ none)) || (!o.wr && decide (o.stage = .ended))
def zNew (far : Int) (z : Zn) (o : Op) : Int × Int :=
  (mn ((zGet z (o.ver.getD 0)).getD (far, -1)).1 (o.ended.getD far), mx ((zGet z (o.ver.getD 0)).getD (far, -1)).2 o.begun)
def zStep (far : Int) (z : Zn) (o : Op) : Zn := if o.zoned then zPut z (o.ver.getD 0) (zNew far z o) else z
def S.zn (s : S) : Zn := s.ops.foldl (zStep s.now) [(0, (-1, -1))]
def zOk (a b : Int × Int) : Bool := !(decide (a.1 < b.2) && decide (b.1 < a.2))
def S.isLin (s : S) : Bool := decide ((s.zn.map (·.2)).Pairwise fun a b => zOk a b = true)
theorem zPut_keys (z : Zn) (k : Int) (v : Int × Int) : (zPut z k v).map (·.1) = if k ∈ z.map (·.1) then z.map (·.1) else z.map (·.1) ++ [k] := by
  unfold zPut
  have e : ((z.any fun p => decide (p.1 = k)) = true) ↔ k ∈ z.map (·.1) := by
    rw [List.any_eq_true, List.mem_map]
    constructor
    · rintro ⟨p, hp, h⟩
      exact ⟨p, hp, of_decide_eq_true h⟩
    · rintro ⟨p, hp, h⟩
      exact ⟨p, hp, decide_eq_true h⟩
  by_cases h : k ∈ z.map (·.1)
  · rw [if_pos (e.mpr h), if_pos h, List.map_map]
    apply List.map_congr_left
    intro p _
    show (if p.1 = k then (p.1, v) else p).1 = p.1
    split <;> rfl
  · rw [if_neg fun q => h (e.mp q), if_neg h, List.map_append]
    rfl
theorem zPut_nodup {z : Zn} {k : Int} {v : Int × Int} (h : (z.map (·.1)).Nodup) : ((zPut z k v).map (·.1)).Nodup := by
  rw [zPut_keys]
  split
  · exact h
  · rename_i hk
    rw [List.nodup_append]
    refine ⟨h, by simp, fun a ha b hb => ?_⟩
    simp at hb
    subst hb
    exact fun e => hk (e ▸ ha)
theorem zStep_nodup {far : Int} {z : Zn} {o : Op} (h : (z.map (·.1)).Nodup) : ((zStep far z o).map (·.1)).Nodup := by
  unfold zStep
  split
  · exact zPut_nodup h
  · exact h
theorem zFold_nodup {far : Int} : ∀ (l : List Op) (z : Zn), (z.map (·.1)).Nodup → ((l.foldl (zStep far) z).map (·.1)).Nodup
  | [], z, h => h
  | o :: l, z, h => zFold_nodup l (zStep far z o) (zStep_nodup h)
theorem zPut_len (z : Zn) (k : Int) (v : Int × Int) : (zPut z k v).length ≤ z.length + 1 := by
  have h := congrArg List.length (zPut_keys z k v)
  rw [List.length_map] at h
  rw [h]
  split
  · rw [List.length_map]
    omega
  · rw [List.length_append, List.length_map]
    exact Nat.le_refl _
theorem zStep_len (far : Int) (z : Zn) (o : Op) : (zStep far z o).length ≤ z.length + 1 := by
  unfold zStep
  split
  · exact zPut_len ..
  · omega
theorem zFold_len {far : Int} : ∀ (l : List Op) (z : Zn), (l.foldl (zStep far) z).length ≤ z.length + l.length
  | [], z => Nat.le_refl _
  | o :: l, z => by
    have h1 := zFold_len (far := far) l (zStep far z o)
    have h2 := zStep_len far z o
    show (l.foldl (zStep far) (zStep far z o)).length ≤ _
    rw [List.length_cons]
    omega
theorem zOk_symm {a b : Int × Int} (h : zOk a b = true) : zOk b a = true := by
  unfold zOk at *
  rw [Bool.and_comm]
  exact h
theorem pairwise_perm {l m : List (Int × Int)} (p : l.Perm m) : (l.Pairwise fun a b => zOk a b = true) ↔ (m.Pairwise fun a b => zOk a b = true) :=
  p.pairwise_iff fun h => zOk_symm h
end K10
end
section
set_option linter.all false
namespace K10
inductive Pr where
  | ending | filled | forward | fresh | linear | mended | moving | quiet | rest | single
  deriving DecidableEq, Inhabited
def Pr.all : List Pr := [.ending, .filled, .forward, .fresh, .linear, .mended, .moving, .quiet, .rest, .single]
def Op.inFetch (o : Op) : Bool := decide (o.stage = .fetch) || decide (o.stage = .fill)
def S.isEnding (s : S) (o : Op) : Bool := decide (o.stage = .waits) && decide ((s.ldr o).stage = .stopped)
def S.lastOp (s : S) : Option Op := s.last.map s.at
theorem map_getD {α : Type} (l : List α) (d : α) : (List.range l.length).map (fun j => l.getD j d) = l := by
  apply List.ext_getElem?
  intro i
  rw [List.getElem?_map]
  by_cases h : i < l.length
  · rw [List.getElem?_range h, List.getElem?_eq_getElem h]
    simp [List.getD_eq_getElem?_getD, List.getElem?_eq_getElem h]
  · rw [List.getElem?_eq_none (by rw [List.length_range]; omega), List.getElem?_eq_none (by omega)]
    rfl
theorem filter_getD {α : Type} (l : List α) (d : α) (q : α → Bool) : ((List.range l.length).filter fun j => q (l.getD j d)).length = (l.filter q).length := by
  have h : l.filter q = ((List.range l.length).map (fun j => l.getD j d)).filter q := by rw [map_getD]
  rw [h, List.filter_map, List.length_map]
  rfl
end K10
end
section
set_option linter.all false
namespace K10
theorem ops_at {s : S} {i : Nat} (h : i < s.ops.length) : s.ops[i]? = some (s.at i) := by
  unfold S.at
  rw [List.getD_eq_getElem?_getD, List.getElem?_eq_getElem h] <;> rfl
def gos (s : S) : List Nat := (List.range s.ops.length).filter fun i => (s.at i).going
def S.wroteOp (s : S) (w : Wd) (o : Op) : Op := if w = .store then { o with ver := some (s.db + 1) } else o.spoil
theorem wrote_at {s : S} {i : Nat} {w : Wd} {o : Op} (ho : s.ops[i]? = some o) : (s.wrote i w o).ops[i]? = some (s.wroteOp w o) := by
  have hs : (s.ops.map Op.spoil)[i]? = some o.spoil := by rw [List.getElem?_map, ho] <;> rfl
  unfold S.wrote S.wroteOp
  by_cases h1 : w = .store
  · rw [if_pos h1, if_pos h1]
    exact List.getElem?_set_self (List.getElem?_eq_some_iff.mp ho).1
  · rw [if_neg h1, if_neg h1]
    by_cases h2 : w = .drop
    · rw [if_pos h2]
      show (match decide (s.cfg.guard = Gd.mark), o.ver with
        | true, some v => ({ ({ s with cache := none }.spoil : S) with mark := mx s.mark v } : S)
        | _, _ => ({ s with cache := none }.spoil : S)).ops[i]? = _
      split <;> exact hs
    · rw [if_neg h2]
      show (if _ then _ else _ : S).ops[i]? = _
      split <;> exact hs
theorem spoil_step (o : Op) : o.spoil.step = o.step := rfl
theorem wroteOp_step {s : S} {w : Wd} {o : Op} : (s.wroteOp w o).step = o.step := by
  unfold S.wroteOp
  split <;> rfl
def readOk (s : S) (w : Wd) (o : Op) : Prop := (w = .fill → ∃ v, o.ver = some v) ∧ (w ≠ .look → w ≠ .fetch → w ≠ .fill → ∃ j q v, o.leader = some j ∧ s.ops[j]? = some q ∧ q.ver = some v)
def writeOk (t : S) (w : Wd) (o : Op) : Prop := (w ≠ .store → w ≠ .drop → ∃ v, o.ver = some v) ∧ o.step < t.steps.length ∧ (o.step + 1 = t.steps.length → ∃ v, (t.wroteOp w o).ver = some v)
def stepOk (s : S) (w : Wd) (n : Nat) : Prop := n < (s.begun w n).ops.length ∧ (w ≠ .stop → (((s.begun w n).at n).wr = true → writeOk (s.begun w n) w ((s.begun w n).at n)) ∧ (((s.begun w n).at n).wr = false → readOk (s.begun w n) w ((s.begun w n).at n)))
theorem begun_len (s : S) (w : Wd) (n : Nat) : (s.begun w n).ops.length ≤ s.ops.length + 1 := by
  unfold S.begun S.begin
  split
  · show ((if _ then _ else _) ++ [_]).length ≤ _
    rw [List.length_append]
    split
    · rw [List.length_map]
      exact Nat.le_refl _
    · exact Nat.le_refl _
  · omega
def evOk (s : S) : Evt → Prop
  | .op w n => stepOk { s with last := none } w n
  | _ => True
def runOk (s : S) : List Evt → Prop
  | [] => True
  | e :: r => evOk s e ∧ runOk (s.doEv e) r
def S.behind (s : S) : Bool := match s.cache with
  | none => false
  | some c => decide (c < s.db)
theorem begin_ops (s : S) (b : Bool) : (s.begin b).ops.length = s.ops.length + 1 := by
  unfold S.begin
  show ((if _ then _ else _) ++ [_]).length = _
  rw [List.length_append]
  split
  · rw [List.length_map] <;> rfl
  · rfl
theorem endOp_ops (s : S) (i : Nat) (o : Op) : (s.endOp i o).ops.length = s.ops.length := by
  show (s.ops.set _ _).length = _
  rw [List.length_set]
theorem setOp_ops (s : S) (i : Nat) (o : Op) : (s.setOp i o).ops.length = s.ops.length := by
  show (s.ops.set _ _).length = _
  rw [List.length_set]
theorem spoil_ops (s : S) : s.spoil.ops.length = s.ops.length := by
  show (s.ops.map _).length = _
  rw [List.length_map]
theorem wrote_ops (s : S) (i : Nat) (w : Wd) (o : Op) : (s.wrote i w o).ops.length = s.ops.length := by
  unfold S.wrote
  split
  · show (s.ops.set _ _).length = _
    rw [List.length_set]
  · split
    · show (match decide (s.cfg.guard = Gd.mark), o.ver with
        | true, some x => ({ ({ s with cache := none }.spoil : S) with mark := mx s.mark x } : S)
        | _, _ => ({ s with cache := none }.spoil : S)).ops.length = _
      split <;> exact spoil_ops s
    · show (if _ then _ else _ : S).ops.length = _
      split <;> exact spoil_ops s
theorem advance_ops (s : S) (i : Nat) (o : Op) : (s.advance i o).ops.length = s.ops.length := by
  unfold S.advance
  split
  · exact endOp_ops ..
  · exact setOp_ops ..
theorem doRead_ops (s : S) (i : Nat) (w : Wd) (o : Op) : (s.doRead i w o).ops.length = s.ops.length := by
  unfold S.doRead S.doLook S.doFetch S.doFill S.doTake
  split
  · split
    · exact endOp_ops ..
    · split
      · exact setOp_ops ..
      · show (s.ops.set _ _).length = _
        rw [List.length_set]
  · split
    · simp only
      split
      · rw [endOp_ops, setOp_ops]
      · exact setOp_ops ..
    · split
      · rw [endOp_ops]
        split <;> rfl
      · rw [endOp_ops, setOp_ops]
theorem doStep_ops (s : S) (w : Wd) (n : Nat) : (s.doStep w n).ops.length = (s.begun w n).ops.length := by
  unfold S.doStep
  simp only
  split
  · exact setOp_ops ..
  · split
    · unfold S.doWrite
      rw [advance_ops, wrote_ops]
    · exact doRead_ops ..
theorem doEv_ops (s : S) (e : Evt) : (s.doEv e).ops.length ≤ s.ops.length + 1 := by
  cases e with
  | evict => exact Nat.le_succ _
  | copy => exact Nat.le_succ _
  | op w n =>
    show (S.doStep { s with last := none } w n).ops.length ≤ _
    rw [doStep_ops]
    exact begun_len { s with last := none } w n
theorem run_ops (s : S) (es : List Evt) : (s.run es).ops.length ≤ s.ops.length + es.length := by
  induction es generalizing s with
  | nil => exact Nat.le_refl _
  | cons e r ih =>
    have h1 := ih (s.doEv e)
    have h2 := doEv_ops s e
    show ((s.doEv e).run r).ops.length ≤ _
    rw [List.length_cons]
    omega
def S.aloneW (s : S) : S := s.run (s.steps.map fun w => Evt.op w s.ops.length)
def S.goOn : Nat → S → Nat → Option S
  | 0, s, _ => some s
  | k + 1, s, n => if (s.at n).going then (match s.nextW (s.at n) with
      | none => none
      | some w => S.goOn k (s.doEv (.op w n)) n) else some s
def S.aloneR (s : S) : Option S := S.goOn 4 (s.doEv (.op .look s.ops.length)) s.ops.length
def S.fills (s : S) : Bool := match s.aloneR with
  | none => false
  | some t => decide (t.cache = (t.at s.ops.length).ver)
def goOnOk : Nat → S → Nat → Prop
  | 0, s, n => (s.at n).going = false
  | k + 1, s, n => ((s.at n).stage = .waits → ∃ j q, (s.at n).leader = some j ∧ s.ops[j]? = some q) ∧ ((s.at n).going = true → ∀ w, s.nextW (s.at n) = some w → evOk s (.op w n) ∧ goOnOk k (s.doEv (.op w n)) n)
structure AgainOk (s : S) : Prop where
  c : (S.init s.cfg).run s.past = s
  ok : runOk (S.init s.cfg) s.past
  len : s.past.length ≤ 60
  ops : s.ops.length ≤ 60
theorem go_ops (s : S) (e : Evt) : s.ops.length ≤ (s.doEv e).ops.length := by
  cases e with
  | evict => exact Nat.le_refl _
  | copy => exact Nat.le_refl _
  | op w n =>
    show _ ≤ (S.doStep { s with last := none } w n).ops.length
    rw [doStep_ops]
    unfold S.begun
    split
    · rw [begin_ops]
      exact Nat.le_succ _
    · exact Nat.le_refl _
def S.evsOf (s : S) (o : Op) (i : Nat) : List Evt := (match s.nextW o with
  | some w => [Evt.op w i]
  | none => []) ++ (if s.cfg.stops then [Evt.op .stop i] else [])
theorem opEvs_flat (s : S) (l : List Op) (k : Nat) : s.opEvs k l = ((List.range l.length).filter fun i => (l.getD i default).going).flatMap fun i => s.evsOf (l.getD i default) (k + i) := by
  induction l generalizing k with
  | nil => rfl
  | cons o r ih =>
    have e1 : (o :: r).length = r.length + 1 := rfl
    rw [e1, List.range_succ_eq_map, List.filter_cons]
    show (if o.going then s.evsOf o k else []) ++ s.opEvs (k + 1) r = _
    have e2 : ((List.map Nat.succ (List.range r.length)).filter fun i => ((o :: r).getD i default).going) = ((List.range r.length).filter fun i => (r.getD i default).going).map Nat.succ := by
      rw [List.filter_map]
      rfl
    rw [e2, ih]
    have e3 : ∀ l : List Nat, (l.map Nat.succ).flatMap (fun i => s.evsOf ((o :: r).getD i default) (k + i)) = l.flatMap fun i => s.evsOf (r.getD i default) (k + 1 + i) := by
      intro l
      rw [List.flatMap_map]
      congr 1
      funext i
      show s.evsOf (r.getD i default) (k + (i + 1)) = _
      rw [show k + (i + 1) = k + 1 + i by omega]
    have e4 : ((o :: r).getD 0 default).going = o.going := rfl
    rw [e4]
    by_cases hg : o.going = true
    · rw [if_pos hg, if_pos hg, List.flatMap_cons, e3]
      rfl
    · rw [if_neg hg, if_neg hg, e3]
      rfl
theorem opEvs_gos (s : S) : s.opEvs 0 s.ops = (gos s).flatMap fun i => s.evsOf (s.at i) i := by
  rw [opEvs_flat]
  unfold gos S.at
  congr 1
  funext i
  rw [Nat.zero_add]
def waitOk (s : S) : Prop := ∀ (i : Nat) (o : Op), s.ops[i]? = some o → o.stage = .waits → ∃ j q, o.leader = some j ∧ s.ops[j]? = some q
def zonedOk (s : S) : Prop := ∀ (i : Nat) (o : Op), s.ops[i]? = some o → o.zoned = true → ∃ v, o.ver = some v
def S.broken (s : S) : Pr → Bool
  | .linear => !s.isLin
  | .forward => match s.lastOp with | none => false | some o => decide (o.ver.getD 0 < o.ret)
  | .fresh => match s.lastOp with | none => false | some o => decide (o.ver.getD 0 < o.fin)
  | .quiet => match s.lastOp with | none => false | some o => o.quiet && decide (o.ver.getD 0 < s.db)
  | .moving => s.ops.any fun o => o.going && decide (s.nextW o = none)
  | .ending => s.ops.any fun o => o.going && s.isEnding o
  | .single => decide (1 < (s.ops.filter fun o => o.going && o.inFetch).length)
  | .rest => (gos s).isEmpty && s.behind
  | .mended => (gos s).isEmpty && s.aloneW.behind
  | .filled => (gos s).isEmpty && !s.fills
structure CheckOk (s : S) : Prop where
  zone : zonedOk s
  last : ∀ i, s.last = some i → i < s.ops.length ∧ ∃ v, (s.at i).ver = some v
  wait : waitOk s
  again : AgainOk s
  alone : runOk s (s.steps.map fun w => Evt.op w s.ops.length)
  look : evOk s (.op .look s.ops.length)
  go : goOnOk 4 (s.doEv (.op .look s.ops.length)) s.ops.length
def lwOk (s : S) (w : Wd) (o : Op) : Prop := (w = .store ∨ w = .drop ∨ w = .set) ∧ writeOk s w o
def lrOk (s : S) (w : Wd) (o : Op) : Prop := (w = .look ∨ w = .fetch ∨ w = .fill ∨ w = .take) ∧ readOk s w o ∧ (w = .fill → s.cfg.guard ≠ .never ∧ o.token = o.clean) ∧ (s.cfg.shared = false → s.fl = none)
def lstepOk (s : S) (w : Wd) (n : Nat) : Prop := n < (s.begun w n).ops.length ∧ (n = s.ops.length → w = .look ∨ w = s.first) ∧
  (w = .stop ∨ (((s.begun w n).at n).wr = true → lwOk (s.begun w n) w ((s.begun w n).at n)) ∧ (((s.begun w n).at n).wr = false → lrOk (s.begun w n) w ((s.begun w n).at n)))
def levOk (s : S) : Evt → Prop
  | .op w n => lstepOk { s with last := none } w n
  | _ => True
def lrunOk (s : S) : List Evt → Prop
  | [] => True
  | e :: r => levOk s e ∧ lrunOk (s.doEv e) r
def idxs (s : S) (q : Op → Bool) : List Nat := (List.range s.ops.length).filter fun i => q (s.at i)
theorem idxs_lt {s : S} {q : Op → Bool} : ∀ i ∈ idxs s q, i < s.ops.length := fun i hi => List.mem_range.mp (List.mem_filter.mp hi).1
def lmax (l : List Int) : Int := l.foldl mx 0
def Op.endedOf (wr : Bool) (o : Op) : Bool := decide (o.wr = wr) && decide (o.stage = .ended)
def S.lBefore (s : S) (b : Int) (wr : Bool) : Int := lmax (((idxs s (Op.endedOf wr)).filter fun i => decide ((s.at i).over.getD 0 < b)).map fun i => (s.at i).ver.getD 0)
def S.lQuiet (s : S) (b n : Int) : Bool := ((idxs s fun o => o.wr && decide (o.begun < n)).filter fun i => decide ((s.at i).over = none) || decide (b < (s.at i).over.getD 0)).isEmpty
def endedOk (s : S) : Prop := ∀ (i : Nat) (o : Op), s.ops[i]? = some o → o.stage = .ended → (∃ v, o.ver = some v) ∧ ∃ n, o.over = some n
abbrev Dct := Op × Nat
def Op.late (o : Op) (b : Int) : Bool := decide (o.over ≠ none) && decide (o.over.getD 0 < b)
def ordB : Nat → List Dct → Option Int → Bool
  | 0, _, _ => true
  | n + 1, l, v => l.isEmpty || (List.range l.length).any fun j =>
      ((l.take j ++ l.drop (j + 1)).filter fun q => q.1.late (l.getD j default).1.begun).isEmpty && (((l.getD j default).1.wr || decide ((l.getD j default).1.ver = v)) && ordB n (l.take j ++ l.drop (j + 1)) (l.getD j default).1.ver)
def Op.plain (o : Op) : Op := if decide (o.stage = .ended) = true then o else { o with over := none }
def S.lReads (s : S) : List Nat := idxs s (Op.endedOf false)
def S.lWrites (s : S) : List Nat := (idxs s fun o => o.wr && decide (o.ver ≠ none)).filter fun i => decide ((s.at i).stage = .ended) || decide ((s.at i).ver ∈ s.lReads.map fun i => (s.at i).ver)
def S.lDcts (s : S) : List Dct := s.lReads.map (fun i => (s.at i, i)) ++ s.lWrites.map (fun i => ((s.at i).plain, i))
def S.lOrder (s : S) : Bool := ordB 19 s.lDcts (some 0)
def S.lWord (u : S) (n : Nat) : Option Wd := if (u.at n).going = true then u.nextW (u.at n) else none
def S.lTurn (u : S) (n : Nat) : S := match u.lWord n with
  | none => u
  | some w => u.doEv (.op w n)
def S.lTurns : Nat → S → Nat → S
  | 0, u, _ => u
  | k + 1, u, n => (S.lTurns k u n).lTurn n
def S.lAlone (s : S) (w : Wd) : S := S.lTurns 4 (s.doEv (.op w s.ops.length)) s.ops.length
structure AgainL (s : S) : Prop where
  c : (S.init s.cfg).run s.past = s
  ok : lrunOk (S.init s.cfg) s.past
  len : s.past.length ≤ 60
  ops : s.ops.length ≤ 60
def turnOk (u : S) (n : Nat) : Prop := waitOk u ∧ ∀ w, u.lWord n = some w → levOk u (.op w n)
def aloneOk (s : S) (w : Wd) : Prop := AgainL s ∧ levOk s (.op w s.ops.length) ∧ ∀ k, k < 4 → turnOk (S.lTurns k (s.doEv (.op w s.ops.length)) s.ops.length) s.ops.length
theorem doEv_begins (s : S) (w : Wd) : s.ops.length < (s.doEv (.op w s.ops.length)).ops.length := by
  show _ < (S.doStep { s with last := none } w s.ops.length).ops.length
  rw [doStep_ops]
  unfold S.begun
  rw [if_pos rfl, begin_ops]
  exact Nat.lt_succ_self _
theorem lTurn_ops (u : S) (n : Nat) : u.ops.length ≤ (u.lTurn n).ops.length ∧ (u.lTurn n).ops.length ≤ u.ops.length + 1 ∧ (u.lTurn n).past.length ≤ u.past.length + 1 ∧ (u.lTurn n).cfg = u.cfg := by
  unfold S.lTurn
  cases u.lWord n with
  | none => exact ⟨Nat.le_refl _, Nat.le_succ _, Nat.le_succ _, rfl⟩
  | some w =>
    refine ⟨go_ops u _, doEv_ops u _, ?_, doEv_cfg u _⟩
    show (u.doEv (.op w n)).past.length ≤ _
    rw [doEv_past, List.length_append]
    exact Nat.le_refl _
def S.lRest (s : S) : Pr → Bool
  | .rest => s.behind
  | .mended => (s.lAlone s.first).behind
  | _ => !decide (((s.lAlone .look).at s.ops.length).stage = .ended) || !decide ((s.lAlone .look).cache = ((s.lAlone .look).at s.ops.length).ver)
def S.lLast (s : S) : List Nat := idxs s fun o => decide (o.wr = false) && (decide (o.stage = .ended) && decide (o.over = some (s.now - 1)))
def S.lBroken (s : S) (p : Pr) : Bool :=
  if (decide (p = .rest) || decide (p = .mended) || decide (p = .filled)) = true then (gos s).isEmpty && s.lRest p
  else if p = .linear then !s.lOrder
  else if p = .moving then !((gos s).filter fun i => decide (s.nextW (s.at i) = none)).isEmpty
  else if p = .ending then !((gos s).filter fun i => s.isEnding (s.at i)).isEmpty
  else if p = .single then decide (1 < (((gos s).filter fun i => (s.at i).inFetch).length : Int))
  else match s.lLast with
    | [] => false
    | i :: _ => if p = .quiet then s.lQuiet (s.at i).begun (s.now - 1) && decide ((s.at i).ver.getD 0 < s.db)
      else decide ((s.at i).ver.getD 0 < s.lBefore (s.at i).begun (decide (p = .fresh)))
end K10
end
section
set_option Elab.async false
set_option linter.all false
set_option maxRecDepth 100000
set_option maxHeartbeats 4000000
namespace K10
open PySem PySem.Spec PyProof.Rows L2
structure Txt (h0 : Heap) (K : PySem.W.Frag) (mg : Str → Option Value) : Prop where
  X : K.In h0
  G : h0.Ns mainGlobals mg
  d : He.SaysD faL fnL K
  e : exB K = true
  pd : gW K (gAd K "done") = dDone.val
  pb : gW K (gAd K "broken") = dBroken.val
section
variable {h0 : Heap} {K : PySem.W.Frag} {mg : Str → Option Value} (T : Txt h0 K mg)
include T
theorem Txt.ex (i : Nat) {f : PySem.W.Frag → Bool} (h : exL[i]? = some f) : f K = true := List.all_eq_true.mp T.e f (List.mem_of_getElem? h)
theorem Txt.fact (i : Nat) {f : He.Fa} (h : faL[i]? = some f) : f.ok K = true := T.d.fact i h
theorem fd_of {x q : Str} {ps : Arguments} {b : List Stmt} {sc : Scope} {dvs : List V} {kws : List (Str × V)} {a : Addr} (h : ∃ fd, FunD K x q ps b sc dvs kws a fd) : FunD K x q ps b sc dvs kws a (fdOf K a) := by
  obtain ⟨fd, F⟩ := h
  have e : fdOf K a = fd := by
    obtain ⟨oc, od, dV, kV, doc, pm, an, cdv, ct, osl, e1, lk, _⟩ := F.ex
    unfold fdOf
    rw [lk]
  rw [e]
  exact F
theorem Txt.g_is_list : mg "is_list" = some (.ref (He.ga K "is_list")) := He.glo_ok T.X T.G (T.fact 0 (f := .glo "is_list") rfl)
theorem Txt.g_CacheError : mg "CacheError" = some (.ref (He.ga K "CacheError")) := He.glo_ok T.X T.G (T.fact 1 (f := .glo "CacheError") rfl)
theorem Txt.g_BadDesign : mg "BadDesign" = some (.ref (He.ga K "BadDesign")) := He.glo_ok T.X T.G (T.fact 2 (f := .glo "BadDesign") rfl)
theorem Txt.g_BadWorld : mg "BadWorld" = some (.ref (He.ga K "BadWorld")) := He.glo_ok T.X T.G (T.fact 3 (f := .glo "BadWorld") rfl)
theorem Txt.g_NotNow : mg "NotNow" = some (.ref (He.ga K "NotNow")) := He.glo_ok T.X T.G (T.fact 4 (f := .glo "NotNow") rfl)
theorem Txt.g_NotText : mg "NotText" = some (.ref (He.ga K "NotText")) := He.glo_ok T.X T.G (T.fact 5 (f := .glo "NotText") rfl)
theorem Txt.g_InvalidText : mg "InvalidText" = some (.ref (He.ga K "InvalidText")) := He.glo_ok T.X T.G (T.fact 6 (f := .glo "InvalidText") rfl)
theorem Txt.g_NothingToUndo : mg "NothingToUndo" = some (.ref (He.ga K "NothingToUndo")) := He.glo_ok T.X T.G (T.fact 7 (f := .glo "NothingToUndo") rfl)
theorem Txt.g_PATHS : mg "PATHS" = some (.ref (He.ga K "PATHS")) := He.glo_ok T.X T.G (T.fact 8 (f := .glo "PATHS") rfl)
theorem Txt.g_GUARDS : mg "GUARDS" = some (.ref (He.ga K "GUARDS")) := He.glo_ok T.X T.G (T.fact 9 (f := .glo "GUARDS") rfl)
theorem Txt.g_FLIGHTS : mg "FLIGHTS" = some (.ref (He.ga K "FLIGHTS")) := He.glo_ok T.X T.G (T.fact 10 (f := .glo "FLIGHTS") rfl)
theorem Txt.g_DESIGNS : mg "DESIGNS" = some (.ref (He.ga K "DESIGNS")) := He.glo_ok T.X T.G (T.fact 11 (f := .glo "DESIGNS") rfl)
theorem Txt.g_WORLDS : mg "WORLDS" = some (.ref (He.ga K "WORLDS")) := He.glo_ok T.X T.G (T.fact 12 (f := .glo "WORLDS") rfl)
theorem Txt.g_is_choice : mg "is_choice" = some (.ref (He.ga K "is_choice")) := He.glo_ok T.X T.G (T.fact 13 (f := .glo "is_choice") rfl)
theorem Txt.g_is_design : mg "is_design" = some (.ref (He.ga K "is_design")) := He.glo_ok T.X T.G (T.fact 14 (f := .glo "is_design") rfl)
theorem Txt.g_is_world : mg "is_world" = some (.ref (He.ga K "is_world")) := He.glo_ok T.X T.G (T.fact 15 (f := .glo "is_world") rfl)
theorem Txt.g_need_design : mg "need_design" = some (.ref (He.ga K "need_design")) := He.glo_ok T.X T.G (T.fact 16 (f := .glo "need_design") rfl)
theorem Txt.g_need_world : mg "need_world" = some (.ref (He.ga K "need_world")) := He.glo_ok T.X T.G (T.fact 17 (f := .glo "need_world") rfl)
theorem Txt.g_need_both : mg "need_both" = some (.ref (He.ga K "need_both")) := He.glo_ok T.X T.G (T.fact 18 (f := .glo "need_both") rfl)
theorem Txt.g_steps_of : mg "steps_of" = some (.ref (He.ga K "steps_of")) := He.glo_ok T.X T.G (T.fact 19 (f := .glo "steps_of") rfl)
theorem Txt.g_OVER : mg "OVER" = some (.ref (He.ga K "OVER")) := He.glo_ok T.X T.G (T.fact 20 (f := .glo "OVER") rfl)
theorem Txt.g_Operation : mg "Operation" = some (.ref (He.ga K "Operation")) := He.glo_ok T.X T.G (T.fact 21 (f := .glo "Operation") rfl)
theorem Txt.g_Run : mg "Run" = some (.ref (He.ga K "Run")) := He.glo_ok T.X T.G (T.fact 22 (f := .glo "Run") rfl)
theorem Txt.g_PROMISES : mg "PROMISES" = some (.ref (He.ga K "PROMISES")) := He.glo_ok T.X T.G (T.fact 23 (f := .glo "PROMISES") rfl)
theorem Txt.g_is_behind : mg "is_behind" = some (.ref (He.ga K "is_behind")) := He.glo_ok T.X T.G (T.fact 24 (f := .glo "is_behind") rfl)
theorem Txt.g_again : mg "again" = some (.ref (He.ga K "again")) := He.glo_ok T.X T.G (T.fact 25 (f := .glo "again") rfl)
theorem Txt.g_run_of_list : mg "run_of_list" = some (.ref (He.ga K "run_of_list")) := He.glo_ok T.X T.G (T.fact 26 (f := .glo "run_of_list") rfl)
theorem Txt.g_behind_write : mg "behind_write" = some (.ref (He.ga K "behind_write")) := He.glo_ok T.X T.G (T.fact 27 (f := .glo "behind_write") rfl)
theorem Txt.g_fills : mg "fills" = some (.ref (He.ga K "fills")) := He.glo_ok T.X T.G (T.fact 28 (f := .glo "fills") rfl)
theorem Txt.g_zones : mg "zones" = some (.ref (He.ga K "zones")) := He.glo_ok T.X T.G (T.fact 29 (f := .glo "zones") rfl)
theorem Txt.g_is_linear : mg "is_linear" = some (.ref (He.ga K "is_linear")) := He.glo_ok T.X T.G (T.fact 30 (f := .glo "is_linear") rfl)
theorem Txt.g_is_broken_by : mg "is_broken_by" = some (.ref (He.ga K "is_broken_by")) := He.glo_ok T.X T.G (T.fact 31 (f := .glo "is_broken_by") rfl)
theorem Txt.g_STEPS : mg "STEPS" = some (.ref (He.ga K "STEPS")) := He.glo_ok T.X T.G (T.fact 32 (f := .glo "STEPS") rfl)
theorem Txt.g_need_text : mg "need_text" = some (.ref (He.ga K "need_text")) := He.glo_ok T.X T.G (T.fact 33 (f := .glo "need_text") rfl)
theorem Txt.g_number_in : mg "number_in" = some (.ref (He.ga K "number_in")) := He.glo_ok T.X T.G (T.fact 34 (f := .glo "number_in") rfl)
theorem Txt.g_event_in : mg "event_in" = some (.ref (He.ga K "event_in")) := He.glo_ok T.X T.G (T.fact 35 (f := .glo "event_in") rfl)
theorem Txt.g_event_text : mg "event_text" = some (.ref (He.ga K "event_text")) := He.glo_ok T.X T.G (T.fact 36 (f := .glo "event_text") rfl)
theorem Txt.g_Desk : mg "Desk" = some (.ref (He.ga K "Desk")) := He.glo_ok T.X T.G (T.fact 37 (f := .glo "Desk") rfl)
theorem Txt.g__law_taken : mg "_law_taken" = some (.ref (He.ga K "_law_taken")) := He.glo_ok T.X T.G (T.fact 38 (f := .glo "_law_taken") rfl)
theorem Txt.g__law_pick : mg "_law_pick" = some (.ref (He.ga K "_law_pick")) := He.glo_ok T.X T.G (T.fact 39 (f := .glo "_law_pick") rfl)
theorem Txt.g__law_alike : mg "_law_alike" = some (.ref (He.ga K "_law_alike")) := He.glo_ok T.X T.G (T.fact 40 (f := .glo "_law_alike") rfl)
theorem Txt.g__law_paths : mg "_law_paths" = some (.ref (He.ga K "_law_paths")) := He.glo_ok T.X T.G (T.fact 41 (f := .glo "_law_paths") rfl)
theorem Txt.g__law_design : mg "_law_design" = some (.ref (He.ga K "_law_design")) := He.glo_ok T.X T.G (T.fact 42 (f := .glo "_law_design") rfl)
theorem Txt.g__law_world : mg "_law_world" = some (.ref (He.ga K "_law_world")) := He.glo_ok T.X T.G (T.fact 43 (f := .glo "_law_world") rfl)
theorem Txt.g__law_begin : mg "_law_begin" = some (.ref (He.ga K "_law_begin")) := He.glo_ok T.X T.G (T.fact 44 (f := .glo "_law_begin") rfl)
theorem Txt.g__law_going : mg "_law_going" = some (.ref (He.ga K "_law_going")) := He.glo_ok T.X T.G (T.fact 45 (f := .glo "_law_going") rfl)
theorem Txt.g__law_next : mg "_law_next" = some (.ref (He.ga K "_law_next")) := He.glo_ok T.X T.G (T.fact 46 (f := .glo "_law_next") rfl)
theorem Txt.g__law_events : mg "_law_events" = some (.ref (He.ga K "_law_events")) := He.glo_ok T.X T.G (T.fact 47 (f := .glo "_law_events") rfl)
theorem Txt.g__law_end : mg "_law_end" = some (.ref (He.ga K "_law_end")) := He.glo_ok T.X T.G (T.fact 48 (f := .glo "_law_end") rfl)
theorem Txt.g__law_hold : mg "_law_hold" = some (.ref (He.ga K "_law_hold")) := He.glo_ok T.X T.G (T.fact 49 (f := .glo "_law_hold") rfl)
theorem Txt.g__law_newer : mg "_law_newer" = some (.ref (He.ga K "_law_newer")) := He.glo_ok T.X T.G (T.fact 50 (f := .glo "_law_newer") rfl)
theorem Txt.g__law_lets : mg "_law_lets" = some (.ref (He.ga K "_law_lets")) := He.glo_ok T.X T.G (T.fact 51 (f := .glo "_law_lets") rfl)
theorem Txt.g__law_write : mg "_law_write" = some (.ref (He.ga K "_law_write")) := He.glo_ok T.X T.G (T.fact 52 (f := .glo "_law_write") rfl)
theorem Txt.g__law_read : mg "_law_read" = some (.ref (He.ga K "_law_read")) := He.glo_ok T.X T.G (T.fact 53 (f := .glo "_law_read") rfl)
theorem Txt.g__law_do : mg "_law_do" = some (.ref (He.ga K "_law_do")) := He.glo_ok T.X T.G (T.fact 54 (f := .glo "_law_do") rfl)
theorem Txt.g__law_run : mg "_law_run" = some (.ref (He.ga K "_law_run")) := He.glo_ok T.X T.G (T.fact 55 (f := .glo "_law_run") rfl)
theorem Txt.g__law_behind : mg "_law_behind" = some (.ref (He.ga K "_law_behind")) := He.glo_ok T.X T.G (T.fact 56 (f := .glo "_law_behind") rfl)
theorem Txt.g__law_before : mg "_law_before" = some (.ref (He.ga K "_law_before")) := He.glo_ok T.X T.G (T.fact 57 (f := .glo "_law_before") rfl)
theorem Txt.g__law_was_quiet : mg "_law_was_quiet" = some (.ref (He.ga K "_law_was_quiet")) := He.glo_ok T.X T.G (T.fact 58 (f := .glo "_law_was_quiet") rfl)
theorem Txt.g__law_ordered : mg "_law_ordered" = some (.ref (He.ga K "_law_ordered")) := He.glo_ok T.X T.G (T.fact 59 (f := .glo "_law_ordered") rfl)
theorem Txt.g__law_in_order : mg "_law_in_order" = some (.ref (He.ga K "_law_in_order")) := He.glo_ok T.X T.G (T.fact 60 (f := .glo "_law_in_order") rfl)
theorem Txt.g__law_alone : mg "_law_alone" = some (.ref (He.ga K "_law_alone")) := He.glo_ok T.X T.G (T.fact 61 (f := .glo "_law_alone") rfl)
theorem Txt.g__law_at_rest : mg "_law_at_rest" = some (.ref (He.ga K "_law_at_rest")) := He.glo_ok T.X T.G (T.fact 62 (f := .glo "_law_at_rest") rfl)
theorem Txt.g__law_broken : mg "_law_broken" = some (.ref (He.ga K "_law_broken")) := He.glo_ok T.X T.G (T.fact 63 (f := .glo "_law_broken") rfl)
theorem Txt.g__law_promises : mg "_law_promises" = some (.ref (He.ga K "_law_promises")) := He.glo_ok T.X T.G (T.fact 64 (f := .glo "_law_promises") rfl)
theorem Txt.g__law_word : mg "_law_word" = some (.ref (He.ga K "_law_word")) := He.glo_ok T.X T.G (T.fact 65 (f := .glo "_law_word") rfl)
theorem Txt.g__law_line : mg "_law_line" = some (.ref (He.ga K "_law_line")) := He.glo_ok T.X T.G (T.fact 66 (f := .glo "_law_line") rfl)
theorem Txt.g__law_shown : mg "_law_shown" = some (.ref (He.ga K "_law_shown")) := He.glo_ok T.X T.G (T.fact 67 (f := .glo "_law_shown") rfl)
theorem Txt.g_law : mg "law" = some (.ref (He.ga K "law")) := He.glo_ok T.X T.G (T.fact 68 (f := .glo "law") rfl)
theorem Txt.i_MOST_EVENTS : ∃ t, mg "MOST_EVENTS" = some (.int 60 t) := He.int_ok T.X T.G (T.fact 69 (f := .int "MOST_EVENTS" 60) rfl)
theorem Txt.z_FIGURES : ∃ t, mg "FIGURES" = some (.str "0123456789" t) := He.str_ok T.X T.G (T.fact 70 (f := .str "FIGURES" "0123456789") rfl)
theorem Txt.f_all : mg "all" = none := He.free_ok T.X T.G (T.fact 71 (f := .free "all") rfl)
theorem Txt.f_any : mg "any" = none := He.free_ok T.X T.G (T.fact 72 (f := .free "any") rfl)
theorem Txt.f_bool : mg "bool" = none := He.free_ok T.X T.G (T.fact 73 (f := .free "bool") rfl)
theorem Txt.f_dict : mg "dict" = none := He.free_ok T.X T.G (T.fact 74 (f := .free "dict") rfl)
theorem Txt.f_enumerate : mg "enumerate" = none := He.free_ok T.X T.G (T.fact 75 (f := .free "enumerate") rfl)
theorem Txt.f_int : mg "int" = none := He.free_ok T.X T.G (T.fact 76 (f := .free "int") rfl)
theorem Txt.f_isinstance : mg "isinstance" = none := He.free_ok T.X T.G (T.fact 77 (f := .free "isinstance") rfl)
theorem Txt.f_len : mg "len" = none := He.free_ok T.X T.G (T.fact 78 (f := .free "len") rfl)
theorem Txt.f_list : mg "list" = none := He.free_ok T.X T.G (T.fact 79 (f := .free "list") rfl)
theorem Txt.f_max : mg "max" = none := He.free_ok T.X T.G (T.fact 80 (f := .free "max") rfl)
theorem Txt.f_min : mg "min" = none := He.free_ok T.X T.G (T.fact 81 (f := .free "min") rfl)
theorem Txt.f_range : mg "range" = none := He.free_ok T.X T.G (T.fact 82 (f := .free "range") rfl)
theorem Txt.f_sorted : mg "sorted" = none := He.free_ok T.X T.G (T.fact 83 (f := .free "sorted") rfl)
theorem Txt.f_str : mg "str" = none := He.free_ok T.X T.G (T.fact 84 (f := .free "str") rfl)
theorem Txt.f_tuple : mg "tuple" = none := He.free_ok T.X T.G (T.fact 85 (f := .free "tuple") rfl)
theorem Txt.f_zip : mg "zip" = none := He.free_ok T.X T.G (T.fact 86 (f := .free "zip") rfl)
theorem Txt.cl_Operation : Cls K (He.ga K "Operation") := He.cls_ok (T.fact 87 (f := .cls "Operation") rfl)
theorem Txt.cl_Run : Cls K (He.ga K "Run") := He.cls_ok (T.fact 88 (f := .cls "Run") rfl)
theorem Txt.cl_Desk : Cls K (He.ga K "Desk") := He.cls_ok (T.fact 89 (f := .cls "Desk") rfl)
theorem Txt.n_Operation_number : NoAttr K (He.ga K "Operation") "number" := He.noat_ok (T.fact 90 (f := .noat "Operation" "number") rfl)
theorem Txt.n_Operation_kind : NoAttr K (He.ga K "Operation") "kind" := He.noat_ok (T.fact 91 (f := .noat "Operation" "kind") rfl)
theorem Txt.n_Operation_stage : NoAttr K (He.ga K "Operation") "stage" := He.noat_ok (T.fact 92 (f := .noat "Operation" "stage") rfl)
theorem Txt.n_Operation_version : NoAttr K (He.ga K "Operation") "version" := He.noat_ok (T.fact 93 (f := .noat "Operation" "version") rfl)
theorem Txt.n_Operation_begun : NoAttr K (He.ga K "Operation") "begun" := He.noat_ok (T.fact 94 (f := .noat "Operation" "begun") rfl)
theorem Txt.n_Operation_ended : NoAttr K (He.ga K "Operation") "ended" := He.noat_ok (T.fact 95 (f := .noat "Operation" "ended") rfl)
theorem Txt.n_Operation_step : NoAttr K (He.ga K "Operation") "step" := He.noat_ok (T.fact 96 (f := .noat "Operation" "step") rfl)
theorem Txt.n_Operation_token : NoAttr K (He.ga K "Operation") "token" := He.noat_ok (T.fact 97 (f := .noat "Operation" "token") rfl)
theorem Txt.n_Operation_leader : NoAttr K (He.ga K "Operation") "leader" := He.noat_ok (T.fact 98 (f := .noat "Operation" "leader") rfl)
theorem Txt.n_Operation_floors : NoAttr K (He.ga K "Operation") "floors" := He.noat_ok (T.fact 99 (f := .noat "Operation" "floors") rfl)
theorem Txt.n_Operation_is_quiet : NoAttr K (He.ga K "Operation") "is_quiet" := He.noat_ok (T.fact 100 (f := .noat "Operation" "is_quiet") rfl)
theorem Txt.n_Run_steps : NoAttr K (He.ga K "Run") "steps" := He.noat_ok (T.fact 101 (f := .noat "Run" "steps") rfl)
theorem Txt.n_Run_guard : NoAttr K (He.ga K "Run") "guard" := He.noat_ok (T.fact 102 (f := .noat "Run" "guard") rfl)
theorem Txt.n_Run_is_shared : NoAttr K (He.ga K "Run") "is_shared" := He.noat_ok (T.fact 103 (f := .noat "Run" "is_shared") rfl)
theorem Txt.n_Run_has_replica : NoAttr K (He.ga K "Run") "has_replica" := He.noat_ok (T.fact 104 (f := .noat "Run" "has_replica") rfl)
theorem Txt.n_Run_has_evictions : NoAttr K (He.ga K "Run") "has_evictions" := He.noat_ok (T.fact 105 (f := .noat "Run" "has_evictions") rfl)
theorem Txt.n_Run_has_stops : NoAttr K (He.ga K "Run") "has_stops" := He.noat_ok (T.fact 106 (f := .noat "Run" "has_stops") rfl)
theorem Txt.n_Run_database : NoAttr K (He.ga K "Run") "database" := He.noat_ok (T.fact 107 (f := .noat "Run" "database") rfl)
theorem Txt.n_Run_replica : NoAttr K (He.ga K "Run") "replica" := He.noat_ok (T.fact 108 (f := .noat "Run" "replica") rfl)
theorem Txt.n_Run_cache : NoAttr K (He.ga K "Run") "cache" := He.noat_ok (T.fact 109 (f := .noat "Run" "cache") rfl)
theorem Txt.n_Run_mark : NoAttr K (He.ga K "Run") "mark" := He.noat_ok (T.fact 110 (f := .noat "Run" "mark") rfl)
theorem Txt.n_Run_flight : NoAttr K (He.ga K "Run") "flight" := He.noat_ok (T.fact 111 (f := .noat "Run" "flight") rfl)
theorem Txt.n_Run_operations : NoAttr K (He.ga K "Run") "operations" := He.noat_ok (T.fact 112 (f := .noat "Run" "operations") rfl)
theorem Txt.n_Run_events_done : NoAttr K (He.ga K "Run") "events_done" := He.noat_ok (T.fact 113 (f := .noat "Run" "events_done") rfl)
theorem Txt.n_Run_finished : NoAttr K (He.ga K "Run") "finished" := He.noat_ok (T.fact 114 (f := .noat "Run" "finished") rfl)
theorem Txt.n_Run_returned : NoAttr K (He.ga K "Run") "returned" := He.noat_ok (T.fact 115 (f := .noat "Run" "returned") rfl)
theorem Txt.n_Run_last : NoAttr K (He.ga K "Run") "last" := He.noat_ok (T.fact 116 (f := .noat "Run" "last") rfl)
theorem Txt.n_Desk_design : NoAttr K (He.ga K "Desk") "_design" := He.noat_ok (T.fact 117 (f := .noat "Desk" "_design") rfl)
theorem Txt.n_Desk_world : NoAttr K (He.ga K "Desk") "_world" := He.noat_ok (T.fact 118 (f := .noat "Desk" "_world") rfl)
theorem Txt.n_Desk_now : NoAttr K (He.ga K "Desk") "_now" := He.noat_ok (T.fact 119 (f := .noat "Desk" "_now") rfl)
theorem Txt.n_Desk_done : NoAttr K (He.ga K "Desk") "_done" := He.noat_ok (T.fact 120 (f := .noat "Desk" "_done") rfl)
theorem Txt.n_Desk_broken : NoAttr K (He.ga K "Desk") "_broken" := He.noat_ok (T.fact 121 (f := .noat "Desk" "_broken") rfl)
theorem Txt.m_Operation_is_under_way : Meth K (He.ga K "Operation") "is_under_way" (He.ma K (He.ga K "Operation") "is_under_way") := He.meth_ok (T.fact 122 (f := .meth "Operation" "is_under_way") rfl)
theorem Txt.m_Run_under_way : Meth K (He.ga K "Run") "under_way" (He.ma K (He.ga K "Run") "under_way") := He.meth_ok (T.fact 123 (f := .meth "Run" "under_way") rfl)
theorem Txt.m_Run_is_writing : Meth K (He.ga K "Run") "is_writing" (He.ma K (He.ga K "Run") "is_writing") := He.meth_ok (T.fact 124 (f := .meth "Run" "is_writing") rfl)
theorem Txt.m_Run_next_step : Meth K (He.ga K "Run") "next_step" (He.ma K (He.ga K "Run") "next_step") := He.meth_ok (T.fact 125 (f := .meth "Run" "next_step") rfl)
theorem Txt.m_Run_events : Meth K (He.ga K "Run") "events" (He.ma K (He.ga K "Run") "events") := He.meth_ok (T.fact 126 (f := .meth "Run" "events") rfl)
theorem Txt.m_Run_do : Meth K (He.ga K "Run") "do" (He.ma K (He.ga K "Run") "do") := He.meth_ok (T.fact 127 (f := .meth "Run" "do") rfl)
theorem Txt.m_Run_do_step : Meth K (He.ga K "Run") "do_step" (He.ma K (He.ga K "Run") "do_step") := He.meth_ok (T.fact 128 (f := .meth "Run" "do_step") rfl)
theorem Txt.m_Run_do_read : Meth K (He.ga K "Run") "do_read" (He.ma K (He.ga K "Run") "do_read") := He.meth_ok (T.fact 129 (f := .meth "Run" "do_read") rfl)
theorem Txt.m_Run_begin : Meth K (He.ga K "Run") "begin" (He.ma K (He.ga K "Run") "begin") := He.meth_ok (T.fact 130 (f := .meth "Run" "begin") rfl)
theorem Txt.m_Run_end : Meth K (He.ga K "Run") "end" (He.ma K (He.ga K "Run") "end") := He.meth_ok (T.fact 131 (f := .meth "Run" "end") rfl)
theorem Txt.m_Run_do_write : Meth K (He.ga K "Run") "do_write" (He.ma K (He.ga K "Run") "do_write") := He.meth_ok (T.fact 132 (f := .meth "Run" "do_write") rfl)
theorem Txt.m_Run_spoil : Meth K (He.ga K "Run") "spoil" (He.ma K (He.ga K "Run") "spoil") := He.meth_ok (T.fact 133 (f := .meth "Run" "spoil") rfl)
theorem Txt.m_Run_is_newer : Meth K (He.ga K "Run") "is_newer" (He.ma K (He.ga K "Run") "is_newer") := He.meth_ok (T.fact 134 (f := .meth "Run" "is_newer") rfl)
theorem Txt.m_Run_put : Meth K (He.ga K "Run") "put" (He.ma K (He.ga K "Run") "put") := He.meth_ok (T.fact 135 (f := .meth "Run" "put") rfl)
theorem Txt.m_Run_look : Meth K (He.ga K "Run") "look" (He.ma K (He.ga K "Run") "look") := He.meth_ok (T.fact 136 (f := .meth "Run" "look") rfl)
theorem Txt.m_Run_fetch : Meth K (He.ga K "Run") "fetch" (He.ma K (He.ga K "Run") "fetch") := He.meth_ok (T.fact 137 (f := .meth "Run" "fetch") rfl)
theorem Txt.m_Run_fill : Meth K (He.ga K "Run") "fill" (He.ma K (He.ga K "Run") "fill") := He.meth_ok (T.fact 138 (f := .meth "Run" "fill") rfl)
theorem Txt.m_Run_take : Meth K (He.ga K "Run") "take" (He.ma K (He.ga K "Run") "take") := He.meth_ok (T.fact 139 (f := .meth "Run" "take") rfl)
theorem Txt.m_Desk_begin : Meth K (He.ga K "Desk") "_begin" (He.ma K (He.ga K "Desk") "_begin") := He.meth_ok (T.fact 140 (f := .meth "Desk" "_begin") rfl)
theorem Txt.m_Desk_show : Meth K (He.ga K "Desk") "_show" (He.ma K (He.ga K "Desk") "_show") := He.meth_ok (T.fact 141 (f := .meth "Desk" "_show") rfl)
theorem Txt.m_Desk_answer : Meth K (He.ga K "Desk") "_answer" (He.ma K (He.ga K "Desk") "_answer") := He.meth_ok (T.fact 142 (f := .meth "Desk" "_answer") rfl)
theorem Txt.m_Desk_run : Meth K (He.ga K "Desk") "run" (He.ma K (He.ga K "Desk") "run") := He.meth_ok (T.fact 143 (f := .meth "Desk" "run") rfl)
theorem Txt.m_Desk_undo : Meth K (He.ga K "Desk") "undo" (He.ma K (He.ga K "Desk") "undo") := He.meth_ok (T.fact 144 (f := .meth "Desk" "undo") rfl)
theorem Txt.mk_Operation : Mk K (He.ga K "Operation") (He.ma K (He.ga K "Operation") "__init__") := He.mkr_ok (T.fact 145 (f := .mkr "Operation") rfl)
theorem Txt.mk_Run : Mk K (He.ga K "Run") (He.ma K (He.ga K "Run") "__init__") := He.mkr_ok (T.fact 146 (f := .mkr "Run") rfl)
theorem Txt.mk_Desk : Mk K (He.ga K "Desk") (He.ma K (He.ga K "Desk") "__init__") := He.mkr_ok (T.fact 147 (f := .mkr "Desk") rfl)
theorem Txt.e_NotNow_CacheError : PySem.W.exmOne K (.ref (He.ga K "NotNow")) (.ref (He.ga K "CacheError")) = some true := He.exm_ok (T.fact 148 (f := .exm "NotNow" "CacheError" true) rfl)
theorem Txt.e_NotText_CacheError : PySem.W.exmOne K (.ref (He.ga K "NotText")) (.ref (He.ga K "CacheError")) = some true := He.exm_ok (T.fact 149 (f := .exm "NotText" "CacheError" true) rfl)
theorem Txt.e_InvalidText_CacheError : PySem.W.exmOne K (.ref (He.ga K "InvalidText")) (.ref (He.ga K "CacheError")) = some true := He.exm_ok (T.fact 150 (f := .exm "InvalidText" "CacheError" true) rfl)
theorem Txt.e_NothingToUndo_CacheError : PySem.W.exmOne K (.ref (He.ga K "NothingToUndo")) (.ref (He.ga K "CacheError")) = some true := He.exm_ok (T.fact 151 (f := .exm "NothingToUndo" "CacheError" true) rfl)
theorem Txt.e_NotNow_NotNow : PySem.W.exmOne K (.ref (He.ga K "NotNow")) (.ref (He.ga K "NotNow")) = some true := He.exm_ok (T.fact 152 (f := .exm "NotNow" "NotNow" true) rfl)
theorem Txt.e_NotNow_NotText : PySem.W.exmOne K (.ref (He.ga K "NotNow")) (.ref (He.ga K "NotText")) = some false := He.exm_ok (T.fact 153 (f := .exm "NotNow" "NotText" false) rfl)
theorem Txt.e_NotNow_InvalidText : PySem.W.exmOne K (.ref (He.ga K "NotNow")) (.ref (He.ga K "InvalidText")) = some false := He.exm_ok (T.fact 154 (f := .exm "NotNow" "InvalidText" false) rfl)
theorem Txt.e_NotNow_NothingToUndo : PySem.W.exmOne K (.ref (He.ga K "NotNow")) (.ref (He.ga K "NothingToUndo")) = some false := He.exm_ok (T.fact 155 (f := .exm "NotNow" "NothingToUndo" false) rfl)
theorem Txt.e_NotText_NotNow : PySem.W.exmOne K (.ref (He.ga K "NotText")) (.ref (He.ga K "NotNow")) = some false := He.exm_ok (T.fact 156 (f := .exm "NotText" "NotNow" false) rfl)
theorem Txt.e_NotText_NotText : PySem.W.exmOne K (.ref (He.ga K "NotText")) (.ref (He.ga K "NotText")) = some true := He.exm_ok (T.fact 157 (f := .exm "NotText" "NotText" true) rfl)
theorem Txt.e_NotText_InvalidText : PySem.W.exmOne K (.ref (He.ga K "NotText")) (.ref (He.ga K "InvalidText")) = some false := He.exm_ok (T.fact 158 (f := .exm "NotText" "InvalidText" false) rfl)
theorem Txt.e_NotText_NothingToUndo : PySem.W.exmOne K (.ref (He.ga K "NotText")) (.ref (He.ga K "NothingToUndo")) = some false := He.exm_ok (T.fact 159 (f := .exm "NotText" "NothingToUndo" false) rfl)
theorem Txt.e_InvalidText_NotNow : PySem.W.exmOne K (.ref (He.ga K "InvalidText")) (.ref (He.ga K "NotNow")) = some false := He.exm_ok (T.fact 160 (f := .exm "InvalidText" "NotNow" false) rfl)
theorem Txt.e_InvalidText_NotText : PySem.W.exmOne K (.ref (He.ga K "InvalidText")) (.ref (He.ga K "NotText")) = some false := He.exm_ok (T.fact 161 (f := .exm "InvalidText" "NotText" false) rfl)
theorem Txt.e_InvalidText_InvalidText : PySem.W.exmOne K (.ref (He.ga K "InvalidText")) (.ref (He.ga K "InvalidText")) = some true := He.exm_ok (T.fact 162 (f := .exm "InvalidText" "InvalidText" true) rfl)
theorem Txt.e_InvalidText_NothingToUndo : PySem.W.exmOne K (.ref (He.ga K "InvalidText")) (.ref (He.ga K "NothingToUndo")) = some false := He.exm_ok (T.fact 163 (f := .exm "InvalidText" "NothingToUndo" false) rfl)
theorem Txt.e_NothingToUndo_NotNow : PySem.W.exmOne K (.ref (He.ga K "NothingToUndo")) (.ref (He.ga K "NotNow")) = some false := He.exm_ok (T.fact 164 (f := .exm "NothingToUndo" "NotNow" false) rfl)
theorem Txt.e_NothingToUndo_NotText : PySem.W.exmOne K (.ref (He.ga K "NothingToUndo")) (.ref (He.ga K "NotText")) = some false := He.exm_ok (T.fact 165 (f := .exm "NothingToUndo" "NotText" false) rfl)
theorem Txt.e_NothingToUndo_InvalidText : PySem.W.exmOne K (.ref (He.ga K "NothingToUndo")) (.ref (He.ga K "InvalidText")) = some false := He.exm_ok (T.fact 166 (f := .exm "NothingToUndo" "InvalidText" false) rfl)
theorem Txt.e_NothingToUndo_NothingToUndo : PySem.W.exmOne K (.ref (He.ga K "NothingToUndo")) (.ref (He.ga K "NothingToUndo")) = some true := He.exm_ok (T.fact 167 (f := .exm "NothingToUndo" "NothingToUndo" true) rfl)
theorem Txt.kp_CacheError : PySem.W.keepIn K (.ref (He.ga K "CacheError")) = true := He.keep_ok (T.fact 168 (f := .keep "CacheError") rfl)
theorem Txt.kp_BadDesign : PySem.W.keepIn K (.ref (He.ga K "BadDesign")) = true := He.keep_ok (T.fact 169 (f := .keep "BadDesign") rfl)
theorem Txt.kp_BadWorld : PySem.W.keepIn K (.ref (He.ga K "BadWorld")) = true := He.keep_ok (T.fact 170 (f := .keep "BadWorld") rfl)
theorem Txt.kp_NotNow : PySem.W.keepIn K (.ref (He.ga K "NotNow")) = true := He.keep_ok (T.fact 171 (f := .keep "NotNow") rfl)
theorem Txt.kp_NotText : PySem.W.keepIn K (.ref (He.ga K "NotText")) = true := He.keep_ok (T.fact 172 (f := .keep "NotText") rfl)
theorem Txt.kp_InvalidText : PySem.W.keepIn K (.ref (He.ga K "InvalidText")) = true := He.keep_ok (T.fact 173 (f := .keep "InvalidText") rfl)
theorem Txt.kp_NothingToUndo : PySem.W.keepIn K (.ref (He.ga K "NothingToUndo")) = true := He.keep_ok (T.fact 174 (f := .keep "NothingToUndo") rfl)
theorem Txt.t_PATHS (H : Hp) : SqT K H (He.ga K "PATHS") [V.str "drop store", V.str "drop store drop", V.str "store", V.str "store drop", V.str "store set"] := tupAt_ok (T.ex 0 rfl) H
theorem Txt.t_GUARDS (H : Hp) : SqT K H (He.ga K "GUARDS") [V.str "always", V.str "empty", V.str "mark", V.str "never", V.str "newer", V.str "token"] := tupAt_ok (T.ex 1 rfl) H
theorem Txt.t_FLIGHTS (H : Hp) : SqT K H (He.ga K "FLIGHTS") [V.str "alone", V.str "shared"] := tupAt_ok (T.ex 2 rfl) H
theorem Txt.t_OVER (H : Hp) : SqT K H (He.ga K "OVER") [V.str "ended", V.str "stopped"] := tupAt_ok (T.ex 3 rfl) H
theorem Txt.t_PROMISES (H : Hp) : SqT K H (He.ga K "PROMISES") [V.str "ending", V.str "filled", V.str "forward", V.str "fresh", V.str "linear", V.str "mended", V.str "moving", V.str "quiet", V.str "rest", V.str "single"] := tupAt_ok (T.ex 4 rfl) H
theorem Txt.t_STEPS (H : Hp) : SqT K H (He.ga K "STEPS") [V.str "drop", V.str "fetch", V.str "fill", V.str "look", V.str "set", V.str "stop", V.str "store", V.str "take"] := tupAt_ok (T.ex 5 rfl) H
theorem Txt.t_DESIGNS (H : Hp) : SqT K H (He.ga K "DESIGNS") [V.ref (He.ga K "PATHS"), V.ref (He.ga K "GUARDS"), V.ref (He.ga K "FLIGHTS")] := tupAt_ok (T.ex 6 rfl) H
theorem Txt.t_WORLDS (H : Hp) : SqT K H (He.ga K "WORLDS") [V.ref (itA "WORLDS" 0 K), V.ref (itA "WORLDS" 1 K), V.ref (itA "WORLDS" 2 K)] := tupAt_ok (T.ex 7 rfl) H
theorem Txt.t_W0 (H : Hp) : SqT K H (itA "WORLDS" 0 K) [V.str "primary", V.str "replica"] := tupAt_ok (T.ex 8 rfl) H
theorem Txt.t_W1 (H : Hp) : SqT K H (itA "WORLDS" 1 K) [V.str "evicts", V.str "keeps"] := tupAt_ok (T.ex 9 rfl) H
theorem Txt.t_W2 (H : Hp) : SqT K H (itA "WORLDS" 2 K) [V.str "finishes", V.str "stops"] := tupAt_ok (T.ex 10 rfl) H
theorem Txt.fn_is_list : FunD K "is_list" "is_list" (defArgs s_is_list) (defBody s_is_list) (defScope s_is_list) [] [] (He.ga K "is_list") (fdOf K (He.ga K "is_list")) := fd_of T (T.d.def_ 0 rfl)
theorem Txt.k_is_list : PySem.W.keepIn K (.ref (He.ga K "is_list")) = true := (T.fn_is_list).kp
theorem Txt.b_is_list : Binds K (fdOf K (He.ga K "is_list")) ["value", "least", "most"] [] := (T.fn_is_list).bindsN fun _ _ _ _ _ _ us hl => match us, hl with | [_, _, _], _ => rfl
theorem Txt.fn_is_choice : FunD K "is_choice" "is_choice" (defArgs s_is_choice) (defBody s_is_choice) (defScope s_is_choice) [] [] (He.ga K "is_choice") (fdOf K (He.ga K "is_choice")) := fd_of T (T.d.def_ 1 rfl)
theorem Txt.k_is_choice : PySem.W.keepIn K (.ref (He.ga K "is_choice")) = true := (T.fn_is_choice).kp
theorem Txt.b_is_choice : Binds K (fdOf K (He.ga K "is_choice")) ["value", "options"] [] := (T.fn_is_choice).bindsN fun _ _ _ _ _ _ us hl => match us, hl with | [_, _], _ => rfl
theorem Txt.fn_is_design : FunD K "is_design" "is_design" (defArgs s_is_design) (defBody s_is_design) (defScope s_is_design) [] [] (He.ga K "is_design") (fdOf K (He.ga K "is_design")) := fd_of T (T.d.def_ 2 rfl)
theorem Txt.k_is_design : PySem.W.keepIn K (.ref (He.ga K "is_design")) = true := (T.fn_is_design).kp
theorem Txt.b_is_design : Binds K (fdOf K (He.ga K "is_design")) ["value"] [] := (T.fn_is_design).bindsN fun _ _ _ _ _ _ us hl => match us, hl with | [_], _ => rfl
theorem Txt.fn_is_world : FunD K "is_world" "is_world" (defArgs s_is_world) (defBody s_is_world) (defScope s_is_world) [] [] (He.ga K "is_world") (fdOf K (He.ga K "is_world")) := fd_of T (T.d.def_ 3 rfl)
theorem Txt.k_is_world : PySem.W.keepIn K (.ref (He.ga K "is_world")) = true := (T.fn_is_world).kp
theorem Txt.b_is_world : Binds K (fdOf K (He.ga K "is_world")) ["value"] [] := (T.fn_is_world).bindsN fun _ _ _ _ _ _ us hl => match us, hl with | [_], _ => rfl
theorem Txt.fn_need_design : FunD K "need_design" "need_design" (defArgs s_need_design) (defBody s_need_design) (defScope s_need_design) [] [] (He.ga K "need_design") (fdOf K (He.ga K "need_design")) := fd_of T (T.d.def_ 4 rfl)
theorem Txt.k_need_design : PySem.W.keepIn K (.ref (He.ga K "need_design")) = true := (T.fn_need_design).kp
theorem Txt.b_need_design : Binds K (fdOf K (He.ga K "need_design")) ["design"] [] := (T.fn_need_design).bindsN fun _ _ _ _ _ _ us hl => match us, hl with | [_], _ => rfl
theorem Txt.fn_need_world : FunD K "need_world" "need_world" (defArgs s_need_world) (defBody s_need_world) (defScope s_need_world) [] [] (He.ga K "need_world") (fdOf K (He.ga K "need_world")) := fd_of T (T.d.def_ 5 rfl)
theorem Txt.k_need_world : PySem.W.keepIn K (.ref (He.ga K "need_world")) = true := (T.fn_need_world).kp
theorem Txt.b_need_world : Binds K (fdOf K (He.ga K "need_world")) ["world"] [] := (T.fn_need_world).bindsN fun _ _ _ _ _ _ us hl => match us, hl with | [_], _ => rfl
theorem Txt.fn_need_both : FunD K "need_both" "need_both" (defArgs s_need_both) (defBody s_need_both) (defScope s_need_both) [] [] (He.ga K "need_both") (fdOf K (He.ga K "need_both")) := fd_of T (T.d.def_ 6 rfl)
theorem Txt.k_need_both : PySem.W.keepIn K (.ref (He.ga K "need_both")) = true := (T.fn_need_both).kp
theorem Txt.b_need_both : Binds K (fdOf K (He.ga K "need_both")) ["design", "world"] [] := (T.fn_need_both).bindsN fun _ _ _ _ _ _ us hl => match us, hl with | [_, _], _ => rfl
theorem Txt.fn_steps_of : FunD K "steps_of" "steps_of" (defArgs s_steps_of) (defBody s_steps_of) (defScope s_steps_of) [] [] (He.ga K "steps_of") (fdOf K (He.ga K "steps_of")) := fd_of T (T.d.def_ 7 rfl)
theorem Txt.k_steps_of : PySem.W.keepIn K (.ref (He.ga K "steps_of")) = true := (T.fn_steps_of).kp
theorem Txt.b_steps_of : Binds K (fdOf K (He.ga K "steps_of")) ["design"] [] := (T.fn_steps_of).bindsN fun _ _ _ _ _ _ us hl => match us, hl with | [_], _ => rfl
theorem Txt.fn_Operation_init : FunD K "__init__" "Operation.__init__" (defArgs s_Operation_init) (defBody s_Operation_init) (defScope s_Operation_init) [] [] (He.ma K (He.ga K "Operation") "__init__") (fdOf K (He.ma K (He.ga K "Operation") "__init__")) := fd_of T (T.d.def_ 8 rfl)
theorem Txt.k_Operation_init : PySem.W.keepIn K (.ref (He.ma K (He.ga K "Operation") "__init__")) = true := (T.fn_Operation_init).kp
theorem Txt.b_Operation_init : Binds K (fdOf K (He.ma K (He.ga K "Operation") "__init__")) ["self", "run", "kind"] [] := (T.fn_Operation_init).bindsN fun _ _ _ _ _ _ us hl => match us, hl with | [_, _, _], _ => rfl
theorem Txt.fn_Operation_is_under_way : FunD K "is_under_way" "Operation.is_under_way" (defArgs s_Operation_is_under_way) (defBody s_Operation_is_under_way) (defScope s_Operation_is_under_way) [] [] (He.ma K (He.ga K "Operation") "is_under_way") (fdOf K (He.ma K (He.ga K "Operation") "is_under_way")) := fd_of T (T.d.def_ 9 rfl)
theorem Txt.k_Operation_is_under_way : PySem.W.keepIn K (.ref (He.ma K (He.ga K "Operation") "is_under_way")) = true := (T.fn_Operation_is_under_way).kp
theorem Txt.b_Operation_is_under_way : Binds K (fdOf K (He.ma K (He.ga K "Operation") "is_under_way")) ["self"] [] := (T.fn_Operation_is_under_way).bindsN fun _ _ _ _ _ _ us hl => match us, hl with | [_], _ => rfl
theorem Txt.fn_Run_init : FunD K "__init__" "Run.__init__" (defArgs s_Run_init) (defBody s_Run_init) (defScope s_Run_init) [] [] (He.ma K (He.ga K "Run") "__init__") (fdOf K (He.ma K (He.ga K "Run") "__init__")) := fd_of T (T.d.def_ 10 rfl)
theorem Txt.k_Run_init : PySem.W.keepIn K (.ref (He.ma K (He.ga K "Run") "__init__")) = true := (T.fn_Run_init).kp
theorem Txt.b_Run_init : Binds K (fdOf K (He.ma K (He.ga K "Run") "__init__")) ["self", "design", "world"] [] := (T.fn_Run_init).bindsN fun _ _ _ _ _ _ us hl => match us, hl with | [_, _, _], _ => rfl
theorem Txt.fn_Run_under_way : FunD K "under_way" "Run.under_way" (defArgs s_Run_under_way) (defBody s_Run_under_way) (defScope s_Run_under_way) [] [] (He.ma K (He.ga K "Run") "under_way") (fdOf K (He.ma K (He.ga K "Run") "under_way")) := fd_of T (T.d.def_ 11 rfl)
theorem Txt.k_Run_under_way : PySem.W.keepIn K (.ref (He.ma K (He.ga K "Run") "under_way")) = true := (T.fn_Run_under_way).kp
theorem Txt.b_Run_under_way : Binds K (fdOf K (He.ma K (He.ga K "Run") "under_way")) ["self"] [] := (T.fn_Run_under_way).bindsN fun _ _ _ _ _ _ us hl => match us, hl with | [_], _ => rfl
theorem Txt.fn_Run_is_writing : FunD K "is_writing" "Run.is_writing" (defArgs s_Run_is_writing) (defBody s_Run_is_writing) (defScope s_Run_is_writing) [] [] (He.ma K (He.ga K "Run") "is_writing") (fdOf K (He.ma K (He.ga K "Run") "is_writing")) := fd_of T (T.d.def_ 12 rfl)
theorem Txt.k_Run_is_writing : PySem.W.keepIn K (.ref (He.ma K (He.ga K "Run") "is_writing")) = true := (T.fn_Run_is_writing).kp
theorem Txt.b_Run_is_writing : Binds K (fdOf K (He.ma K (He.ga K "Run") "is_writing")) ["self"] [] := (T.fn_Run_is_writing).bindsN fun _ _ _ _ _ _ us hl => match us, hl with | [_], _ => rfl
theorem Txt.fn_Run_next_step : FunD K "next_step" "Run.next_step" (defArgs s_Run_next_step) (defBody s_Run_next_step) (defScope s_Run_next_step) [] [] (He.ma K (He.ga K "Run") "next_step") (fdOf K (He.ma K (He.ga K "Run") "next_step")) := fd_of T (T.d.def_ 13 rfl)
theorem Txt.k_Run_next_step : PySem.W.keepIn K (.ref (He.ma K (He.ga K "Run") "next_step")) = true := (T.fn_Run_next_step).kp
theorem Txt.b_Run_next_step : Binds K (fdOf K (He.ma K (He.ga K "Run") "next_step")) ["self", "one"] [] := (T.fn_Run_next_step).bindsN fun _ _ _ _ _ _ us hl => match us, hl with | [_, _], _ => rfl
theorem Txt.fn_Run_events : FunD K "events" "Run.events" (defArgs s_Run_events) (defBody s_Run_events) (defScope s_Run_events) [] [] (He.ma K (He.ga K "Run") "events") (fdOf K (He.ma K (He.ga K "Run") "events")) := fd_of T (T.d.def_ 14 rfl)
theorem Txt.k_Run_events : PySem.W.keepIn K (.ref (He.ma K (He.ga K "Run") "events")) = true := (T.fn_Run_events).kp
theorem Txt.b_Run_events : Binds K (fdOf K (He.ma K (He.ga K "Run") "events")) ["self"] [] := (T.fn_Run_events).bindsN fun _ _ _ _ _ _ us hl => match us, hl with | [_], _ => rfl
theorem Txt.fn_Run_do : FunD K "do" "Run.do" (defArgs s_Run_do) (defBody s_Run_do) (defScope s_Run_do) [] [] (He.ma K (He.ga K "Run") "do") (fdOf K (He.ma K (He.ga K "Run") "do")) := fd_of T (T.d.def_ 15 rfl)
theorem Txt.k_Run_do : PySem.W.keepIn K (.ref (He.ma K (He.ga K "Run") "do")) = true := (T.fn_Run_do).kp
theorem Txt.b_Run_do : Binds K (fdOf K (He.ma K (He.ga K "Run") "do")) ["self", "event"] [] := (T.fn_Run_do).bindsN fun _ _ _ _ _ _ us hl => match us, hl with | [_, _], _ => rfl
theorem Txt.fn_Run_do_step : FunD K "do_step" "Run.do_step" (defArgs s_Run_do_step) (defBody s_Run_do_step) (defScope s_Run_do_step) [] [] (He.ma K (He.ga K "Run") "do_step") (fdOf K (He.ma K (He.ga K "Run") "do_step")) := fd_of T (T.d.def_ 16 rfl)
theorem Txt.k_Run_do_step : PySem.W.keepIn K (.ref (He.ma K (He.ga K "Run") "do_step")) = true := (T.fn_Run_do_step).kp
theorem Txt.b_Run_do_step : Binds K (fdOf K (He.ma K (He.ga K "Run") "do_step")) ["self", "word", "number"] [] := (T.fn_Run_do_step).bindsN fun _ _ _ _ _ _ us hl => match us, hl with | [_, _, _], _ => rfl
theorem Txt.fn_Run_do_read : FunD K "do_read" "Run.do_read" (defArgs s_Run_do_read) (defBody s_Run_do_read) (defScope s_Run_do_read) [] [] (He.ma K (He.ga K "Run") "do_read") (fdOf K (He.ma K (He.ga K "Run") "do_read")) := fd_of T (T.d.def_ 17 rfl)
theorem Txt.k_Run_do_read : PySem.W.keepIn K (.ref (He.ma K (He.ga K "Run") "do_read")) = true := (T.fn_Run_do_read).kp
theorem Txt.b_Run_do_read : Binds K (fdOf K (He.ma K (He.ga K "Run") "do_read")) ["self", "word", "one"] [] := (T.fn_Run_do_read).bindsN fun _ _ _ _ _ _ us hl => match us, hl with | [_, _, _], _ => rfl
theorem Txt.fn_Run_begin : FunD K "begin" "Run.begin" (defArgs s_Run_begin) (defBody s_Run_begin) (defScope s_Run_begin) [] [] (He.ma K (He.ga K "Run") "begin") (fdOf K (He.ma K (He.ga K "Run") "begin")) := fd_of T (T.d.def_ 18 rfl)
theorem Txt.k_Run_begin : PySem.W.keepIn K (.ref (He.ma K (He.ga K "Run") "begin")) = true := (T.fn_Run_begin).kp
theorem Txt.b_Run_begin : Binds K (fdOf K (He.ma K (He.ga K "Run") "begin")) ["self", "kind"] [] := (T.fn_Run_begin).bindsN fun _ _ _ _ _ _ us hl => match us, hl with | [_, _], _ => rfl
theorem Txt.fn_Run_end : FunD K "end" "Run.end" (defArgs s_Run_end) (defBody s_Run_end) (defScope s_Run_end) [] [] (He.ma K (He.ga K "Run") "end") (fdOf K (He.ma K (He.ga K "Run") "end")) := fd_of T (T.d.def_ 19 rfl)
theorem Txt.k_Run_end : PySem.W.keepIn K (.ref (He.ma K (He.ga K "Run") "end")) = true := (T.fn_Run_end).kp
theorem Txt.b_Run_end : Binds K (fdOf K (He.ma K (He.ga K "Run") "end")) ["self", "one"] [] := (T.fn_Run_end).bindsN fun _ _ _ _ _ _ us hl => match us, hl with | [_, _], _ => rfl
theorem Txt.fn_Run_do_write : FunD K "do_write" "Run.do_write" (defArgs s_Run_do_write) (defBody s_Run_do_write) (defScope s_Run_do_write) [] [] (He.ma K (He.ga K "Run") "do_write") (fdOf K (He.ma K (He.ga K "Run") "do_write")) := fd_of T (T.d.def_ 20 rfl)
theorem Txt.k_Run_do_write : PySem.W.keepIn K (.ref (He.ma K (He.ga K "Run") "do_write")) = true := (T.fn_Run_do_write).kp
theorem Txt.b_Run_do_write : Binds K (fdOf K (He.ma K (He.ga K "Run") "do_write")) ["self", "word", "one"] [] := (T.fn_Run_do_write).bindsN fun _ _ _ _ _ _ us hl => match us, hl with | [_, _, _], _ => rfl
theorem Txt.fn_Run_spoil : FunD K "spoil" "Run.spoil" (defArgs s_Run_spoil) (defBody s_Run_spoil) (defScope s_Run_spoil) [] [] (He.ma K (He.ga K "Run") "spoil") (fdOf K (He.ma K (He.ga K "Run") "spoil")) := fd_of T (T.d.def_ 21 rfl)
theorem Txt.k_Run_spoil : PySem.W.keepIn K (.ref (He.ma K (He.ga K "Run") "spoil")) = true := (T.fn_Run_spoil).kp
theorem Txt.b_Run_spoil : Binds K (fdOf K (He.ma K (He.ga K "Run") "spoil")) ["self"] [] := (T.fn_Run_spoil).bindsN fun _ _ _ _ _ _ us hl => match us, hl with | [_], _ => rfl
theorem Txt.fn_Run_is_newer : FunD K "is_newer" "Run.is_newer" (defArgs s_Run_is_newer) (defBody s_Run_is_newer) (defScope s_Run_is_newer) [] [] (He.ma K (He.ga K "Run") "is_newer") (fdOf K (He.ma K (He.ga K "Run") "is_newer")) := fd_of T (T.d.def_ 22 rfl)
theorem Txt.k_Run_is_newer : PySem.W.keepIn K (.ref (He.ma K (He.ga K "Run") "is_newer")) = true := (T.fn_Run_is_newer).kp
theorem Txt.b_Run_is_newer : Binds K (fdOf K (He.ma K (He.ga K "Run") "is_newer")) ["self", "version"] [] := (T.fn_Run_is_newer).bindsN fun _ _ _ _ _ _ us hl => match us, hl with | [_, _], _ => rfl
theorem Txt.fn_Run_put : FunD K "put" "Run.put" (defArgs s_Run_put) (defBody s_Run_put) (defScope s_Run_put) [] [] (He.ma K (He.ga K "Run") "put") (fdOf K (He.ma K (He.ga K "Run") "put")) := fd_of T (T.d.def_ 23 rfl)
theorem Txt.k_Run_put : PySem.W.keepIn K (.ref (He.ma K (He.ga K "Run") "put")) = true := (T.fn_Run_put).kp
theorem Txt.b_Run_put : Binds K (fdOf K (He.ma K (He.ga K "Run") "put")) ["self", "version"] [] := (T.fn_Run_put).bindsN fun _ _ _ _ _ _ us hl => match us, hl with | [_, _], _ => rfl
theorem Txt.fn_Run_look : FunD K "look" "Run.look" (defArgs s_Run_look) (defBody s_Run_look) (defScope s_Run_look) [] [] (He.ma K (He.ga K "Run") "look") (fdOf K (He.ma K (He.ga K "Run") "look")) := fd_of T (T.d.def_ 24 rfl)
theorem Txt.k_Run_look : PySem.W.keepIn K (.ref (He.ma K (He.ga K "Run") "look")) = true := (T.fn_Run_look).kp
theorem Txt.b_Run_look : Binds K (fdOf K (He.ma K (He.ga K "Run") "look")) ["self", "one"] [] := (T.fn_Run_look).bindsN fun _ _ _ _ _ _ us hl => match us, hl with | [_, _], _ => rfl
theorem Txt.fn_Run_fetch : FunD K "fetch" "Run.fetch" (defArgs s_Run_fetch) (defBody s_Run_fetch) (defScope s_Run_fetch) [] [] (He.ma K (He.ga K "Run") "fetch") (fdOf K (He.ma K (He.ga K "Run") "fetch")) := fd_of T (T.d.def_ 25 rfl)
theorem Txt.k_Run_fetch : PySem.W.keepIn K (.ref (He.ma K (He.ga K "Run") "fetch")) = true := (T.fn_Run_fetch).kp
theorem Txt.b_Run_fetch : Binds K (fdOf K (He.ma K (He.ga K "Run") "fetch")) ["self", "one"] [] := (T.fn_Run_fetch).bindsN fun _ _ _ _ _ _ us hl => match us, hl with | [_, _], _ => rfl
theorem Txt.fn_Run_fill : FunD K "fill" "Run.fill" (defArgs s_Run_fill) (defBody s_Run_fill) (defScope s_Run_fill) [] [] (He.ma K (He.ga K "Run") "fill") (fdOf K (He.ma K (He.ga K "Run") "fill")) := fd_of T (T.d.def_ 26 rfl)
theorem Txt.k_Run_fill : PySem.W.keepIn K (.ref (He.ma K (He.ga K "Run") "fill")) = true := (T.fn_Run_fill).kp
theorem Txt.b_Run_fill : Binds K (fdOf K (He.ma K (He.ga K "Run") "fill")) ["self", "one"] [] := (T.fn_Run_fill).bindsN fun _ _ _ _ _ _ us hl => match us, hl with | [_, _], _ => rfl
theorem Txt.fn_Run_take : FunD K "take" "Run.take" (defArgs s_Run_take) (defBody s_Run_take) (defScope s_Run_take) [] [] (He.ma K (He.ga K "Run") "take") (fdOf K (He.ma K (He.ga K "Run") "take")) := fd_of T (T.d.def_ 27 rfl)
theorem Txt.k_Run_take : PySem.W.keepIn K (.ref (He.ma K (He.ga K "Run") "take")) = true := (T.fn_Run_take).kp
theorem Txt.b_Run_take : Binds K (fdOf K (He.ma K (He.ga K "Run") "take")) ["self", "one"] [] := (T.fn_Run_take).bindsN fun _ _ _ _ _ _ us hl => match us, hl with | [_, _], _ => rfl
theorem Txt.fn_is_behind : FunD K "is_behind" "is_behind" (defArgs s_is_behind) (defBody s_is_behind) (defScope s_is_behind) [] [] (He.ga K "is_behind") (fdOf K (He.ga K "is_behind")) := fd_of T (T.d.def_ 28 rfl)
theorem Txt.k_is_behind : PySem.W.keepIn K (.ref (He.ga K "is_behind")) = true := (T.fn_is_behind).kp
theorem Txt.b_is_behind : Binds K (fdOf K (He.ga K "is_behind")) ["run"] [] := (T.fn_is_behind).bindsN fun _ _ _ _ _ _ us hl => match us, hl with | [_], _ => rfl
theorem Txt.fn_again : FunD K "again" "again" (defArgs s_again) (defBody s_again) (defScope s_again) [] [] (He.ga K "again") (fdOf K (He.ga K "again")) := fd_of T (T.d.def_ 29 rfl)
theorem Txt.k_again : PySem.W.keepIn K (.ref (He.ga K "again")) = true := (T.fn_again).kp
theorem Txt.b_again : Binds K (fdOf K (He.ga K "again")) ["design", "world", "run"] [] := (T.fn_again).bindsN fun _ _ _ _ _ _ us hl => match us, hl with | [_, _, _], _ => rfl
theorem Txt.fn_run_of_list : FunD K "run_of_list" "run_of_list" (defArgs s_run_of_list) (defBody s_run_of_list) (defScope s_run_of_list) [] [] (He.ga K "run_of_list") (fdOf K (He.ga K "run_of_list")) := fd_of T (T.d.def_ 30 rfl)
theorem Txt.k_run_of_list : PySem.W.keepIn K (.ref (He.ga K "run_of_list")) = true := (T.fn_run_of_list).kp
theorem Txt.b_run_of_list : Binds K (fdOf K (He.ga K "run_of_list")) ["design", "world", "events"] [] := (T.fn_run_of_list).bindsN fun _ _ _ _ _ _ us hl => match us, hl with | [_, _, _], _ => rfl
theorem Txt.fn_behind_write : FunD K "behind_write" "behind_write" (defArgs s_behind_write) (defBody s_behind_write) (defScope s_behind_write) [] [] (He.ga K "behind_write") (fdOf K (He.ga K "behind_write")) := fd_of T (T.d.def_ 31 rfl)
theorem Txt.k_behind_write : PySem.W.keepIn K (.ref (He.ga K "behind_write")) = true := (T.fn_behind_write).kp
theorem Txt.b_behind_write : Binds K (fdOf K (He.ga K "behind_write")) ["design", "world", "run"] [] := (T.fn_behind_write).bindsN fun _ _ _ _ _ _ us hl => match us, hl with | [_, _, _], _ => rfl
theorem Txt.fn_fills : FunD K "fills" "fills" (defArgs s_fills) (defBody s_fills) (defScope s_fills) [] [] (He.ga K "fills") (fdOf K (He.ga K "fills")) := fd_of T (T.d.def_ 32 rfl)
theorem Txt.k_fills : PySem.W.keepIn K (.ref (He.ga K "fills")) = true := (T.fn_fills).kp
theorem Txt.b_fills : Binds K (fdOf K (He.ga K "fills")) ["design", "world", "run"] [] := (T.fn_fills).bindsN fun _ _ _ _ _ _ us hl => match us, hl with | [_, _, _], _ => rfl
theorem Txt.fn_zones : FunD K "zones" "zones" (defArgs s_zones) (defBody s_zones) (defScope s_zones) [] [] (He.ga K "zones") (fdOf K (He.ga K "zones")) := fd_of T (T.d.def_ 33 rfl)
theorem Txt.k_zones : PySem.W.keepIn K (.ref (He.ga K "zones")) = true := (T.fn_zones).kp
theorem Txt.b_zones : Binds K (fdOf K (He.ga K "zones")) ["run"] [] := (T.fn_zones).bindsN fun _ _ _ _ _ _ us hl => match us, hl with | [_], _ => rfl
theorem Txt.fn_is_linear : FunD K "is_linear" "is_linear" (defArgs s_is_linear) (defBody s_is_linear) (defScope s_is_linear) [] [] (He.ga K "is_linear") (fdOf K (He.ga K "is_linear")) := fd_of T (T.d.def_ 34 rfl)
theorem Txt.k_is_linear : PySem.W.keepIn K (.ref (He.ga K "is_linear")) = true := (T.fn_is_linear).kp
theorem Txt.b_is_linear : Binds K (fdOf K (He.ga K "is_linear")) ["run"] [] := (T.fn_is_linear).bindsN fun _ _ _ _ _ _ us hl => match us, hl with | [_], _ => rfl
theorem Txt.fn_is_broken_by : FunD K "is_broken_by" "is_broken_by" (defArgs s_is_broken_by) (defBody s_is_broken_by) (defScope s_is_broken_by) [] [] (He.ga K "is_broken_by") (fdOf K (He.ga K "is_broken_by")) := fd_of T (T.d.def_ 35 rfl)
theorem Txt.k_is_broken_by : PySem.W.keepIn K (.ref (He.ga K "is_broken_by")) = true := (T.fn_is_broken_by).kp
theorem Txt.b_is_broken_by : Binds K (fdOf K (He.ga K "is_broken_by")) ["design", "world", "promise", "run"] [] := (T.fn_is_broken_by).bindsN fun _ _ _ _ _ _ us hl => match us, hl with | [_, _, _, _], _ => rfl
theorem Txt.fn_need_text : FunD K "need_text" "need_text" (defArgs s_need_text) (defBody s_need_text) (defScope s_need_text) [] [] (He.ga K "need_text") (fdOf K (He.ga K "need_text")) := fd_of T (T.d.def_ 36 rfl)
theorem Txt.k_need_text : PySem.W.keepIn K (.ref (He.ga K "need_text")) = true := (T.fn_need_text).kp
theorem Txt.b_need_text : Binds K (fdOf K (He.ga K "need_text")) ["text"] [] := (T.fn_need_text).bindsN fun _ _ _ _ _ _ us hl => match us, hl with | [_], _ => rfl
theorem Txt.fn_number_in : FunD K "number_in" "number_in" (defArgs s_number_in) (defBody s_number_in) (defScope s_number_in) [] [] (He.ga K "number_in") (fdOf K (He.ga K "number_in")) := fd_of T (T.d.def_ 37 rfl)
theorem Txt.k_number_in : PySem.W.keepIn K (.ref (He.ga K "number_in")) = true := (T.fn_number_in).kp
theorem Txt.b_number_in : Binds K (fdOf K (He.ga K "number_in")) ["word"] [] := (T.fn_number_in).bindsN fun _ _ _ _ _ _ us hl => match us, hl with | [_], _ => rfl
theorem Txt.fn_event_in : FunD K "event_in" "event_in" (defArgs s_event_in) (defBody s_event_in) (defScope s_event_in) [] [] (He.ga K "event_in") (fdOf K (He.ga K "event_in")) := fd_of T (T.d.def_ 38 rfl)
theorem Txt.k_event_in : PySem.W.keepIn K (.ref (He.ga K "event_in")) = true := (T.fn_event_in).kp
theorem Txt.b_event_in : Binds K (fdOf K (He.ga K "event_in")) ["line"] [] := (T.fn_event_in).bindsN fun _ _ _ _ _ _ us hl => match us, hl with | [_], _ => rfl
theorem Txt.fn_event_text : FunD K "event_text" "event_text" (defArgs s_event_text) (defBody s_event_text) (defScope s_event_text) [] [] (He.ga K "event_text") (fdOf K (He.ga K "event_text")) := fd_of T (T.d.def_ 39 rfl)
theorem Txt.k_event_text : PySem.W.keepIn K (.ref (He.ga K "event_text")) = true := (T.fn_event_text).kp
theorem Txt.b_event_text : Binds K (fdOf K (He.ga K "event_text")) ["event"] [] := (T.fn_event_text).bindsN fun _ _ _ _ _ _ us hl => match us, hl with | [_], _ => rfl
theorem Txt.fn_Desk_init : FunD K "__init__" "Desk.__init__" (defArgs s_Desk_init) (defBody s_Desk_init) (defScope s_Desk_init) [] [] (He.ma K (He.ga K "Desk") "__init__") (fdOf K (He.ma K (He.ga K "Desk") "__init__")) := fd_of T (T.d.def_ 40 rfl)
theorem Txt.k_Desk_init : PySem.W.keepIn K (.ref (He.ma K (He.ga K "Desk") "__init__")) = true := (T.fn_Desk_init).kp
theorem Txt.b_Desk_init : Binds K (fdOf K (He.ma K (He.ga K "Desk") "__init__")) ["self", "design", "world"] [] := (T.fn_Desk_init).bindsN fun _ _ _ _ _ _ us hl => match us, hl with | [_, _, _], _ => rfl
theorem Txt.fn_Desk_begin : FunD K "_begin" "Desk._begin" (defArgs s_Desk_begin) (defBody s_Desk_begin) (defScope s_Desk_begin) [] [] (He.ma K (He.ga K "Desk") "_begin") (fdOf K (He.ma K (He.ga K "Desk") "_begin")) := fd_of T (T.d.def_ 41 rfl)
theorem Txt.k_Desk_begin : PySem.W.keepIn K (.ref (He.ma K (He.ga K "Desk") "_begin")) = true := (T.fn_Desk_begin).kp
theorem Txt.b_Desk_begin : Binds K (fdOf K (He.ma K (He.ga K "Desk") "_begin")) ["self", "events"] [] := (T.fn_Desk_begin).bindsN fun _ _ _ _ _ _ us hl => match us, hl with | [_, _], _ => rfl
theorem Txt.fn_Desk_show : FunD K "_show" "Desk._show" (defArgs s_Desk_show) (defBody s_Desk_show) (defScope s_Desk_show) [] [] (He.ma K (He.ga K "Desk") "_show") (fdOf K (He.ma K (He.ga K "Desk") "_show")) := fd_of T (T.d.def_ 42 rfl)
theorem Txt.k_Desk_show : PySem.W.keepIn K (.ref (He.ma K (He.ga K "Desk") "_show")) = true := (T.fn_Desk_show).kp
theorem Txt.b_Desk_show : Binds K (fdOf K (He.ma K (He.ga K "Desk") "_show")) ["self"] [] := (T.fn_Desk_show).bindsN fun _ _ _ _ _ _ us hl => match us, hl with | [_], _ => rfl
theorem Txt.fn_Desk_answer : FunD K "_answer" "Desk._answer" (defArgs s_Desk_answer) (defBody s_Desk_answer) (defScope s_Desk_answer) [] [] (He.ma K (He.ga K "Desk") "_answer") (fdOf K (He.ma K (He.ga K "Desk") "_answer")) := fd_of T (T.d.def_ 43 rfl)
theorem Txt.k_Desk_answer : PySem.W.keepIn K (.ref (He.ma K (He.ga K "Desk") "_answer")) = true := (T.fn_Desk_answer).kp
theorem Txt.b_Desk_answer : Binds K (fdOf K (He.ma K (He.ga K "Desk") "_answer")) ["self", "line"] [] := (T.fn_Desk_answer).bindsN fun _ _ _ _ _ _ us hl => match us, hl with | [_, _], _ => rfl
theorem Txt.fn_Desk_run : FunD K "run" "Desk.run" (defArgs s_Desk_run) (defBody s_Desk_run) (defScope s_Desk_run) [] [] (He.ma K (He.ga K "Desk") "run") (fdOf K (He.ma K (He.ga K "Desk") "run")) := fd_of T (T.d.def_ 44 rfl)
theorem Txt.k_Desk_run : PySem.W.keepIn K (.ref (He.ma K (He.ga K "Desk") "run")) = true := (T.fn_Desk_run).kp
theorem Txt.b_Desk_run : Binds K (fdOf K (He.ma K (He.ga K "Desk") "run")) ["self", "line"] [] := (T.fn_Desk_run).bindsN fun _ _ _ _ _ _ us hl => match us, hl with | [_, _], _ => rfl
theorem Txt.fn_Desk_undo : FunD K "undo" "Desk.undo" (defArgs s_Desk_undo) (defBody s_Desk_undo) (defScope s_Desk_undo) [] [] (He.ma K (He.ga K "Desk") "undo") (fdOf K (He.ma K (He.ga K "Desk") "undo")) := fd_of T (T.d.def_ 45 rfl)
theorem Txt.k_Desk_undo : PySem.W.keepIn K (.ref (He.ma K (He.ga K "Desk") "undo")) = true := (T.fn_Desk_undo).kp
theorem Txt.b_Desk_undo : Binds K (fdOf K (He.ma K (He.ga K "Desk") "undo")) ["self"] [] := (T.fn_Desk_undo).bindsN fun _ _ _ _ _ _ us hl => match us, hl with | [_], _ => rfl
theorem Txt.fn_L_taken : FunD K "_law_taken" "_law_taken" (defArgs s_L_taken) (defBody s_L_taken) (defScope s_L_taken) [] [] (He.ga K "_law_taken") (fdOf K (He.ga K "_law_taken")) := fd_of T (T.d.def_ 46 rfl)
theorem Txt.k_L_taken : PySem.W.keepIn K (.ref (He.ga K "_law_taken")) = true := (T.fn_L_taken).kp
theorem Txt.b_L_taken : Binds K (fdOf K (He.ga K "_law_taken")) ["_law_row", "_law_many"] [] := (T.fn_L_taken).bindsN fun _ _ _ _ _ _ us hl => match us, hl with | [_, _], _ => rfl
theorem Txt.fn_L_pick : FunD K "_law_pick" "_law_pick" (defArgs s_L_pick) (defBody s_L_pick) (defScope s_L_pick) [] [] (He.ga K "_law_pick") (fdOf K (He.ga K "_law_pick")) := fd_of T (T.d.def_ 47 rfl)
theorem Txt.k_L_pick : PySem.W.keepIn K (.ref (He.ga K "_law_pick")) = true := (T.fn_L_pick).kp
theorem Txt.b_L_pick : Binds K (fdOf K (He.ga K "_law_pick")) ["_law_row", "_law_kinds"] [] := (T.fn_L_pick).bindsN fun _ _ _ _ _ _ us hl => match us, hl with | [_, _], _ => rfl
theorem Txt.fn_L_alike : FunD K "_law_alike" "_law_alike" (defArgs s_L_alike) (defBody s_L_alike) (defScope s_L_alike) [] [] (He.ga K "_law_alike") (fdOf K (He.ga K "_law_alike")) := fd_of T (T.d.def_ 48 rfl)
theorem Txt.k_L_alike : PySem.W.keepIn K (.ref (He.ga K "_law_alike")) = true := (T.fn_L_alike).kp
theorem Txt.b_L_alike : Binds K (fdOf K (He.ga K "_law_alike")) ["_law_found", "_law_due"] [] := (T.fn_L_alike).bindsN fun _ _ _ _ _ _ us hl => match us, hl with | [_, _], _ => rfl
theorem Txt.fn_L_paths : FunD K "_law_paths" "_law_paths" (defArgs s_L_paths) (defBody s_L_paths) (defScope s_L_paths) [] [] (He.ga K "_law_paths") (fdOf K (He.ga K "_law_paths")) := fd_of T (T.d.def_ 49 rfl)
theorem Txt.k_L_paths : PySem.W.keepIn K (.ref (He.ga K "_law_paths")) = true := (T.fn_L_paths).kp
theorem Txt.b_L_paths : Binds K (fdOf K (He.ga K "_law_paths")) [] [] := (T.fn_L_paths).bindsN fun _ _ _ _ _ _ us hl => match us, hl with | [], _ => rfl
theorem Txt.fn_L_design : FunD K "_law_design" "_law_design" (defArgs s_L_design) (defBody s_L_design) (defScope s_L_design) [] [] (He.ga K "_law_design") (fdOf K (He.ga K "_law_design")) := fd_of T (T.d.def_ 50 rfl)
theorem Txt.k_L_design : PySem.W.keepIn K (.ref (He.ga K "_law_design")) = true := (T.fn_L_design).kp
theorem Txt.b_L_design : Binds K (fdOf K (He.ga K "_law_design")) ["_law_row"] [] := (T.fn_L_design).bindsN fun _ _ _ _ _ _ us hl => match us, hl with | [_], _ => rfl
theorem Txt.fn_L_world : FunD K "_law_world" "_law_world" (defArgs s_L_world) (defBody s_L_world) (defScope s_L_world) [] [] (He.ga K "_law_world") (fdOf K (He.ga K "_law_world")) := fd_of T (T.d.def_ 51 rfl)
theorem Txt.k_L_world : PySem.W.keepIn K (.ref (He.ga K "_law_world")) = true := (T.fn_L_world).kp
theorem Txt.b_L_world : Binds K (fdOf K (He.ga K "_law_world")) ["_law_row"] [] := (T.fn_L_world).bindsN fun _ _ _ _ _ _ us hl => match us, hl with | [_], _ => rfl
theorem Txt.fn_L_begin : FunD K "_law_begin" "_law_begin" (defArgs s_L_begin) (defBody s_L_begin) (defScope s_L_begin) [] [] (He.ga K "_law_begin") (fdOf K (He.ga K "_law_begin")) := fd_of T (T.d.def_ 52 rfl)
theorem Txt.k_L_begin : PySem.W.keepIn K (.ref (He.ga K "_law_begin")) = true := (T.fn_L_begin).kp
theorem Txt.b_L_begin : Binds K (fdOf K (He.ga K "_law_begin")) ["_law_design_here", "_law_world_here"] [] := (T.fn_L_begin).bindsN fun _ _ _ _ _ _ us hl => match us, hl with | [_, _], _ => rfl
theorem Txt.fn_L_going : FunD K "_law_going" "_law_going" (defArgs s_L_going) (defBody s_L_going) (defScope s_L_going) [] [] (He.ga K "_law_going") (fdOf K (He.ga K "_law_going")) := fd_of T (T.d.def_ 53 rfl)
theorem Txt.k_L_going : PySem.W.keepIn K (.ref (He.ga K "_law_going")) = true := (T.fn_L_going).kp
theorem Txt.b_L_going : Binds K (fdOf K (He.ga K "_law_going")) ["_law_h"] [] := (T.fn_L_going).bindsN fun _ _ _ _ _ _ us hl => match us, hl with | [_], _ => rfl
theorem Txt.fn_L_next : FunD K "_law_next" "_law_next" (defArgs s_L_next) (defBody s_L_next) (defScope s_L_next) [] [] (He.ga K "_law_next") (fdOf K (He.ga K "_law_next")) := fd_of T (T.d.def_ 54 rfl)
theorem Txt.k_L_next : PySem.W.keepIn K (.ref (He.ga K "_law_next")) = true := (T.fn_L_next).kp
theorem Txt.b_L_next : Binds K (fdOf K (He.ga K "_law_next")) ["_law_h", "_law_one"] [] := (T.fn_L_next).bindsN fun _ _ _ _ _ _ us hl => match us, hl with | [_, _], _ => rfl
theorem Txt.fn_L_events : FunD K "_law_events" "_law_events" (defArgs s_L_events) (defBody s_L_events) (defScope s_L_events) [] [] (He.ga K "_law_events") (fdOf K (He.ga K "_law_events")) := fd_of T (T.d.def_ 55 rfl)
theorem Txt.k_L_events : PySem.W.keepIn K (.ref (He.ga K "_law_events")) = true := (T.fn_L_events).kp
theorem Txt.b_L_events : Binds K (fdOf K (He.ga K "_law_events")) ["_law_h"] [] := (T.fn_L_events).bindsN fun _ _ _ _ _ _ us hl => match us, hl with | [_], _ => rfl
theorem Txt.fn_L_end : FunD K "_law_end" "_law_end" (defArgs s_L_end) (defBody s_L_end) (defScope s_L_end) [] [] (He.ga K "_law_end") (fdOf K (He.ga K "_law_end")) := fd_of T (T.d.def_ 56 rfl)
theorem Txt.k_L_end : PySem.W.keepIn K (.ref (He.ga K "_law_end")) = true := (T.fn_L_end).kp
theorem Txt.b_L_end : Binds K (fdOf K (He.ga K "_law_end")) ["_law_h", "_law_one", "_law_stage"] [] := (T.fn_L_end).bindsN fun _ _ _ _ _ _ us hl => match us, hl with | [_, _, _], _ => rfl
theorem Txt.fn_L_hold : FunD K "_law_hold" "_law_hold" (defArgs s_L_hold) (defBody s_L_hold) (defScope s_L_hold) [] [] (He.ga K "_law_hold") (fdOf K (He.ga K "_law_hold")) := fd_of T (T.d.def_ 57 rfl)
theorem Txt.k_L_hold : PySem.W.keepIn K (.ref (He.ga K "_law_hold")) = true := (T.fn_L_hold).kp
theorem Txt.b_L_hold : Binds K (fdOf K (He.ga K "_law_hold")) ["_law_h", "_law_version"] [] := (T.fn_L_hold).bindsN fun _ _ _ _ _ _ us hl => match us, hl with | [_, _], _ => rfl
theorem Txt.fn_L_newer : FunD K "_law_newer" "_law_newer" (defArgs s_L_newer) (defBody s_L_newer) (defScope s_L_newer) [] [] (He.ga K "_law_newer") (fdOf K (He.ga K "_law_newer")) := fd_of T (T.d.def_ 58 rfl)
theorem Txt.k_L_newer : PySem.W.keepIn K (.ref (He.ga K "_law_newer")) = true := (T.fn_L_newer).kp
theorem Txt.b_L_newer : Binds K (fdOf K (He.ga K "_law_newer")) ["_law_h", "_law_version"] [] := (T.fn_L_newer).bindsN fun _ _ _ _ _ _ us hl => match us, hl with | [_, _], _ => rfl
theorem Txt.fn_L_lets : FunD K "_law_lets" "_law_lets" (defArgs s_L_lets) (defBody s_L_lets) (defScope s_L_lets) [] [] (He.ga K "_law_lets") (fdOf K (He.ga K "_law_lets")) := fd_of T (T.d.def_ 59 rfl)
theorem Txt.k_L_lets : PySem.W.keepIn K (.ref (He.ga K "_law_lets")) = true := (T.fn_L_lets).kp
theorem Txt.b_L_lets : Binds K (fdOf K (He.ga K "_law_lets")) ["_law_h", "_law_one"] [] := (T.fn_L_lets).bindsN fun _ _ _ _ _ _ us hl => match us, hl with | [_, _], _ => rfl
theorem Txt.fn_L_write : FunD K "_law_write" "_law_write" (defArgs s_L_write) (defBody s_L_write) (defScope s_L_write) [] [] (He.ga K "_law_write") (fdOf K (He.ga K "_law_write")) := fd_of T (T.d.def_ 60 rfl)
theorem Txt.k_L_write : PySem.W.keepIn K (.ref (He.ga K "_law_write")) = true := (T.fn_L_write).kp
theorem Txt.b_L_write : Binds K (fdOf K (He.ga K "_law_write")) ["_law_h", "_law_one", "_law_word_here"] [] := (T.fn_L_write).bindsN fun _ _ _ _ _ _ us hl => match us, hl with | [_, _, _], _ => rfl
theorem Txt.fn_L_read : FunD K "_law_read" "_law_read" (defArgs s_L_read) (defBody s_L_read) (defScope s_L_read) [] [] (He.ga K "_law_read") (fdOf K (He.ga K "_law_read")) := fd_of T (T.d.def_ 61 rfl)
theorem Txt.k_L_read : PySem.W.keepIn K (.ref (He.ga K "_law_read")) = true := (T.fn_L_read).kp
theorem Txt.b_L_read : Binds K (fdOf K (He.ga K "_law_read")) ["_law_h", "_law_one", "_law_word_here"] [] := (T.fn_L_read).bindsN fun _ _ _ _ _ _ us hl => match us, hl with | [_, _, _], _ => rfl
theorem Txt.fn_L_do : FunD K "_law_do" "_law_do" (defArgs s_L_do) (defBody s_L_do) (defScope s_L_do) [] [] (He.ga K "_law_do") (fdOf K (He.ga K "_law_do")) := fd_of T (T.d.def_ 62 rfl)
theorem Txt.k_L_do : PySem.W.keepIn K (.ref (He.ga K "_law_do")) = true := (T.fn_L_do).kp
theorem Txt.b_L_do : Binds K (fdOf K (He.ga K "_law_do")) ["_law_h", "_law_event"] [] := (T.fn_L_do).bindsN fun _ _ _ _ _ _ us hl => match us, hl with | [_, _], _ => rfl
theorem Txt.fn_L_run : FunD K "_law_run" "_law_run" (defArgs s_L_run) (defBody s_L_run) (defScope s_L_run) [] [] (He.ga K "_law_run") (fdOf K (He.ga K "_law_run")) := fd_of T (T.d.def_ 63 rfl)
theorem Txt.k_L_run : PySem.W.keepIn K (.ref (He.ga K "_law_run")) = true := (T.fn_L_run).kp
theorem Txt.b_L_run : Binds K (fdOf K (He.ga K "_law_run")) ["_law_design_here", "_law_world_here", "_law_events_here"] [] := (T.fn_L_run).bindsN fun _ _ _ _ _ _ us hl => match us, hl with | [_, _, _], _ => rfl
theorem Txt.fn_L_behind : FunD K "_law_behind" "_law_behind" (defArgs s_L_behind) (defBody s_L_behind) (defScope s_L_behind) [] [] (He.ga K "_law_behind") (fdOf K (He.ga K "_law_behind")) := fd_of T (T.d.def_ 64 rfl)
theorem Txt.k_L_behind : PySem.W.keepIn K (.ref (He.ga K "_law_behind")) = true := (T.fn_L_behind).kp
theorem Txt.b_L_behind : Binds K (fdOf K (He.ga K "_law_behind")) ["_law_h"] [] := (T.fn_L_behind).bindsN fun _ _ _ _ _ _ us hl => match us, hl with | [_], _ => rfl
theorem Txt.fn_L_before : FunD K "_law_before" "_law_before" (defArgs s_L_before) (defBody s_L_before) (defScope s_L_before) [] [] (He.ga K "_law_before") (fdOf K (He.ga K "_law_before")) := fd_of T (T.d.def_ 65 rfl)
theorem Txt.k_L_before : PySem.W.keepIn K (.ref (He.ga K "_law_before")) = true := (T.fn_L_before).kp
theorem Txt.b_L_before : Binds K (fdOf K (He.ga K "_law_before")) ["_law_h", "_law_one", "_law_kind"] [] := (T.fn_L_before).bindsN fun _ _ _ _ _ _ us hl => match us, hl with | [_, _, _], _ => rfl
theorem Txt.fn_L_was_quiet : FunD K "_law_was_quiet" "_law_was_quiet" (defArgs s_L_was_quiet) (defBody s_L_was_quiet) (defScope s_L_was_quiet) [] [] (He.ga K "_law_was_quiet") (fdOf K (He.ga K "_law_was_quiet")) := fd_of T (T.d.def_ 66 rfl)
theorem Txt.k_L_was_quiet : PySem.W.keepIn K (.ref (He.ga K "_law_was_quiet")) = true := (T.fn_L_was_quiet).kp
theorem Txt.b_L_was_quiet : Binds K (fdOf K (He.ga K "_law_was_quiet")) ["_law_h", "_law_one"] [] := (T.fn_L_was_quiet).bindsN fun _ _ _ _ _ _ us hl => match us, hl with | [_, _], _ => rfl
theorem Txt.fn_L_ordered : FunD K "_law_ordered" "_law_ordered" (defArgs s_L_ordered) (defBody s_L_ordered) (defScope s_L_ordered) [] [] (He.ga K "_law_ordered") (fdOf K (He.ga K "_law_ordered")) := fd_of T (T.d.def_ 67 rfl)
theorem Txt.k_L_ordered : PySem.W.keepIn K (.ref (He.ga K "_law_ordered")) = true := (T.fn_L_ordered).kp
theorem Txt.b_L_ordered : Binds K (fdOf K (He.ga K "_law_ordered")) ["_law_left", "_law_version"] [] := (T.fn_L_ordered).bindsN fun _ _ _ _ _ _ us hl => match us, hl with | [_, _], _ => rfl
theorem Txt.fn_L_in_order : FunD K "_law_in_order" "_law_in_order" (defArgs s_L_in_order) (defBody s_L_in_order) (defScope s_L_in_order) [] [] (He.ga K "_law_in_order") (fdOf K (He.ga K "_law_in_order")) := fd_of T (T.d.def_ 68 rfl)
theorem Txt.k_L_in_order : PySem.W.keepIn K (.ref (He.ga K "_law_in_order")) = true := (T.fn_L_in_order).kp
theorem Txt.b_L_in_order : Binds K (fdOf K (He.ga K "_law_in_order")) ["_law_h"] [] := (T.fn_L_in_order).bindsN fun _ _ _ _ _ _ us hl => match us, hl with | [_], _ => rfl
theorem Txt.fn_L_alone : FunD K "_law_alone" "_law_alone" (defArgs s_L_alone) (defBody s_L_alone) (defScope s_L_alone) [] [] (He.ga K "_law_alone") (fdOf K (He.ga K "_law_alone")) := fd_of T (T.d.def_ 69 rfl)
theorem Txt.k_L_alone : PySem.W.keepIn K (.ref (He.ga K "_law_alone")) = true := (T.fn_L_alone).kp
theorem Txt.b_L_alone : Binds K (fdOf K (He.ga K "_law_alone")) ["_law_h", "_law_first"] [] := (T.fn_L_alone).bindsN fun _ _ _ _ _ _ us hl => match us, hl with | [_, _], _ => rfl
theorem Txt.fn_L_at_rest : FunD K "_law_at_rest" "_law_at_rest" (defArgs s_L_at_rest) (defBody s_L_at_rest) (defScope s_L_at_rest) [] [] (He.ga K "_law_at_rest") (fdOf K (He.ga K "_law_at_rest")) := fd_of T (T.d.def_ 70 rfl)
theorem Txt.k_L_at_rest : PySem.W.keepIn K (.ref (He.ga K "_law_at_rest")) = true := (T.fn_L_at_rest).kp
theorem Txt.b_L_at_rest : Binds K (fdOf K (He.ga K "_law_at_rest")) ["_law_h", "_law_promise"] [] := (T.fn_L_at_rest).bindsN fun _ _ _ _ _ _ us hl => match us, hl with | [_, _], _ => rfl
theorem Txt.fn_L_broken : FunD K "_law_broken" "_law_broken" (defArgs s_L_broken) (defBody s_L_broken) (defScope s_L_broken) [] [] (He.ga K "_law_broken") (fdOf K (He.ga K "_law_broken")) := fd_of T (T.d.def_ 71 rfl)
theorem Txt.k_L_broken : PySem.W.keepIn K (.ref (He.ga K "_law_broken")) = true := (T.fn_L_broken).kp
theorem Txt.b_L_broken : Binds K (fdOf K (He.ga K "_law_broken")) ["_law_h", "_law_promise"] [] := (T.fn_L_broken).bindsN fun _ _ _ _ _ _ us hl => match us, hl with | [_, _], _ => rfl
theorem Txt.fn_L_promises : FunD K "_law_promises" "_law_promises" (defArgs s_L_promises) (defBody s_L_promises) (defScope s_L_promises) [] [] (He.ga K "_law_promises") (fdOf K (He.ga K "_law_promises")) := fd_of T (T.d.def_ 72 rfl)
theorem Txt.k_L_promises : PySem.W.keepIn K (.ref (He.ga K "_law_promises")) = true := (T.fn_L_promises).kp
theorem Txt.b_L_promises : Binds K (fdOf K (He.ga K "_law_promises")) [] [] := (T.fn_L_promises).bindsN fun _ _ _ _ _ _ us hl => match us, hl with | [], _ => rfl
theorem Txt.fn_L_word : FunD K "_law_word" "_law_word" (defArgs s_L_word) (defBody s_L_word) (defScope s_L_word) [] [] (He.ga K "_law_word") (fdOf K (He.ga K "_law_word")) := fd_of T (T.d.def_ 73 rfl)
theorem Txt.k_L_word : PySem.W.keepIn K (.ref (He.ga K "_law_word")) = true := (T.fn_L_word).kp
theorem Txt.b_L_word : Binds K (fdOf K (He.ga K "_law_word")) ["_law_work"] [] := (T.fn_L_word).bindsN fun _ _ _ _ _ _ us hl => match us, hl with | [_], _ => rfl
theorem Txt.fn_L_line : FunD K "_law_line" "_law_line" (defArgs s_L_line) (defBody s_L_line) (defScope s_L_line) [] [] (He.ga K "_law_line") (fdOf K (He.ga K "_law_line")) := fd_of T (T.d.def_ 74 rfl)
theorem Txt.k_L_line : PySem.W.keepIn K (.ref (He.ga K "_law_line")) = true := (T.fn_L_line).kp
theorem Txt.b_L_line : Binds K (fdOf K (He.ga K "_law_line")) ["_law_event"] [] := (T.fn_L_line).bindsN fun _ _ _ _ _ _ us hl => match us, hl with | [_], _ => rfl
theorem Txt.fn_L_shown : FunD K "_law_shown" "_law_shown" (defArgs s_L_shown) (defBody s_L_shown) (defScope s_L_shown) [] [] (He.ga K "_law_shown") (fdOf K (He.ga K "_law_shown")) := fd_of T (T.d.def_ 75 rfl)
theorem Txt.k_L_shown : PySem.W.keepIn K (.ref (He.ga K "_law_shown")) = true := (T.fn_L_shown).kp
theorem Txt.b_L_shown : Binds K (fdOf K (He.ga K "_law_shown")) ["_law_desk", "_law_h"] [] := (T.fn_L_shown).bindsN fun _ _ _ _ _ _ us hl => match us, hl with | [_, _], _ => rfl
theorem Txt.fn_law : FunD K "law" "law" (defArgs s_law) (defBody s_law) (defScope s_law) [] [] (He.ga K "law") (fdOf K (He.ga K "law")) := fd_of T (T.d.def_ 76 rfl)
theorem Txt.k_law : PySem.W.keepIn K (.ref (He.ga K "law")) = true := (T.fn_law).kp
theorem Txt.b_law : Binds K (fdOf K (He.ga K "law")) ["_law_script"] [] := (T.fn_law).bindsN fun _ _ _ _ _ _ us hl => match us, hl with | [_], _ => rfl
theorem Txt.fn_Desk_done : FunD K "done" "Desk.done" (defArgs s_Desk_done) (defBody s_Desk_done) (defScope s_Desk_done) [] [] (gAd K "done") (fdOf K (gAd K "done")) ∧ PropOf K (He.ga K "Desk") "done" (He.ma K (He.ga K "Desk") "done") (gAd K "done") := by
  have h := T.ex 11 (f := fun K => propAt K "done") rfl
  have e := T.pd
  have h' : (He.eqO (PySem.W.findIn K (.ref (He.ga K "Desk")) "done") (some (some (.ref (He.ma K (He.ga K "Desk") "done")))) && _) = true := h
  obtain ⟨h1, h⟩ := He.ba h'
  obtain ⟨h2, h⟩ := He.ba h
  obtain ⟨h3, h⟩ := He.ba h
  obtain ⟨h4, h5⟩ := He.ba h
  refine ⟨?_, He.eqO_ok h1, of_decide_eq_true h2, of_decide_eq_true h3, ?_⟩
  · unfold gW at e
    unfold fdOf
    cases q : K.lookup (gAd K "done") with
    | none =>
      rw [q] at h5
      cases h5
    | some o =>
      obtain ⟨oc, od, dt, osl⟩ := o
      rw [q] at h5 e
      cases dt with
      | func fd =>
        obtain ⟨n1, n2, n3, n4, n5, n6, n7, n8, n9, n10, n11, n12, n13, n14, n15⟩ := fd
        have e : (some (n1, n2, n3, n4, n5, n6, n7, n15) : He.FnW) = some (_, _, _, _, _, _, _, _) := e
        simp only [Option.some.injEq, Prod.mk.injEq] at e
        obtain ⟨z1, z2, z3, z4, z5, z6, z7, z8⟩ := e
        subst z1 z2 z3 z4 z5 z6 z7 z8
        obtain ⟨k1, k2⟩ := He.ba h5
        obtain ⟨k2, k3⟩ := He.ba k2
        exact ⟨⟨oc, od, n8, n9, n10, n11, n12, n13, n14, osl, rfl, q, k1, He.dflB_ok k2, .inl rfl⟩, k3⟩
      | _ => cases h5
  · cases q : PySem.W.recIn K (He.ma K (He.ga K "Desk") "done") "property" with
    | none =>
      rw [q] at h4
      cases h4
    | some l =>
      rw [q] at h4
      cases l with
      | nil => cases h4
      | cons v r =>
        cases v with
        | ref a =>
          have ea : a = gAd K "done" := of_decide_eq_true h4
          exact ⟨r, by rw [ea]⟩
        | _ => cases h4
theorem Txt.fn_Desk_broken : FunD K "broken" "Desk.broken" (defArgs s_Desk_broken) (defBody s_Desk_broken) (defScope s_Desk_broken) [] [] (gAd K "broken") (fdOf K (gAd K "broken")) ∧ PropOf K (He.ga K "Desk") "broken" (He.ma K (He.ga K "Desk") "broken") (gAd K "broken") := by
  have h := T.ex 12 (f := fun K => propAt K "broken") rfl
  have e := T.pb
  have h' : (He.eqO (PySem.W.findIn K (.ref (He.ga K "Desk")) "broken") (some (some (.ref (He.ma K (He.ga K "Desk") "broken")))) && _) = true := h
  obtain ⟨h1, h⟩ := He.ba h'
  obtain ⟨h2, h⟩ := He.ba h
  obtain ⟨h3, h⟩ := He.ba h
  obtain ⟨h4, h5⟩ := He.ba h
  refine ⟨?_, He.eqO_ok h1, of_decide_eq_true h2, of_decide_eq_true h3, ?_⟩
  · unfold gW at e
    unfold fdOf
    cases q : K.lookup (gAd K "broken") with
    | none =>
      rw [q] at h5
      cases h5
    | some o =>
      obtain ⟨oc, od, dt, osl⟩ := o
      rw [q] at h5 e
      cases dt with
      | func fd =>
        obtain ⟨n1, n2, n3, n4, n5, n6, n7, n8, n9, n10, n11, n12, n13, n14, n15⟩ := fd
        have e : (some (n1, n2, n3, n4, n5, n6, n7, n15) : He.FnW) = some (_, _, _, _, _, _, _, _) := e
        simp only [Option.some.injEq, Prod.mk.injEq] at e
        obtain ⟨z1, z2, z3, z4, z5, z6, z7, z8⟩ := e
        subst z1 z2 z3 z4 z5 z6 z7 z8
        obtain ⟨k1, k2⟩ := He.ba h5
        obtain ⟨k2, k3⟩ := He.ba k2
        exact ⟨⟨oc, od, n8, n9, n10, n11, n12, n13, n14, osl, rfl, q, k1, He.dflB_ok k2, .inl rfl⟩, k3⟩
      | _ => cases h5
  · cases q : PySem.W.recIn K (He.ma K (He.ga K "Desk") "broken") "property" with
    | none =>
      rw [q] at h4
      cases h4
    | some l =>
      rw [q] at h4
      cases l with
      | nil => cases h4
      | cons v r =>
        cases v with
        | ref a =>
          have ea : a = gAd K "broken" := of_decide_eq_true h4
          exact ⟨r, by rw [ea]⟩
        | _ => cases h4
end
end K10
end
section
set_option Elab.async false
set_option linter.all false
set_option maxRecDepth 100000
set_option maxHeartbeats 4000000
namespace K10
open PySem PySem.Spec PyProof.Rows L2
def Wd.str : Wd → Str
  | .drop => "drop" | .fetch => "fetch" | .fill => "fill" | .look => "look" | .set => "set" | .stop => "stop" | .store => "store" | .take => "take"
  | .waits => "waits" | .ended => "ended" | .stopped => "stopped"
def Gd.str : Gd → Str
  | .always => "always" | .empty => "empty" | .mark => "mark" | .never => "never" | .newer => "newer" | .token => "token"
def Pt.str : Pt → Str
  | .ds => "drop store" | .dsd => "drop store drop" | .s => "store" | .sd => "store drop" | .ss => "store set"
def oV : Option Int → V
  | none => .non
  | some i => .int i
def nV : Option Nat → V
  | none => .non
  | some i => .int (i : Int)
def kindS (w : Bool) : Str := if w then "write" else "read"
def opF (o : Op) (i : Nat) (fl : Addr) : List (Str × V) :=
  [("number", .int (i : Int)), ("kind", .str (kindS o.wr)), ("stage", .str o.stage.str), ("version", oV o.ver), ("begun", .int o.begun), ("ended", oV o.ended),
   ("step", .int (o.step : Int)), ("token", .bl o.token), ("leader", nV o.leader), ("floors", .ref fl), ("is_quiet", .bl o.quiet)]
theorem opF_number (o : Op) (i : Nat) (fl : Addr) : (opF o i fl).lookup ("number" : Str) = some (V.int (i : Int)) := rfl
theorem opF_stage (o : Op) (i : Nat) (fl : Addr) : (opF o i fl).lookup ("stage" : Str) = some (V.str o.stage.str) := rfl
theorem opF_q (o : Op) (i : Nat) (fl : Addr) : (opF o i fl).lookup ("is_quiet" : Str) = some (V.bl o.quiet) := rfl
theorem opF_put_stage (o : Op) (i : Nat) (fl : Addr) (w : Wd) : putF "stage" (.str w.str) (opF o i fl) = opF { o with stage := w } i fl := rfl
theorem opF_put_q (o : Op) (i : Nat) (fl : Addr) (b : Bool) : putF "is_quiet" (.bl b) (opF o i fl) = opF { o with quiet := b } i fl := rfl
theorem opF_no (o : Op) (i : Nat) (fl : Addr) : (opF o i fl).lookup ("is_under_way" : Str) = none := rfl
theorem w_inj : ∀ a b : Wd, decide (V.str a.str = V.str b.str) = decide (a = b) := by
  intro a b; cases a <;> cases b <;> decide +kernel
theorem w_inj2 (a b : Wd) : a.str = b.str ↔ a = b := by
  cases a <;> cases b <;> decide +kernel
end K10
end
section
set_option Elab.async false
set_option linter.all false
set_option maxRecDepth 100000
set_option maxHeartbeats 4000000
namespace K10
open PySem PySem.Spec PyProof.Rows L2
def Fr (D : List Addr) (H H' : Hp) : Prop := ∀ b o, H b = some o → b ∉ D → H' b = some o
theorem Fr.refl (D : List Addr) (H : Hp) : Fr D H H := fun _ _ h _ => h
theorem Fr.trans {D : List Addr} {H H1 H2 : Hp} (a : Fr D H H1) (b : Fr D H1 H2) : Fr D H H2 := fun c o h n => b c o (a c o h n) n
theorem Fr.of {D : List Addr} {H H' : Hp} (e : Same H H') : Fr D H H' := fun b o h _ => e b o h
theorem Fr.mono {D D' : List Addr} {H H' : Hp} (a : Fr D H H') (h : ∀ b ∈ D, b ∈ D') : Fr D' H H' := fun b o e n => a b o e fun z => n (h b z)
theorem Fr.upd {D : List Addr} {H : Hp} {a : Addr} {o : HO} (h : a ∈ D) : Fr D H (upd H a o) := fun b u e n => by
  rw [upd_ne (fun z => n (by rw [z]; exact h))]
  exact e
theorem Same.new {H : Hp} {p : Addr} {o : HO} (h : H p = none) : Same H (upd H p o) := fun a u e => by
  rw [upd_ne (ne_of_none e h)]
  exact e
theorem Same.then_new {H H' : Hp} {p : Addr} {o : HO} (e : Same H H') (h : H p = none) : Same H (upd H' p o) := fun a u ha => by
  rw [upd_ne (ne_of_none ha h)]
  exact e a u ha
theorem iteG {b : Bool} {p : Prop} [Decidable p] {A B : Prop} (e : b = decide p) (h1 : p → A) (h2 : ¬ p → B) : if b = true then A else B := by
  rw [e]
  by_cases h : p
  · rw [decide_eq_true h, if_pos rfl]
    exact h1 h
  · rw [decide_eq_false h, if_neg Bool.false_ne_true]
    exact h2 h
theorem iteB {b : Bool} {A B : Prop} (h1 : b = true → A) (h2 : b = false → B) : if b = true then A else B := by
  cases b with
  | true => rw [if_pos rfl]; exact h1 rfl
  | false => rw [if_neg Bool.false_ne_true]; exact h2 rfl
theorem gd_eq : ∀ a b : Gd, decide (V.str a.str = V.str b.str) = decide (a = b) := by
  intro a b; cases a <;> cases b <;> decide +kernel
theorem kind_w (b : Bool) : decide (V.str (kindS b) = V.str "write") = decide (b = true) := by cases b <;> decide +kernel
theorem kind_r (b : Bool) : decide (V.str (kindS b) = V.str "read") = decide (b = false) := by cases b <;> decide +kernel
def evEnc : Evt → List V
  | .evict => [.str "evict"]
  | .copy => [.str "copy"]
  | .op w n => [.str w.str, .int (n : Int)]
structure Lay where
  p : Addr
  dp : Addr
  ol : Addr
  el : Addr
  st : Addr
  os : List (Addr × Addr × Addr)
  es : List Addr
def Lay.opA (L : Lay) (i : Nat) : Addr := (L.os.getD i default).1
def Lay.own (L : Lay) : List Addr := L.p :: L.ol :: L.el :: L.os.map (·.1)
def lastV (L : Lay) : Option Nat → V
  | none => .non
  | some i => .ref (L.opA i)
def runF (L : Lay) (s : S) : List (Str × V) :=
  [("steps", .ref L.st), ("guard", .str s.cfg.guard.str), ("is_shared", .bl s.cfg.shared), ("has_replica", .bl s.cfg.repl), ("has_evictions", .bl s.cfg.evic), ("has_stops", .bl s.cfg.stops),
   ("database", .int s.db), ("replica", .int s.rep), ("cache", oV s.cache), ("mark", .int s.mark), ("flight", nV s.fl), ("operations", .ref L.ol), ("events_done", .ref L.el),
   ("finished", .int s.fin), ("returned", .int s.ret), ("last", lastV L s.last)]
structure RunAt (K : PySem.W.Frag) (H : Hp) (L : Lay) (s : S) : Prop where
  run : H L.p = some (.ins (He.ga K "Run") L.dp (runF L s))
  ol : H L.ol = some (.lst (L.os.map fun t => V.ref t.1))
  el : H L.el = some (.lst (L.es.map V.ref))
  st : H L.st = some (.tup (s.steps.map fun w => V.str w.str))
  len : L.os.length = s.ops.length
  op : ∀ (i : Nat) (t : Addr × Addr × Addr) (o : Op), L.os[i]? = some t → s.ops[i]? = some o → H t.1 = some (.ins (He.ga K "Operation") t.2.1 (opF o i t.2.2)) ∧ H t.2.2 = some (.tup [.int o.fin, .int o.ret])
  nd : (L.os.map (·.1)).Nodup
  ev : Paired (fun a e => H a = some (.tup (evEnc e))) L.es s.past
  ne : L.ol ≠ L.el
theorem ref_inj {a b : Addr} (h : V.ref a = V.ref b) : a = b := by injection h
section
variable {K : PySem.W.Frag} {H H' : Hp} {L : Lay} {s : S}
theorem RunAt.mono (R : RunAt K H L s) (e : Same H H') : RunAt K H' L s :=
  ⟨e _ _ R.run, e _ _ R.ol, e _ _ R.el, e _ _ R.st, R.len, fun i t o h1 h2 => ⟨e _ _ (R.op i t o h1 h2).1, e _ _ (R.op i t o h1 h2).2⟩, R.nd, Paired.mapP R.ev fun a b h => e _ _ h, R.ne⟩
theorem RunAt.at (R : RunAt K H L s) {i : Nat} {o : Op} (h : s.ops[i]? = some o) : ∃ t, L.os[i]? = some t ∧ H t.1 = some (.ins (He.ga K "Operation") t.2.1 (opF o i t.2.2)) ∧ H t.2.2 = some (.tup [.int o.fin, .int o.ret]) := by
  have hl := (List.getElem?_eq_some_iff.mp h).1
  have hl2 : i < L.os.length := by rw [R.len]; exact hl
  exact ⟨L.os[i], List.getElem?_eq_getElem hl2, R.op i _ o (List.getElem?_eq_getElem hl2) h⟩
theorem opF_ne {o : Op} {i : Nat} {f C d D e : Addr} {L : Lay} {s : S} : HO.ins C d (runF L s) ≠ HO.ins D e (opF o i f) := fun z => by
  injection z with _ _ z
  have z2 := congrArg List.length z
  simp [runF, opF] at z2
theorem RunAt.p_ne (R : RunAt K H L s) {i : Nat} {t : Addr × Addr × Addr} (h : L.os[i]? = some t) : t.1 ≠ L.p := by
  have hl := (List.getElem?_eq_some_iff.mp h).1
  rw [R.len] at hl
  obtain ⟨h1, _⟩ := R.op i t _ h (List.getElem?_eq_getElem hl)
  exact fun z => ne_of R.run h1 opF_ne z.symm
theorem RunAt.own_run (R : RunAt K H L s) : L.p ∈ L.own := List.mem_cons_self ..
theorem own_ol : L.ol ∈ L.own := List.mem_cons_of_mem _ (List.mem_cons_self ..)
theorem own_el : L.el ∈ L.own := List.mem_cons_of_mem _ (List.mem_cons_of_mem _ (List.mem_cons_self ..))
theorem own_op {i : Nat} {t : Addr × Addr × Addr} (h : L.os[i]? = some t) : t.1 ∈ L.own :=
  List.mem_cons_of_mem _ (List.mem_cons_of_mem _ (List.mem_cons_of_mem _ (List.mem_map.mpr ⟨t, List.mem_of_getElem? h, rfl⟩)))
theorem RunAt.setRun (R : RunAt K H L s) {s' : S} (h1 : s'.ops = s.ops) (h2 : s'.past = s.past) (h3 : s'.cfg = s.cfg) : RunAt K (upd H L.p (.ins (He.ga K "Run") L.dp (runF L s'))) L s' := by
  have n1 : ∀ {b : Addr} {o : HO}, H b = some o → (∀ C d fs, o ≠ .ins C d fs) → b ≠ L.p := fun {b o} h d z => by
    rw [z, R.run] at h
    exact d _ _ _ (Option.some.inj h).symm
  have tp : ∀ {b : Addr} {xs : List V}, H b = some (.tup xs) → upd H L.p (.ins (He.ga K "Run") L.dp (runF L s')) b = some (.tup xs) := fun {b xs} h => by
    rw [upd_ne (n1 h (fun _ _ _ z => by cases z))]
    exact h
  have ls : ∀ {b : Addr} {xs : List V}, H b = some (.lst xs) → upd H L.p (.ins (He.ga K "Run") L.dp (runF L s')) b = some (.lst xs) := fun {b xs} h => by
    rw [upd_ne (n1 h (fun _ _ _ z => by cases z))]
    exact h
  refine ⟨upd_same, ls R.ol, ls R.el, ?_, by rw [h1]; exact R.len, fun i t o e1 e2 => ?_, R.nd, by rw [h2]; exact Paired.mapP R.ev fun a b h => tp h, R.ne⟩
  · have e : s'.steps = s.steps := by unfold S.steps; rw [h3]
    rw [e]
    exact tp R.st
  · rw [h1] at e2
    obtain ⟨a1, a2⟩ := R.op i t o e1 e2
    exact ⟨by rw [upd_ne (R.p_ne e1)]; exact a1, tp a2⟩
theorem RunAt.setOp (R : RunAt K H L s) {i : Nat} {t : Addr × Addr × Addr} {o o' : Op} (ht : L.os[i]? = some t) (ho : s.ops[i]? = some o) (hf : o'.fin = o.fin) (hr : o'.ret = o.ret) :
    RunAt K (upd H t.1 (.ins (He.ga K "Operation") t.2.1 (opF o' i t.2.2))) L (s.setOp i o') := by
  obtain ⟨a1, a2⟩ := R.op i t o ht ho
  have n1 : ∀ {b : Addr} {u : HO}, H b = some u → (∀ C d fs, u ≠ .ins C d fs) → b ≠ t.1 := fun {b u} h d z => by
    rw [z, a1] at h
    exact d _ _ _ (Option.some.inj h).symm
  have tp : ∀ {b : Addr} {xs : List V}, H b = some (.tup xs) → upd H t.1 (.ins (He.ga K "Operation") t.2.1 (opF o' i t.2.2)) b = some (.tup xs) := fun {b xs} h => by
    rw [upd_ne (n1 h (fun _ _ _ z => by cases z))]
    exact h
  have ls : ∀ {b : Addr} {xs : List V}, H b = some (.lst xs) → upd H t.1 (.ins (He.ga K "Operation") t.2.1 (opF o' i t.2.2)) b = some (.lst xs) := fun {b xs} h => by
    rw [upd_ne (n1 h (fun _ _ _ z => by cases z))]
    exact h
  refine ⟨by rw [upd_ne (R.p_ne ht).symm]; exact R.run, ls R.ol, ls R.el, tp R.st, ?_, fun j u q e1 e2 => ?_, R.nd, Paired.mapP R.ev fun a b h => tp h, R.ne⟩
  · show L.os.length = (s.ops.set i o').length
    rw [List.length_set]
    exact R.len
  · have e2 : (s.ops.set i o')[j]? = some q := e2
    by_cases hj : j = i
    · subst hj
      rw [ht] at e1
      cases e1
      rw [List.getElem?_set_self (List.getElem?_eq_some_iff.mp ho).1] at e2
      cases e2
      exact ⟨upd_same, tp (by rw [hf, hr]; exact a2)⟩
    · rw [List.getElem?_set_ne (fun z => hj z.symm)] at e2
      obtain ⟨b1, b2⟩ := R.op j u q e1 e2
      have ne : u.1 ≠ t.1 := fun z => by
        have k1 : (L.os.map (·.1))[j]? = some u.1 := by rw [List.getElem?_map, e1] <;> rfl
        have k2 : (L.os.map (·.1))[i]? = some u.1 := by rw [List.getElem?_map, ht, z] <;> rfl
        exact hj (nd_ix R.nd k1 k2)
      exact ⟨by rw [upd_ne ne]; exact b1, tp b2⟩
end
section
variable {h0 : Heap} {K : PySem.W.Frag} {mg : Str → Option Value} {H : Hp} {L : Lay} {s : S}
theorem runSet (T : Txt h0 K mg) (R : RunAt K H L s) (s' : S) {f : Str} {y : V} {N : Hp → Prop} (hn : NoAttr K (He.ga K "Run") f) (hf : putF f y (runF L s) = runF L s') (k : ∀ H', RunAt K H' L s' → Fr L.own H H' → N H')
    (h1 : s'.ops = s.ops := by rfl) (h2 : s'.past = s.past := by rfl) (h3 : s'.cfg = s.cfg := by rfl) :
    ∃ a C dx fs, V.ref L.p = .ref a ∧ H a = some (.ins C dx fs) ∧ Cls K C ∧ NoAttr K C f ∧ fs.length < 1000 ∧ N (upd H a (.ins C dx (putF f y fs))) := by
  refine ⟨L.p, _, _, _, rfl, R.run, T.cl_Run, hn, (by show 16 < 1000; decide), ?_⟩
  rw [hf]
  exact k _ (R.setRun h1 h2 h3) (Fr.upd R.own_run)
theorem opSet (T : Txt h0 K mg) (R : RunAt K H L s) {i : Nat} {t : Addr × Addr × Addr} {o : Op} (ht : L.os[i]? = some t) (ho : s.ops[i]? = some o) (o' : Op) {f : Str} {y : V} {N : Hp → Prop} (hn : NoAttr K (He.ga K "Operation") f)
    (hf : putF f y (opF o i t.2.2) = opF o' i t.2.2) (k : ∀ H', RunAt K H' L (s.setOp i o') → Fr L.own H H' → N H') (h1 : o'.fin = o.fin := by rfl) (h2 : o'.ret = o.ret := by rfl) :
    ∃ a C dx fs, V.ref t.1 = .ref a ∧ H a = some (.ins C dx fs) ∧ Cls K C ∧ NoAttr K C f ∧ fs.length < 1000 ∧ N (upd H a (.ins C dx (putF f y fs))) := by
  refine ⟨t.1, _, _, _, rfl, (R.op i t o ht ho).1, T.cl_Operation, hn, (by show 11 < 1000; decide), ?_⟩
  rw [hf]
  exact k _ (R.setOp ht ho h1 h2) (Fr.upd (own_op ht))
end
section
variable {X : Cx}
theorem pe_gint {x : Str} {i : Int} {pos : Pos} (hm : ∃ t, X.mg x = some (.int i t)) (hg : Gl X x := by rfl) (hd : (x == ("__debug__" : Str)) = false := by decide) : PE X (.Name x pos) (tC (.int i)) := by
  obtain ⟨t, hm⟩ := hm
  exact pe_glob hg hm ⟨t, rfl⟩ hd
theorem pe_gstr {x z : Str} {pos : Pos} (hm : ∃ t, X.mg x = some (.str z t)) (hg : Gl X x := by rfl) (hd : (x == ("__debug__" : Str)) = false := by decide) : PE X (.Name x pos) (tC (.str z)) := by
  obtain ⟨t, hm⟩ := hm
  exact pe_glob hg hm ⟨t, rfl⟩ hd
def gFld (K : PySem.W.Frag) (to : TE) (f : Str) : TG := fun y σ H Q => to σ H fun x H2 => ∃ a C dx fs, x = .ref a ∧ H2 a = some (.ins C dx fs) ∧ Cls K C ∧ NoAttr K C f ∧ fs.length < 1000 ∧ Q σ (upd H2 a (.ins C dx (putF f y fs)))
end
end K10
end
section
set_option Elab.async false
set_option linter.all false
set_option maxRecDepth 100000
set_option maxHeartbeats 4000000
namespace K10
open PySem PySem.Spec PyProof.Rows L2
section
variable {X : Cx}
theorem pg_fld {o : Expr} {f : Str} {pos : Pos} {to : TE} (ho : PE X o to) : PG X (.Attribute o f pos) (gFld X.K to f) := by
  refine ⟨fun pins s σ H v u Q I r h => ?_⟩
  show wpAny _ _ (do
    let ov ← holding [u] (eval o X.env)
    standAt pos.atName
    holding [u, ov] (setAttr ov f u)
    release [u, ov] []) _ _ s
  refine wpAny_bind (wpAny_holding (thn (ho.run pins s σ H _ I h) fun ov s1 ⟨x, H1, I1, r1, q1⟩ => ?_))
  obtain ⟨a, C, dx, fs, ex, ea, c, n, l, q2⟩ := q1
  subst ex
  obtain rfl : ov = Value.ref a := r1
  refine wpAny_bind (wpAny_standAt (wpAny_bind (wpAny_holding (setattr_ok I1 ea c n l r fun s3 I3 => ?_))))
  exact wpAny_release ⟨σ, _, I3, q2⟩
end
end K10
end
section
set_option Elab.async false
set_option linter.all false
set_option maxRecDepth 100000
set_option maxHeartbeats 4000000
namespace K10
open PySem PySem.Spec PyProof.Rows L2 Evl
def rTupS (K : PySem.W.Frag) : List V → Hp → VK → Prop := fun xs H Q => ∃ p ys, xs = [.ref p] ∧ ((SqL K H p ys ∧ ∀ l, H l = none → Q (.ref l) (upd H l (.tup ys))) ∨ (SqT K H p ys ∧ Q (.ref p) H))
def rMin2 : List V → Hp → VK → Prop := fun xs H Q => ∃ i j, xs = [.int i, .int j] ∧ Q (.int (if j < i then j else i)) H
def rInt1 : List V → Hp → VK → Prop := fun xs H Q => (∃ i, xs = [.int i] ∧ Q (.int i) H) ∨ ∃ k, xs = [.bl k] ∧ Q (.int (if k then 1 else 0)) H
def rStrI : List V → Hp → VK → Prop := fun xs H Q => ∃ i, xs = [.int i] ∧ i.natAbs.log2 < 1920 ∧ Q (.str (toString i)) H
section
variable {X : Cx}
theorem call_lenS : CallR X (.builtin "len") (rLenS X.K) := call_len_seq
theorem call_listS : CallR X (.type "list") (rListS X.K) := call_list_of
theorem call_tupS : CallR X (.type "tuple") (rTupS X.K) := call_tuple_of
theorem call_max2S (hc : X.calm = true) : CallR X (.builtin "max") rMax2 := call_max2 hc
theorem call_min2S (hc : X.calm = true) : CallR X (.builtin "min") rMin2 := call_min2 hc
theorem call_int1S : CallR X (.type "int") rInt1 := call_int1
theorem call_strI : CallR X (.type "str") rStrI := call_str_int
end
section
variable {K : PySem.W.Frag} {σ : L2.St} {H H' : Hp} {ta tb te tx : TE} {t u : TT} {x y z v : V} {r : R2} {a C dx : Addr} {fs : List (Str × V)} {f m : Str} {sp : Sp} {E : XK}
theorem ev_fld (h : Ev te σ H (.ref a)) (ho : H a = some (.ins C dx fs)) (hc : Cls K C) (hn : NoAttr K C f) (hl : fs.lookup f = some v) : Ev (tFld K te f) σ H v :=
  fun H1 e Q q => h H1 e _ fun H2 e2 => ⟨a, C, dx, fs, v, rfl, (e.trans e2) a _ ho, hc, hn, hl, q H2 e2⟩
theorem ev_meth0 {C : Addr} (h : Ev ta σ H (.ref a)) (ho : H a = some (.ins C dx fs)) (hl : fs.lookup m = none) (hs : SpV sp [.ref a] H z) : Ev (tMeth C m sp [] E ta tNil) σ H z :=
  fun H1 e Q q => h H1 e _ fun H2 e2 => ⟨a, dx, fs, rfl, (e.trans e2) a _ ho, hl, hs H2 (e.trans e2) Q (fun H3 e3 => q H3 (e2.trans e3)) E⟩
theorem el_meth0 {C : Addr} {xs : List V} (h : Ev ta σ H (.ref a)) (ho : H a = some (.ins C dx fs)) (hl : fs.lookup m = none) (hs : SpL sp [.ref a] H xs) : EvL (tMeth C m sp [] E ta tNil) σ H xs :=
  fun H1 e Q q => h H1 e _ fun H2 e2 => ⟨a, dx, fs, rfl, (e.trans e2) a _ ho, hl, hs H2 (e.trans e2) Q (fun p H3 hp e3 h3 => q p H3 (fresh_back e2 hp) (e2.trans e3) h3) E⟩
theorem ev_meth {C : Addr} {tr : TA} {vs : List V} (h : Ev ta σ H (.ref a)) (ho : H a = some (.ins C dx fs)) (hl : fs.lookup m = none) (ha : EvA tr σ H vs) (hs : SpV sp (.ref a :: (vs ++ [])) H z) : Ev (tMeth C m sp [] E ta tr) σ H z :=
  fun H1 e Q q => h H1 e _ fun H2 e2 => ⟨a, dx, fs, rfl, (e.trans e2) a _ ho, hl, ha H2 (e.trans e2) _ fun H3 e3 => hs H3 ((e.trans e2).trans e3) Q (fun H4 e4 => q H4 ((e2.trans e3).trans e4)) E⟩
theorem ev_isN (h : Ev ta σ H x) : Ev (tIsN ta) σ H (.bl (decide (x = .non))) := fun H1 e Q q => h H1 e _ q
theorem ev_notN (h : Ev ta σ H x) : Ev (tNotN ta) σ H (.bl (!decide (x = .non))) := fun H1 e Q q => h H1 e _ q
theorem et_yes : EvT tYes σ H true := fun H1 _ _ q => q H1 (Ex.refl H1)
theorem ev_anyN {bs : List Bool} (h : EvL te σ H (bs.map V.bl)) : Ev (tCB (rAny K) (tCons te tNil)) σ H (.bl (bs.any id)) :=
  fun H1 e Q q => h H1 e _ fun p H2 _ e2 h2 => ⟨p, bs, rfl, sq_of h2, q H2 e2⟩
theorem ev_allN {bs : List Bool} (h : EvL te σ H (bs.map V.bl)) : Ev (tCB (rAll K) (tCons te tNil)) σ H (.bl (bs.all id)) :=
  fun H1 e Q q => h H1 e _ fun p H2 _ e2 h2 => ⟨p, bs, rfl, sq_of h2, q H2 e2⟩
theorem ev_min2 {i j : Int} (ha : Ev ta σ H (.int i)) (hb : Ev tb σ H (.int j)) : Ev (tCB rMin2 (tCons ta (tCons tb tNil))) σ H (.int (mn i j)) := fun H1 e Q q =>
  ha H1 e _ fun H2 e2 => hb H2 (e.trans e2) _ fun H3 e3 => ⟨i, j, rfl, q H3 (e2.trans e3)⟩
theorem ev_max2' {i j : Int} (ha : Ev ta σ H (.int i)) (hb : Ev tb σ H (.int j)) : Ev (tCB rMax2 (tCons ta (tCons tb tNil))) σ H (.int (mx i j)) := ev_max2 ha hb
theorem ev_lenT {p : Addr} {xs : List V} (ha : Ev ta σ H (.ref p)) (h : SqT K H p xs) : Ev (tCB (rLenS K) (tCons ta tNil)) σ H (.int (xs.length : Int)) := fun H1 e Q q =>
  ha H1 e _ fun H2 e2 => ⟨p, xs, rfl, Or.inr (ex_t (e.trans e2) h), q H2 e2⟩
theorem given_all {n : Nat} {v : Nat → V} : given n (fun _ => true) v = (List.range n).map v := by
  unfold given
  rw [List.filter_eq_self.mpr (fun _ _ => rfl)]
theorem SpV.of {sp : Sp} {vs : List V} (h : ∀ H1, Ex H H1 → ∀ Q : VK, (∀ H2, Ex H1 H2 → Q z H2) → ∀ E, sp vs H1 Q E) : SpV sp vs H z := h
theorem EvL.mono' {xs : List V} (e : Ex H H') (h : EvL te σ H xs) : EvL te σ H' xs := fun H1 a Q q => h H1 (e.trans a) Q q
end
section
variable {h0 : Heap} {K : PySem.W.Frag} {mg : Str → Option Value} {H : Hp} {L : Lay} {s : S} {σ : L2.St} {te : TE} {f : Str} {v : V} {i : Nat} {t : Addr × Addr × Addr} {o : Op}
theorem ev_runF (T : Txt h0 K mg) (R : RunAt K H L s) (hn : NoAttr K (He.ga K "Run") f) (h : Ev te σ H (.ref L.p)) (hl : (runF L s).lookup f = some v := by rfl) : Ev (tFld K te f) σ H v := ev_fld h R.run T.cl_Run hn hl
theorem ev_opF (T : Txt h0 K mg) (R : RunAt K H L s) (ht : L.os[i]? = some t) (ho : s.ops[i]? = some o) (hn : NoAttr K (He.ga K "Operation") f) (h : Ev te σ H (.ref t.1)) (hl : (opF o i t.2.2).lookup f = some v := by rfl) : Ev (tFld K te f) σ H v :=
  ev_fld h (R.op i t o ht ho).1 T.cl_Operation hn hl
theorem opA_of (ht : L.os[i]? = some t) : L.opA i = t.1 := by
  unfold Lay.opA
  rw [List.getD_eq_getElem?_getD, ht] <;> rfl
theorem at_of (ho : s.ops[i]? = some o) : s.at i = o := by
  unfold S.at
  rw [List.getD_eq_getElem?_getD, ho] <;> rfl
theorem RunAt.os_at (R : RunAt K H L s) (h : i < s.ops.length) : ∃ t, L.os[i]? = some t ∧ L.opA i = t.1 := by
  have hl : i < L.os.length := by rw [R.len]; exact h
  exact ⟨L.os[i], List.getElem?_eq_getElem hl, opA_of (List.getElem?_eq_getElem hl)⟩
theorem RunAt.ol_at (R : RunAt K H L s) {x : V} (h : (L.os.map fun t => V.ref t.1)[i]? = some x) : ∃ t, L.os[i]? = some t ∧ x = .ref t.1 ∧ s.ops[i]? = some (s.at i) := by
  rw [List.getElem?_map] at h
  cases e : L.os[i]? with
  | none =>
    rw [e] at h
    cases h
  | some t =>
    rw [e] at h
    have hl := (List.getElem?_eq_some_iff.mp e).1
    rw [R.len] at hl
    exact ⟨t, rfl, (Option.some.inj h).symm, ops_at hl⟩
theorem RunAt.ol_len (R : RunAt K H L s) : (L.os.map fun t => V.ref t.1).length = s.ops.length := by rw [List.length_map, R.len]
end
theorem going_in : ∀ w : Wd, (!inV (V.str w.str) [V.str "ended", V.str "stopped"]) = !(decide (w = .ended) || decide (w = .stopped)) := by
  intro w; cases w <;> decide +kernel
end K10
end
section
set_option Elab.async false
set_option linter.all false
set_option maxRecDepth 100000
set_option maxHeartbeats 4000000
namespace K10
open PySem PySem.Spec PyProof.Rows L2 Evl
section
variable {X : Cx} (K : PySem.W.Frag)
theorem pe_gref {x : Str} {a : Addr} {pos : Pos} (hm : X.mg x = some (.ref a)) (hg : Gl X x := by rfl) (hd : (x == ("__debug__" : Str)) = false := by decide) : PE X (.Name x pos) (tC (.ref a)) := pe_glob hg hm rfl hd
theorem pe_fldK {e : Expr} {f : Str} {pos : Pos} {ta : TE} (he : PE X e ta) (hb : attributeBase e f X.env (eval e X.env) = eval e X.env := by rfl) (hK : X.K = K := by rfl) : PE X (.Attribute e f pos) (tFld K ta f) := by
  subst hK
  exact pe_fld he hb
theorem ps_fldK {o value : Expr} {f : Str} {pos pos' : Pos} {ta tv : TE} (ha : PE X o ta) (hv : PE X value tv) (hs : swapsWith value (some (.Attribute o f pos')) pos.line X.env = pure false := by rfl) (hK : X.K = K := by rfl) : PS X (.Assign [.Attribute o f pos'] value pos) (sFld K ta tv f) := by
  subst hK
  exact ps_fld ha hv hs
theorem ps_fldaugK {o value : Expr} {f : Str} {pos tpos : Pos} {ta tv : TE} {op : Operator} {rd : V → V → Hp → VK → Prop} (ha : PE X o ta) (hv : PE X value tv) (hop : InOp X op rd) (hK : X.K = K := by rfl) : PS X (.AugAssign (.Attribute o f tpos) op value pos) (sFldAug K ta tv rd f) := by
  subst hK
  exact ps_fldaug ha hv hop
theorem pg_fldK {o : Expr} {f : Str} {pos : Pos} {to : TE} (ho : PE X o to) (hK : X.K = K := by rfl) : PG X (.Attribute o f pos) (gFld K to f) := by
  subst hK
  exact pg_fld ho
theorem pg_tupK {es : List Expr} {k : Nat} {t : TGs} {n : Nat} {pos : Pos} (h : PGs X es t) (hn : (assignEach es X.env).length = n := by rfl) (hst : (assignEach es X.env).findIdx? (·.1) = none := by rfl) (hc : X.calm = true := by rfl) (hK : X.K = K := by rfl) : PG X (.Tuple es k pos) (gTup K n t) := by
  subst hK
  exact pg_tup hc h hn hst
theorem op_inK (hK : X.K = K := by rfl) : OpR X (compareOp .In) (rIn K false) := by
  subst hK
  exact op_in_seq
theorem op_notInK (hK : X.K = K := by rfl) : OpR X (compareOp .NotIn) (rIn K true) := by
  subst hK
  exact op_notIn_seq
theorem op_inDK (hu : X.A.units + 65 < cLine) (hK : X.K = K := by rfl) : OpR X (compareOp .In) (rInD K) := by
  subst hK
  exact op_inD hu
theorem op_notInDK (hu : X.A.units + 65 < cLine) (hK : X.K = K := by rfl) : OpR X (compareOp .NotIn) (rNotInD K) := by
  subst hK
  exact op_notInD hu
theorem op_eqDK (hu : X.A.units + 64 < cLine) (hK : X.K = K := by rfl) : OpR X (compareOp .Eq) (rEqD K) := by
  subst hK
  exact op_eqD hu
theorem op_neDK (hu : X.A.units + 64 < cLine) (hK : X.K = K := by rfl) : OpR X (compareOp .NotEq) (rNeD K) := by
  subst hK
  exact op_neD hu
theorem ix_listK (hK : X.K = K := by rfl) : IxR X (rIxL K) := by
  subst hK
  exact ix_list
theorem ix_tupK (hK : X.K = K := by rfl) : IxR X (rIxT K) := by
  subst hK
  exact ix_tup
theorem sl_listK (hK : X.K = K := by rfl) : SlR X (rSlL K) := by
  subst hK
  exact sl_list
theorem sl_tupK (hK : X.K = K := by rfl) : SlR X (rSlT K) := by
  subst hK
  exact sl_tup
theorem pi_listK {tg l : Expr} {tl : TE} (hl : PE X l tl) (hK : X.K = K := by rfl) : PI X tg l (iList K tl) := by
  subst hK
  exact pi_list hl
theorem pi_tupK {tg l : Expr} {tl : TE} (hl : PE X l tl) (hK : X.K = K := by rfl) : PI X tg l (iTup K tl) := by
  subst hK
  exact pi_tup hl
theorem call_lenK (hK : X.K = K := by rfl) : CallR X (.builtin "len") (rLenS K) := by
  subst hK
  exact call_lenS
theorem call_listK (hK : X.K = K := by rfl) : CallR X (.type "list") (rListS K) := by
  subst hK
  exact call_listS
theorem call_tupK (hK : X.K = K := by rfl) : CallR X (.type "tuple") (rTupS K) := by
  subst hK
  exact call_tupS
theorem call_isiK' (hK : X.K = K := by rfl) : CallR X (.builtin "isinstance") (rIsi K) := by
  subst hK
  exact call_isi
theorem call_isiTK (hK : X.K = K := by rfl) : CallR X (.builtin "isinstance") (rIsiT K) := by
  subst hK
  exact call_isiT
theorem cr_anyK (hc : X.calm = true := by rfl) (hK : X.K = K := by rfl) : CallR X (.builtin "any") (rAny K) := by
  subst hK
  exact cr_any hc
theorem cr_allK (hc : X.calm = true := by rfl) (hK : X.K = K := by rfl) : CallR X (.builtin "all") (rAll K) := by
  subst hK
  exact cr_all hc
theorem cr_maxK (hc : X.calm = true := by rfl) (hK : X.K = K := by rfl) : CallR X (.builtin "max") (rMax K) := by
  subst hK
  exact cr_max hc
def rDictP (K : PySem.W.Frag) : List V → Hp → VK → Prop := fun xs H Q => ∃ (a : Addr) (ps : List Addr) (kvs : List (Key × V)), xs = [.ref a] ∧ SqL K H a (ps.map V.ref) ∧ Paired (fun p kv => SqT K H p [kV kv.1, kv.2]) ps kvs ∧
    ∀ p, H p = none → Q (.ref p) (upd H p (.dK (mergeK [] kvs)))
theorem call_dictK (hc : X.calm = true := by rfl) (hK : X.K = K := by rfl) : CallR X (.type "dict") (rDictP K) := by
  subst hK
  exact call_dictP hc
theorem pe_appK {o e : Expr} {apos cpos : Pos} {to te : TE} (ho : PE X o to) (he : PE X e te) (hbase : attributeBase o "append" X.env (eval o X.env) = eval o X.env := by rfl)
    (hfew : ((backTo cpos (starEach [e] X.env)).all (fun x => !x.1) && (backToKw cpos (keywordEach [] X.env)).all (fun x => x.1.isSome)
      && decide (([e] : List Expr).length + ([] : List Keyword).length + (if ([] : List Keyword).isEmpty then 0 else 1) < 30)) = true := by rfl)
    (hline : (apos.endLine == cpos.line) = true := by rfl) (hs : starEach [e] X.env = (false, eval e X.env) :: starEach [] X.env := by rfl) (hplain : (backTo cpos (starEach [] X.env)).any (·.1) = false := by rfl) (hK : X.K = K := by rfl) :
    PE X (.Call (.Attribute o "append" apos) [e] [] cpos) (tBM K "list" rAppend to (tCons te tNil)) := by
  subst hK
  exact pe_bm PySem.F.plainAttrs_list PySem.F.slot_list_append PySem.F.type_list_append mt_append ho (pa_cons he pa_nil hs) hbase hfew hline hs hplain
def rJoin (K : PySem.W.Frag) : V → List V → Hp → VK → Prop := fun x xs H Q => ∃ a p, ∃ ys : List Str, x = .str a ∧ xs = [.ref p] ∧ (SqL K H p (ys.map V.str) ∨ SqT K H p (ys.map V.str)) ∧ (ys.map (·.length)).sum + ys.length * a.length ≤ 16777216 ∧ Q (.str (Txt.join a ys)) H
theorem pe_joinK {o e : Expr} {apos pos : Pos} {to te : TE} (ho : PE X o to) (he : PE X e te) (hs : starEach [e] X.env = [(false, eval e X.env)] := by rfl) (hbase : attributeBase o "join" X.env (eval o X.env) = eval o X.env := by rfl) (hline : (apos.endLine == pos.line) = true := by rfl) (hK : X.K = K := by rfl) :
    PE X (.Call (.Attribute o "join" apos) [e] [] pos) (tM1 (rJoin K) to te) := by
  subst hK
  exact pe_join ho he hs hbase hline
end
end K10
end
section
set_option Elab.async false
set_option linter.all false
set_option maxRecDepth 100000
set_option maxHeartbeats 4000000
namespace K10
open PySem PySem.Spec PyProof.Rows L2 Evl
def rEqN (K : PySem.W.Frag) : R2 := fun x y H Q => ∃ a b xs, x = .ref a ∧ y = .ref b ∧ SqL K H a xs ∧ SqL K H b [] ∧ Q (.bl xs.isEmpty) H
def rNeN (K : PySem.W.Frag) : R2 := fun x y H Q => ∃ a b xs, x = .ref a ∧ y = .ref b ∧ SqL K H a xs ∧ SqL K H b [] ∧ Q (.bl (!xs.isEmpty)) H
section
variable {X : Cx} (K : PySem.W.Frag)
theorem op_eqN (hu : X.A.units < cLine) (hK : X.K = K := by rfl) : OpR X (compareOp .Eq) (rEqN K) := by
  subst hK
  intro pins s σ H x y u v Q I rx ry h
  obtain ⟨a, b, xs, rfl, rfl, hx, hy, q⟩ := h
  obtain rfl : u = Value.ref a := rx
  obtain rfl : v = Value.ref b := ry
  obtain ⟨its, rv, hl, hz⟩ := I.list hx
  obtain ⟨its2, rv2, hl2, hz2⟩ := I.list hy
  cases rv2
  cases rv with
  | nil => exact SeqAt.eq_listAt (e := fun _ => true) hl.isList hl2.isList rfl hu (fun j h1 => absurd h1 (by simp)) ⟨.bl true, H, I, rfl, q⟩
  | cons r t => exact SeqAt.eq_list_lengthsAt hl.isList hl2.isList (by simp) hu ⟨.bl false, H, I, rfl, q⟩
theorem op_neN (hu : X.A.units < cLine) (hK : X.K = K := by rfl) : OpR X (compareOp .NotEq) (rNeN K) := by
  subst hK
  intro pins s σ H x y u v Q I rx ry h
  obtain ⟨a, b, xs, rfl, rfl, hx, hy, q⟩ := h
  obtain rfl : u = Value.ref a := rx
  obtain rfl : v = Value.ref b := ry
  obtain ⟨its, rv, hl, hz⟩ := I.list hx
  obtain ⟨its2, rv2, hl2, hz2⟩ := I.list hy
  cases rv2
  cases rv with
  | nil => exact SeqAt.RcNeAt.lists (e := fun _ => true) hl.isList hl2.isList rfl hu (fun j h1 => absurd h1 (by simp)) _ _ _ _ ⟨.bl false, H, I, rfl, q⟩
  | cons r t => exact SeqAt.RcNeAt.lists_lengths hl.isList hl2.isList (by simp) hu _ _ _ _ ⟨.bl true, H, I, rfl, q⟩
end
end K10
end
section
set_option Elab.async false
set_option linter.all false
set_option maxRecDepth 100000
set_option maxHeartbeats 4000000
namespace K10
open PySem PySem.Spec PyProof.Rows L2 Evl
section
variable {K : PySem.W.Frag} {σ : L2.St} {H : Hp} {te ta : TE} {t : TT} {g : TG} {vs : List Nat} {wi : TI} {J : It} {n : Nat}
theorem cw_turn' {H H' : Hp} {f : Nat → Bool} {v : Nat → V} {Dl : Addr} {i : Nat} {σ2 : L2.St} (p : Cw H f v Dl i H') (hi : i < 50000) (ht : EvT t σ2 H' (f i)) (he : f i = true → Ev te σ2 H' (v i)) :
    t σ2 H' fun b H3 => if b = true then te σ2 H3 fun y H4 => ∃ acc, H4 Dl = some (.lst acc) ∧ acc.length < sizeLine ∧ Cw H f v Dl (i + 1) (upd H4 Dl (.lst (acc ++ [y]))) else Cw H f v Dl (i + 1) H3 := by
  obtain ⟨p1, p2, p3⟩ := p
  refine ht H' (Ex.refl _) _ fun H3 e3 => ?_
  cases hf : f i with
  | true =>
    show te σ2 H3 fun y H4 => ∃ acc, H4 Dl = some (.lst acc) ∧ acc.length < sizeLine ∧ Cw H f v Dl (i + 1) (upd H4 Dl (.lst (acc ++ [y])))
    refine he hf H3 e3 _ fun H4 e4 => ⟨given i f v, e4 Dl _ (e3 Dl _ p3), sz_lt (by have := given_len i f v; omega), p1, Ex.mut ((p2.trans e3).trans e4) p1, ?_⟩
    rw [given_yes hf]
    exact upd_same
  | false =>
    show Cw H f v Dl (i + 1) H3
    refine ⟨p1, p2.trans e3, ?_⟩
    rw [given_no hf]
    exact e3 Dl _ p3
theorem el_lcG (f : Nat → Bool) (v : Nat → V) (hw : ∀ H1, Ex H H1 → ∀ R : It → Hp → Prop, (∀ H2, Ex H1 H2 → R J H2) → wi σ H1 R) (hn : n ≤ 40000) (hgo : ∀ i H1, Ex H H1 → i < n → J.go i H1) (hst : ∀ H1, Ex H H1 → J.stop n H1)
    (hy : ∀ i H1 x H2, Ex H H1 → i < n → J.yld i H1 x H2 → Ex H1 H2 ∧ ∀ N : L2.St → Hp → Prop, (∀ σ2, wipe σ2 vs = wipe σ vs → EvT t σ2 H2 (f i) → (f i = true → Ev te σ2 H2 (v i)) → N σ2 H2) → g x (wipe σ vs) H2 N) :
    EvL (tLc wi g t te vs) σ H (given n f v) := fun H0 e Q q => hw H0 e _ fun H1 e1 => fun Dl hD => by
  refine ⟨fun i m H' => m = n - i ∧ i ≤ n ∧ Cw H1 f v Dl i H', ⟨n, by simp, Nat.zero_le _, hD, Ex.new hD, upd_same⟩, ?_⟩
  rintro i m H' ⟨rfl, hi, p⟩
  have e3 := (e.trans e1).trans p.2.1
  by_cases hlt : i < n
  · refine .inr ⟨hgo i H' e3 hlt, Cw H1 f v Dl (i + 1), fun H2 p' => ⟨n - (i + 1), by omega, rfl, hlt, p'⟩, fun x H2 y => ?_⟩
    obtain ⟨e4, k⟩ := hy i H' x H2 e3 hlt y
    exact k _ fun σ2 hσ ht he => ⟨hσ, cw_turn' ⟨p.1, p.2.1.trans e4, e4 _ _ p.2.2⟩ (by omega) ht he⟩
  · have e5 : i = n := by omega
    subst e5
    exact .inl ⟨hst H' e3, q Dl H' (fresh_back e1 p.1) (e1.trans p.2.1) p.2.2⟩
theorem el_lcT {a : Addr} {xs : List V} {j : Nat} (f : Nat → Bool) (v : Nat → V) (h : Ev ta σ H (.ref a)) (hx : SqT K H a xs) (hz : xs.length ≤ 40000) (hw : ∀ x, wipe ((wipe σ vs).set j (some x)) vs = wipe σ vs)
    (ht : ∀ (i : Nat) (x : V) H1, Ex H H1 → xs[i]? = some x → EvT t ((wipe σ vs).set j (some x)) H1 (f i)) (he : ∀ (i : Nat) (x : V) H1, Ex H H1 → xs[i]? = some x → f i = true → Ev te ((wipe σ vs).set j (some x)) H1 (v i)) :
    EvL (tLc (iTup K ta) (gName j) t te vs) σ H (given xs.length f v) :=
  el_lcG (J := Itt K a) f v (fun H1 e R r => h H1 e _ fun H2 e2 => ⟨a, rfl, ⟨xs, ex_t (e.trans e2) hx⟩, r H2 e2⟩) hz (fun i H1 e hi => ⟨xs, xs[i], ex_t e hx, by simp [hi]⟩) (fun H1 e => ⟨xs, ex_t e hx, Nat.le_refl _⟩)
    (fun i H1 x H2 e hi y => by
      obtain ⟨rfl, y⟩ := y
      have hxi := y xs (ex_t e hx)
      exact ⟨Ex.refl _, fun N k => k _ (hw x) (ht i x _ e hxi) fun hf => he i x _ e hxi hf⟩)
theorem el_lcS {z : Str} {j : Nat} (f : Nat → Bool) (v : Nat → V) (h : Ev ta σ H (.str z)) (hz : z.cps.size ≤ 40000) (hw : ∀ x, wipe ((wipe σ vs).set j (some x)) vs = wipe σ vs)
    (ht : ∀ (i : Nat) (c : Nat) H1, Ex H H1 → z.cps[i]? = some c → EvT t ((wipe σ vs).set j (some (.str ⟨#[c]⟩))) H1 (f i)) (he : ∀ (i : Nat) (c : Nat) H1, Ex H H1 → z.cps[i]? = some c → f i = true → Ev te ((wipe σ vs).set j (some (.str ⟨#[c]⟩))) H1 (v i)) :
    EvL (tLc (iStr ta) (gName j) t te vs) σ H (given z.cps.size f v) :=
  el_lcG (J := Its z) f v (fun H1 e R r => h H1 e _ fun H2 e2 => ⟨z, rfl, r H2 e2⟩) hz (fun i H1 e hi => hi) (fun H1 e => Nat.le_refl _)
    (fun i H1 x H2 e hi y => by
      obtain ⟨rfl, c, hc, rfl⟩ := y
      exact ⟨Ex.refl _, fun N k => k _ (hw _) (ht i c _ e hc) fun hf => he i c _ e hc hf⟩)
theorem wipe_zip {i j : Nat} (h : ∀ x y, wipe (((wipe σ vs).set i (some x)).set j (some y)) vs = wipe σ vs) (x y : V) : wipe (((wipe σ vs).set i (some x)).set j (some y)) vs = wipe σ vs := h x y
theorem el_lcZ {a b : Addr} {xs ys : List V} {i0 j0 : Nat} {tr : TA} (f : Nat → Bool) (v : Nat → V) (h : EvA tr σ H [.ref a, .ref b]) (hx : SqT K H a xs) (hyy : SqT K H b ys) (hl : xs.length = ys.length) (hz : xs.length ≤ 40000) (hw : ∀ x y, wipe (((wipe σ vs).set i0 (some x)).set j0 (some y)) vs = wipe σ vs)
    (ht : ∀ (i : Nat) (x y : V) H1, Ex H H1 → xs[i]? = some x → ys[i]? = some y → EvT t (((wipe σ vs).set i0 (some x)).set j0 (some y)) H1 (f i)) (he : ∀ (i : Nat) (x y : V) H1, Ex H H1 → xs[i]? = some x → ys[i]? = some y → f i = true → Ev te (((wipe σ vs).set i0 (some x)).set j0 (some y)) H1 (v i)) :
    EvL (tLc (RZ.iZipA K tr) (gTup K 2 (gCons (gName i0) (gCons (gName j0) gNil))) t te vs) σ H (given xs.length f v) :=
  el_lcG (J := RZ.ItzT K a b) f v (fun H1 e R r => h H1 e _ fun H2 e2 => ⟨a, b, xs, ys, rfl, .inr ⟨ex_t (e.trans e2) hx, ex_t (e.trans e2) hyy, r H2 e2⟩⟩) hz (fun i H1 e hi => ⟨xs, ys, xs[i], ys[i], ex_t e hx, ex_t e hyy, by simp [hi], by simp [show i < ys.length by omega]⟩) (fun H1 e => ⟨xs, ys, ex_t e hx, ex_t e hyy, .inl (Nat.le_refl _)⟩)
    (fun i H1 x H2 e hi y => by
      obtain ⟨T, u, w, rfl, hT, rfl, y1, y2⟩ := y
      have h1 := y1 xs (ex_t e hx)
      have h2 := y2 ys (ex_t e hyy)
      refine ⟨Ex.new hT, fun N k => ⟨T, _, rfl, st_of upd_same, rfl, u, [w], rfl, w, [], rfl, rfl, ?_⟩⟩
      exact k _ (hw u w) (ht i u w _ (e.trans (Ex.new hT)) h1 h2) fun hf => he i u w _ (e.trans (Ex.new hT)) h1 h2 hf)
end
end K10
end
section
set_option Elab.async false
set_option linter.all false
set_option maxRecDepth 100000
set_option maxHeartbeats 4000000
namespace K10
open PySem PySem.Spec PyProof.Rows L2
section
variable {X : Cx} {pins : List (Addr × Obj)} {σ : L2.St} {H : Hp} {s : Shared} {E : Value → Shared → Prop}
theorem ld_name {i : Nat} {x : Str} {v : V} {Q : Value → Shared → Prop} (I : Inv X pins σ H s) (hN : X.N[i]? = some x) (hv : Vis X.env.scope x) (e : σ[i]? = some (some v)) (h : ∀ u, L2.RelV v u → Q u s) (hcd : (x == ("__classdict__" : Str)) = false := by decide) :
    wpAny (model X.prog X.w) X.A (loadName X.env x) Q E s := by
  obtain ⟨m, hn, hl⟩ := I.loc
  obtain ⟨u, r, l⟩ := hl i x v hN e hv
  rcases l with ⟨hk, hm⟩ | ⟨hk, c, hc, hcell⟩
  · exact wpAny_loadName_local I.ok.kind hk hn hm (h u r)
  · rcases hk with hk | hk
    · exact wpAny_loadName_cell I.ok.kind hk hc hcell (h u r)
    · exact wpAny_loadName_free I.ok.kind hk hc hcell (h u r) hcd
theorem it_super {C f cda : Addr} {a : Addr} {v : V} {body : List Stmt} {p0 p1 p2 p3 p4 p5 : Pos} {ar : Arg} {fd : FuncData} {oc ccl : Value} {od cdd : Option Addr} {osl ccs : Array (Option Value)} {vs : Array Value} {file : Str} {tf : Tok} {Q : Flow → Shared → Prop}
    (T : OexC X.K C) (I : Inv X pins σ H s) (hN : X.N = (["self", "line", "__class__"] : List Str)) (v0 : Vis X.env.scope "self") (v1 : Vis X.env.scope "line") (v2 : Vis X.env.scope "__class__") (hσ : σ = [some (.ref a), some v, some (.ref C)]) (ea : H a = some (exo a C none))
    (hg : Gl X "super") (hks : X.env.kindOf "super" = some .globalImplicit) (hkc : X.env.kindOf "__class__" = some .free) (hfu : X.env.func = some f) (hf : X.K.lookup f = some ⟨oc, od, .func fd, osl⟩) (hp : (fd.params.posonlyargs ++ fd.params.args).head? = some ar) (har : ar.arg = "self")
    (hco : X.env.code = .ref cda) (hcode : X.K.lookup cda = some ⟨ccl, cdd, .fields vs, ccs⟩) (hvs : vs[2]? = some (.str file tf)) (hfile : ((X.prog.main.file : Str) == file) = true) (htop : (X.prog.main.scope.names.lookup ("super" : Str)).isSome = false)
    (hsuper : X.mg "super" = none) (hsub : PySem.W.mroIn X.K C (.ref C) = some true) (hop : PySem.W.nsIn X.K cStatics "thirdparty.any" = some none) (hsu : PySem.W.ks_superIn X.K C C "__init__" = some (some (.builtin "ValueError.__init__"))) (hsv : PySem.W.subIn X.K (.ref C) (.type "ValueError") = some true)
    (hi : interactive X.env = false) (hs0 : swapsWith (.Call (.Attribute (.Call (.Name "super" p0) [] [] p1) "__init__" p2) [.Name "line" p3] [] p4) none p5.line X.env = pure false)
    {pl : Sem Bool} (hev : eval (.Call (.Attribute (.Call (.Name "super" p0) [] [] p1) "__init__" p2) [.Name "line" p3] [] p4) X.env = (do
      let ov ← attributeBase (.Call (.Name "super" p0) [] [] p1) "__init__" X.env (eval (.Call (.Name "super" p0) [] [] p1) X.env)
      standAt p2.atName
      let (f, first) ← holding [ov] (getMethod ov "__init__" pl)
      callWith p4 f first (backTo p4 (starEach [.Name "line" p3] X.env)) []))
    (hst : starEach [.Name "line" p3] X.env = (false, eval (.Name "line" p3) X.env) :: starEach [] X.env) (hpl : (backTo p4 (starEach [] X.env)).any (·.1) = false)
    (k : ∀ s', Inv X pins σ H s' → Q .next s') :
    _root_.PySem.wpAt (model X.prog X.w) X.A (.func body X.env) (exec (.Expr (.Call (.Attribute (.Call (.Name "super" p0) [] [] p1) "__init__" p2) [.Name "line" p3] [] p4) p5) X.env) Q X.xe s := by
  subst hσ
  obtain ⟨nm, q, N, bs, bm, sn, sub, ab, col, dd, k0, k1, k2, k3, k5, hC, hbm⟩ := id T.cls
  have hcl : PySem.W.clsIn X.K C = some { name := nm, bases := bs, mro := .ref C :: bm, ns := N, qualname := q, hasDict := true, slotNames := sn, subclasses := sub, abstract := ab, collection := col, hasDel := false } := by unfold PySem.W.clsIn; rw [hC] <;> rfl
  refine PySem.ks_wpAt_Expr_any (PySem.ks_wpAt_MethodCall (pl := pl) (PySem.ks_wpAt_super_base hks hkc (by decide) hfu (I.kIn _ _ hf) rfl hp hco (I.kIn _ _ hcode) rfl hvs hfile htop ?_) hev) hi hs0
  obtain ⟨mb, hb1, hb2⟩ := I.mod.blt
  refine PySem.W.ks_loadName_global I.ok.kind hks (Calls.loadGlobal_builtin (by rw [I.ok.glob]; exact I.mod.glob.keeps I.bk) hsuper (by rw [I.ok.blt]; exact hb1.keeps I.bk) ((hb2 "super" (by decide)).trans (by decide +kernel)) ⟨rfl, ?_⟩)
  refine ld_name (i := 2) I (by rw [hN] <;> rfl) v2 rfl fun u ru => ?_
  obtain rfl : u = Value.ref C := ru
  refine ld_name (i := 0) I (by rw [hN, har] <;> rfl) (by rw [har]; exact v0) rfl (fun u ru => ?_) (by rw [har]; decide)
  obtain rfl : u = Value.ref a := ru
  obtain ⟨t1, ho⟩ := exo_at I.hok ea
  have hCo := I.kIn _ _ hC
  refine PySem.ks_wpAny_isType_cls hCo rfl ⟨rfl, ?_⟩
  obtain ⟨hh, g, d, t, os⟩ := s
  refine PySem.ks_wpAny_call_super hCo rfl ho rfl (fun c e => by cases e) (PySem.W.looks_mroIn I.kIn hsub) fun h1 hso k1 => ?_
  have I1 : Inv X pins [some (.ref a), some v, some (.ref C)] H ⟨h1, g, d, t, os⟩ := I.kept (t' := t) k1
  have ho1 := k1 _ _ ho
  have IA : PySem.W.InstAt h1 a { cls := .ref C, dict := none, data := .fields #[.ref t1, .none, .none, .none, .bool false, .none] } C none := ⟨ho1, rfl, rfl, trivial⟩
  unfold PySem.W.ks_superIn at hsu
  rw [hcl] at hsu
  have hne : a ≠ C := PySem.W.ks_ne I1.kIn IA hcl
  refine PySem.W.kxs_getMethod PySem.W.kxs_ValueError hso (PySem.W.looks_opaque I1.kIn hop) (l₀ := .ref C :: bm) (fun A Q E s k q => wpAny_bind ((PySem.W.looks_clsIn I1.kIn hcl) A _ E s k (wpAny_pure q))) rfl I1.kIn hsu (IA.type.andThen (PySem.W.looks_subIn I1.kIn hsv)) hne (by decide) ?_
  have k2 : ∀ b o, h1.get? b = some o → (h1.push (PySem.W.kxs_mw "ValueError.__init__" a)).get? b = some o := fun b o e => Heap.get?_push_of_some _ e
  have I2 : Inv X pins [some (.ref a), some v, some (.ref C)] H ⟨h1.push (PySem.W.kxs_mw "ValueError.__init__" a), g, d, t + 1, os⟩ := I1.kept (t' := t + 1) k2
  have hu : (h1.push (PySem.W.kxs_mw "ValueError.__init__" a)).get? h1.objs.size = some (PySem.W.kxs_mw "ValueError.__init__" a) := Heap.get?_push_size _ rfl
  show wpAny _ _ (callWith p4 (.ref h1.objs.size) [] (backTo p4 (starEach [.Name "line" p3] X.env)) []) _ _ _
  have ha : PA X [.Name "line" p3] (tCons (tVar 1) tNil) := pa_cons (pe_var (by rw [hN] <;> rfl) v1) pa_nil
  have hsz : H h1.objs.size = none := I1.hok.fresh (Nat.le_refl _)
  have I2p : Inv X ((h1.objs.size, PySem.W.kxs_mw "ValueError.__init__" a) :: pins) [some (.ref a), some v, some (.ref C)] H ⟨h1.push (PySem.W.kxs_mw "ValueError.__init__" a), g, d, t + 1, os⟩ := I2.pins_of fun p hp => by
    rcases List.mem_cons.mp hp with rfl | hp
    · exact ⟨hu, hsz, fun z => by
        have := I1.lt
        rw [← z] at this
        exact absurd this (Nat.lt_irrefl _), I1.nofs (Nat.le_refl _), fun v z => by cases z⟩
    · exact I2.pin p (List.mem_append_right _ hp)
  have hrun := ha.run p4 _ _ _ H (fun us H1 => us = [v] ∧ H1 = H) I2p ⟨v, rfl, rfl, rfl⟩
  rw [hst] at hrun ⊢
  refine PySem.W.kxs_callWith (i := "ValueError.__init__") (x := a) (by show (false || (backTo p4 (starEach [] X.env)).any (·.1)) = false; rw [hpl]; rfl) (Calls.evalArgs_plain (thn hrun fun us s1 ⟨ws, H1, I3, r3, ew, eH⟩ => ?_))
  subst ew eH
  have hu3 := (I3.pin (h1.objs.size, PySem.W.kxs_mw "ValueError.__init__" a) (List.mem_append_right _ (List.mem_cons_self ..))).1
  refine ⟨hu3, ?_⟩
  have I4 : Inv X pins [some (.ref a), some v, some (.ref C)] H1 s1 := I3.pins_of fun p hp => I3.pin p (by
    rcases List.mem_append.mp (List.mem_append_right X.pn hp) with z | z
    · exact List.mem_append_left _ z
    · exact List.mem_append_right _ (List.mem_cons_of_mem _ z))
  obtain ⟨u1, rfl, r1⟩ := vals1 r3
  show wpAny _ _ (call (.ref h1.objs.size) [u1]) _ _ _
  obtain ⟨t4, ho4⟩ := exo_at I4.hok ea
  obtain ⟨h4, g4, d4, tk4, os4⟩ := s1
  refine wpAny_call (codeAny_of_tree ?_)
  show wpAny _ X.A.in1 (callAny (.ref h1.objs.size) ⟨[u1], []⟩) _ _ _
  simp only [callAny]
  refine wpAny_bind (wpAny_load hu3 ?_)
  simp only [PySem.W.kxs_mw, show (Value.type "method-wrapper" == Value.type "method" || Value.type "method-wrapper" == Value.type "builtin_function_or_method" || Value.type "method-wrapper" == Value.type "method-wrapper") = true by decide, if_true]
  refine PySem.W.KFB.if_so (by decide) ?_
  refine wpAny_bind (PySem.W.check_bound_init F.excBase_ValueError.toExcCallFacts (I4.kIn _ _ hC) ho4 rfl ?_)
  refine wpAny_bind (wpAny_pure (wpAny_pure ?_))
  refine ⟨plainId_quiet F.excBase_ValueError.init.plain _, codeAny_builtin F.excBase_ValueError.initEntry ?_⟩
  refine PySem.W.exc_init_tree (cls := .ref C) (t0 := t4) (dv := none) (c2 := .none) (c3 := .none) (b4 := .bool false) ho4 (by show 1 ≤ sizeLine; decide) fun h5 k5 hx5 _ => ?_
  have J := I4.write (t' := tk4) (x := a) (e := a) (o := exo a C none) (by rw [ea]; exact True.intro) (.inl rfl) k5 ⟨_, hx5⟩ (exo_ok hx5)
  have eu : upd H1 a (exo a C none) = H1 := by
    funext b
    by_cases hb : b = a
    · rw [hb, upd_same, ea]
    · rw [upd_ne hb]
  rw [eu] at J
  exact k _ J
end
structure InvT (K : PySem.W.Frag) : Prop where
  o : OexC K (itC K)
  iC : PySem.W.findIn K (.ref (itC K)) "__init__" = some (some (.ref (itF K)))
  tI : PySem.W.typeIn K (.ref (itF K)) = some (.type "function")
  nl : PySem.W.findIn K (.ref (itC K)) "line" = some none
  fn : ∃ (oc : Value) (od : Option Addr) (kV doc pm ct : Value) (an : Option Addr) (osl : Array (Option Value)) (cc cda : Addr),
    K.lookup (itF K) = some ⟨oc, od, .func (itFd cc cda kV doc pm ct an), osl⟩ ∧
    PySem.W.codeIn K (.ref cda) "InvalidText.__init__" = true ∧ (∃ (ccl : Value) (cdd : Option Addr) (vs : Array Value) (ccs : Array (Option Value)) (tf : Tok), K.lookup cda = some ⟨ccl, cdd, .fields vs, ccs⟩ ∧ vs[2]? = some (.str fileS tf)) ∧
    ∃ (cl : Value) (cld : Option Addr) (csl : Array (Option Value)), K.lookup cc = some ⟨cl, cld, .cell (some (.ref (itC K))), csl⟩
  sub : PySem.W.mroIn K (itC K) (.ref (itC K)) = some true
  fs : PySem.W.nsIn K mainGlobals "super" = some none
  op : PySem.W.nsIn K cStatics "thirdparty.any" = some none
  su : PySem.W.ks_superIn K (itC K) (itC K) "__init__" = some (some (.builtin "ValueError.__init__"))
  sv : PySem.W.subIn K (.ref (itC K)) (.type "ValueError") = some true
structure PrOk (P : Program) : Prop where
  file : P.main.file = fileS
  top : (P.main.scope.names.lookup ("super" : Str)).isSome = false
theorem itS : NdefX.NScope ["self", "line", "__class__"] ["self", "line"] ["__class__"] (defScope s_InvalidText_init) := NdefX.nscope_by (by decide +kernel)
def spIT (K : PySem.W.Frag) : Sp := fun vs H Q _ => ∃ (a : Addr) (v : V), vs = [.ref a, v] ∧ H a = some (exo a (itC K) none) ∧ ∀ dx, H dx = none → dx ≠ a → Q .non (upd (upd H dx (exd dx [("line", v)])) a (exo a (itC K) (some dx)))
theorem InvT.binds {K : PySem.W.Frag} (T : InvT K) : Binds K (fdOf K (itF K)) ["self", "line"] [] := by
  obtain ⟨oc, od, kV, doc, pm, ct, an, osl, cc, cda, lk, _⟩ := T.fn
  have e : fdOf K (itF K) = itFd cc cda kV doc pm ct an := by
    unfold fdOf
    rw [lk]
  rw [e]
  exact .all fun us hl => match us, hl with | [_, _], _ => rfl
theorem ok_InvalidText_init {P : Program} {w : World} {K : PySem.W.Frag} {mg : Str → Option Value} {base : Heap} (hP : PrOk P) (T : InvT K) : FnOk P w K mg base CX0 2 (itF K) (fdOf K (itF K)) ["self", "line"] (spIT K) := by
  obtain ⟨oc, od, kV, doc, pm, ct, an, osl, cc, cda, lk, hcd, ⟨ccl, cdd, vs, ccs, tf, lc, hvs⟩, cl, cld, csl, lcc⟩ := T.fn
  have e : fdOf K (itF K) = itFd cc cda kV doc pm ct an := by
    unfold fdOf
    rw [lk]
  rw [e]
  refine ⟨fun vs H Q E h => by
    obtain ⟨a, v, rfl, _⟩ := h
    rfl, fun A outer s H args us vs' Q E hr e0 hb r hsp => ?_⟩
  obtain ⟨a, v, rfl, ea, k⟩ := hsp
  have KX : K.In s.heap := e0.mod.kin.keeps fun b o e => (e0.bs b o e).1
  have lim : s.heap.NoLimit := e0.mod.nolimit.keeps fun b o e => (e0.bs b o e).1
  let F : NdefX.NF := ⟨"__init__", "InvalidText.__init__", defArgs s_InvalidText_init, defBody s_InvalidText_init, defScope s_InvalidText_init, [("__class__", cc)], cda⟩
  refine PySem.ks_codeAny_call_defAt (body := defBody s_InvalidText_init) hr.depth (KX _ _ lk) rfl lim (PySem.W.codeRec_of KX hcd) rfl hb itS.nocell (fun ⟨n, _⟩ hy => itS.par n (List.of_mem_zip hy).1) (fun h1 hns kp => ?_) itS.co itS.gen itS.kind
  have hcc := e0.bs cc _ (e0.mod.kin _ _ lcc)
  have C : NdefX.CellsAt F.cl ["__class__"] [some (.ref (itC K))] s.heap H := by
    have one : ∀ {y : Str} {c : Addr}, F.cl.lookup y = some c → y = "__class__" ∧ c = cc := fun {y c} h => by
      have h : List.lookup y [(("__class__" : Str), cc)] = some c := h
      rw [List.lookup_cons] at h
      cases q : y == ("__class__" : Str) with
      | true =>
        rw [q] at h
        exact ⟨beq_iff_eq.mp q, (Option.some.inj h).symm⟩
      | false =>
        rw [q] at h
        cases h
    refine ⟨rfl, fun y c hc => ?_, fun x y c hx hy => ?_, fun i y hi => ?_⟩
    · obtain ⟨_, rfl⟩ := one hc
      exact ⟨hcc.2, _, _, hcc.1, rfl⟩
    · rw [(one hx).1, (one hy).1]
    · cases i with
      | succ i => cases hi
      | zero =>
        cases hi
        exact ⟨cc, rfl, fun v hv => by
          cases hv
          exact ⟨_, rfl, _, hcc.1, rfl⟩⟩
  have I : Inv (NdefX.ncx CX0 P w K mg base ["self", "line", "__class__"] F (itF K) A outer s H E) [] (NdefX.startF ["self", "line", "__class__"] [.ref a, v] [some (.ref (itC K))]) H { s with heap := h1, toks := s.toks + (((["self", "line"] : List Str)).zip us).length } := NdefX.inv_startN itS hr.hd e0 rfl r C hns kp
  have mS : mg "super" = none := PySem.W.mg_none_of e0.mod.kin e0.mod.glob T.fs
  refine PySem.ks_wpAt_execs_cons (it_super (X := NdefX.ncx CX0 P w K mg base ["self", "line", "__class__"] F (itF K) A outer s H E) (a := a) (v := v) (cda := cda) (f := itF K) T.o I rfl (Or.inl rfl) (Or.inl rfl) (Or.inr (Or.inr rfl)) rfl ea rfl rfl rfl rfl lk rfl rfl rfl lc hvs (by show (P.main.file == fileS) = true; rw [hP.file]; exact beq_self_eq_true _) hP.top mS T.sub T.op T.su T.sv rfl rfl rfl rfl rfl fun s2 I2 => ?_)
  refine wpAt_of_wpAny ?_
  have ht : ∃ t, PSs (NdefX.ncx CX0 P w K mg base ["self", "line", "__class__"] F (itF K) A outer s H E) ((defBody s_InvalidText_init).drop 1) t ∧ t { nx := fun _ H' => Q .non H', rt := fun _ _ => False } [some (.ref a), some v, some (.ref (itC K))] H :=
    ⟨_, pss_one (ps_ost (pv 0) (pv 1)), v, rfl, .ref a, rfl, a, itC K, rfl, T.o, T.nl, .inl ⟨ea, fun dx n ne => k dx n ne⟩⟩
  obtain ⟨t, ht, hq⟩ := ht
  refine wpAny_mono (ht.run [] s2 _ H _ I2 hq) (fun fl s' hs => ?_) fun e s' hs => hs
  have fin : ∀ {σ' : L2.St} {H' : Hp} {v : V} {u : Value}, Inv (NdefX.ncx CX0 P w K mg base ["self", "line", "__class__"] F (itF K) A outer s H E) [] σ' H' s' → L2.RelV v u → Q v H' → CE outer P w H s Q u s' :=
    fun {σ' H' v u} J rv q => ⟨v, H', J.os, J.bare, J.base, J.hok, rv, q⟩
  cases fl with
  | ret u =>
    obtain ⟨v, σ', H', J, rv, q⟩ := hs
    exact False.elim q
  | next =>
    obtain ⟨σ', H', J, q⟩ := hs
    exact fin (v := V.non) (u := Value.none) J rfl q
  | brk =>
    obtain ⟨_, _, _, q⟩ := hs
    exact False.elim q
  | cont =>
    obtain ⟨_, _, _, q⟩ := hs
    exact False.elim q
theorem invT_of {K : PySem.W.Frag} (e : gC K (itF K) = itVal) (h : itB K = true) : InvT K := by
  obtain ⟨h1, h⟩ := He.ba h
  obtain ⟨h2, h⟩ := He.ba h
  obtain ⟨h3, h⟩ := He.ba h
  obtain ⟨h4, h⟩ := He.ba h
  obtain ⟨h5, h⟩ := He.ba h
  obtain ⟨h6, h⟩ := He.ba h
  obtain ⟨h7, h⟩ := He.ba h
  obtain ⟨h8, h⟩ := He.ba h
  obtain ⟨h9, h⟩ := He.ba h
  obtain ⟨h10, h⟩ := He.ba h
  obtain ⟨h11, h⟩ := He.ba h
  obtain ⟨h12, h⟩ := He.ba h
  obtain ⟨h13, h14⟩ := He.ba h
  refine ⟨⟨?_, He.eqO_ok h3, of_decide_eq_true h4, of_decide_eq_true h5, h6⟩, He.eqO_ok h7, of_decide_eq_true h8, He.eqO_ok h9, ?_, of_decide_eq_true h10, He.eqO_ok h11, He.eqO_ok h12, He.eqO_ok h13, of_decide_eq_true h14⟩
  · unfold itCls at h1
    cases q : K.lookup (itC K) with
    | none =>
      rw [q] at h1
      cases h1
    | some o =>
      obtain ⟨oc, od, dt, osl⟩ := o
      rw [q] at h1
      cases oc with
      | type c =>
        cases dt with
        | cls cd =>
          obtain ⟨a1, b⟩ := He.ba h1
          obtain ⟨a2, b⟩ := He.ba b
          obtain ⟨a3, b⟩ := He.ba b
          obtain ⟨a4, a5⟩ := He.ba b
          obtain ⟨nm, bs, mro, ns, qn, hd, sn, sb, ab, col, dl⟩ := cd
          have b2 : hd = true := a2
          have b3 : (!dl) = true := a3
          have b4 : dl = false := by simpa using b3
          have b1 : c = "type" := of_decide_eq_true a1
          clear a1 a2 a3 b3
          subst b1 b2 b4
          cases mro with
          | nil => cases a4
          | cons m bm =>
            cases m with
            | ref C' =>
              obtain ⟨c1, c2⟩ := He.ba (show (decide (C' = itC K) && PySem.HandSPX.refsVE bm) = true from a4)
              have c1 := of_decide_eq_true c1
              subst c1
              have a5 : (match osl.toList with
                | [_, _, _, _, some (.builtin n), _] => decide (n = "ValueError.__new__")
                | _ => false) = true := a5
              split at a5
              · rename_i k0 k1 k2 k3 n k5 hs
                have hn := of_decide_eq_true a5
                subst hn
                have : osl = #[k0, k1, k2, k3, some (.builtin "ValueError.__new__"), k5] := by rw [← hs]
                rw [this]
                exact ⟨nm, qn, ns, bs, bm, sn, sb, ab, col, od, k0, k1, k2, k3, k5, rfl, c2⟩
              · cases a5
            | _ => cases a4
        | _ => cases h1
      | _ => cases dt <;> cases h1
  · unfold itFn at h2
    unfold gC at e
    cases q : K.lookup (itF K) with
    | none =>
      rw [q] at h2
      cases h2
    | some o =>
      obtain ⟨oc, od, dt, osl⟩ := o
      rw [q] at h2 e
      cases dt with
      | func fd =>
        obtain ⟨n1, n2, n3, n4, n5, n6, n7, n8, n9, n10, n11, n12, n13, n14, n15⟩ := fd
        have e : (some (n1, n2, n3, n4, n5, n6, n7.map (·.1), n15) : CW) = some (_, _, _, _, _, _, _, _) := e
        simp only [Option.some.injEq, Prod.mk.injEq] at e
        obtain ⟨z1, z2, z3, z4, z5, z6, z7, z8⟩ := e
        subst z1 z2 z3 z4 z5 z6 z8
        obtain ⟨a1, b⟩ := He.ba h2
        obtain ⟨a2, a3⟩ := He.ba b
        dsimp only at a1 a2 a3
        cases n8 with
        | none =>
          cases n13 with
          | ref cda =>
            obtain ⟨c1, c2⟩ := He.ba a2
            cases n7 with
            | nil => cases z7
            | cons y r =>
              cases r with
              | cons y2 r =>
                have := congrArg List.length z7
                simp at this
              | nil =>
                obtain ⟨yn, cc⟩ := y
                have hy : yn = ("__class__" : Str) := by
                  have z7 : [yn] = ([("__class__" : Str)] : List Str) := z7
                  exact (List.cons.inj z7).1
                subst hy
                refine ⟨oc, od, n9, n10, n11, n14, n12, osl, cc, cda, rfl, c1, ?_, ?_⟩
                · split at c2
                  · rename_i vs _ hl
                    split at c2
                    · rename_i z tf hz
                      have hz2 := of_decide_eq_true c2
                      subst hz2
                      refine ⟨_, _, vs, _, tf, hl, ?_⟩
                      rw [List.getD_eq_getElem?_getD] at hz
                      rw [← Array.getElem?_toList]
                      cases hq : vs.toList[2]? with
                      | none =>
                        rw [hq] at hz
                        cases hz
                      | some v =>
                        rw [hq] at hz
                        exact congrArg some hz
                    · cases c2
                  · cases c2
                · dsimp only at a3
                  split at a3
                  · rename_i d _ hl
                    have hd := of_decide_eq_true a3
                    subst hd
                    exact ⟨_, _, _, hl⟩
                  · cases a3
          | _ => cases a2
        | _ => cases a1
      | _ => cases h2
end K10
end
section
set_option Elab.async false
set_option linter.all false
set_option maxRecDepth 100000
set_option maxHeartbeats 4000000
namespace K10
open PySem PySem.Spec PyProof.Rows L2
section
variable {X : Cx}
theorem pmk_own0 {C : Addr} {bmB : List Value} {B newId initId : String} {x : Str} {p pos : Pos} (F : ExcBaseFacts B newId initId bmB) (q : PySem.W.excIn X.K C bmB newId = true) (gC : X.mg x = some (.ref C)) (kC : PySem.W.keepIn X.K (.ref C) = true) (r : Raises X (.ref C)) (hg : Gl X x)
    (hdb : (x == ("__debug__" : Str)) = false := by decide) :
    PMk X (.Call (.Name x p) [] [] pos) (fun _ H Q => Q (.ref C) none H) := by
  intro pins s σ H Q I h
  refine wpAny_Call_Name_kw (ld_glob I hg gC ?_ hdb)
  refine PySem.W.callWith_K0 I.kIn kC ?_
  show wpAny _ _ (call (.ref C) []) _ _ _
  obtain ⟨bm, N, nm, qn, bs, hdct, sn, sub, ab, col, dd, k0, k1, k2, k3, k5, mN, hC, hN, hni, T⟩ := exc_obj I.kIn q
  refine wpAny_call_exc_subT F T hC hN hni (fun h' e hm => ?_) (by show 0 ≤ sizeLine; exact Nat.zero_le _)
  exact mk_of I hm r h (I.hok.gone hm.new)
def rIsEx (K : PySem.W.Frag) (cls : Value) (d : Option Addr) (a : Addr) : List V → Hp → VK → Prop := fun xs H Q => ∃ (D : Addr) (c : V) (cv : Value) (b : Bool), xs = [.ref a, c] ∧ cls = .ref D ∧ ExcC K D ∧ (∀ u, RelV c u → u = cv) ∧ PySem.W.kitOne K (.ref D) cv = some b ∧
  (d = none ∨ ∃ dd fs, d = some dd ∧ H dd = some (.xd fs)) ∧ Q (.bl b) H
theorem call_isEx {a : Addr} {cls : Value} {d : Option Addr} {oe : Obj} {pn : List (Addr × Obj)} (hz : Zc cls d oe) (hf : ∃ vs, oe.data = .fields vs) : CallR (X.suite a ((a, oe) :: pn)) (.builtin "isinstance") (rIsEx X.K cls d a) := by
  intro pins s σ H xs us Q I r h
  obtain ⟨D, c, cv, b, rfl, rfl, C, hcv, e, hd, q⟩ := h
  cases r with
  | cons rx rr =>
    cases rr with
    | cons rt rr =>
      cases rr
      cases rx
      have ec := hcv _ rt
      subst ec
      obtain ⟨hget, _⟩ := I.pin (a, oe) (List.mem_append.mpr (.inl List.mem_cons_self))
      obtain ⟨vs, hv⟩ := hf
      have J : ∃ od, PySem.W.InstAt s.heap a oe D od := by
        obtain ⟨oc, od, oda, osl⟩ := oe
        obtain ⟨h1, h2⟩ := hz
        dsimp only at h1 h2 hv
        subst h1 h2 hv
        rcases hd with rfl | ⟨dd, fs, rfl, hdd⟩
        · exact ⟨none, hget, rfl, rfl, trivial⟩
        · have hx : ObjOk X.prog X.w H s.heap dd (.xd fs) := I.hok dd _ hdd
          obtain ⟨mA, hns, hr⟩ := hx
          obtain ⟨o, es, ep, ho, _⟩ := hns
          exact ⟨some o, hget, rfl, rfl, ho⟩
      obtain ⟨od, J⟩ := J
      exact PySem.W.kia_one (PySem.W.kitx_exc (by obtain ⟨cd, hc, _⟩ := PySem.W.any_some C.hd; rw [hc]; rfl) C.hg C.hk C.hs C.ha C.hn C.ht C.hm) I.kIn J e (fun z => nomatch z) fun tk => ⟨.bl b, H, I.kept (t' := tk) fun _ _ z => z, rfl, q⟩
def rCntB (K : PySem.W.Frag) : V → List V → Hp → VK → Prop := fun x xs H Q => ∃ (p : Addr) (bs : List Bool), x = .ref p ∧ xs = [.bl true] ∧ SqL K H p (bs.map V.bl) ∧ Q (.int (bs.count true : Nat)) H
theorem cnt_vals : ∀ {bs : List Bool} {us : List Value}, Vals (bs.map V.bl) us → us.countP (eqU (V.bl true)) = bs.count true
  | [], _, .nil => rfl
  | b :: bs, _, .cons r t => by
    rw [List.countP_cons, cnt_vals t, List.count_cons, eqU_of r (show flatV (.bl b) = true from rfl)]
    rfl
theorem mt_bcount : MtR X "list.count" (rCntB X.K) := by
  intro pins s σ H x xs v us Q I rx rxs h
  obtain ⟨p, bs, rfl, rfl, hs, q⟩ := h
  cases rx
  obtain ⟨u, rfl, ru⟩ := rxs.one
  obtain ⟨its, rv, ⟨⟨cls, dd, data, sl⟩, n, ho, hc, hdn, hd⟩, hlen⟩ := I.list hs
  simp only at hc hd
  subst hc hd
  refine call_meets PySem.F.slot_list_count ⟨_, ho, rfl⟩ PySem.F.entry_list_count (PySem.F.args_list_count_2 _ _)
    (SeqAt.list_countAt p its.toArray n dd sl u (eqU (V.bl true))) ⟨ho, fun y hy => mem_eqAt ru rfl rv (List.all_eq_true.mpr fun z hz => by obtain ⟨b, _, rfl⟩ := List.mem_map.mp hz; rfl) y (by simpa using hy), ?_⟩
  refine ⟨.int (bs.count true : Nat), H, I.tok _, ⟨s.toks, ?_⟩, q⟩
  show Value.int ((its.toArray.toList.countP (eqU (V.bl true)) : Nat) : Int) s.toks = _
  rw [← cnt_vals rv]
end
end K10
end
section
set_option Elab.async false
set_option linter.all false
set_option maxRecDepth 100000
set_option maxHeartbeats 4000000
namespace K10
open PySem PySem.Spec PyProof.Rows L2
theorem Ex4.mem (x : Ex4) : x ∈ Ex4.all := by cases x <;> decide
theorem excCB_ok {K : PySem.W.Frag} {D : Addr} (h : excCB K D = true) : ExcC K D := by
  obtain ⟨h1, h⟩ := He.ba h
  obtain ⟨h2, h⟩ := He.ba h
  obtain ⟨h3, h⟩ := He.ba h
  obtain ⟨h4, h⟩ := He.ba h
  obtain ⟨h5, h⟩ := He.ba h
  obtain ⟨h6, h⟩ := He.ba h
  obtain ⟨h7, h8⟩ := He.ba h
  exact ⟨of_decide_eq_true h1, of_decide_eq_true h2, of_decide_eq_true h3, h4, of_decide_eq_true h5, of_decide_eq_true h6, of_decide_eq_true h7, of_decide_eq_true h8⟩
structure TxtP (P : Program) (h0 : Heap) (K : PySem.W.Frag) (mg : Str → Option Value) : Prop extends Txt h0 K mg where
  pr : PrOk P
  it : InvT K
  xq : xqB K = true
  xm : xmB K = true
section
variable {P : Program} {h0 : Heap} {K : PySem.W.Frag} {mg : Str → Option Value} (T : TxtP P h0 K mg)
include T
theorem TxtP.x1 {x : Ex4} (h : x ≠ .invalid) : (He.Fa.exc x.nm).ok K = true := List.all_eq_true.mp (He.ba T.xq).1 x (by cases x <;> first | exact absurd rfl h | decide)
theorem TxtP.x2 (x : Ex4) : ExcC K (He.ga K x.nm) := excCB_ok (List.all_eq_true.mp (He.ba (He.ba T.xq).2).1 x x.mem)
theorem TxtP.x3 (x y : Ex4) : PySem.W.kitOne K (.ref (He.ga K x.nm)) (.ref (He.ga K y.nm)) = some (decide (x = y)) := of_decide_eq_true (He.ba (List.all_eq_true.mp (List.all_eq_true.mp (He.ba (He.ba T.xq).2).2 x x.mem) y y.mem)).1
theorem TxtP.xc (x : Ex4) : PySem.W.exmOne K (.ref (He.ga K x.nm)) (.ref (He.ga K "CacheError")) = some true := of_decide_eq_true (List.all_eq_true.mp (He.ba T.xm).1 x x.mem)
theorem TxtP.xl : PySem.W.findIn K (.ref (itC K)) "line" = some none := of_decide_eq_true (He.ba T.xm).2
theorem TxtP.xf : XfC K (itC K) := ⟨(T.x2 .invalid).hg, (T.x2 .invalid).hk, (T.x2 .invalid).hs, (T.x2 .invalid).hd⟩
theorem TxtP.gx (x : Ex4) : mg x.nm = some (.ref (He.ga K x.nm)) := by
  cases x
  · exact T.g_InvalidText
  · exact T.g_NotNow
  · exact T.g_NotText
  · exact T.g_NothingToUndo
theorem ps_raise0 {X : Cx} {W : WX} {p p' pos : Pos} {x : Ex4} {nm : Str} (hx : x ≠ .invalid) (hn : nm = x.nm) (hc : X.calm = true) (tk : Takes X W) (hg : Gl X nm) (hK : X.K = K) (hm : X.mg = mg) (hdb : (nm == ("__debug__" : Str)) = false := by decide) :
    PS X (.Raise (some (.Call (.Name nm p) [] [] p')) none pos) (fun _ σ H => W (.ref (He.ga K x.nm)) none σ H) := by
  subst hK hm hn
  obtain ⟨h1, h2, h3, h4⟩ := He.exc_ok (T.x1 hx)
  exact ps_raise hc tk (pmk_own0 PySem.F.excBase_ValueError h1 (T.gx x) h2 (raises_own h3 h4) hg hdb)
end
end K10
end
section
set_option Elab.async false
set_option linter.all false
set_option maxRecDepth 100000
set_option maxHeartbeats 4000000
namespace K10
open PySem PySem.Spec PyProof.Rows L2 Evl
section
variable {P : Program} {w : World} {base h0 : Heap} {K : PySem.W.Frag} {mg : Str → Option Value}
def spUW (K : PySem.W.Frag) : Sp := fun vs H Q _ => ∃ (a d fl : Addr) (o : Op) (i : Nat), vs = [.ref a] ∧ H a = some (.ins (He.ga K "Operation") d (opF o i fl)) ∧ Q (.bl o.going) H
theorem sc_Operation_is_under_way : FnScope ["self"] ["self"] (defScope s_Operation_is_under_way) := ⟨rfl, rfl, rfl, by decide +kernel, rfl, by decide +kernel, by decide +kernel⟩
theorem ok_Operation_is_under_way (T : Txt h0 K mg) : FnOk P w K mg base CX0 1 (He.ma K (He.ga K "Operation") "is_under_way") (fdOf K (He.ma K (He.ga K "Operation") "is_under_way")) ["self"] (spUW K) := by
  refine FnOk.mono (j := 1) ((T.fn_Operation_is_under_way).ok sc_Operation_is_under_way (fun vs H Q E h => ?_) (fun cdv A outer st0 H vs Q E hr h => ?_)) (by decide)
  · obtain ⟨a, d, fl, o, i, rfl, _⟩ := h
    rfl
  · obtain ⟨a, d, fl, o, i, rfl, ho, q⟩ := h
    refine ⟨_, PSs.nox ((pss_one (ps_ret (pe_cmpR (op_notInK K) (pe_fldK K (pv 0)) (pe_gref T.g_OVER) rfl)))), ?_⟩
    refine ⟨_, rfl, _, _, _, _, _, rfl, ho, T.cl_Operation, T.n_Operation_stage, rfl, _, _, rfl, .inr (T.t_OVER _), rfl, rfl, ?_⟩
    have e : (if true = true then !inV (V.str o.stage.str) [V.str "ended", V.str "stopped"] else inV (V.str o.stage.str) [V.str "ended", V.str "stopped"]) = o.going := by
      rw [if_pos rfl]
      exact going_in o.stage
    rw [e]
    exact q
theorem spv_uw {H : Hp} {a d fl : Addr} {o : Op} {i : Nat} (ho : H a = some (.ins (He.ga K "Operation") d (opF o i fl))) : SpV (spUW K) [.ref a] H (.bl o.going) :=
  fun H1 e Q q E => ⟨a, d, fl, o, i, rfl, e _ _ ho, q H1 (Ex.refl H1)⟩
def goV (L : Lay) (s : S) : List V := given s.ops.length (fun i => (s.at i).going) (fun i => V.ref (L.opA i))
def spUnder (K : PySem.W.Frag) : Sp := fun vs H Q _ => ∃ (L : Lay) (s : S), vs = [.ref L.p] ∧ RunAt K H L s ∧ s.ops.length ≤ 1000 ∧ RetL (goV L s) H Q
theorem sc_Run_under_way : FnScope ["self", "one"] ["self"] (defScope s_Run_under_way) := ⟨rfl, rfl, rfl, by decide +kernel, rfl, by decide +kernel, by decide +kernel⟩
theorem ok_Run_under_way (T : Txt h0 K mg) : FnOk P w K mg base CX0 2 (He.ma K (He.ga K "Run") "under_way") (fdOf K (He.ma K (He.ga K "Run") "under_way")) ["self"] (spUnder K) := by
  refine FnOk.mono (j := 2) ((T.fn_Run_under_way).ok sc_Run_under_way (fun vs H Q E h => ?_) (fun cdv A outer st0 H vs Q E hr h => ?_)) (by decide)
  · obtain ⟨L, s, rfl, _⟩ := h
    rfl
  · obtain ⟨L, s, rfl, R, hl, k⟩ := h
    refine ⟨_, PSs.nox ((pss_one (ps_ret (pe_lc (own := [("one", 1)]) (g := (gName 1)) rfl sc_Run_under_way.nd (pi_listK K (pe_fldK K (pv 0))) (blkOk_by (N := ["self", "one"]) (sc := defScope s_Run_under_way) (by decide +kernel)) (fun _ _ _ _ _ => (pg_name (i := 1) sc_Run_under_way.nd rfl (Or.inl rfl))) (fun _ _ _ _ _ => (pts_one (pt_val (pe_meth0 (pv 1) T.cl_Operation T.m_Operation_is_under_way (ok_Operation_is_under_way T) (hr.mono (by decide)) T.b_Operation_is_under_way .nil pass0)))) (fun _ _ _ _ _ => (pv 1)))))), ?_⟩
    refine s_retL (el_lcL (xs := L.os.map fun t => V.ref t.1) (fun i => (s.at i).going) (fun i => V.ref (L.opA i)) (ev_runF T R T.n_Run_operations (ev_var rfl)) (sq_of R.ol) (by rw [R.ol_len]; omega) (fun _ => rfl) (fun i x H1 e hx => ?_) (fun i x H1 e hx hg => ?_)) ?_
    · obtain ⟨t, ht, rfl, ho⟩ := R.ol_at hx
      exact et_B (ev_meth0 (ev_var rfl) ((R.mono e).op i t _ ht ho).1 rfl (spv_uw ((R.mono e).op i t _ ht ho).1))
    · obtain ⟨t, ht, rfl, ho⟩ := R.ol_at hx
      rw [opA_of ht]
      exact ev_var rfl
    · intro p H1 hp e h1
      rw [R.ol_len] at h1
      exact k p H1 hp e h1
theorem spl_under {H : Hp} {L : Lay} {s : S} (R : RunAt K H L s) (hl : s.ops.length ≤ 1000) : SpL (spUnder K) [.ref L.p] H (goV L s) :=
  fun H1 e Q q E => ⟨L, s, rfl, R.mono e, hl, fun p H2 hp e2 h2 => q p H2 hp e2 h2⟩
theorem ev_goV (T : Txt h0 K mg) {H : Hp} {L : Lay} {s : S} {te : TE} {σ : L2.St} {E : XK} (R : RunAt K H L s) (hl : s.ops.length ≤ 1000) (h : Ev te σ H (.ref L.p)) : EvL (tMeth (He.ga K "Run") "under_way" (spUnder K) [] E te tNil) σ H (goV L s) :=
  el_meth0 h R.run rfl (spl_under R hl)
theorem goV_at {L : Lay} {s : S} {j : Nat} {x : V} (h : (goV L s)[j]? = some x) : ∃ i, i < s.ops.length ∧ (s.at i).going = true ∧ x = .ref (L.opA i) ∧ ((List.range s.ops.length).filter fun i => (s.at i).going)[j]? = some i := by
  unfold goV given at h
  rw [List.getElem?_map] at h
  cases e : ((List.range s.ops.length).filter fun i => (s.at i).going)[j]? with
  | none =>
    rw [e] at h
    cases h
  | some i =>
    rw [e] at h
    have hm := List.mem_filter.mp (List.mem_of_getElem? e)
    exact ⟨i, List.mem_range.mp hm.1, hm.2, (Option.some.inj h).symm, rfl⟩
theorem goV_len (L : Lay) (s : S) : (goV L s).length ≤ s.ops.length := given_len _ _ _
theorem goV_map {L : Lay} {s : S} (f : Nat → V) : given (goV L s).length (fun _ => true) (fun j => f (((List.range s.ops.length).filter fun i => (s.at i).going).getD j 0)) = ((List.range s.ops.length).filter fun i => (s.at i).going).map f := by
  rw [given_all]
  apply List.ext_getElem?
  intro j
  rw [List.getElem?_map, List.getElem?_map]
  have hlen : (goV L s).length = ((List.range s.ops.length).filter fun i => (s.at i).going).length := by unfold goV given; rw [List.length_map]
  by_cases hj : j < (goV L s).length
  · rw [List.getElem?_range hj]
    have hj2 : j < ((List.range s.ops.length).filter fun i => (s.at i).going).length := by omega
    rw [List.getElem?_eq_getElem hj2]
    simp [List.getD_eq_getElem?_getD, List.getElem?_eq_getElem hj2]
  · rw [List.getElem?_eq_none (by rw [List.length_range]; omega), List.getElem?_eq_none (by omega)]
    rfl
theorem EvL.is {te : TE} {σ : L2.St} {H : Hp} {xs ys : List V} (h : EvL te σ H xs) (e : xs = ys) : EvL te σ H ys := by
  rw [← e]
  exact h
theorem any_going {s : S} {p : Op → Bool} : (((List.range s.ops.length).filter fun i => (s.at i).going).map fun i => p (s.at i)).any id = s.ops.any fun o => o.going && p o := by
  rw [Bool.eq_iff_iff, List.any_eq_true, List.any_eq_true]
  constructor
  · rintro ⟨b, hb, h1⟩
    obtain ⟨i, hi, rfl⟩ := List.mem_map.mp hb
    obtain ⟨h2, h3⟩ := List.mem_filter.mp hi
    exact ⟨s.at i, List.mem_of_getElem? (ops_at (List.mem_range.mp h2)), by rw [Bool.and_eq_true]; exact ⟨h3, h1⟩⟩
  · rintro ⟨o, ho, h1⟩
    obtain ⟨i, hi⟩ := List.mem_iff_getElem?.mp ho
    obtain ⟨h2, h3⟩ := Bool.and_eq_true_iff.mp h1
    have e := at_of hi
    refine ⟨p (s.at i), List.mem_map.mpr ⟨i, List.mem_filter.mpr ⟨List.mem_range.mpr (List.getElem?_eq_some_iff.mp hi).1, by rw [e]; exact h2⟩, rfl⟩, by rw [e]; exact h3⟩
def spWriting (K : PySem.W.Frag) : Sp := fun vs H Q _ => ∃ (L : Lay) (s : S), vs = [.ref L.p] ∧ RunAt K H L s ∧ s.ops.length ≤ 1000 ∧ RetV (.bl s.writing) H Q
theorem sc_Run_is_writing : FnScope ["self", "one"] ["self"] (defScope s_Run_is_writing) := ⟨rfl, rfl, rfl, by decide +kernel, rfl, by decide +kernel, by decide +kernel⟩
theorem ok_Run_is_writing (T : Txt h0 K mg) : FnOk P w K mg base CX0 3 (He.ma K (He.ga K "Run") "is_writing") (fdOf K (He.ma K (He.ga K "Run") "is_writing")) ["self"] (spWriting K) := by
  refine FnOk.mono (j := 3) ((T.fn_Run_is_writing).ok sc_Run_is_writing (fun vs H Q E h => ?_) (fun cdv A outer st0 H vs Q E hr h => ?_)) (by decide)
  · obtain ⟨L, s, rfl, _⟩ := h
    rfl
  · obtain ⟨L, s, rfl, R, hl, k⟩ := h
    refine ⟨_, PSs.nox ((pss_one (ps_ret (pe_callB (cr_anyK K) (by rfl) T.f_any (by decide +kernel) (pa_cons (pe_lc (own := [("one", 1)]) (g := (gName 1)) (tt := tYes) rfl sc_Run_is_writing.nd (pi_listK K (pe_meth0 (pv 0) T.cl_Run T.m_Run_under_way (ok_Run_under_way T) (hr.mono (by decide)) T.b_Run_under_way .nil pass0)) (blkOk_by (N := ["self", "one"]) (sc := defScope s_Run_is_writing) (by decide +kernel)) (fun _ _ _ _ _ => (pg_name (i := 1) sc_Run_is_writing.nd rfl (Or.inl rfl))) (fun _ _ _ _ _ => pts_nil) (fun _ _ _ _ _ => (pe_cmpR op_eq (pe_fldK K (pv 1)) pe_str (nomark _)))) pa_nil))))), ?_⟩
    have e1 : (s.ops.any fun o => o.going && o.wr) = s.writing := rfl
    refine s_ret (ev_is (ev_anyN (bs := ((List.range s.ops.length).filter fun i => (s.at i).going).map fun i => (s.at i).wr) (EvL.is ?_ (List.map_map (f := fun i => (s.at i).wr) (g := V.bl)).symm)) (by rw [any_going (p := fun o => o.wr), e1])) k
    refine EvL.is (el_lcNL (xs := goV L s) (fun _ => true) (fun j => V.bl (s.at (((List.range s.ops.length).filter fun i => (s.at i).going).getD j 0)).wr) (ev_goV T R hl (ev_var rfl)) (by have := goV_len L s; omega) (fun _ => rfl) (fun i x H1 e hx => et_yes) (fun i x H1 e hx hg => ?_)) (goV_map fun i => V.bl (s.at i).wr)
    · obtain ⟨j, hj, hg2, rfl, hx2⟩ := goV_at hx
      have R1 := R.mono e
      obtain ⟨t, ht, et⟩ := R.os_at hj
      have e3 : ((List.range s.ops.length).filter fun i => (s.at i).going).getD i 0 = j := by
        rw [List.getD_eq_getElem?_getD, hx2] <;> rfl
      rw [e3, et]
      refine ev_is (ev_op (ev_opF T R1 ht (ops_at hj) T.n_Operation_kind (ev_var rfl)) ev_c (rv_eq rfl)) ?_
      rw [kind_w]
      cases (s.at j).wr <;> rfl
theorem spv_writing {H : Hp} {L : Lay} {s : S} (R : RunAt K H L s) (hl : s.ops.length ≤ 1000) : SpV (spWriting K) [.ref L.p] H (.bl s.writing) :=
  fun H1 e Q q E => ⟨L, s, rfl, R.mono e, hl, q⟩
end
end K10
end
section
set_option Elab.async false
set_option linter.all false
set_option maxRecDepth 100000
set_option maxHeartbeats 4000000
namespace K10
open PySem PySem.Spec PyProof.Rows L2 Evl
theorem w_is (w w2 : Wd) {z : Str} (hz : z = w2.str) : decide (V.str w.str = V.str z) = decide (w = w2) := by
  subst hz
  exact w_inj w w2
theorem g_is (w w2 : Gd) {z : Str} (hz : z = w2.str) : decide (V.str w.str = V.str z) = decide (w = w2) := by
  subst hz
  exact gd_eq w w2
def wV : Option Wd → V
  | none => .non
  | some w => .str w.str
section
variable {P : Program} {w : World} {base h0 : Heap} {K : PySem.W.Frag} {mg : Str → Option Value}
section
variable {H : Hp} {L : Lay} {s : S} {σ : L2.St} {te : TE} {i : Nat} {t : Addr × Addr × Addr} {o : Op} {z : Str}
theorem ev_stageEq (T : Txt h0 K mg) (R : RunAt K H L s) (ht : L.os[i]? = some t) (ho : s.ops[i]? = some o) (h : Ev te σ H (.ref t.1)) (w2 : Wd) (hz : z = w2.str := by rfl) : Ev (tOp rEq (tFld K te "stage") (tC (.str z))) σ H (.bl (decide (o.stage = w2))) := by
  rw [← w_is o.stage w2 hz]
  exact ev_op (ev_opF T R ht ho T.n_Operation_stage h) ev_c (rv_eq rfl)
theorem ev_stageNe (T : Txt h0 K mg) (R : RunAt K H L s) (ht : L.os[i]? = some t) (ho : s.ops[i]? = some o) (h : Ev te σ H (.ref t.1)) (w2 : Wd) (hz : z = w2.str := by rfl) : Ev (tOp rNe (tFld K te "stage") (tC (.str z))) σ H (.bl (!decide (o.stage = w2))) := by
  rw [← w_is o.stage w2 hz]
  exact ev_op (ev_opF T R ht ho T.n_Operation_stage h) ev_c (rv_ne rfl)
theorem ev_kindW (T : Txt h0 K mg) (R : RunAt K H L s) (ht : L.os[i]? = some t) (ho : s.ops[i]? = some o) (h : Ev te σ H (.ref t.1)) : Ev (tOp rEq (tFld K te "kind") (tC (.str "write"))) σ H (.bl o.wr) := by
  have e : decide (V.str (kindS o.wr) = V.str "write") = o.wr := by
    rw [kind_w]
    cases o.wr <;> rfl
  refine ev_is (ev_op (ev_opF T R ht ho T.n_Operation_kind h) ev_c (rv_eq rfl)) ?_
  rw [e]
theorem ev_kindR (T : Txt h0 K mg) (R : RunAt K H L s) (ht : L.os[i]? = some t) (ho : s.ops[i]? = some o) (h : Ev te σ H (.ref t.1)) : Ev (tOp rEq (tFld K te "kind") (tC (.str "read"))) σ H (.bl (!o.wr)) := by
  have e : decide (V.str (kindS o.wr) = V.str "read") = !o.wr := by
    rw [kind_r]
    cases o.wr <;> rfl
  refine ev_is (ev_op (ev_opF T R ht ho T.n_Operation_kind h) ev_c (rv_eq rfl)) ?_
  rw [e]
theorem ev_guard (T : Txt h0 K mg) (R : RunAt K H L s) (h : Ev te σ H (.ref L.p)) (g2 : Gd) (hz : z = g2.str := by rfl) : Ev (tOp rEq (tFld K te "guard") (tC (.str z))) σ H (.bl (decide (s.cfg.guard = g2))) := by
  rw [← g_is s.cfg.guard g2 hz]
  exact ev_op (ev_runF T R T.n_Run_guard h) ev_c (rv_eq rfl)
theorem oV_non (c : Option Int) : decide (oV c = V.non) = decide (c = none) := by cases c <;> rfl
theorem nV_non (c : Option Nat) : decide (nV c = V.non) = decide (c = none) := by cases c <;> rfl
end
def spNext (K : PySem.W.Frag) : Sp := fun vs H Q _ => ∃ (L : Lay) (s : S) (i : Nat) (t : Addr × Addr × Addr) (o : Op), vs = [.ref L.p, .ref t.1] ∧ RunAt K H L s ∧ L.os[i]? = some t ∧ s.ops[i]? = some o ∧
  (o.stage = .waits → ∃ j q, o.leader = some j ∧ s.ops[j]? = some q) ∧ RetV (wV (s.nextW o)) H Q
theorem sc_Run_next_step : FnScope ["self", "one"] ["self", "one"] (defScope s_Run_next_step) := ⟨rfl, rfl, rfl, by decide +kernel, rfl, by decide +kernel, by decide +kernel⟩
theorem ok_Run_next_step (T : Txt h0 K mg) : FnOk P w K mg base CX0 1 (He.ma K (He.ga K "Run") "next_step") (fdOf K (He.ma K (He.ga K "Run") "next_step")) ["self", "one"] (spNext K) := by
  refine FnOk.mono (j := 1) ((T.fn_Run_next_step).ok sc_Run_next_step (fun vs H Q E h => ?_) (fun cdv A outer st0 H vs Q E hr h => ?_)) (by decide)
  · obtain ⟨L, s, i, t, o, rfl, _⟩ := h
    rfl
  · obtain ⟨L, s, i, t, o, rfl, R, ht, ho, hw, k⟩ := h
    refine ⟨_, PSs.nox ((pss_cons (ps_if (pt_cmpR op_ne (pe_fldK K (pv 1)) pe_str (nomark _)) (pss_one (ps_ret (pe_fldK K (pv 1)))) pss_nil)
      (pss_one (ps_ret (pe_ifExp (pt_cmpR op_eq (pe_fldK K (pe_ix (ix_listK K) (pe_fldK K (pv 0)) (pe_fldK K (pv 1)) (fun _ _ => rfl))) pe_str (nomark _)) pe_str pe_non))))), ?_⟩
    refine q_when (et_test (ev_stageNe T R ht ho (ev_var rfl) .waits)) (fun hb H1 e => ?_) (fun hb H1 e => ?_)
    · have hb : ¬ o.stage = .waits := by simpa using hb
      have en : s.nextW o = some o.stage := by
        unfold S.nextW
        rw [if_neg hb]
      rw [en] at k
      exact s_ret (ev_opF T (R.mono e) ht ho T.n_Operation_stage (ev_var rfl)) fun H2 e2 => k H2 (e.trans e2)
    · have hb : o.stage = .waits := by simpa using hb
      obtain ⟨j, q, hj, hq⟩ := hw hb
      have R1 := R.mono e
      obtain ⟨tj, htj, htj1, _⟩ := R1.at hq
      have el : s.ldr o = q := by
        unfold S.ldr
        rw [hj]
        exact at_of hq
      refine s_ret (v := wV (s.nextW o)) (ev_if (et_test (ev_stageEq T R1 htj hq (ev_op (ev_runF T R1 T.n_Run_operations (ev_var rfl)) (ev_opF T R1 ht ho T.n_Operation_leader (ev_var rfl)) (by rw [hj]; exact rv_ixL (sq_of R1.ol) (L2.at_of (j := j) rfl (by rw [List.getElem?_map, htj] <;> rfl)))) .ended)) (fun hb2 => ?_) (fun hb2 => ?_)) fun H2 e2 => k H2 (e.trans e2)
      · have hb2 : q.stage = .ended := by simpa using hb2
        unfold S.nextW
        rw [if_pos hb, el, if_pos hb2]
        exact ev_c
      · have hb2 : ¬ q.stage = .ended := by simpa using hb2
        unfold S.nextW
        rw [if_pos hb, el, if_neg hb2]
        exact ev_c
def spPut (K : PySem.W.Frag) : Sp := fun vs H Q _ => ∃ (L : Lay) (s : S) (v : Int), vs = [.ref L.p, .int v] ∧ RunAt K H L s ∧ ∀ H', RunAt K H' L (s.put v) → Fr L.own H H' → Q .non H'
theorem sc_Run_put : FnScope ["self", "version"] ["self", "version"] (defScope s_Run_put) := ⟨rfl, rfl, rfl, by decide +kernel, rfl, by decide +kernel, by decide +kernel⟩
theorem ok_Run_put (T : Txt h0 K mg) : FnOk P w K mg base CX0 1 (He.ma K (He.ga K "Run") "put") (fdOf K (He.ma K (He.ga K "Run") "put")) ["self", "version"] (spPut K) := by
  refine FnOk.mono (j := 1) ((T.fn_Run_put).ok sc_Run_put (fun vs H Q E h => ?_) (fun cdv A outer st0 H vs Q E hr h => ?_)) (by decide)
  · obtain ⟨L, s, v, rfl, _⟩ := h
    rfl
  · obtain ⟨L, s, v, rfl, R, k⟩ := h
    refine ⟨_, PSs.nox ((pss_cons (ps_fldK K (pv 0) (pv 1))
      (pss_one (ps_if (pt_cmpR op_eq (pe_fldK K (pv 0)) pe_str (nomark _)) (pss_one (ps_fldK K (pv 0) (pe_callB (call_max2S rfl) (by rfl) T.f_max (by decide +kernel) (pa_cons (pe_fldK K (pv 0)) (pa_cons (pv 1) pa_nil))))) pss_nil)))), ?_⟩
    refine ⟨_, rfl, _, rfl, runSet T R { s with cache := some v } T.n_Run_cache rfl fun H1 R1 F1 => ?_⟩
    refine s_when (et_test (ev_guard T R1 (ev_var rfl) .mark)) (fun hb H2 e => ?_) (fun hb H2 e => ?_)
    · have hg : s.cfg.guard = .mark := of_decide_eq_true hb
      have R2 := R1.mono e
      refine (ev_max2' (ev_runF T R2 T.n_Run_mark (ev_var rfl)) (ev_var rfl)) H2 (Ex.refl _) _ fun H3 e3 => ?_
      refine ⟨_, rfl, runSet T (R2.mono e3) (s.put v) T.n_Run_mark ?_ fun H4 R4 F4 => ?_⟩
      · unfold S.put
        rw [if_pos hg]
        rfl
      · exact k _ R4 (F1.trans ((Fr.of (e.trans e3)).trans F4))
    · have hg : ¬ s.cfg.guard = .mark := of_decide_eq_false hb
      have e2 : s.put v = { s with cache := some v } := by
        unfold S.put
        rw [if_neg hg]
      exact k _ (by rw [e2]; exact R1.mono e) (F1.trans (Fr.of e))
def spNewer (K : PySem.W.Frag) : Sp := fun vs H Q _ => ∃ (L : Lay) (s : S) (v : Int), vs = [.ref L.p, .int v] ∧ RunAt K H L s ∧ RetV (.bl (s.isNewer v)) H Q
theorem sc_Run_is_newer : FnScope ["self", "version"] ["self", "version"] (defScope s_Run_is_newer) := ⟨rfl, rfl, rfl, by decide +kernel, rfl, by decide +kernel, by decide +kernel⟩
theorem ok_Run_is_newer (T : Txt h0 K mg) : FnOk P w K mg base CX0 1 (He.ma K (He.ga K "Run") "is_newer") (fdOf K (He.ma K (He.ga K "Run") "is_newer")) ["self", "version"] (spNewer K) := by
  refine FnOk.mono (j := 1) ((T.fn_Run_is_newer).ok sc_Run_is_newer (fun vs H Q E h => ?_) (fun cdv A outer st0 H vs Q E hr h => ?_)) (by decide)
  · obtain ⟨L, s, v, rfl, _⟩ := h
    rfl
  · obtain ⟨L, s, v, rfl, R, k⟩ := h
    refine ⟨_, PSs.nox ((pss_cons (ps_if (pt_cmpR op_eq (pe_fldK K (pv 0)) pe_str (nomark _)) (pss_one (ps_ret (pe_cmpR op_ge (pv 1) (pe_fldK K (pv 0)) (nomark _)))) pss_nil)
      (pss_one (ps_ret (pe_or (pe_cmp (pc_isN (pe_fldK K (pv 0)))) (pe_one (pe_cmpR op_lt (pe_fldK K (pv 0)) (pv 1) (nomark _)))))))), ?_⟩
    refine q_when (et_test (ev_guard T R (ev_var rfl) .mark)) (fun hb H1 e => ?_) (fun hb H1 e => ?_)
    · have hg : s.cfg.guard = .mark := of_decide_eq_true hb
      have R1 := R.mono e
      refine s_ret (v := .bl (s.isNewer v)) (ev_is (ev_op (ev_var rfl) (ev_runF T R1 T.n_Run_mark (ev_var rfl)) rv_I0) ?_) fun H2 e2 => k H2 (e.trans e2)
      unfold S.isNewer
      rw [if_pos hg]
    · have hg : ¬ s.cfg.guard = .mark := of_decide_eq_false hb
      have R1 := R.mono e
      refine s_ret (v := .bl (s.isNewer v)) ?h1 ?h2
      case h2 => exact fun H2 e2 => k H2 (e.trans e2)
      cases hc : s.cache with
      | none =>
        refine ev_is (ev_orV (b := true) (ev_is (ev_isN (ev_runF T R1 T.n_Run_cache (ev_var rfl))) (show _ = V.bl true by rw [hc] <;> rfl)) (fun z => by cases z)) ?_
        unfold S.isNewer
        rw [if_neg hg, hc] <;> rfl
      | some c =>
        refine ev_is (ev_orV (ev_is (ev_isN (ev_runF T R1 T.n_Run_cache (ev_var rfl))) (show _ = V.bl false by rw [hc] <;> rfl)) (fun _ => ev_op (ev_is (ev_runF T R1 T.n_Run_cache (ev_var rfl)) (show _ = V.int c by rw [hc] <;> rfl)) (ev_var rfl) rv_I0)) ?_
        unfold S.isNewer
        rw [if_neg hg, hc] <;> rfl
theorem spv_newer {H : Hp} {L : Lay} {s : S} {v : Int} (R : RunAt K H L s) : SpV (spNewer K) [.ref L.p, .int v] H (.bl (s.isNewer v)) :=
  fun H1 e Q q E => ⟨L, s, v, rfl, R.mono e, q⟩
end
end K10
end
section
set_option Elab.async false
set_option linter.all false
set_option maxRecDepth 100000
set_option maxHeartbeats 4000000
namespace K10
open PySem PySem.Spec PyProof.Rows L2 Evl
section
variable {P : Program} {w : World} {base h0 : Heap} {K : PySem.W.Frag} {mg : Str → Option Value}
section
variable {H : Hp} {L : Lay} {s : S} {σ : L2.St} {to te : TE} {i : Nat} {t : Addr × Addr × Addr} {o : Op} {f : Str} {y : V} {D : Ends} {tz : TS}
theorem s_setR (T : Txt h0 K mg) (R : RunAt K H L s) (ho : ∀ H1, Ex H H1 → Ev to σ H1 (.ref L.p)) (h : Ev te σ H y) (s' : S) (hn : NoAttr K (He.ga K "Run") f) (hf : putF f y (runF L s) = runF L s') (k : ∀ H', RunAt K H' L s' → Fr L.own H H' → D.nx σ H')
    (h1 : s'.ops = s.ops := by rfl) (h2 : s'.past = s.past := by rfl) (h3 : s'.cfg = s.cfg := by rfl) : sFld K to te f D σ H :=
  h H (Ex.refl H) _ fun H1 e1 => ho H1 e1 H1 (Ex.refl H1) _ fun H2 e2 => runSet T (R.mono (e1.trans e2)) s' hn hf (fun H3 R3 F3 => k H3 R3 ((Fr.of (e1.trans e2)).trans F3)) h1 h2 h3
theorem q_setR (T : Txt h0 K mg) (R : RunAt K H L s) (ho : ∀ H1, Ex H H1 → Ev to σ H1 (.ref L.p)) (h : Ev te σ H y) (s' : S) (hn : NoAttr K (He.ga K "Run") f) (hf : putF f y (runF L s) = runF L s') (k : ∀ H', RunAt K H' L s' → Fr L.own H H' → tz D σ H')
    (h1 : s'.ops = s.ops := by rfl) (h2 : s'.past = s.past := by rfl) (h3 : s'.cfg = s.cfg := by rfl) : tSeq (sFld K to te f) tz D σ H := s_setR (D := { D with nx := tz D }) T R ho h s' hn hf k h1 h2 h3
theorem s_setO (T : Txt h0 K mg) (R : RunAt K H L s) (ht : L.os[i]? = some t) (hi : s.ops[i]? = some o) (ho : ∀ H1, Ex H H1 → Ev to σ H1 (.ref t.1)) (h : Ev te σ H y) (o' : Op) (hn : NoAttr K (He.ga K "Operation") f) (hf : putF f y (opF o i t.2.2) = opF o' i t.2.2)
    (k : ∀ H', RunAt K H' L (s.setOp i o') → Fr L.own H H' → D.nx σ H') (h1 : o'.fin = o.fin := by rfl) (h2 : o'.ret = o.ret := by rfl) : sFld K to te f D σ H :=
  h H (Ex.refl H) _ fun H1 e1 => ho H1 e1 H1 (Ex.refl H1) _ fun H2 e2 => opSet T (R.mono (e1.trans e2)) ht hi o' hn hf (fun H3 R3 F3 => k H3 R3 ((Fr.of (e1.trans e2)).trans F3)) h1 h2
theorem q_setO (T : Txt h0 K mg) (R : RunAt K H L s) (ht : L.os[i]? = some t) (hi : s.ops[i]? = some o) (ho : ∀ H1, Ex H H1 → Ev to σ H1 (.ref t.1)) (h : Ev te σ H y) (o' : Op) (hn : NoAttr K (He.ga K "Operation") f) (hf : putF f y (opF o i t.2.2) = opF o' i t.2.2)
    (k : ∀ H', RunAt K H' L (s.setOp i o') → Fr L.own H H' → tz D σ H') (h1 : o'.fin = o.fin := by rfl) (h2 : o'.ret = o.ret := by rfl) : tSeq (sFld K to te f) tz D σ H := s_setO (D := { D with nx := tz D }) T R ht hi ho h o' hn hf k h1 h2
theorem RunAt.as (R : RunAt K H L s) {s' : S} (hr : runF L s' = runF L s) (hs : s'.steps = s.steps) (hl : s'.ops.length = s.ops.length) (hp : s'.past = s.past)
    (ho : ∀ (i : Nat) (o o' : Op), s.ops[i]? = some o → s'.ops[i]? = some o' → (∀ f, opF o' i f = opF o i f) ∧ o'.fin = o.fin ∧ o'.ret = o.ret) : RunAt K H L s' := by
  refine ⟨by rw [hr]; exact R.run, R.ol, R.el, by rw [hs]; exact R.st, by rw [hl]; exact R.len, fun i t o' h1 h2 => ?_, R.nd, by rw [hp]; exact R.ev, R.ne⟩
  have hi := (List.getElem?_eq_some_iff.mp h2).1
  rw [hl] at hi
  obtain ⟨a1, a2⟩ := R.op i t _ h1 (List.getElem?_eq_getElem hi)
  obtain ⟨b1, b2, b3⟩ := ho i _ o' (List.getElem?_eq_getElem hi) h2
  exact ⟨by rw [b1]; exact a1, by rw [b2, b3]; exact a2⟩
end
def S.upO (s : S) (u : Op → Op) (D : List Nat) : S := { s with ops := s.ops.mapIdx fun i o => if i ∈ D then u o else o }
theorem upO_at {s : S} {u : Op → Op} {D : List Nat} {i : Nat} {o : Op} (h : s.ops[i]? = some o) : (s.upO u D).ops[i]? = some (if i ∈ D then u o else o) := by
  show (s.ops.mapIdx _)[i]? = _
  rw [List.getElem?_mapIdx, h]
  rfl
theorem upO_set {s : S} {u : Op → Op} (hu : ∀ o, u (u o) = u o) {D : List Nat} {i : Nat} {o : Op} (h : s.ops[i]? = some o) : (s.upO u D).setOp i (u (if i ∈ D then u o else o)) = s.upO u (D ++ [i]) := by
  unfold S.setOp S.upO
  congr 1
  apply List.ext_getElem?
  intro j
  have hi := (List.getElem?_eq_some_iff.mp h).1
  by_cases hj : j = i
  · subst hj
    rw [List.getElem?_set_self (by rw [List.length_mapIdx]; exact hi), List.getElem?_mapIdx, h]
    have e1 : j ∈ D ++ [j] := by simp
    simp only [Option.map_some, if_pos e1]
    split <;> simp [hu]
  · rw [List.getElem?_set_ne (fun z => hj z.symm), List.getElem?_mapIdx, List.getElem?_mapIdx]
    have e1 : (j ∈ D ++ [i]) = (j ∈ D) := by simp [hj]
    simp only [e1]
theorem RunAt.own_some {H : Hp} {L : Lay} {s : S} (R : RunAt K H L s) {b : Addr} (h : b ∈ L.own) : ∃ o, H b = some o := by
  rcases List.mem_cons.mp h with rfl | h
  · exact ⟨_, R.run⟩
  rcases List.mem_cons.mp h with rfl | h
  · exact ⟨_, R.ol⟩
  rcases List.mem_cons.mp h with rfl | h
  · exact ⟨_, R.el⟩
  obtain ⟨t, ht, rfl⟩ := List.mem_map.mp h
  obtain ⟨i, hi⟩ := List.mem_iff_getElem?.mp ht
  have hl := (List.getElem?_eq_some_iff.mp hi).1
  rw [R.len] at hl
  exact ⟨_, (R.op i t _ hi (List.getElem?_eq_getElem hl)).1⟩
theorem RunAt.own_ne {H : Hp} {L : Lay} {s : S} (R : RunAt K H L s) {p : Addr} (h : H p = none) : p ∉ L.own := fun z => by
  obtain ⟨o, e⟩ := R.own_some z
  rw [h] at e
  cases e
theorem s_forNLn {σ : L2.St} {H : Hp} {tu : TS} {D : Ends} {xs : List V} {tl : TE} {j : Nat} (h : EvL tl σ H xs) (Pv : Addr → Nat → L2.St → Hp → Prop) (h0 : ∀ p H1, H p = none → Ex H H1 → H1 p = some (.lst xs) → Pv p 0 σ H1) (hl : ∀ p i σ' H', i ≤ xs.length → Pv p i σ' H' → SqL K H' p xs)
    (hs : ∀ p i x σ' H', xs[i]? = some x → Pv p i σ' H' → tu { D with nx := Pv p (i + 1), ct := Pv p (i + 1), bk := D.nx } (σ'.set j (some x)) H') (hd : ∀ p σ' H', Pv p xs.length σ' H' → D.nx σ' H') : tFor (iList K tl) (gName j) tu D σ H :=
  s_forNL h Pv h0 hl hs hd
theorem going_loop (T : Txt h0 K mg) {H : Hp} {L : Lay} {s : S} {σ : L2.St} {tl : TE} {f : Str} {y : V} {j : Nat} {D : Ends} (R : RunAt K H L s) (hl : s.ops.length ≤ 1000) (h : EvL tl σ H (goV L s)) (hj : j < σ.length) (u : Op → Op) (hn : NoAttr K (He.ga K "Operation") f)
    (hf : ∀ o i fl, putF f y (opF o i fl) = opF (u o) i fl) (hu : ∀ o, u (u o) = u o) (h1 : ∀ o, (u o).fin = o.fin) (h2 : ∀ o, (u o).ret = o.ret)
    (k : ∀ σ' H', (∀ x, σ'.set j x = σ.set j x) → RunAt K H' L (s.upO u (gos s)) → Fr L.own H H' → D.nx σ' H') : tFor (iList K tl) (gName j) (sFld K (tVar j) (tC y) f) D σ H := by
  have hlen : (goV L s).length = (gos s).length := by unfold goV gos given; rw [List.length_map]
  refine s_forNLn h (fun p n σ' H' => H p = none ∧ H' p = some (.lst (goV L s)) ∧ RunAt K H' L (s.upO u ((gos s).take n)) ∧ Fr L.own H H' ∧ ∀ x, σ'.set j x = σ.set j x) ?_ ?_ ?_ ?_
  · intro p H1 hp e hL
    refine ⟨hp, hL, ?_, Fr.of e, fun x => rfl⟩
    have e2 : s.upO u ((gos s).take 0) = s := by
      unfold S.upO
      have e3 : (s.ops.mapIdx fun i o => if i ∈ (gos s).take 0 then u o else o) = s.ops := by
        apply List.ext_getElem?
        intro i
        rw [List.getElem?_mapIdx]
        cases s.ops[i]? <;> simp
      rw [e3]
    rw [e2]
    exact R.mono e
  · rintro p n σ' H' _ ⟨_, hL, _⟩
    exact sq_of hL
  · rintro p n x σ' H' hx ⟨hp, hL, Rn, F, hσ⟩
    obtain ⟨i, hi, hg, rfl, hix⟩ := goV_at hx
    obtain ⟨t, ht, et⟩ := R.os_at hi
    rw [et]
    have ho := ops_at hi
    have hlen2 : j < (σ'.set j (some (V.ref t.1))).length := by
      rw [hσ, List.length_set]
      exact hj
    have hv : (σ'.set j (some (V.ref t.1)))[j]? = some (some (.ref t.1)) := by
      rw [List.length_set] at hlen2
      exact List.getElem?_set_self hlen2
    refine s_setO T Rn ht (upO_at ho) (fun H1 _ => ev_var hv) ev_c (u (if i ∈ (gos s).take n then u (s.at i) else s.at i)) hn (hf _ _ _) (fun H2 R2 F2 => ?_) (h1 _) (h2 _)
    rw [upO_set hu ho] at R2
    have e4 : (gos s).take n ++ [i] = (gos s).take (n + 1) := by
      rw [List.take_add_one, show (gos s)[n]? = some i from hix]
      rfl
    rw [e4] at R2
    refine ⟨hp, F2 p _ hL (R.own_ne hp), R2, F.trans F2, fun x => ?_⟩
    rw [List.set_set]
    exact hσ x
  · rintro p σ' H' ⟨_, _, Rn, F, hσ⟩
    rw [hlen, List.take_length] at Rn
    exact k σ' H' hσ Rn F
theorem mem_gos {s : S} {i : Nat} {o : Op} (h : s.ops[i]? = some o) : i ∈ gos s ↔ o.going = true := by
  unfold gos
  rw [List.mem_filter, at_of h, List.mem_range]
  exact ⟨fun z => z.2, fun z => ⟨(List.getElem?_eq_some_iff.mp h).1, z⟩⟩
def spSpoil (K : PySem.W.Frag) : Sp := fun vs H Q _ => ∃ (L : Lay) (s : S), vs = [.ref L.p] ∧ RunAt K H L s ∧ s.ops.length ≤ 1000 ∧ ∀ H', RunAt K H' L s.spoil → Fr L.own H H' → Q .non H'
theorem sc_Run_spoil : FnScope ["self", "one"] ["self"] (defScope s_Run_spoil) := ⟨rfl, rfl, rfl, by decide +kernel, rfl, by decide +kernel, by decide +kernel⟩
theorem ok_Run_spoil (T : Txt h0 K mg) : FnOk P w K mg base CX0 3 (He.ma K (He.ga K "Run") "spoil") (fdOf K (He.ma K (He.ga K "Run") "spoil")) ["self"] (spSpoil K) := by
  refine FnOk.mono (j := 3) ((T.fn_Run_spoil).ok sc_Run_spoil (fun vs H Q E h => ?_) (fun cdv A outer st0 H vs Q E hr h => ?_)) (by decide)
  · obtain ⟨L, s, rfl, _⟩ := h
    rfl
  · obtain ⟨L, s, rfl, R, hl, k⟩ := h
    refine ⟨_, PSs.nox ((pss_one (ps_for PassesOwn.never rfl (pi_listK K (pe_meth0 (pv 0) T.cl_Run T.m_Run_under_way (ok_Run_under_way T) (hr.mono (by decide)) T.b_Run_under_way .nil pass0)) (pg_name (i := 1) sc_Run_spoil.nd rfl (Or.inl rfl))
      (pss_one (ps_fldK K (pv 1) pe_bl))))), ?_⟩
    refine going_loop T R hl (ev_goV T R hl (ev_var rfl)) (by show 1 < 2; decide) (fun o => { o with token := false }) T.n_Operation_token (fun o i fl => rfl) (fun o => rfl) (fun o => rfl) (fun o => rfl) (fun σ' H' _ R' F => k H' ?_ F)
    refine R'.as rfl rfl (by show (s.ops.map _).length = (s.ops.mapIdx _).length; rw [List.length_map, List.length_mapIdx]) rfl fun i o o' e1 e2 => ?_
    have e2 : (s.ops.map Op.spoil)[i]? = some o' := e2
    rw [List.getElem?_map] at e2
    cases e3 : s.ops[i]? with
    | none =>
      rw [e3] at e2
      cases e2
    | some q =>
      rw [e3] at e2
      rw [upO_at e3] at e1
      cases e1
      cases e2
      by_cases hm : i ∈ gos s
      · rw [if_pos hm]
        have hg := (mem_gos e3).mp hm
        refine ⟨fun f => ?_, rfl, rfl⟩
        unfold Op.spoil
        rw [hg] <;> rfl
      · rw [if_neg hm]
        have hg : q.going = false := by
          cases e : q.going with
          | false => rfl
          | true => exact absurd ((mem_gos e3).mpr e) hm
        refine ⟨fun f => ?_, rfl, rfl⟩
        unfold Op.spoil
        rw [hg] <;> rfl
end
end K10
end
section
set_option Elab.async false
set_option linter.all false
set_option maxRecDepth 100000
set_option maxHeartbeats 4000000
namespace K10
open PySem PySem.Spec PyProof.Rows L2 Evl
section
variable {P : Program} {w : World} {base h0 : Heap} {K : PySem.W.Frag} {mg : Str → Option Value}
section
variable {H : Hp} {L : Lay} {s : S} {σ : L2.St} {ta to te : TE} {tr : TA} {i : Nat} {t : Addr × Addr × Addr} {o : Op} {f m : Str} {x y : V} {vs : List V} {D : Ends} {tz : TS} {g1 g2 : TG} {a dx C : Addr} {fs : List (Str × V)} {sp : Sp} {E : XK}
theorem g_pair {σ : L2.St} {H : Hp} {N : L2.St → Hp → Prop} : (fun σ' H' => gCons g2 gNil [y] σ' H' N) = fun σ1 H2 => g2 y σ1 H2 N := by
  funext σ' H'
  apply propext
  have e6 : (fun σ'' H'' => ([] : List V) = [] ∧ N σ'' H'') = N := by
    funext a b
    exact propext ⟨fun z => z.2, fun z => ⟨rfl, z⟩⟩
  constructor
  · rintro ⟨v, r, e3, z⟩
    injection e3 with e4 e5
    subst e4 e5
    have z : g2 y σ' H' (fun σ'' H'' => ([] : List V) = [] ∧ N σ'' H'') := z
    rw [e6] at z
    exact z
  · intro z
    refine ⟨y, [], rfl, ?_⟩
    show g2 y σ' H' (fun σ'' H'' => ([] : List V) = [] ∧ N σ'' H'')
    rw [e6]
    exact z
theorem q_asg2 (h : EvA tr σ H [x, y]) (k : ∀ H1, Ex H H1 → g1 x σ H1 fun σ1 H2 => g2 y σ1 H2 (tz D)) : tSeq (tAsg (tTup tr) (gTup K 2 (gCons g1 (gCons g2 gNil)))) tz D σ H := by
  refine h H (Ex.refl H) _ fun H1 e => ⟨sz_of (by show 2 ≤ 100000; decide), fun p hp => ⟨p, _, rfl, st_of upd_same, rfl, x, [y], rfl, ?_⟩⟩
  show g1 x σ (upd H1 p (.tup [x, y])) fun σ' H' => gCons g2 gNil [y] σ' H' (tz D)
  rw [g_pair (σ := σ) (H := H)]
  exact k _ (e.trans (Ex.new hp))
theorem s_asg2 (h : EvA tr σ H [x, y]) (k : ∀ H1, Ex H H1 → g1 x σ H1 fun σ1 H2 => g2 y σ1 H2 D.nx) : tAsg (tTup tr) (gTup K 2 (gCons g1 (gCons g2 gNil))) D σ H := q_asg2 (tz := fun D => D.nx) h k
theorem g_setO (T : Txt h0 K mg) (R : RunAt K H L s) (ht : L.os[i]? = some t) (hi : s.ops[i]? = some o) (ho : Ev to σ H (.ref t.1)) (o' : Op) (hn : NoAttr K (He.ga K "Operation") f) (hf : putF f y (opF o i t.2.2) = opF o' i t.2.2) {Q : L2.St → Hp → Prop}
    (k : ∀ H', RunAt K H' L (s.setOp i o') → Fr L.own H H' → Q σ H') (h1 : o'.fin = o.fin := by rfl) (h2 : o'.ret = o.ret := by rfl) : gFld K to f y σ H Q :=
  ho H (Ex.refl H) _ fun H2 e2 => opSet T (R.mono e2) ht hi o' hn hf (fun H3 R3 F3 => k H3 R3 ((Fr.of e2).trans F3)) h1 h2
theorem g_setR (T : Txt h0 K mg) (R : RunAt K H L s) (ho : Ev to σ H (.ref L.p)) (s' : S) (hn : NoAttr K (He.ga K "Run") f) (hf : putF f y (runF L s) = runF L s') {Q : L2.St → Hp → Prop} (k : ∀ H', RunAt K H' L s' → Fr L.own H H' → Q σ H')
    (h1 : s'.ops = s.ops := by rfl) (h2 : s'.past = s.past := by rfl) (h3 : s'.cfg = s.cfg := by rfl) : gFld K to f y σ H Q :=
  ho H (Ex.refl H) _ fun H2 e2 => runSet T (R.mono e2) s' hn hf (fun H3 R3 F3 => k H3 R3 ((Fr.of e2).trans F3)) h1 h2 h3
theorem s_meth (h : Ev ta σ H (.ref a)) (ho : H a = some (.ins C dx fs)) (hl : fs.lookup m = none) (ha : EvA tr σ H vs) (k : ∀ H1, Ex H H1 → sp (.ref a :: (vs ++ [])) H1 (fun _ H2 => D.nx σ H2) E) : tDrop (tMeth C m sp [] E ta tr) D σ H :=
  h H (Ex.refl H) _ fun H2 e2 => ⟨a, dx, fs, rfl, e2 a _ ho, hl, ha H2 e2 _ fun H3 e3 => k H3 (e2.trans e3)⟩
theorem q_meth (h : Ev ta σ H (.ref a)) (ho : H a = some (.ins C dx fs)) (hl : fs.lookup m = none) (ha : EvA tr σ H vs) (k : ∀ H1, Ex H H1 → sp (.ref a :: (vs ++ [])) H1 (fun _ H2 => tz D σ H2) E) : tSeq (tDrop (tMeth C m sp [] E ta tr)) tz D σ H :=
  s_meth (D := { D with nx := tz D }) h ho hl ha k
end
theorem set_at {s : S} {i : Nat} {o o' : Op} (h : s.ops[i]? = some o) : (s.setOp i o').ops[i]? = some o' := List.getElem?_set_self (List.getElem?_eq_some_iff.mp h).1
theorem fl_is (c : Option Nat) (i : Nat) : decide (nV c = V.int (i : Int)) = decide (c = some i) := by
  cases c with
  | none => rfl
  | some j =>
    by_cases h : j = i
    · subst h
      show decide (V.int (j : Int) = V.int (j : Int)) = _
      simp
    · have h1 : ¬ nV (some j) = V.int (i : Int) := fun z => by
        have z2 : V.int (j : Int) = V.int (i : Int) := z
        injection z2 with z2
        exact h (by omega)
      have h2 : ¬ some j = some i := fun z => h (Option.some.inj z)
      rw [decide_eq_false h1, decide_eq_false h2]
theorem fl_scal (c : Option Nat) (i : Int) : scal (nV c) (V.int i) = true := by cases c <;> rfl
theorem RunAt.now {H : Hp} {L : Lay} {s : S} (R : RunAt K H L s) : (((L.es.map V.ref).length : Nat) : Int) = s.now := by
  rw [List.length_map, Paired.length R.ev] <;> rfl
def spEnd (K : PySem.W.Frag) : Sp := fun vs H Q _ => ∃ (L : Lay) (s : S) (i : Nat) (t : Addr × Addr × Addr) (o : Op) (v : Int), vs = [.ref L.p, .ref t.1] ∧ RunAt K H L s ∧ L.os[i]? = some t ∧ s.ops[i]? = some o ∧ o.ver = some v ∧
  ∀ H', RunAt K H' L (s.endOp i o) → Fr L.own H H' → Q .non H'
theorem sc_Run_end : FnScope ["self", "one"] ["self", "one"] (defScope s_Run_end) := ⟨rfl, rfl, rfl, by decide +kernel, rfl, by decide +kernel, by decide +kernel⟩
theorem ok_Run_end (T : Txt h0 K mg) : FnOk P w K mg base CX0 1 (He.ma K (He.ga K "Run") "end") (fdOf K (He.ma K (He.ga K "Run") "end")) ["self", "one"] (spEnd K) := by
  refine FnOk.mono (j := 1) ((T.fn_Run_end).ok sc_Run_end (fun vs H Q E h => ?_) (fun cdv A outer st0 H vs Q E hr h => ?_)) (by decide)
  · obtain ⟨L, s, i, t, o, v, rfl, _⟩ := h
    rfl
  · obtain ⟨L, s, i, t, o, v, rfl, R, ht, ho, hv, k⟩ := h
    refine ⟨_, PSs.nox ((pss_cons (ps_asg (pe_tup (pa_cons pe_str (pa_cons (pe_callB (call_lenK K) (by rfl) T.f_len (by decide +kernel) (pa_cons (pe_fldK K (pv 0)) pa_nil)) pa_nil))) (pg_tupK K (pgs_cons (pg_fldK K (pv 1)) (pgs_cons (pg_fldK K (pv 1)) pgs_nil))))
      (pss_cons (ps_if (pt_cmpR op_eq (pe_fldK K (pv 1)) pe_str (nomark _)) (pss_one (ps_fldK K (pv 0) (pe_callB (call_max2S rfl) (by rfl) T.f_max (by decide +kernel) (pa_cons (pe_fldK K (pv 0)) (pa_cons (pe_fldK K (pv 1)) pa_nil))))) (pss_cons (ps_fldK K (pv 0) (pe_callB (call_max2S rfl) (by rfl) T.f_max (by decide +kernel) (pa_cons (pe_fldK K (pv 0)) (pa_cons (pe_fldK K (pv 1)) pa_nil))))
      (pss_one (ps_fldK K (pv 0) (pv 1)))))
      (pss_one (ps_if (pt_cmpR op_eq (pe_fldK K (pv 0)) (pe_fldK K (pv 1)) (nomark _)) (pss_one (ps_fldK K (pv 0) pe_non)) pss_nil))))), ?_⟩
    refine q_asg2 (ea_cons ev_c (ea_cons (ev_len (ev_runF T R T.n_Run_events_done (ev_var rfl)) (sq_of R.el)) ea_nil)) fun H1 e1 => ?_
    rw [R.now]
    refine g_setO T (R.mono e1) ht ho (ev_var rfl) { o with stage := .ended } T.n_Operation_stage rfl fun H2 R2 F2 => ?_
    show gFld _ _ _ _ _ _ _
    refine g_setO T R2 ht (set_at ho) (ev_var rfl) { o with stage := .ended, ended := some s.now } T.n_Operation_ended rfl fun H3 R3 F3 => ?_
    have F03 : Fr L.own H H3 := (Fr.of e1).trans (F2.trans F3)
    have ho3 : ((s.setOp i { o with stage := .ended }).setOp i { o with stage := .ended, ended := some s.now }).ops[i]? = some { o with stage := .ended, ended := some s.now } := set_at (set_at ho)
    have hops : ((s.setOp i { o with stage := .ended }).setOp i { o with stage := .ended, ended := some s.now }).ops = s.ops.set i { o with stage := .ended, ended := some s.now } := List.set_set ..
    have fin : ∀ (r : S) (H4 : Hp), RunAt K H4 L r → Fr L.own H H4 → r.cfg = s.cfg → r.db = s.db → r.rep = s.rep → r.cache = s.cache → r.mark = s.mark → r.past = s.past → r.fl = s.fl → r.ops = s.ops.set i { o with stage := .ended, ended := some s.now } →
        r.fin = (s.endOp i o).fin → r.ret = (s.endOp i o).ret → r.last = (s.endOp i o).last →
        tIfS (tTest (tOp rEq (tFld K (tVar 0) "flight") (tFld K (tVar 1) "number"))) (sFld K (tVar 0) (tC .non) "flight") tNext { nx := fun _ H' => Q .non H', rt := Q } (L2.start ["self", "one"] [V.ref L.p, V.ref t.1]) H4 := by
      intro r H4 R4 F4 c1 c2 c3 c4 c5 c6 c7 c8 c9 c10 c11
      have ho4 : r.ops[i]? = some { o with stage := .ended, ended := some s.now } := by
        rw [c8]
        exact List.getElem?_set_self (List.getElem?_eq_some_iff.mp ho).1
      have asF : ∀ (q : S) (H5 : Hp), RunAt K H5 L q → q = { r with fl := (s.endOp i o).fl } → RunAt K H5 L (s.endOp i o) := by
        intro q H5 R5 eq
        subst eq
        refine R5.as ?_ ?_ ?_ ?_ fun j a b h1 h2 => ?_
        · unfold runF
          simp only [c1, c2, c3, c4, c5, c9, c10, c11] <;> rfl
        · unfold S.steps
          simp only [c1] <;> rfl
        · show (s.ops.set i _).length = r.ops.length
          rw [c8, List.length_set, List.length_set]
        · exact c6.symm
        · have h1 : r.ops[j]? = some a := h1
          have h2 : (s.ops.set i { o with stage := .ended, ended := some s.now, over := some s.now })[j]? = some b := h2
          rw [c8] at h1
          by_cases hj : j = i
          · subst hj
            have hl := (List.getElem?_eq_some_iff.mp ho).1
            rw [List.getElem?_set_self hl] at h1 h2
            cases h1
            cases h2
            exact ⟨fun f => rfl, rfl, rfl⟩
          · rw [List.getElem?_set_ne (fun z => hj z.symm)] at h1 h2
            rw [h1] at h2
            cases h2
            exact ⟨fun f => rfl, rfl, rfl⟩
      refine s_when (et_test (ev_op (ev_runF T R4 T.n_Run_flight (ev_var rfl)) (ev_opF T R4 ht ho4 T.n_Operation_number (ev_var rfl)) (rv_eq (fl_scal _ _)))) (fun hb H5 e5 => ?_) (fun hb H5 e5 => ?_)
      · rw [fl_is, c7] at hb
        have hb : s.fl = some i := of_decide_eq_true hb
        refine s_setR T (R4.mono e5) (fun _ _ => ev_var rfl) ev_c { r with fl := none } T.n_Run_flight rfl fun H6 R6 F6 => k H6 (asF _ _ R6 ?_) (F4.trans ((Fr.of e5).trans F6))
        unfold S.endOp
        simp only [if_pos hb]
      · rw [fl_is, c7] at hb
        have hb : ¬ s.fl = some i := of_decide_eq_false hb
        refine k H5 (asF _ _ (R4.mono e5) ?_) (F4.trans (Fr.of e5))
        unfold S.endOp
        simp only [if_neg hb]
        rw [← c7]
    refine q_if (et_test (ev_kindW T R3 ht ho3 (ev_var rfl))) (fun hb H4 e4 => ?_) (fun hb H4 e4 => ?_)
    · have hw : o.wr = true := hb
      have R4 := R3.mono e4
      refine s_setR T R4 (fun _ _ => ev_var rfl) (ev_max2' (ev_runF T R4 T.n_Run_finished (ev_var rfl)) (ev_is (ev_opF T R4 ht ho3 T.n_Operation_version (ev_var rfl)) (show _ = V.int v by show oV o.ver = _; rw [hv]; rfl))) { (s.setOp i { o with stage := .ended }).setOp i { o with stage := .ended, ended := some s.now } with fin := mx s.fin v } T.n_Run_finished rfl fun H5 R5 F5 => ?_
      refine fin _ H5 R5 (F03.trans ((Fr.of e4).trans F5)) rfl rfl rfl rfl rfl rfl rfl hops ?_ ?_ ?_
      · unfold S.endOp
        simp only [if_pos hw, hv] <;> rfl
      · unfold S.endOp
        simp only [if_pos hw] <;> rfl
      · unfold S.endOp
        simp only [if_pos hw] <;> rfl
    · have hw : ¬ o.wr = true := by
        intro z
        have hb : o.wr = false := hb
        rw [hb] at z
        cases z
      have R4 := R3.mono e4
      refine q_setR T R4 (fun _ _ => ev_var rfl) (ev_max2' (ev_runF T R4 T.n_Run_returned (ev_var rfl)) (ev_is (ev_opF T R4 ht ho3 T.n_Operation_version (ev_var rfl)) (show _ = V.int v by show oV o.ver = _; rw [hv]; rfl))) { (s.setOp i { o with stage := .ended }).setOp i { o with stage := .ended, ended := some s.now } with ret := mx s.ret v } T.n_Run_returned rfl fun H5 R5 F5 => ?_
      refine s_setR T R5 (fun _ _ => ev_var rfl) (ev_var rfl) { ((s.setOp i { o with stage := .ended }).setOp i { o with stage := .ended, ended := some s.now }) with ret := mx s.ret v, last := some i } T.n_Run_last (by rw [← opA_of ht]; rfl) fun H6 R6 F6 => ?_
      refine fin _ H6 R6 (F03.trans ((Fr.of e4).trans (F5.trans F6))) rfl rfl rfl rfl rfl rfl rfl hops ?_ ?_ ?_
      · unfold S.endOp
        simp only [if_neg hw] <;> rfl
      · unfold S.endOp
        simp only [if_neg hw, hv] <;> rfl
      · unfold S.endOp
        simp only [if_neg hw] <;> rfl
end
end K10
end
section
set_option Elab.async false
set_option linter.all false
set_option maxRecDepth 100000
set_option maxHeartbeats 4000000
namespace K10
open PySem PySem.Spec PyProof.Rows L2 Evl
section
variable {P : Program} {w : World} {base h0 : Heap} {K : PySem.W.Frag} {mg : Str → Option Value}
section
variable {H : Hp} {L : Lay} {s : S} {σ : L2.St} {ta to te : TE} {i : Nat} {t : Addr × Addr × Addr} {o : Op} {f : Str} {m n : Int} {D : Ends} {tz : TS}
theorem s_augR (T : Txt h0 K mg) (R : RunAt K H L s) (ho : Ev ta σ H (.ref L.p)) (hn : NoAttr K (He.ga K "Run") f) (hl : (runF L s).lookup f = some (.int m)) (h : Ev te σ H (.int n)) (s' : S) (hf : putF f (.int (m + n)) (runF L s) = runF L s')
    (k : ∀ H', RunAt K H' L s' → Fr L.own H H' → D.nx σ H') (h1 : s'.ops = s.ops := by rfl) (h2 : s'.past = s.past := by rfl) (h3 : s'.cfg = s.cfg := by rfl) : sFldAug K ta te rAdd f D σ H := by
  refine ho H (Ex.refl H) _ fun H1 e1 => ⟨L.p, _, _, _, .int m, rfl, e1 _ _ R.run, T.cl_Run, hn, hl, ?_⟩
  refine h H1 e1 _ fun H2 e2 => ⟨m, n, rfl, rfl, L.dp, runF L s, e2 _ _ (e1 _ _ R.run), (by show 16 < 1000; decide), ?_⟩
  rw [hf]
  exact k _ ((R.mono (e1.trans e2)).setRun h1 h2 h3) ((Fr.of (e1.trans e2)).trans (Fr.upd R.own_run))
theorem q_augR (T : Txt h0 K mg) (R : RunAt K H L s) (ho : Ev ta σ H (.ref L.p)) (hn : NoAttr K (He.ga K "Run") f) (hl : (runF L s).lookup f = some (.int m)) (h : Ev te σ H (.int n)) (s' : S) (hf : putF f (.int (m + n)) (runF L s) = runF L s')
    (k : ∀ H', RunAt K H' L s' → Fr L.own H H' → tz D σ H') (h1 : s'.ops = s.ops := by rfl) (h2 : s'.past = s.past := by rfl) (h3 : s'.cfg = s.cfg := by rfl) : tSeq (sFldAug K ta te rAdd f) tz D σ H := s_augR (D := { D with nx := tz D }) T R ho hn hl h s' hf k h1 h2 h3
theorem q_augO (T : Txt h0 K mg) (R : RunAt K H L s) (ht : L.os[i]? = some t) (hi : s.ops[i]? = some o) (ho : Ev ta σ H (.ref t.1)) (hn : NoAttr K (He.ga K "Operation") f) (hl : (opF o i t.2.2).lookup f = some (.int m)) (h : Ev te σ H (.int n)) (o' : Op) (hf : putF f (.int (m + n)) (opF o i t.2.2) = opF o' i t.2.2)
    (k : ∀ H', RunAt K H' L (s.setOp i o') → Fr L.own H H' → tz D σ H') (h1 : o'.fin = o.fin := by rfl) (h2 : o'.ret = o.ret := by rfl) : tSeq (sFldAug K ta te rAdd f) tz D σ H := by
  refine ho H (Ex.refl H) _ fun H1 e1 => ⟨t.1, _, _, _, .int m, rfl, e1 _ _ (R.op i t o ht hi).1, T.cl_Operation, hn, hl, ?_⟩
  refine h H1 e1 _ fun H2 e2 => ⟨m, n, rfl, rfl, t.2.1, opF o i t.2.2, e2 _ _ (e1 _ _ (R.op i t o ht hi).1), (by show 11 < 1000; decide), ?_⟩
  rw [hf]
  exact k _ ((R.mono (e1.trans e2)).setOp ht hi h1 h2) ((Fr.of (e1.trans e2)).trans (Fr.upd (own_op ht)))
end
theorem endOp_set (s : S) (i : Nat) (a b : Op) : (s.setOp i a).endOp i b = s.endOp i b := by
  unfold S.endOp S.setOp S.now
  simp only [List.set_set]
theorem q_end (T : Txt h0 K mg) {H : Hp} {L : Lay} {s : S} {i : Nat} {t : Addr × Addr × Addr} {o : Op} {v : Int} {a b : TE} {σ : L2.St} {D : Ends} {E : XK} (R : RunAt K H L s) (ht : L.os[i]? = some t) (ho : s.ops[i]? = some o) (hv : o.ver = some v)
    (ha : Ev a σ H (.ref L.p)) (hb : Ev b σ H (.ref t.1)) (k : ∀ H', RunAt K H' L (s.endOp i o) → Fr L.own H H' → D.nx σ H') : tDrop (tMeth (He.ga K "Run") "end" (spEnd K) [] E a (tCons b tNil)) D σ H :=
  s_meth ha R.run rfl (ea_cons hb ea_nil) fun H1 e1 => ⟨L, s, i, t, o, v, rfl, R.mono e1, ht, ho, hv, fun H' R' F' => k H' R' ((Fr.of e1).trans F')⟩
def spLook (K : PySem.W.Frag) : Sp := fun vs H Q _ => ∃ (L : Lay) (s : S) (i : Nat) (t : Addr × Addr × Addr) (o : Op), vs = [.ref L.p, .ref t.1] ∧ RunAt K H L s ∧ L.os[i]? = some t ∧ s.ops[i]? = some o ∧
  ∀ H', RunAt K H' L (s.doLook i o) → Fr L.own H H' → Q .non H'
theorem sc_Run_look : FnScope ["self", "one"] ["self", "one"] (defScope s_Run_look) := ⟨rfl, rfl, rfl, by decide +kernel, rfl, by decide +kernel, by decide +kernel⟩
theorem ok_Run_look (T : Txt h0 K mg) : FnOk P w K mg base CX0 2 (He.ma K (He.ga K "Run") "look") (fdOf K (He.ma K (He.ga K "Run") "look")) ["self", "one"] (spLook K) := by
  refine FnOk.mono (j := 2) ((T.fn_Run_look).ok sc_Run_look (fun vs H Q E h => ?_) (fun cdv A outer st0 H vs Q E hr h => ?_)) (by decide)
  · obtain ⟨L, s, i, t, o, rfl, _⟩ := h
    rfl
  · obtain ⟨L, s, i, t, o, rfl, R, ht, ho, k⟩ := h
    refine ⟨_, PSs.nox ((pss_one (ps_if (pt_cmp (pc_notN (pe_fldK K (pv 0)))) (pss_cons (ps_fldK K (pv 1) (pe_fldK K (pv 0)))
      (pss_one (ps_expr (pe_meth (pv 0) T.cl_Run T.m_Run_end (ok_Run_end T) (hr.mono (by decide)) T.b_Run_end .nil pass0 (pa_cons (pv 1) pa_nil))))) (pss_one (ps_if (PW.pt (pw_and (pt_val (pe_fldK K (pv 0))) (pw_and1 (pt_cmp (pc_notN (pe_fldK K (pv 0))))))) (pss_one (ps_asg (pe_tup (pa_cons pe_str (pa_cons (pe_fldK K (pv 0)) pa_nil))) (pg_tupK K (pgs_cons (pg_fldK K (pv 1)) (pgs_cons (pg_fldK K (pv 1)) pgs_nil))))) (pss_cons (ps_fldK K (pv 1) pe_str)
      (pss_one (ps_fldK K (pv 0) (pe_ifExp (pt_val (pe_fldK K (pv 0))) (pe_fldK K (pv 1)) pe_non))))))))), ?_⟩
    refine s_if (b := decide (s.cache ≠ none)) (et_is (et_B (ev_notN (ev_runF T R T.n_Run_cache (ev_var rfl)))) (by rw [oV_non]; simp)) (fun hb H1 e1 => ?_) (fun hb H1 e1 => ?_)
    · have R1 := R.mono e1
      cases hc : s.cache with
      | none =>
        rw [hc] at hb
        cases hb
      | some v =>
        refine q_setO T R1 ht ho (fun _ _ => ev_var rfl) (ev_is (ev_runF T R1 T.n_Run_cache (ev_var rfl)) (show _ = V.int v by rw [hc]; rfl)) { o with ver := some v } T.n_Operation_version rfl fun H2 R2 F2 => ?_
        refine q_end T R2 ht (set_at ho) (v := v) rfl (ev_var rfl) (ev_var rfl) fun H3 R3 F3 => k H3 ?_ ((Fr.of e1).trans (F2.trans F3))
        rw [endOp_set] at R3
        unfold S.doLook
        rw [hc]
        exact R3
    · have hc : s.cache = none := by
        cases hc : s.cache with
        | none => rfl
        | some v =>
          rw [hc] at hb
          cases hb
      have R1 := R.mono e1
      refine s_if (b := s.cfg.shared && decide (s.fl ≠ none)) (et_and (et_B (ev_runF T R1 T.n_Run_is_shared (ev_var rfl))) fun _ => et_is (et_B (ev_notN (ev_runF T R1 T.n_Run_flight (ev_var rfl)))) (by rw [nV_non]; simp)) (fun hb2 H2 e2 => ?_) (fun hb2 H2 e2 => ?_)
      · obtain ⟨c1, c2⟩ := Bool.and_eq_true_iff.mp hb2
        have c2 : s.fl ≠ none := of_decide_eq_true c2
        have R2 := R1.mono e2
        refine s_asg2 (ea_cons ev_c (ea_cons (ev_runF T R2 T.n_Run_flight (ev_var rfl)) ea_nil)) fun H3 e3 => ?_
        refine g_setO T (R2.mono e3) ht ho (ev_var rfl) { o with stage := .waits } T.n_Operation_stage rfl fun H4 R4 F4 => ?_
        show gFld _ _ _ _ _ _ _
        refine g_setO T R4 ht (set_at ho) (ev_var rfl) { o with stage := .waits, leader := s.fl } T.n_Operation_leader rfl fun H5 R5 F5 => k H5 ?_ (((Fr.of e1).trans (Fr.of e2)).trans ((Fr.of e3).trans (F4.trans F5)))
        have e6 : (s.setOp i { o with stage := .waits }).setOp i { o with stage := .waits, leader := s.fl } = s.setOp i { o with stage := .waits, leader := s.fl } := by
          unfold S.setOp
          simp only [List.set_set]
        rw [e6] at R5
        unfold S.doLook
        rw [hc]
        show RunAt K H5 L (if _ then _ else _)
        rw [if_pos ⟨c1, c2⟩]
        exact R5
      · have c : ¬ (s.cfg.shared = true ∧ s.fl ≠ none) := fun ⟨c1, c2⟩ => by
          rw [c1, decide_eq_true c2] at hb2
          cases hb2
        have R2 := R1.mono e2
        refine q_setO T R2 ht ho (fun _ _ => ev_var rfl) ev_c { o with stage := .fetch } T.n_Operation_stage rfl fun H3 R3 F3 => ?_
        refine s_setR T R3 (fun _ _ => ev_var rfl) (y := nV (if s.cfg.shared then some i else none)) (ev_if (et_B (ev_runF T R3 T.n_Run_is_shared (ev_var rfl))) (fun z => ?_) (fun z => ?_)) { s.setOp i { o with stage := .fetch } with fl := if s.cfg.shared then some i else none } T.n_Run_flight rfl fun H4 R4 F4 => k H4 ?_ (((Fr.of e1).trans (Fr.of e2)).trans (F3.trans F4))
        · have z : s.cfg.shared = true := z
          rw [if_pos z]
          exact ev_opF T R3 ht (set_at ho) T.n_Operation_number (ev_var rfl)
        · have z : s.cfg.shared = false := z
          rw [z]
          exact ev_c
        · have e7 : s.doLook i o = { s.setOp i { o with stage := .fetch } with fl := if s.cfg.shared then some i else none } := by
            unfold S.doLook
            split
            · rename_i v hv
              rw [hc] at hv
              cases hv
            · rw [if_neg c]
              rfl
          rw [e7]
          exact R4
def spFetch (K : PySem.W.Frag) : Sp := fun vs H Q _ => ∃ (L : Lay) (s : S) (i : Nat) (t : Addr × Addr × Addr) (o : Op), vs = [.ref L.p, .ref t.1] ∧ RunAt K H L s ∧ L.os[i]? = some t ∧ s.ops[i]? = some o ∧
  ∀ H', RunAt K H' L (s.doFetch i o) → Fr L.own H H' → Q .non H'
theorem sc_Run_fetch : FnScope ["self", "one"] ["self", "one"] (defScope s_Run_fetch) := ⟨rfl, rfl, rfl, by decide +kernel, rfl, by decide +kernel, by decide +kernel⟩
theorem ok_Run_fetch (T : Txt h0 K mg) : FnOk P w K mg base CX0 2 (He.ma K (He.ga K "Run") "fetch") (fdOf K (He.ma K (He.ga K "Run") "fetch")) ["self", "one"] (spFetch K) := by
  refine FnOk.mono (j := 2) ((T.fn_Run_fetch).ok sc_Run_fetch (fun vs H Q E h => ?_) (fun cdv A outer st0 H vs Q E hr h => ?_)) (by decide)
  · obtain ⟨L, s, i, t, o, rfl, _⟩ := h
    rfl
  · obtain ⟨L, s, i, t, o, rfl, R, ht, ho, k⟩ := h
    refine ⟨_, PSs.nox ((pss_cons (ps_fldK K (pv 1) (pe_ifExp (pt_val (pe_fldK K (pv 0))) (pe_fldK K (pv 0)) (pe_fldK K (pv 0))))
      (pss_cons (ps_fldK K (pv 1) pe_str)
      (pss_one (ps_if (pt_cmpR op_eq (pe_fldK K (pv 0)) pe_str (nomark _)) (pss_one (ps_expr (pe_meth (pv 0) T.cl_Run T.m_Run_end (ok_Run_end T) (hr.mono (by decide)) T.b_Run_end .nil pass0 (pa_cons (pv 1) pa_nil)))) pss_nil))))), ?_⟩
    refine q_setO T R ht ho (fun _ _ => ev_var rfl) (y := .int s.source) (ev_if (et_B (ev_runF T R T.n_Run_has_replica (ev_var rfl))) (fun z => ?_) (fun z => ?_)) { o with ver := some s.source } T.n_Operation_version rfl fun H1 R1 F1 => ?_
    · have z : s.cfg.repl = true := z
      unfold S.source
      rw [if_pos z]
      exact ev_runF T R T.n_Run_replica (ev_var rfl)
    · have z : s.cfg.repl = false := z
      unfold S.source
      rw [z]
      exact ev_runF T R T.n_Run_database (ev_var rfl)
    · refine q_setO T R1 ht (set_at ho) (fun _ _ => ev_var rfl) ev_c { o with ver := some s.source, stage := .fill } T.n_Operation_stage rfl fun H2 R2 F2 => ?_
      have e6 : (s.setOp i { o with ver := some s.source }).setOp i { o with ver := some s.source, stage := .fill } = s.setOp i { o with ver := some s.source, stage := .fill } := by
        unfold S.setOp
        simp only [List.set_set]
      rw [e6] at R2
      refine s_when (et_test (ev_guard T R2 (ev_var rfl) .never)) (fun hb H3 e3 => ?_) (fun hb H3 e3 => ?_)
      · have hb : s.cfg.guard = .never := of_decide_eq_true hb
        refine q_end T (R2.mono e3) ht (set_at ho) (v := s.source) rfl (ev_var rfl) (ev_var rfl) fun H4 R4 F4 => k H4 ?_ (F1.trans (F2.trans ((Fr.of e3).trans F4)))
        unfold S.doFetch
        rw [if_pos hb]
        exact R4
      · have hb : ¬ s.cfg.guard = .never := of_decide_eq_false hb
        refine k H3 ?_ (F1.trans (F2.trans (Fr.of e3)))
        unfold S.doFetch
        rw [if_neg hb]
        exact R2.mono e3
def spFill (K : PySem.W.Frag) : Sp := fun vs H Q _ => ∃ (L : Lay) (s : S) (i : Nat) (t : Addr × Addr × Addr) (o : Op) (v : Int), vs = [.ref L.p, .ref t.1] ∧ RunAt K H L s ∧ L.os[i]? = some t ∧ s.ops[i]? = some o ∧ o.ver = some v ∧
  ∀ H', RunAt K H' L (s.doFill i o) → Fr L.own H H' → Q .non H'
theorem ev_newer {H : Hp} {L : Lay} {s : S} {a b : TE} {σ : L2.St} {v : Int} {E : XK} (R : RunAt K H L s) (ha : Ev a σ H (.ref L.p)) (hb : Ev b σ H (.int v)) : Ev (tMeth (He.ga K "Run") "is_newer" (spNewer K) [] E a (tCons b tNil)) σ H (.bl (s.isNewer v)) :=
  ev_meth ha R.run rfl (ea_cons hb ea_nil) (spv_newer R)
theorem s_put {H : Hp} {L : Lay} {s : S} {v : Int} {a b : TE} {σ : L2.St} {D : Ends} {E : XK} (R : RunAt K H L s) (ha : Ev a σ H (.ref L.p)) (hb : Ev b σ H (.int v)) (k : ∀ H', RunAt K H' L (s.put v) → Fr L.own H H' → D.nx σ H') : tDrop (tMeth (He.ga K "Run") "put" (spPut K) [] E a (tCons b tNil)) D σ H :=
  s_meth ha R.run rfl (ea_cons hb ea_nil) fun H1 e1 => ⟨L, s, v, rfl, R.mono e1, fun H' R' F' => k H' R' ((Fr.of e1).trans F')⟩
theorem put_ops (s : S) (v : Int) : (s.put v).ops = s.ops := rfl
theorem sc_Run_fill : FnScope ["self", "one", "good"] ["self", "one"] (defScope s_Run_fill) := ⟨rfl, rfl, rfl, by decide +kernel, rfl, by decide +kernel, by decide +kernel⟩
theorem ok_Run_fill (T : Txt h0 K mg) : FnOk P w K mg base CX0 2 (He.ma K (He.ga K "Run") "fill") (fdOf K (He.ma K (He.ga K "Run") "fill")) ["self", "one"] (spFill K) := by
  refine FnOk.mono (j := 2) ((T.fn_Run_fill).ok sc_Run_fill (fun vs H Q E h => ?_) (fun cdv A outer st0 H vs Q E hr h => ?_)) (by decide)
  · obtain ⟨L, s, i, t, o, v, rfl, _⟩ := h
    rfl
  · obtain ⟨L, s, i, t, o, v, rfl, R, ht, ho, hv, k⟩ := h
    refine ⟨_, PSs.nox ((pss_cons (ps_if (pt_cmpR op_eq (pe_fldK K (pv 0)) pe_str (nomark _)) (pss_one (ps_set (i := 2) sc_Run_fill.nd rfl (Or.inl rfl) (pe_cmp (pc_isN (pe_fldK K (pv 0)))))) (pss_one (ps_if (pt_cmpR op_eq (pe_fldK K (pv 0)) pe_str (nomark _)) (pss_one (ps_set (i := 2) sc_Run_fill.nd rfl (Or.inl rfl) (pe_fldK K (pv 1)))) (pss_one (ps_set (i := 2) sc_Run_fill.nd rfl (Or.inl rfl) (pe_or (pe_cmpR op_eq (pe_fldK K (pv 0)) pe_str (nomark _)) (pe_one (pe_meth (pv 0) T.cl_Run T.m_Run_is_newer (ok_Run_is_newer T) (hr.mono (by decide)) T.b_Run_is_newer .nil pass0 (pa_cons (pe_fldK K (pv 1)) pa_nil)))))))))
      (pss_cons (ps_if (pt_val (pv 2)) (pss_one (ps_expr (pe_meth (pv 0) T.cl_Run T.m_Run_put (ok_Run_put T) (hr.mono (by decide)) T.b_Run_put .nil pass0 (pa_cons (pe_fldK K (pv 1)) pa_nil)))) pss_nil)
      (pss_one (ps_expr (pe_meth (pv 0) T.cl_Run T.m_Run_end (ok_Run_end T) (hr.mono (by decide)) T.b_Run_end .nil pass0 (pa_cons (pv 1) pa_nil))))))), ?_⟩
    have rest : ∀ (H1 : Hp) (b : Bool), Ex H H1 → b = s.lets o o.token → tSeq (tIfS (tB (tVar 2)) (tDrop (tMeth (He.ga K "Run") "put" (spPut K) [] E0 (tVar 0) (tCons (tFld K (tVar 1) "version") tNil))) tNext) (tDrop (tMeth (He.ga K "Run") "end" (spEnd K) [] E0 (tVar 0) (tCons (tVar 1) tNil)))
        { nx := fun _ H' => Q .non H', rt := Q } [some (.ref L.p), some (.ref t.1), some (.bl b)] H1 := by
      intro H1 b e1 hb
      have R1 := R.mono e1
      refine q_when (et_B (ev_var rfl)) (fun z H2 e2 => ?_) (fun z H2 e2 => ?_)
      · have R2 := R1.mono e2
        refine s_put R2 (ev_var rfl) (v := v) (ev_is (ev_opF T R2 ht ho T.n_Operation_version (ev_var rfl)) (show oV o.ver = V.int v by rw [hv]; rfl)) fun H3 R3 F3 => ?_
        refine q_end T R3 ht (o := o) ho hv (ev_var rfl) (ev_var rfl) fun H4 R4 F4 => k H4 ?_ ((Fr.of (e1.trans e2)).trans (F3.trans F4))
        unfold S.doFill
        rw [← hb, z, if_pos rfl, hv]
        exact R4
      · refine q_end T (R1.mono e2) ht (o := o) ho hv (ev_var rfl) (ev_var rfl) fun H4 R4 F4 => k H4 ?_ ((Fr.of (e1.trans e2)).trans F4)
        unfold S.doFill
        rw [← hb, z, if_neg Bool.false_ne_true]
        exact R4
    refine q_if (et_test (ev_guard T R (ev_var rfl) .empty)) (fun hb H1 e1 => ?_) (fun hb H1 e1 => ?_)
    · have hb : s.cfg.guard = .empty := of_decide_eq_true hb
      refine s_asg (ev_isN (ev_runF T (R.mono e1) T.n_Run_cache (ev_var rfl))) fun H2 e2 => rest H2 _ (e1.trans e2) ?_
      rw [oV_non]
      unfold S.lets
      rw [if_pos hb]
    · have hb : ¬ s.cfg.guard = .empty := of_decide_eq_false hb
      have R1 := R.mono e1
      refine s_if (et_test (ev_guard T R1 (ev_var rfl) .token)) (fun hb2 H2 e2 => ?_) (fun hb2 H2 e2 => ?_)
      · have hb2 : s.cfg.guard = .token := of_decide_eq_true hb2
        refine s_asg (ev_opF T (R1.mono e2) ht ho T.n_Operation_token (ev_var rfl)) fun H3 e3 => rest H3 _ (e1.trans (e2.trans e3)) ?_
        unfold S.lets
        rw [if_neg hb, if_pos hb2]
      · have hb2 : ¬ s.cfg.guard = .token := of_decide_eq_false hb2
        have R2 := R1.mono e2
        refine s_asg (ev_orV (ev_guard T R2 (ev_var rfl) .always) fun _ => ev_newer R2 (ev_var rfl) (ev_is (ev_opF T R2 ht ho T.n_Operation_version (ev_var rfl)) (show oV o.ver = V.int v by rw [hv]; rfl))) fun H3 e3 => rest H3 _ (e1.trans (e2.trans e3)) ?_
        unfold S.lets
        rw [if_neg hb, if_neg hb2, hv] <;> rfl
def spTake (K : PySem.W.Frag) : Sp := fun vs H Q _ => ∃ (L : Lay) (s : S) (i j : Nat) (t : Addr × Addr × Addr) (o q : Op) (v : Int), vs = [.ref L.p, .ref t.1] ∧ RunAt K H L s ∧ L.os[i]? = some t ∧ s.ops[i]? = some o ∧ o.leader = some j ∧ s.ops[j]? = some q ∧ q.ver = some v ∧
  ∀ H', RunAt K H' L (s.doTake i o) → Fr L.own H H' → Q .non H'
theorem sc_Run_take : FnScope ["self", "one"] ["self", "one"] (defScope s_Run_take) := ⟨rfl, rfl, rfl, by decide +kernel, rfl, by decide +kernel, by decide +kernel⟩
theorem ok_Run_take (T : Txt h0 K mg) : FnOk P w K mg base CX0 2 (He.ma K (He.ga K "Run") "take") (fdOf K (He.ma K (He.ga K "Run") "take")) ["self", "one"] (spTake K) := by
  refine FnOk.mono (j := 2) ((T.fn_Run_take).ok sc_Run_take (fun vs H Q E h => ?_) (fun cdv A outer st0 H vs Q E hr h => ?_)) (by decide)
  · obtain ⟨L, s, i, j, t, o, q, v, rfl, _⟩ := h
    rfl
  · obtain ⟨L, s, i, j, t, o, q, v, rfl, R, ht, ho, hj, hq, hv, k⟩ := h
    refine ⟨_, PSs.nox ((pss_cons (ps_fldK K (pv 1) (pe_fldK K (pe_ix (ix_listK K) (pe_fldK K (pv 0)) (pe_fldK K (pv 1)) (fun _ _ => rfl))))
      (pss_one (ps_expr (pe_meth (pv 0) T.cl_Run T.m_Run_end (ok_Run_end T) (hr.mono (by decide)) T.b_Run_end .nil pass0 (pa_cons (pv 1) pa_nil)))))), ?_⟩
    obtain ⟨tj, htj, htj1, _⟩ := R.at hq
    have el : (s.ldr o).ver = some v := by
      unfold S.ldr
      rw [hj]
      show (s.at j).ver = some v
      rw [at_of hq, hv]
    refine q_setO T R ht ho (fun _ _ => ev_var rfl) (y := .int v) (ev_is (ev_opF T R htj hq T.n_Operation_version (ev_op (ev_runF T R T.n_Run_operations (ev_var rfl)) (ev_opF T R ht ho T.n_Operation_leader (ev_var rfl)) (by rw [hj]; exact rv_ixL (sq_of R.ol) (L2.at_of (j := j) rfl (by rw [List.getElem?_map, htj] <;> rfl))))) (show oV q.ver = V.int v by rw [hv]; rfl)) { o with ver := some v } T.n_Operation_version rfl fun H1 R1 F1 => ?_
    refine q_end T R1 ht (set_at ho) (v := v) rfl (ev_var rfl) (ev_var rfl) fun H2 R2 F2 => k H2 ?_ (F1.trans F2)
    unfold S.doTake
    simp only [el]
    exact R2
end
end K10
end
section
set_option Elab.async false
set_option linter.all false
set_option maxRecDepth 100000
set_option maxHeartbeats 4000000
namespace K10
open PySem PySem.Spec PyProof.Rows L2 Evl
theorem guard_ni : ∀ g : Gd, (!inV (V.str g.str) [V.str "mark", V.str "newer"]) = !(decide (g = .mark) || decide (g = .newer)) := by
  intro g; cases g <;> decide +kernel
theorem guard_flat (g : Gd) : flatV (V.str g.str) = true := rfl
section
variable {P : Program} {w : World} {base h0 : Heap} {K : PySem.W.Frag} {mg : Str → Option Value}
theorem s_spoil {H : Hp} {L : Lay} {s : S} {a : TE} {σ : L2.St} {tz : TS} {D : Ends} {E : XK} (R : RunAt K H L s) (hl : s.ops.length ≤ 1000) (ha : Ev a σ H (.ref L.p)) (k : ∀ H', RunAt K H' L s.spoil → Fr L.own H H' → tz D σ H') : tSeq (tDrop (tMeth (He.ga K "Run") "spoil" (spSpoil K) [] E a tNil)) tz D σ H :=
  q_meth ha R.run rfl ea_nil fun H1 e1 => ⟨L, s, rfl, R.mono e1, hl, fun H' R' F' => k H' R' ((Fr.of e1).trans F')⟩
def spWrite (K : PySem.W.Frag) : Sp := fun vs H Q _ => ∃ (L : Lay) (s : S) (i : Nat) (t : Addr × Addr × Addr) (o : Op) (w : Wd), vs = [.ref L.p, .str w.str, .ref t.1] ∧ RunAt K H L s ∧ L.os[i]? = some t ∧ s.ops[i]? = some o ∧ s.ops.length ≤ 1000 ∧
  (w ≠ .store → w ≠ .drop → ∃ v, o.ver = some v) ∧ o.step < s.steps.length ∧ (o.step + 1 = s.steps.length → ∃ v, (s.wroteOp w o).ver = some v) ∧
  ∀ H', RunAt K H' L (s.doWrite i w o) → Fr L.own H H' → Q .non H'
theorem sc_Run_do_write : FnScope ["self", "word", "one"] ["self", "word", "one"] (defScope s_Run_do_write) := ⟨rfl, rfl, rfl, by decide +kernel, rfl, by decide +kernel, by decide +kernel⟩
theorem ok_Run_do_write (T : Txt h0 K mg) : FnOk P w K mg base CX0 4 (He.ma K (He.ga K "Run") "do_write") (fdOf K (He.ma K (He.ga K "Run") "do_write")) ["self", "word", "one"] (spWrite K) := by
  refine FnOk.mono (j := 4) ((T.fn_Run_do_write).ok sc_Run_do_write (fun vs H Q E h => ?_) (fun cdv A outer st0 H vs Q E hr h => ?_)) (by decide)
  · obtain ⟨L, s, i, t, o, w, rfl, _⟩ := h
    rfl
  · obtain ⟨L, s, i, t, o, w, rfl, R, ht, ho, hl, hset, hstep, hver, k⟩ := h
    refine ⟨_, PSs.nox ((pss_cons (ps_if (pt_cmpR op_eq (pv 1) pe_str (nomark _)) (pss_cons (ps_fldaugK K (pv 0) pe_int in_add)
      (pss_one (ps_fldK K (pv 2) (pe_fldK K (pv 0))))) (pss_one (ps_if (pt_cmpR op_eq (pv 1) pe_str (nomark _)) (pss_cons (ps_fldK K (pv 0) pe_non)
      (pss_cons (ps_expr (pe_meth0 (pv 0) T.cl_Run T.m_Run_spoil (ok_Run_spoil T) (hr.mono (by decide)) T.b_Run_spoil .nil pass0))
      (pss_one (ps_if (PW.pt (pw_and (pt_cmpR op_eq (pe_fldK K (pv 0)) pe_str (nomark _)) (pw_and1 (pt_cmp (pc_notN (pe_fldK K (pv 2))))))) (pss_one (ps_fldK K (pv 0) (pe_callB (call_max2S rfl) (by rfl) T.f_max (by decide +kernel) (pa_cons (pe_fldK K (pv 0)) (pa_cons (pe_fldK K (pv 2)) pa_nil))))) pss_nil)))) (pss_cons (ps_expr (pe_meth0 (pv 0) T.cl_Run T.m_Run_spoil (ok_Run_spoil T) (hr.mono (by decide)) T.b_Run_spoil .nil pass0))
      (pss_one (ps_if (PW.pt (pw_or (pt_cmpR (op_notInK K) (pe_fldK K (pv 0)) (pe_tup (pa_cons pe_str (pa_cons pe_str pa_nil))) rfl) (pw_or1 (pt_val (pe_meth (pv 0) T.cl_Run T.m_Run_is_newer (ok_Run_is_newer T) (hr.mono (by decide)) T.b_Run_is_newer .nil pass0 (pa_cons (pe_fldK K (pv 2)) pa_nil)))))) (pss_one (ps_expr (pe_meth (pv 0) T.cl_Run T.m_Run_put (ok_Run_put T) (hr.mono (by decide)) T.b_Run_put .nil pass0 (pa_cons (pe_fldK K (pv 2)) pa_nil)))) pss_nil))))))
      (pss_cons (ps_fldaugK K (pv 2) pe_int in_add)
      (pss_one (ps_if (pt_cmpR op_eq (pe_fldK K (pv 2)) (pe_callB (call_lenK K) (by rfl) T.f_len (by decide +kernel) (pa_cons (pe_fldK K (pv 0)) pa_nil)) (nomark _)) (pss_one (ps_expr (pe_meth (pv 0) T.cl_Run T.m_Run_end (ok_Run_end T) (hr.mono (by decide)) T.b_Run_end .nil pass0 (pa_cons (pv 2) pa_nil)))) (pss_one (ps_fldK K (pv 2) (pe_ix (ix_tupK K) (pe_fldK K (pv 0)) (pe_fldK K (pv 2)) (fun _ _ => rfl))))))))), ?_⟩
    have rest : ∀ H1 : Hp, RunAt K H1 L (s.wrote i w o) → Fr L.own H H1 → tSeq (sFldAug K (tVar 2) (tC (.int 1)) rAdd "step")
        (tIfS (tTest (tOp rEq (tFld K (tVar 2) "step") (tCB (rLenS K) (tCons (tFld K (tVar 0) "steps") tNil)))) (tDrop (tMeth (He.ga K "Run") "end" (spEnd K) [] E0 (tVar 0) (tCons (tVar 2) tNil)))
          (sFld K (tVar 2) (tOp (rIxT K) (tFld K (tVar 0) "steps") (tFld K (tVar 2) "step")) "stage"))
        { nx := fun _ H' => Q .non H', rt := Q } (L2.start ["self", "word", "one"] [V.ref L.p, V.str w.str, V.ref t.1]) H1 := by
      intro H1 R1 F1
      have ho1 := wrote_at (w := w) ho
      have hat : (s.wrote i w o).at i = s.wroteOp w o := at_of ho1
      have hsteps : (s.wrote i w o).steps = s.steps := by
        unfold S.steps
        rw [wrote_cfg]
      refine q_augO T R1 ht ho1 (ev_var rfl) T.n_Operation_step rfl ev_c { s.wroteOp w o with step := o.step + 1 } ?_ fun H2 R2 F2 => ?_
      · rw [wroteOp_step]
        rfl
      have hlen : (((s.wrote i w o).steps.map fun w => V.str w.str).length : Int) = (s.steps.length : Int) := by
        rw [List.length_map, hsteps]
      have etest : decide (V.int ((o.step + 1 : Nat) : Int) = V.int ((((s.wrote i w o).steps.map fun w => V.str w.str).length : Nat) : Int)) = decide (o.step + 1 = s.steps.length) := by
        rw [hlen]
        by_cases z : o.step + 1 = s.steps.length
        · rw [z]
          simp
        · rw [decide_eq_false z, decide_eq_false]
          intro z2
          injection z2 with z2
          exact z (by omega)
      refine s_if (et_test (ev_op (ev_opF T R2 ht (set_at ho1) T.n_Operation_step (ev_var rfl)) (ev_lenT (ev_runF T R2 T.n_Run_steps (ev_var rfl)) (st_of R2.st)) (rv_eq rfl))) (fun hb H3 e3 => ?_) (fun hb H3 e3 => ?_)
      · have hb : o.step + 1 = s.steps.length := by
          have hb2 : decide (V.int ((o.step + 1 : Nat) : Int) = V.int ((((s.wrote i w o).steps.map fun w => V.str w.str).length : Nat) : Int)) = true := hb
          rw [etest] at hb2
          exact of_decide_eq_true hb2
        obtain ⟨v, hv⟩ := hver hb
        refine q_end T (R2.mono e3) ht (set_at ho1) (v := v) hv (ev_var rfl) (ev_var rfl) fun H4 R4 F4 => k H4 ?_ (F1.trans (F2.trans ((Fr.of e3).trans F4)))
        rw [endOp_set] at R4
        unfold S.doWrite S.advance
        rw [hat, hsteps, wroteOp_step, if_pos hb]
        exact R4
      · have hb : ¬ o.step + 1 = s.steps.length := by
          have hb2 : decide (V.int ((o.step + 1 : Nat) : Int) = V.int ((((s.wrote i w o).steps.map fun w => V.str w.str).length : Nat) : Int)) = false := hb
          rw [etest] at hb2
          exact of_decide_eq_false hb2
        have R3 := R2.mono e3
        have hix : o.step + 1 < s.steps.length := by omega
        have hget : s.steps[o.step + 1]? = some (s.steps.getD (o.step + 1) .store) := by
          rw [List.getD_eq_getElem?_getD, List.getElem?_eq_getElem hix] <;> rfl
        refine s_setO T R3 ht (set_at ho1) (fun _ _ => ev_var rfl) (y := .str (s.steps.getD (o.step + 1) .store).str) (ev_op (ev_runF T R3 T.n_Run_steps (ev_var rfl)) (ev_opF T R3 ht (set_at ho1) T.n_Operation_step (ev_var rfl)) (rv_ixT (st_of R3.st) (L2.at_of (j := o.step + 1) rfl (by
            show ((s.wrote i w o).steps.map fun w => V.str w.str)[o.step + 1]? = _
            rw [hsteps, List.getElem?_map, hget] <;> rfl)))) { s.wroteOp w o with step := o.step + 1, stage := s.steps.getD (o.step + 1) .store } T.n_Operation_stage rfl fun H4 R4 F4 => k H4 ?_ (F1.trans (F2.trans ((Fr.of e3).trans F4)))
        unfold S.doWrite S.advance
        rw [hat, hsteps, wroteOp_step, if_neg hb]
        have e6 : ((s.wrote i w o).setOp i { s.wroteOp w o with step := o.step + 1 }).setOp i { s.wroteOp w o with step := o.step + 1, stage := s.steps.getD (o.step + 1) .store } = (s.wrote i w o).setOp i { s.wroteOp w o with step := o.step + 1, stage := s.steps.getD (o.step + 1) .store } := by
          unfold S.setOp
          simp only [List.set_set]
        rw [e6] at R4
        exact R4
    refine q_if (et_test (ev_is (ev_op (ev_var rfl) ev_c (rv_eq rfl)) (congrArg V.bl (w_is w .store rfl)))) (fun hb H1 e1 => ?_) (fun hb H1 e1 => ?_)
    · have hb : w = .store := of_decide_eq_true hb
      refine q_augR T (R.mono e1) (ev_var rfl) T.n_Run_database rfl ev_c { s with db := s.db + 1 } rfl fun H2 R2 F2 => ?_
      refine s_setO T R2 ht (o := o) ho (fun _ _ => ev_var rfl) (ev_runF T R2 T.n_Run_database (ev_var rfl)) { o with ver := some (s.db + 1) } T.n_Operation_version rfl fun H3 R3 F3 => rest H3 ?_ ((Fr.of e1).trans (F2.trans F3))
      unfold S.wrote
      rw [if_pos hb]
      exact R3
    · have hb : ¬ w = .store := of_decide_eq_false hb
      refine s_if (et_test (ev_is (ev_op (ev_var rfl) ev_c (rv_eq rfl)) (congrArg V.bl (w_is w .drop rfl)))) (fun hb2 H2 e2 => ?_) (fun hb2 H2 e2 => ?_)
      · have hb2 : w = .drop := of_decide_eq_true hb2
        refine q_setR T (R.mono (Ex.trans e1 e2)) (fun _ _ => ev_var rfl) ev_c { s with cache := none } T.n_Run_cache rfl fun H3 R3 F3 => ?_
        refine s_spoil R3 hl (ev_var rfl) fun H4 R4 F4 => ?_
        have F04 : Fr L.own H H4 := (Fr.of (Ex.trans e1 e2)).trans (F3.trans F4)
        have ho4 : (({ s with cache := none } : S).spoil).ops[i]? = some o.spoil := by
          show (s.ops.map Op.spoil)[i]? = _
          rw [List.getElem?_map, ho] <;> rfl
        refine s_when (b := decide (s.cfg.guard = .mark) && decide (o.ver ≠ none)) (et_and (et_test (ev_guard T R4 (ev_var rfl) .mark)) fun _ => et_is (et_B (ev_notN (ev_opF T R4 ht ho4 T.n_Operation_version (ev_var rfl)))) (by
          show (!decide (oV o.ver = .non)) = _
          rw [oV_non]
          simp)) (fun hb3 H5 e5 => ?_) (fun hb3 H5 e5 => ?_)
        · obtain ⟨c1, c2⟩ := Bool.and_eq_true_iff.mp hb3
          cases hv : o.ver with
          | none =>
            rw [hv] at c2
            cases c2
          | some v =>
            have R5 := R4.mono e5
            refine s_setR T R5 (fun _ _ => ev_var rfl) (ev_max2' (ev_runF T R5 T.n_Run_mark (ev_var rfl)) (ev_is (ev_opF T R5 ht ho4 T.n_Operation_version (ev_var rfl)) (show oV o.ver = V.int v by rw [hv]; rfl))) { ({ s with cache := none } : S).spoil with mark := mx s.mark v } T.n_Run_mark rfl fun H6 R6 F6 => rest H6 ?_ (F04.trans ((Fr.of e5).trans F6))
            unfold S.wrote
            rw [if_neg hb, if_pos hb2, c1, hv]
            exact R6
        · refine rest H5 ?_ (F04.trans (Fr.of e5))
          unfold S.wrote
          rw [if_neg hb, if_pos hb2]
          show RunAt K H5 L (match decide (s.cfg.guard = .mark), o.ver with
            | true, some v => ({ ({ s with cache := none }.spoil : S) with mark := mx s.mark v } : S)
            | _, _ => ({ s with cache := none }.spoil : S))
          split
          · rename_i c1 c2
            rw [c1, c2] at hb3
            cases hb3
          · exact R4.mono e5
      · have hb2 : ¬ w = .drop := of_decide_eq_false hb2
        obtain ⟨v, hv⟩ := hset hb hb2
        refine s_spoil (R.mono (Ex.trans e1 e2)) hl (ev_var rfl) fun H3 R3 F3 => ?_
        have F03 : Fr L.own H H3 := (Fr.of (Ex.trans e1 e2)).trans F3
        have ho3 : s.spoil.ops[i]? = some o.spoil := by
          show (s.ops.map Op.spoil)[i]? = _
          rw [List.getElem?_map, ho] <;> rfl
        have evv : ∀ H4, RunAt K H4 L s.spoil → Ev (tFld K (tVar 2) "version") (L2.start ["self", "word", "one"] [V.ref L.p, V.str w.str, V.ref t.1]) H4 (.int v) := fun H4 R4 => ev_is (ev_opF T R4 ht ho3 T.n_Operation_version (ev_var rfl)) (show oV o.ver = V.int v by rw [hv]; rfl)
        refine s_when (b := !(decide (s.cfg.guard = .mark) || decide (s.cfg.guard = .newer)) || s.spoil.isNewer v) (et_or (et_test (ev_is (ev_niU (ev_runF T R3 T.n_Run_guard (ev_var rfl)) (eu_tup (ea_cons ev_c (ea_cons ev_c ea_nil)) (by show 2 ≤ 100000; decide)) rfl rfl) (congrArg V.bl (guard_ni s.cfg.guard)))) fun _ => et_B (ev_newer R3 (ev_var rfl) (evv _ R3))) (fun hb3 H4 e4 => ?_) (fun hb3 H4 e4 => ?_)
        · refine s_put (R3.mono e4) (ev_var rfl) (evv _ (R3.mono e4)) fun H5 R5 F5 => rest H5 ?_ (F03.trans ((Fr.of e4).trans F5))
          unfold S.wrote
          rw [if_neg hb, if_neg hb2, hv]
          show RunAt K H5 L (if (!(decide (s.cfg.guard = .mark) || decide (s.cfg.guard = .newer)) || s.spoil.isNewer v) = true then s.spoil.put v else s.spoil)
          rw [if_pos hb3]
          exact R5
        · refine rest H4 ?_ (F03.trans (Fr.of e4))
          unfold S.wrote
          rw [if_neg hb, if_neg hb2, hv]
          show RunAt K H4 L (if (!(decide (s.cfg.guard = .mark) || decide (s.cfg.guard = .newer)) || s.spoil.isNewer v) = true then _ else _)
          rw [hb3, if_neg Bool.false_ne_true]
          exact R3.mono e4
def spRead (K : PySem.W.Frag) : Sp := fun vs H Q _ => ∃ (L : Lay) (s : S) (i : Nat) (t : Addr × Addr × Addr) (o : Op) (w : Wd), vs = [.ref L.p, .str w.str, .ref t.1] ∧ RunAt K H L s ∧ L.os[i]? = some t ∧ s.ops[i]? = some o ∧ readOk s w o ∧
  ∀ H', RunAt K H' L (s.doRead i w o) → Fr L.own H H' → Q .non H'
theorem sc_Run_do_read : FnScope ["self", "word", "one"] ["self", "word", "one"] (defScope s_Run_do_read) := ⟨rfl, rfl, rfl, by decide +kernel, rfl, by decide +kernel, by decide +kernel⟩
theorem ok_Run_do_read (T : Txt h0 K mg) : FnOk P w K mg base CX0 3 (He.ma K (He.ga K "Run") "do_read") (fdOf K (He.ma K (He.ga K "Run") "do_read")) ["self", "word", "one"] (spRead K) := by
  refine FnOk.mono (j := 3) ((T.fn_Run_do_read).ok sc_Run_do_read (fun vs H Q E h => ?_) (fun cdv A outer st0 H vs Q E hr h => ?_)) (by decide)
  · obtain ⟨L, s, i, t, o, w, rfl, _⟩ := h
    rfl
  · obtain ⟨L, s, i, t, o, w, rfl, R, ht, ho, ⟨hr1, hr2⟩, k⟩ := h
    refine ⟨_, PSs.nox ((pss_one (ps_if (pt_cmpR op_eq (pv 1) pe_str (nomark _)) (pss_one (ps_expr (pe_meth (pv 0) T.cl_Run T.m_Run_look (ok_Run_look T) (hr.mono (by decide)) T.b_Run_look .nil pass0 (pa_cons (pv 2) pa_nil)))) (pss_one (ps_if (pt_cmpR op_eq (pv 1) pe_str (nomark _)) (pss_one (ps_expr (pe_meth (pv 0) T.cl_Run T.m_Run_fetch (ok_Run_fetch T) (hr.mono (by decide)) T.b_Run_fetch .nil pass0 (pa_cons (pv 2) pa_nil)))) (pss_one (ps_if (pt_cmpR op_eq (pv 1) pe_str (nomark _)) (pss_one (ps_expr (pe_meth (pv 0) T.cl_Run T.m_Run_fill (ok_Run_fill T) (hr.mono (by decide)) T.b_Run_fill .nil pass0 (pa_cons (pv 2) pa_nil)))) (pss_one (ps_expr (pe_meth (pv 0) T.cl_Run T.m_Run_take (ok_Run_take T) (hr.mono (by decide)) T.b_Run_take .nil pass0 (pa_cons (pv 2) pa_nil))))))))))), ?_⟩
    refine s_if (et_test (ev_is (ev_op (ev_var rfl) ev_c (rv_eq rfl)) (congrArg V.bl (w_is w .look rfl)))) (fun hb H1 e1 => ?_) (fun hb H1 e1 => ?_)
    · have hb : w = .look := of_decide_eq_true hb
      refine s_meth (ev_var rfl) (R.mono e1).run rfl (ea_cons (ev_var rfl) ea_nil) fun H2 e2 => ⟨L, s, i, t, o, rfl, R.mono (Ex.trans e1 e2), ht, ho, fun H3 R3 F3 => k H3 ?_ ((Fr.of (Ex.trans e1 e2)).trans F3)⟩
      unfold S.doRead
      rw [if_pos hb]
      exact R3
    · have hb : ¬ w = .look := of_decide_eq_false hb
      refine s_if (et_test (ev_is (ev_op (ev_var rfl) ev_c (rv_eq rfl)) (congrArg V.bl (w_is w .fetch rfl)))) (fun hb2 H2 e2 => ?_) (fun hb2 H2 e2 => ?_)
      · have hb2 : w = .fetch := of_decide_eq_true hb2
        have e12 := Ex.trans e1 e2
        refine s_meth (ev_var rfl) (R.mono e12).run rfl (ea_cons (ev_var rfl) ea_nil) fun H3 e3 => ⟨L, s, i, t, o, rfl, R.mono (Ex.trans e12 e3), ht, ho, fun H4 R4 F4 => k H4 ?_ ((Fr.of (Ex.trans e12 e3)).trans F4)⟩
        unfold S.doRead
        rw [if_neg hb, if_pos hb2]
        exact R4
      · have hb2 : ¬ w = .fetch := of_decide_eq_false hb2
        have e12 := Ex.trans e1 e2
        refine s_if (et_test (ev_is (ev_op (ev_var rfl) ev_c (rv_eq rfl)) (congrArg V.bl (w_is w .fill rfl)))) (fun hb3 H3 e3 => ?_) (fun hb3 H3 e3 => ?_)
        · have hb3 : w = .fill := of_decide_eq_true hb3
          obtain ⟨v, hv⟩ := hr1 hb3
          have e13 := Ex.trans e12 e3
          refine s_meth (ev_var rfl) (R.mono e13).run rfl (ea_cons (ev_var rfl) ea_nil) fun H4 e4 => ⟨L, s, i, t, o, v, rfl, R.mono (Ex.trans e13 e4), ht, ho, hv, fun H5 R5 F5 => k H5 ?_ ((Fr.of (Ex.trans e13 e4)).trans F5)⟩
          unfold S.doRead
          rw [if_neg hb, if_neg hb2, if_pos hb3]
          exact R5
        · have hb3 : ¬ w = .fill := of_decide_eq_false hb3
          obtain ⟨j, q, v, hj, hq, hv⟩ := hr2 hb hb2 hb3
          have e13 := Ex.trans e12 e3
          refine s_meth (ev_var rfl) (R.mono e13).run rfl (ea_cons (ev_var rfl) ea_nil) fun H4 e4 => ⟨L, s, i, j, t, o, q, v, rfl, R.mono (Ex.trans e13 e4), ht, ho, hj, hq, hv, fun H5 R5 F5 => k H5 ?_ ((Fr.of (Ex.trans e13 e4)).trans F5)⟩
          unfold S.doRead
          rw [if_neg hb, if_neg hb2, if_neg hb3]
          exact R5
end
end K10
end
section
set_option Elab.async false
set_option linter.all false
set_option maxRecDepth 100000
set_option maxHeartbeats 4000000
namespace K10
open PySem PySem.Spec PyProof.Rows L2 Evl
section
variable {P : Program} {w : World} {base h0 : Heap} {K : PySem.W.Frag} {mg : Str → Option Value}
section
variable {H H' : Hp} {L : Lay} {s : S} {σ : L2.St} {to te : TE} {f : Str} {y : V} {D : Ends} {tz : TS} {a C d : Addr} {fs fs' : List (Str × V)}
theorem RunAt.frame (R : RunAt K H L s) {Ds : List Addr} (F : Fr Ds H H') (h1 : ∀ b ∈ Ds, b ∉ L.own) (h2 : ∀ b ∈ Ds, ∀ xs, H b ≠ some (.tup xs)) : RunAt K H' L s := by
  have o : ∀ {b : Addr} {u : HO}, H b = some u → b ∈ L.own → H' b = some u := fun {b u} e m => F b u e fun z => h1 b z m
  have tp : ∀ {b : Addr} {xs : List V}, H b = some (.tup xs) → H' b = some (.tup xs) := fun {b xs} e => F b _ e fun z => h2 b z xs e
  exact ⟨o R.run R.own_run, o R.ol own_ol, o R.el own_el, tp R.st, R.len, fun i t q e1 e2 => ⟨o (R.op i t q e1 e2).1 (own_op e1), tp (R.op i t q e1 e2).2⟩, R.nd, Paired.mapP R.ev fun x y e => tp e, R.ne⟩
theorem q_fldI (hH : H a = some (.ins C d fs)) (ho : ∀ H1, Ex H H1 → Ev to σ H1 (.ref a)) (h : Ev te σ H y) (hc : Cls K C) (hn : NoAttr K C f) (hf : putF f y fs = fs') (k : ∀ H', H' a = some (.ins C d fs') → Fr [a] H H' → tz D σ H') (hl : Nat.blt fs.length 1000 = true := by rfl) : tSeq (sFld K to te f) tz D σ H := by
  refine h H (Ex.refl H) _ fun H1 e1 => ho H1 e1 H1 (Ex.refl H1) _ fun H2 e2 => ⟨a, C, d, fs, rfl, (Ex.trans e1 e2) _ _ hH, hc, hn, Nat.le_of_ble_eq_true hl, ?_⟩
  rw [hf]
  exact k _ upd_same ((Fr.of (Ex.trans e1 e2)).trans (Fr.upd (by simp)))
theorem s_fldI (hH : H a = some (.ins C d fs)) (ho : ∀ H1, Ex H H1 → Ev to σ H1 (.ref a)) (h : Ev te σ H y) (hc : Cls K C) (hn : NoAttr K C f) (hf : putF f y fs = fs') (k : ∀ H', H' a = some (.ins C d fs') → Fr [a] H H' → D.nx σ H') (hl : Nat.blt fs.length 1000 = true := by rfl) : sFld K to te f D σ H :=
  q_fldI (tz := fun D => D.nx) hH ho h hc hn hf k hl
theorem q_fldIU {xs : List V} (hH : H a = some (.ins C d fs)) (ho : ∀ H1, Ex H H1 → Ev to σ H1 (.ref a)) (h : EvU te σ H xs) (hc : Cls K C) (hn : NoAttr K C f) {fs' : Addr → List (Str × V)} (hf : ∀ p, putF f (.ref p) fs = fs' p) (k : ∀ p H', H p = none → H' p = some (.tup xs) → H' a = some (.ins C d (fs' p)) → Fr [a] H H' → tz D σ H') (hl : Nat.blt fs.length 1000 = true := by rfl) : tSeq (sFld K to te f) tz D σ H := by
  refine h H (Ex.refl H) _ fun p H1 hp e1 h1 => ho H1 e1 H1 (Ex.refl H1) _ fun H2 e2 => ⟨a, C, d, fs, rfl, (Ex.trans e1 e2) _ _ hH, hc, hn, Nat.le_of_ble_eq_true hl, ?_⟩
  rw [hf]
  have ne : p ≠ a := fun z => by
    rw [z, hH] at hp
    cases hp
  exact k p _ hp (by rw [upd_ne ne]; exact e2 _ _ h1) upd_same ((Fr.of (Ex.trans e1 e2)).trans (Fr.upd (by simp)))
theorem q_fldIL {xs : List V} {fs' : Addr → List (Str × V)} (hH : H a = some (.ins C d fs)) (ho : ∀ H1, Ex H H1 → Ev to σ H1 (.ref a)) (h : EvL te σ H xs) (hc : Cls K C) (hn : NoAttr K C f) (hf : ∀ p, putF f (.ref p) fs = fs' p) (k : ∀ p H', H p = none → H' p = some (.lst xs) → H' a = some (.ins C d (fs' p)) → Fr [a] H H' → tz D σ H') (hl : Nat.blt fs.length 1000 = true := by rfl) : tSeq (sFld K to te f) tz D σ H := by
  refine h H (Ex.refl H) _ fun p H1 hp e1 h1 => ho H1 e1 H1 (Ex.refl H1) _ fun H2 e2 => ⟨a, C, d, fs, rfl, (Ex.trans e1 e2) _ _ hH, hc, hn, Nat.le_of_ble_eq_true hl, ?_⟩
  rw [hf]
  have ne : p ≠ a := fun z => by
    rw [z, hH] at hp
    cases hp
  exact k p _ hp (by rw [upd_ne ne]; exact e2 _ _ h1) upd_same ((Fr.of (Ex.trans e1 e2)).trans (Fr.upd (by simp)))
end
def spOpInit (K : PySem.W.Frag) : Sp := fun vs H Q _ => ∃ (a d : Addr) (L : Lay) (s : S) (wr : Bool), vs = [.ref a, .ref L.p, .str (kindS wr)] ∧ H a = some (.ins (He.ga K "Operation") d []) ∧ RunAt K H L s ∧ s.ops.length ≤ 1000 ∧
  ∀ fl H', H fl = none → H' fl = some (.tup [.int s.fin, .int s.ret]) → H' a = some (.ins (He.ga K "Operation") d (opF (s.newOp wr) s.ops.length fl)) → Fr [a] H H' → Q .non H'
theorem first_at (s : S) : s.steps[0]? = some s.first := by
  unfold S.first S.steps
  cases s.cfg.path <;> rfl
theorem RunAt.fresh_ins {H : Hp} {L : Lay} {s : S} (R : RunAt K H L s) {a C d : Addr} (h : H a = some (.ins C d [])) : a ∉ L.own := fun z => by
  rcases List.mem_cons.mp z with rfl | z
  · rw [R.run] at h
    cases h
  rcases List.mem_cons.mp z with rfl | z
  · rw [R.ol] at h
    cases h
  rcases List.mem_cons.mp z with rfl | z
  · rw [R.el] at h
    cases h
  obtain ⟨t, ht, rfl⟩ := List.mem_map.mp z
  obtain ⟨i, hi⟩ := List.mem_iff_getElem?.mp ht
  have hl := (List.getElem?_eq_some_iff.mp hi).1
  rw [R.len] at hl
  have e := (R.op i t _ hi (List.getElem?_eq_getElem hl)).1
  rw [h] at e
  cases e
theorem sc_Operation_init : FnScope ["self", "run", "kind"] ["self", "run", "kind"] (defScope s_Operation_init) := ⟨rfl, rfl, rfl, by decide +kernel, rfl, by decide +kernel, by decide +kernel⟩
theorem ok_Operation_init (T : Txt h0 K mg) : FnOk P w K mg base CX0 4 (He.ma K (He.ga K "Operation") "__init__") (fdOf K (He.ma K (He.ga K "Operation") "__init__")) ["self", "run", "kind"] (spOpInit K) := by
  refine FnOk.mono (j := 4) ((T.fn_Operation_init).ok sc_Operation_init (fun vs H Q E h => ?_) (fun cdv A outer st0 H vs Q E hr h => ?_)) (by decide)
  · obtain ⟨a, d, L, s, wr, rfl, _⟩ := h
    rfl
  · obtain ⟨a, d, L, s, wr, rfl, hA, R, hl, k⟩ := h
    refine ⟨_, PSs.nox ((pss_cons (ps_fldK K (pv 0) (pe_callB (call_lenK K) (by rfl) T.f_len (by decide +kernel) (pa_cons (pe_fldK K (pv 1)) pa_nil)))
      (pss_cons (ps_fldK K (pv 0) (pv 2))
      (pss_cons (ps_fldK K (pv 0) (pe_ifExp (pt_cmpR op_eq (pv 2) pe_str (nomark _)) pe_str (pe_ix (ix_tupK K) (pe_fldK K (pv 1)) pe_int (fun _ _ => rfl))))
      (pss_cons (ps_fldK K (pv 0) pe_non)
      (pss_cons (ps_fldK K (pv 0) (pe_callB (call_lenK K) (by rfl) T.f_len (by decide +kernel) (pa_cons (pe_fldK K (pv 1)) pa_nil)))
      (pss_cons (ps_fldK K (pv 0) pe_non)
      (pss_cons (ps_fldK K (pv 0) pe_int)
      (pss_cons (ps_fldK K (pv 0) pe_bl)
      (pss_cons (ps_fldK K (pv 0) pe_non)
      (pss_cons (ps_fldK K (pv 0) (pe_tup (pa_cons (pe_fldK K (pv 1)) (pa_cons (pe_fldK K (pv 1)) pa_nil))))
      (pss_one (ps_fldK K (pv 0) (pe_not (pe_meth0 (pv 1) T.cl_Run T.m_Run_is_writing (ok_Run_is_writing T) (hr.mono (by decide)) T.b_Run_is_writing .nil pass0))))))))))))))), ?_⟩
    have na := R.fresh_ins hA
    have fr : ∀ {H1 H2 : Hp} {fs : List (Str × V)}, RunAt K H1 L s → H1 a = some (.ins (He.ga K "Operation") d fs) → Fr [a] H1 H2 → RunAt K H2 L s := fun {H1 H2 fs} R1 h1 F => R1.frame F (fun b hb => by
        rw [List.mem_singleton.mp hb]
        exact na) fun b hb xs z => by
        rw [List.mem_singleton.mp hb, h1] at z
        cases z
    have ev_num : Ev (tCB (rLenS K) (tCons (tFld K (tVar 1) "operations") tNil)) (L2.start ["self", "run", "kind"] [V.ref a, V.ref L.p, V.str (kindS wr)]) H (.int ((s.ops.length : Nat) : Int)) :=
      ev_is (ev_len (ev_runF T R T.n_Run_operations (ev_var rfl)) (sq_of R.ol)) (by rw [List.length_map, R.len])
    refine q_fldI hA (fun _ _ => ev_var rfl) ev_num T.cl_Operation T.n_Operation_number rfl fun H1 A1 F1 => ?_
    have R1 := fr R hA F1
    refine q_fldI A1 (fun _ _ => ev_var rfl) (ev_var rfl) T.cl_Operation T.n_Operation_kind rfl fun H2 A2 F2 => ?_
    have R2 := fr R1 A1 F2
    refine q_fldI A2 (fun _ _ => ev_var rfl) (y := .str (if wr then s.first else Wd.look).str) (ev_if (b := !wr) (et_test (ev_is (ev_op (ev_var rfl) ev_c (rv_eq rfl)) (congrArg V.bl (by rw [kind_r]; cases wr <;> rfl)))) (fun z => ?_) (fun z => ?_)) T.cl_Operation T.n_Operation_stage rfl fun H3 A3 F3 => ?_
    · cases wr with
      | true => cases z
      | false => exact ev_c
    · cases wr with
      | false => cases z
      | true => exact ev_op (ev_runF T R2 T.n_Run_steps (ev_var rfl)) ev_c (rv_ixT (st_of R2.st) (L2.at_of (j := 0) rfl (by rw [List.getElem?_map, first_at] <;> rfl)))
    have R3 := fr R2 A2 F3
    refine q_fldI A3 (fun _ _ => ev_var rfl) ev_c T.cl_Operation T.n_Operation_version rfl fun H4 A4 F4 => ?_
    have R4 := fr R3 A3 F4
    refine q_fldI A4 (fun _ _ => ev_var rfl) (ev_is (ev_len (ev_runF T R4 T.n_Run_events_done (ev_var rfl)) (sq_of R4.el)) (congrArg V.int R4.now)) T.cl_Operation T.n_Operation_begun rfl fun H5 A5 F5 => ?_
    have R5 := fr R4 A4 F5
    refine q_fldI A5 (fun _ _ => ev_var rfl) ev_c T.cl_Operation T.n_Operation_ended rfl fun H6 A6 F6 => ?_
    have R6 := fr R5 A5 F6
    refine q_fldI A6 (fun _ _ => ev_var rfl) ev_c T.cl_Operation T.n_Operation_step rfl fun H7 A7 F7 => ?_
    have R7 := fr R6 A6 F7
    refine q_fldI A7 (fun _ _ => ev_var rfl) ev_c T.cl_Operation T.n_Operation_token rfl fun H8 A8 F8 => ?_
    have R8 := fr R7 A7 F8
    refine q_fldI A8 (fun _ _ => ev_var rfl) ev_c T.cl_Operation T.n_Operation_leader rfl fun H9 A9 F9 => ?_
    have R9 := fr R8 A8 F9
    refine q_fldIU A9 (fun _ _ => ev_var rfl) (eu_tup (ea_cons (ev_runF T R9 T.n_Run_finished (ev_var rfl)) (ea_cons (ev_runF T R9 T.n_Run_returned (ev_var rfl)) ea_nil)) (by show 2 ≤ 100000; decide)) T.cl_Operation T.n_Operation_floors (fun p => rfl) fun fl H10 hfl hfl2 A10 F10 => ?_
    have R10 := fr R9 A9 F10
    have F010 : Fr [a] H H10 := F1.trans (F2.trans (F3.trans (F4.trans (F5.trans (F6.trans (F7.trans (F8.trans (F9.trans F10))))))))
    refine s_fldI A10 (fun _ _ => ev_var rfl) (ev_notV (ev_meth0 (ev_var rfl) R10.run rfl (spv_writing R10 hl))) T.cl_Operation T.n_Operation_is_quiet rfl fun H11 A11 F11 => ?_
    have hflH : H fl = none := by
      cases e : H fl with
      | none => rfl
      | some u =>
        have F09 : Fr [a] H H9 := F1.trans (F2.trans (F3.trans (F4.trans (F5.trans (F6.trans (F7.trans (F8.trans F9)))))))
        by_cases hfa : fl = a
        · rw [hfa, A9] at hfl
          cases hfl
        · rw [F09 fl u e (by simpa using hfa)] at hfl
          cases hfl
    refine k fl H11 hflH (F11 _ _ hfl2 (fun z => by
      rw [List.mem_singleton.mp z, hA] at hflH
      cases hflH)) ?_ (F010.trans F11)
    exact A11
end
end K10
end
section
set_option Elab.async false
set_option linter.all false
set_option maxRecDepth 100000
set_option maxHeartbeats 4000000
namespace K10
open PySem PySem.Spec PyProof.Rows L2 Evl
def fliS (b : Bool) : Str := if b then "shared" else "alone"
def srcS (b : Bool) : Str := if b then "replica" else "primary"
def eviS (b : Bool) : Str := if b then "evicts" else "keeps"
def stoS (b : Bool) : Str := if b then "stops" else "finishes"
def desV (c : Cfg) : List V := [.str c.path.str, .str c.guard.str, .str (fliS c.shared)]
def worV (c : Cfg) : List V := [.str (srcS c.repl), .str (eviS c.evic), .str (stoS c.stops)]
theorem split_path : ∀ p : Pt, Txt.split p.str " " = p.steps.map Wd.str := by
  intro p; cases p <;> decide +kernel
theorem fli_is (b : Bool) : decide (V.str (fliS b) = V.str "shared") = b := by cases b <;> decide +kernel
theorem src_is (b : Bool) : decide (V.str (srcS b) = V.str "replica") = b := by cases b <;> decide +kernel
theorem evi_is (b : Bool) : decide (V.str (eviS b) = V.str "evicts") = b := by cases b <;> decide +kernel
theorem sto_is (b : Bool) : decide (V.str (stoS b) = V.str "stops") = b := by cases b <;> decide +kernel
section
variable {P : Program} {w : World} {base h0 : Heap} {K : PySem.W.Frag} {mg : Str → Option Value}
section
variable {H : Hp} {σ : L2.St} {ta tb te : TE} {a b : Str} {xs : List V}
def rSplit : V → List V → Hp → VK → Prop := fun x xs H Q => ∃ a b, x = .str a ∧ xs = [.str b] ∧ (b.length == 0) = false ∧ a.length + 2 ≤ sizeLine ∧ rNewStrs (Txt.split a b) H Q
theorem el_split (ha : Ev ta σ H (.str a)) (hb : Ev tb σ H (.str b)) (h0 : (b.length == 0) = false) (hl : a.length + 2 ≤ sizeLine) : EvL (tM1 rSplit ta tb) σ H ((Txt.split a b).map V.str) := fun H1 e Q q =>
  ha H1 e _ fun H2 e2 => ⟨⟨a, rfl⟩, hb H2 (e.trans e2) _ fun H3 e3 => ⟨a, b, rfl, rfl, h0, hl, fun p hp => q p _ (fresh_back (e2.trans e3) hp) ((e2.trans e3).trans (Ex.new hp)) upd_same⟩⟩
theorem eu_tupL (h : EvL te σ H xs) : EvU (tCB (rTupS K) (tCons te tNil)) σ H xs := fun H1 e Q q =>
  h H1 e _ fun p H2 hp e2 h2 => ⟨p, xs, rfl, Or.inl ⟨sq_of h2, fun l hl => q l _ (fresh_back e2 hl) (e2.trans (Ex.new hl)) upd_same⟩⟩
theorem eu_tupR {p : Addr} (h : Ev te σ H (.ref p)) (hx : SqL K H p xs) : EvU (tCB (rTupS K) (tCons te tNil)) σ H xs := fun H1 e Q q =>
  h H1 e _ fun H2 e2 => ⟨p, xs, rfl, Or.inl ⟨ex_l (e.trans e2) hx, fun l hl => q l _ (fresh_back e2 hl) (e2.trans (Ex.new hl)) upd_same⟩⟩
theorem eu_call {sp : Sp} {vs : List V} {E : XK} {tr : TA} (h : EvA tr σ H vs) (hs : ∀ H1, Ex H H1 → ∀ Q : VK, (∀ p H2, H1 p = none → Ex H1 H2 → H2 p = some (.tup xs) → Q (.ref p) H2) → ∀ E : XK, sp (vs ++ []) H1 Q E) : EvU (tCall sp [] E tr) σ H xs := fun H1 e Q q =>
  h H1 e _ fun H2 e2 => hs H2 (e.trans e2) Q (fun p H3 hp e3 h3 => q p H3 (fresh_back e2 hp) (e2.trans e3) h3) E
end
def spSteps (K : PySem.W.Frag) : Sp := fun vs H Q _ => ∃ (a : Addr) (c : Cfg), vs = [.ref a] ∧ SqT K H a (desV c) ∧ ∀ p H2, H p = none → Ex H H2 → H2 p = some (.tup (c.path.steps.map fun w => V.str w.str)) → Q (.ref p) H2
theorem sc_steps_of : FnScope ["design"] ["design"] (defScope s_steps_of) := ⟨rfl, rfl, rfl, by decide +kernel, rfl, by decide +kernel, by decide +kernel⟩
theorem ok_steps_of (T : Txt h0 K mg) : FnOk P w K mg base CX0 1 (He.ga K "steps_of") (fdOf K (He.ga K "steps_of")) ["design"] (spSteps K) := by
  refine FnOk.mono (j := 1) ((T.fn_steps_of).ok sc_steps_of (fun vs H Q E h => ?_) (fun cdv A outer st0 H vs Q E hr h => ?_)) (by decide)
  · obtain ⟨a, c, rfl, _⟩ := h
    rfl
  · obtain ⟨a, c, rfl, hA, k⟩ := h
    refine ⟨_, PSs.nox ((pss_one (ps_ret (pe_callTy (call_tupK K) (by rfl) T.f_tuple (by decide +kernel) (pa_cons (pe_split (pe_ix (ix_tupK K) (pv 0) pe_int (fun _ _ => rfl)) pe_str) pa_nil))))), ?_⟩
    refine s_retU (xs := c.path.steps.map fun w => V.str w.str) (eu_tupL (EvL.is (el_split (a := c.path.str) (b := " ") (ev_op (ev_var rfl) ev_c (rv_ixT hA (L2.at_of (j := 0) rfl rfl))) ev_c rfl (by cases c.path <;> decide +kernel)) ?_)) k
    rw [split_path, List.map_map]
    rfl
def spRunInit (K : PySem.W.Frag) : Sp := fun vs H Q _ => ∃ (p d da wa : Addr) (c : Cfg), vs = [.ref p, .ref da, .ref wa] ∧ H p = some (.ins (He.ga K "Run") d []) ∧ SqT K H da (desV c) ∧ SqT K H wa (worV c) ∧
  ∀ L H', L.p = p → RunAt K H' L (S.init c) → (∀ b ∈ L.own, b = p ∨ H b = none) → Fr [p] H H' → Q .non H'
theorem SqT.fr {D : List Addr} {H H' : Hp} {a : Addr} {xs : List V} (F : Fr D H H') (h : SqT K H a xs) (hD : ∀ b ∈ D, (∀ ys, H b ≠ some (.tup ys)) ∧ ∀ o ys, H b ≠ some (.frz o (.tup ys))) : SqT K H' a xs := by
  rcases h with (h | ⟨o, h⟩) | h
  · exact .inl (.inl (F _ _ h fun z => (hD _ z).1 _ h))
  · exact .inl (.inr ⟨o, F _ _ h fun z => (hD _ z).2 _ _ h⟩)
  · exact .inr h
theorem sc_Run_init : FnScope ["self", "design", "world"] ["self", "design", "world"] (defScope s_Run_init) := ⟨rfl, rfl, rfl, by decide +kernel, rfl, by decide +kernel, by decide +kernel⟩
theorem ok_Run_init (T : Txt h0 K mg) : FnOk P w K mg base CX0 2 (He.ma K (He.ga K "Run") "__init__") (fdOf K (He.ma K (He.ga K "Run") "__init__")) ["self", "design", "world"] (spRunInit K) := by
  refine FnOk.mono (j := 2) ((T.fn_Run_init).ok sc_Run_init (fun vs H Q E h => ?_) (fun cdv A outer st0 H vs Q E hr h => ?_)) (by decide)
  · obtain ⟨p, d, da, wa, c, rfl, _⟩ := h
    rfl
  · obtain ⟨p, d, da, wa, c, rfl, hP, hD, hW, k⟩ := h
    refine ⟨_, PSs.nox ((pss_cons (ps_fldK K (pv 0) (pe_call (ok_steps_of T) (hr.mono (by decide)) rfl T.g_steps_of T.k_steps_of T.b_steps_of .nil pass0 (pa_cons (pv 1) pa_nil)))
      (pss_cons (ps_fldK K (pv 0) (pe_ix (ix_tupK K) (pv 1) pe_int (fun _ _ => rfl)))
      (pss_cons (ps_fldK K (pv 0) (pe_cmpR op_eq (pe_ix (ix_tupK K) (pv 1) pe_int (fun _ _ => rfl)) pe_str (nomark _)))
      (pss_cons (ps_fldK K (pv 0) (pe_cmpR op_eq (pe_ix (ix_tupK K) (pv 2) pe_int (fun _ _ => rfl)) pe_str (nomark _)))
      (pss_cons (ps_fldK K (pv 0) (pe_cmpR op_eq (pe_ix (ix_tupK K) (pv 2) pe_int (fun _ _ => rfl)) pe_str (nomark _)))
      (pss_cons (ps_fldK K (pv 0) (pe_cmpR op_eq (pe_ix (ix_tupK K) (pv 2) pe_int (fun _ _ => rfl)) pe_str (nomark _)))
      (pss_cons (ps_fldK K (pv 0) pe_int)
      (pss_cons (ps_fldK K (pv 0) pe_int)
      (pss_cons (ps_fldK K (pv 0) pe_non)
      (pss_cons (ps_fldK K (pv 0) pe_int)
      (pss_cons (ps_fldK K (pv 0) pe_non)
      (pss_cons (ps_fldK K (pv 0) (pe_lst pa_nil))
      (pss_cons (ps_fldK K (pv 0) (pe_lst pa_nil))
      (pss_cons (ps_fldK K (pv 0) pe_int)
      (pss_cons (ps_fldK K (pv 0) pe_int)
      (pss_one (ps_fldK K (pv 0) pe_non)))))))))))))))))), ?_⟩
    have fr : ∀ {H1 H2 : Hp} {fs : List (Str × V)} {a : Addr} {xs : List V}, H1 p = some (.ins (He.ga K "Run") d fs) → Fr [p] H1 H2 → SqT K H1 a xs → SqT K H2 a xs := fun {H1 H2 fs a xs} h1 F h => SqT.fr F h fun b hb => by
      rw [List.mem_singleton.mp hb, h1]
      exact ⟨fun _ z => (by cases z), fun _ _ z => (by cases z)⟩
    refine q_fldIU hP (fun _ _ => ev_var rfl) (eu_call (xs := c.path.steps.map fun w => V.str w.str) (ea_cons (ev_var rfl) ea_nil) fun H1 e Q q E => ⟨da, c, rfl, ex_t e hD, q⟩) T.cl_Run T.n_Run_steps (fun p => rfl) fun st H1 nst hst P1 F1 => ?_
    have hstH : H1 st = some (.tup (c.path.steps.map fun w => V.str w.str)) := hst
    have D1 := fr hP F1 hD
    have W1 := fr hP F1 hW
    have nsp : st ≠ p := fun z => by
      rw [z, hP] at nst
      cases nst
    refine q_fldI P1 (fun _ _ => ev_var rfl) (ev_op (ev_var rfl) ev_c (rv_ixT D1 (L2.at_of (j := 1) rfl rfl))) T.cl_Run T.n_Run_guard rfl fun H2 P2 F2 => ?_
    have D2 := fr P1 F2 D1
    have W2 := fr P1 F2 W1
    refine q_fldI P2 (fun _ _ => ev_var rfl) (ev_is (ev_op (ev_op (ev_var rfl) ev_c (rv_ixT D2 (L2.at_of (j := 2) rfl rfl))) ev_c (rv_eq rfl)) (congrArg V.bl (fli_is _))) T.cl_Run T.n_Run_is_shared rfl fun H3 P3 F3 => ?_
    have W3 := fr P2 F3 W2
    refine q_fldI P3 (fun _ _ => ev_var rfl) (ev_is (ev_op (ev_op (ev_var rfl) ev_c (rv_ixT W3 (L2.at_of (j := 0) rfl rfl))) ev_c (rv_eq rfl)) (congrArg V.bl (src_is _))) T.cl_Run T.n_Run_has_replica rfl fun H4 P4 F4 => ?_
    have W4 := fr P3 F4 W3
    refine q_fldI P4 (fun _ _ => ev_var rfl) (ev_is (ev_op (ev_op (ev_var rfl) ev_c (rv_ixT W4 (L2.at_of (j := 1) rfl rfl))) ev_c (rv_eq rfl)) (congrArg V.bl (evi_is _))) T.cl_Run T.n_Run_has_evictions rfl fun H5 P5 F5 => ?_
    have W5 := fr P4 F5 W4
    refine q_fldI P5 (fun _ _ => ev_var rfl) (ev_is (ev_op (ev_op (ev_var rfl) ev_c (rv_ixT W5 (L2.at_of (j := 2) rfl rfl))) ev_c (rv_eq rfl)) (congrArg V.bl (sto_is _))) T.cl_Run T.n_Run_has_stops rfl fun H6 P6 F6 => ?_
    refine q_fldI P6 (fun _ _ => ev_var rfl) ev_c T.cl_Run T.n_Run_database rfl fun H7 P7 F7 => ?_
    refine q_fldI P7 (fun _ _ => ev_var rfl) ev_c T.cl_Run T.n_Run_replica rfl fun H8 P8 F8 => ?_
    refine q_fldI P8 (fun _ _ => ev_var rfl) ev_c T.cl_Run T.n_Run_cache rfl fun H9 P9 F9 => ?_
    refine q_fldI P9 (fun _ _ => ev_var rfl) ev_c T.cl_Run T.n_Run_mark rfl fun H10 P10 F10 => ?_
    refine q_fldI P10 (fun _ _ => ev_var rfl) ev_c T.cl_Run T.n_Run_flight rfl fun H11 P11 F11 => ?_
    have F111 : Fr [p] H1 H11 := F2.trans (F3.trans (F4.trans (F5.trans (F6.trans (F7.trans (F8.trans (F9.trans (F10.trans F11))))))))
    refine q_fldIL P11 (fun _ _ => ev_var rfl) (el_lst ea_nil (by decide)) T.cl_Run T.n_Run_operations (fun p => rfl) fun ol H12 nol hol P12 F12 => ?_
    refine q_fldIL P12 (fun _ _ => ev_var rfl) (el_lst ea_nil (by decide)) T.cl_Run T.n_Run_events_done (fun p => rfl) fun el H13 nel hel P13 F13 => ?_
    refine q_fldI P13 (fun _ _ => ev_var rfl) ev_c T.cl_Run T.n_Run_finished rfl fun H14 P14 F14 => ?_
    refine q_fldI P14 (fun _ _ => ev_var rfl) ev_c T.cl_Run T.n_Run_returned rfl fun H15 P15 F15 => ?_
    refine s_fldI P15 (fun _ _ => ev_var rfl) ev_c T.cl_Run T.n_Run_last rfl fun H16 P16 F16 => ?_
    have F1316 : Fr [p] H13 H16 := F14.trans (F15.trans F16)
    have np : ∀ {b : Addr} {Hx : Hp} {fs : List (Str × V)}, Hx p = some (.ins (He.ga K "Run") d fs) → Hx b = none → b ∉ [p] := fun {b Hx fs} h1 h2 z => by
      rw [List.mem_singleton.mp z, h1] at h2
      cases h2
    have nelo : ol ≠ el := fun z => by
      rw [z] at hol
      rw [hol] at nel
      cases nel
    have back : ∀ {b : Addr} {Hx : Hp}, Fr [p] H Hx → Hx b = none → b ∉ [p] → H b = none := fun {b Hx} F hb n => by
      cases e : H b with
      | none => rfl
      | some u =>
        rw [F b u e n] at hb
        cases hb
    refine k ⟨p, d, ol, el, st, [], []⟩ H16 rfl ⟨P16, ?_, ?_, ?_, rfl, fun i t o e => by simp at e, List.nodup_nil, .nil, nelo⟩ (fun b hb => ?_) (F1.trans (F111.trans (F12.trans (F13.trans F1316))))
    · exact F1316 _ _ (F13 _ _ hol (np P11 nol)) (np P11 nol)
    · exact F1316 _ _ hel (np P12 nel)
    · exact F1316 _ _ (F13 _ _ (F12 _ _ (F111 _ _ hstH (by simpa using nsp)) (by simpa using nsp)) (by simpa using nsp)) (by simpa using nsp)
    · rcases List.mem_cons.mp hb with rfl | hb
      · exact .inl rfl
      rcases List.mem_cons.mp hb with rfl | hb
      · exact .inr (back (F1.trans F111) nol (np P11 nol))
      rcases List.mem_cons.mp hb with rfl | hb
      · exact .inr (back (F1.trans (F111.trans F12)) nel (np P12 nel))
      · simp at hb
end
end K10
end
section
set_option Elab.async false
set_option linter.all false
set_option maxRecDepth 100000
set_option maxHeartbeats 4000000
namespace K10
open PySem PySem.Spec PyProof.Rows L2 Evl
theorem upO_gos (s : S) (u : Op → Op) : s.upO u (gos s) = { s with ops := s.ops.map fun o => if o.going then u o else o } := by
  unfold S.upO
  congr 1
  apply List.ext_getElem?
  intro i
  rw [List.getElem?_mapIdx, List.getElem?_map]
  cases h : s.ops[i]? with
  | none => rfl
  | some o =>
    show some (if i ∈ gos s then u o else o) = some (if o.going = true then u o else o)
    by_cases hm : i ∈ gos s
    · rw [if_pos hm, if_pos ((mem_gos h).mp hm)]
    · rw [if_neg hm, if_neg fun z => hm ((mem_gos h).mpr z)]
theorem set_slot {σ σ' : L2.St} {j i : Nat} (h : ∀ x, σ'.set j x = σ.set j x) (hi : i ≠ j) : σ'[i]? = σ[i]? := by
  have e := congrArg (fun l => l[i]?) (h none)
  simp only [List.getElem?_set_ne (fun z => hi z.symm)] at e
  exact e
def Lay.push (L : Lay) (t : Addr × Addr × Addr) : Lay := { L with os := L.os ++ [t] }
def Lay.pushEv (L : Lay) (a : Addr) : Lay := { L with es := L.es ++ [a] }
structure Grow (L L' : Lay) (H : Hp) : Prop where
  p : L'.p = L.p
  own : ∀ b ∈ L'.own, b ∈ L.own ∨ H b = none
  os : ∀ (i : Nat) (t : Addr × Addr × Addr), L.os[i]? = some t → L'.os[i]? = some t
theorem Grow.refl (L : Lay) (H : Hp) : Grow L L H := ⟨rfl, fun _ h => .inl h, fun _ _ h => h⟩
theorem Fr.grow {L L1 : Lay} {H H1 H2 : Hp} (F : Fr L.own H H1) (g : Grow L L1 H) (F2 : Fr L1.own H1 H2) : Fr L.own H H2 := fun b o e n => F2 b o (F b o e n) fun z => by
  rcases g.own b z with z | z
  · exact n z
  · rw [e] at z
    cases z
theorem Fr.none_back {D : List Addr} {H H1 : Hp} (F : Fr D H H1) {b : Addr} (h : H1 b = none) (n : b ∉ D) : H b = none := by
  cases e : H b with
  | none => rfl
  | some o =>
    rw [F b o e n] at h
    cases h
section
variable {P : Program} {w : World} {base h0 : Heap} {K : PySem.W.Frag} {mg : Str → Option Value}
theorem RunAt.push {H : Hp} {L : Lay} {s : S} (R : RunAt K H L s) {t : Addr × Addr × Addr} {o : Op} (h1 : H t.1 = some (.ins (He.ga K "Operation") t.2.1 (opF o s.ops.length t.2.2))) (h2 : H t.2.2 = some (.tup [.int o.fin, .int o.ret])) (hn : t.1 ∉ L.own) (hlast : s.last = none) :
    RunAt K (upd H L.ol (.lst ((L.os.map fun t => V.ref t.1) ++ [V.ref t.1]))) (L.push t) { s with ops := s.ops ++ [o] } := by
  have n1 : ∀ {b : Addr} {u : HO}, H b = some u → (∀ xs, u ≠ .lst xs) → b ≠ L.ol := fun {b u} h d z => by
    rw [z, R.ol] at h
    exact d _ (Option.some.inj h).symm
  have tp : ∀ {b : Addr} {xs : List V} {o : HO}, H b = some (.tup xs) → upd H L.ol o b = some (.tup xs) := fun {b xs o} h => by
    rw [upd_ne (n1 h (fun _ z => by cases z))]
    exact h
  have hrun : runF (L.push t) { s with ops := s.ops ++ [o] } = runF L s := by
    unfold runF Lay.push
    simp only [hlast] <;> rfl
  refine ⟨?_, ?_, ?_, tp R.st, ?_, fun i u q e1 e2 => ?_, ?_, Paired.mapP R.ev fun x y e => tp e, R.ne⟩
  · rw [hrun]
    show upd H L.ol _ L.p = _
    rw [upd_ne (n1 R.run (fun _ z => by cases z))]
    exact R.run
  · show upd H L.ol _ L.ol = _
    rw [upd_same]
    unfold Lay.push
    rw [List.map_append] <;> rfl
  · show upd H L.ol _ L.el = _
    rw [upd_ne (Ne.symm R.ne)]
    exact R.el
  · show (L.os ++ [t]).length = (s.ops ++ [o]).length
    rw [List.length_append, List.length_append, R.len] <;> rfl
  · have e1 : (L.os ++ [t])[i]? = some u := e1
    have e2 : (s.ops ++ [o])[i]? = some q := e2
    by_cases hi : i < s.ops.length
    · rw [List.getElem?_append_left (by rw [R.len]; exact hi)] at e1
      rw [List.getElem?_append_left hi] at e2
      obtain ⟨a1, a2⟩ := R.op i u q e1 e2
      exact ⟨by rw [upd_ne (n1 a1 (fun _ z => by cases z))]; exact a1, tp a2⟩
    · have hl := (List.getElem?_eq_some_iff.mp e2).1
      rw [List.length_append] at hl
      have ei : i = s.ops.length := by
        simp at hl
        omega
      subst ei
      rw [List.getElem?_append_right (Nat.le_refl _)] at e2
      rw [List.getElem?_append_right (by rw [R.len]; exact Nat.le_refl _), R.len] at e1
      simp at e1 e2
      subst e1 e2
      exact ⟨by rw [upd_ne (n1 h1 (fun _ z => by cases z))]; exact h1, tp h2⟩
  · show ((L.os ++ [t]).map (·.1)).Nodup
    rw [List.map_append, List.nodup_append]
    refine ⟨R.nd, by simp, fun a ha b hb => ?_⟩
    simp at hb
    subst hb
    intro z
    subst z
    exact hn (List.mem_cons_of_mem _ (List.mem_cons_of_mem _ (List.mem_cons_of_mem _ ha)))
theorem grow_push {L : Lay} {t : Addr × Addr × Addr} {H : Hp} (h : H t.1 = none) : Grow L (L.push t) H := ⟨rfl, fun b hb => by
  rcases List.mem_cons.mp hb with rfl | hb
  · exact .inl (List.mem_cons_self ..)
  rcases List.mem_cons.mp hb with rfl | hb
  · exact .inl own_ol
  rcases List.mem_cons.mp hb with rfl | hb
  · exact .inl own_el
  have hb : b ∈ (L.os ++ [t]).map (·.1) := hb
  rw [List.map_append] at hb
  rcases List.mem_append.mp hb with hb | hb
  · exact .inl (List.mem_cons_of_mem _ (List.mem_cons_of_mem _ (List.mem_cons_of_mem _ hb)))
  · simp at hb
    subst hb
    exact .inr h, fun i u hu => by
  show (L.os ++ [t])[i]? = some u
  rw [List.getElem?_append_left (List.getElem?_eq_some_iff.mp hu).1]
  exact hu⟩
theorem s_appG {H : Hp} {σ : L2.St} {ta te : TE} {D : Ends} {l : Addr} {xs : List V} (ha : Ev ta σ H (.ref l)) (hl : H l = some (.lst xs)) (k : ∀ H1, Ex H H1 → te σ H1 fun v H2 => ∃ ys, H2 l = some (.lst ys) ∧ ys.length < sizeLine ∧ D.nx σ (upd H2 l (.lst (ys ++ [v])))) : tDrop (tBM K "list" rAppend ta (tCons te tNil)) D σ H := by
  refine ha H (Ex.refl H) _ fun H1 e1 => ⟨.inl ⟨rfl, _, sq_of (e1 _ _ hl)⟩, ?_⟩
  have q := k H1 e1
  show te σ H1 fun x H2 => rAppend (.ref l) [x] H2 fun _ H3 => D.nx σ H3
  have e : (fun (x : V) (H2 : Hp) => rAppend (.ref l) [x] H2 fun _ H3 => D.nx σ H3) = fun v H2 => ∃ ys, H2 l = some (.lst ys) ∧ ys.length < sizeLine ∧ D.nx σ (upd H2 l (.lst (ys ++ [v]))) := by
    funext x H2
    apply propext
    constructor
    · rintro ⟨a, ys, v, e1, e2, e3, e4, e5⟩
      injection e1 with e1
      injection e2 with e2
      subst e1 e2
      exact ⟨ys, e3, e4, e5⟩
    · rintro ⟨ys, e3, e4, e5⟩
      exact ⟨l, ys, x, rfl, rfl, e3, e4, e5⟩
  rw [e]
  exact q
def spBegin (K : PySem.W.Frag) : Sp := fun vs H Q _ => ∃ (L : Lay) (s : S) (wr : Bool), vs = [.ref L.p, .str (kindS wr)] ∧ RunAt K H L s ∧ s.ops.length ≤ 900 ∧ s.last = none ∧
  ∀ L' H', RunAt K H' L' (s.begin wr) → Grow L L' H → Fr L.own H H' → Q .non H'
theorem sc_Run_begin : FnScope ["self", "kind", "one"] ["self", "kind"] (defScope s_Run_begin) := ⟨rfl, rfl, rfl, by decide +kernel, rfl, by decide +kernel, by decide +kernel⟩
theorem ok_Run_begin (T : Txt h0 K mg) : FnOk P w K mg base CX0 6 (He.ma K (He.ga K "Run") "begin") (fdOf K (He.ma K (He.ga K "Run") "begin")) ["self", "kind"] (spBegin K) := by
  refine FnOk.mono (j := 6) ((T.fn_Run_begin).ok sc_Run_begin (fun vs H Q E h => ?_) (fun cdv A outer st0 H vs Q E hr h => ?_)) (by decide)
  · obtain ⟨L, s, wr, rfl, _⟩ := h
    rfl
  · obtain ⟨L, s, wr, rfl, R, hl, hlast, k⟩ := h
    refine ⟨_, PSs.nox ((pss_cons (ps_if (pt_cmpR op_eq (pv 1) pe_str (nomark _)) (pss_one (ps_for PassesOwn.never rfl (pi_listK K (pe_meth0 (pv 0) T.cl_Run T.m_Run_under_way (ok_Run_under_way T) (hr.mono (by decide)) T.b_Run_under_way .nil pass0)) (pg_name (i := 2) sc_Run_begin.nd rfl (Or.inl rfl))
      (pss_one (ps_fldK K (pv 2) pe_bl)))) pss_nil)
      (pss_one (ps_expr (pe_appK K (pe_fldK K (pv 0)) (pe_make T.mk_Operation (ok_Operation_init T) (hr.mono (by decide)) rfl T.g_Operation T.b_Operation_init .nil pass0 (pa_cons (pv 0) (pa_cons (pv 1) pa_nil)))))))), ?_⟩
    have rest : ∀ (σ : L2.St) (H1 : Hp) (s1 : S), σ[0]? = some (some (.ref L.p)) → σ[1]? = some (some (.str (kindS wr))) → RunAt K H1 L s1 → s1.ops.length = s.ops.length → s1.last = none → s1.newOp wr = s.newOp wr → { s1 with ops := s1.ops ++ [s.newOp wr] } = s.begin wr → Fr L.own H H1 →
        tDrop (tBM K "list" rAppend (tFld K (tVar 0) "operations") (tCons (tMake (He.ga K "Operation") (spOpInit K) [] E0 (tCons (tVar 0) (tCons (tVar 1) tNil))) tNil)) { nx := fun _ H' => Q .non H', rt := Q } σ H1 := by
      intro σ H1 s1 h0 h1 R1 hlen hl1 hnew hbeg F1
      refine s_appG (ev_runF T R1 T.n_Run_operations (ev_var h0)) R1.ol fun H2 e2 => ?_
      refine ⟨_, h0, _, h1, ?_⟩
      intro a d na nd nda
      have R2 := R1.mono e2
      have s0 : Same H2 (upd (upd H2 d (.own a)) a (.ins (He.ga K "Operation") d [])) := fun b o e => by
        rw [upd_ne (ne_of_none e na), upd_ne (ne_of_none e nd)]
        exact e
      have R3 := R2.mono s0
      refine ⟨a, d, L, s1, wr, rfl, upd_same, R3, by omega, fun fl H4 nfl hfl hA F4 => ⟨rfl, ?_⟩⟩
      have naL : a ∉ L.own := R3.fresh_ins upd_same
      have R4 := R3.frame F4 (fun b hb => by rw [List.mem_singleton.mp hb]; exact naL) fun b hb xs z => by
        rw [List.mem_singleton.mp hb, upd_same] at z
        cases z
      rw [hnew] at hA
      refine ⟨_, R4.ol, ?_, ?_⟩
      · rw [List.length_map, R.len]
        exact Nat.lt_of_le_of_lt hl (by decide)
      have hfin : s1.fin = (s.newOp wr).fin := (congrArg Op.fin hnew)
      have hret : s1.ret = (s.newOp wr).ret := (congrArg Op.ret hnew)
      have R5 := R4.push (t := (a, d, fl)) hA (by rw [← hfin, ← hret]; exact hfl) naL hl1
      rw [hbeg] at R5
      have hHa : H a = none := Fr.none_back F1 (Same.free e2 na) naL
      refine k _ _ R5 (grow_push hHa) ?_
      intro b o e n
      have e1 := s0 _ _ (e2 _ _ (F1 b o e n))
      have nba : b ≠ a := ne_of_none e hHa
      rw [upd_ne (fun z => n (by rw [z]; exact own_ol))]
      exact F4 b o e1 (by simpa using nba)
    refine q_when (b := wr) (et_test (ev_is (ev_op (ev_var rfl) ev_c (rv_eq rfl)) (congrArg V.bl (by rw [kind_w]; cases wr <;> rfl)))) (fun hb H1 e1 => ?_) (fun hb H1 e1 => ?_)
    · subst hb
      refine going_loop T (R.mono e1) (by omega) (ev_goV T (R.mono e1) (by omega) (ev_var rfl)) (by show 2 < 3; decide) (fun o => { o with quiet := false }) T.n_Operation_is_quiet (fun o i fl => rfl) (fun o => rfl) (fun o => rfl) (fun o => rfl) (fun σ' H2 hσ R2 F2 => ?_)
      rw [upO_gos] at R2
      have hw : ∀ l : List Op, ((l.map fun o => if o.going = true then { o with quiet := false } else o).any fun o => o.going && o.wr) = l.any fun o => o.going && o.wr := by
        intro l
        induction l with
        | nil => rfl
        | cons o l ih =>
          rw [List.map_cons, List.any_cons, List.any_cons, ih]
          congr 1
          by_cases z : o.going = true
          · rw [if_pos z]
            rfl
          · rw [if_neg z]
      refine rest σ' H2 _ (by rw [set_slot hσ (by decide)]; rfl) (by rw [set_slot hσ (by decide)]; rfl) R2 (by show (List.map _ _).length = _; rw [List.length_map]) hlast ?_ ?_ ((Fr.of e1).trans F2)
      · unfold S.newOp S.writing
        have := hw s.ops
        simp only [this] <;> rfl
      · unfold S.begin
        rfl
    · subst hb
      exact rest _ H1 s rfl rfl (R.mono e1) rfl hlast rfl rfl (Fr.of e1)
def spDoStep (K : PySem.W.Frag) : Sp := fun vs H Q _ => ∃ (L : Lay) (s : S) (w : Wd) (n : Nat), vs = [.ref L.p, .str w.str, .int (n : Int)] ∧ RunAt K H L s ∧ s.ops.length ≤ 900 ∧ s.last = none ∧ stepOk s w n ∧
  ∀ L' H', RunAt K H' L' (s.doStep w n) → Grow L L' H → Fr L.own H H' → Q .non H'
theorem int_is (a b : Nat) : decide (V.int (a : Int) = V.int (b : Int)) = decide (a = b) := by
  by_cases h : a = b
  · subst h
    simp
  · rw [decide_eq_false h, decide_eq_false]
    intro z
    injection z with z
    exact h (by omega)
theorem sc_Run_do_step : FnScope ["self", "word", "number", "one"] ["self", "word", "number"] (defScope s_Run_do_step) := ⟨rfl, rfl, rfl, by decide +kernel, rfl, by decide +kernel, by decide +kernel⟩
theorem ok_Run_do_step (T : Txt h0 K mg) : FnOk P w K mg base CX0 7 (He.ma K (He.ga K "Run") "do_step") (fdOf K (He.ma K (He.ga K "Run") "do_step")) ["self", "word", "number"] (spDoStep K) := by
  refine FnOk.mono (j := 7) ((T.fn_Run_do_step).ok sc_Run_do_step (fun vs H Q E h => ?_) (fun cdv A outer st0 H vs Q E hr h => ?_)) (by decide)
  · obtain ⟨L, s, w, n, rfl, _⟩ := h
    rfl
  · obtain ⟨L, s, wd, n, rfl, R, hl, hlast, ⟨hn, hok⟩, k⟩ := h
    refine ⟨_, PSs.nox ((pss_cons (ps_if (pt_cmpR op_eq (pv 2) (pe_callB (call_lenK K) (by rfl) T.f_len (by decide +kernel) (pa_cons (pe_fldK K (pv 0)) pa_nil)) (nomark _)) (pss_one (ps_expr (pe_meth (pv 0) T.cl_Run T.m_Run_begin (ok_Run_begin T) (hr.mono (by decide)) T.b_Run_begin .nil pass0 (pa_cons (pe_ifExp (pt_cmpR op_eq (pv 1) pe_str (nomark _)) pe_str pe_str) pa_nil)))) pss_nil)
      (pss_cons (ps_set (i := 3) sc_Run_do_step.nd rfl (Or.inl rfl) (pe_ix (ix_listK K) (pe_fldK K (pv 0)) (pv 2) (fun _ _ => rfl)))
      (pss_one (ps_if (pt_cmpR op_eq (pv 1) pe_str (nomark _)) (pss_one (ps_fldK K (pv 3) pe_str)) (pss_one (ps_if (pt_cmpR op_eq (pe_fldK K (pv 3)) pe_str (nomark _)) (pss_one (ps_expr (pe_meth (pv 0) T.cl_Run T.m_Run_do_write (ok_Run_do_write T) (hr.mono (by decide)) T.b_Run_do_write .nil pass0 (pa_cons (pv 1) (pa_cons (pv 3) pa_nil))))) (pss_one (ps_expr (pe_meth (pv 0) T.cl_Run T.m_Run_do_read (ok_Run_do_read T) (hr.mono (by decide)) T.b_Run_do_read .nil pass0 (pa_cons (pv 1) (pa_cons (pv 3) pa_nil)))))))))))), ?_⟩
    have rest : ∀ (L1 : Lay) (H1 : Hp), RunAt K H1 L1 (s.begun wd n) → Grow L L1 H → Fr L.own H H1 →
        tSeq (tAsg (tOp (rIxL K) (tFld K (tVar 0) "operations") (tVar 2)) (gName 3)) (tIfS (tTest (tOp rEq (tVar 1) (tC (.str "stop")))) (sFld K (tVar 3) (tC (.str "stopped")) "stage") (tIfS (tTest (tOp rEq (tFld K (tVar 3) "kind") (tC (.str "write"))))
          (tDrop (tMeth (He.ga K "Run") "do_write" (spWrite K) [] E0 (tVar 0) (tCons (tVar 1) (tCons (tVar 3) tNil)))) (tDrop (tMeth (He.ga K "Run") "do_read" (spRead K) [] E0 (tVar 0) (tCons (tVar 1) (tCons (tVar 3) tNil))))))
          { nx := fun _ H' => Q .non H', rt := Q } [some (.ref L.p), some (.str wd.str), some (.int (n : Int)), none] H1 := by
      intro L1 H1 R1 g F1
      have ho := ops_at hn
      obtain ⟨t, ht, _⟩ := R1.os_at hn
      have e0 : V.ref L.p = V.ref L1.p := by rw [g.p]
      rw [e0]
      refine q_asg (v := .ref t.1) (ev_op (ev_runF T R1 T.n_Run_operations (ev_var rfl)) (ev_var rfl) (rv_ixL (sq_of R1.ol) (L2.at_of (j := n) rfl (by rw [List.getElem?_map, ht] <;> rfl)))) fun H2 e2 => ?_
      have R2 := R1.mono e2
      refine s_if (et_test (ev_is (ev_op (ev_var rfl) ev_c (rv_eq rfl)) (congrArg V.bl (w_is wd .stop rfl)))) (fun hb H3 e3 => ?_) (fun hb H3 e3 => ?_)
      · have hb : wd = .stop := of_decide_eq_true hb
        refine s_setO T (R2.mono e3) ht ho (fun _ _ => ev_var rfl) ev_c { (s.begun wd n).at n with stage := .stopped } T.n_Operation_stage rfl fun H4 R4 F4 => k L1 H4 ?_ g (F1.grow g ((Fr.of (Ex.trans e2 e3)).trans F4))
        have eq : s.doStep wd n = (s.begun wd n).stopOp n ((s.begun wd n).at n) := by
          unfold S.doStep
          simp only [if_pos hb]
        rw [eq]
        refine R4.as rfl rfl ?_ rfl fun i a b h1 h2 => ?_
        · show (List.set _ _ _).length = (List.set _ _ _).length
          rw [List.length_set, List.length_set]
        · have h1 : ((s.begun wd n).ops.set n { (s.begun wd n).at n with stage := .stopped })[i]? = some a := h1
          have h2 : ((s.begun wd n).ops.set n { (s.begun wd n).at n with stage := .stopped, over := some (s.begun wd n).now })[i]? = some b := h2
          by_cases hj : i = n
          · subst hj
            rw [List.getElem?_set_self hn] at h1 h2
            cases h1
            cases h2
            exact ⟨fun f => rfl, rfl, rfl⟩
          · rw [List.getElem?_set_ne (fun z => hj z.symm)] at h1 h2
            rw [h1] at h2
            cases h2
            exact ⟨fun f => rfl, rfl, rfl⟩
      · have hb : ¬ wd = .stop := of_decide_eq_false hb
        obtain ⟨hw, hr⟩ := hok hb
        have R3 := R2.mono e3
        have bl : (s.begun wd n).ops.length ≤ 1000 := by
          have := begun_len s wd n
          omega
        refine s_if (et_test (ev_kindW T R3 ht ho (ev_var rfl))) (fun hb2 H4 e4 => ?_) (fun hb2 H4 e4 => ?_)
        · refine s_meth (ev_var rfl) (R3.mono e4).run rfl (ea_cons (ev_var rfl) (ea_cons (ev_var rfl) ea_nil)) fun H5 e5 => ?_
          obtain ⟨c1, c2, c3⟩ := hw hb2
          refine ⟨L1, _, n, t, _, wd, rfl, (R3.mono e4).mono e5, ht, ho, bl, c1, c2, c3, fun H6 R6 F6 => k L1 H6 ?_ g (F1.grow g ((Fr.of (Ex.trans (Ex.trans e2 e3) (Ex.trans e4 e5))).trans F6))⟩
          have eq : s.doStep wd n = (s.begun wd n).doWrite n wd ((s.begun wd n).at n) := by
            unfold S.doStep
            simp only [if_neg hb, hb2, if_true]
          rw [eq]
          exact R6
        · refine s_meth (ev_var rfl) (R3.mono e4).run rfl (ea_cons (ev_var rfl) (ea_cons (ev_var rfl) ea_nil)) fun H5 e5 => ?_
          refine ⟨L1, _, n, t, _, wd, rfl, (R3.mono e4).mono e5, ht, ho, hr hb2, fun H6 R6 F6 => k L1 H6 ?_ g (F1.grow g ((Fr.of (Ex.trans (Ex.trans e2 e3) (Ex.trans e4 e5))).trans F6))⟩
          have eq : s.doStep wd n = (s.begun wd n).doRead n wd ((s.begun wd n).at n) := by
            unfold S.doStep
            simp only [if_neg hb, hb2, Bool.false_eq_true, if_false]
          rw [eq]
          exact R6
    refine q_when (b := decide (n = s.ops.length)) (et_test (ev_is (ev_op (ev_var rfl) (ev_len (ev_runF T R T.n_Run_operations (ev_var rfl)) (sq_of R.ol)) (rv_eq rfl)) (congrArg V.bl (by rw [R.ol_len]; exact int_is _ _)))) (fun hb H1 e1 => ?_) (fun hb H1 e1 => ?_)
    · have hb : n = s.ops.length := of_decide_eq_true hb
      have R1 := R.mono e1
      refine s_meth (vs := [.str (kindS (decide (wd ≠ .look)))]) (ev_var rfl) R1.run rfl (ea_cons (ev_if (et_test (ev_is (ev_op (ev_var rfl) ev_c (rv_eq rfl)) (congrArg V.bl (w_is wd .look rfl)))) (fun z => ?_) (fun z => ?_)) ea_nil) fun H2 e2 => ?_
      · have z : wd = .look := of_decide_eq_true z
        rw [z]
        exact ev_c
      · have z : ¬ wd = .look := of_decide_eq_false z
        rw [decide_eq_true z]
        exact ev_c
      refine ⟨L, s, decide (wd ≠ .look), rfl, R1.mono e2, hl, hlast, fun L' H' R' g F => rest L' H' ?_ ⟨g.p, fun b hb => ?_, g.os⟩ ((Fr.of (Ex.trans e1 e2)).trans F)⟩
      · unfold S.begun
        rw [if_pos hb]
        exact R'
      · rcases g.own b hb with z | z
        · exact .inl z
        · exact .inr (Same.free (Ex.trans e1 e2) z)
    · have hb : ¬ n = s.ops.length := of_decide_eq_false hb
      refine rest L H1 ?_ (Grow.refl L H) (Fr.of e1)
      unfold S.begun
      rw [if_neg hb]
      exact R.mono e1
end
end K10
end
section
set_option Elab.async false
set_option linter.all false
set_option maxRecDepth 100000
set_option maxHeartbeats 4000000
namespace K10
open PySem PySem.Spec PyProof.Rows L2 Evl
def evW : Evt → Str
  | .evict => "evict"
  | .copy => "copy"
  | .op w _ => w.str
theorem evW_at (e : Evt) : (evEnc e)[0]? = some (V.str (evW e)) := by cases e <;> rfl
theorem w_no (w : Wd) : w.str ≠ "evict" ∧ w.str ≠ "copy" := by cases w <;> decide +kernel
theorem ev_evict (e : Evt) : decide (V.str (evW e) = V.str "evict") = decide (e = .evict) := by
  cases e with
  | evict => decide +kernel
  | copy => decide +kernel
  | op w n =>
    rw [decide_eq_false (show ¬ Evt.op w n = .evict from fun z => by cases z), decide_eq_false]
    intro z
    injection z with z
    exact (w_no w).1 z
theorem ev_copy (e : Evt) : decide (V.str (evW e) = V.str "copy") = decide (e = .copy) := by
  cases e with
  | evict => decide +kernel
  | copy => decide +kernel
  | op w n =>
    rw [decide_eq_false (show ¬ Evt.op w n = .copy from fun z => by cases z), decide_eq_false]
    intro z
    injection z with z
    exact (w_no w).2 z
section
variable {P : Program} {w : World} {base h0 : Heap} {K : PySem.W.Frag} {mg : Str → Option Value}
theorem RunAt.pushEv {H : Hp} {L : Lay} {s : S} {a : Addr} {e : Evt} (R : RunAt K H L s) (ha : H a = some (.tup (evEnc e))) : RunAt K (upd H L.el (.lst ((L.es.map V.ref) ++ [V.ref a]))) (L.pushEv a) (s.addPast e) := by
  have n1 : ∀ {b : Addr} {u : HO}, H b = some u → (∀ xs, u ≠ .lst xs) → b ≠ L.el := fun {b u} h d z => by
    rw [z, R.el] at h
    exact d _ (Option.some.inj h).symm
  have tp : ∀ {b : Addr} {xs : List V} {o : HO}, H b = some (.tup xs) → upd H L.el o b = some (.tup xs) := fun {b xs o} h => by
    rw [upd_ne (n1 h (fun _ z => by cases z))]
    exact h
  refine ⟨?_, ?_, ?_, tp R.st, R.len, fun i u q e1 e2 => ?_, R.nd, ?_, R.ne⟩
  · show upd H L.el _ L.p = _
    rw [upd_ne (n1 R.run (fun _ z => by cases z))]
    exact R.run
  · show upd H L.el _ L.ol = _
    rw [upd_ne R.ne]
    exact R.ol
  · show upd H L.el _ L.el = _
    rw [upd_same]
    unfold Lay.pushEv
    rw [List.map_append] <;> rfl
  · obtain ⟨a1, a2⟩ := R.op i u q e1 e2
    exact ⟨by rw [upd_ne (n1 a1 (fun _ z => by cases z))]; exact a1, tp a2⟩
  · have app : ∀ {as : List Addr} {es : List Evt}, Paired (fun a e => H a = some (.tup (evEnc e))) as es → Paired (fun a e => upd H L.el (.lst ((L.es.map V.ref) ++ [V.ref a])) a = some (.tup (evEnc e))) as es := fun p => Paired.mapP p fun x y h => tp h
    have key : ∀ {as : List Addr} {es : List Evt}, Paired (fun a e => H a = some (.tup (evEnc e))) as es → Paired (fun b e => upd H L.el (.lst ((L.es.map V.ref) ++ [V.ref a])) b = some (.tup (evEnc e))) (as ++ [a]) (es ++ [e]) := by
      intro as es p
      induction p with
      | nil => exact .cons (tp ha) .nil
      | cons r _ ih => exact .cons (tp r) ih
    exact key R.ev
def spDo (K : PySem.W.Frag) : Sp := fun vs H Q _ => ∃ (L : Lay) (s : S) (a : Addr) (e : Evt), vs = [.ref L.p, .ref a] ∧ RunAt K H L s ∧ H a = some (.tup (evEnc e)) ∧ s.ops.length ≤ 900 ∧ s.past.length ≤ 900 ∧ evOk s e ∧
  ∀ L' H', RunAt K H' L' (s.doEv e) → Grow L L' H → Fr L.own H H' → Q .non H'
theorem sc_Run_do : FnScope ["self", "event"] ["self", "event"] (defScope s_Run_do) := ⟨rfl, rfl, rfl, by decide +kernel, rfl, by decide +kernel, by decide +kernel⟩
theorem ok_Run_do (T : Txt h0 K mg) : FnOk P w K mg base CX0 8 (He.ma K (He.ga K "Run") "do") (fdOf K (He.ma K (He.ga K "Run") "do")) ["self", "event"] (spDo K) := by
  refine FnOk.mono (j := 8) ((T.fn_Run_do).ok sc_Run_do (fun vs H Q E h => ?_) (fun cdv A outer st0 H vs Q E hr h => ?_)) (by decide)
  · obtain ⟨L, s, a, e, rfl, _⟩ := h
    rfl
  · obtain ⟨L, s, a, e, rfl, R, ha, hl, hl2, hok, k⟩ := h
    refine ⟨_, PSs.nox ((pss_cons (ps_fldK K (pv 0) pe_non)
      (pss_cons (ps_if (pt_cmpR op_eq (pe_ix (ix_tupK K) (pv 1) pe_int (fun _ _ => rfl)) pe_str (nomark _)) (pss_one (ps_asg (pe_tup (pa_cons pe_non (pa_cons pe_int pa_nil))) (pg_tupK K (pgs_cons (pg_fldK K (pv 0)) (pgs_cons (pg_fldK K (pv 0)) pgs_nil))))) (pss_one (ps_if (pt_cmpR op_eq (pe_ix (ix_tupK K) (pv 1) pe_int (fun _ _ => rfl)) pe_str (nomark _)) (pss_one (ps_fldaugK K (pv 0) pe_int in_add)) (pss_one (ps_expr (pe_meth (pv 0) T.cl_Run T.m_Run_do_step (ok_Run_do_step T) (hr.mono (by decide)) T.b_Run_do_step .nil pass0 (pa_cons (pe_ix (ix_tupK K) (pv 1) pe_int (fun _ _ => rfl)) (pa_cons (pe_ix (ix_tupK K) (pv 1) pe_int (fun _ _ => rfl)) pa_nil))))))))
      (pss_one (ps_expr (pe_appK K (pe_fldK K (pv 0)) (pv 1))))))), ?_⟩
    have na : ∀ {H1 : Hp}, Fr L.own H H1 → H1 a = some (.tup (evEnc e)) := fun {H1} F => F a _ ha fun z => by
      rcases List.mem_cons.mp z with z | z
      · rw [z, R.run] at ha
        cases ha
      rcases List.mem_cons.mp z with z | z
      · rw [z, R.ol] at ha
        cases ha
      rcases List.mem_cons.mp z with z | z
      · rw [z, R.el] at ha
        cases ha
      obtain ⟨t, ht, et⟩ := List.mem_map.mp z
      obtain ⟨i, hi⟩ := List.mem_iff_getElem?.mp ht
      have hl := (List.getElem?_eq_some_iff.mp hi).1
      rw [R.len] at hl
      have z1 := (R.op i t _ hi (List.getElem?_eq_getElem hl)).1
      rw [et, ha] at z1
      cases z1
    have rest : ∀ (L1 : Lay) (H1 : Hp), RunAt K H1 L1 (s.doCore e) → (s.doCore e).past = s.past → Grow L L1 H → Fr L.own H H1 →
        tDrop (tBM K "list" rAppend (tFld K (tVar 0) "events_done") (tCons (tVar 1) tNil)) { nx := fun _ H' => Q .non H', rt := Q } (L2.start ["self", "event"] [V.ref L.p, V.ref a]) H1 := by
      intro L1 H1 R1 hp g F1
      have e0 : V.ref L.p = V.ref L1.p := by rw [g.p]
      rw [e0]
      refine s_app R1.el (ev_runF T R1 T.n_Run_events_done (ev_var rfl)) (ev_var rfl) ?_ fun H2 e2 => ?_
      · rw [List.length_map, Paired.length R1.ev, hp]
        omega
      · refine k (L1.pushEv a) _ ((R1.mono e2).pushEv (e2 _ _ (na F1))) ⟨g.p, g.own, g.os⟩ (F1.grow g ((Fr.of e2).trans (Fr.upd own_el)))
    refine q_setR T R (fun _ _ => ev_var rfl) ev_c { s with last := none } T.n_Run_last rfl fun H1 R1 F1 => ?_
    have ev0 : ∀ H2, Ex H1 H2 → Ev (tOp (rIxT K) (tVar 1) (tC (.int 0))) (L2.start ["self", "event"] [V.ref L.p, V.ref a]) H2 (.str (evW e)) := fun H2 e2 => ev_op (ev_var rfl) ev_c (rv_ixT (st_of (e2 _ _ (na F1))) (L2.at_of (j := 0) rfl (evW_at e)))
    refine q_if (et_test (ev_is (ev_op (ev0 H1 (Ex.refl _)) ev_c (rv_eq rfl)) (congrArg V.bl (ev_evict e)))) (fun hb H2 e2 => ?_) (fun hb H2 e2 => ?_)
    · have hb : e = .evict := of_decide_eq_true hb
      subst hb
      refine s_asg2 (ea_cons ev_c (ea_cons ev_c ea_nil)) fun H3 e3 => ?_
      refine g_setR T ((R1.mono e2).mono e3) (ev_var rfl) { s with last := none, cache := none } T.n_Run_cache rfl fun H4 R4 F4 => ?_
      show gFld _ _ _ _ _ _ _
      refine g_setR T R4 (ev_var rfl) { s with last := none, cache := none, mark := 0 } T.n_Run_mark rfl fun H5 R5 F5 => ?_
      exact rest L H5 R5 rfl (Grow.refl L H) (F1.trans ((Fr.of (Ex.trans e2 e3)).trans (F4.trans F5)))
    · have hb : ¬ e = .evict := of_decide_eq_false hb
      refine s_if (et_test (ev_is (ev_op (ev0 H2 e2) ev_c (rv_eq rfl)) (congrArg V.bl (ev_copy e)))) (fun hb2 H3 e3 => ?_) (fun hb2 H3 e3 => ?_)
      · have hb2 : e = .copy := of_decide_eq_true hb2
        subst hb2
        refine s_augR T ((R1.mono e2).mono e3) (ev_var rfl) T.n_Run_replica rfl ev_c { s with last := none, rep := s.rep + 1 } rfl fun H4 R4 F4 => ?_
        exact rest L H4 R4 rfl (Grow.refl L H) (F1.trans ((Fr.of (Ex.trans e2 e3)).trans F4))
      · have hb2 : ¬ e = .copy := of_decide_eq_false hb2
        cases e with
        | evict => exact absurd rfl hb
        | copy => exact absurd rfl hb2
        | op wd n =>
          have R3 := (R1.mono e2).mono e3
          have hn : Ev (tOp (rIxT K) (tVar 1) (tC (.int 1))) (L2.start ["self", "event"] [V.ref L.p, V.ref a]) H3 (.int (n : Int)) := ev_op (ev_var rfl) ev_c (rv_ixT (st_of ((Ex.trans e2 e3) _ _ (na F1))) (L2.at_of (j := 1) rfl rfl))
          refine s_meth (ev_var rfl) R3.run rfl (ea_cons (ev0 H3 (Ex.trans e2 e3)) (ea_cons hn ea_nil)) fun H4 e4 => ?_
          refine ⟨L, { s with last := none }, wd, n, rfl, R3.mono e4, hl, rfl, hok, fun L' H' R' g F => rest L' H' R' (doStep_past _ _ _) ⟨g.p, fun b hb => ?_, g.os⟩ (F1.trans ((Fr.of (Ex.trans (Ex.trans e2 e3) e4)).trans F))⟩
          · rcases g.own b hb with z | z
            · exact .inl z
            · by_cases hbo : b ∈ L.own
              · exact .inl hbo
              · exact .inr (Fr.none_back (F1.trans (Fr.of (Ex.trans (Ex.trans e2 e3) e4))) z hbo)
end
end K10
end
section
set_option Elab.async false
set_option linter.all false
set_option maxRecDepth 100000
set_option maxHeartbeats 4000000
namespace K10
open PySem PySem.Spec PyProof.Rows L2 Evl
def evTup (H : Hp) (a : Addr) (e : Evt) : Prop := H a = some (.tup (evEnc e))
theorem paired_at {F : Addr → Evt → Prop} : ∀ {as : List Addr} {es : List Evt} {i : Nat} {x : V}, Paired F as es → (as.map V.ref)[i]? = some x → ∃ a e, x = .ref a ∧ es[i]? = some e ∧ F a e
  | _, _, _, _, .nil, h => by simp at h
  | _, _, 0, _, .cons r _, h => by
    simp at h
    exact ⟨_, _, h.symm, rfl, r⟩
  | _, _, i + 1, x, .cons _ t, h => by
    obtain ⟨a, e, h1, h2, h3⟩ := paired_at (i := i) (x := x) t (by simpa using h)
    exact ⟨a, e, h1, by simpa using h2, h3⟩
theorem runOk_take {s : S} : ∀ {es : List Evt} {i : Nat} {e : Evt}, runOk s es → es[i]? = some e → evOk (s.run (es.take i)) e
  | [], _, _, _, h => by simp at h
  | x :: r, 0, e, h, hi => by
    simp at hi
    subst hi
    exact h.1
  | x :: r, i + 1, e, h, hi => runOk_take (s := s.doEv x) h.2 (by simpa using hi)
section
variable {P : Program} {w : World} {base h0 : Heap} {K : PySem.W.Frag} {mg : Str → Option Value}
def spRunOf (K : PySem.W.Frag) : Sp := fun vs H Q _ => ∃ (da wa l : Addr) (c : Cfg) (as : List Addr) (es : List Evt), vs = [.ref da, .ref wa, .ref l] ∧ SqT K H da (desV c) ∧ SqT K H wa (worV c) ∧ SqL K H l (as.map V.ref) ∧ Paired (evTup H) as es ∧ es.length ≤ 100 ∧ runOk (S.init c) es ∧
  ∀ L H', RunAt K H' L ((S.init c).run es) → (∀ b ∈ L.own, H b = none) → Ex H H' → Q (.ref L.p) H'
theorem sc_run_of_list : FnScope ["design", "world", "events", "run", "event"] ["design", "world", "events"] (defScope s_run_of_list) := ⟨rfl, rfl, rfl, by decide +kernel, rfl, by decide +kernel, by decide +kernel⟩
theorem ok_run_of_list (T : Txt h0 K mg) : FnOk P w K mg base CX0 9 (He.ga K "run_of_list") (fdOf K (He.ga K "run_of_list")) ["design", "world", "events"] (spRunOf K) := by
  refine FnOk.mono (j := 9) ((T.fn_run_of_list).ok sc_run_of_list (fun vs H Q E h => ?_) (fun cdv A outer st0 H vs Q E hr h => ?_)) (by decide)
  · obtain ⟨da, wa, l, c, as, es, rfl, _⟩ := h
    rfl
  · obtain ⟨da, wa, l, c, as, es, rfl, hD, hW, hl, hev, hlen, hok, k⟩ := h
    refine ⟨_, PSs.nox ((pss_cons (ps_set (i := 3) sc_run_of_list.nd rfl (Or.inl rfl) (pe_make T.mk_Run (ok_Run_init T) (hr.mono (by decide)) rfl T.g_Run T.b_Run_init .nil pass0 (pa_cons (pv 0) (pa_cons (pv 1) pa_nil))))
      (pss_cons (ps_for PassesOwn.never rfl (pi_listK K (pv 2)) (pg_name (i := 4) sc_run_of_list.nd rfl (Or.inl rfl))
      (pss_one (ps_expr (pe_meth (pv 3) T.cl_Run T.m_Run_do (ok_Run_do T) (hr.mono (by decide)) T.b_Run_do .nil pass0 (pa_cons (pv 4) pa_nil)))))
      (pss_one (ps_ret (pv 3)))))), ?_⟩
    refine ⟨_, rfl, _, rfl, ?_⟩
    intro p d np nd ndp
    have s0 : Same H (upd (upd H d (.own p)) p (.ins (He.ga K "Run") d [])) := fun b o e => by
      rw [upd_ne (ne_of_none e np), upd_ne (ne_of_none e nd)]
      exact e
    refine ⟨p, d, da, wa, c, rfl, upd_same, ex_t s0 hD, ex_t s0 hW, fun L H1 hp R1 hfr F1 => ⟨rfl, ?_⟩⟩
    have e1 : Ex H H1 := fun b o e => F1 b o (s0 b o e) fun z => by
      rw [List.mem_singleton.mp z, np] at e
      cases e
    have own1 : ∀ b ∈ L.own, H b = none := fun b hb => by
      rcases hfr b hb with rfl | z
      · exact np
      · exact Same.free s0 z
    have alen := Paired.length hev
    refine q_forLn (xs := as.map V.ref) (K := K) (ev_var rfl) (ex_l e1 hl) (fun i σ H' => ∃ (L1 : Lay) (x : Option V), σ = [some (.ref da), some (.ref wa), some (.ref l), some (.ref L1.p), x] ∧ RunAt K H' L1 ((S.init c).run (es.take i)) ∧ (∀ b ∈ L1.own, H b = none) ∧ Ex H H') ?_ ?_ ?_ ?_
    · intro H2 e2
      refine ⟨L, none, ?_, R1.mono e2, own1, e1.trans e2⟩
      rw [hp] <;> rfl
    · rintro i σ H2 _ ⟨L1, x, rfl, R2, o2, e2⟩
      exact ex_l e2 hl
    · rintro i x σ H2 hx ⟨L1, y, rfl, R2, o2, e2⟩
      obtain ⟨a, e, rfl, he, ha⟩ := paired_at hev hx
      have hi := (List.getElem?_eq_some_iff.mp he).1
      refine s_meth (ev_var rfl) R2.run rfl (ea_cons (ev_var rfl) ea_nil) fun H3 e3 => ?_
      refine ⟨L1, _, a, e, rfl, R2.mono e3, e3 _ _ (e2 _ _ ha), ?_, ?_, runOk_take hok he, fun L2 H4 R4 g4 F4 => ?_⟩
      · have h1 := run_ops (S.init c) (es.take i)
        have h2 : (S.init c).ops.length = 0 := rfl
        rw [List.length_take] at h1
        omega
      · rw [run_past, List.length_append, List.length_take]
        have h2 : (S.init c).past.length = 0 := rfl
        omega
      · refine ⟨L2, some (.ref a), ?_, ?_, fun b hb => ?_, fun b o eb => ?_⟩
        · rw [g4.p] <;> rfl
        · have e5 : es.take (i + 1) = es.take i ++ [e] := by
            rw [List.take_add_one, he] <;> rfl
          rw [e5, run_snoc]
          exact R4
        · rcases g4.own b hb with z | z
          · exact o2 b z
          · exact Same.free (e2.trans e3) z
        · exact F4 b o (e3 _ _ (e2 _ _ eb)) fun z => by
            rw [o2 b z] at eb
            cases eb
    · rintro σ H2 ⟨L1, x, rfl, R2, o2, e2⟩
      rw [List.length_map, alen, List.take_length] at R2
      refine s_ret (ev_var rfl) fun H3 e3 => k L1 H3 (R2.mono e3) o2 (e2.trans e3)
def spAgain (K : PySem.W.Frag) : Sp := fun vs H Q _ => ∃ (da wa : Addr) (c : Cfg) (L : Lay) (s : S), vs = [.ref da, .ref wa, .ref L.p] ∧ SqT K H da (desV c) ∧ SqT K H wa (worV c) ∧ RunAt K H L s ∧ s.past.length ≤ 100 ∧ runOk (S.init c) s.past ∧
  ∀ L' H', RunAt K H' L' ((S.init c).run s.past) → (∀ b ∈ L'.own, H b = none) → Ex H H' → Q (.ref L'.p) H'
theorem sc_again : FnScope ["design", "world", "run"] ["design", "world", "run"] (defScope s_again) := ⟨rfl, rfl, rfl, by decide +kernel, rfl, by decide +kernel, by decide +kernel⟩
theorem ok_again (T : Txt h0 K mg) : FnOk P w K mg base CX0 10 (He.ga K "again") (fdOf K (He.ga K "again")) ["design", "world", "run"] (spAgain K) := by
  refine FnOk.mono (j := 10) ((T.fn_again).ok sc_again (fun vs H Q E h => ?_) (fun cdv A outer st0 H vs Q E hr h => ?_)) (by decide)
  · obtain ⟨da, wa, c, L, s, rfl, _⟩ := h
    rfl
  · obtain ⟨da, wa, c, L, s, rfl, hD, hW, R, hl, hok, k⟩ := h
    refine ⟨_, PSs.nox ((pss_one (ps_ret (pe_call (ok_run_of_list T) (hr.mono (by decide)) rfl T.g_run_of_list T.k_run_of_list T.b_run_of_list .nil pass0 (pa_cons (pv 0) (pa_cons (pv 1) (pa_cons (pe_fldK K (pv 2)) pa_nil))))))), ?_⟩
    refine ⟨_, rfl, _, rfl, ?_⟩
    refine (ev_runF T R T.n_Run_events_done (ev_var rfl)) H (Ex.refl H) _ fun H1 e1 => ?_
    refine ⟨da, wa, L.el, c, L.es, s.past, rfl, ex_t e1 hD, ex_t e1 hW, sq_of (e1 _ _ R.el), Paired.mapP R.ev fun a b h => e1 _ _ h, hl, hok, fun L' H' R' o' e' => k L' H' R' (fun b hb => Same.free e1 (o' b hb)) (e1.trans e')⟩
def spBehind (K : PySem.W.Frag) : Sp := fun vs H Q _ => ∃ (L : Lay) (s : S), vs = [.ref L.p] ∧ RunAt K H L s ∧ RetV (.bl s.behind) H Q
theorem s_behind (T : Txt h0 K mg) {H : Hp} {L : Lay} {s : S} {ta : TE} {σ : L2.St} (R : RunAt K H L s) (ha : ∀ H1, Ex H H1 → Ev ta σ H1 (.ref L.p)) : Ev (tAndV (tNotN (tFld K ta "cache")) (tOp (rI0 fun i j => V.bl (decide (i < j))) (tFld K ta "cache") (tFld K ta "database"))) σ H (.bl s.behind) := by
  cases hc : s.cache with
  | none =>
    refine ev_is (ev_andV (b := false) (ev_is (ev_notN (ev_runF T R T.n_Run_cache (ha _ (Ex.refl _)))) (show _ = V.bl false by rw [hc] <;> rfl)) (fun z => by cases z)) ?_
    unfold S.behind
    rw [hc] <;> rfl
  | some c =>
    refine ev_is (ev_andV (ev_is (ev_notN (ev_runF T R T.n_Run_cache (ha _ (Ex.refl _)))) (show _ = V.bl true by rw [hc] <;> rfl)) (fun _ => ev_op (ev_is (ev_runF T R T.n_Run_cache (ha _ (Ex.refl _))) (show _ = V.int c by rw [hc] <;> rfl)) (ev_runF T R T.n_Run_database (ha _ (Ex.refl _))) rv_I0)) ?_
    unfold S.behind
    rw [hc] <;> rfl
theorem sc_is_behind : FnScope ["run"] ["run"] (defScope s_is_behind) := ⟨rfl, rfl, rfl, by decide +kernel, rfl, by decide +kernel, by decide +kernel⟩
theorem ok_is_behind (T : Txt h0 K mg) : FnOk P w K mg base CX0 1 (He.ga K "is_behind") (fdOf K (He.ga K "is_behind")) ["run"] (spBehind K) := by
  refine FnOk.mono (j := 1) ((T.fn_is_behind).ok sc_is_behind (fun vs H Q E h => ?_) (fun cdv A outer st0 H vs Q E hr h => ?_)) (by decide)
  · obtain ⟨L, s, rfl, _⟩ := h
    rfl
  · obtain ⟨L, s, rfl, R, k⟩ := h
    refine ⟨_, PSs.nox ((pss_one (ps_ret (pe_and (pe_cmp (pc_notN (pe_fldK K (pv 0)))) (pe_one (pe_cmpR op_lt (pe_fldK K (pv 0)) (pe_fldK K (pv 0)) (nomark _))))))), ?_⟩
    exact s_ret (s_behind T R fun _ _ => ev_var rfl) k
end
end K10
end
section
set_option Elab.async false
set_option linter.all false
set_option maxRecDepth 100000
set_option maxHeartbeats 4000000
namespace K10
open PySem PySem.Spec PyProof.Rows L2 Evl
section
variable {P : Program} {w : World} {base h0 : Heap} {K : PySem.W.Frag} {mg : Str → Option Value}
theorem s_do {H : Hp} {L : Lay} {s : S} {a b : TE} {σ : L2.St} {xs : List V} {e : Evt} {D : Ends} {E : XK} (R : RunAt K H L s) (ha : Ev a σ H (.ref L.p)) (hb : EvU b σ H (evEnc e)) (h1 : s.ops.length ≤ 900) (h2 : s.past.length ≤ 900) (hok : evOk s e)
    (k : ∀ L' H', RunAt K H' L' (s.doEv e) → Grow L L' H → Fr L.own H H' → D.nx σ H') : tDrop (tMeth (He.ga K "Run") "do" (spDo K) [] E a (tCons b tNil)) D σ H := by
  refine ha H (Ex.refl H) _ fun H2 e2 => ⟨L.p, _, _, rfl, e2 _ _ R.run, rfl, hb H2 e2 _ fun p H3 hp e3 h3 => ⟨L, s, p, e, rfl, R.mono (Ex.trans e2 e3), h3, h1, h2, hok, fun L' H' R' g F => k L' H' R' ⟨g.p, fun b hb => ?_, g.os⟩ ((Fr.of (Ex.trans e2 e3)).trans F)⟩⟩
  rcases g.own b hb with z | z
  · exact .inl z
  · exact .inr (Same.free (Ex.trans e2 e3) z)
theorem q_do {H : Hp} {L : Lay} {s : S} {a b : TE} {σ : L2.St} {e : Evt} {D : Ends} {tz : TS} {E : XK} (R : RunAt K H L s) (ha : Ev a σ H (.ref L.p)) (hb : EvU b σ H (evEnc e)) (h1 : s.ops.length ≤ 900) (h2 : s.past.length ≤ 900) (hok : evOk s e)
    (k : ∀ L' H', RunAt K H' L' (s.doEv e) → Grow L L' H → Fr L.own H H' → tz D σ H') : tSeq (tDrop (tMeth (He.ga K "Run") "do" (spDo K) [] E a (tCons b tNil))) tz D σ H := s_do (xs := []) (D := { D with nx := tz D }) R ha hb h1 h2 hok k
theorem q_call {H : Hp} {σ : L2.St} {ta : TA} {vs : List V} {sp : Sp} {i : Nat} {D : Ends} {tz : TS} {E : XK} (h : EvA ta σ H vs) (k : ∀ H1, Ex H H1 → sp (vs ++ []) H1 (fun v H2 => tz D (σ.set i (some v)) H2) E) : tSeq (tAsg (tCall sp [] E ta) (gName i)) tz D σ H :=
  h H (Ex.refl H) _ k
theorem e_call {H : Hp} {σ : L2.St} {ta : TA} {vs : List V} {sp : Sp} {Q : VK} {E : XK} (h : EvA ta σ H vs) (k : ∀ H1, Ex H H1 → sp (vs ++ []) H1 Q E) : tCall sp [] E ta σ H Q := h H (Ex.refl H) _ k
theorem q_again {H : Hp} {L : Lay} {s : S} {ta tb tc : TE} {σ : L2.St} {i : Nat} {D : Ends} {tz : TS} {E : XK} {da wa : Addr} (R : RunAt K H L s) (A : AgainOk s) (hD : SqT K H da (desV s.cfg)) (hW : SqT K H wa (worV s.cfg)) (ha : Ev ta σ H (.ref da)) (hb : Ev tb σ H (.ref wa)) (hc : Ev tc σ H (.ref L.p))
    (k : ∀ L' H', RunAt K H' L' s → (∀ b ∈ L'.own, H b = none) → Ex H H' → tz D (σ.set i (some (.ref L'.p))) H') : tSeq (tAsg (tCall (spAgain K) [] E (tCons ta (tCons tb (tCons tc tNil)))) (gName i)) tz D σ H := by
  refine q_call (ea_cons ha (ea_cons hb (ea_cons hc ea_nil))) fun H1 e1 => ?_
  refine ⟨da, wa, s.cfg, L, s, rfl, ex_t e1 hD, ex_t e1 hW, R.mono e1, Nat.le_trans A.len (by decide), A.ok, fun L' H' R' o' e' => ?_⟩
  rw [A.c] at R'
  exact k L' H' R' (fun b hb => Same.free e1 (o' b hb)) (e1.trans e')
def spBehindW (K : PySem.W.Frag) : Sp := fun vs H Q _ => ∃ (da wa : Addr) (L : Lay) (s : S), vs = [.ref da, .ref wa, .ref L.p] ∧ SqT K H da (desV s.cfg) ∧ SqT K H wa (worV s.cfg) ∧ RunAt K H L s ∧ AgainOk s ∧ runOk s (s.steps.map fun w => Evt.op w s.ops.length) ∧
  ∀ L' H', RunAt K H' L' s.aloneW → (∀ b ∈ L'.own, H b = none) → Ex H H' → Q (.ref L'.p) H'
theorem sc_behind_write : FnScope ["design", "world", "run", "found", "number", "word"] ["design", "world", "run"] (defScope s_behind_write) := ⟨rfl, rfl, rfl, by decide +kernel, rfl, by decide +kernel, by decide +kernel⟩
theorem ok_behind_write (T : Txt h0 K mg) : FnOk P w K mg base CX0 11 (He.ga K "behind_write") (fdOf K (He.ga K "behind_write")) ["design", "world", "run"] (spBehindW K) := by
  refine FnOk.mono (j := 11) ((T.fn_behind_write).ok sc_behind_write (fun vs H Q E h => ?_) (fun cdv A outer st0 H vs Q E hr h => ?_)) (by decide)
  · obtain ⟨da, wa, L, s, rfl, _⟩ := h
    rfl
  · obtain ⟨da, wa, L, s, rfl, hD, hW, R, A, hok, k⟩ := h
    refine ⟨_, PSs.nox ((pss_cons (ps_set (i := 3) sc_behind_write.nd rfl (Or.inl rfl) (pe_call (ok_again T) (hr.mono (by decide)) rfl T.g_again T.k_again T.b_again .nil pass0 (pa_cons (pv 0) (pa_cons (pv 1) (pa_cons (pv 2) pa_nil)))))
      (pss_cons (ps_set (i := 4) sc_behind_write.nd rfl (Or.inl rfl) (pe_callB (call_lenK K) (by rfl) T.f_len (by decide +kernel) (pa_cons (pe_fldK K (pv 3)) pa_nil)))
      (pss_cons (ps_for PassesOwn.never rfl (pi_tupK K (pe_fldK K (pv 3))) (pg_name (i := 5) sc_behind_write.nd rfl (Or.inl rfl))
      (pss_one (ps_expr (pe_meth (pv 3) T.cl_Run T.m_Run_do (ok_Run_do T) (hr.mono (by decide)) T.b_Run_do .nil pass0 (pa_cons (pe_tup (pa_cons (pv 5) (pa_cons (pv 4) pa_nil))) pa_nil)))))
      (pss_one (ps_ret (pv 3))))))), ?_⟩
    refine q_again R A hD hW (ev_var rfl) (ev_var rfl) (ev_var rfl) fun L1 H1 R1 o1 e1 => ?_
    refine q_asg (ev_len (ev_runF T R1 T.n_Run_operations (ev_var rfl)) (sq_of R1.ol)) fun H2 e2 => ?_
    rw [R1.ol_len]
    have hst : H2 L1.st = some (.tup (s.steps.map fun w => V.str w.str)) := (R1.mono e2).st
    refine q_forT (K := K) (a := L1.st) (xs := s.steps.map fun w => V.str w.str) (ev_runF T (R1.mono e2) T.n_Run_steps (ev_var rfl)) (st_of hst) (fun i σ H' => ∃ (L2 : Lay) (x : Option V), σ = [some (.ref da), some (.ref wa), some (.ref L.p), some (.ref L2.p), some (.int ((s.ops.length : Nat) : Int)), x] ∧
      RunAt K H' L2 (s.run ((s.steps.map fun w => Evt.op w s.ops.length).take i)) ∧ (∀ b ∈ L2.own, H b = none) ∧ Ex H H' ∧ H' L1.st = some (.tup (s.steps.map fun w => V.str w.str)) ∧ L1.st ∉ L2.own) ?_ ?_ ?_ ?_
    · intro H3 e3
      refine ⟨L1, none, rfl, (R1.mono e2).mono e3, o1, e1.trans (e2.trans e3), e3 _ _ hst, fun z => ?_⟩
      rcases List.mem_cons.mp z with z | z
      · have h := R1.run
        rw [← z, R1.st] at h
        cases h
      rcases List.mem_cons.mp z with z | z
      · have h := R1.ol
        rw [← z, R1.st] at h
        cases h
      rcases List.mem_cons.mp z with z | z
      · have h := R1.el
        rw [← z, R1.st] at h
        cases h
      obtain ⟨t, ht, et⟩ := List.mem_map.mp z
      obtain ⟨i, hi⟩ := List.mem_iff_getElem?.mp ht
      have hl := (List.getElem?_eq_some_iff.mp hi).1
      rw [R1.len] at hl
      have h := (R1.op i t _ hi (List.getElem?_eq_getElem hl)).1
      rw [et, R1.st] at h
      cases h
    · rintro i σ H3 _ ⟨L2, x, rfl, R2, o2, e3, hs3, _⟩
      exact st_of hs3
    · rintro i x σ H3 hx ⟨L2, y, rfl, R2, o2, e3, hs3, ns⟩
      rw [List.getElem?_map] at hx
      cases hw : s.steps[i]? with
      | none =>
        rw [hw] at hx
        cases hx
      | some wd =>
        rw [hw] at hx
        cases hx
        have hev : (s.steps.map fun w => Evt.op w s.ops.length)[i]? = some (.op wd s.ops.length) := by
          rw [List.getElem?_map, hw] <;> rfl
        have hlen3 : s.steps.length ≤ 3 := by
          unfold S.steps
          cases s.cfg.path <;> decide
        refine s_do (xs := []) R2 (ev_var rfl) (eu_tup (ea_cons (ev_var rfl) (ea_cons (ev_var rfl) ea_nil)) (by show 2 ≤ 100000; decide)) ?_ ?_ (runOk_take hok hev) fun L3 H4 R4 g4 F4 => ?_
        · have h1 := run_ops s ((s.steps.map fun w => Evt.op w s.ops.length).take i)
          have h2 := A.ops
          rw [List.length_take, List.length_map] at h1
          omega
        · have h2 := A.len
          rw [run_past, List.length_append, List.length_take, List.length_map]
          omega
        · refine ⟨L3, some (.str wd.str), ?_, ?_, fun b hb => ?_, fun b o eb => ?_, ?_, fun z => ?_⟩
          · rw [g4.p] <;> rfl
          · rw [List.take_add_one, hev]
            show RunAt K H4 L3 (s.run (_ ++ [_]))
            rw [run_snoc]
            exact R4
          · rcases g4.own b hb with z | z
            · exact o2 b z
            · exact Same.free e3 z
          · exact F4 b o (e3 _ _ eb) fun z => by
              rw [o2 b z] at eb
              cases eb
          · exact F4 _ _ hs3 ns
          · rcases g4.own _ z with z | z
            · exact ns z
            · rw [hs3] at z
              cases z
    · rintro σ H3 ⟨L2, x, rfl, R2, o2, e3, hs3, _⟩
      refine s_ret (ev_var rfl) fun H4 e4 => k L2 H4 ?_ o2 (e3.trans e4)
      rw [List.length_map, ← List.length_map (f := fun w => Evt.op w s.ops.length), List.take_length] at R2
      exact R2.mono e4
def spFills (K : PySem.W.Frag) : Sp := fun vs H Q _ => ∃ (da wa : Addr) (L : Lay) (s : S), vs = [.ref da, .ref wa, .ref L.p] ∧ SqT K H da (desV s.cfg) ∧ SqT K H wa (worV s.cfg) ∧ RunAt K H L s ∧ AgainOk s ∧ evOk s (.op .look s.ops.length) ∧ goOnOk 4 (s.doEv (.op .look s.ops.length)) s.ops.length ∧
  RetV (.bl s.fills) H Q
theorem Grow.at_ {H : Hp} {L L' : Lay} : Grow L L' H → L'.p = L.p := fun g => g.p
theorem oV_scal (a b : Option Int) : scal (oV a) (oV b) = true := by cases a <;> cases b <;> rfl
theorem oV_eq (a b : Option Int) : decide (oV a = oV b) = decide (a = b) := by
  cases a with
  | none => cases b <;> rfl
  | some x =>
    cases b with
    | none => rfl
    | some y =>
      by_cases h : x = y
      · subst h
        simp [oV]
      · rw [decide_eq_false (show ¬ some x = some y from fun z => h (Option.some.inj z)), decide_eq_false]
        intro z
        have z : V.int x = V.int y := z
        injection z with z
        exact h z
theorem goOn_len {s : S} {n : Nat} {w : Wd} (h : n < s.ops.length) : n < (s.doEv (.op w n)).ops.length := Nat.lt_of_lt_of_le h (go_ops s _)
theorem sc_fills : FnScope ["design", "world", "run", "found", "number", "one", "word"] ["design", "world", "run"] (defScope s_fills) := ⟨rfl, rfl, rfl, by decide +kernel, rfl, by decide +kernel, by decide +kernel⟩
theorem ok_fills (T : Txt h0 K mg) : FnOk P w K mg base CX0 11 (He.ga K "fills") (fdOf K (He.ga K "fills")) ["design", "world", "run"] (spFills K) := by
  refine FnOk.mono (j := 11) ((T.fn_fills).ok sc_fills (fun vs H Q E h => ?_) (fun cdv A outer st0 H vs Q E hr h => ?_)) (by decide)
  · obtain ⟨da, wa, L, s, rfl, _⟩ := h
    rfl
  · obtain ⟨da, wa, L, s, rfl, hD, hW, R, A, hok, hgo, k⟩ := h
    refine ⟨_, PSs.nox ((pss_cons (ps_set (i := 3) sc_fills.nd rfl (Or.inl rfl) (pe_call (ok_again T) (hr.mono (by decide)) rfl T.g_again T.k_again T.b_again .nil pass0 (pa_cons (pv 0) (pa_cons (pv 1) (pa_cons (pv 2) pa_nil)))))
      (pss_cons (ps_set (i := 4) sc_fills.nd rfl (Or.inl rfl) (pe_callB (call_lenK K) (by rfl) T.f_len (by decide +kernel) (pa_cons (pe_fldK K (pv 3)) pa_nil)))
      (pss_cons (ps_expr (pe_meth (pv 3) T.cl_Run T.m_Run_do (ok_Run_do T) (hr.mono (by decide)) T.b_Run_do .nil pass0 (pa_cons (pe_tup (pa_cons pe_str (pa_cons (pv 4) pa_nil))) pa_nil)))
      (pss_cons (ps_set (i := 5) sc_fills.nd rfl (Or.inl rfl) (pe_ix (ix_listK K) (pe_fldK K (pv 3)) (pv 4) (fun _ _ => rfl)))
      (pss_cons (ps_while PassesOwn.never (pt_val (pe_meth0 (pv 5) T.cl_Operation T.m_Operation_is_under_way (ok_Operation_is_under_way T) (hr.mono (by decide)) T.b_Operation_is_under_way .nil pass0)) (pss_cons (ps_set (i := 6) sc_fills.nd rfl (Or.inl rfl) (pe_meth (pv 3) T.cl_Run T.m_Run_next_step (ok_Run_next_step T) (hr.mono (by decide)) T.b_Run_next_step .nil pass0 (pa_cons (pv 5) pa_nil)))
      (pss_cons (ps_if (pt_cmp (pc_isN (pv 6))) (pss_one (ps_ret pe_bl)) pss_nil)
      (pss_one (ps_expr (pe_meth (pv 3) T.cl_Run T.m_Run_do (ok_Run_do T) (hr.mono (by decide)) T.b_Run_do .nil pass0 (pa_cons (pe_tup (pa_cons (pv 6) (pa_cons (pv 4) pa_nil))) pa_nil)))))))
      (pss_one (ps_ret (pe_cmpR op_eq (pe_fldK K (pv 3)) (pe_fldK K (pv 5)) (nomark _)))))))))), ?_⟩
    refine q_again R A hD hW (ev_var rfl) (ev_var rfl) (ev_var rfl) fun L1 H1 R1 o1 e1 => ?_
    refine q_asg (ev_len (ev_runF T R1 T.n_Run_operations (ev_var rfl)) (sq_of R1.ol)) fun H2 e2 => ?_
    rw [R1.ol_len]
    have aops := A.ops
    have alen := A.len
    refine q_do (e := .op .look s.ops.length) (R1.mono e2) (ev_var rfl) (eu_tup (ea_cons ev_c (ea_cons (ev_var rfl) ea_nil)) (by show 2 ≤ 100000; decide)) (by omega) (by omega) hok fun L2 H3 R3 g3 F3 => ?_
    have o3 : ∀ b ∈ L2.own, H b = none := fun b hb => by
      rcases g3.own b hb with z | z
      · exact o1 b z
      · exact Same.free (e1.trans e2) z
    have e3 : Ex H H3 := fun b o eb => F3 b o ((e1.trans e2) b o eb) fun z => by
      rw [o1 b z] at eb
      cases eb
    have hn : s.ops.length < (s.doEv (.op .look s.ops.length)).ops.length := by
      show _ < (S.doStep { s with last := none } .look s.ops.length).ops.length
      rw [doStep_ops]
      unfold S.begun
      rw [if_pos rfl, begin_ops]
      exact Nat.lt_succ_self _
    obtain ⟨t, ht, _⟩ := R3.os_at hn
    rw [show V.ref L1.p = V.ref L2.p by rw [g3.p]]
    refine q_asg (v := .ref t.1) (ev_op (ev_runF T R3 T.n_Run_operations (ev_var rfl)) (ev_var rfl) (rv_ixL (sq_of R3.ol) (_root_.L2.at_of (j := s.ops.length) rfl (by rw [List.getElem?_map, ht] <;> rfl)))) fun H4 e4 => ?_
    refine q_while (fun m σ H' => ∃ (L3 : Lay) (u : S) (x : Option V), σ = [some (.ref da), some (.ref wa), some (.ref L.p), some (.ref L3.p), some (.int ((s.ops.length : Nat) : Int)), some (.ref t.1), x] ∧ RunAt K H' L3 u ∧ (∀ b ∈ L3.own, H b = none) ∧ Ex H H' ∧ L3.os[s.ops.length]? = some t ∧ s.ops.length < u.ops.length ∧
      u.ops.length + m ≤ s.ops.length + 10 ∧ u.past.length + m ≤ s.past.length + 10 ∧ goOnOk m u s.ops.length ∧ s.aloneR = S.goOn m u s.ops.length) 4 ?_ ?_
    · refine ⟨L2, _, none, rfl, R3.mono e4, o3, e3.trans e4, ht, hn, ?_, ?_, hgo, rfl⟩
      · have := doEv_ops s (.op .look s.ops.length)
        omega
      · rw [doEv_past, List.length_append]
        show s.past.length + 1 + 4 ≤ _
        omega
    · rintro m σ H5 ⟨L3, u, x, rfl, R5, o5, e5, ht5, hn5, hb1, hb2, hg5, hal⟩
      have ho := ops_at hn5
      refine ⟨(u.at s.ops.length).going, et_B (ev_meth0 (ev_var rfl) (R5.op _ t _ ht5 ho).1 rfl (spv_uw (R5.op _ t _ ht5 ho).1)), fun hb H6 e6 => ?_, fun hb H6 e6 => ?_⟩
      · cases m with
        | zero =>
          have z : (u.at s.ops.length).going = false := hg5
          rw [hb] at z
          cases z
        | succ m =>
          obtain ⟨hw5, hg5⟩ := hg5
          have hg5 := hg5 hb
          have hal : s.aloneR = (if (u.at s.ops.length).going then (match u.nextW (u.at s.ops.length) with
            | none => none
            | some w => S.goOn m (u.doEv (.op w s.ops.length)) s.ops.length) else some u) := hal
          rw [if_pos hb] at hal
          refine ⟨_, fun _ _ z => z, ?_⟩
          have R6 := R5.mono e6
          refine q_asg (v := wV (u.nextW (u.at s.ops.length))) (ev_meth (ev_var rfl) R6.run rfl (ea_cons (ev_var rfl) ea_nil) fun H7 e7 Q' q' E' => ⟨L3, u, _, t, _, rfl, R6.mono e7, ht5, ho, hw5, q'⟩) fun H7 e7 => ?_
          cases hnx : u.nextW (u.at s.ops.length) with
          | none =>
            rw [hnx] at hal
            have hf : s.fills = false := by
              unfold S.fills
              rw [hal]
            refine q_when (b := true) (et_B (ev_is (ev_isN (ev_var rfl)) rfl)) (fun _ H8 e8 => s_ret ev_c fun H9 e9 => ?_) (fun z => by cases z)
            rw [hf] at k
            exact k H9 (e5.trans (e6.trans (e7.trans (e8.trans e9))))
          | some wd =>
            rw [hnx] at hal
            obtain ⟨ok6, hg6⟩ := hg5 wd hnx
            refine q_when (b := false) (et_B (ev_is (ev_isN (ev_var rfl)) rfl)) (fun z => by cases z) (fun _ H8 e8 => ?_)
            refine s_do (xs := []) (R6.mono (e7.trans e8)) (ev_var rfl) (eu_tup (ea_cons (ev_var rfl) (ea_cons (ev_var rfl) ea_nil)) (by show 2 ≤ 100000; decide)) (by omega) (by omega) ok6 fun L4 H9 R9 g9 F9 => ?_
            refine ⟨m, Nat.lt_succ_self m, L4, _, some (.str wd.str), ?_, R9, fun b hb => ?_, fun b o eb => ?_, g9.os _ _ ht5, goOn_len hn5, ?_, ?_, hg6, hal⟩
            · rw [g9.p] <;> rfl
            · rcases g9.own b hb with z | z
              · exact o5 b z
              · exact Same.free (e5.trans (e6.trans (e7.trans e8))) z
            · exact F9 b o ((e5.trans (e6.trans (e7.trans e8))) b o eb) fun z => by
                rw [o5 b z] at eb
                cases eb
            · have := doEv_ops u (.op wd s.ops.length)
              omega
            · rw [doEv_past, List.length_append]
              show u.past.length + 1 + m ≤ _
              omega
      · have hal2 : s.aloneR = some u := by
          rw [hal]
          cases m with
          | zero => rfl
          | succ m =>
            show (if (u.at s.ops.length).going = true then _ else some u) = some u
            rw [hb, if_neg Bool.false_ne_true]
        have hf : s.fills = decide (u.cache = (u.at s.ops.length).ver) := by
          unfold S.fills
          rw [hal2]
        have R6 := R5.mono e6
        refine s_ret (v := .bl s.fills) (ev_is (ev_op (ev_runF T R6 T.n_Run_cache (ev_var rfl)) (ev_opF T R6 ht5 ho T.n_Operation_version (ev_var rfl)) (rv_eq (oV_scal _ _))) ?_) fun H7 e7 => k H7 (e5.trans (e6.trans e7))
        rw [oV_eq, hf]
end
end K10
end
section
set_option Elab.async false
set_option linter.all false
set_option maxRecDepth 100000
set_option maxHeartbeats 4000000
namespace K10
open PySem PySem.Spec PyProof.Rows L2 Evl
def evData : Evt → PyData
  | .evict => .tuple [.str "evict"]
  | .copy => .tuple [.str "copy"]
  | .op w n => .tuple [.str w.str, .int (n : Int)]
theorem alike_ev : ∀ a b : Evt, PySem.W.alike (evData a) (evData b) = true := by
  intro a b
  cases a <;> cases b <;> simp [evData, PySem.W.alike, PySem.W.alikeAll]
theorem depth_ev (a : Evt) : (evData a).depth = 1 := by
  cases a <;> simp [evData, PyData.depth, PyData.depthAll]
theorem strs_eqv (a b : Str) : PyData.eqv (.str a) (.str b) = decide (a = b) := by
  unfold PyData.eqv
  rfl
theorem kw : ∀ w v : Wd, decide (w.str.cps.toList < v.str.cps.toList) = decide ((Evt.op w 0).key < (Evt.op v 0).key) := by
  intro w v; cases w <;> cases v <;> decide +kernel
theorem kwe : ∀ w : Wd, decide (w.str.cps.toList < ("evict" : Str).cps.toList) = decide ((Evt.op w 0).key < Evt.evict.key) ∧ decide (("evict" : Str).cps.toList < w.str.cps.toList) = decide (Evt.evict.key < (Evt.op w 0).key) := by
  intro w; cases w <;> decide +kernel
theorem kwc : ∀ w : Wd, decide (w.str.cps.toList < ("copy" : Str).cps.toList) = decide ((Evt.op w 0).key < Evt.copy.key) ∧ decide (("copy" : Str).cps.toList < w.str.cps.toList) = decide (Evt.copy.key < (Evt.op w 0).key) := by
  intro w; cases w <;> decide +kernel
theorem kec : decide (("evict" : Str).cps.toList < ("copy" : Str).cps.toList) = decide (Evt.evict.key < Evt.copy.key) ∧ decide (("copy" : Str).cps.toList < ("evict" : Str).cps.toList) = decide (Evt.copy.key < Evt.evict.key) := by decide +kernel
theorem op_key (w : Wd) (n : Nat) : (Evt.op w n).key = (Evt.op w 0).key := by cases w <;> rfl
theorem op_key_inj : ∀ w v : Wd, (Evt.op w 0).key = (Evt.op v 0).key → w = v := by
  intro w v; cases w <;> cases v <;> decide +kernel
theorem op_key_ne (w : Wd) : (Evt.op w 0).key ≠ Evt.evict.key ∧ (Evt.op w 0).key ≠ Evt.copy.key := by cases w <;> decide +kernel
theorem lex_nil : PyProof.Rows.lexLt PyProof.Rows.itemOrd (PySem.W.keyToksAll []) (PySem.W.keyToksAll []) = false := PyProof.Rows.lex_irrefl _
theorem dataLt_ev (a b : Evt) : PySem.W.dataLt (evData a) (evData b) = !evLe b a := by
  have hne : ∀ {x y : Str} (xs ys : List PyData), x ≠ y → PySem.W.dataLt (.tuple (.str x :: xs)) (.tuple (.str y :: ys)) = decide (x.cps.toList < y.cps.toList) := by
    intro x y xs ys h
    rw [PySem.W.dataLt_tuple, PySem.W.dataLt_cons (by simp [PySem.W.alike]), strs_eqv, decide_eq_false h, if_neg Bool.false_ne_true, PySem.W.dataLt_str]
  have out : ∀ {a b : Evt}, a.key ≠ b.key → (!evLe b a) = decide (a.key < b.key) := by
    intro a b h
    have e : evLe b a = !decide (a.key < b.key) := by
      rw [Bool.eq_iff_iff, evLe_iff, Bool.not_eq_true', decide_eq_false_iff_not]
      omega
    rw [e, Bool.not_not]
  cases a with
  | evict =>
    cases b with
    | evict =>
      show PySem.W.dataLt (.tuple [.str "evict"]) (.tuple [.str "evict"]) = _
      rw [PySem.W.dataLt_tuple, PySem.W.dataLt_cons (by simp [PySem.W.alike]), strs_eqv, decide_eq_true rfl, if_pos rfl, lex_nil]
      decide
    | copy =>
      rw [out (by decide)]
      show PySem.W.dataLt (.tuple [.str "evict"]) (.tuple [.str "copy"]) = _
      rw [hne _ _ (by decide +kernel), kec.1]
    | op v m =>
      rw [out (by rw [op_key]; exact (op_key_ne v).1.symm), op_key]
      show PySem.W.dataLt (.tuple [.str "evict"]) (.tuple [.str v.str, .int m]) = _
      rw [hne _ _ (w_no v).1.symm, (kwe v).2]
  | copy =>
    cases b with
    | evict =>
      rw [out (by decide)]
      show PySem.W.dataLt (.tuple [.str "copy"]) (.tuple [.str "evict"]) = _
      rw [hne _ _ (by decide +kernel), kec.2]
    | copy =>
      show PySem.W.dataLt (.tuple [.str "copy"]) (.tuple [.str "copy"]) = _
      rw [PySem.W.dataLt_tuple, PySem.W.dataLt_cons (by simp [PySem.W.alike]), strs_eqv, decide_eq_true rfl, if_pos rfl, lex_nil]
      decide
    | op v m =>
      rw [out (by rw [op_key]; exact (op_key_ne v).2.symm), op_key]
      show PySem.W.dataLt (.tuple [.str "copy"]) (.tuple [.str v.str, .int m]) = _
      rw [hne _ _ (w_no v).2.symm, (kwc v).2]
  | op w n =>
    cases b with
    | evict =>
      rw [out (by rw [op_key]; exact (op_key_ne w).1), op_key]
      show PySem.W.dataLt (.tuple [.str w.str, .int n]) (.tuple [.str "evict"]) = _
      rw [hne _ _ (w_no w).1, (kwe w).1]
    | copy =>
      rw [out (by rw [op_key]; exact (op_key_ne w).2), op_key]
      show PySem.W.dataLt (.tuple [.str w.str, .int n]) (.tuple [.str "copy"]) = _
      rw [hne _ _ (w_no w).2, (kwc w).1]
    | op v m =>
      by_cases hwv : w = v
      · subst hwv
        show PySem.W.dataLt (.tuple [.str w.str, .int n]) (.tuple [.str w.str, .int m]) = _
        rw [PySem.W.dataLt_pair (by simp [PySem.W.alike]) (by simp [PySem.W.alike]), strs_eqv, decide_eq_true rfl, if_pos rfl, PySem.W.dataLt_int]
        have e : evLe (.op w m) (.op w n) = decide (m ≤ n) := by
          rw [Bool.eq_iff_iff, evLe_iff, decide_eq_true_eq]
          rw [op_key w m, op_key w n]
          show _ ∨ (_ ∧ m ≤ n) ↔ _
          omega
        rw [e]
        by_cases z : n = m
        · subst z
          rw [if_pos (by simp [PyData.eqv])]
          simp
        · rw [if_neg (by simp [PyData.eqv]; omega)]
          by_cases z2 : n < m
          · rw [decide_eq_true (show (n : Int) < (m : Int) by omega), decide_eq_false (show ¬ m ≤ n by omega)] <;> rfl
          · rw [decide_eq_false (show ¬ (n : Int) < (m : Int) by omega), decide_eq_true (show m ≤ n by omega)] <;> rfl
      · rw [out (by rw [op_key, op_key v]; exact fun z => hwv (op_key_inj w v z)), op_key, op_key v]
        show PySem.W.dataLt (.tuple [.str w.str, .int n]) (.tuple [.str v.str, .int m]) = _
        rw [hne _ _ (fun z => hwv ((w_inj2 w v).mp z)), kw]
theorem dataLe_ev : PySem.W.dataLe false evData = evLe := by
  funext a b
  show (!PySem.W.dataLt (evData b) (evData a)) = _
  rw [dataLt_ev, Bool.not_not]
def rSortEv (K : PySem.W.Frag) : List V → Hp → VK → Prop := fun vs H Q => ∃ (a : Addr) (bs : List (Evt × Addr)), vs = [.ref a] ∧ SqL K H a (bs.map fun b => V.ref b.2) ∧ (∀ b ∈ bs, SqT K H b.2 (evEnc b.1)) ∧
  ∀ p (bs' : List (Evt × Addr)), bs'.map (·.1) = (bs.map (·.1)).mergeSort evLe → (∀ b ∈ bs', b ∈ bs) → H p = none → Q (.ref p) (upd H p (.lst (bs'.map fun b => V.ref b.2)))
theorem each_of {R : Value → Evt × Addr → Prop} : ∀ {bs : List (Evt × Addr)} {us : List Value}, Vals (bs.map fun b => V.ref b.2) us → (∀ b ∈ bs, R (.ref b.2) b) → PySem.W.EachIs R us bs
  | [], _, .nil, _ => .nil
  | b :: bs, _, .cons r t, h => by
    obtain rfl := (show _ = Value.ref b.2 from r)
    exact .cons (h b (List.mem_cons_self ..)) (each_of t fun c hc => h c (List.mem_cons_of_mem _ hc))
theorem each_back : ∀ {bs : List (Evt × Addr)} {us : List Value}, PySem.W.EachIs (fun v (b : Evt × Addr) => v = .ref b.2) us bs → Vals (bs.map fun b => V.ref b.2) us
  | [], _, .nil => .nil
  | b :: bs, _, .cons r t => .cons r (each_back t)
theorem dp_ev (K : PySem.W.Frag) {H : Hp} {a : Addr} {e : Evt} (h : SqT K H a (evEnc e)) : Dp K H (.ref a) (evData e) := by
  cases e with
  | evict => exact .tup h (.cons (.str _) .nil)
  | copy => exact .tup h (.cons (.str _) .nil)
  | op w n => exact .tup h (.cons (.str _) (.cons (.int _) .nil))
theorem cr_sortedEv {X : Cx} (K : PySem.W.Frag) (hu : X.A.units + 64 < cLine) (hK : X.K = K := by rfl) : CallR X (.builtin "sorted") (rSortEv K) := by
  subst hK
  intro pins s σ H vs us Q I r h
  obtain ⟨a, bs, rfl, hs, hev, q⟩ := h
  obtain ⟨its, rv, hl, hz⟩ := I.list hs
  rw [Vals.ref1 r]
  have hev2 : ∀ b ∈ bs, ∃ as, Reads s.heap (.ref b.2) (evData b.1) as := fun b hb => Dp.reads I _ _ _ (dp_ev _ (hev b hb)) rfl
  refine PySem.W.sorted_data (enc := fun b : Evt × Addr => evData b.1) (R := fun v b => v = .ref b.2) hl.isList (each_of rv fun b hb => rfl) (each_of rv hev2) (PySem.W.AllAlike.of fun b b' => alike_ev b.1 b'.1)
    (PySem.W.Sortable.tuples fun b => ?_) ?_ (fun b _ => ?_) fun out h1 h2 => ?_
  · cases b.1 with
    | evict => exact ⟨_, _, rfl⟩
    | copy => exact ⟨_, _, rfl⟩
    | op w n => exact ⟨_, _, rfl⟩
  · rw [List.length_map] at hz
    exact hz
  · rw [depth_ev]
    exact Nat.lt_of_le_of_lt (show X.A.units + 2 + 1 ≤ X.A.units + 64 by omega) hu
  · have rb := each_back h2
    obtain ⟨ep, he'⟩ := PyProof.Rows.sortedAll_at s.heap its out.toArray
    have hlen : ((bs.mergeSort (PySem.W.dataLe false fun b : Evt × Addr => evData b.1)).map fun b => V.ref b.2).length ≤ sizeLine := by
      rw [List.length_map, List.length_mergeSort]
      rw [List.length_map] at hz
      exact hz
    refine ⟨.ref _, upd H (s.heap.objs.size + 1) (.lst ((bs.mergeSort (PySem.W.dataLe false fun b : Evt × Addr => evData b.1)).map fun b => V.ref b.2)), I.laid (t' := s.toks) (fun _ _ => PyProof.Rows.sortedAll_old) (Nat.le_succ _) ⟨hlen, out, ep, rb, he'⟩, rfl, q _ _ ?_ (fun b hb => ?_) (I.hok.fresh (Nat.le_succ _))⟩
    · rw [List.map_mergeSort (r := PySem.W.dataLe false fun b : Evt × Addr => evData b.1) (s := evLe) (f := fun b : Evt × Addr => b.1) (l := bs) (fun a _ b _ => by
        show PySem.W.dataLe false evData a.1 b.1 = _
        rw [dataLe_ev])]
    · exact (List.mergeSort_perm bs _).mem_iff.mp hb
end K10
end
section
set_option Elab.async false
set_option linter.all false
set_option maxRecDepth 100000
set_option maxHeartbeats 4000000
namespace K10
open PySem PySem.Spec PyProof.Rows L2 Evl
def EvL' (H : Hp) (p : Addr) (es : List Evt) : Prop := ∃ bs : List (Evt × Addr), bs.map (·.1) = es ∧ H p = some (.lst (bs.map fun b => V.ref b.2)) ∧ ∀ b ∈ bs, H b.2 = some (.tup (evEnc b.1))
theorem EvL'.mono {H H' : Hp} {p : Addr} {es : List Evt} (h : EvL' H p es) (e : Ex H H') : EvL' H' p es := by
  obtain ⟨bs, h1, h2, h3⟩ := h
  exact ⟨bs, h1, e _ _ h2, fun b hb => e _ _ (h3 b hb)⟩
theorem EvL'.length {H : Hp} {p : Addr} {es : List Evt} (h : EvL' H p es) : ∃ xs, H p = some (.lst xs) ∧ xs.length = es.length := by
  obtain ⟨bs, h1, h2, _⟩ := h
  exact ⟨_, h2, by rw [List.length_map, ← h1, List.length_map]⟩
theorem EvL'.push {H H' : Hp} {p t : Addr} {es : List Evt} {e : Evt} {xs : List V} (h : EvL' H p es) (hx : H p = some (.lst xs)) (ex : Ex H H') (ht : H' t = some (.tup (evEnc e))) : EvL' (upd H' p (.lst (xs ++ [.ref t]))) p (es ++ [e]) := by
  obtain ⟨bs, h1, h2, h3⟩ := h
  rw [hx] at h2
  have e2 : xs = bs.map fun b => V.ref b.2 := by
    injection h2 with h2
    injection h2
  have tp : ∀ {b : Addr} {ys : List V} {u : HO}, H' b = some (.tup ys) → upd H' p u b = some (.tup ys) := fun {b ys u} hb => by
    rw [upd_ne fun z => ?_]
    · exact hb
    · rw [z, ex _ _ hx] at hb
      cases hb
  refine ⟨bs ++ [(e, t)], by rw [List.map_append, h1] <;> rfl, by rw [upd_same, List.map_append, e2] <;> rfl, fun b hb => ?_⟩
  rcases List.mem_append.mp hb with hb | hb
  · exact tp (ex _ _ (h3 b hb))
  · simp at hb
    subst hb
    exact tp ht
theorem evsOf_len (s : S) (o : Op) (i : Nat) : (s.evsOf o i).length ≤ 2 := by
  unfold S.evsOf
  rw [List.length_append]
  have h1 : ∀ a b : Nat, a ≤ 1 → b ≤ 1 → a + b ≤ 2 := by omega
  refine h1 _ _ ?_ ?_
  · split <;> exact Nat.le_of_ble_eq_true rfl
  · split <;> exact Nat.le_of_ble_eq_true rfl
theorem flat_len (f : Nat → List Evt) (h : ∀ i, (f i).length ≤ 2) : ∀ l : List Nat, (l.flatMap f).length ≤ 2 * l.length
  | [] => Nat.le_refl _
  | x :: l => by
    rw [List.flatMap_cons, List.length_append, List.length_cons]
    have := h x
    have := flat_len f h l
    omega
theorem gos_len (s : S) : (gos s).length ≤ s.ops.length := by
  unfold gos
  have h := List.length_filter_le (fun i => (s.at i).going) (List.range s.ops.length)
  rw [List.length_range] at h
  exact h
theorem Room.u65 {k : Nat} {A : Around} (r : Room k A) : A.units + 65 < cLine := by
  have := r.un
  omega
def ELE (te : TE) (σ : L2.St) (H : Hp) (es : List Evt) : Prop := ∀ H1, Ex H H1 → ∀ Q : VK, (∀ p H2, H1 p = none → Ex H1 H2 → EvL' H2 p es → Q (.ref p) H2) → te σ H1 Q
def EAE (ta : TA) (σ : L2.St) (H : Hp) (es : List Evt) : Prop := ∀ H1, Ex H H1 → ∀ Q : List V → Hp → Prop, (∀ (bs : List (Evt × Addr)) H2, bs.map (·.1) = es → Ex H1 H2 → (∀ b ∈ bs, H2 b.2 = some (.tup (evEnc b.1))) → Q (bs.map fun b => V.ref b.2) H2) → ta σ H1 Q
section
variable {σ : L2.St} {H H' : Hp} {te ta tb : TE} {tr : TA} {e : Evt} {es fs : List Evt} {D : Ends} {tz : TS} {K : PySem.W.Frag}
theorem eae_nil : EAE tNil σ H [] := fun H1 e Q q => q [] H1 rfl (Ex.refl H1) (by simp)
theorem eae_cons (h : EvU te σ H (evEnc e)) (hr : EAE tr σ H es) : EAE (tCons te tr) σ H (e :: es) := fun H1 e1 Q q =>
  h H1 e1 _ fun p H2 hp e2 h2 => hr H2 (e1.trans e2) _ fun bs H3 hb e3 h3 => q ((e, p) :: bs) H3 (by rw [List.map_cons, hb]) (e2.trans e3) fun b hm => by
    rcases List.mem_cons.mp hm with rfl | hm
    · exact e3 _ _ h2
    · exact h3 b hm
theorem ele_lst (h : EAE tr σ H es) (hl : es.length ≤ 100000) : ELE (tLst tr) σ H es := fun H1 e1 Q q =>
  h H1 e1 _ fun bs H2 hb e2 h2 => ⟨by rw [List.length_map, ← List.length_map (f := fun b : Evt × Addr => b.1), hb]; exact sz_of hl, fun p hp => q p _ (fresh_back e2 hp) (e2.trans (Ex.new hp)) ⟨bs, hb, upd_same, fun b hm => by
    rw [upd_ne (ne_of_none (h2 b hm) hp)]
    exact h2 b hm⟩⟩
theorem q_asgE {i : Nat} (h : ELE te σ H es) (k : ∀ p H1, H p = none → Ex H H1 → EvL' H1 p es → tz D (σ.set i (some (.ref p))) H1) : tSeq (tAsg te (gName i)) tz D σ H := h H (Ex.refl H) _ k
theorem s_retE (h : ELE te σ H es) (k : ∀ p H1, H p = none → Ex H H1 → EvL' H1 p es → D.rt (.ref p) H1) : tRet te D σ H := h H (Ex.refl H) _ k
theorem ele_sorted {p : Addr} (h : Ev te σ H (.ref p)) (hp : EvL' H p es) : ELE (tCB (rSortEv K) (tCons te tNil)) σ H (es.mergeSort evLe) := fun H1 e1 Q q =>
  h H1 e1 _ fun H2 e2 => by
    obtain ⟨bs, h1, h2, h3⟩ := hp
    refine ⟨p, bs, rfl, sq_of ((e1.trans e2) _ _ h2), fun b hb => st_of ((e1.trans e2) _ _ (h3 b hb)), fun r bs' hb1 hb2 hr => q r _ (fresh_back e2 hr) (e2.trans (Ex.new hr)) ⟨bs', ?_, upd_same, fun b hb => ?_⟩⟩
    · rw [hb1, h1]
    · have z := (e1.trans e2) _ _ (h3 b (hb2 b hb))
      rw [upd_ne (ne_of_none z hr)]
      exact z
end
section
variable {P : Program} {w : World} {base h0 : Heap} {K : PySem.W.Frag} {mg : Str → Option Value}
theorem ev_next {H : Hp} {L : Lay} {s : S} {a b : TE} {σ : L2.St} {i : Nat} {t : Addr × Addr × Addr} {o : Op} {E : XK} (R : RunAt K H L s) (ht : L.os[i]? = some t) (ho : s.ops[i]? = some o) (hw : waitOk s) (ha : Ev a σ H (.ref L.p)) (hb : Ev b σ H (.ref t.1)) :
    Ev (tMeth (He.ga K "Run") "next_step" (spNext K) [] E a (tCons b tNil)) σ H (wV (s.nextW o)) :=
  ev_meth ha R.run rfl (ea_cons hb ea_nil) fun H1 e1 Q q E => ⟨L, s, i, t, o, rfl, R.mono e1, ht, ho, hw i o ho, q⟩
theorem app_ev {H H0 : Hp} {σ : L2.St} {ta te : TE} {D : Ends} {l : Addr} {es : List Evt} {e : Evt} (hl : EvL' H l es) (hz : es.length ≤ 1000) (ha : Ev ta σ H (.ref l)) (h : EvU te σ H (evEnc e)) (h0 : H0 l = none) (h1 : Ex H0 H)
    (k : ∀ H1, EvL' H1 l (es ++ [e]) → Ex H0 H1 → (∀ b o, b ≠ l → H b = some o → H1 b = some o) → D.nx σ H1) : tDrop (tBM K "list" rAppend ta (tCons te tNil)) D σ H := by
  obtain ⟨xs, hx, hlen⟩ := hl.length
  refine s_appU hx ha h (by omega) fun p H1 hp e1 hp2 => k _ (hl.push hx e1 hp2) ((h1.trans e1).mut h0) fun b o hb hbo => ?_
  rw [upd_ne hb]
  exact e1 _ _ hbo
def spEvents (K : PySem.W.Frag) : Sp := fun vs H Q _ => ∃ (L : Lay) (s : S), vs = [.ref L.p] ∧ RunAt K H L s ∧ s.ops.length ≤ 100 ∧ waitOk s ∧ ∀ p H', H p = none → Ex H H' → EvL' H' p s.evs → Q (.ref p) H'
theorem sc_Run_events : FnScope ["self", "many", "found", "one"] ["self"] (defScope s_Run_events) := ⟨rfl, rfl, rfl, by decide +kernel, rfl, by decide +kernel, by decide +kernel⟩
theorem ok_Run_events (T : Txt h0 K mg) : FnOk P w K mg base CX0 3 (He.ma K (He.ga K "Run") "events") (fdOf K (He.ma K (He.ga K "Run") "events")) ["self"] (spEvents K) := by
  refine FnOk.mono (j := 3) ((T.fn_Run_events).ok sc_Run_events (fun vs H Q E h => ?_) (fun cdv A outer st0 H vs Q E hr h => ?_)) (by decide)
  · obtain ⟨L, s, rfl, _⟩ := h
    rfl
  · obtain ⟨L, s, rfl, R, hl, hw, k⟩ := h
    refine ⟨_, PSs.nox ((pss_cons (ps_set (i := 1) sc_Run_events.nd rfl (Or.inl rfl) (pe_callB (call_lenK K) (by rfl) T.f_len (by decide +kernel) (pa_cons (pe_fldK K (pv 0)) pa_nil)))
      (pss_cons (ps_set (i := 2) sc_Run_events.nd rfl (Or.inl rfl) (pe_lst (pa_cons (pe_tup (pa_cons pe_str (pa_cons (pv 1) pa_nil))) (pa_cons (pe_tup (pa_cons (pe_ix (ix_tupK K) (pe_fldK K (pv 0)) pe_int (fun _ _ => rfl)) (pa_cons (pv 1) pa_nil))) pa_nil))))
      (pss_cons (ps_for PassesOwn.never rfl (pi_listK K (pe_meth0 (pv 0) T.cl_Run T.m_Run_under_way (ok_Run_under_way T) (hr.mono (by decide)) T.b_Run_under_way .nil pass0)) (pg_name (i := 3) sc_Run_events.nd rfl (Or.inl rfl))
      (pss_cons (ps_if (pt_cmp (pc_notN (pe_meth (pv 0) T.cl_Run T.m_Run_next_step (ok_Run_next_step T) (hr.mono (by decide)) T.b_Run_next_step .nil pass0 (pa_cons (pv 3) pa_nil)))) (pss_one (ps_expr (pe_appK K (pv 2) (pe_tup (pa_cons (pe_meth (pv 0) T.cl_Run T.m_Run_next_step (ok_Run_next_step T) (hr.mono (by decide)) T.b_Run_next_step .nil pass0 (pa_cons (pv 3) pa_nil)) (pa_cons (pe_fldK K (pv 3)) pa_nil)))))) pss_nil)
      (pss_one (ps_if (pt_val (pe_fldK K (pv 0))) (pss_one (ps_expr (pe_appK K (pv 2) (pe_tup (pa_cons pe_str (pa_cons (pe_fldK K (pv 3)) pa_nil)))))) pss_nil))))
      (pss_cons (ps_if (PW.pt (pw_and (pt_val (pe_fldK K (pv 0))) (pw_and1 (PW.pt (pw_or (pt_cmp (pc_notN (pe_fldK K (pv 0)))) (pw_or1 (pt_cmpR op_gt (pe_fldK K (pv 0)) pe_int (nomark _)))))))) (pss_one (ps_expr (pe_appK K (pv 2) (pe_tup (pa_cons pe_str pa_nil))))) pss_nil)
      (pss_cons (ps_if (PW.pt (pw_and (pt_val (pe_fldK K (pv 0))) (pw_and1 (pt_cmpR op_lt (pe_fldK K (pv 0)) (pe_fldK K (pv 0)) (nomark _))))) (pss_one (ps_expr (pe_appK K (pv 2) (pe_tup (pa_cons pe_str pa_nil))))) pss_nil)
      (pss_one (ps_ret (pe_callB (cr_sortedEv K hr.units) (by rfl) T.f_sorted (by decide +kernel) (pa_cons (pv 2) pa_nil)))))))))), ?_⟩
    refine q_asg (ev_len (ev_runF T R T.n_Run_operations (ev_var rfl)) (sq_of R.ol)) fun H1 e1 => ?_
    rw [R.ol_len]
    have R1 := R.mono e1
    refine q_asgE (es := [Evt.op .look s.ops.length, Evt.op s.first s.ops.length]) (ele_lst (eae_cons (eu_tup (ea_cons ev_c (ea_cons (ev_var rfl) ea_nil)) (by show 2 ≤ 100000; decide)) (eae_cons (eu_tup (ea_cons (ev_op (ev_runF T R1 T.n_Run_steps (ev_var rfl)) ev_c (rv_ixT (st_of R1.st) (L2.at_of (j := 0) rfl (by rw [List.getElem?_map, first_at] <;> rfl)))) (ea_cons (ev_var rfl) ea_nil)) (by show 2 ≤ 100000; decide)) eae_nil)) (by show 2 ≤ 100000; decide)) fun f H2 nf e2 hf => ?_
    have nfH : H f = none := Same.free e1 nf
    have R2 := R1.mono e2
    have hglen : (goV L s).length = (gos s).length := by unfold goV gos given; rw [List.length_map]
    have hgl := gos_len s
    refine q_forNLn (xs := goV L s) (ev_goV T R2 (by omega) (ev_var rfl)) (fun p n σ H' => ∃ x : Option V, σ = [some (.ref L.p), some (.int ((s.ops.length : Nat) : Int)), some (.ref f), x] ∧ Ex H H' ∧ H' p = some (.lst (goV L s)) ∧ p ≠ f ∧
      EvL' H' f ([Evt.op .look s.ops.length, Evt.op s.first s.ops.length] ++ ((gos s).take n).flatMap fun i => s.evsOf (s.at i) i)) ?_ ?_ ?_ ?_
    · intro p H3 hp e3 hL
      refine ⟨none, rfl, e1.trans (e2.trans e3), hL, ?_, hf.mono e3⟩
      obtain ⟨xs, hx, _⟩ := hf.length
      exact fun z => by
        rw [z, hx] at hp
        cases hp
    · rintro p n σ H3 _ ⟨x, rfl, _, hL, _⟩
      exact sq_of hL
    · rintro p n x σ H3 hx ⟨y, rfl, e3, hL, hpf, hE⟩
      obtain ⟨i, hi, hg, rfl, hix⟩ := goV_at hx
      have R3 := R.mono e3
      obtain ⟨t, ht, et⟩ := R3.os_at hi
      have ho := ops_at hi
      rw [et]
      have elen : ([Evt.op .look s.ops.length, Evt.op s.first s.ops.length] ++ ((gos s).take n).flatMap fun i => s.evsOf (s.at i) i).length ≤ 500 := by
        rw [List.length_append]
        have h1 := flat_len (fun i => s.evsOf (s.at i) i) (fun i => evsOf_len s _ i) ((gos s).take n)
        rw [List.length_take] at h1
        show 2 + _ ≤ _
        omega
      have etake : ((gos s).take (n + 1)).flatMap (fun i => s.evsOf (s.at i) i) = (((gos s).take n).flatMap fun i => s.evsOf (s.at i) i) ++ s.evsOf (s.at i) i := by
        rw [List.take_add_one, show (gos s)[n]? = some i from hix, List.flatMap_append]
        simp
      have stp : ∀ (H4 : Hp) (es : List Evt), Ex H H4 → H4 p = some (.lst (goV L s)) → es.length ≤ 600 → EvL' H4 f es →
          tIfS (tB (tFld K (tVar 0) "has_stops")) (tDrop (tBM K "list" rAppend (tVar 2) (tCons (tTup (tCons (tC (.str "stop")) (tCons (tFld K (tVar 3) "number") tNil))) tNil))) tNext
            { nx := fun σ H' => ∃ x : Option V, σ = [some (.ref L.p), some (.int ((s.ops.length : Nat) : Int)), some (.ref f), x] ∧ Ex H H' ∧ H' p = some (.lst (goV L s)) ∧ p ≠ f ∧ EvL' H' f (es ++ (if s.cfg.stops then [Evt.op .stop i] else [])), rt := fun v H' => Q v H' }
            [some (.ref L.p), some (.int ((s.ops.length : Nat) : Int)), some (.ref f), some (.ref t.1)] H4 := by
        intro H4 es e4 hL4 hz hE4
        have R4 := R.mono e4
        refine s_when (et_B (ev_runF T R4 T.n_Run_has_stops (ev_var rfl))) (fun hb H5 e5 => ?_) (fun hb H5 e5 => ?_)
        · have hb : s.cfg.stops = true := hb
          have R5 := R4.mono e5
          refine app_ev (e := .op .stop i) (hE4.mono e5) (by omega) (ev_var rfl) (eu_tup (ea_cons ev_c (ea_cons (ev_opF T R5 ht ho T.n_Operation_number (ev_var rfl)) ea_nil)) (by show 2 ≤ 100000; decide)) nfH (e4.trans e5) fun H6 h6 e6 k6 => ⟨_, rfl, e6, k6 _ _ hpf (e5 _ _ hL4), hpf, ?_⟩
          rw [if_pos hb]
          exact h6
        · have hb : s.cfg.stops = false := hb
          refine ⟨_, rfl, e4.trans e5, e5 _ _ hL4, hpf, ?_⟩
          rw [hb, if_neg Bool.false_ne_true, List.append_nil]
          exact hE4.mono e5
      refine q_when (b := decide (s.nextW (s.at i) ≠ none)) (et_B (ev_is (ev_notN (ev_next R3 ht ho hw (ev_var rfl) (ev_var rfl))) (congrArg V.bl (by cases s.nextW (s.at i) <;> rfl)))) (fun hb H4 e4 => ?_) (fun hb H4 e4 => ?_)
      · cases hnx : s.nextW (s.at i) with
        | none =>
          rw [hnx] at hb
          cases hb
        | some wd =>
          have R4 := R3.mono e4
          refine app_ev (e := .op wd i) (hE.mono e4) (by omega) (ev_var rfl) (eu_tup (ea_cons (ev_is (ev_next R4 ht ho hw (ev_var rfl) (ev_var rfl)) (show wV _ = V.str wd.str by rw [hnx]; rfl)) (ea_cons (ev_opF T R4 ht ho T.n_Operation_number (ev_var rfl)) ea_nil)) (by show 2 ≤ 100000; decide)) nfH (e3.trans e4) fun H5 h5 e5 k5 => ?_
          have z := stp H5 _ e5 (k5 _ _ hpf (e4 _ _ hL)) (by rw [List.length_append]; show _ + 1 ≤ _; omega) h5
          rw [etake, ← List.append_assoc]
          have e9 : s.evsOf (s.at i) i = [Evt.op wd i] ++ (if s.cfg.stops then [Evt.op .stop i] else []) := by
            unfold S.evsOf
            rw [hnx]
          rw [e9, ← List.append_assoc]
          exact z
      · have hnx : s.nextW (s.at i) = none := by
          cases hnx : s.nextW (s.at i) with
          | none => rfl
          | some wd =>
            rw [hnx] at hb
            cases hb
        have z := stp H4 _ (e3.trans e4) (e4 _ _ hL) (by omega) (hE.mono e4)
        rw [etake, ← List.append_assoc]
        have e9 : s.evsOf (s.at i) i = (if s.cfg.stops then [Evt.op .stop i] else []) := by
          unfold S.evsOf
          rw [hnx] <;> rfl
        rw [e9]
        exact z
    · rintro p σ H3 ⟨x, rfl, e3, hL, hpf, hE⟩
      rw [hglen, List.take_length, ← opEvs_gos] at hE
      have R3 := R.mono e3
      have elen : ([Evt.op .look s.ops.length, Evt.op s.first s.ops.length] ++ s.opEvs 0 s.ops).length ≤ 500 := by
        rw [List.length_append, opEvs_gos]
        have h1 := flat_len (fun i => s.evsOf (s.at i) i) (fun i => evsOf_len s _ i) (gos s)
        show 2 + _ ≤ _
        omega
      have cpy : ∀ (H4 : Hp) (es : List Evt), Ex H H4 → es.length ≤ 600 → EvL' H4 f es → (es ++ (if s.canCopy then [Evt.copy] else [])) = s.evList →
          tSeq (tIfS (tAnd (tB (tFld K (tVar 0) "has_replica")) (tTest (tOp (rI0 fun i j => V.bl (decide (i < j))) (tFld K (tVar 0) "replica") (tFld K (tVar 0) "database")))) (tDrop (tBM K "list" rAppend (tVar 2) (tCons (tTup (tCons (tC (.str "copy")) tNil)) tNil))) tNext)
            (tRet (tCB (rSortEv K) (tCons (tVar 2) tNil))) { nx := fun _ H' => Q .non H', rt := Q } [some (.ref L.p), some (.int ((s.ops.length : Nat) : Int)), some (.ref f), x] H4 := by
        intro H4 es e4 hz hE4 hall
        have R4 := R.mono e4
        refine q_when (b := s.canCopy) (et_is (et_and (et_B (ev_runF T R4 T.n_Run_has_replica (ev_var rfl))) fun _ => et_test (ev_op (ev_runF T R4 T.n_Run_replica (ev_var rfl)) (ev_runF T R4 T.n_Run_database (ev_var rfl)) rv_I0)) rfl) (fun hb H5 e5 => ?_) (fun hb H5 e5 => ?_)
        · refine app_ev (e := .copy) (hE4.mono e5) (by omega) (ev_var rfl) (eu_tup (ea_cons ev_c ea_nil) (by show 1 ≤ 100000; decide)) nfH (e4.trans e5) fun H6 h6 e6 k6 => ?_
          rw [hb, if_pos rfl] at hall
          rw [hall] at h6
          exact s_retE (ele_sorted (ev_var rfl) h6) fun q H7 hq e7 h7 => k q H7 (Same.free e6 hq) (e6.trans e7) h7
        · rw [hb, if_neg Bool.false_ne_true, List.append_nil] at hall
          have h6 := hE4.mono e5
          rw [hall] at h6
          exact s_retE (ele_sorted (ev_var rfl) h6) fun q H7 hq e7 h7 => k q H7 (Same.free (e4.trans e5) hq) (e4.trans (e5.trans e7)) h7
      refine q_when (b := s.canEvict) (et_is (et_and (et_B (ev_runF T R3 T.n_Run_has_evictions (ev_var rfl))) fun _ => et_or (et_is (et_B (ev_notN (ev_runF T R3 T.n_Run_cache (ev_var rfl)))) (show _ = decide (s.cache ≠ none) by rw [oV_non]; simp)) fun _ => et_test (ev_op (ev_runF T R3 T.n_Run_mark (ev_var rfl)) ev_c rv_I0)) rfl) (fun hb H4 e4 => ?_) (fun hb H4 e4 => ?_)
      · refine app_ev (e := .evict) (hE.mono e4) (by omega) (ev_var rfl) (eu_tup (ea_cons ev_c ea_nil) (by show 1 ≤ 100000; decide)) nfH (e3.trans e4) fun H5 h5 e5 k5 => ?_
        refine cpy H5 _ e5 (by rw [List.length_append]; show _ + 1 ≤ _; omega) h5 ?_
        unfold S.evList
        rw [hb, if_pos rfl, List.append_assoc]
      · refine cpy H4 _ (e3.trans e4) (by omega) (hE.mono e4) ?_
        unfold S.evList
        rw [hb, if_neg Bool.false_ne_true, List.nil_append]
end
end K10
end
section
set_option Elab.async false
set_option linter.all false
set_option maxRecDepth 100000
set_option maxHeartbeats 4000000
namespace K10
open PySem PySem.Spec PyProof.Rows L2 Evl
abbrev ZB := (Int × (Int × Int)) × Addr
def zE (b : ZB) : Key × V := (Sum.inl b.1.1, V.ref b.2)
def zT (H : Hp) (a : Addr) (z : Int × Int) : Prop := H a = some (.tup [.int z.1, .int z.2])
def ZAt (H : Hp) (d : Addr) (z : Zn) : Prop := ∃ bs : List ZB, bs.map (·.1) = z ∧ H d = some (.dK (bs.map zE)) ∧ ∀ b ∈ bs, zT H b.2 b.1.2
theorem ZAt.mono {H H' : Hp} {d : Addr} {z : Zn} (h : ZAt H d z) (e : Ex H H') : ZAt H' d z := by
  obtain ⟨bs, h1, h2, h3⟩ := h
  exact ⟨bs, h1, e _ _ h2, fun b hb => e _ _ (h3 b hb)⟩
theorem zB_get (bs : List ZB) (k : Int) : valV (bs.map zE) (Sum.inl k : Key) = (bs.find? fun b => decide (b.1.1 = k)).map fun b => V.ref b.2 := by
  induction bs with
  | nil => rfl
  | cons b r ih =>
    rw [List.map_cons, List.find?_cons]
    by_cases h : b.1.1 = k
    · rw [valV_pos (show (zE b).1 = Sum.inl k by unfold zE; rw [h]), decide_eq_true h]
      rfl
    · rw [valV_neg (show ¬ (zE b).1 = Sum.inl k from fun q => h (Sum.inl.inj q)), ih, decide_eq_false h]
theorem zB_get2 (bs : List ZB) (k : Int) : zGet (bs.map (·.1)) k = (bs.find? fun b => decide (b.1.1 = k)).map fun b => b.1.2 := by
  unfold zGet
  induction bs with
  | nil => rfl
  | cons b r ih =>
    rw [List.map_cons, List.find?_cons, List.find?_cons]
    by_cases h : b.1.1 = k
    · rw [decide_eq_true h]
      rfl
    · rw [decide_eq_false h]
      exact ih
theorem ZAt.get {H : Hp} {d : Addr} {z : Zn} (h : ZAt H d z) (k : Int) (t : Addr) (dz : Int × Int) (ht : zT H t dz) : ∃ o : Option V, DGet H d (.int k) o ∧ ∃ a, o.getD (.ref t) = .ref a ∧ zT H a ((zGet z k).getD dz) := by
  obtain ⟨bs, h1, h2, h3⟩ := h
  refine ⟨_, DGet.k (k := Sum.inl k) h2, ?_⟩
  rw [zB_get, ← h1, zB_get2]
  cases e : bs.find? fun b => decide (b.1.1 = k) with
  | none => exact ⟨t, rfl, ht⟩
  | some b => exact ⟨b.2, rfl, h3 b (List.mem_of_find?_eq_some e)⟩
theorem zB_put (bs : List ZB) (k : Int) (t : Addr) (v : Int × Int) : ∃ bs' : List ZB, putK (bs.map zE) (Sum.inl k : Key) (V.ref t) = bs'.map zE ∧ bs'.map (·.1) = zPut (bs.map (·.1)) k v ∧ ∀ b ∈ bs', b ∈ bs ∨ (b.2 = t ∧ b.1.2 = v) := by
  have e1 : ((bs.map zE).any fun kv => decide (kv.1 = (Sum.inl k : Key))) = bs.any fun b => decide (b.1.1 = k) := by
    rw [List.any_map]
    congr 1
    funext b
    show decide ((Sum.inl b.1.1 : Key) = Sum.inl k) = _
    rw [key_ll]
    exact Bool.beq_eq_decide_eq ..
  have e2 : ((bs.map (·.1)).any fun p => decide (p.1 = k)) = bs.any fun b => decide (b.1.1 = k) := by
    rw [List.any_map]
    rfl
  unfold putK zPut
  rw [e1, e2]
  by_cases h : (bs.any fun b => decide (b.1.1 = k)) = true
  · rw [if_pos h, if_pos h]
    refine ⟨bs.map fun b => if b.1.1 = k then ((b.1.1, v), t) else b, ?_, ?_, fun b hb => ?_⟩
    · rw [List.map_map, List.map_map]
      apply List.map_congr_left
      intro b _
      show (if (zE b).1 = Sum.inl k then ((zE b).1, V.ref t) else zE b) = zE (if b.1.1 = k then ((b.1.1, v), t) else b)
      by_cases hb : b.1.1 = k
      · rw [if_pos hb, if_pos (show (zE b).1 = Sum.inl k by unfold zE; rw [hb])]
        rfl
      · rw [if_neg hb, if_neg (show ¬ (zE b).1 = Sum.inl k from fun q => hb (Sum.inl.inj q))]
    · rw [List.map_map, List.map_map]
      apply List.map_congr_left
      intro b _
      show (if b.1.1 = k then (((b.1.1, v), t) : ZB) else b).1 = if b.1.1 = k then (b.1.1, v) else b.1
      split <;> rfl
    · obtain ⟨c, hc, rfl⟩ := List.mem_map.mp hb
      by_cases hk : c.1.1 = k
      · rw [if_pos hk]
        exact .inr ⟨rfl, rfl⟩
      · rw [if_neg hk]
        exact .inl hc
  · rw [if_neg h, if_neg h]
    refine ⟨bs ++ [((k, v), t)], by rw [List.map_append]; rfl, by rw [List.map_append]; rfl, fun b hb => ?_⟩
    rcases List.mem_append.mp hb with hb | hb
    · exact .inl hb
    · simp at hb
      subst hb
      exact .inr ⟨rfl, rfl⟩
theorem ZAt.put {H H0 : Hp} {d t : Addr} {z : Zn} {v : Int × Int} {k : Int} (h : ZAt H d z) (ht : zT H t v) (hl : z.length < 1000) (h0 : H0 d = none) (e0 : Ex H0 H) : ∃ H', DPut H d (.int k) (.ref t) H' ∧ ZAt H' d (zPut z k v) ∧ Ex H0 H' ∧ ∀ b o, b ≠ d → H b = some o → H' b = some o := by
  obtain ⟨bs, h1, h2, h3⟩ := h
  obtain ⟨bs', p1, p2, p3⟩ := zB_put bs k t v
  refine ⟨_, DPut.k (k := Sum.inl k) h2 ?_, ?_, e0.mut h0, fun b o hb e => by rw [upd_ne hb]; exact e⟩
  · have e : (bs.map zE).length = z.length := by rw [← h1, List.length_map, List.length_map]
    rw [e]
    exact small1000 (by omega)
  · rw [p1]
    have tp : ∀ {a : Addr} {w : Int × Int} {u : HO}, zT H a w → zT (upd H d u) a w := fun {a w u} hz => by
      unfold zT
      rw [upd_ne fun q => ?_]
      · exact hz
      · unfold zT at hz
        rw [q, h2] at hz
        cases hz
    refine ⟨bs', by rw [p2, h1], upd_same, fun b hb => ?_⟩
    rcases p3 b hb with q | ⟨q1, q2⟩
    · exact tp (h3 b q)
    · rw [q1, q2]
      exact tp ht
def ZL (H : Hp) (p : Addr) (zl : List (Int × Int)) : Prop := ∃ as : List Addr, H p = some (.lst (as.map V.ref)) ∧ Paired (zT H) as zl
def rSortDI : List V → Hp → VK → Prop := fun xs H Q => ∃ (a : Addr) (kvs : List (Key × V)) (ks : List Int), xs = [.ref a] ∧ Rd H a (.dK kvs) ∧ kvs.map (·.1) = ks.map Sum.inl ∧ ks.length < 64 ∧
    ∀ (ys : List Int) (p : Addr), ys.Perm ks → ys.Pairwise (· ≤ ·) → H p = none → Q (.ref p) (upd H p (.lst (ys.map V.int)))
theorem cr_sortDI {X : Cx} (hc : X.calm = true := by rfl) : CallR X (.builtin "sorted") rSortDI := call_sortedDI hc
section
variable {K : PySem.W.Frag} {σ : L2.St} {H : Hp} {te tl : TE} {x y : V} {i j : Nat} {D : Ends} {tz : TS} {g : TG} {t : TT} {vs : List Nat} {Q : VK}
theorem tp_nil {Q : List (V × V) → Hp → Prop} (q : Q [] H) : tPairs [] σ H Q := by
  unfold tPairs
  exact q
theorem tp_cons {tk tv : TE} {r : List (TE × TE)} {Q : List (V × V) → Hp → Prop} (h : tk σ H fun x H1 => tv σ H1 fun y H2 => tPairs r σ H2 fun ps H3 => Q ((x, y) :: ps) H3) : tPairs ((tk, tv) :: r) σ H Q := by
  unfold tPairs
  exact h
theorem q_unp2 (h : ∀ Q : VK, (∀ a H1, Ex H H1 → SqT K H1 a [x, y] → Q (.ref a) H1) → te σ H Q) (k : ∀ H1, Ex H H1 → tz D ((σ.set i (some x)).set j (some y)) H1) : tSeq (tAsg te (gTup K 2 (gCons (gName i) (gCons (gName j) gNil)))) tz D σ H :=
  h _ fun a H1 e1 hs => ⟨a, _, rfl, hs, rfl, x, [y], rfl, y, [], rfl, rfl, k H1 e1⟩
theorem lc_bind {elt : TE} (h : tl σ H fun x H1 => ∃ a, x = .ref a ∧ tLc (iList K (tC (.ref a))) g t elt vs σ H1 Q) : tLc (iList K tl) g t elt vs σ H Q := by
  have e : (fun (x : V) (H1 : Hp) => ∃ a, x = .ref a ∧ tLc (iList K (tC (.ref a))) g t elt vs σ H1 Q) = fun x H1 => ∃ a, x = .ref a ∧ (∃ xs, SqL K H1 a xs) ∧ (fun J H1 => ∀ D, H1 D = none → ∃ W : Nat → Nat → Hp → Prop, (∃ m, W 0 m (upd H1 D (.lst []))) ∧ ∀ i m H, W i m H →
      (J.stop i H ∧ Q (.ref D) H) ∨ (J.go i H ∧ ∃ Nx : Hp → Prop, (∀ H', Nx H' → ∃ m', m' < m ∧ W (i + 1) m' H') ∧ ∀ x H', J.yld i H x H' → g x (wipe σ vs) H' fun σ2 H2 => wipe σ2 vs = wipe σ vs ∧ t σ2 H2 fun b H3 =>
        if b = true then elt σ2 H3 fun y H4 => ∃ acc, H4 D = some (.lst acc) ∧ acc.length < sizeLine ∧ Nx (upd H4 D (.lst (acc ++ [y]))) else Nx H3)) (Itl K a) H1 := by
    funext x H1
    apply propext
    constructor
    · rintro ⟨a, rfl, b, e1, h1, h2⟩
      cases e1
      exact ⟨a, rfl, h1, h2⟩
    · rintro ⟨a, rfl, h1, h2⟩
      exact ⟨a, rfl, a, rfl, h1, h2⟩
  rw [e] at h
  exact h
end
section
variable {P : Program} {w : World} {base h0 : Heap} {K : PySem.W.Frag} {mg : Str → Option Value}
def spZones (K : PySem.W.Frag) : Sp := fun vs H Q _ => ∃ (L : Lay) (s : S), vs = [.ref L.p] ∧ RunAt K H L s ∧ s.ops.length ≤ 60 ∧ zonedOk s ∧ ∀ p zl H', H p = none → Ex H H' → zl.Perm (s.zn.map (·.2)) → ZL H' p zl → Q (.ref p) H'
theorem sc_zones : FnScope ["run", "far", "found", "one", "is_write", "ended", "version", "low", "high"] ["run"] (defScope s_zones) := ⟨rfl, rfl, rfl, by decide +kernel, rfl, by decide +kernel, by decide +kernel⟩
theorem ok_zones (T : Txt h0 K mg) : FnOk P w K mg base CX0 1 (He.ga K "zones") (fdOf K (He.ga K "zones")) ["run"] (spZones K) := by
  refine FnOk.mono (j := 1) ((T.fn_zones).ok sc_zones (fun vs H Q E h => ?_) (fun cdv A outer st0 H vs Q E hr h => ?_)) (by decide)
  · obtain ⟨L, s, rfl, _⟩ := h
    rfl
  · obtain ⟨L, s, rfl, R, hl, hz, k⟩ := h
    refine ⟨_, PSs.nox ((pss_cons (ps_set (i := 1) sc_zones.nd rfl (Or.inl rfl) (pe_callB (call_lenK K) (by rfl) T.f_len (by decide +kernel) (pa_cons (pe_fldK K (pv 0)) pa_nil)))
      (pss_cons (ps_set (i := 2) sc_zones.nd rfl (Or.inr rfl) (pe_disp (pps_cons pe_int (pe_tup (pa_cons (pe_un un_neg pe_int) (pa_cons (pe_un un_neg pe_int) pa_nil))) pps_nil) (by rfl) (by rfl) (fun z => by cases z) (by decide)))
      (pss_cons (ps_for PassesOwn.never rfl (pi_listK K (pe_fldK K (pv 0))) (pg_name (i := 3) sc_zones.nd rfl (Or.inl rfl))
      (pss_cons (ps_set (i := 4) sc_zones.nd rfl (Or.inl rfl) (pe_and (pe_cmpR op_eq (pe_fldK K (pv 3)) pe_str (nomark _)) (pe_one (pe_cmp (pc_notN (pe_fldK K (pv 3)))))))
      (pss_one (ps_if (PW.pt (pw_or (pt_val (pv 4)) (pw_or1 (PW.pt (pw_and (pt_cmpR op_eq (pe_fldK K (pv 3)) pe_str (nomark _)) (pw_and1 (pt_cmpR op_eq (pe_fldK K (pv 3)) pe_str (nomark _)))))))) (pss_cons (ps_set (i := 5) sc_zones.nd rfl (Or.inl rfl) (pe_ifExp (pt_cmp (pc_notN (pe_fldK K (pv 3)))) (pe_fldK K (pv 3)) (pv 1)))
      (pss_cons (ps_asg (pe_dget2 (hu_of hr) (pv 2) (pe_fldK K (pv 3)) (pe_tup (pa_cons (pv 1) (pa_cons (pe_un un_neg pe_int) pa_nil))) ⟨rfl, rfl, rfl, rfl⟩) (pg_tupK K (pgs_cons (pg_name (i := 7) sc_zones.nd rfl (Or.inl rfl)) (pgs_cons (pg_name (i := 8) sc_zones.nd rfl (Or.inl rfl)) pgs_nil))))
      (pss_one (ps_dput (hu_of hr) (pv 2) (pe_fldK K (pv 3)) (pe_tup (pa_cons (pe_callB (call_min2S rfl) (by rfl) T.f_min (by decide +kernel) (pa_cons (pv 7) (pa_cons (pv 5) pa_nil))) (pa_cons (pe_callB (call_max2S rfl) (by rfl) T.f_max (by decide +kernel) (pa_cons (pv 8) (pa_cons (pe_fldK K (pv 3)) pa_nil))) pa_nil))) rfl)))) pss_nil))))
      (pss_one (ps_ret (pe_lc (own := [("version", 6)]) (g := (gName 6)) (tt := tYes) rfl sc_zones.nd (pi_listK K (pe_callB cr_sortDI (by rfl) T.f_sorted (by decide +kernel) (pa_cons (pv 2) pa_nil))) (blkOk_by (N := ["run", "far", "found", "one", "is_write", "ended", "version", "low", "high"]) (sc := defScope s_zones) (by decide +kernel)) (fun _ _ _ _ _ => (pg_name (i := 6) sc_zones.nd rfl (Or.inl rfl))) (fun _ _ _ _ _ => pts_nil) (fun _ _ _ _ _ => (pe_dget (hu_of hr) (pv 2) (pv 6) (fun _ _ => rfl)))))))))), ?_⟩
    refine q_asg (ev_is (ev_len (ev_runF T R T.n_Run_events_done (ev_var rfl)) (sq_of R.el)) (congrArg V.int R.now)) fun H1 e1 => ?_
    intro d nd
    refine tp_cons ?_
    refine (ev_c (v := .int 0)) _ (Ex.refl _) _ fun H1b e1b => ?_
    refine (eu_tup (ea_cons (ev_un ev_c ru_neg) (ea_cons (ev_un ev_c ru_neg) ea_nil)) (by show 2 ≤ 100000; decide)) _ (Ex.refl _) _ fun t0 H2 nt0 e2 ht0 => ?_
    have hd2 : H2 d = some (.dK []) := e2 _ _ (e1b _ _ upd_same)
    refine tp_nil ⟨hd2, [(Sum.inl 0, V.ref t0)], rfl, by show 1 ≤ 15; decide, ?_⟩
    have ndH : H d = none := Same.free e1 nd
    have e12 : Ex H (upd H2 d (.dK (mergeK [] [(Sum.inl 0, V.ref t0)]))) := fun b o eb => by
      rw [upd_ne (ne_of_none eb ndH)]
      exact e2 _ _ (e1b _ _ ((e1.trans (Ex.new nd)) b o eb))
    have Z0 : ZAt (upd H2 d (.dK (mergeK [] [(Sum.inl 0, V.ref t0)]))) d [(0, (-1, -1))] := by
      refine ⟨[((0, (-1, -1)), t0)], rfl, upd_same, fun b hb => ?_⟩
      simp at hb
      subst hb
      show upd H2 d _ t0 = _
      rw [upd_ne fun z => ?_]
      · exact ht0
      · rw [z, hd2] at ht0
        cases ht0
    have z0 : ∀ i, ((s.ops.take i).foldl (zStep s.now) [(0, (-1, -1))]).length ≤ 61 := fun i => by
      have h1 := zFold_len (far := s.now) (s.ops.take i) [(0, (-1, -1))]
      rw [List.length_take] at h1
      have h2 : ([(0, (-1, -1))] : Zn).length = 1 := rfl
      omega
    refine q_forLn (xs := L.os.map fun t => V.ref t.1) (K := K) (ev_runF T (R.mono e12) T.n_Run_operations (ev_var rfl)) (sq_of (R.mono e12).ol) (fun i σ H' => ∃ x4 x3 x5 x6 x7 x8 : Option V, σ = [some (.ref L.p), some (.int s.now), some (.ref d), x3, x4, x5, x6, x7, x8] ∧ Ex H H' ∧ ZAt H' d ((s.ops.take i).foldl (zStep s.now) [(0, (-1, -1))])) ?_ ?_ ?_ ?_
    · intro H3 e3
      exact ⟨none, none, none, none, none, none, rfl, e12.trans e3, Z0.mono e3⟩
    · rintro i σ H3 _ ⟨x4, x3, x5, x6, x7, x8, rfl, e3, _⟩
      exact sq_of (R.mono e3).ol
    · rintro i x σ H3 hx ⟨x4, x3, x5, x6, x7, x8, rfl, e3, Z3⟩
      obtain ⟨t, ht, rfl, ho⟩ := R.ol_at hx
      have R3 := R.mono e3
      have tk : (s.ops.take (i + 1)).foldl (zStep s.now) [(0, (-1, -1))] = zStep s.now ((s.ops.take i).foldl (zStep s.now) [(0, (-1, -1))]) (s.at i) := by
        rw [List.take_add_one, ho, List.foldl_append] <;> rfl
      refine q_asg (v := .bl ((s.at i).wr && decide ((s.at i).ver ≠ none))) (ev_andV (ev_kindW T R3 ht ho (ev_var rfl)) fun _ => ev_is (ev_notN (ev_opF T R3 ht ho T.n_Operation_version (ev_var rfl))) (congrArg V.bl (by rw [oV_non]; simp))) fun H4 e4 => ?_
      have R4 := R3.mono e4
      refine s_when (b := (s.at i).zoned) (et_is (et_or (et_B (ev_var rfl)) fun _ => et_and (et_test (ev_kindR T R4 ht ho (ev_var rfl))) fun _ => et_test (ev_stageEq T R4 ht ho (ev_var rfl) .ended)) rfl) (fun hb H5 e5 => ?_) (fun hb H5 e5 => ?_)
      · obtain ⟨v, hv⟩ := hz i _ ho hb
        have R5 := R4.mono e5
        refine q_asg (v := .int ((s.at i).ended.getD s.now)) ?_ fun H6 e6 => ?_
        · cases hen : (s.at i).ended with
          | none => exact ev_if (b := false) (et_B (ev_is (ev_notN (ev_opF T R5 ht ho T.n_Operation_ended (ev_var rfl))) (by rw [hen]; rfl))) (fun z => by cases z) fun _ => ev_var rfl
          | some en => exact ev_if (b := true) (et_B (ev_is (ev_notN (ev_opF T R5 ht ho T.n_Operation_ended (ev_var rfl))) (by rw [hen]; rfl))) (fun _ => ev_is (ev_opF T R5 ht ho T.n_Operation_ended (ev_var rfl)) (by rw [hen]; rfl)) fun z => by cases z
        have e46 : Ex H3 H6 := e4.trans (e5.trans e6)
        have R6 := R3.mono e46
        have Z6 := Z3.mono e46
        have evv : ∀ {σ' : L2.St} {H' : Hp}, RunAt K H' L s → σ'[3]? = some (some (.ref t.1)) → Ev (tFld K (tVar 3) "version") σ' H' (.int v) := fun {σ' H'} R' h3 => ev_is (ev_opF T R' ht ho T.n_Operation_version (ev_var h3)) (show oV (s.at i).ver = V.int v by rw [hv]; rfl)
        refine q_unp2 (x := .int ((zGet ((s.ops.take i).foldl (zStep s.now) [(0, (-1, -1))]) v).getD (s.now, -1)).1) (y := .int ((zGet ((s.ops.take i).foldl (zStep s.now) [(0, (-1, -1))]) v).getD (s.now, -1)).2) (fun Q' q' => ?_) fun H7 e7 => ?_
        · refine (ev_var (v := .ref d) rfl) H6 (Ex.refl _) _ fun H7 e7 => ⟨d, rfl, ?_, ?_⟩
          · obtain ⟨bs, _, hb2, _⟩ := Z6.mono e7
            exact .inl ⟨_, Rd.of hb2⟩
          · refine (evv (R6.mono e7) rfl) H7 (Ex.refl _) _ fun H8 e8 => ?_
            refine (eu_tup (ea_cons (ev_var rfl) (ea_cons (ev_un ev_c ru_neg) ea_nil)) (by show 2 ≤ 100000; decide)) H8 (Ex.refl _) _ fun t8 H9 nt8 e9 ht8 => ?_
            obtain ⟨o, ho1, a, ho2, ho3⟩ := (Z6.mono (e7.trans (e8.trans e9))).get v t8 (s.now, -1) ht8
            refine ⟨o, ho1, ?_⟩
            rw [ho2]
            exact q' a H9 (e7.trans (e8.trans e9)) (st_of ho3)
        · have R7 := R6.mono e7
          refine (eu_tup (vs := [.int (zNew s.now ((s.ops.take i).foldl (zStep s.now) [(0, (-1, -1))]) (s.at i)).1, .int (zNew s.now ((s.ops.take i).foldl (zStep s.now) [(0, (-1, -1))]) (s.at i)).2]) ?_ ?_) H7 (Ex.refl _) _ fun t8 H8 nt8 e8 ht8 => ?_
          · unfold zNew
            rw [hv]
            exact ea_cons (ev_min2 (ev_var rfl) (ev_var rfl)) (ea_cons (ev_max2' (ev_var rfl) (ev_opF T R7 ht ho T.n_Operation_begun (ev_var rfl))) ea_nil)
          · show 2 ≤ 100000
            decide
          refine (ev_var (v := .ref d) rfl) H8 (Ex.refl _) _ fun H9 e9 => ?_
          refine (evv ((R7.mono e8).mono e9) rfl) H9 (Ex.refl _) _ fun H10 e10 => ?_
          have e310 : Ex H H10 := e3.trans (e46.trans (e7.trans (e8.trans (e9.trans e10))))
          obtain ⟨H11, p1, p2, p3, p4⟩ := (Z6.mono (e7.trans (e8.trans (e9.trans e10)))).put (k := v) ((e9.trans e10) _ _ ht8) (by have := z0 i; omega) ndH e310
          refine ⟨d, H11, rfl, p1, _, _, _, _, _, _, rfl, p3, ?_⟩
          rw [tk]
          unfold zStep
          rw [if_pos hb, hv]
          exact p2
      · refine ⟨_, _, _, _, _, _, rfl, e3.trans (e4.trans e5), ?_⟩
        rw [tk]
        unfold zStep
        rw [hb, if_neg Bool.false_ne_true]
        exact Z3.mono (e4.trans e5)
    · rintro σ H3 ⟨x4, x3, x5, x6, x7, x8, rfl, e3, Z3⟩
      rw [R.ol_len, List.take_length] at Z3
      have Z3 : ZAt H3 d s.zn := Z3
      have hzl : s.zn.length ≤ 61 := by
        have h1 := z0 s.ops.length
        rw [List.take_length] at h1
        exact h1
      have hnd : (s.zn.map (·.1)).Nodup := zFold_nodup s.ops _ (by simp)
      obtain ⟨bs, hb1, hb2, hb3⟩ := id Z3
      have hks : (bs.map zE).map (·.1) = (s.zn.map (·.1)).map Sum.inl := by
        rw [← hb1, List.map_map, List.map_map, List.map_map]
        rfl
      refine lc_bind ?_
      refine (ev_var (v := .ref d) rfl) H3 (Ex.refl _) _ fun H4 e4 => ⟨d, bs.map zE, s.zn.map (·.1), rfl, Rd.of (e4 _ _ hb2), hks, by rw [List.length_map]; omega, fun ys p py _ np => ⟨p, rfl, ?_⟩⟩
      have e5 : Ex H3 (upd H4 p (.lst (ys.map V.int))) := e4.trans (Ex.new np)
      have hys : ∀ y ∈ ys, ∃ b ∈ bs, (bs.find? fun b => decide (b.1.1 = y)) = some b := fun y hy => by
        have h1 : y ∈ s.zn.map (·.1) := py.mem_iff.mp hy
        rw [← hb1, List.map_map] at h1
        obtain ⟨b, hb, eb⟩ := List.mem_map.mp h1
        cases e : bs.find? fun b => decide (b.1.1 = y) with
        | none => exact absurd (decide_eq_true eb) (List.find?_eq_none.mp e b hb)
        | some c => exact ⟨c, List.mem_of_find?_eq_some e, rfl⟩
      have hgl : ys.length ≤ 61 := by
        rw [py.length_eq, List.length_map]
        exact hzl
      refine (el_lcL (K := K) (a := p) (xs := ys.map V.int) (fun _ => true) (fun i => V.ref ((bs.find? fun b => decide (b.1.1 = ys.getD i 0)).map (·.2) |>.getD 0)) ev_c (sq_of upd_same) (by rw [List.length_map]; omega) (fun _ => rfl) (fun i x H5 e6 hx => et_yes) (fun i x H5 e6 hx _ => ?_)) _ (Ex.refl _) _ fun q H5 nq e6 hq => ?_
      · rw [List.getElem?_map] at hx
        cases hyi : ys[i]? with
        | none =>
          rw [hyi] at hx
          cases hx
        | some y =>
          rw [hyi] at hx
          cases hx
          have eg : ys.getD i 0 = y := by rw [List.getD_eq_getElem?_getD, hyi] <;> rfl
          rw [eg]
          obtain ⟨b, hb, hf⟩ := hys y (List.mem_of_getElem? hyi)
          rw [hf]
          intro H6 e7 Q' q'
          refine (ev_var (v := .ref d) rfl) H6 (Ex.refl _) _ fun H7 e8 => ?_
          refine (ev_var (v := .int y) rfl) H7 (Ex.refl _) _ fun H8 e9 => ⟨d, .ref b.2, rfl, ?_, q' H8 (e8.trans e9)⟩
          have hd8 := ((e5.trans (e6.trans (e7.trans (e8.trans e9)))) _ _ hb2)
          have hg := DGet.k (k := Sum.inl y) hd8
          rw [zB_get, hf] at hg
          exact hg
      · rw [given_all] at hq
        have e35 := e3.trans (e5.trans e6)
        refine k q (ys.map fun y => (zGet s.zn y).getD (0, 0)) H5 (Same.free (e3.trans e5) nq) e35 ?_ ⟨ys.map fun y => (bs.find? fun b => decide (b.1.1 = y)).map (·.2) |>.getD 0, ?_, ?_⟩
        · have h1 : (s.zn.map (·.2)) = (s.zn.map (·.1)).map fun y => (zGet s.zn y).getD (0, 0) := by
            rw [List.map_map]
            apply List.map_congr_left
            intro p hp
            show p.2 = (zGet s.zn p.1).getD (0, 0)
            have : zGet s.zn p.1 = some p.2 := by
              unfold zGet
              cases e : s.zn.find? fun q => decide (q.1 = p.1) with
              | none => exact absurd (decide_eq_true rfl) (List.find?_eq_none.mp e p hp)
              | some c =>
                have hc := List.mem_of_find?_eq_some e
                have hk : c.1 = p.1 := by
                  have := List.find?_some e
                  exact of_decide_eq_true this
                have : c = p := by
                  obtain ⟨i, hi⟩ := List.mem_iff_getElem?.mp hc
                  obtain ⟨j, hj⟩ := List.mem_iff_getElem?.mp hp
                  have hi2 : (s.zn.map (·.1))[i]? = some p.1 := by rw [List.getElem?_map, hi, ← hk] <;> rfl
                  have hj2 : (s.zn.map (·.1))[j]? = some p.1 := by rw [List.getElem?_map, hj] <;> rfl
                  have : i = j := nd_ix hnd hi2 hj2
                  subst this
                  rw [hi] at hj
                  exact Option.some.inj hj
                rw [this] <;> rfl
            rw [this] <;> rfl
          rw [h1]
          exact py.map _
        · rw [hq, List.length_map, List.map_map]
          congr 2
          apply List.ext_getElem?
          intro i
          rw [List.getElem?_map, List.getElem?_map]
          by_cases hi : i < ys.length
          · rw [List.getElem?_range hi, List.getElem?_eq_getElem hi]
            simp [List.getD_eq_getElem?_getD, List.getElem?_eq_getElem hi]
          · rw [List.getElem?_eq_none (by rw [List.length_range]; omega), List.getElem?_eq_none (by omega)]
            rfl
        · have key : ∀ l : List Int, (∀ y ∈ l, y ∈ ys) → Paired (zT H5) (l.map fun y => (bs.find? fun b => decide (b.1.1 = y)).map (·.2) |>.getD 0) (l.map fun y => (zGet s.zn y).getD (0, 0)) := by
            intro l
            induction l with
            | nil => exact fun _ => .nil
            | cons y l ih =>
              intro hl
              obtain ⟨b, hb, hf⟩ := hys y (hl y (List.mem_cons_self ..))
              refine .cons ?_ (ih fun z hz => hl z (List.mem_cons_of_mem _ hz))
              show zT H5 (((bs.find? fun b => decide (b.1.1 = y)).map (·.2)).getD 0) ((zGet s.zn y).getD (0, 0))
              rw [← hb1, zB_get2, hf]
              exact (e5.trans e6) _ _ (hb3 b hb)
          exact key ys fun y hy => hy
end
end K10
end
section
set_option Elab.async false
set_option linter.all false
set_option maxRecDepth 100000
set_option maxHeartbeats 4000000
namespace K10
open PySem PySem.Spec PyProof.Rows L2 Evl
theorem ZL.mono {H H' : Hp} {p : Addr} {zl : List (Int × Int)} (h : ZL H p zl) (e : Ex H H') : ZL H' p zl := by
  obtain ⟨as, h1, h2⟩ := h
  refine ⟨as, e _ _ h1, ?_⟩
  clear h1
  induction h2 with
  | nil => exact .nil
  | cons h _ ih => exact .cons (e _ _ h) ih
theorem paired_ix {α β : Type} {F : α → β → Prop} : ∀ {as : List α} {bs : List β} {i : Nat} {b : β}, Paired F as bs → bs[i]? = some b → ∃ a, as[i]? = some a ∧ F a b
  | _, _, i, b, .nil, h => by simp at h
  | _, _, 0, b, .cons h r, hb => by
    simp at hb
    subst hb
    exact ⟨_, rfl, h⟩
  | _, _, i + 1, b, .cons h r, hb => by
    simp at hb
    obtain ⟨a, ha, hF⟩ := paired_ix r hb
    exact ⟨a, by simpa using ha, hF⟩
theorem paired_ix2 {α β : Type} {F : α → β → Prop} : ∀ {as : List α} {bs : List β} {i : Nat} {a : α}, Paired F as bs → as[i]? = some a → ∃ b, bs[i]? = some b ∧ F a b
  | _, _, i, b, .nil, h => by simp at h
  | _, _, 0, b, .cons h r, hb => by
    simp at hb
    subst hb
    exact ⟨_, rfl, h⟩
  | _, _, i + 1, b, .cons h r, hb => by
    simp at hb
    obtain ⟨a, ha, hF⟩ := paired_ix2 r hb
    exact ⟨a, by simpa using ha, hF⟩
theorem paired_len {α β : Type} {F : α → β → Prop} : ∀ {as : List α} {bs : List β}, Paired F as bs → as.length = bs.length
  | _, _, .nil => rfl
  | _, _, .cons _ r => by
    simp
    exact paired_len r
theorem cut_take {xs : List V} {i : Nat} (h : i ≤ xs.length) : cutV xs none (some (i : Int)) = xs.take i := by
  unfold cutV
  have e1 : HT.sIx xs.length 0 none = 0 := rfl
  have e2 : HT.sIx xs.length xs.length (some (i : Int)) = i := by
    unfold HT.sIx
    simp only [Option.getD, Option.elim]
    rw [if_neg (by omega)]
    omega
  rw [e1, e2, List.drop_zero, Nat.sub_zero]
section
variable {P : Program} {w : World} {base h0 : Heap} {K : PySem.W.Frag} {mg : Str → Option Value}
def spLinear (K : PySem.W.Frag) : Sp := fun vs H Q _ => ∃ (L : Lay) (s : S), vs = [.ref L.p] ∧ RunAt K H L s ∧ s.ops.length ≤ 60 ∧ zonedOk s ∧ RetV (.bl s.isLin) H Q
def rowOk (zl : List (Int × Int)) (a b : Nat) : Prop := ∀ j < b, ∀ x y, zl[j]? = some x → zl[a]? = some y → zOk x y = true
theorem sc_is_linear : FnScope ["run", "some", "at", "low", "high"] ["run"] (defScope s_is_linear) := ⟨rfl, rfl, rfl, by decide +kernel, rfl, by decide +kernel, by decide +kernel⟩
theorem ok_is_linear (T : Txt h0 K mg) : FnOk P w K mg base CX0 2 (He.ga K "is_linear") (fdOf K (He.ga K "is_linear")) ["run"] (spLinear K) := by
  refine FnOk.mono (j := 2) ((T.fn_is_linear).ok sc_is_linear (fun vs H Q E h => ?_) (fun cdv A outer st0 H vs Q E hr h => ?_)) (by decide)
  · obtain ⟨L, s, rfl, _⟩ := h
    rfl
  · obtain ⟨L, s, rfl, R, hl, hz, k⟩ := h
    refine ⟨_, PSs.nox ((pss_cons (ps_set (i := 1) sc_is_linear.nd rfl (Or.inl rfl) (pe_call (ok_zones T) (hr.mono (by decide)) rfl T.g_zones T.k_zones T.b_zones .nil pass0 (pa_cons (pv 0) pa_nil)))
      (pss_cons (ps_for PassesOwn.never rfl (pi_range1 rfl T.f_range (pa_cons (pe_callB (call_lenK K) (by rfl) T.f_len (by decide +kernel) (pa_cons (pv 1) pa_nil)) pa_nil)) (pg_name (i := 2) sc_is_linear.nd rfl (Or.inl rfl))
      (pss_one (ps_for PassesOwn.never rfl (pi_listK K (pe_slice (sl_listK K) (pv 1) po_none (po_some (pv 2)))) (pg_tupK K (pgs_cons (pg_name (i := 3) sc_is_linear.nd rfl (Or.inl rfl)) (pgs_cons (pg_name (i := 4) sc_is_linear.nd rfl (Or.inl rfl)) pgs_nil)))
      (pss_one (ps_if (PW.pt (pw_and (pt_cmpR op_lt (pv 3) (pe_ix (ix_tupK K) (pe_ix (ix_listK K) (pv 1) (pv 2) (fun _ _ => rfl)) pe_int (fun _ _ => rfl)) (nomark _)) (pw_and1 (pt_cmpR op_lt (pe_ix (ix_tupK K) (pe_ix (ix_listK K) (pv 1) (pv 2) (fun _ _ => rfl)) pe_int (fun _ _ => rfl)) (pv 4) (nomark _))))) (pss_one (ps_ret pe_bl)) pss_nil)))))
      (pss_one (ps_ret pe_bl))))), ?_⟩
    refine q_call (vs := [.ref L.p]) (ea_cons (ev_var rfl) ea_nil) fun H1 e1 => ⟨L, s, rfl, R.mono e1, hl, hz, fun p zl H2 np e2 hp hZ => ?_⟩
    obtain ⟨as, ha, hP⟩ := id hZ
    have hlen : as.length = zl.length := paired_len hP
    have hzl : zl.length ≤ 61 := by
      rw [hp.length_eq, List.length_map]
      have h1 := zFold_len (far := s.now) s.ops [(0, (-1, -1))]
      have h2 : ([(0, (-1, -1))] : Zn).length = 1 := rfl
      show (s.ops.foldl (zStep s.now) [(0, (-1, -1))]).length ≤ 61
      omega
    have isl : s.isLin = decide (zl.Pairwise fun a b => zOk a b = true) := by
      unfold S.isLin
      exact decide_eq_decide.mpr (pairwise_perm hp).symm
    have nth : ∀ {σ : L2.St} {H' : Hp} {i : Nat} {z : Int × Int}, Ex H2 H' → σ[1]? = some (some (.ref p)) → σ[2]? = some (some (.int (i : Int))) → zl[i]? = some z →
        Ev (tOp (rIxT K) (tOp (rIxL K) (tVar 1) (tVar 2)) (tC (.int 0))) σ H' (.int z.1) ∧ Ev (tOp (rIxT K) (tOp (rIxL K) (tVar 1) (tVar 2)) (tC (.int 1))) σ H' (.int z.2) := by
      intro σ H' i z e h1 h2 hi
      obtain ⟨a, hai, hza⟩ := paired_ix hP hi
      have hx : Ev (tOp (rIxL K) (tVar 1) (tVar 2)) σ H' (.ref a) := ev_op (ev_var h1) (ev_var h2) (rv_ixL (sq_of (e _ _ ha)) (atI_nat (by rw [List.getElem?_map, hai] <;> rfl)))
      exact ⟨ev_op hx ev_c (rv_ixT (st_of (e _ _ hza)) rfl), ev_op hx ev_c (rv_ixT (st_of (e _ _ hza)) rfl)⟩
    refine q_forR1 (n := (zl.length : Int)) (ea_cons (ev_is (ev_len (ev_var rfl) (sq_of ha)) (by rw [List.length_map, hlen])) ea_nil) ⟨by omega, by omega⟩ (fun i σ H' => ∃ x2 x3 x4 : Option V, σ = [some (.ref L.p), some (.ref p), x2, x3, x4] ∧ Ex H2 H' ∧ ∀ a < i, rowOk zl a a) ?_ ?_ ?_
    · intro H3 e3
      exact ⟨none, none, none, rfl, e3, fun a ha => absurd ha (Nat.not_lt_zero _)⟩
    · rintro i σ H3 hi ⟨x2, x3, x4, rfl, e3, hrow⟩
      have hi : i < zl.length := by omega
      obtain ⟨zi, hzi⟩ : ∃ z, zl[i]? = some z := ⟨zl[i], List.getElem?_eq_getElem hi⟩
      have hcut : (as.map V.ref).take i = cutV (as.map V.ref) none (some (i : Int)) := (cut_take (by rw [List.length_map]; omega)).symm
      have hcl : ((as.map V.ref).take i).length = i := by rw [List.length_take, List.length_map]; omega
      refine s_forNL (xs := (as.map V.ref).take i) (hcut ▸ el_sl (ev_var rfl) eo_none (eo_some (ev_var rfl)) (sq_of (e3 _ _ ha))) (fun q n σ H' => ∃ x3 x4 : Option V, σ = [some (.ref L.p), some (.ref p), some (.int (i : Int)), x3, x4] ∧ Ex H2 H' ∧ H' q = some (.lst ((as.map V.ref).take i)) ∧ rowOk zl i n) ?_ ?_ ?_ ?_
      · intro q H4 nq e4 hq
        exact ⟨_, _, rfl, e3.trans e4, hq, fun j hj => absurd hj (Nat.not_lt_zero _)⟩
      · rintro q n σ H4 _ ⟨y3, y4, rfl, _, hq, _⟩
        exact sq_of hq
      · rintro q n x σ H4 hx ⟨y3, y4, rfl, e4, hq, hr4⟩
        have hn : n < i := by
          have := (List.getElem?_eq_some_iff.mp hx).1
          omega
        rw [List.getElem?_take_of_lt hn, List.getElem?_map] at hx
        cases hna : as[n]? with
        | none =>
          rw [hna] at hx
          cases hx
        | some a =>
          rw [hna] at hx
          cases hx
          obtain ⟨z, hzn, hza⟩ := paired_ix2 hP hna
          refine ⟨a, _, rfl, st_of (e4 _ _ hza), rfl, .int z.1, [.int z.2], rfl, .int z.2, [], rfl, rfl, ?_⟩
          obtain ⟨n0, n1⟩ := nth (σ := [some (.ref L.p), some (.ref p), some (.int (i : Int)), some (.int z.1), some (.int z.2)]) e4 rfl rfl hzi
          refine s_when (b := !zOk z zi) (et_is (et_and (et_test (ev_op (ev_var rfl) n1 rv_I0)) fun _ => et_test (ev_op n0 (ev_var rfl) rv_I0)) (by unfold zOk; rw [Bool.not_not])) (fun hb H5 e5 => ?_) (fun hb H5 e5 => ?_)
          · refine s_ret ev_c fun H6 e6 => ?_
            have : s.isLin = false := by
              rw [isl]
              apply decide_eq_false
              intro hpw
              have h1 := List.pairwise_iff_getElem.mp hpw n i (by omega) hi hn
              rw [← (List.getElem?_eq_some_iff.mp hzn).2, ← (List.getElem?_eq_some_iff.mp hzi).2] at hb
              rw [h1] at hb
              cases hb
            rw [this] at k
            exact k _ (e1.trans (e2.trans (e4.trans (e5.trans e6))))
          · refine ⟨_, _, rfl, e4.trans e5, e5 _ _ hq, fun j hj x y hx hy => ?_⟩
            rcases Nat.lt_or_ge j n with hjn | hjn
            · exact hr4 j hjn x y hx hy
            · have : j = n := by omega
              subst this
              rw [hzn] at hx
              rw [hzi] at hy
              cases hx
              cases hy
              simpa using hb
      · rintro q σ H4 ⟨y3, y4, rfl, e4, _, hr4⟩
        rw [hcl] at hr4
        refine ⟨_, _, _, rfl, e4, fun a ha => ?_⟩
        rcases Nat.lt_or_ge a i with h | h
        · exact hrow a h
        · have : a = i := by omega
          subst this
          exact hr4
    · rintro σ H3 ⟨x2, x3, x4, rfl, e3, hrow⟩
      refine s_ret ev_c fun H4 e4 => ?_
      have : s.isLin = true := by
        rw [isl]
        apply decide_eq_true
        refine List.pairwise_iff_getElem.mpr fun i j hi hj hij => ?_
        exact hrow j (by simpa using hj) i hij _ _ (List.getElem?_eq_getElem hi) (List.getElem?_eq_getElem hj)
      rw [this] at k
      exact k _ (e1.trans (e2.trans (e3.trans e4)))
end
end K10
end
section
set_option Elab.async false
set_option linter.all false
set_option maxRecDepth 100000
set_option maxHeartbeats 4000000
namespace K10
open PySem PySem.Spec PyProof.Rows L2 Evl
def Pr.str : Pr → Str
  | .ending => "ending" | .filled => "filled" | .forward => "forward" | .fresh => "fresh" | .linear => "linear" | .mended => "mended" | .moving => "moving" | .quiet => "quiet" | .rest => "rest" | .single => "single"
theorem p_is (p q : Pr) {z : Str} (hz : z = q.str) : decide (V.str p.str = V.str z) = decide (p = q) := by
  subst hz
  cases p <;> cases q <;> decide +kernel
section
variable {P : Program} {w : World} {base h0 : Heap} {K : PySem.W.Frag} {mg : Str → Option Value}
def spBroken (K : PySem.W.Frag) : Sp := fun vs H Q _ => ∃ (da wa : Addr) (L : Lay) (s : S) (p : Pr), vs = [.ref da, .ref wa, .str p.str, .ref L.p] ∧ SqT K H da (desV s.cfg) ∧ SqT K H wa (worV s.cfg) ∧ RunAt K H L s ∧ CheckOk s ∧ RetV (.bl (s.broken p)) H Q
theorem goV_gos {L : Lay} {s : S} {j : Nat} {x : V} (h : (goV L s)[j]? = some x) : ∃ i, i < s.ops.length ∧ (s.at i).going = true ∧ x = .ref (L.opA i) ∧ (gos s).getD j 0 = i ∧ s.ops[i]? = some (s.at i) := by
  obtain ⟨i, h1, h2, h3, h4⟩ := goV_at h
  exact ⟨i, h1, h2, h3, by rw [show (gos s).getD j 0 = ((gos s)[j]?).getD 0 from List.getD_eq_getElem?_getD ..]; unfold gos; rw [h4] <;> rfl, ops_at h1⟩
theorem ev_anyGo (T : Txt h0 K mg) {H : Hp} {L : Lay} {s : S} {σ : L2.St} {p : Addr} {j : Nat} {vs : List Nat} {elt tl : TE} (R : RunAt K H L s) (hl : s.ops.length ≤ 1000) (hp : H p = some (.lst (goV L s))) (q : Op → Bool) (h : Ev tl σ H (.ref p)) (hw : ∀ x, wipe ((wipe σ vs).set j (some x)) vs = wipe σ vs)
    (he : ∀ i t H1, L.os[i]? = some t → s.ops[i]? = some (s.at i) → (s.at i).going = true → RunAt K H1 L s → Ev elt ((wipe σ vs).set j (some (.ref t.1))) H1 (.bl (q (s.at i)))) :
    Ev (tCB (rAny K) (tCons (tLc (iList K tl) (gName j) tYes elt vs) tNil)) σ H (.bl (s.ops.any fun o => o.going && q o)) := by
  refine ev_is (ev_anyN (bs := ((List.range s.ops.length).filter fun i => (s.at i).going).map fun i => q (s.at i)) (EvL.is ?_ (List.map_map (f := fun i => q (s.at i)) (g := V.bl)).symm)) (by rw [any_going (p := q)])
  refine EvL.is (el_lcL (xs := goV L s) (fun _ => true) (fun k => V.bl (q (s.at (((List.range s.ops.length).filter fun i => (s.at i).going).getD k 0)))) h (sq_of hp) (by have := goV_len L s; omega) hw (fun i x H1 e hx => et_yes) (fun i x H1 e hx hg => ?_)) (goV_map fun i => V.bl (q (s.at i)))
  obtain ⟨k, h1, h2, rfl, h4, h5⟩ := goV_gos hx
  obtain ⟨t, ht, et⟩ := R.os_at h1
  have h4 : ((List.range s.ops.length).filter fun i => (s.at i).going).getD i 0 = k := h4
  rw [et, h4]
  exact he k t _ ht h5 h2 (R.mono e)
theorem gos_empty {L : Lay} {s : S} : (goV L s).isEmpty = (gos s).isEmpty := by
  unfold goV given gos
  rw [List.isEmpty_map]
theorem pr2 (p : Pr) : inV (V.str p.str) [V.str "forward", V.str "fresh"] = (decide (p = .forward) || decide (p = .fresh)) := by
  cases p <;> decide +kernel
theorem st2 (w : Wd) : inV (V.str w.str) [V.str "fetch", V.str "fill"] = (decide (w = .fetch) || decide (w = .fill)) := by
  cases w <;> decide +kernel
theorem ev_lenGo (T : Txt h0 K mg) {H : Hp} {L : Lay} {s : S} {σ : L2.St} {p : Addr} {j : Nat} {vs : List Nat} {t : TT} {elt tl : TE} (R : RunAt K H L s) (hl : s.ops.length ≤ 1000) (hp : H p = some (.lst (goV L s))) (q : Op → Bool) (h : Ev tl σ H (.ref p)) (hw : ∀ x, wipe ((wipe σ vs).set j (some x)) vs = wipe σ vs)
    (ht : ∀ i r H1, L.os[i]? = some r → s.ops[i]? = some (s.at i) → (s.at i).going = true → RunAt K H1 L s → EvT t ((wipe σ vs).set j (some (.ref r.1))) H1 (q (s.at i)))
    (he : ∀ x H1, Ev elt ((wipe σ vs).set j (some x)) H1 x) :
    Ev (tCB (rLenS K) (tCons (tLc (iList K tl) (gName j) t elt vs) tNil)) σ H (.int (((s.ops.filter fun o => o.going && q o).length : Nat) : Int)) := by
  have hlen : (goV L s).length = (gos s).length := by unfold goV gos given; rw [List.length_map]
  refine ev_is (ev_lenN (el_lcL (xs := goV L s) (fun k => q (s.at ((gos s).getD k 0))) (fun k => V.ref (L.opA ((gos s).getD k 0))) h (sq_of hp) (by have := goV_len L s; omega) hw (fun i x H1 e hx => ?_) (fun i x H1 e hx hg => ?_))) ?_
  · obtain ⟨k, h1, h2, rfl, h4, h5⟩ := goV_gos hx
    obtain ⟨r, hr, er⟩ := R.os_at h1
    rw [h4, er]
    exact ht k r _ hr h5 h2 (R.mono e)
  · obtain ⟨k, h1, h2, rfl, h4, h5⟩ := goV_gos hx
    rw [h4]
    exact he _ _
  · unfold given
    rw [List.length_map, hlen]
    congr 2
    rw [filter_getD (gos s) 0 fun k => q (s.at k)]
    unfold gos
    rw [List.filter_filter, ← filter_getD s.ops default fun o => o.going && q o]
    congr 2
    funext i
    exact Bool.and_comm ..
theorem sc_is_broken_by : FnScope ["design", "world", "promise", "run", "last", "some", "one"] ["design", "world", "promise", "run"] (defScope s_is_broken_by) := ⟨rfl, rfl, rfl, by decide +kernel, rfl, by decide +kernel, by decide +kernel⟩
theorem ok_is_broken_by (T : Txt h0 K mg) : FnOk P w K mg base CX0 12 (He.ga K "is_broken_by") (fdOf K (He.ga K "is_broken_by")) ["design", "world", "promise", "run"] (spBroken K) := by
  refine FnOk.mono (j := 12) ((T.fn_is_broken_by).ok sc_is_broken_by (fun vs H Q E h => ?_) (fun cdv A outer st0 H vs Q E hr h => ?_)) (by decide)
  · obtain ⟨da, wa, L, s, p, rfl, _⟩ := h
    rfl
  · obtain ⟨da, wa, L, s, p, rfl, hD, hW, R, C, k⟩ := h
    refine ⟨_, PSs.nox ((pss_cons (ps_set (i := 4) sc_is_broken_by.nd rfl (Or.inl rfl) (pe_fldK K (pv 3)))
      (pss_cons (ps_if (pt_cmpR op_eq (pv 2) pe_str (nomark _)) (pss_one (ps_ret (pe_not (pe_call (ok_is_linear T) (hr.mono (by decide)) rfl T.g_is_linear T.k_is_linear T.b_is_linear .nil pass0 (pa_cons (pv 3) pa_nil))))) pss_nil)
      (pss_cons (ps_if (pt_cmpR (op_inK K) (pv 2) (pe_tup (pa_cons pe_str (pa_cons pe_str pa_nil))) rfl) (pss_one (ps_ret (pe_and (pe_cmp (pc_notN (pv 4))) (pe_one (pe_cmpR op_lt (pe_fldK K (pv 4)) (pe_ix (ix_tupK K) (pe_fldK K (pv 4)) (pe_callTy call_int1S (by rfl) T.f_int (by decide +kernel) (pa_cons (pe_cmpR op_eq (pv 2) pe_str (nomark _)) pa_nil)) (fun _ _ => rfl)) (nomark _)))))) pss_nil)
      (pss_cons (ps_if (pt_cmpR op_eq (pv 2) pe_str (nomark _)) (pss_one (ps_ret (pe_and (pe_cmp (pc_notN (pv 4))) (pe_and (pe_fldK K (pv 4)) (pe_one (pe_cmpR op_lt (pe_fldK K (pv 4)) (pe_fldK K (pv 3)) (nomark _))))))) pss_nil)
      (pss_cons (ps_set (i := 5) sc_is_broken_by.nd rfl (Or.inl rfl) (pe_meth0 (pv 3) T.cl_Run T.m_Run_under_way (ok_Run_under_way T) (hr.mono (by decide)) T.b_Run_under_way .nil pass0))
      (pss_cons (ps_if (pt_cmpR op_eq (pv 2) pe_str (nomark _)) (pss_one (ps_ret (pe_callB (cr_anyK K) (by rfl) T.f_any (by decide +kernel) (pa_cons (pe_lc (own := [("one", 6)]) (g := (gName 6)) (tt := tYes) rfl sc_is_broken_by.nd (pi_listK K (pv 5)) (blkOk_by (N := ["design", "world", "promise", "run", "last", "some", "one"]) (sc := defScope s_is_broken_by) (by decide +kernel)) (fun _ _ _ _ _ => (pg_name (i := 6) sc_is_broken_by.nd rfl (Or.inl rfl))) (fun _ _ _ _ _ => pts_nil) (fun _ _ _ _ _ => (pe_cmp (pc_isN (pe_meth (pv 3) T.cl_Run T.m_Run_next_step (ok_Run_next_step T) (hr.mono (by decide)) T.b_Run_next_step .nil pass0 (pa_cons (pv 6) pa_nil)))))) pa_nil)))) pss_nil)
      (pss_cons (ps_if (pt_cmpR op_eq (pv 2) pe_str (nomark _)) (pss_one (ps_ret (pe_callB (cr_anyK K) (by rfl) T.f_any (by decide +kernel) (pa_cons (pe_lc (own := [("one", 6)]) (g := (gName 6)) (tt := tYes) rfl sc_is_broken_by.nd (pi_listK K (pv 5)) (blkOk_by (N := ["design", "world", "promise", "run", "last", "some", "one"]) (sc := defScope s_is_broken_by) (by decide +kernel)) (fun _ _ _ _ _ => (pg_name (i := 6) sc_is_broken_by.nd rfl (Or.inl rfl))) (fun _ _ _ _ _ => pts_nil) (fun _ _ _ _ _ => (pe_and (pe_cmpR op_eq (pe_fldK K (pv 6)) pe_str (nomark _)) (pe_one (pe_cmpR op_eq (pe_fldK K (pe_ix (ix_listK K) (pe_fldK K (pv 3)) (pe_fldK K (pv 6)) (fun _ _ => rfl))) pe_str (nomark _)))))) pa_nil)))) pss_nil)
      (pss_cons (ps_if (pt_cmpR op_eq (pv 2) pe_str (nomark _)) (pss_one (ps_ret (pe_cmpR op_gt (pe_callB (call_lenK K) (by rfl) T.f_len (by decide +kernel) (pa_cons (pe_lc (own := [("one", 6)]) (g := (gName 6)) rfl sc_is_broken_by.nd (pi_listK K (pv 5)) (blkOk_by (N := ["design", "world", "promise", "run", "last", "some", "one"]) (sc := defScope s_is_broken_by) (by decide +kernel)) (fun _ _ _ _ _ => (pg_name (i := 6) sc_is_broken_by.nd rfl (Or.inl rfl))) (fun _ _ _ _ _ => (pts_one (pt_cmpR (op_inK K) (pe_fldK K (pv 6)) (pe_tup (pa_cons pe_str (pa_cons pe_str pa_nil))) rfl))) (fun _ _ _ _ _ => (pv 6))) pa_nil)) pe_int (nomark _)))) pss_nil)
      (pss_cons (ps_if (pt_cmpR (op_neN K (Nat.lt_of_le_of_lt (Nat.le_add_right _ 64) hr.units)) (pv 5) (pe_lst pa_nil) (nomark _)) (pss_one (ps_ret pe_bl)) pss_nil)
      (pss_cons (ps_if (pt_cmpR op_eq (pv 2) pe_str (nomark _)) (pss_one (ps_ret (pe_call (ok_is_behind T) (hr.mono (by decide)) rfl T.g_is_behind T.k_is_behind T.b_is_behind .nil pass0 (pa_cons (pv 3) pa_nil)))) pss_nil)
      (pss_cons (ps_if (pt_cmpR op_eq (pv 2) pe_str (nomark _)) (pss_one (ps_ret (pe_call (ok_is_behind T) (hr.mono (by decide)) rfl T.g_is_behind T.k_is_behind T.b_is_behind .nil pass0 (pa_cons (pe_call (ok_behind_write T) (hr.mono (by decide)) rfl T.g_behind_write T.k_behind_write T.b_behind_write .nil pass0 (pa_cons (pv 0) (pa_cons (pv 1) (pa_cons (pv 3) pa_nil)))) pa_nil)))) pss_nil)
      (pss_one (ps_ret (pe_not (pe_call (ok_fills T) (hr.mono (by decide)) rfl T.g_fills T.k_fills T.b_fills .nil pass0 (pa_cons (pv 0) (pa_cons (pv 1) (pa_cons (pv 3) pa_nil))))))))))))))))))), ?_⟩
    have hops := C.again.ops
    have lastF : s.last ≠ none → ∃ i t v, s.lastOp = some (s.at i) ∧ L.os[i]? = some t ∧ s.ops[i]? = some (s.at i) ∧ lastV L s.last = .ref t.1 ∧ (s.at i).ver = some v := fun hn => by
      cases hs : s.last with
      | none => exact absurd hs hn
      | some i =>
        obtain ⟨hi, v, hv⟩ := C.last i hs
        obtain ⟨t, ht, et⟩ := R.os_at hi
        exact ⟨i, t, v, by unfold S.lastOp; rw [hs] <;> rfl, ht, ops_at hi, by show V.ref (L.opA i) = _; rw [et], hv⟩
    have lastN : s.last = none → s.lastOp = none := fun hn => by
      unfold S.lastOp
      rw [hn] <;> rfl
    have notLast : ∀ {σ : L2.St} {H' : Hp}, σ[4]? = some (some (lastV L s.last)) → Ev (tNotN (tVar 4)) σ H' (.bl (decide (s.last ≠ none))) := fun {σ H'} h4 => ev_is (ev_notN (ev_var h4)) (by cases s.last <;> rfl)
    refine q_asg (ev_runF T R T.n_Run_last (ev_var rfl)) fun H1 e1 => ?_
    have R1 := R.mono e1
    refine q_when (et_test (ev_op (ev_var rfl) ev_c (rv_eq rfl))) (fun hb H2 e2 => ?_) (fun hb H2 e2 => ?_)
    · rw [p_is p .linear (z := "linear") rfl] at hb
      have hb := of_decide_eq_true hb
      subst hb
      exact s_ret (ev_notV (ev_call (sp := spLinear K) (dvs := []) (vs := [.ref L.p]) (ea_cons (ev_var rfl) ea_nil) fun H3 e3 Q' q' E' => ⟨L, s, rfl, R1.mono (Ex.trans e2 e3), hops, C.zone, q'⟩)) fun H3 e3 => k _ (e1.trans (e2.trans e3))
    rw [p_is p .linear (z := "linear") rfl] at hb
    have n1 := of_decide_eq_false hb
    have R2 := R1.mono e2
    have e02 := e1.trans e2
    refine q_when (et_test (ev_inU (ev_var rfl) (eu_tup (ea_cons ev_c (ea_cons ev_c ea_nil)) (by show 2 ≤ 100000; decide)) rfl rfl)) (fun hb H3 e3 => ?_) (fun hb H3 e3 => ?_)
    · rw [pr2] at hb
      have R3 := R2.mono e3
      refine s_ret (v := .bl (s.broken p)) ?_ fun H4 e4 => k _ (e02.trans (e3.trans e4))
      by_cases hn : s.last = none
      · refine ev_is (ev_andV (b := false) (notLast rfl) fun z => absurd hn (of_decide_eq_true z)) ?_
        rw [decide_eq_false (fun z => z hn)]
        congr 1
        have hz : p = .forward ∨ p = .fresh := by simpa using hb
        rcases hz with rfl | rfl
        · show false = match s.lastOp with | none => false | some o => decide (o.ver.getD 0 < o.ret)
          rw [lastN hn]
        · show false = match s.lastOp with | none => false | some o => decide (o.ver.getD 0 < o.fin)
          rw [lastN hn]
      · obtain ⟨i, t, v, hi, ht, ho, hl, hv⟩ := lastF hn
        have vl : Ev (tVar 4) [some (.ref da), some (.ref wa), some (.str p.str), some (.ref L.p), some (lastV L s.last), none, none] H3 (.ref t.1) := ev_is (ev_var rfl) hl
        have flo : Ev (tFld K (tVar 4) "floors") [some (.ref da), some (.ref wa), some (.str p.str), some (.ref L.p), some (lastV L s.last), none, none] H3 (.ref t.2.2) := ev_opF T R3 ht ho T.n_Operation_floors vl
        have hfl := ((R3.op i t _ ht ho).2 : H3 t.2.2 = _)
        have hver := ev_opF T R3 ht ho T.n_Operation_version vl
        have hidx : ∀ H', Ev (tOp rEq (tVar 2) (tC (.str "forward"))) [some (.ref da), some (.ref wa), some (.str p.str), some (.ref L.p), some (lastV L s.last), none, none] H' (.bl (decide (p = .forward))) := fun H' => ev_is (ev_op (ev_var rfl) ev_c (rv_eq rfl)) (congrArg V.bl (p_is p .forward rfl))
        have hint : Ev (tCB rInt1 (tCons (tOp rEq (tVar 2) (tC (.str "forward"))) tNil)) [some (.ref da), some (.ref wa), some (.str p.str), some (.ref L.p), some (lastV L s.last), none, none] H3 (.int (if decide (p = .forward) then 1 else 0)) :=
          ev_cb (ea_cons (hidx _) ea_nil) fun H4 e4 Q' q' => .inr ⟨_, rfl, q' _ (Ex.refl _)⟩
        refine ev_is (ev_andV (b := s.broken p) (notLast rfl) fun _ => ?_) (by rw [decide_eq_true hn]; rfl)
        have hz : p = .forward ∨ p = .fresh := by simpa using hb
        rcases hz with rfl | rfl
        · refine ev_is (ev_op (ev_is hver (show oV (s.at i).ver = V.int v by rw [hv] <;> rfl)) (ev_op flo hint (rv_ixT (st_of hfl) rfl)) rv_I0) ?_
          congr 1
          show decide (v < (s.at i).ret) = match s.lastOp with | none => false | some o => decide (o.ver.getD 0 < o.ret)
          rw [hi]
          show _ = decide ((s.at i).ver.getD 0 < (s.at i).ret)
          rw [hv] <;> rfl
        · refine ev_is (ev_op (ev_is hver (show oV (s.at i).ver = V.int v by rw [hv] <;> rfl)) (ev_op flo hint (rv_ixT (st_of hfl) rfl)) rv_I0) ?_
          congr 1
          show decide (v < (s.at i).fin) = match s.lastOp with | none => false | some o => decide (o.ver.getD 0 < o.fin)
          rw [hi]
          show _ = decide ((s.at i).ver.getD 0 < (s.at i).fin)
          rw [hv] <;> rfl
    rw [pr2] at hb
    have n23 : p ≠ .forward ∧ p ≠ .fresh := by simpa using hb
    have R3 := R2.mono e3
    have e03 := e02.trans e3
    refine q_when (et_test (ev_op (ev_var rfl) ev_c (rv_eq rfl))) (fun hb H4 e4 => ?_) (fun hb H4 e4 => ?_)
    · rw [p_is p .quiet (z := "quiet") rfl] at hb
      have hb := of_decide_eq_true hb
      subst hb
      have R4 := R3.mono e4
      refine s_ret (v := .bl (s.broken .quiet)) ?_ fun H5 e5 => k _ (e03.trans (e4.trans e5))
      by_cases hn : s.last = none
      · refine ev_is (ev_andV (b := false) (notLast rfl) fun z => absurd hn (of_decide_eq_true z)) ?_
        rw [decide_eq_false (fun z => z hn)]
        congr 1
        show false = match s.lastOp with | none => false | some o => o.quiet && decide (o.ver.getD 0 < s.db)
        rw [lastN hn]
      · obtain ⟨i, t, v, hi, ht, ho, hl, hv⟩ := lastF hn
        have vl : Ev (tVar 4) [some (.ref da), some (.ref wa), some (.str Pr.quiet.str), some (.ref L.p), some (lastV L s.last), none, none] H4 (.ref t.1) := ev_is (ev_var rfl) hl
        refine ev_is (ev_andV (b := s.broken .quiet) (notLast rfl) fun _ => ?_) (by rw [decide_eq_true hn]; rfl)
        refine ev_is (ev_andV (ev_opF T R4 ht ho T.n_Operation_is_quiet vl) fun _ => ev_op (ev_is (ev_opF T R4 ht ho T.n_Operation_version vl) (show oV (s.at i).ver = V.int v by rw [hv] <;> rfl)) (ev_runF T R4 T.n_Run_database (ev_var rfl)) rv_I0) ?_
        congr 1
        show _ = match s.lastOp with | none => false | some o => o.quiet && decide (o.ver.getD 0 < s.db)
        rw [hi]
        show _ = ((s.at i).quiet && decide ((s.at i).ver.getD 0 < s.db))
        rw [hv] <;> rfl
    rw [p_is p .quiet (z := "quiet") rfl] at hb
    have n4 := of_decide_eq_false hb
    have R4 := R3.mono e4
    have e04 := e03.trans e4
    refine q_asgL (ev_goV T R4 (by omega) (ev_var rfl)) fun q H5 nq e5 hq => ?_
    have R5 := R4.mono e5
    have e05 := e04.trans e5
    refine q_when (et_test (ev_op (ev_var rfl) ev_c (rv_eq rfl))) (fun hb H6 e6 => ?_) (fun hb H6 e6 => ?_)
    · rw [p_is p .moving (z := "moving") rfl] at hb
      have hb := of_decide_eq_true hb
      subst hb
      refine s_ret (ev_anyGo T (R5.mono e6) (by omega) (e6 _ _ hq) (fun o => decide (s.nextW o = none)) (ev_var rfl) (fun _ => rfl) fun i t H7 ht ho hg R7 => ?_) fun H7 e7 => k _ (e05.trans (e6.trans e7))
      exact ev_is (ev_isN (ev_next R7 ht ho C.wait (ev_var rfl) (ev_var rfl))) (congrArg V.bl (by cases s.nextW (s.at i) <;> rfl))
    rw [p_is p .moving (z := "moving") rfl] at hb
    have n5 := of_decide_eq_false hb
    have R6 := R5.mono e6
    have e06 := e05.trans e6
    have hq6 := e6 _ _ hq
    refine q_when (et_test (ev_op (ev_var rfl) ev_c (rv_eq rfl))) (fun hb H7 e7 => ?_) (fun hb H7 e7 => ?_)
    · rw [p_is p .ending (z := "ending") rfl] at hb
      have hb := of_decide_eq_true hb
      subst hb
      refine s_ret (ev_anyGo T (R6.mono e7) (by omega) (e7 _ _ hq6) (fun o => s.isEnding o) (ev_var rfl) (fun _ => rfl) fun i t H7 ht ho hg R7 => ?_) fun H8 e8 => k _ (e06.trans (e7.trans e8))
      refine ev_andV (ev_stageEq T R7 ht ho (ev_var rfl) .waits) fun hw => ?_
      obtain ⟨j, o2, hj, ho2⟩ := C.wait i _ ho (of_decide_eq_true hw)
      obtain ⟨tj, htj, htj1, _⟩ := R7.at ho2
      have el : s.ldr (s.at i) = o2 := by
        unfold S.ldr
        rw [hj]
        exact at_of ho2
      rw [el]
      exact ev_stageEq T R7 htj ho2 (ev_op (ev_runF T R7 T.n_Run_operations (ev_var rfl)) (ev_opF T R7 ht ho T.n_Operation_leader (ev_var rfl)) (by rw [hj]; exact rv_ixL (sq_of R7.ol) (L2.at_of (j := j) rfl (by rw [List.getElem?_map, htj] <;> rfl)))) .stopped
    rw [p_is p .ending (z := "ending") rfl] at hb
    have n6 := of_decide_eq_false hb
    have R7 := R6.mono e7
    have e07 := e06.trans e7
    have hq7 := e7 _ _ hq6
    refine q_when (et_test (ev_op (ev_var rfl) ev_c (rv_eq rfl))) (fun hb H8 e8 => ?_) (fun hb H8 e8 => ?_)
    · rw [p_is p .single (z := "single") rfl] at hb
      have hb := of_decide_eq_true hb
      subst hb
      refine s_ret (ev_is (ev_op (ev_lenGo T (R7.mono e8) (by omega) (e8 _ _ hq7) (fun o => o.inFetch) (ev_var rfl) (fun _ => rfl) (fun i t H9 ht ho hg R9 => ?_) fun x H9 => ev_var rfl) ev_c rv_I0) ?_) fun H9 e9 => k _ (e07.trans (e8.trans e9))
      · exact et_is (et_test (ev_inU (ev_opF T R9 ht ho T.n_Operation_stage (ev_var rfl)) (eu_tup (ea_cons ev_c (ea_cons ev_c ea_nil)) (by show 2 ≤ 100000; decide)) rfl rfl)) (st2 _)
      · congr 1
        apply decide_eq_decide.mpr
        omega
    rw [p_is p .single (z := "single") rfl] at hb
    have n7 := of_decide_eq_false hb
    have R8 := R7.mono e8
    have e08 := e07.trans e8
    have hq8 := e8 _ _ hq7
    refine q_when (b := !(gos s).isEmpty) (et_test (ev_opL (ev_var rfl) (el_lst ea_nil (by decide)) fun r H9 hr9 e9 => fun H10 e10 Q' q' => ⟨q, r, goV L s, rfl, rfl, sq_of (e10 _ _ (e9 _ _ hq8)), sq_of (e10 _ _ hr9), by rw [gos_empty]; exact q' _ (Ex.refl _)⟩)) (fun hb H9 e9 => ?_) (fun hb H9 e9 => ?_)
    · refine s_ret ev_c fun H10 e10 => ?_
      have he : (gos s).isEmpty = false := by simpa using hb
      have : s.broken p = false := by
        cases p <;> first | exact absurd rfl n1 | exact absurd rfl n23.1 | exact absurd rfl n23.2 | exact absurd rfl n4 | exact absurd rfl n5 | exact absurd rfl n6 | exact absurd rfl n7 | (show ((gos s).isEmpty && _) = false; rw [he] <;> rfl)
      rw [this] at k
      exact k _ (e08.trans (e9.trans e10))
    have he : (gos s).isEmpty = true := by simpa using hb
    have R9 := R8.mono e9
    have e09 := e08.trans e9
    refine q_when (et_test (ev_op (ev_var rfl) ev_c (rv_eq rfl))) (fun hb H10 e10 => ?_) (fun hb H10 e10 => ?_)
    · rw [p_is p .rest (z := "rest") rfl] at hb
      have hb := of_decide_eq_true hb
      subst hb
      have : s.broken .rest = s.behind := by
        show ((gos s).isEmpty && _) = _
        rw [he] <;> rfl
      rw [this] at k
      exact s_ret (ev_call (sp := spBehind K) (dvs := []) (vs := [.ref L.p]) (ea_cons (ev_var rfl) ea_nil) fun H11 e11 Q' q' E' => ⟨L, s, rfl, R9.mono (Ex.trans e10 e11), q'⟩) fun H11 e11 => k _ (e09.trans (e10.trans e11))
    rw [p_is p .rest (z := "rest") rfl] at hb
    have n8 := of_decide_eq_false hb
    have R10 := R9.mono e10
    have e010 := e09.trans e10
    refine q_when (et_test (ev_op (ev_var rfl) ev_c (rv_eq rfl))) (fun hb H11 e11 => ?_) (fun hb H11 e11 => ?_)
    · rw [p_is p .mended (z := "mended") rfl] at hb
      have hb := of_decide_eq_true hb
      subst hb
      have : s.broken .mended = s.aloneW.behind := by
        show ((gos s).isEmpty && _) = _
        rw [he] <;> rfl
      rw [this] at k
      show tCall (spBehindW K) [] E0 (tCons (tVar 0) (tCons (tVar 1) (tCons (tVar 3) tNil))) _ _ (fun v H1 => spBehind K [v] H1 Q E0)
      refine e_call (vs := [.ref da, .ref wa, .ref L.p]) (ea_cons (ev_var rfl) (ea_cons (ev_var rfl) (ea_cons (ev_var rfl) ea_nil))) fun H12 e12 => ⟨da, wa, L, s, rfl, ex_t (e010.trans (Ex.trans e11 e12)) hD, ex_t (e010.trans (Ex.trans e11 e12)) hW, R10.mono (Ex.trans e11 e12), C.again, C.alone, fun L' H' R' o' e' => ?_⟩
      exact ⟨L', _, rfl, R', fun H13 e13 => k _ (e010.trans (Ex.trans e11 (Ex.trans e12 (Ex.trans e' e13))))⟩
    rw [p_is p .mended (z := "mended") rfl] at hb
    have n9 := of_decide_eq_false hb
    have hp : p = .filled := by
      cases p <;> first | rfl | exact absurd rfl n1 | exact absurd rfl n23.1 | exact absurd rfl n23.2 | exact absurd rfl n4 | exact absurd rfl n5 | exact absurd rfl n6 | exact absurd rfl n7 | exact absurd rfl n8 | exact absurd rfl n9
    subst hp
    have : s.broken .filled = !s.fills := by
      show ((gos s).isEmpty && _) = _
      rw [he] <;> rfl
    rw [this] at k
    have R11 := R10.mono e11
    have e011 := e010.trans e11
    exact s_ret (ev_notV (ev_call (sp := spFills K) (dvs := []) (vs := [.ref da, .ref wa, .ref L.p]) (ea_cons (ev_var rfl) (ea_cons (ev_var rfl) (ea_cons (ev_var rfl) ea_nil))) fun H12 e12 Q' q' E' => ⟨da, wa, L, s, rfl, ex_t (e011.trans e12) hD, ex_t (e011.trans e12) hW, R11.mono e12, C.again, C.look, C.go, q'⟩)) fun H12 e12 => k _ (e011.trans e12)
end
end K10
end
section
set_option Elab.async false
set_option linter.all false
set_option maxRecDepth 100000
set_option maxHeartbeats 4000000
namespace K10
open PySem PySem.Spec PyProof.Rows L2 Evl
def figs : List Nat := ("0123456789" : Str).cps.toList
def digitsB (w : Str) : Bool := w.cps.toList.all fun c => decide (c ∈ figs)
def numIn (w : Str) : Option V :=
  if !(decide (w.length = 1) || decide (w.length = 2)) || !digitsB w then some .non
  else if decide (w.length = 2) && decide (w.cps.toList.head? = some 48) then some .non
  else (PySem.intText? w).map V.int
def stepL : List Str := ["drop", "fetch", "fill", "look", "set", "stop", "store", "take"]
def evIn (z : Str) : Option (Option (List V)) :=
  if z = "evict" ∨ z = "copy" then some (some [.str z])
  else match numIn (Txt.partition z " ").2.2 with
    | none => none
    | some n => some (if (Txt.partition z " ").1 ∈ stepL ∧ n ≠ .non then some [.str (Txt.partition z " ").1, n] else none)
def evTxt (e : Evt) : Str := match e with
  | .evict => "evict"
  | .copy => "copy"
  | .op w n => Txt.join " " [w.str, toString (n : Int)]
theorem tyx_sqt {K : PySem.W.Frag} {H : Hp} {a : Addr} {xs : List V} (h : SqT K H a xs) : TyX K H (.ref a) (.type "tuple") := by
  rcases h with h | ⟨o, its, n, h1, h2, _⟩
  · rcases h with h | ⟨o, h⟩
    · exact .base (.tup h)
    · exact .fTuple h
  · exact .kTuple h1 h2
section
variable {K : PySem.W.Frag} {σ : L2.St} {H : Hp} {ta tb tc : TE} {tr : TA} {x : V} {t : Value}
theorem ev_isi {n : String} {b : Bool} (ha : EvA tr σ H [x, .ty n]) (ty : ∀ H1, Ex H H1 → TyX K H1 x t) (kit : PySem.W.kitOne K t (.type n) = some b) : Ev (tCB (rIsi K) tr) σ H (.bl b) :=
  ev_cb ha fun H1 e Q q => ⟨x, .ty n, t, .type n, b, rfl, .ty n, ty H1 e, kit, q H1 (Ex.refl _)⟩
theorem ev_le3 {i j k : Int} (ha : Ev ta σ H (.int i)) (hb : Ev tb σ H (.int j)) (hc : Ev tc σ H (.int k)) (h1 : i ≤ j) (h2 : j ≤ k) : Ev (tChain (rI0 fun i j => V.bl (decide (i ≤ j))) (rI0 fun i j => V.bl (decide (i ≤ j))) ta tb tc) σ H (.bl true) := fun H1 e Q q =>
  ha H1 e _ fun H2 e2 => hb H2 (e.trans e2) _ fun H3 e3 => ⟨i, j, rfl, rfl, true, by show V.bl (decide (i ≤ j)) = V.bl true; rw [decide_eq_true h1], by
    rw [if_pos rfl]
    exact hc H3 ((e.trans e2).trans e3) _ fun H4 e4 => ⟨j, k, rfl, rfl, by
      show Q (V.bl (decide (j ≤ k))) H4
      rw [decide_eq_true h2]
      exact q H4 (e2.trans (e3.trans e4))⟩⟩
end
section
variable {P : Program} {w : World} {base h0 : Heap} {K : PySem.W.Frag} {mg : Str → Option Value}
def spIsList (K : PySem.W.Frag) : Sp := fun vs H Q _ => ∃ (a : Addr) (xs : List V), vs = [.ref a, .int (xs.length : Int), .int (xs.length : Int)] ∧ SqT K H a xs ∧ RetV (.bl true) H Q
theorem sc_is_list : FnScope ["value", "least", "most"] ["value", "least", "most"] (defScope s_is_list) := ⟨rfl, rfl, rfl, by decide +kernel, rfl, by decide +kernel, by decide +kernel⟩
theorem ok_is_list (T : Txt h0 K mg) : FnOk P w K mg base CX0 1 (He.ga K "is_list") (fdOf K (He.ga K "is_list")) ["value", "least", "most"] (spIsList K) := by
  refine FnOk.mono (j := 1) ((T.fn_is_list).ok sc_is_list (fun vs H Q E h => ?_) (fun cdv A outer st0 H vs Q E hr h => ?_)) (by decide)
  · obtain ⟨a, xs, rfl, _⟩ := h
    rfl
  · obtain ⟨a, xs, rfl, hx, k⟩ := h
    refine ⟨_, PSs.nox ((pss_one (ps_ret (pe_and (pe_callB (call_isiK' K) (by rfl) T.f_isinstance (by decide +kernel) (pa_cons (pv 0) (pa_cons (pe_bltn (v := .ty "tuple") rfl T.f_tuple (by decide +kernel) rfl) pa_nil))) (pe_one (pe_chain op_le op_le (pv 1) (pe_callB (call_lenK K) (by rfl) T.f_len (by decide +kernel) (pa_cons (pv 0) pa_nil)) (pv 2))))))), ?_⟩
    exact s_ret (ev_andV (ev_isi (ea_cons (ev_var rfl) (ea_cons ev_c ea_nil)) (fun H1 e => tyx_sqt (ex_t e hx)) (kit_ty (r := true) (by decide +kernel))) fun _ => ev_le3 (ev_var rfl) (ev_lenT (ev_var rfl) hx) (ev_var rfl) (Int.le_refl _) (Int.le_refl _)) k
def OptAt (K : PySem.W.Frag) (H : Hp) (z : Str) (o : V) : Prop := ∃ p ys, o = .ref p ∧ SqT K H p ys ∧ ys.all flatV = true ∧ inV (.str z) ys = true
theorem OptAt.mono {H H' : Hp} {z : Str} {o : V} (h : OptAt K H z o) (e : Ex H H') : OptAt K H' z o := by
  obtain ⟨p, ys, h1, h2, h3, h4⟩ := h
  exact ⟨p, ys, h1, ex_t e h2, h3, h4⟩
theorem paired_at2 {α β : Type} {F : α → β → Prop} : ∀ {as : List α} {bs : List β} {i : Nat} {a : α} {b : β}, Paired F as bs → as[i]? = some a → bs[i]? = some b → F a b
  | _, _, i, a, b, .nil, h, _ => by simp at h
  | _, _, 0, a, b, .cons h r, ha, hb => by
    simp at ha hb
    subst ha hb
    exact h
  | _, _, i + 1, a, b, .cons h r, ha, hb => by
    simp at ha hb
    exact paired_at2 r ha hb
def spChoice (K : PySem.W.Frag) : Sp := fun vs H Q _ => ∃ (a b : Addr) (zs : List Str) (os : List V), vs = [.ref a, .ref b] ∧ SqT K H a (zs.map V.str) ∧ SqT K H b os ∧ Paired (OptAt K H) zs os ∧ zs.length ≤ 1000 ∧ RetV (.bl true) H Q
theorem all_true_range {n : Nat} : ((List.range n).map fun _ => true).all id = true := by
  rw [List.all_eq_true]
  intro b hb
  obtain ⟨_, _, rfl⟩ := List.mem_map.mp hb
  rfl
theorem sc_is_choice : FnScope ["value", "options", "one", "some"] ["value", "options"] (defScope s_is_choice) := ⟨rfl, rfl, rfl, by decide +kernel, rfl, by decide +kernel, by decide +kernel⟩
theorem ok_is_choice (T : Txt h0 K mg) : FnOk P w K mg base CX0 2 (He.ga K "is_choice") (fdOf K (He.ga K "is_choice")) ["value", "options"] (spChoice K) := by
  refine FnOk.mono (j := 2) ((T.fn_is_choice).ok sc_is_choice (fun vs H Q E h => ?_) (fun cdv A outer st0 H vs Q E hr h => ?_)) (by decide)
  · obtain ⟨a, b, zs, os, rfl, _⟩ := h
    rfl
  · obtain ⟨a, b, zs, os, rfl, hx, ho, hp, hl, k⟩ := h
    refine ⟨_, PSs.nox ((pss_cons (ps_if (PW.pt (pw_or (pt_not (pt_val (pe_call (ok_is_list T) (hr.mono (by decide)) rfl T.g_is_list T.k_is_list T.b_is_list .nil pass0 (pa_cons (pv 0) (pa_cons (pe_callB (call_lenK K) (by rfl) T.f_len (by decide +kernel) (pa_cons (pv 1) pa_nil)) (pa_cons (pe_callB (call_lenK K) (by rfl) T.f_len (by decide +kernel) (pa_cons (pv 1) pa_nil)) pa_nil)))))) (pw_or1 (pt_not (pt_val (pe_callB (cr_allK K) (by rfl) T.f_all (by decide +kernel) (pa_cons (pe_lc (own := [("one", 2)]) (g := (gName 2)) (tt := tYes) rfl sc_is_choice.nd ((pi_tupK K) (pv 0)) (blkOk_by (N := ["value", "options", "one", "some"]) (sc := defScope s_is_choice) (by decide +kernel)) (fun _ _ _ _ _ => (pg_name (i := 2) sc_is_choice.nd rfl (Or.inl rfl))) (fun _ _ _ _ _ => pts_nil) (fun _ _ _ _ _ => (pe_callB (call_isiK' K) (by rfl) T.f_isinstance (by decide +kernel) (pa_cons (pv 2) (pa_cons (pe_bltn (v := .ty "str") rfl T.f_str (by decide +kernel) rfl) pa_nil))))) pa_nil))))))) (pss_one (ps_ret pe_bl)) pss_nil)
      (pss_one (ps_ret (pe_callB (cr_allK K) (by rfl) T.f_all (by decide +kernel) (pa_cons (pe_lc (own := [("one", 2), ("some", 3)]) (g := (gTup K 2 (gCons (gName 2) (gCons (gName 3) gNil)))) (tt := tYes) rfl sc_is_choice.nd (RZ.pi_zipA rfl T.f_zip (pa_cons (pv 0) (pa_cons (pv 1) pa_nil))) (blkOk_by (N := ["value", "options", "one", "some"]) (sc := defScope s_is_choice) (by decide +kernel)) (fun _ _ _ _ _ => (pg_tupK K (pgs_cons (pg_name (i := 2) sc_is_choice.nd rfl (Or.inl rfl)) (pgs_cons (pg_name (i := 3) sc_is_choice.nd rfl (Or.inl rfl)) pgs_nil)))) (fun _ _ _ _ _ => pts_nil) (fun _ _ _ _ _ => (pe_cmpR (op_inK K) (pv 2) (pv 3) rfl))) pa_nil)))))), ?_⟩
    have hlen : zs.length = os.length := paired_len hp
    refine q_when (b := false) ?_ (fun z => by cases z) fun _ H1 e1 => ?_
    · refine et_is (et_or (a := false) (b := false) (et_is (et_not (et_test (ev_call (sp := spIsList K) (dvs := []) (vs := [.ref a, .int (os.length : Int), .int (os.length : Int)]) (ea_cons (ev_var rfl) (ea_cons (ev_lenT (ev_var rfl) ho) (ea_cons (ev_lenT (ev_var rfl) ho) ea_nil))) fun H1 e1 Q' q' E' => ⟨a, zs.map V.str, by rw [List.length_map, hlen] <;> rfl, ex_t e1 hx, q'⟩))) rfl) fun _ => ?_) rfl
      refine et_is (et_not (et_test (ev_allN (bs := (List.range zs.length).map fun _ => true) (EvL.is (el_lcT (xs := zs.map V.str) (fun _ => true) (fun _ => V.bl true) (ev_var rfl) hx (by rw [List.length_map]; omega) (fun _ => rfl) (fun i x H1 e hx => et_yes) (fun i x H1 e hx _ => ?_)) ?_)))) ?_
      · rw [List.getElem?_map] at hx
        cases hz : zs[i]? with
        | none =>
          rw [hz] at hx
          cases hx
        | some z =>
          rw [hz] at hx
          cases hx
          exact ev_isi (t := .type "str") (ea_cons (ev_var rfl) (ea_cons ev_c ea_nil)) (fun H2 e2 => .base (.str z)) (kit_ty (r := true) (by decide +kernel))
      · rw [given_all, List.length_map, List.map_map]
        rfl
      · rw [all_true_range] <;> rfl
    · refine s_ret (v := .bl true) (ev_is (ev_allN (bs := (List.range zs.length).map fun _ => true) (EvL.is (el_lcZ (a := a) (b := b) (xs := zs.map V.str) (ys := os) (fun _ => true) (fun _ => V.bl true) (ea_cons (ev_var rfl) (ea_cons (ev_var rfl) ea_nil)) (ex_t e1 hx) (ex_t e1 ho) (by rw [List.length_map, hlen]) (by rw [List.length_map]; omega) (fun _ _ => rfl) (fun i x y H1 e hx hy => et_yes) (fun i x y H2 e2 hx hy _ => ?_)) ?_)) (congrArg V.bl all_true_range)) fun H2 e2 => k _ (e1.trans e2)
      · rw [List.getElem?_map] at hx
        cases hz : zs[i]? with
        | none =>
          rw [hz] at hx
          cases hx
        | some z =>
          rw [hz] at hx
          cases hx
          obtain ⟨p, ys, rfl, h2, h3, h4⟩ := (paired_at2 hp hz hy).mono (e1.trans e2)
          exact ev_is (ev_op (ev_var rfl) (ev_var rfl) (rv_isT h2 rfl h3)) (by rw [h4])
      · rw [given_all, List.length_map, List.map_map]
        rfl
theorem des_opts (T : Txt h0 K mg) (c : Cfg) (H : Hp) : Paired (OptAt K H) [c.path.str, c.guard.str, fliS c.shared] [V.ref (He.ga K "PATHS"), V.ref (He.ga K "GUARDS"), V.ref (He.ga K "FLIGHTS")] :=
  .cons ⟨_, _, rfl, T.t_PATHS H, rfl, by cases c.path <;> decide +kernel⟩ (.cons ⟨_, _, rfl, T.t_GUARDS H, rfl, by cases c.guard <;> decide +kernel⟩ (.cons ⟨_, _, rfl, T.t_FLIGHTS H, rfl, by cases c.shared <;> decide +kernel⟩ .nil))
theorem wor_opts (T : Txt h0 K mg) (c : Cfg) (H : Hp) : Paired (OptAt K H) [srcS c.repl, eviS c.evic, stoS c.stops] [V.ref (itA "WORLDS" 0 K), V.ref (itA "WORLDS" 1 K), V.ref (itA "WORLDS" 2 K)] :=
  .cons ⟨_, _, rfl, T.t_W0 H, rfl, by cases c.repl <;> decide +kernel⟩ (.cons ⟨_, _, rfl, T.t_W1 H, rfl, by cases c.evic <;> decide +kernel⟩ (.cons ⟨_, _, rfl, T.t_W2 H, rfl, by cases c.stops <;> decide +kernel⟩ .nil))
def spIsDes (K : PySem.W.Frag) : Sp := fun vs H Q _ => ∃ (a : Addr) (c : Cfg), vs = [.ref a] ∧ SqT K H a (desV c) ∧ RetV (.bl true) H Q
def spIsWor (K : PySem.W.Frag) : Sp := fun vs H Q _ => ∃ (a : Addr) (c : Cfg), vs = [.ref a] ∧ SqT K H a (worV c) ∧ RetV (.bl true) H Q
def spNeedDes (K : PySem.W.Frag) : Sp := fun vs H Q _ => ∃ (a : Addr) (c : Cfg), vs = [.ref a] ∧ SqT K H a (desV c) ∧ RetV .non H Q
def spNeedWor (K : PySem.W.Frag) : Sp := fun vs H Q _ => ∃ (a : Addr) (c : Cfg), vs = [.ref a] ∧ SqT K H a (worV c) ∧ RetV .non H Q
def spNeedBoth (K : PySem.W.Frag) : Sp := fun vs H Q _ => ∃ (a b : Addr) (c : Cfg), vs = [.ref a, .ref b] ∧ SqT K H a (desV c) ∧ SqT K H b (worV c) ∧ RetV .non H Q
theorem sc_is_design : FnScope ["value"] ["value"] (defScope s_is_design) := ⟨rfl, rfl, rfl, by decide +kernel, rfl, by decide +kernel, by decide +kernel⟩
theorem ok_is_design (T : Txt h0 K mg) : FnOk P w K mg base CX0 3 (He.ga K "is_design") (fdOf K (He.ga K "is_design")) ["value"] (spIsDes K) := by
  refine FnOk.mono (j := 3) ((T.fn_is_design).ok sc_is_design (fun vs H Q E h => ?_) (fun cdv A outer st0 H vs Q E hr h => ?_)) (by decide)
  · obtain ⟨a, c, rfl, _⟩ := h
    rfl
  · obtain ⟨a, c, rfl, hx, k⟩ := h
    refine ⟨_, PSs.nox ((pss_one (ps_ret (pe_call (ok_is_choice T) (hr.mono (by decide)) rfl T.g_is_choice T.k_is_choice T.b_is_choice .nil pass0 (pa_cons (pv 0) (pa_cons (pe_gref T.g_DESIGNS) pa_nil)))))), ?_⟩
    exact s_ret (ev_call (sp := spChoice K) (dvs := []) (vs := [.ref a, .ref (He.ga K "DESIGNS")]) (ea_cons (ev_var rfl) (ea_cons ev_c ea_nil)) fun H1 e1 Q' q' E' => ⟨a, _, [c.path.str, c.guard.str, fliS c.shared], _, rfl, ex_t e1 hx, T.t_DESIGNS H1, des_opts T c H1, by show 3 ≤ 1000; decide, q'⟩) k
theorem sc_is_world : FnScope ["value"] ["value"] (defScope s_is_world) := ⟨rfl, rfl, rfl, by decide +kernel, rfl, by decide +kernel, by decide +kernel⟩
theorem ok_is_world (T : Txt h0 K mg) : FnOk P w K mg base CX0 3 (He.ga K "is_world") (fdOf K (He.ga K "is_world")) ["value"] (spIsWor K) := by
  refine FnOk.mono (j := 3) ((T.fn_is_world).ok sc_is_world (fun vs H Q E h => ?_) (fun cdv A outer st0 H vs Q E hr h => ?_)) (by decide)
  · obtain ⟨a, c, rfl, _⟩ := h
    rfl
  · obtain ⟨a, c, rfl, hx, k⟩ := h
    refine ⟨_, PSs.nox ((pss_one (ps_ret (pe_call (ok_is_choice T) (hr.mono (by decide)) rfl T.g_is_choice T.k_is_choice T.b_is_choice .nil pass0 (pa_cons (pv 0) (pa_cons (pe_gref T.g_WORLDS) pa_nil)))))), ?_⟩
    exact s_ret (ev_call (sp := spChoice K) (dvs := []) (vs := [.ref a, .ref (He.ga K "WORLDS")]) (ea_cons (ev_var rfl) (ea_cons ev_c ea_nil)) fun H1 e1 Q' q' E' => ⟨a, _, [srcS c.repl, eviS c.evic, stoS c.stops], _, rfl, ex_t e1 hx, T.t_WORLDS H1, wor_opts T c H1, by show 3 ≤ 1000; decide, q'⟩) k
theorem sc_need_design : FnScope ["design"] ["design"] (defScope s_need_design) := ⟨rfl, rfl, rfl, by decide +kernel, rfl, by decide +kernel, by decide +kernel⟩
theorem ok_need_design (T : Txt h0 K mg) : FnOk P w K mg base CX0 4 (He.ga K "need_design") (fdOf K (He.ga K "need_design")) ["design"] (spNeedDes K) := by
  refine FnOk.mono (j := 4) ((T.fn_need_design).ok sc_need_design (fun vs H Q E h => ?_) (fun cdv A outer st0 H vs Q E hr h => ?_)) (by decide)
  · obtain ⟨a, c, rfl, _⟩ := h
    rfl
  · obtain ⟨a, c, rfl, hx, k⟩ := h
    refine ⟨_, PSs.nox ((pss_one (ps_if (pt_not (pt_val (pe_call (ok_is_design T) (hr.mono (by decide)) rfl T.g_is_design T.k_is_design T.b_is_design .nil pass0 (pa_cons (pv 0) pa_nil)))) (pss_one ps_never) pss_nil))), ?_⟩
    exact s_when (b := false) (et_is (et_not (et_test (ev_call (sp := spIsDes K) (dvs := []) (vs := [.ref a]) (ea_cons (ev_var rfl) ea_nil) fun H1 e1 Q' q' E' => ⟨a, c, rfl, ex_t e1 hx, q'⟩))) rfl) (fun z => by cases z) fun _ H1 e1 => k H1 e1
theorem sc_need_world : FnScope ["world"] ["world"] (defScope s_need_world) := ⟨rfl, rfl, rfl, by decide +kernel, rfl, by decide +kernel, by decide +kernel⟩
theorem ok_need_world (T : Txt h0 K mg) : FnOk P w K mg base CX0 4 (He.ga K "need_world") (fdOf K (He.ga K "need_world")) ["world"] (spNeedWor K) := by
  refine FnOk.mono (j := 4) ((T.fn_need_world).ok sc_need_world (fun vs H Q E h => ?_) (fun cdv A outer st0 H vs Q E hr h => ?_)) (by decide)
  · obtain ⟨a, c, rfl, _⟩ := h
    rfl
  · obtain ⟨a, c, rfl, hx, k⟩ := h
    refine ⟨_, PSs.nox ((pss_one (ps_if (pt_not (pt_val (pe_call (ok_is_world T) (hr.mono (by decide)) rfl T.g_is_world T.k_is_world T.b_is_world .nil pass0 (pa_cons (pv 0) pa_nil)))) (pss_one ps_never) pss_nil))), ?_⟩
    exact s_when (b := false) (et_is (et_not (et_test (ev_call (sp := spIsWor K) (dvs := []) (vs := [.ref a]) (ea_cons (ev_var rfl) ea_nil) fun H1 e1 Q' q' E' => ⟨a, c, rfl, ex_t e1 hx, q'⟩))) rfl) (fun z => by cases z) fun _ H1 e1 => k H1 e1
theorem sc_need_both : FnScope ["design", "world"] ["design", "world"] (defScope s_need_both) := ⟨rfl, rfl, rfl, by decide +kernel, rfl, by decide +kernel, by decide +kernel⟩
theorem ok_need_both (T : Txt h0 K mg) : FnOk P w K mg base CX0 5 (He.ga K "need_both") (fdOf K (He.ga K "need_both")) ["design", "world"] (spNeedBoth K) := by
  refine FnOk.mono (j := 5) ((T.fn_need_both).ok sc_need_both (fun vs H Q E h => ?_) (fun cdv A outer st0 H vs Q E hr h => ?_)) (by decide)
  · obtain ⟨a, b, c, rfl, _⟩ := h
    rfl
  · obtain ⟨a, b, c, rfl, hx, hy, k⟩ := h
    refine ⟨_, PSs.nox ((pss_cons (ps_expr (pe_call (ok_need_design T) (hr.mono (by decide)) rfl T.g_need_design T.k_need_design T.b_need_design .nil pass0 (pa_cons (pv 0) pa_nil)))
      (pss_one (ps_expr (pe_call (ok_need_world T) (hr.mono (by decide)) rfl T.g_need_world T.k_need_world T.b_need_world .nil pass0 (pa_cons (pv 1) pa_nil)))))), ?_⟩
    refine q_drop (ev_call (sp := spNeedDes K) (dvs := []) (vs := [.ref a]) (ea_cons (ev_var rfl) ea_nil) fun H1 e1 Q' q' E' => ⟨a, c, rfl, ex_t e1 hx, q'⟩) fun H1 e1 => ?_
    exact s_drop (ev_call (sp := spNeedWor K) (dvs := []) (vs := [.ref b]) (ea_cons (ev_var rfl) ea_nil) fun H2 e2 Q' q' E' => ⟨b, c, rfl, ex_t (e1.trans e2) hy, q'⟩) fun H2 e2 => k _ (e1.trans e2)
end
end K10
end
section
set_option Elab.async false
set_option linter.all false
set_option maxRecDepth 100000
set_option maxHeartbeats 4000000
namespace K10
open PySem PySem.Spec PyProof.Rows L2 Evl
section
variable {K : PySem.W.Frag} {σ : L2.St} {H : Hp} {ta tb tc : TE} {tr : TA} {x : V} {t : Value} {D : Ends} {tz : TS}
def rLenZ : List V → Hp → VK → Prop := fun xs H Q => ∃ z, xs = [.str z] ∧ z.length ≤ sizeLine ∧ Q (.int z.length) H
theorem call_lenZ {X : Cx} : CallR X (.builtin "len") rLenZ := call_len_str
def rIntZ : List V → Hp → VK → Prop := fun xs H Q => ∃ a n, xs = [.str a] ∧ PySem.intText? a = some n ∧ a.length ≤ 640 ∧ Q (.int n) H
theorem call_intZ {X : Cx} : CallR X (.type "int") rIntZ := call_int_str
theorem ev_lenZ {z : Str} (h : Ev ta σ H (.str z)) (hl : z.length ≤ 100000) : Ev (tCB rLenZ (tCons ta tNil)) σ H (.int (z.length : Int)) := ev_cb (ea_cons h ea_nil) fun H1 e Q q => ⟨z, rfl, sz_of hl, q H1 (Ex.refl _)⟩
theorem ev_intZ {z : Str} {n : Int} (h : Ev ta σ H (.str z)) (hn : PySem.intText? z = some n) (hl : z.length ≤ 640) : Ev (tCB rIntZ (tCons ta tNil)) σ H (.int n) := ev_cb (ea_cons h ea_nil) fun H1 e Q q => ⟨z, n, rfl, hn, hl, q H1 (Ex.refl _)⟩
def rPart : V → List V → Hp → VK → Prop := fun x xs H Q => ∃ a b, x = .str a ∧ xs = [.str b] ∧ (b.length == 0) = false ∧ a.length ≤ sizeLine ∧ ∀ p, H p = none → Q (.ref p) (upd H p (.tup [.str (Txt.partition a b).1, .str (Txt.partition a b).2.1, .str (Txt.partition a b).2.2]))
theorem pe_part {X : Cx} {o e : Expr} {apos pos : Pos} {to te : TE} (ho : PE X o to) (he : PE X e te) (hs : starEach [e] X.env = [(false, eval e X.env)] := by rfl) (hbase : attributeBase o "partition" X.env (eval o X.env) = eval o X.env := by rfl) (hline : (apos.endLine == pos.line) = true := by rfl) :
    PE X (.Call (.Attribute o "partition" apos) [e] [] pos) (tM1 rPart to te) := pe_partition ho he hs hbase hline
theorem q_part {i j l : Nat} {z b : Str} (ha : Ev ta σ H (.str z)) (hb : ∀ H1, Ex H H1 → Ev tb σ H1 (.str b)) (h0 : (b.length == 0) = false) (hl : z.length ≤ 100000)
    (k : ∀ H1, Ex H H1 → tz D (((σ.set i (some (.str (Txt.partition z b).1))).set j (some (.str (Txt.partition z b).2.1))).set l (some (.str (Txt.partition z b).2.2))) H1) :
    tSeq (tAsg (tM1 rPart ta tb) (gTup K 3 (gCons (gName i) (gCons (gName j) (gCons (gName l) gNil))))) tz D σ H :=
  ha H (Ex.refl H) _ fun H1 e1 => ⟨⟨z, rfl⟩, hb H1 e1 H1 (Ex.refl _) _ fun H2 e2 => ⟨z, b, rfl, rfl, h0, sz_of hl, fun p hp => ⟨p, _, rfl, st_of upd_same, rfl, _, _, rfl, _, _, rfl, _, _, rfl, rfl, k _ (e1.trans (e2.trans (Ex.new hp)))⟩⟩⟩
def rStrB : List V → Hp → VK → Prop := fun xs H Q => (∃ i, xs = [.int i] ∧ i.natAbs.log2 < 1920 ∧ Q (.str (toString i)) H) ∨ ∃ a, xs = [.str a] ∧ Q (.str a) H
theorem call_strB {X : Cx} : CallR X (.type "str") rStrB := by
  intro pins s σ H xs us Q I r h
  rcases h with h | h
  · exact call_str_int pins s σ H xs us Q I r h
  · exact SkE.call_str_str pins s σ H xs us Q I r h
theorem ev_strI {i : Int} (h : Ev ta σ H (.int i)) (hi : i.natAbs < 1000000) : Ev (tCB rStrB (tCons ta tNil)) σ H (.str (toString i)) := ev_cb (ea_cons h ea_nil) fun H1 e Q q => .inl ⟨i, rfl, by
  by_cases h0 : i.natAbs = 0
  · rw [h0]
    decide
  · exact (Nat.log2_lt h0).mpr (Nat.lt_of_lt_of_le hi (Nat.le_trans (by decide : 1000000 ≤ 2 ^ 20) (Nat.pow_le_pow_right (by decide) (by decide)))), q H1 (Ex.refl _)⟩
theorem ev_strZ {z : Str} (h : Ev ta σ H (.str z)) : Ev (tCB rStrB (tCons ta tNil)) σ H (.str z) := ev_cb (ea_cons h ea_nil) fun H1 e Q q => .inr ⟨z, rfl, q H1 (Ex.refl _)⟩
theorem ev_join {a : Str} {ys : List Str} (ha : Ev ta σ H (.str a)) (hl : EvL tb σ H (ys.map V.str)) (hs : (ys.map (·.length)).sum + ys.length * a.length ≤ 100000) : Ev (tM1 (rJoin K) ta tb) σ H (.str (Txt.join a ys)) := fun H1 e Q q =>
  ha H1 e _ fun H2 e2 => ⟨⟨a, rfl⟩, hl H2 (e.trans e2) _ fun p H3 hp e3 h3 => ⟨a, p, ys, rfl, rfl, .inl (sq_of h3), Nat.le_trans hs (by decide), q H3 (e2.trans e3)⟩⟩
theorem ev_joinT {a : Str} {ys : List Str} {p : Addr} (ha : Ev ta σ H (.str a)) (hb : Ev tb σ H (.ref p)) (hx : SqT K H p (ys.map V.str)) (hs : (ys.map (·.length)).sum + ys.length * a.length ≤ 100000) : Ev (tM1 (rJoin K) ta tb) σ H (.str (Txt.join a ys)) := fun H1 e Q q =>
  ha H1 e _ fun H2 e2 => ⟨⟨a, rfl⟩, hb H2 (e.trans e2) _ fun H3 e3 => ⟨a, p, ys, rfl, rfl, .inr (ex_t ((e.trans e2).trans e3) hx), Nat.le_trans hs (by decide), q H3 (e2.trans e3)⟩⟩
theorem evIn_words : ∀ w : Wd, w ≠ .waits → w ≠ .ended → w ≠ .stopped → w.str ∈ stepL := by
  intro w
  cases w <;> intro h1 h2 h3 <;> first | exact absurd rfl h1 | exact absurd rfl h2 | exact absurd rfl h3 | decide +kernel
end
section
variable {P : Program} {w : World} {base h0 : Heap} {K : PySem.W.Frag} {mg : Str → Option Value}
def spNeedText (K : PySem.W.Frag) : Sp := fun vs H Q E => (∃ z, vs = [.str z] ∧ RetV .non H Q) ∨ ∃ x t, vs = [x] ∧ (∀ H1, Ex H H1 → TyX K H1 x t) ∧ PySem.W.kitOne K t (.type "str") = some false ∧ ∀ H1, Ex H H1 → E (.ref (He.ga K "NotText")) none H1
theorem sc_need_text : FnScope ["text"] ["text"] (defScope s_need_text) := ⟨rfl, rfl, rfl, by decide +kernel, rfl, by decide +kernel, by decide +kernel⟩
theorem ok_need_text (T : TxtP P h0 K mg) : FnOk P w K mg base (L2.CX P w) 3 (He.ga K "need_text") (fdOf K (He.ga K "need_text")) ["text"] (spNeedText K) := by
  refine FnOk.mono (j := 3) ((T.fn_need_text).ok sc_need_text (fun vs H Q E h => ?_) (fun cdv A outer st0 H vs Q E hr h => ?_)) (by decide)
  · rcases h with ⟨z, rfl, _⟩ | ⟨x, t, rfl, _⟩ <;> rfl
  · skip
    refine ⟨_, (pss_one (ps_if (pt_not (pt_val (pe_callB (call_isiK' K) (by rfl) T.f_isinstance (by decide +kernel) (pa_cons (pv 0) (pa_cons (pe_bltn (v := .ty "str") rfl T.f_str (by decide +kernel) rfl) pa_nil))))) (pss_one (ps_raise0 T (x := .text) (by decide) rfl rfl (takes_of rfl rfl rfl rfl) rfl rfl rfl)) pss_nil)), ?_⟩
    rcases h with ⟨z, rfl, k⟩ | ⟨x, t, rfl, hx, hk, k⟩
    · exact s_when (b := false) (et_is (et_not (et_test (ev_isi (t := .type "str") (b := true) (ea_cons (ev_var rfl) (ea_cons ev_c ea_nil)) (fun H1 e => .base (.str z)) (kit_ty (r := true) (by decide +kernel))))) rfl) (fun z => by cases z) fun _ H1 e1 => k H1 e1
    · exact s_when (b := true) (et_is (et_not (et_test (ev_isi (t := t) (b := false) (ea_cons (ev_var rfl) (ea_cons ev_c ea_nil)) hx hk))) rfl) (fun _ H1 e1 => k H1 e1) fun z => by cases z
def spNumIn : Sp := fun vs H Q _ => ∃ z v, vs = [.str z] ∧ z.length ≤ 600 ∧ numIn z = some v ∧ RetV v H Q
theorem ni12 (n : Nat) : (!inV (.int (n : Int)) [.int 1, .int 2]) = !(decide (n = 1) || decide (n = 2)) := by
  unfold inV
  show (!(((1 : Int) == (n : Int)) || (((2 : Int) == (n : Int)) || false))) = _
  rw [Bool.or_false]
  congr 2
  · by_cases h : n = 1
    · subst h; rfl
    · rw [decide_eq_false h]; exact beq_eq_false_iff_ne.mpr (by omega)
  · by_cases h : n = 2
    · subst h; rfl
    · rw [decide_eq_false h]; exact beq_eq_false_iff_ne.mpr (by omega)
theorem range_all {z : Str} (f : Nat → Bool) : ((List.range z.cps.size).map fun i => f (z.cps.getD i 0)).all id = z.cps.toList.all f := by
  have h : (List.range z.cps.size).map (fun i => f (z.cps.getD i 0)) = z.cps.toList.map f := by
    apply List.ext_getElem?
    intro i
    rw [List.getElem?_map, List.getElem?_map]
    by_cases hi : i < z.cps.size
    · rw [List.getElem?_range hi, Array.getElem?_toList, Array.getElem?_eq_getElem hi]
      simp [Array.getD_eq_getD_getElem?, Array.getElem?_eq_getElem hi]
    · rw [List.getElem?_eq_none (by rw [List.length_range]; omega), List.getElem?_eq_none (by rw [Array.length_toList]; omega)]
      rfl
  rw [h, List.all_map]
  rfl
theorem sc_number_in : FnScope ["word", "sign"] ["word"] (defScope s_number_in) := ⟨rfl, rfl, rfl, by decide +kernel, rfl, by decide +kernel, by decide +kernel⟩
theorem ok_number_in (T : Txt h0 K mg) : FnOk P w K mg base CX0 1 (He.ga K "number_in") (fdOf K (He.ga K "number_in")) ["word"] (spNumIn) := by
  refine FnOk.mono (j := 1) ((T.fn_number_in).ok sc_number_in (fun vs H Q E h => ?_) (fun cdv A outer st0 H vs Q E hr h => ?_)) (by decide)
  · obtain ⟨z, v, rfl, _⟩ := h
    rfl
  · obtain ⟨z, v, rfl, hl, hn, k⟩ := h
    refine ⟨_, PSs.nox ((pss_cons (ps_if (PW.pt (pw_or (pt_cmpR (op_notInK K) (pe_callB call_lenZ (by rfl) T.f_len (by decide +kernel) (pa_cons (pv 0) pa_nil)) (pe_tup (pa_cons pe_int (pa_cons pe_int pa_nil))) rfl) (pw_or1 (pt_not (pt_val (pe_callB (cr_allK K) (by rfl) T.f_all (by decide +kernel) (pa_cons (pe_lc (own := [("sign", 1)]) (g := (gName 1)) (tt := tYes) rfl sc_number_in.nd (pi_str (pv 0)) (blkOk_by (N := ["word", "sign"]) (sc := defScope s_number_in) (by decide +kernel)) (fun _ _ _ _ _ => (pg_name (i := 1) sc_number_in.nd rfl (Or.inl rfl))) (fun _ _ _ _ _ => pts_nil) (fun _ _ _ _ _ => (pe_cmpR op_inS (pv 1) (pe_gstr T.z_FIGURES) rfl))) pa_nil))))))) (pss_one (ps_ret pe_non)) pss_nil)
      (pss_one (ps_ret (pe_ifExp (PW.pt (pw_and (pt_cmpR op_eq (pe_callB call_lenZ (by rfl) T.f_len (by decide +kernel) (pa_cons (pv 0) pa_nil)) pe_int (nomark _)) (pw_and1 (pt_cmpR op_eq (pe_ix ix_str (pv 0) pe_int (fun _ _ => rfl)) pe_str (nomark _))))) pe_non (pe_callTy call_intZ (by rfl) T.f_int (by decide +kernel) (pa_cons (pv 0) pa_nil))))))), ?_⟩
    have hlz : ∀ {H'}, Ev (tCB rLenZ (tCons (tVar 0) tNil)) [some (.str z), none] H' (.int (z.length : Int)) := ev_lenZ (ev_var rfl) (by omega)
    refine q_when (b := !(decide (z.length = 1) || decide (z.length = 2)) || !digitsB z) (et_or (et_is (et_test (ev_niU hlz (eu_tup (ea_cons ev_c (ea_cons ev_c ea_nil)) (by show 2 ≤ 100000; decide)) rfl rfl)) (ni12 z.length)) fun _ => ?_) (fun hb H1 e1 => ?_) (fun hb H1 e1 => ?_)
    · refine et_is (et_not (et_test (ev_allN (bs := (List.range z.cps.size).map fun i => decide (z.cps.getD i 0 ∈ figs)) (EvL.is (el_lcS (z := z) (fun _ => true) (fun i => V.bl (decide (z.cps.getD i 0 ∈ figs))) (ev_var rfl) (by show z.length ≤ 40000; omega) (fun _ => rfl) (fun i c H1 e hc => et_yes) (fun i c H1 e hc _ => ?_)) ?_)))) ?_
      · refine ev_is (v := .bl (decide (c ∈ figs))) (fun H2 e2 Q' q' => ⟨_, rfl, ⟨c, _, rfl, rfl, q' _ (Ex.refl _)⟩⟩) ?_
        have : z.cps.getD i 0 = c := by
          rw [Array.getD_eq_getD_getElem?, hc] <;> rfl
        rw [this]
      · rw [given_all, List.map_map]
        rfl
      · rw [range_all (fun c => decide (c ∈ figs))] <;> rfl
    · unfold numIn at hn
      rw [if_pos hb] at hn
      cases hn
      exact s_ret ev_c fun H2 e2 => k _ (e1.trans e2)
    · unfold numIn at hn
      rw [if_neg (by rw [hb]; decide)] at hn
      have hlen : z.cps.toList.length = z.length := Array.length_toList
      have hb2 : (decide (z.length = 1) || decide (z.length = 2)) = true := by
        have h1 := (Bool.or_eq_false_iff.mp hb).1
        cases hx : (decide (z.length = 1) || decide (z.length = 2)) with
        | true => rfl
        | false =>
          rw [hx] at h1
          cases h1
      have hpos : 0 < z.length := by
        rcases Bool.or_eq_true_iff.mp hb2 with q | q
        · have := of_decide_eq_true q
          omega
        · have := of_decide_eq_true q
          omega
      obtain ⟨c, hc⟩ : ∃ c, z.cps.toList.head? = some c := by
        cases hq : z.cps.toList with
        | nil =>
          rw [hq] at hlen
          simp at hlen
          omega
        | cons c r => exact ⟨c, rfl⟩
      have hc0 : z.cps.toList[0]? = some c := by rw [← List.head?_eq_getElem?, hc]
      refine s_ret (v := v) (ev_if (b := decide (z.length = 2) && decide (z.cps.toList.head? = some 48)) (et_and (et_test (ev_is (ev_op hlz ev_c (rv_eq rfl)) (congrArg V.bl ?_))) fun h2 => et_test (ev_is (ev_op (ev_op (ev_var rfl) ev_c (rv_ixS (by omega) (atI_nat (j := 0) hc0))) ev_c (rv_eq rfl)) (congrArg V.bl ?_))) (fun hh => ?_) fun hh => ?_) fun H2 e2 => k _ (e1.trans e2)
      · apply decide_eq_decide.mpr
        constructor
        · intro hz
          injection hz with hz
          omega
        · intro hz
          rw [hz] <;> rfl
      · apply decide_eq_decide.mpr
        rw [hc]
        constructor
        · intro hz
          injection hz with hz
          injection hz with hz
          have : #[c] = #[48] := hz
          simpa using this
        · intro hz
          cases hz
          rfl
      · rw [if_pos hh] at hn
        cases hn
        exact ev_c
      · rw [if_neg (by rw [hh]; decide)] at hn
        cases hi : PySem.intText? z with
        | none =>
          rw [hi] at hn
          cases hn
        | some n =>
          rw [hi] at hn
          cases hn
          exact ev_intZ (ev_var rfl) hi (by omega)
def spEvIn : Sp := fun vs H Q _ => ∃ z r, vs = [.str z] ∧ z.length ≤ 600 ∧ (Txt.partition z " ").2.2.length ≤ 600 ∧ evIn z = some r ∧ (match r with
  | none => RetV .non H Q
  | some xs => ∀ p H', H p = none → Ex H H' → H' p = some (.tup xs) → Q (.ref p) H')
theorem numIn_cases {z : Str} {v : V} (h : numIn z = some v) : v = .non ∨ ∃ n, v = .int n := by
  unfold numIn at h
  split at h
  · cases h
    exact .inl rfl
  · split at h
    · cases h
      exact .inl rfl
    · cases hi : PySem.intText? z with
      | none =>
        rw [hi] at h
        cases h
      | some n =>
        rw [hi] at h
        cases h
        exact .inr ⟨n, rfl⟩
theorem in_evco (z : Str) : inV (.str z) [.str "evict", .str "copy"] = decide (z = "evict" ∨ z = "copy") := by
  unfold inV
  show ((("evict" : Str) == z) || ((("copy" : Str) == z) || false)) = _
  rw [Bool.or_false, Bool.decide_or]
  congr 1
  · rw [Bool.beq_eq_decide_eq]
    exact decide_eq_decide.mpr ⟨Eq.symm, Eq.symm⟩
  · rw [Bool.beq_eq_decide_eq]
    exact decide_eq_decide.mpr ⟨Eq.symm, Eq.symm⟩
theorem in_steps (z : Str) : inV (.str z) [V.str "drop", V.str "fetch", V.str "fill", V.str "look", V.str "set", V.str "stop", V.str "store", V.str "take"] = decide (z ∈ stepL) := by
  have e : [V.str "drop", V.str "fetch", V.str "fill", V.str "look", V.str "set", V.str "stop", V.str "store", V.str "take"] = stepL.map V.str := rfl
  rw [e]
  unfold inV
  rw [List.any_map]
  rw [Bool.eq_iff_iff, List.any_eq_true, decide_eq_true_iff]
  constructor
  · rintro ⟨y, hy, h⟩
    have h : (y == z) = true := h
    rw [← beq_iff_eq.mp h]
    exact hy
  · intro h
    exact ⟨z, h, beq_self_eq_true z⟩
theorem sc_event_in : FnScope ["line", "number", "word", "space", "rest"] ["line"] (defScope s_event_in) := ⟨rfl, rfl, rfl, by decide +kernel, rfl, by decide +kernel, by decide +kernel⟩
theorem ok_event_in (T : Txt h0 K mg) : FnOk P w K mg base CX0 2 (He.ga K "event_in") (fdOf K (He.ga K "event_in")) ["line"] (spEvIn) := by
  refine FnOk.mono (j := 2) ((T.fn_event_in).ok sc_event_in (fun vs H Q E h => ?_) (fun cdv A outer st0 H vs Q E hr h => ?_)) (by decide)
  · obtain ⟨z, r, rfl, _⟩ := h
    rfl
  · obtain ⟨z, r, rfl, hl, hl2, he, k⟩ := h
    refine ⟨_, PSs.nox ((pss_cons (ps_if (pt_cmpR (op_inK K) (pv 0) (pe_tup (pa_cons pe_str (pa_cons pe_str pa_nil))) rfl) (pss_one (ps_ret (pe_tup (pa_cons (pv 0) pa_nil)))) pss_nil)
      (pss_cons (ps_asg (pe_partition (pv 0) pe_str) (pg_tupK K (pgs_cons (pg_name (i := 2) sc_event_in.nd rfl (Or.inl rfl)) (pgs_cons (pg_name (i := 3) sc_event_in.nd rfl (Or.inl rfl)) (pgs_cons (pg_name (i := 4) sc_event_in.nd rfl (Or.inl rfl)) pgs_nil)))))
      (pss_cons (ps_set (i := 1) sc_event_in.nd rfl (Or.inl rfl) (pe_call (ok_number_in T) (hr.mono (by decide)) rfl T.g_number_in T.k_number_in T.b_number_in .nil pass0 (pa_cons (pv 4) pa_nil)))
      (pss_one (ps_ret (pe_ifExp (PW.pt (pw_and (pt_cmpR (op_inK K) (pv 2) (pe_gref T.g_STEPS) rfl) (pw_and1 (pt_cmp (pc_notN (pv 1)))))) (pe_tup (pa_cons (pv 2) (pa_cons (pv 1) pa_nil))) pe_non))))))), ?_⟩
    refine q_when (b := decide (z = "evict" ∨ z = "copy")) (et_is (et_test (ev_inU (ev_var rfl) (eu_tup (ea_cons ev_c (ea_cons ev_c ea_nil)) (by show 2 ≤ 100000; decide)) rfl rfl)) (in_evco z)) (fun hb H1 e1 => ?_) (fun hb H1 e1 => ?_)
    · unfold evIn at he
      rw [if_pos (of_decide_eq_true hb)] at he
      cases he
      exact s_retU (eu_tup (ea_cons (ev_var rfl) ea_nil) (by show 1 ≤ 100000; decide)) fun p H2 np e2 hp => k p _ (Same.free e1 np) (e1.trans e2) hp
    · unfold evIn at he
      rw [if_neg (of_decide_eq_false hb)] at he
      cases hn : numIn (Txt.partition z " ").2.2 with
      | none =>
        rw [hn] at he
        cases he
      | some v =>
        rw [hn] at he
        have he : (if (Txt.partition z " ").1 ∈ stepL ∧ v ≠ .non then some [V.str (Txt.partition z " ").1, v] else none) = r := Option.some.inj he
        refine q_part (ev_var rfl) (fun H2 _ => ev_c) (by decide +kernel) (by omega) fun H2 e2 => ?_
        refine q_asg (ev_call (sp := spNumIn) (dvs := []) (vs := [.str (Txt.partition z " ").2.2]) (ea_cons (ev_var rfl) ea_nil) fun H3 e3 Q' q' E' => ⟨_, v, rfl, hl2, hn, q'⟩) fun H3 e3 => ?_
        have tt : ∀ {H'}, EvT (tAnd (tTest (tOp (rIn K false) (tVar 2) (tC (.ref (He.ga K "STEPS"))))) (tB (tNotN (tVar 1)))) [some (.str z), some v, some (.str (Txt.partition z " ").1), some (.str (Txt.partition z " ").2.1), some (.str (Txt.partition z " ").2.2)] H' (decide ((Txt.partition z " ").1 ∈ stepL) && decide (v ≠ .non)) := fun {H'} =>
          et_and (et_is (et_test (ev_op (ev_var rfl) ev_c (rv_isT (T.t_STEPS H') rfl rfl))) (in_steps _)) fun _ => et_B (ev_is (ev_notN (ev_var rfl)) (by rcases numIn_cases hn with rfl | ⟨n, rfl⟩ <;> rfl))
        have e03 := e1.trans (e2.trans e3)
        by_cases hc : (Txt.partition z " ").1 ∈ stepL ∧ v ≠ .non
        · rw [if_pos hc] at he
          subst he
          refine (et_is tt (by rw [decide_eq_true hc.1, decide_eq_true hc.2] <;> rfl) : EvT _ _ _ true) H3 (Ex.refl _) _ fun H4 e4 => ?_
          exact iteT (eu_tup (vs := [V.str (Txt.partition z " ").1, v]) (ea_cons (ev_var rfl) (ea_cons (ev_var rfl) ea_nil)) (by show 2 ≤ 100000; decide) H4 (Ex.refl _) _ fun p H5 np e5 hp => k p _ (Same.free (e03.trans e4) np) (e03.trans (e4.trans e5)) hp)
        · rw [if_neg hc] at he
          subst he
          refine (et_is tt (by rw [← Bool.decide_and, decide_eq_false hc]) : EvT _ _ _ false) H3 (Ex.refl _) _ fun H4 e4 => ?_
          exact iteF (k _ (e03.trans e4))
def evSmall : Evt → Prop
  | .op _ n => n < 64
  | _ => True
def evParts : Evt → List Str
  | .evict => ["evict"]
  | .copy => ["copy"]
  | .op w n => [w.str, toString (n : Int)]
theorem evTxt_join (e : Evt) : Txt.join " " (evParts e) = evTxt e := by
  cases e with
  | evict => decide +kernel
  | copy => decide +kernel
  | op w n => rfl
theorem num_len : ∀ n : Fin 64, (toString ((n.val : Nat) : Int) : Str).length ≤ 2 := by decide +kernel
theorem w_len (w : Wd) : w.str.length ≤ 10 := by cases w <;> decide +kernel
theorem evParts_len {e : Evt} (h : evSmall e) : ((evParts e).map (·.length)).sum + (evParts e).length * (" " : Str).length ≤ 20 := by
  cases e with
  | evict => decide +kernel
  | copy => decide +kernel
  | op w n =>
    have h1 := num_len ⟨n, h⟩
    have h2 := w_len w
    have h3 : (" " : Str).length = 1 := by decide +kernel
    show w.str.length + ((toString (n : Int) : Str).length + 0) + 2 * (" " : Str).length ≤ 20
    rw [h3]
    have h1 : (toString (n : Int) : Str).length ≤ 2 := h1
    omega
def spEvTxt (K : PySem.W.Frag) : Sp := fun vs H Q _ => ∃ (a : Addr) (e : Evt), vs = [.ref a] ∧ SqT K H a (evEnc e) ∧ evSmall e ∧ RetV (.str (evTxt e)) H Q
theorem sc_event_text : FnScope ["event", "one"] ["event"] (defScope s_event_text) := ⟨rfl, rfl, rfl, by decide +kernel, rfl, by decide +kernel, by decide +kernel⟩
theorem ok_event_text (T : Txt h0 K mg) : FnOk P w K mg base CX0 1 (He.ga K "event_text") (fdOf K (He.ga K "event_text")) ["event"] (spEvTxt K) := by
  refine FnOk.mono (j := 1) ((T.fn_event_text).ok sc_event_text (fun vs H Q E h => ?_) (fun cdv A outer st0 H vs Q E hr h => ?_)) (by decide)
  · obtain ⟨a, e, rfl, _⟩ := h
    rfl
  · obtain ⟨a, e, rfl, hx, hs, k⟩ := h
    refine ⟨_, PSs.nox ((pss_one (ps_ret (pe_joinK K pe_str (pe_lc (own := [("one", 1)]) (g := (gName 1)) (tt := tYes) rfl sc_event_text.nd ((pi_tupK K) (pv 0)) (blkOk_by (N := ["event", "one"]) (sc := defScope s_event_text) (by decide +kernel)) (fun _ _ _ _ _ => (pg_name (i := 1) sc_event_text.nd rfl (Or.inl rfl))) (fun _ _ _ _ _ => pts_nil) (fun _ _ _ _ _ => (pe_callTy call_strB (by rfl) T.f_str (by decide +kernel) (pa_cons (pv 1) pa_nil)))))))), ?_⟩
    rw [← evTxt_join] at k
    have hpl : (evEnc e).length = (evParts e).length := by cases e <;> rfl
    refine s_ret (ev_join ev_c (EvL.is (el_lcT (xs := evEnc e) (fun _ => true) (fun i => V.str ((evParts e).getD i Str.empty)) (ev_var rfl) hx (by cases e <;> exact Nat.le_of_ble_eq_true rfl) (fun _ => rfl) (fun i x H1 e1 hx => et_yes) (fun i x H1 e1 hx _ => ?_)) ?_) (Nat.le_trans (evParts_len hs) (by decide))) k
    · cases e with
      | evict =>
        cases i with
        | zero =>
          cases hx
          exact ev_strZ (ev_var rfl)
        | succ i => cases hx
      | copy =>
        cases i with
        | zero =>
          cases hx
          exact ev_strZ (ev_var rfl)
        | succ i => cases hx
      | op w n =>
        have hs : n < 64 := hs
        match i, hx with
        | 0, hx =>
          cases hx
          exact ev_strZ (ev_var rfl)
        | 1, hx =>
          cases hx
          exact ev_strI (ev_var rfl) (by show (n : Int).natAbs < 1000000; omega)
    · rw [given_all, hpl]
      have h := map_getD (evParts e) Str.empty
      have h2 : (evParts e).map V.str = ((List.range (evParts e).length).map (fun j => (evParts e).getD j Str.empty)).map V.str := by rw [h]
      rw [h2, List.map_map]
      rfl
end
end K10
end
section
set_option Elab.async false
set_option linter.all false
set_option maxRecDepth 100000
set_option maxHeartbeats 4000000
namespace K10
open PySem L2
def Wd.step : Wd → Bool
  | .waits => false | .ended => false | .stopped => false | _ => true
def goodZ (z : Str) (r : Option (List V)) : Bool := decide (evIn z = some r) && (decide ((Txt.partition z " ").2.2.length ≤ 20) && (decide (z.length ≤ 20) && (decide (z ≠ "events") && (decide (z ≠ "cache") && (decide (z ≠ "database") && decide (z ≠ "broken"))))))
structure GoodZ (z : Str) (r : Option (List V)) : Prop where
  ev : evIn z = some r
  part : (Txt.partition z " ").2.2.length ≤ 20
  len : z.length ≤ 20
  n1 : z ≠ "events"
  n2 : z ≠ "cache"
  n3 : z ≠ "database"
  n4 : z ≠ "broken"
theorem goodZ_ok {z : Str} {r : Option (List V)} (h : goodZ z r = true) : GoodZ z r := by
  unfold goodZ at h
  simp only [Bool.and_eq_true, decide_eq_true_eq] at h
  obtain ⟨h1, h2, h3, h4, h5, h6, h7⟩ := h
  exact ⟨h1, h2, h3, h4, h5, h6, h7⟩
theorem evIn_op : ∀ (w : Wd), w.step = true → ∀ n : _root_.Fin 64, goodZ (evTxt (.op w n.val)) (some (evEnc (.op w n.val))) = true := by
  intro w h
  cases w <;> first | exact absurd h (by decide) | (clear h; decide +kernel)
theorem ev_good {e : Evt} (h : evSmall e) (hw : ∀ w n, e = .op w n → w.step = true) : GoodZ (evTxt e) (some (evEnc e)) := by
  cases e with
  | evict => exact goodZ_ok (by decide +kernel)
  | copy => exact goodZ_ok (by decide +kernel)
  | op w n => exact goodZ_ok (evIn_op w (hw w n rfl) ⟨n, h⟩)
def badL : List Str := ["", "hum", "look", "look 00", "look -1", "evict 1", "events ", "fetch  0", "look 100", "jump 0"]
theorem bad_good : ∀ z ∈ badL, goodZ z none = true := by decide +kernel
end K10
end
section
set_option Elab.async false
set_option linter.all false
set_option maxRecDepth 100000
set_option maxHeartbeats 4000000
namespace K10
open PySem PySem.Spec PyProof.Rows L2 Evl
structure Dk where
  dx : Addr
  da : Addr
  wa : Addr
  L : Lay
  dn : Addr
  br : Addr
def brL (s : S) : List V := (Pr.all.filter s.broken).map fun p => V.str p.str
def desk3 (da wa p : Addr) : List (Str × V) := [("_design", .ref da), ("_world", .ref wa), ("_now", .ref p)]
def desk5 (da wa p dn br : Addr) : List (Str × V) := [("_design", .ref da), ("_world", .ref wa), ("_now", .ref p), ("_done", .ref dn), ("_broken", .ref br)]
structure DeskAt (K : PySem.W.Frag) (H : Hp) (a : Addr) (D : Dk) (s : S) : Prop where
  ins : H a = some (.ins (He.ga K "Desk") D.dx (desk5 D.da D.wa D.L.p D.dn D.br))
  des : SqT K H D.da (desV s.cfg)
  wor : SqT K H D.wa (worV s.cfg)
  run : RunAt K H D.L s
  dn : H D.dn = some (.tup (D.L.es.map V.ref))
  br : H D.br = some (.tup (brL s))
  na : a ∉ D.L.own
def Dk.own (D : Dk) (a : Addr) : List Addr := a :: D.L.own
section
variable {K : PySem.W.Frag} {H H' : Hp} {L : Lay} {s : S} {σ : L2.St} {to te : TE} {f : Str} {y : V} {D : Ends} {tz : TS} {a C d : Addr} {fs : List (Str × V)}
theorem DeskAt.mono {D : Dk} (R : DeskAt K H a D s) (e : Ex H H') : DeskAt K H' a D s := ⟨e _ _ R.ins, ex_t e R.des, ex_t e R.wor, R.run.mono e, e _ _ R.dn, e _ _ R.br, R.na⟩
theorem s_fldIU {xs : List V} (hH : H a = some (.ins C d fs)) (ho : ∀ H1, Ex H H1 → Ev to σ H1 (.ref a)) (h : EvU te σ H xs) (hc : Cls K C) (hn : NoAttr K C f) {fs' : Addr → List (Str × V)} (hf : ∀ p, putF f (.ref p) fs = fs' p) (k : ∀ p H', H p = none → H' p = some (.tup xs) → H' a = some (.ins C d (fs' p)) → Fr [a] H H' → D.nx σ H') (hl : Nat.blt fs.length 1000 = true) : sFld K to te f D σ H :=
  q_fldIU (tz := fun D => D.nx) hH ho h hc hn hf k hl
theorem s_methL {m : Str} {sp : Sp} {E : XK} {xs : List V} (h : Ev to σ H (.ref a)) (ho : H a = some (.ins C d fs)) (hl : fs.lookup m = none) (hL : EvL te σ H xs) (k : ∀ p H1, H p = none → Ex H H1 → H1 p = some (.lst xs) → sp (.ref a :: ([.ref p] ++ [])) H1 (fun _ H2 => D.nx σ H2) E) : tDrop (tMeth C m sp [] E to (tCons te tNil)) D σ H :=
  h H (Ex.refl H) _ fun H1 e1 => ⟨a, d, fs, rfl, e1 _ _ ho, hl, hL H1 e1 _ fun p H2 np e2 hp => k p H2 (Same.free e1 np) (e1.trans e2) hp⟩
theorem fr_sqT {xs : List V} {b : Addr} {o : HO} (F : Fr [a] H H') (ha : H a = some o) (h1 : ∀ ys, o ≠ .tup ys) (h2 : ∀ u ys, o ≠ .frz u (.tup ys)) (h : SqT K H b xs) : SqT K H' b xs := SqT.fr F h fun c hc => by
  rw [List.mem_singleton.mp hc, ha]
  exact ⟨fun ys z => h1 ys (Option.some.inj z), fun u ys z => h2 u ys (Option.some.inj z)⟩
end
section
variable {P : Program} {w : World} {base h0 : Heap} {K : PySem.W.Frag} {mg : Str → Option Value}
def spShow (K : PySem.W.Frag) : Sp := fun vs H Q _ => ∃ (a dx da wa : Addr) (L : Lay) (s : S) (fs : List (Str × V)), vs = [.ref a] ∧ H a = some (.ins (He.ga K "Desk") dx fs) ∧ (fs = desk3 da wa L.p ∨ ∃ dn br, fs = desk5 da wa L.p dn br) ∧ SqT K H da (desV s.cfg) ∧ SqT K H wa (worV s.cfg) ∧
  RunAt K H L s ∧ CheckOk s ∧ a ∉ L.own ∧ ∀ dn br H', DeskAt K H' a ⟨dx, da, wa, L, dn, br⟩ s → Fr [a] H H' → Q .non H'
theorem br_given (s : S) : given 10 (fun i => s.broken (Pr.all.getD i .ending)) (fun i => V.str (Pr.all.getD i .ending).str) = brL s := by
  unfold given brL
  have e : (List.range 10).filter (fun i => s.broken (Pr.all.getD i .ending)) = (List.range Pr.all.length).filter fun i => s.broken (Pr.all.getD i .ending) := rfl
  rw [e]
  have h : Pr.all.filter s.broken = ((List.range Pr.all.length).map fun j => Pr.all.getD j .ending).filter s.broken := by rw [map_getD]
  rw [h, List.filter_map, List.map_map]
  rfl
theorem pr_at {i : Nat} {x : V} (h : ([V.str "ending", V.str "filled", V.str "forward", V.str "fresh", V.str "linear", V.str "mended", V.str "moving", V.str "quiet", V.str "rest", V.str "single"] : List V)[i]? = some x) : x = V.str (Pr.all.getD i .ending).str := by
  have e : [V.str "ending", V.str "filled", V.str "forward", V.str "fresh", V.str "linear", V.str "mended", V.str "moving", V.str "quiet", V.str "rest", V.str "single"] = Pr.all.map fun p => V.str p.str := rfl
  rw [e, List.getElem?_map] at h
  rw [List.getD_eq_getElem?_getD]
  cases hp : Pr.all[i]? with
  | none =>
    rw [hp] at h
    cases h
  | some p =>
    rw [hp] at h
    exact (Option.some.inj h).symm
theorem sc_Desk_show : FnScope ["self", "one"] ["self"] (defScope s_Desk_show) := ⟨rfl, rfl, rfl, by decide +kernel, rfl, by decide +kernel, by decide +kernel⟩
theorem ok_Desk_show (T : Txt h0 K mg) : FnOk P w K mg base CX0 13 (He.ma K (He.ga K "Desk") "_show") (fdOf K (He.ma K (He.ga K "Desk") "_show")) ["self"] (spShow K) := by
  refine FnOk.mono (j := 13) ((T.fn_Desk_show).ok sc_Desk_show (fun vs H Q E h => ?_) (fun cdv A outer st0 H vs Q E hr h => ?_)) (by decide)
  · obtain ⟨a, dx, da, wa, L, s, fs, rfl, _⟩ := h
    rfl
  · obtain ⟨a, dx, da, wa, L, s, fs, rfl, hi, hfs, hD, hW, R, C, na, k⟩ := h
    refine ⟨_, PSs.nox ((pss_cons (ps_fldK K (pv 0) (pe_callTy (call_tupK K) (by rfl) T.f_tuple (by decide +kernel) (pa_cons (pe_fldK K (pe_fldK K (pv 0))) pa_nil)))
      (pss_one (ps_fldK K (pv 0) (pe_callTy (call_tupK K) (by rfl) T.f_tuple (by decide +kernel) (pa_cons (pe_lc (own := [("one", 1)]) (g := (gName 1)) rfl sc_Desk_show.nd ((pi_tupK K) (pe_gref T.g_PROMISES)) (blkOk_by (N := ["self", "one"]) (sc := defScope s_Desk_show) (by decide +kernel)) (fun _ _ _ _ _ => (pg_name (i := 1) sc_Desk_show.nd rfl (Or.inl rfl))) (fun _ _ _ _ _ => (pts_one (pt_val (pe_call (ok_is_broken_by T) (hr.mono (by decide)) rfl T.g_is_broken_by T.k_is_broken_by T.b_is_broken_by .nil pass0 (pa_cons (pe_fldK K (pv 0)) (pa_cons (pe_fldK K (pv 0)) (pa_cons (pv 1) (pa_cons (pe_fldK K (pv 0)) pa_nil)))))))) (fun _ _ _ _ _ => (pv 1))) pa_nil)))))), ?_⟩
    have now : fs.lookup ("_now" : Str) = some (V.ref L.p) := by
      rcases hfs with rfl | ⟨dn, br, rfl⟩ <;> rfl
    have hlen : Nat.blt fs.length 1000 = true := by
      rcases hfs with rfl | ⟨dn, br, rfl⟩ <;> rfl
    have ins_t : ∀ ys, HO.ins (He.ga K "Desk") dx fs ≠ .tup ys := fun ys z => by cases z
    have ins_f : ∀ u ys, HO.ins (He.ga K "Desk") dx fs ≠ .frz u (.tup ys) := fun u ys z => by cases z
    refine q_fldIU (fs' := fun p => putF "_done" (.ref p) fs) hi (fun _ _ => ev_var rfl) (eu_tupR (ev_runF T R T.n_Run_events_done (ev_fld (ev_var rfl) hi T.cl_Desk T.n_Desk_now now)) (sq_of R.el)) T.cl_Desk T.n_Desk_done (fun p => rfl) (fun dn H1 np hdn h1 F1 => ?_) hlen
    have R1 : RunAt K H1 L s := R.frame F1 (fun b hb => by rw [List.mem_singleton.mp hb]; exact na) fun b hb xs z => by
      rw [List.mem_singleton.mp hb, hi] at z
      cases z
    have hD1 := fr_sqT F1 hi ins_t ins_f hD
    have hW1 := fr_sqT F1 hi ins_t ins_f hW
    have f1 : ∃ r : List (Str × V), putF "_done" (.ref dn) fs = ([("_design", .ref da), ("_world", .ref wa), ("_now", .ref L.p), ("_done", .ref dn)] : List (Str × V)) ++ r ∧ r.length ≤ 1 ∧ ∀ br, putF "_broken" (.ref br) (([("_design", V.ref da), ("_world", .ref wa), ("_now", .ref L.p), ("_done", .ref dn)] : List (Str × V)) ++ r) = desk5 da wa L.p dn br := by
      rcases hfs with rfl | ⟨dn0, br0, rfl⟩
      · exact ⟨[], rfl, Nat.zero_le _, fun br => rfl⟩
      · exact ⟨[("_broken", .ref br0)], rfl, Nat.le_refl _, fun br => rfl⟩
    obtain ⟨r, hr1, hr2, hr3⟩ := f1
    have h1 : H1 a = some (.ins (He.ga K "Desk") dx (([("_design", .ref da), ("_world", .ref wa), ("_now", .ref L.p), ("_done", .ref dn)] : List (Str × V)) ++ r)) := by rw [h1, hr1]
    refine s_fldIU (xs := brL s) (fs' := fun p => desk5 da wa L.p dn p) h1 (fun _ _ => ev_var rfl) (eu_tupL (EvL.is (el_lcT (xs := [V.str "ending", V.str "filled", V.str "forward", V.str "fresh", V.str "linear", V.str "mended", V.str "moving", V.str "quiet", V.str "rest", V.str "single"]) (fun i => s.broken (Pr.all.getD i .ending)) (fun i => V.str (Pr.all.getD i .ending).str) ev_c (T.t_PROMISES H1) (by show 10 ≤ 40000; decide) (fun _ => rfl) (fun i x H2 e2 hx => ?_) (fun i x H2 e2 hx _ => ?_)) (br_given s))) T.cl_Desk T.n_Desk_broken hr3 (fun br H2 nb hbr h2 F2 => ?_) ?_
    · rw [pr_at hx]
      have dsk : ∀ {σ : L2.St}, σ[0]? = some (some (V.ref a)) → Ev (tVar 0) σ H2 (.ref a) := fun h => ev_var h
      refine et_test (ev_call (sp := spBroken K) (dvs := []) (vs := [.ref da, .ref wa, .str (Pr.all.getD i .ending).str, .ref L.p]) (ea_cons (ev_fld (ev_var rfl) (e2 _ _ h1) T.cl_Desk T.n_Desk_design rfl) (ea_cons (ev_fld (ev_var rfl) (e2 _ _ h1) T.cl_Desk T.n_Desk_world rfl) (ea_cons (ev_var rfl) (ea_cons (ev_fld (ev_var rfl) (e2 _ _ h1) T.cl_Desk T.n_Desk_now rfl) ea_nil)))) fun H3 e3 Q' q' E' => ?_)
      exact ⟨da, wa, L, s, Pr.all.getD i .ending, rfl, ex_t (Ex.trans e2 e3) hD1, ex_t (Ex.trans e2 e3) hW1, R1.mono (Ex.trans e2 e3), C, q'⟩
    · rw [← pr_at hx]
      exact ev_var rfl
    · have R2 : RunAt K H2 L s := R1.frame F2 (fun b hb => by rw [List.mem_singleton.mp hb]; exact na) fun b hb xs z => by
        rw [List.mem_singleton.mp hb, h1] at z
        cases z
      refine k dn br H2 ⟨h2, fr_sqT F2 h1 (fun ys z => by cases z) (fun u ys z => by cases z) hD1, fr_sqT F2 h1 (fun ys z => by cases z) (fun u ys z => by cases z) hW1, R2, ?_, hbr, na⟩ (F1.trans F2)
      refine F2 _ _ hdn fun z => ?_
      have z : dn = a := List.mem_singleton.mp z
      rw [z, h1] at hdn
      cases hdn
    · rw [List.length_append]
      exact Nat.ble_eq.mpr (by show 4 + _ + 1 ≤ 1000; omega)
def desk2 (da wa : Addr) : List (Str × V) := [("_design", .ref da), ("_world", .ref wa)]
def spBeginD (K : PySem.W.Frag) : Sp := fun vs H Q _ => ∃ (a dx da wa l : Addr) (c : Cfg) (as : List Addr) (es : List Evt) (fs : List (Str × V)), vs = [.ref a, .ref l] ∧ H a = some (.ins (He.ga K "Desk") dx fs) ∧ (fs = desk2 da wa ∨ ∃ p dn br, fs = desk5 da wa p dn br) ∧
  SqT K H da (desV c) ∧ SqT K H wa (worV c) ∧ SqL K H l (as.map V.ref) ∧ Paired (evTup H) as es ∧ es.length ≤ 100 ∧ runOk (S.init c) es ∧ CheckOk ((S.init c).run es) ∧
  ∀ D H', DeskAt K H' a D ((S.init c).run es) → D.dx = dx → D.da = da → D.wa = wa → (∀ b ∈ D.L.own, H b = none) → Fr [a] H H' → Q .non H'
theorem sc_Desk_begin : FnScope ["self", "events"] ["self", "events"] (defScope s_Desk_begin) := ⟨rfl, rfl, rfl, by decide +kernel, rfl, by decide +kernel, by decide +kernel⟩
theorem ok_Desk_begin (T : Txt h0 K mg) : FnOk P w K mg base CX0 14 (He.ma K (He.ga K "Desk") "_begin") (fdOf K (He.ma K (He.ga K "Desk") "_begin")) ["self", "events"] (spBeginD K) := by
  refine FnOk.mono (j := 14) ((T.fn_Desk_begin).ok sc_Desk_begin (fun vs H Q E h => ?_) (fun cdv A outer st0 H vs Q E hr h => ?_)) (by decide)
  · obtain ⟨a, dx, da, wa, l, c, as, es, fs, rfl, _⟩ := h
    rfl
  · obtain ⟨a, dx, da, wa, l, c, as, es, fs, rfl, hi, hfs, hD, hW, hl, hev, hlen, hok, C, k⟩ := h
    refine ⟨_, PSs.nox ((pss_cons (ps_fldK K (pv 0) (pe_call (ok_run_of_list T) (hr.mono (by decide)) rfl T.g_run_of_list T.k_run_of_list T.b_run_of_list .nil pass0 (pa_cons (pe_fldK K (pv 0)) (pa_cons (pe_fldK K (pv 0)) (pa_cons (pv 1) pa_nil)))))
      (pss_one (ps_expr (pe_meth0 (pv 0) T.cl_Desk T.m_Desk_show (ok_Desk_show T) (hr.mono (by decide)) T.b_Desk_show .nil pass0))))), ?_⟩
    have fD : fs.lookup ("_design" : Str) = some (V.ref da) := by
      rcases hfs with rfl | ⟨p, dn, br, rfl⟩ <;> rfl
    have fW : fs.lookup ("_world" : Str) = some (V.ref wa) := by
      rcases hfs with rfl | ⟨p, dn, br, rfl⟩ <;> rfl
    have hlen2 : fs.length < 1000 := by
      rcases hfs with rfl | ⟨p, dn, br, rfl⟩ <;> exact Nat.le_of_ble_eq_true rfl
    have cfg : ((S.init c).run es).cfg = c := run_cfg _ _
    refine e_call (vs := [.ref da, .ref wa, .ref l]) (ea_cons (ev_fld (ev_var rfl) hi T.cl_Desk T.n_Desk_design fD) (ea_cons (ev_fld (ev_var rfl) hi T.cl_Desk T.n_Desk_world fW) (ea_cons (ev_var rfl) ea_nil))) fun H1 e1 => ⟨da, wa, l, c, as, es, rfl, ex_t e1 hD, ex_t e1 hW, ex_l e1 hl, Paired.mapP hev fun x y h => e1 _ _ h, hlen, hok, fun L H2 R2 o2 e2 => ?_⟩
    refine ⟨.ref a, rfl, a, _, dx, fs, rfl, (e1.trans e2) _ _ hi, T.cl_Desk, T.n_Desk_now, hlen2, ?_⟩
    have hi2 := (e1.trans e2) _ _ hi
    have own0 : ∀ b ∈ L.own, H b = none := fun b hb => Same.free e1 (o2 b hb)
    have na : a ∉ L.own := fun z => by
      have := own0 a z
      rw [hi] at this
      cases this
    have F3 : Fr [a] H2 (upd H2 a (.ins (He.ga K "Desk") dx (putF "_now" (.ref L.p) fs))) := Fr.upd (by simp)
    have f3 : putF "_now" (.ref L.p) fs = desk3 da wa L.p ∨ ∃ dn br, putF "_now" (.ref L.p) fs = desk5 da wa L.p dn br := by
      rcases hfs with rfl | ⟨p, dn, br, rfl⟩
      · exact .inl rfl
      · exact .inr ⟨dn, br, rfl⟩
    have t1 : ∀ ys, HO.ins (He.ga K "Desk") dx fs ≠ .tup ys := fun ys z => by cases z
    have t2 : ∀ u ys, HO.ins (He.ga K "Desk") dx fs ≠ .frz u (.tup ys) := fun u ys z => by cases z
    refine s_meth (ev_var rfl) upd_same ?_ ea_nil fun H4 e4 => ?_
    · rcases hfs with rfl | ⟨p, dn, br, rfl⟩ <;> rfl
    · have R3 : RunAt K (upd H2 a (.ins (He.ga K "Desk") dx (putF "_now" (.ref L.p) fs))) L ((S.init c).run es) := R2.frame F3 (fun b hb => by rw [List.mem_singleton.mp hb]; exact na) fun b hb xs z => by
        rw [List.mem_singleton.mp hb, hi2] at z
        cases z
      refine ⟨a, dx, da, wa, L, _, _, rfl, e4 _ _ upd_same, f3, ?_, ?_, R3.mono e4, C, na, fun dn br H5 R5 F5 => k _ H5 R5 rfl rfl rfl own0 ?_⟩
      · rw [cfg]
        exact ex_t e4 (fr_sqT F3 hi2 t1 t2 (ex_t (e1.trans e2) hD))
      · rw [cfg]
        exact ex_t e4 (fr_sqT F3 hi2 t1 t2 (ex_t (e1.trans e2) hW))
      · exact (Fr.of (e1.trans e2)).trans (F3.trans ((Fr.of e4).trans F5))
def spDeskInit (K : PySem.W.Frag) : Sp := fun vs H Q _ => ∃ (a dx da wa : Addr) (c : Cfg), vs = [.ref a, .ref da, .ref wa] ∧ H a = some (.ins (He.ga K "Desk") dx []) ∧ SqT K H da (desV c) ∧ SqT K H wa (worV c) ∧ CheckOk (S.init c) ∧
  ∀ D H', DeskAt K H' a D (S.init c) → D.dx = dx → D.da = da → D.wa = wa → (∀ b ∈ D.L.own, H b = none) → Fr [a] H H' → Q .non H'
theorem sc_Desk_init : FnScope ["self", "design", "world"] ["self", "design", "world"] (defScope s_Desk_init) := ⟨rfl, rfl, rfl, by decide +kernel, rfl, by decide +kernel, by decide +kernel⟩
theorem ok_Desk_init (T : Txt h0 K mg) : FnOk P w K mg base CX0 15 (He.ma K (He.ga K "Desk") "__init__") (fdOf K (He.ma K (He.ga K "Desk") "__init__")) ["self", "design", "world"] (spDeskInit K) := by
  refine FnOk.mono (j := 15) ((T.fn_Desk_init).ok sc_Desk_init (fun vs H Q E h => ?_) (fun cdv A outer st0 H vs Q E hr h => ?_)) (by decide)
  · obtain ⟨a, dx, da, wa, c, rfl, _⟩ := h
    rfl
  · obtain ⟨a, dx, da, wa, c, rfl, hi, hD, hW, C, k⟩ := h
    refine ⟨_, PSs.nox ((pss_cons (ps_expr (pe_call (ok_need_both T) (hr.mono (by decide)) rfl T.g_need_both T.k_need_both T.b_need_both .nil pass0 (pa_cons (pv 1) (pa_cons (pv 2) pa_nil))))
      (pss_cons (ps_asg (pe_tup (pa_cons (pv 1) (pa_cons (pv 2) pa_nil))) (pg_tupK K (pgs_cons (pg_fldK K (pv 0)) (pgs_cons (pg_fldK K (pv 0)) pgs_nil))))
      (pss_one (ps_expr (pe_meth (pv 0) T.cl_Desk T.m_Desk_begin (ok_Desk_begin T) (hr.mono (by decide)) T.b_Desk_begin .nil pass0 (pa_cons (pe_lst pa_nil) pa_nil))))))), ?_⟩
    refine q_drop (ev_call (sp := spNeedBoth K) (dvs := []) (vs := [.ref da, .ref wa]) (ea_cons (ev_var rfl) (ea_cons (ev_var rfl) ea_nil)) fun H1 e1 Q' q' E' => ⟨da, wa, c, rfl, ex_t e1 hD, ex_t e1 hW, q'⟩) fun H1 e1 => ?_
    refine q_asg2 (ea_cons (ev_var rfl) (ea_cons (ev_var rfl) ea_nil)) fun H2 e2 => ?_
    have e02 := e1.trans e2
    refine ⟨.ref a, rfl, a, _, dx, [], rfl, e02 _ _ hi, T.cl_Desk, T.n_Desk_design, by show 0 < 1000; decide, ?_⟩
    refine ⟨.ref a, rfl, a, _, dx, _, rfl, upd_same, T.cl_Desk, T.n_Desk_world, by show 1 < 1000; decide, ?_⟩
    have F1 : Fr [a] H2 (upd (upd H2 a (.ins (He.ga K "Desk") dx (putF "_design" (.ref da) []))) a (.ins (He.ga K "Desk") dx (desk2 da wa))) := (Fr.upd (by simp)).trans (Fr.upd (by simp))
    have t1 : ∀ ys, HO.ins (He.ga K "Desk") dx [] ≠ .tup ys := fun ys z => by cases z
    have t2 : ∀ u ys, HO.ins (He.ga K "Desk") dx [] ≠ .frz u (.tup ys) := fun u ys z => by cases z
    have hD3 := fr_sqT F1 (e02 _ _ hi) t1 t2 (ex_t e02 hD)
    have hW3 := fr_sqT F1 (e02 _ _ hi) t1 t2 (ex_t e02 hW)
    show tDrop _ _ _ (upd (upd H2 a (.ins (He.ga K "Desk") dx (putF "_design" (.ref da) []))) a (.ins (He.ga K "Desk") dx (desk2 da wa)))
    refine s_methL (a := a) (d := dx) (fs := desk2 da wa) (ev_var rfl) upd_same rfl (el_lst ea_nil (by show 0 ≤ 100000; decide)) fun l H5 nl e5 hl => ?_
    refine ⟨a, dx, da, wa, l, c, [], [], desk2 da wa, rfl, e5 _ _ upd_same, .inl rfl, ex_t e5 hD3, ex_t e5 hW3, sq_of hl, .nil, Nat.zero_le _, trivial, C, fun D H6 R6 q1 q2 q3 o6 F6 => ?_⟩
    have Fall : Fr [a] H H5 := (Fr.of e02).trans (F1.trans (Fr.of e5))
    refine k D H6 R6 q1 q2 q3 (fun b hb => Fall.none_back (o6 b hb) fun z => ?_) (Fall.trans F6)
    rw [List.mem_singleton.mp z] at hb
    exact R6.na hb
end
end K10
end
section
set_option Elab.async false
set_option linter.all false
set_option maxRecDepth 100000
set_option maxHeartbeats 4000000
namespace K10
open PySem PySem.Spec PyProof.Rows L2 Evl
theorem ev_lay (e : Evt) : (evData e).canLay0 = true := by
  have hw : ∀ w : Wd, PyData.strOk w.str = true := by intro w; cases w <;> decide +kernel
  have h1 : PyData.strOk "evict" = true := by decide +kernel
  have h2 : PyData.strOk "copy" = true := by decide +kernel
  cases e with
  | evict => simp [evData, PyData.canLay0, PyData.canLayAll0, h1]
  | copy => simp [evData, PyData.canLay0, PyData.canLayAll0, h2]
  | op w n => simp [evData, PyData.canLay0, PyData.canLayAll0, hw w]
theorem ev_shaped (e : Evt) : SeqAt.shaped (evData e) = true := by
  unfold SeqAt.shaped
  rw [ev_lay, depth_ev] <;> rfl
theorem evs_layAll : ∀ es : List Evt, PyData.canLayAll0 (es.map evData) = true
  | [] => by simp [PyData.canLayAll0]
  | e :: es => by
    rw [List.map_cons]
    simp only [PyData.canLayAll0, ev_lay e, evs_layAll es, Bool.and_self]
theorem evs_depAll : ∀ es : List Evt, PyData.depthAll (es.map evData) ≤ 1
  | [] => by simp [PyData.depthAll]
  | e :: es => by
    rw [List.map_cons]
    simp only [PyData.depthAll, depth_ev e]
    have := evs_depAll es
    omega
theorem evs_shaped (es : List Evt) : SeqAt.shaped (.list (es.map evData)) = true := by
  unfold SeqAt.shaped
  have h := evs_depAll es
  have h1 : (PyData.list (es.map evData)).canLay0 = true := by simp only [PyData.canLay0, evs_layAll]
  have h2 : (PyData.list (es.map evData)).depth ≤ 64 := by
    simp only [PyData.depth]
    omega
  rw [h1, decide_eq_true h2] <;> rfl
theorem ev_eqv (a b : Evt) : PyData.eqv (evData a) (evData b) = decide (a = b) := by
  have h0 : ∀ w v : Wd, (w.str == v.str) = decide (w = v) := by
    intro w v; cases w <;> cases v <;> decide +kernel
  have h1 : ∀ w : Wd, (w.str == ("evict" : Str)) = false ∧ (("evict" : Str) == w.str) = false := by intro w; cases w <;> decide +kernel
  have h2 : ∀ w : Wd, (w.str == ("copy" : Str)) = false ∧ (("copy" : Str) == w.str) = false := by intro w; cases w <;> decide +kernel
  have h3 : (("copy" : Str) == ("evict" : Str)) = false := by decide +kernel
  have h4 : (("evict" : Str) == ("copy" : Str)) = false := by decide +kernel
  cases a with
  | evict =>
    cases b with
    | evict => simp [evData, PyData.eqv, PyData.eqvAll]
    | copy => simp [evData, PyData.eqv, PyData.eqvAll, h4]
    | op v m => simp [evData, PyData.eqv, PyData.eqvAll]
  | copy =>
    cases b with
    | evict => simp [evData, PyData.eqv, PyData.eqvAll, h3]
    | copy => simp [evData, PyData.eqv, PyData.eqvAll]
    | op v m => simp [evData, PyData.eqv, PyData.eqvAll]
  | op w n =>
    cases b with
    | evict => simp [evData, PyData.eqv, PyData.eqvAll]
    | copy => simp [evData, PyData.eqv, PyData.eqvAll]
    | op v m =>
      simp only [evData, PyData.eqv, PyData.eqvAll, h0, Bool.and_true]
      by_cases hw : w = v
      · subst hw
        by_cases hn : n = m
        · subst hn
          simp
        · have : ¬ ((n : Int) = (m : Int)) := by omega
          simp [hn, this]
      · simp [hw]
theorem evs_any (es : List Evt) (e : Evt) : ((es.map evData).any fun z => PyData.eqv z (evData e)) = decide (e ∈ es) := by
  rw [List.any_map, Bool.eq_iff_iff, List.any_eq_true, decide_eq_true_iff]
  constructor
  · rintro ⟨x, hx, h⟩
    have h : PyData.eqv (evData x) (evData e) = true := h
    rw [ev_eqv] at h
    rw [← of_decide_eq_true h]
    exact hx
  · intro h
    refine ⟨e, h, ?_⟩
    show PyData.eqv (evData e) (evData e) = true
    rw [ev_eqv]
    exact decide_eq_true rfl
theorem dp_evs {K : PySem.W.Frag} {H : Hp} : ∀ {bs : List (Evt × Addr)}, (∀ b ∈ bs, SqT K H b.2 (evEnc b.1)) → DpAll K H (bs.map fun b => V.ref b.2) ((bs.map (·.1)).map evData)
  | [], _ => .nil
  | b :: bs, h => .cons (dp_ev K (h b (List.mem_cons_self ..))) (dp_evs fun c hc => h c (List.mem_cons_of_mem _ hc))
section
variable {K : PySem.W.Frag} {σ : L2.St} {H : Hp} {ta tb : TE} {a : Addr} {e : Evt} {es : List Evt}
theorem rv_inE (neg : Bool) {p : Addr} (ha : SqT K H a (evEnc e)) (hp : EvL' H p es) : ∀ H1, Ex H H1 → ∀ Q : VK, Q (.bl (decide (e ∈ es))) H1 → rInD K (.ref a) (.ref p) H1 Q := fun H1 x Q q => by
  obtain ⟨bs, h1, h2, h3⟩ := hp.mono x
  refine ⟨evData e, es.map evData, dp_ev K (ex_t x ha), ?_, ev_shaped e, evs_shaped es, by rw [evs_any]; exact q⟩
  rw [← h1]
  exact .lst (sq_of h2) (dp_evs fun b hb => st_of (h3 b hb))
theorem ev_inE (ha : Ev ta σ H (.ref a)) (hx : SqT K H a (evEnc e)) (hb : ELE tb σ H es) : Ev (tOp (rInD K) ta tb) σ H (.bl (decide (e ∈ es))) := fun H1 x Q q =>
  ha H1 x _ fun H2 x2 => hb H2 (x.trans x2) _ fun p H3 hp x3 h3 => rv_inE false (ex_t ((x.trans x2).trans x3) hx) h3 H3 (Ex.refl _) _ (q H3 (x2.trans x3))
theorem ev_niE (ha : Ev ta σ H (.ref a)) (hx : SqT K H a (evEnc e)) (hb : ELE tb σ H es) : Ev (tOp (rNotInD K) ta tb) σ H (.bl (!decide (e ∈ es))) := fun H1 x Q q =>
  ha H1 x _ fun H2 x2 => hb H2 (x.trans x2) _ fun p H3 hp x3 h3 => by
    obtain ⟨bs, h1, h2, h4⟩ := h3
    refine ⟨evData e, es.map evData, dp_ev K (ex_t ((x.trans x2).trans x3) hx), ?_, ev_shaped e, evs_shaped es, by rw [evs_any]; exact q H3 (x2.trans x3)⟩
    rw [← h1]
    exact .lst (sq_of h2) (dp_evs fun b hb => st_of (h4 b hb))
theorem el_lcE {te tl : TE} {t : TT} {j : Nat} {vs : List Nat} (f : Nat → Bool) (v : Nat → V) (h : ELE tl σ H es) (hz : es.length ≤ 40000) (hw : ∀ x, wipe ((wipe σ vs).set j (some x)) vs = wipe σ vs)
    (ht : ∀ (i : Nat) (b : Addr) (e : Evt) H1, Ex H H1 → es[i]? = some e → evTup H1 b e → EvT t ((wipe σ vs).set j (some (.ref b))) H1 (f i)) (he : ∀ (i : Nat) (b : Addr) (e : Evt) H1, Ex H H1 → es[i]? = some e → evTup H1 b e → f i = true → Ev te ((wipe σ vs).set j (some (.ref b))) H1 (v i)) :
    EvL (tLc (iList K tl) (gName j) t te vs) σ H (given es.length f v) := fun H0 x Q q => lc_bind (h H0 x _ fun p H1 hp x1 hE => ⟨p, rfl, by
  obtain ⟨bs, h1, h2, h3⟩ := hE
  have hl : (bs.map fun b => V.ref b.2).length = es.length := by rw [List.length_map, ← h1, List.length_map]
  have at_ : ∀ {i : Nat} {y : V}, (bs.map fun b => V.ref b.2)[i]? = some y → ∃ b : Evt × Addr, y = .ref b.2 ∧ es[i]? = some b.1 ∧ H1 b.2 = some (.tup (evEnc b.1)) := fun {i y} hy => by
    rw [List.getElem?_map] at hy
    cases hb : bs[i]? with
    | none =>
      rw [hb] at hy
      cases hy
    | some b =>
      rw [hb] at hy
      cases hy
      exact ⟨b, rfl, by rw [← h1, List.getElem?_map, hb] <;> rfl, h3 b (List.mem_of_getElem? hb)⟩
  have key : EvL (tLc (iList K (tC (.ref p))) (gName j) t te vs) σ H1 (given (bs.map fun b => V.ref b.2).length f v) := el_lcL f v ev_c (sq_of h2) (by rw [hl]; exact hz) hw
    (fun i y H2 x2 hy => by
      obtain ⟨b, rfl, hb, hb2⟩ := at_ hy
      exact ht i b.2 b.1 H2 ((x.trans x1).trans x2) hb (x2 _ _ hb2))
    (fun i y H2 x2 hy hf => by
      obtain ⟨b, rfl, hb, hb2⟩ := at_ hy
      exact he i b.2 b.1 H2 ((x.trans x1).trans x2) hb (x2 _ _ hb2) hf)
  rw [hl] at key
  exact key H1 (Ex.refl _) Q fun r H2 nr x2 hr => q r H2 (Same.free x1 nr) (x1.trans x2) hr⟩)
end
def rEqNT (K : PySem.W.Frag) : R2 := fun x y H Q => ∃ a b xs, x = .ref a ∧ y = .ref b ∧ SqT K H a xs ∧ SqT K H b [] ∧ Q (.bl xs.isEmpty) H
def rNeNT (K : PySem.W.Frag) : R2 := fun x y H Q => ∃ a b xs, x = .ref a ∧ y = .ref b ∧ SqT K H a xs ∧ SqT K H b [] ∧ Q (.bl (!xs.isEmpty)) H
section
variable {X : Cx} (K : PySem.W.Frag)
theorem istup {h : Heap} {a : Addr} {its : Array Value} (t : IsTup h a its) : h.IsTuple a its := t
theorem op_eqNT (hu : X.A.units < cLine) (hK : X.K = K := by rfl) : OpR X (compareOp .Eq) (rEqNT K) := by
  subst hK
  intro pins s σ H x y u v Q I rx ry h
  obtain ⟨a, b, xs, rfl, rfl, hx, hy, q⟩ := h
  obtain rfl : u = Value.ref a := rx
  obtain rfl : v = Value.ref b := ry
  obtain ⟨its, rv, hl, hz⟩ := I.tuple hx
  obtain ⟨its2, rv2, hl2, hz2⟩ := I.tuple hy
  cases rv2
  refine SeqAt.eq_tupleAt (e := fun _ => true) (istup hl) (istup hl2) hu (fun j h1 h2 => absurd h2 (by simp)) ⟨.bl xs.isEmpty, H, I, ?_, q⟩
  cases rv <;> rfl
theorem op_neNT (hu : X.A.units < cLine) (hK : X.K = K := by rfl) : OpR X (compareOp .NotEq) (rNeNT K) := by
  subst hK
  intro pins s σ H x y u v Q I rx ry h
  obtain ⟨a, b, xs, rfl, rfl, hx, hy, q⟩ := h
  obtain rfl : u = Value.ref a := rx
  obtain rfl : v = Value.ref b := ry
  obtain ⟨its, rv, hl, hz⟩ := I.tuple hx
  obtain ⟨its2, rv2, hl2, hz2⟩ := I.tuple hy
  cases rv2
  refine SeqAt.RcNeAt.tuples (e := fun _ => true) (istup hl) (istup hl2) hu (fun j h1 h2 => absurd h2 (by simp)) _ _ _ _ ⟨.bl (!xs.isEmpty), H, I, ?_, q⟩
  cases rv <;> rfl
end
end K10
end
section
set_option Elab.async false
set_option linter.all false
set_option maxRecDepth 100000
set_option maxHeartbeats 4000000
namespace K10
open PySem PySem.Spec PyProof.Rows L2 Evl
def S.ans (s : S) (z : Str) : V :=
  if z = "events" then .str (Txt.join "; " (s.evs.map evTxt)) else if z = "cache" then (match s.cache with
    | none => .str "nothing"
    | some v => .str (toString v)) else if z = "database" then .str (toString s.db)
  else if z = "broken" then (if (Pr.all.filter s.broken).isEmpty then .str "none" else .str (Txt.join " " ((Pr.all.filter s.broken).map Pr.str))) else .non
structure AnsOk (s : S) : Prop where
  ops : s.ops.length ≤ 60
  wait : waitOk s
  small : ∀ e ∈ s.evs, evSmall e ∧ (evTxt e).length ≤ 20
  many : s.evs.length ≤ 200
  cache : ∀ v, s.cache = some v → v.natAbs < 1000000
  db : s.db.natAbs < 1000000
theorem sum_le {l : List Nat} {k : Nat} (h : ∀ x ∈ l, x ≤ k) : l.sum ≤ l.length * k := by
  induction l with
  | nil => exact Nat.zero_le _
  | cons x l ih =>
    have h1 := h x (List.mem_cons_self ..)
    have h2 := ih fun y hy => h y (List.mem_cons_of_mem _ hy)
    rw [List.sum_cons, List.length_cons, Nat.succ_mul]
    omega
section
variable {P : Program} {w : World} {base h0 : Heap} {K : PySem.W.Frag} {mg : Str → Option Value}
def spDone (K : PySem.W.Frag) : Sp := fun vs H Q _ => ∃ (a : Addr) (D : Dk) (s : S), vs = [.ref a] ∧ DeskAt K H a D s ∧ RetV (.ref D.dn) H Q
def spBrk (K : PySem.W.Frag) : Sp := fun vs H Q _ => ∃ (a : Addr) (D : Dk) (s : S), vs = [.ref a] ∧ DeskAt K H a D s ∧ RetV (.ref D.br) H Q
theorem sc_Desk_done : FnScope ["self"] ["self"] (defScope s_Desk_done) := ⟨rfl, rfl, rfl, by decide +kernel, rfl, by decide +kernel, by decide +kernel⟩
theorem ok_Desk_done (T : Txt h0 K mg) : FnOk P w K mg base CX0 1 (gAd K "done") (fdOf K (gAd K "done")) ["self"] (spDone K) := by
  refine FnOk.mono (j := 1) ((T.fn_Desk_done).1.ok sc_Desk_done (fun vs H Q E h => ?_) (fun cdv A outer st0 H vs Q E hr h => ?_)) (by decide)
  · obtain ⟨a, D, s, rfl, _⟩ := h
    rfl
  · obtain ⟨a, D, s, rfl, R, k⟩ := h
    refine ⟨_, PSs.nox ((pss_one (ps_ret (pe_fldK K (pv 0))))), ?_⟩
    exact s_ret (ev_fld (ev_var rfl) R.ins T.cl_Desk T.n_Desk_done rfl) k
theorem sc_Desk_broken : FnScope ["self"] ["self"] (defScope s_Desk_broken) := ⟨rfl, rfl, rfl, by decide +kernel, rfl, by decide +kernel, by decide +kernel⟩
theorem ok_Desk_broken (T : Txt h0 K mg) : FnOk P w K mg base CX0 1 (gAd K "broken") (fdOf K (gAd K "broken")) ["self"] (spBrk K) := by
  refine FnOk.mono (j := 1) ((T.fn_Desk_broken).1.ok sc_Desk_broken (fun vs H Q E h => ?_) (fun cdv A outer st0 H vs Q E hr h => ?_)) (by decide)
  · obtain ⟨a, D, s, rfl, _⟩ := h
    rfl
  · obtain ⟨a, D, s, rfl, R, k⟩ := h
    refine ⟨_, PSs.nox ((pss_one (ps_ret (pe_fldK K (pv 0))))), ?_⟩
    exact s_ret (ev_fld (ev_var rfl) R.ins T.cl_Desk T.n_Desk_broken rfl) k
theorem z_is (z y : Str) : decide (V.str z = V.str y) = decide (z = y) := decide_eq_decide.mpr ⟨fun h => by injection h, fun h => by rw [h]⟩
theorem lenU {A : Around} (h : A.units + 64 < cLine) : A.units < cLine := Nat.lt_of_le_of_lt (Nat.le_add_right _ 64) h
def spAnswer (K : PySem.W.Frag) : Sp := fun vs H Q _ => ∃ (a : Addr) (D : Dk) (s : S) (z : Str), vs = [.ref a, .str z] ∧ DeskAt K H a D s ∧ AnsOk s ∧ RetV (s.ans z) H Q
theorem brL_map (s : S) : brL s = ((Pr.all.filter s.broken).map Pr.str).map V.str := by
  unfold brL
  rw [List.map_map]
  rfl
theorem sc_Desk_answer : FnScope ["self", "line", "event"] ["self", "line"] (defScope s_Desk_answer) := ⟨rfl, rfl, rfl, by decide +kernel, rfl, by decide +kernel, by decide +kernel⟩
theorem ok_Desk_answer (T : Txt h0 K mg) : FnOk P w K mg base CX0 4 (He.ma K (He.ga K "Desk") "_answer") (fdOf K (He.ma K (He.ga K "Desk") "_answer")) ["self", "line"] (spAnswer K) := by
  refine FnOk.mono (j := 4) ((T.fn_Desk_answer).ok sc_Desk_answer (fun vs H Q E h => ?_) (fun cdv A outer st0 H vs Q E hr h => ?_)) (by decide)
  · obtain ⟨a, D, s, z, rfl, _⟩ := h
    rfl
  · obtain ⟨a, D, s, z, rfl, R, O, k⟩ := h
    refine ⟨_, PSs.nox ((pss_cons (ps_if (pt_cmpR op_eq (pv 1) pe_str (nomark _)) (pss_one (ps_ret (pe_joinK K pe_str (pe_lc (own := [("event", 2)]) (g := (gName 2)) (tt := tYes) rfl sc_Desk_answer.nd (pi_listK K (pe_meth0 (pe_fldK K (pv 0)) T.cl_Run T.m_Run_events (ok_Run_events T) (hr.mono (by decide)) T.b_Run_events .nil pass0)) (blkOk_by (N := ["self", "line", "event"]) (sc := defScope s_Desk_answer) (by decide +kernel)) (fun _ _ _ _ _ => (pg_name (i := 2) sc_Desk_answer.nd rfl (Or.inl rfl))) (fun _ _ _ _ _ => pts_nil) (fun _ _ _ _ _ => (pe_call (ok_event_text T) (hr.mono (by decide)) rfl T.g_event_text T.k_event_text T.b_event_text .nil pass0 (pa_cons (pv 2) pa_nil))))))) pss_nil)
      (pss_cons (ps_if (pt_cmpR op_eq (pv 1) pe_str (nomark _)) (pss_one (ps_ret (pe_ifExp (pt_cmp (pc_isN (pe_fldK K (pe_fldK K (pv 0))))) pe_str (pe_callTy call_strB (by rfl) T.f_str (by decide +kernel) (pa_cons (pe_fldK K (pe_fldK K (pv 0))) pa_nil))))) pss_nil)
      (pss_cons (ps_if (pt_cmpR op_eq (pv 1) pe_str (nomark _)) (pss_one (ps_ret (pe_callTy call_strB (by rfl) T.f_str (by decide +kernel) (pa_cons (pe_fldK K (pe_fldK K (pv 0))) pa_nil)))) pss_nil)
      (pss_cons (ps_if (pt_cmpR op_eq (pv 1) pe_str (nomark _)) (pss_one (ps_ret (pe_ifExp (pt_cmpR (op_neNT K (lenU hr.units)) (pe_fldK K (pv 0)) (pe_tup pa_nil) (nomark _)) (pe_joinK K pe_str (pe_fldK K (pv 0))) pe_str))) pss_nil)
      (pss_one (ps_ret pe_non))))))), ?_⟩
    have now : ∀ {σ : L2.St} {H'}, Ex H H' → σ[0]? = some (some (V.ref a)) → Ev (tFld K (tVar 0) "_now") σ H' (.ref D.L.p) := fun {σ H'} e h => ev_fld (ev_var h) (e _ _ R.ins) T.cl_Desk T.n_Desk_now rfl
    unfold S.ans at k
    refine q_when (et_is (et_test (ev_op (ev_var rfl) ev_c (rv_eq rfl))) (z_is z "events")) (fun hb H1 e1 => ?_) (fun hb H1 e1 => ?_)
    · rw [if_pos (of_decide_eq_true hb)] at k
      have R1 := R.mono e1
      refine s_ret (ev_join ev_c (EvL.is (el_lcE (es := s.evs) (fun _ => true) (fun i => V.str (evTxt (s.evs.getD i .evict))) (fun H2 e2 Q' q' => ?_) (by have := O.many; omega) (fun _ => rfl) (fun i b e H2 e2 he hb => et_yes) (fun i b e H2 e2 he hb _ => ?_)) ?_) ?_) fun H2 e2 => k _ (e1.trans e2)
      · refine now (e1.trans e2) rfl H2 (Ex.refl _) _ fun H3 e3 => ⟨D.L.p, _, _, rfl, (e2.trans e3) _ _ R1.run.run, rfl, ?_⟩
        exact ⟨D.L, s, rfl, R1.run.mono (Ex.trans e2 e3), Nat.le_trans O.ops (by decide), O.wait, fun p H4 np e4 hp => q' p H4 (Same.free e3 np) (e3.trans e4) hp⟩
      · have hm := List.mem_of_getElem? he
        rw [List.getD_eq_getElem?_getD, he]
        exact ev_call (sp := spEvTxt K) (dvs := []) (vs := [.ref b]) (ea_cons (ev_var rfl) ea_nil) fun H3 e3 Q' q' E' => ⟨b, e, rfl, ex_t e3 (st_of hb), (O.small e hm).1, q'⟩
      · rw [given_all]
        have h := map_getD s.evs Evt.evict
        have h2 : (s.evs.map evTxt).map V.str = (((List.range s.evs.length).map (fun j => s.evs.getD j .evict)).map evTxt).map V.str := by rw [h]
        rw [h2, List.map_map, List.map_map]
        rfl
      · rw [List.map_map]
        have h1 := sum_le (l := s.evs.map ((fun x => x.length) ∘ evTxt)) (k := 20) fun x hx => by
          obtain ⟨e, he, rfl⟩ := List.mem_map.mp hx
          exact (O.small e he).2
        have h2 : ("; " : Str).length = 2 := by decide +kernel
        have h3 := O.many
        rw [List.length_map] at h1 ⊢
        rw [h2]
        omega
    rw [if_neg (of_decide_eq_false hb)] at k
    refine q_when (et_is (et_test (ev_op (ev_var rfl) ev_c (rv_eq rfl))) (z_is z "cache")) (fun hb H2 e2 => ?_) (fun hb H2 e2 => ?_)
    · rw [if_pos (of_decide_eq_true hb)] at k
      have e02 := e1.trans e2
      have R2 := R.mono e02
      have hc : ∀ {H'}, Ex H2 H' → Ev (tFld K (tFld K (tVar 0) "_now") "cache") [some (V.ref a), some (.str z), none] H' (oV s.cache) := fun {H'} e => ev_runF T (R2.run.mono e) T.n_Run_cache (now (e02.trans e) rfl)
      refine s_ret (ev_if (b := decide (s.cache = none)) (et_B (ev_is (ev_isN (hc (Ex.refl _))) (by rw [oV_non]))) (fun hn => ?_) fun hn => ?_) fun H3 e3 => k _ (e02.trans e3)
      · rw [of_decide_eq_true hn]
        exact ev_c
      · cases hs : s.cache with
        | none =>
          rw [hs] at hn
          cases hn
        | some v => exact ev_strI (ev_is (hc (Ex.refl _)) (by rw [hs] <;> rfl)) (O.cache v hs)
    rw [if_neg (of_decide_eq_false hb)] at k
    refine q_when (et_is (et_test (ev_op (ev_var rfl) ev_c (rv_eq rfl))) (z_is z "database")) (fun hb H3 e3 => ?_) (fun hb H3 e3 => ?_)
    · rw [if_pos (of_decide_eq_true hb)] at k
      have e03 := e1.trans (e2.trans e3)
      exact s_ret (ev_strI (ev_runF T (R.mono e03).run T.n_Run_database (now e03 rfl)) O.db) fun H4 e4 => k _ (e03.trans e4)
    rw [if_neg (of_decide_eq_false hb)] at k
    refine q_when (et_is (et_test (ev_op (ev_var rfl) ev_c (rv_eq rfl))) (z_is z "broken")) (fun hb H4 e4 => ?_) (fun hb H4 e4 => ?_)
    · rw [if_pos (of_decide_eq_true hb)] at k
      have e04 := e1.trans (e2.trans (e3.trans e4))
      have R4 := R.mono e04
      have hbr : ∀ {H'}, Ex H4 H' → Ev (tFld K (tVar 0) "_broken") [some (V.ref a), some (.str z), none] H' (.ref D.br) := fun {H'} e => ev_fld (ev_var rfl) ((e04.trans e) _ _ R.ins) T.cl_Desk T.n_Desk_broken rfl
      have hem : (brL s).isEmpty = (Pr.all.filter s.broken).isEmpty := by
        unfold brL
        rw [List.isEmpty_map]
      refine s_ret (ev_if (b := !(Pr.all.filter s.broken).isEmpty) (et_test (ev_opU (hbr (Ex.refl _)) (eu_tup ea_nil (by show 0 ≤ 100000; decide)) fun q H5 hq e5 H6 e6 Q' q' => ⟨D.br, q, brL s, rfl, rfl, st_of ((e5.trans e6) _ _ R4.br), st_of (e6 _ _ hq), by rw [hem]; exact q' _ (Ex.refl _)⟩)) (fun hn => ?_) fun hn => ?_) fun H5 e5 => k _ (e04.trans e5)
      · rw [if_neg (by simpa using hn)]
        refine ev_joinT ev_c (hbr (Ex.refl _)) (st_of (by rw [← brL_map]; exact R4.br)) ?_
        have h1 := sum_le (l := ((Pr.all.filter s.broken).map Pr.str).map (·.length)) (k := 20) fun x hx => by
          obtain ⟨y, hy, rfl⟩ := List.mem_map.mp hx
          obtain ⟨p, _, rfl⟩ := List.mem_map.mp hy
          cases p <;> decide +kernel
        have h2 : (" " : Str).length = 1 := by decide +kernel
        have h3 := List.length_filter_le s.broken Pr.all
        have h4 : Pr.all.length = 10 := rfl
        rw [List.length_map, List.length_map] at h1
        rw [List.length_map, h2]
        omega
      · rw [if_pos (by simpa using hn)]
        exact ev_c
    rw [if_neg (of_decide_eq_false hb)] at k
    exact s_ret ev_c fun H5 e5 => k _ (e1.trans (e2.trans (e3.trans (e4.trans e5))))
end
end K10
end
section
set_option Elab.async false
set_option linter.all false
set_option maxRecDepth 100000
set_option maxHeartbeats 4000000
namespace K10
open PySem PySem.Spec PyProof.Rows L2 Evl
section
variable {P : Program} {w : World} {base h0 : Heap} {K : PySem.W.Frag} {mg : Str → Option Value}
theorem RunAt.own_not {H : Hp} {L : Lay} {s : S} (R : RunAt K H L s) {b : Addr} (h : b ∈ L.own) : (∀ ys, H b ≠ some (.tup ys)) ∧ ∀ o ys, H b ≠ some (.frz o (.tup ys)) := by
  have key : ∀ {u : HO}, H b = some u → (∀ ys, u ≠ .tup ys) → (∀ o ys, u ≠ .frz o (.tup ys)) → (∀ ys, H b ≠ some (.tup ys)) ∧ ∀ o ys, H b ≠ some (.frz o (.tup ys)) := fun {u} e h1 h2 => ⟨fun ys z => h1 ys (Option.some.inj (e.symm.trans z)), fun o ys z => h2 o ys (Option.some.inj (e.symm.trans z))⟩
  rcases List.mem_cons.mp h with rfl | h
  · exact key R.run (fun ys z => by cases z) (fun o ys z => by cases z)
  rcases List.mem_cons.mp h with rfl | h
  · exact key R.ol (fun ys z => by cases z) (fun o ys z => by cases z)
  rcases List.mem_cons.mp h with rfl | h
  · exact key R.el (fun ys z => by cases z) (fun o ys z => by cases z)
  obtain ⟨t, ht, rfl⟩ := List.mem_map.mp h
  obtain ⟨i, hi⟩ := List.mem_iff_getElem?.mp ht
  have hl := (List.getElem?_eq_some_iff.mp hi).1
  rw [R.len] at hl
  exact key (R.op i t _ hi (List.getElem?_eq_getElem hl)).1 (fun ys z => by cases z) (fun o ys z => by cases z)
theorem q_dcall {H : Hp} {σ : L2.St} {ta : TA} {vs : List V} {sp : Sp} {D : Ends} {tz : TS} {E : XK} (h : EvA ta σ H vs) (k : ∀ H1, Ex H H1 → sp (vs ++ []) H1 (fun _ H2 => tz D σ H2) E) : tSeq (tDrop (tCall sp [] E ta)) tz D σ H := h H (Ex.refl H) _ k
theorem x_mk {H : Hp} {σ : L2.St} {ta : TA} {vs : List V} {sp : Sp} {C : Addr} {Q : XK} (h : EvA ta σ H vs) (hl : vs.length ≤ 1000) (k : ∀ H1, Ex H H1 → ∀ a, H1 a = none → sp (.ref a :: (vs ++ [])) (upd H1 a (exo a C none))
    (fun v H2 => v = .non ∧ ∃ (d : Addr) (fs : List (Str × V)), H2 a = some (exo a C (some d)) ∧ H2 d = some (exd d fs) ∧ H1 d = none ∧ Q (.ref C) (some d) (upd (del H2 a) d (.xd fs))) (fun _ _ _ => False)) : tMkO C sp [] ta σ H Q := h H (Ex.refl H) _ fun H1 e1 => ⟨hl, k H1 e1⟩
def spRun (K : PySem.W.Frag) : Sp := fun vs H Q E => ∃ (a : Addr) (D : Dk) (s : S), DeskAt K H a D s ∧ AnsOk s ∧ s.past.length ≤ 50 ∧ (
  (∃ x t, vs = [.ref a, x] ∧ (∀ H1, Ex H H1 → TyX K H1 x t) ∧ PySem.W.kitOne K t (.type "str") = some false ∧ ∀ H1, Ex H H1 → E (.ref (He.ga K "NotText")) none H1) ∨
  (∃ z, vs = [.ref a, .str z] ∧ s.ans z ≠ .non ∧ RetV (s.ans z) H Q) ∨
  (∃ z, vs = [.ref a, .str z] ∧ GoodZ z none ∧ ∀ d H1, Ex H H1 → H d = none → H1 d = some (.xd [("line", .int 1)]) → E (.ref (itC K)) (some d) H1) ∨
  (∃ e, vs = [.ref a, .str (evTxt e)] ∧ GoodZ (evTxt e) (some (evEnc e)) ∧ e ∉ s.evs ∧ ∀ H1, Ex H H1 → E (.ref (He.ga K "NotNow")) none H1) ∨
  ∃ e, vs = [.ref a, .str (evTxt e)] ∧ GoodZ (evTxt e) (some (evEnc e)) ∧ e ∈ s.evs ∧ evOk s e ∧ CheckOk (s.doEv e) ∧
    ∀ D' H', DeskAt K H' a D' (s.doEv e) → D'.dx = D.dx → D'.da = D.da → D'.wa = D.wa → Grow D.L D'.L H → Fr (a :: D.L.own) H H' → Q .non H')
theorem ans_non {s : S} {z : Str} {r : Option (List V)} (g : GoodZ z r) : s.ans z = .non := by
  unfold S.ans
  rw [if_neg g.n1, if_neg g.n2, if_neg g.n3, if_neg g.n4]
theorem s_ans_scal {s : S} {z : Str} : decide (s.ans z = .non) = decide (s.ans z = V.non) := rfl
theorem sc_Desk_run : FnScope ["self", "line", "found", "event"] ["self", "line"] (defScope s_Desk_run) := ⟨rfl, rfl, rfl, by decide +kernel, rfl, by decide +kernel, by decide +kernel⟩
theorem ok_Desk_run (T : TxtP P h0 K mg) : FnOk P w K mg base (L2.CX P w) 14 (He.ma K (He.ga K "Desk") "run") (fdOf K (He.ma K (He.ga K "Desk") "run")) ["self", "line"] (spRun K) := by
  refine FnOk.mono (j := 14) ((T.fn_Desk_run).ok sc_Desk_run (fun vs H Q E h => ?_) (fun cdv A outer st0 H vs Q E hr h => ?_)) (by decide)
  · obtain ⟨a, D, s, _, _, _, h | h | h | h | h⟩ := h
    · obtain ⟨x, t, rfl, _⟩ := h
      rfl
    · obtain ⟨z, rfl, _⟩ := h
      rfl
    · obtain ⟨z, rfl, _⟩ := h
      rfl
    · obtain ⟨e, rfl, _⟩ := h
      rfl
    · obtain ⟨e, rfl, _⟩ := h
      rfl
  · skip
    refine ⟨_, (pss_cons (ps_expr (pe_call (ok_need_text T) (hr.mono (by decide)) rfl T.g_need_text T.k_need_text T.b_need_text .nil (passes_call (E := E) (takes_of rfl rfl rfl rfl) (fun _ _ _ _ h => h)) (pa_cons (pv 1) pa_nil)))
      (pss_cons (ps_set (i := 2) sc_Desk_run.nd rfl (Or.inl rfl) (pe_meth (pv 0) T.cl_Desk T.m_Desk_answer (ok_Desk_answer T.toTxt) (hr.mono (by decide)) T.b_Desk_answer .nil pass0 (pa_cons (pv 1) pa_nil)))
      (pss_cons (ps_if (pt_cmp (pc_notN (pv 2))) (pss_one (ps_ret (pv 2))) pss_nil)
      (pss_cons (ps_set (i := 3) sc_Desk_run.nd rfl (Or.inl rfl) (pe_call (ok_event_in T.toTxt) (hr.mono (by decide)) rfl T.g_event_in T.k_event_in T.b_event_in .nil pass0 (pa_cons (pv 1) pa_nil)))
      (pss_cons (ps_if (pt_cmp (pc_isN (pv 3))) (pss_one (ps_raise rfl (takes_of rfl rfl rfl rfl) (pmk_oex T.it.o T.it.iC T.it.tI (ok_InvalidText_init T.pr T.it) (hr.mono (by decide)) T.it.binds .nil pass0 rfl T.g_InvalidText (pa_cons pe_int pa_nil)))) pss_nil)
      (pss_cons (ps_if (PW.pt (pw_or (pt_cmpR op_eq (pe_callB (call_lenK K) (by rfl) T.f_len (by decide +kernel) (pa_cons (pe_fldK K (pv 0)) pa_nil)) (pe_gint T.i_MOST_EVENTS) (nomark _)) (pw_or1 (pt_cmpR (op_notInDK K (Room.u65 hr)) (pv 3) (pe_meth0 (pe_fldK K (pv 0)) T.cl_Run T.m_Run_events (ok_Run_events T.toTxt) (hr.mono (by decide)) T.b_Run_events .nil pass0) rfl)))) (pss_one (ps_raise0 T (x := .now) (by decide) rfl rfl (takes_of rfl rfl rfl rfl) rfl rfl rfl)) pss_nil)
      (pss_cons (ps_expr (pe_meth (pe_fldK K (pv 0)) T.cl_Run T.m_Run_do (ok_Run_do T.toTxt) (hr.mono (by decide)) T.b_Run_do .nil pass0 (pa_cons (pv 3) pa_nil)))
      (pss_cons (ps_expr (pe_meth0 (pv 0) T.cl_Desk T.m_Desk_show (ok_Desk_show T.toTxt) (hr.mono (by decide)) T.b_Desk_show .nil pass0))
      (pss_one (ps_ret pe_non)))))))))), ?_⟩
    obtain ⟨a, D, s, R, O, hpast, h⟩ := h
    have okS : ∀ {z : Str} {Q' : VK} {H1 : Hp} {E' : XK}, RetV .non H1 Q' → spNeedText K [.str z] H1 Q' E' := fun {z Q' H1 E'} q => .inl ⟨z, rfl, q⟩
    rcases h with ⟨x, t, rfl, hx, hk, k⟩ | h
    · exact q_dcall (vs := [x]) (ea_cons (ev_var rfl) ea_nil) fun H1 e1 => .inr ⟨x, t, rfl, fun H2 e2 => hx H2 (e1.trans e2), hk, fun H2 e2 => k H2 (e1.trans e2)⟩
    have go : ∀ {z : Str} {tz : TS} {D' : Ends}, (∀ H1, Ex H H1 → tz D' [some (.ref a), some (.str z), some (s.ans z), none] H1) →
        tSeq (tDrop (tCall (spNeedText K) [] (fun cls d H => E cls d H) (tCons (tVar 1) tNil))) (tSeq (tAsg (tMeth (He.ga K "Desk") "_answer" (spAnswer K) [] E0 (tVar 0) (tCons (tVar 1) tNil)) (gName 2)) tz) D' [some (.ref a), some (.str z), none, none] H := fun {z tz D'} k =>
      q_dcall (vs := [.str z]) (ea_cons (ev_var rfl) ea_nil) fun H1 e1 => okS fun H2 e2 => q_asg (v := s.ans z) (ev_meth (ev_var rfl) ((e1.trans e2) _ _ R.ins) rfl (ea_cons (ev_var rfl) ea_nil) fun H3 e3 Q' q' E' => ⟨a, D, s, z, rfl, R.mono ((e1.trans e2).trans e3), O, q'⟩) fun H3 e3 => k H3 ((e1.trans e2).trans e3)
    rcases h with ⟨z, rfl, hz, k⟩ | h
    · refine go fun H1 e1 => ?_
      refine q_when (b := true) (et_B (ev_is (ev_notN (ev_var rfl)) (by rw [decide_eq_false hz] <;> rfl))) (fun _ H2 e2 => s_ret (ev_var rfl) fun H3 e3 => k _ (e1.trans (e2.trans e3))) (fun z => by cases z)
    have now : ∀ {σ : L2.St} {H'}, Ex H H' → σ[0]? = some (some (V.ref a)) → Ev (tFld K (tVar 0) "_now") σ H' (.ref D.L.p) := fun {σ H'} e h => ev_fld (ev_var h) (e _ _ R.ins) T.cl_Desk T.n_Desk_now rfl
    have non : ∀ {z : Str} {r : Option (List V)} {H1 : Hp}, GoodZ z r → EvT (tB (tNotN (tVar 2))) [some (V.ref a), some (.str z), some (s.ans z), none] H1 false := fun {z r H1} g => et_B (ev_is (ev_notN (ev_var rfl)) (by rw [ans_non g] <;> rfl))
    rcases h with ⟨z, rfl, g, k⟩ | h
    · refine go fun H1 e1 => ?_
      refine q_when (non g) (fun z => by cases z) fun _ H2 e2 => ?_
      refine q_asg (ev_call (sp := spEvIn) (dvs := []) (vs := [.str z]) (ea_cons (ev_var rfl) ea_nil) fun H3 e3 Q' q' E' => ⟨z, none, rfl, Nat.le_trans g.len (by decide), Nat.le_trans g.part (by decide), g.ev, q'⟩) fun H3 e3 => ?_
      refine q_when (b := true) (et_B (ev_is (ev_isN (ev_var rfl)) rfl)) (fun _ H4 e4 => ?_) (fun z => by cases z)
      refine x_mk (vs := [.int 1]) (ea_cons ev_c ea_nil) (by show 1 ≤ 1000; decide) fun H5 e5 b nb => ⟨b, .int 1, rfl, upd_same, fun dx nd ne => ⟨rfl, dx, [("line", .int 1)], upd_same, ?_, ?_, ?_⟩⟩
      · rw [upd_ne ne]
        exact upd_same
      · rw [upd_ne ne] at nd
        exact nd
      · rw [upd_ne ne] at nd
        have e05 := e1.trans (e2.trans (e3.trans (e4.trans e5)))
        refine k dx _ (fun c o hc => ?_) (Same.free e05 nd) upd_same
        have n1 : c ≠ dx := ne_of_none (e05 _ _ hc) nd
        have n2 : c ≠ b := ne_of_none (e05 _ _ hc) nb
        rw [upd_ne n1, del_ne n2, upd_ne n2, upd_ne n1, upd_ne n2]
        exact e05 _ _ hc
    have ev : ∀ {e : Evt} {tz : TS} {D' : Ends} {t2 : TS}, GoodZ (evTxt e) (some (evEnc e)) → (∀ p H1, Ex H H1 → H1 p = some (.tup (evEnc e)) → tz D' [some (.ref a), some (.str (evTxt e)), some (s.ans (evTxt e)), some (.ref p)] H1) →
        ∀ H1, Ex H H1 → tSeq (tIfS (tB (tNotN (tVar 2))) (tRet (tVar 2)) tNext) (tSeq (tAsg (tCall spEvIn [] E0 (tCons (tVar 1) tNil)) (gName 3)) (tSeq (tIfS (tB (tIsN (tVar 3))) t2 tNext) tz)) D' [some (.ref a), some (.str (evTxt e)), some (s.ans (evTxt e)), none] H1 := fun {e tz D' t2} g k H1 e1 => by
      refine q_when (non g) (fun z => by cases z) fun _ H2 e2 => ?_
      refine q_call (vs := [.str (evTxt e)]) (ea_cons (ev_var rfl) ea_nil) fun H3 e3 => ⟨evTxt e, some (evEnc e), rfl, Nat.le_trans g.len (by decide), Nat.le_trans g.part (by decide), g.ev, fun p H4 np e4 hp => ?_⟩
      exact q_when (b := false) (et_B (ev_is (ev_isN (ev_var rfl)) rfl)) (fun z => by cases z) fun _ H5 e5 => k p H5 (e1.trans (e2.trans (e3.trans (e4.trans e5)))) (e5 _ _ hp)
    have tst : ∀ {e : Evt} {p : Addr} {H1 : Hp}, Ex H H1 → H1 p = some (.tup (evEnc e)) → EvT (tOr (tTest (tOp rEq (tCB (rLenS K) (tCons (tFld K (tVar 0) "_done") tNil)) (tC (.int 60)))) (tTest (tOp (rNotInD K) (tVar 3) (tMeth (He.ga K "Run") "events" (spEvents K) [] E0 (tFld K (tVar 0) "_now") tNil))))
        [some (.ref a), some (.str (evTxt e)), some (s.ans (evTxt e)), some (.ref p)] H1 (!decide (e ∈ s.evs)) := fun {e p H1} e1 hp => by
      have R1 := R.mono e1
      have hl : (D.L.es.map V.ref).length = s.past.length := by rw [List.length_map]; exact paired_len R.run.ev
      refine et_is (et_or (a := false) (et_test (ev_is (ev_op (ev_lenT (ev_fld (ev_var rfl) R1.ins T.cl_Desk T.n_Desk_done rfl) (st_of R1.dn)) ev_c (rv_eq rfl)) (congrArg V.bl (decide_eq_false fun z => ?_)))) fun _ => et_test (ev_niE (ev_var rfl) (st_of hp) fun H2 e2 Q' q' => ?_)) rfl
      · injection z with z
        rw [hl] at z
        omega
      · refine now (e1.trans e2) rfl H2 (Ex.refl _) _ fun H3 e3 => ⟨D.L.p, _, _, rfl, (e2.trans e3) _ _ R1.run.run, rfl, ?_⟩
        exact ⟨D.L, s, rfl, R1.run.mono (Ex.trans e2 e3), Nat.le_trans O.ops (by decide), O.wait, fun p H4 np e4 hp => q' p H4 (Same.free e3 np) (e3.trans e4) hp⟩
    rcases h with ⟨e, rfl, g, hm, k⟩ | ⟨e, rfl, g, hm, hok, C, k⟩
    · refine go (ev g fun p H1 e1 hp => ?_)
      refine q_when (tst e1 hp) (fun _ H2 e2 => k _ (e1.trans e2)) fun z => ?_
      rw [decide_eq_false hm] at z
      cases z
    · refine go (ev g fun p H1 e1 hp => ?_)
      refine q_when (tst e1 hp) (fun z => ?_) fun _ H2 e2 => ?_
      · rw [decide_eq_true hm] at z
        cases z
      have e02 := e1.trans e2
      have R2 := R.mono e02
      refine q_meth (vs := [.ref p]) (now e02 rfl) R2.run.run rfl (ea_cons (ev_var rfl) ea_nil) fun H3 e3 => ?_
      have hp3 := e3 _ _ (e2 _ _ hp)
      refine ⟨D.L, s, p, e, rfl, R2.run.mono e3, hp3, Nat.le_trans O.ops (by decide), by omega, hok, fun L4 H4 R4 g4 F4 => ?_⟩
      have e03 := e02.trans e3
      have na4 : a ∉ L4.own := fun z => by
        rcases g4.own a z with q | q
        · exact R.na q
        · rw [e03 _ _ R.ins] at q
          cases q
      have ins4 : H4 a = some (.ins (He.ga K "Desk") D.dx (desk5 D.da D.wa D.L.p D.dn D.br)) := F4 _ _ (e03 _ _ R.ins) R.na
      have tup4 : ∀ {b : Addr} {xs : List V}, SqT K H b xs → SqT K H4 b xs := fun {b xs} hb => SqT.fr F4 (ex_t e03 hb) fun c hc => by
        exact (R2.run.mono e3).own_not hc
      have cfg : (s.doEv e).cfg = s.cfg := doEv_cfg s e
      refine q_meth (vs := []) (a := a) (ev_var rfl) ins4 rfl ea_nil fun H5 e5 => ?_
      refine ⟨a, D.dx, D.da, D.wa, L4, s.doEv e, _, rfl, e5 _ _ ins4, .inr ⟨D.dn, D.br, by rw [g4.p]⟩, by rw [cfg]; exact ex_t e5 (tup4 R.des), by rw [cfg]; exact ex_t e5 (tup4 R.wor), R4.mono e5, C, na4, fun dn br H6 R6 F6 => ?_⟩
      refine s_ret ev_c fun H7 e7 => ?_
      refine k _ H7 (R6.mono e7) rfl rfl rfl ⟨g4.p, fun b hb => ?_, g4.os⟩ ?_
      · rcases g4.own b hb with q | q
        · exact .inl q
        · exact .inr (Same.free e03 q)
      · have F05 : Fr D.L.own H H5 := ((Fr.of e03).trans F4).trans (Fr.of e5)
        exact (F05.mono fun b hb => List.mem_cons_of_mem _ hb).trans ((F6.mono fun b hb => by rw [List.mem_singleton.mp hb]; exact List.mem_cons_self ..).trans (Fr.of e7))
end
end K10
end
section
set_option Elab.async false
set_option linter.all false
set_option maxRecDepth 100000
set_option maxHeartbeats 4000000
namespace K10
open PySem PySem.Spec PyProof.Rows L2 Evl
theorem cut_last {xs : List V} : cutV xs none (some (-1)) = xs.dropLast := by
  unfold cutV
  have e1 : HT.sIx xs.length 0 none = 0 := rfl
  have e2 : HT.sIx xs.length xs.length (some (-1)) = xs.length - 1 := by
    unfold HT.sIx
    simp only [Option.getD, Option.elim]
    rw [if_pos (by omega)]
    omega
  rw [e1, e2, List.drop_zero, Nat.sub_zero, List.dropLast_eq_take]
section
variable {K : PySem.W.Frag} {σ : L2.St} {H : Hp} {te : TE} {tl th : TO} {a : Addr} {xs : List V}
theorem eu_slLast (h : Ev te σ H (.ref a)) (h1 : EvO th σ H (some (-1))) (hs : SqT K H a xs) (hn : xs ≠ []) : EvU (tSl (rSlT K) te tNoPart th) σ H xs.dropLast := fun H1 e Q q =>
  h H1 e _ fun H2 e2 => eo_none H2 (e.trans e2) _ fun H3 e3 => h1 H3 ((e.trans e2).trans e3) _ fun H4 e4 => ⟨a, xs, rfl, ex_t (((e.trans e2).trans e3).trans e4) hs, by
    rintro ⟨_, z⟩
    have e2 : HT.sIx xs.length xs.length (some (-1)) = xs.length - 1 := by
      unfold HT.sIx
      simp only [Option.getD, Option.elim]
      rw [if_pos (by omega)]
      omega
    rw [e2] at z
    have : xs.length ≠ 0 := fun y => hn (List.eq_nil_of_length_eq_zero y)
    omega, fun p hp => by
    rw [cut_last]
    have e14 := e2.trans (e3.trans e4)
    exact q p _ (Same.free e14 hp) (e14.trans (Ex.new hp)) upd_same⟩
theorem el_listU (h : EvU te σ H xs) : EvL (tCB (rListS K) (tCons te tNil)) σ H xs := fun H1 e Q q =>
  h H1 e _ fun p H2 hp e2 h2 => ⟨p, xs, rfl, .inr (st_of h2), fun l hl => q l _ (Same.free e2 hl) (e2.trans (Ex.new hl)) upd_same⟩
end
section
variable {P : Program} {w : World} {base h0 : Heap} {K : PySem.W.Frag} {mg : Str → Option Value}
def S.undo (s : S) : S := (S.init s.cfg).run s.past.dropLast
def spUndo (K : PySem.W.Frag) : Sp := fun vs H Q E => ∃ (a : Addr) (D : Dk) (s : S), vs = [.ref a] ∧ DeskAt K H a D s ∧ s.past.length ≤ 50 ∧ (
  (s.past = [] ∧ ∀ H1, Ex H H1 → E (.ref (He.ga K "NothingToUndo")) none H1) ∨
  (s.past ≠ [] ∧ runOk (S.init s.cfg) s.past.dropLast ∧ CheckOk s.undo ∧ ∀ D' H', DeskAt K H' a D' s.undo → D'.dx = D.dx → D'.da = D.da → D'.wa = D.wa → (∀ b ∈ D'.L.own, H b = none) → Fr [a] H H' → Q .non H'))
theorem paired_dropLast {α β : Type} {F : α → β → Prop} : ∀ {as : List α} {bs : List β}, Paired F as bs → Paired F as.dropLast bs.dropLast
  | _, _, .nil => .nil
  | _, _, .cons h .nil => .nil
  | _, _, .cons h (.cons h2 r) => .cons h (paired_dropLast (.cons h2 r))
theorem sc_Desk_undo : FnScope ["self"] ["self"] (defScope s_Desk_undo) := ⟨rfl, rfl, rfl, by decide +kernel, rfl, by decide +kernel, by decide +kernel⟩
theorem ok_Desk_undo (T : TxtP P h0 K mg) : FnOk P w K mg base (L2.CX P w) 15 (He.ma K (He.ga K "Desk") "undo") (fdOf K (He.ma K (He.ga K "Desk") "undo")) ["self"] (spUndo K) := by
  refine FnOk.mono (j := 15) ((T.fn_Desk_undo).ok sc_Desk_undo (fun vs H Q E h => ?_) (fun cdv A outer st0 H vs Q E hr h => ?_)) (by decide)
  · obtain ⟨a, D, s, rfl, _⟩ := h
    rfl
  · obtain ⟨a, D, s, rfl, R, hpast, h⟩ := h
    refine ⟨_, (pss_cons (ps_if (pt_cmpR (op_eqNT K (lenU hr.units)) (pe_fldK K (pv 0)) (pe_tup pa_nil) (nomark _)) (pss_one (ps_raise0 T (x := .undo) (by decide) rfl rfl (takes_of rfl rfl rfl rfl) rfl rfl rfl)) pss_nil)
      (pss_one (ps_expr (pe_meth (pv 0) T.cl_Desk T.m_Desk_begin (ok_Desk_begin T.toTxt) (hr.mono (by decide)) T.b_Desk_begin .nil pass0 (pa_cons (pe_callTy (call_listK K) (by rfl) T.f_list (by decide +kernel) (pa_cons (pe_slice (sl_tupK K) (pe_fldK K (pv 0)) po_none (po_some (pe_un un_neg pe_int))) pa_nil)) pa_nil))))), ?_⟩
    have hem : (D.L.es.map V.ref).isEmpty = s.past.isEmpty := by
      rw [List.isEmpty_map]
      have := paired_len R.run.ev
      cases hp : s.past with
      | nil =>
        rw [hp] at this
        rw [List.eq_nil_of_length_eq_zero this] <;> rfl
      | cons x r =>
        rw [hp] at this
        cases he : D.L.es with
        | nil =>
          rw [he] at this
          cases this
        | cons y t => rfl
    have dn : ∀ {σ : L2.St} {H'}, Ex H H' → σ[0]? = some (some (V.ref a)) → Ev (tFld K (tVar 0) "_done") σ H' (.ref D.dn) := fun {σ H'} e h => ev_fld (ev_var h) (e _ _ R.ins) T.cl_Desk T.n_Desk_done rfl
    have tst : EvT (tTest (tOp (rEqNT K) (tFld K (tVar 0) "_done") (tTup tNil))) [some (V.ref a)] H s.past.isEmpty := et_test (ev_opU (dn (Ex.refl _) rfl) (eu_tup ea_nil (by show 0 ≤ 100000; decide)) fun q H5 hq e5 H6 e6 Q' q' => ⟨D.dn, q, D.L.es.map V.ref, rfl, rfl, st_of ((e5.trans e6) _ _ R.dn), st_of (e6 _ _ hq), by rw [hem]; exact q' _ (Ex.refl _)⟩)
    rcases h with ⟨hp, k⟩ | ⟨hp, hok, C, k⟩
    · refine q_when tst (fun _ H1 e1 => k H1 e1) fun z => ?_
      rw [hp] at z
      cases z
    · refine q_when tst (fun z => absurd (List.isEmpty_iff.mp z) hp) fun _ H1 e1 => ?_
      have hne : D.L.es.map V.ref ≠ [] := fun z => hp (List.isEmpty_iff.mp (by rw [← hem, z] <;> rfl))
      refine s_methL (a := a) (ev_var rfl) (e1 _ _ R.ins) rfl (el_listU (eu_slLast (dn e1 rfl) (eo_some (ev_un ev_c ru_neg)) (st_of (e1 _ _ R.dn)) hne)) fun l H2 nl e2 hl => ?_
      have e02 := e1.trans e2
      rw [← List.map_dropLast] at hl
      refine ⟨a, D.dx, D.da, D.wa, l, s.cfg, D.L.es.dropLast, s.past.dropLast, _, rfl, e02 _ _ R.ins, .inr ⟨D.L.p, D.dn, D.br, rfl⟩, ex_t e02 R.des, ex_t e02 R.wor, sq_of hl, Paired.mapP (paired_dropLast R.run.ev) fun x y h => e02 _ _ h, by rw [List.length_dropLast]; omega, hok, C, fun D' H3 R3 q1 q2 q3 o3 F3 => ?_⟩
      exact k D' H3 R3 q1 q2 q3 (fun b hb => Same.free e02 (o3 b hb)) ((Fr.of e02).trans F3)
end
end K10
end
section
set_option Elab.async false
set_option linter.all false
set_option maxRecDepth 100000
set_option maxHeartbeats 4000000
namespace K10
open PySem PySem.Spec PyProof.Rows L2 Evl
def fk (fs : List (Str × V)) : List (Key × V) := fs.map fun p => (Sum.inr p.1, p.2)
theorem key_rr (x y : Str) : ((Sum.inr x : Key) = Sum.inr y) ↔ x = y := ⟨fun h => Sum.inr.inj h, fun h => by rw [h]⟩
theorem fk_get (fs : List (Str × V)) (f : Str) : valV (fk fs) (Sum.inr f : Key) = fs.lookup f := by
  induction fs with
  | nil => rfl
  | cons p r ih =>
    obtain ⟨g, x⟩ := p
    show valV ((Sum.inr g, x) :: fk r) (Sum.inr f) = List.lookup f ((g, x) :: r)
    rw [List.lookup_cons]
    by_cases h : g = f
    · subst h
      rw [valV_pos rfl, beq_self_eq_true]
    · have h2 : (f == g) = false := by
        rw [beq_eq_false_iff_ne]
        exact fun z => h z.symm
      rw [valV_neg (fun z => h ((key_rr g f).mp z)), h2, ih]
theorem fk_put (fs : List (Str × V)) (f : Str) (v : V) (hd : (fs.map (·.1)).Nodup) : putK (fk fs) (Sum.inr f : Key) v = fk (putF f v fs) := by
  have any : ∀ l : List (Str × V), ((fk l).any fun kv => decide (kv.1 = (Sum.inr f : Key))) = decide (f ∈ l.map (·.1)) := fun l => by
    induction l with
    | nil => rfl
    | cons p r ih =>
      show (decide ((Sum.inr p.1 : Key) = Sum.inr f) || (fk r).any _) = _
      rw [ih, List.map_cons]
      simp only [key_rr, List.mem_cons, Bool.decide_or]
      congr 1
      exact decide_eq_decide.mpr ⟨Eq.symm, Eq.symm⟩
  have noput : ∀ l : List (Str × V), f ∉ l.map (·.1) → putF f v l = l ++ [(f, v)] := fun l => by
    induction l with
    | nil => exact fun _ => rfl
    | cons p r ih =>
      intro h
      obtain ⟨g, x⟩ := p
      have h1 : ¬ g = f := fun z => h (by rw [z]; exact List.mem_cons_self ..)
      show (if g = f then (g, v) :: r else (g, x) :: putF f v r) = _
      rw [if_neg h1, ih fun z => h (List.mem_cons_of_mem _ z)]
      rfl
  have nomap : ∀ l : List (Str × V), f ∉ l.map (·.1) → (fk l).map (fun kv => if kv.1 = (Sum.inr f : Key) then (kv.1, v) else kv) = fk l := fun l => by
    induction l with
    | nil => exact fun _ => rfl
    | cons p r ih =>
      intro h
      show (if (Sum.inr p.1 : Key) = Sum.inr f then ((Sum.inr p.1 : Key), v) else (Sum.inr p.1, p.2)) :: (fk r).map _ = _
      rw [if_neg fun z => h (by rw [← (key_rr _ _).mp z]; exact List.mem_cons_self ..), ih fun z => h (List.mem_cons_of_mem _ z)]
      rfl
  have yes : ∀ l : List (Str × V), (l.map (·.1)).Nodup → f ∈ l.map (·.1) → (fk l).map (fun kv => if kv.1 = (Sum.inr f : Key) then (kv.1, v) else kv) = fk (putF f v l) := fun l => by
    induction l with
    | nil =>
      intro _ h
      simp at h
    | cons p r ih =>
      intro hn h
      obtain ⟨g, x⟩ := p
      have hn : (g :: r.map (·.1)).Nodup := hn
      rw [List.nodup_cons] at hn
      show (if (Sum.inr g : Key) = Sum.inr f then ((Sum.inr g : Key), v) else (Sum.inr g, x)) :: (fk r).map _ = fk (if g = f then (g, v) :: r else (g, x) :: putF f v r)
      by_cases hg : g = f
      · subst hg
        rw [if_pos rfl, if_pos rfl, nomap r hn.1]
        rfl
      · rw [if_neg (fun z => hg ((key_rr _ _).mp z)), if_neg hg]
        have : f ∈ r.map (·.1) := by
          rcases List.mem_cons.mp h with z | z
          · exact absurd z.symm hg
          · exact z
        rw [ih hn.2 this]
        rfl
  unfold putK
  rw [any]
  by_cases h : f ∈ fs.map (·.1)
  · rw [if_pos (decide_eq_true h), yes fs hd h]
  · rw [if_neg (by rw [decide_eq_false h]; decide), noput fs h]
    unfold fk
    rw [List.map_append]
    rfl
def opL (o : Op) (i : Nat) : List (Str × V) :=
  [("number", .int (i : Int)), ("kind", .str (kindS o.wr)), ("stage", .str o.stage.str), ("version", oV o.ver), ("begun", .int o.begun), ("over", oV o.over), ("step", .int (o.step : Int)), ("clean", .bl o.clean), ("leader", nV o.leader)]
structure LLay where
  h : Addr
  da : Addr
  wa : Addr
  ol : Addr
  pl : Addr
  os : List Addr
  es : List Addr
def stL (G : LLay) (s : S) : List (Str × V) :=
  [("design", .ref G.da), ("world", .ref G.wa), ("db", .int s.db), ("rep", .int s.rep), ("cache", oV s.cache), ("mark", .int s.mark), ("open", nV s.fl), ("ops", .ref G.ol), ("past", .ref G.pl)]
theorem opL_nd (o : Op) (i : Nat) : ((opL o i).map (·.1)).Nodup := by
  show (["number", "kind", "stage", "version", "begun", "over", "step", "clean", "leader"] : List Str).Nodup
  decide +kernel
theorem stL_nd (G : LLay) (s : S) : ((stL G s).map (·.1)).Nodup := by
  show (["design", "world", "db", "rep", "cache", "mark", "open", "ops", "past"] : List Str).Nodup
  decide +kernel
structure LawAt (K : PySem.W.Frag) (H : Hp) (G : LLay) (s : S) : Prop where
  h : H G.h = some (.dK (fk (stL G s)))
  des : SqT K H G.da (desV s.cfg)
  wor : SqT K H G.wa (worV s.cfg)
  ol : H G.ol = some (.lst (G.os.map V.ref))
  pl : H G.pl = some (.lst (G.es.map V.ref))
  len : G.os.length = s.ops.length
  op : ∀ (i : Nat) (a : Addr) (o : Op), G.os[i]? = some a → s.ops[i]? = some o → H a = some (.dK (fk (opL o i)))
  nd : G.os.Nodup
  ev : Paired (evTup H) G.es s.past
  ne : G.ol ≠ G.pl
  nh : G.h ∉ G.os
def LLay.own (G : LLay) : List Addr := G.h :: G.ol :: G.pl :: G.os
section
variable {K : PySem.W.Frag} {H H' : Hp} {G : LLay} {s : S} {σ : L2.St} {td tv te : TE} {f : Str} {v y : V} {D : Ends} {tz : TS} {a : Addr} {fs : List (Str × V)} {i : Nat} {o : Op}
theorem LawAt.mono (R : LawAt K H G s) (e : Ex H H') : LawAt K H' G s :=
  ⟨e _ _ R.h, ex_t e R.des, ex_t e R.wor, e _ _ R.ol, e _ _ R.pl, R.len, fun i a o h1 h2 => e _ _ (R.op i a o h1 h2), R.nd, Paired.mapP R.ev fun x y h => e _ _ h, R.ne, R.nh⟩
theorem LawAt.at (R : LawAt K H G s) {i : Nat} {o : Op} (h : s.ops[i]? = some o) : ∃ a, G.os[i]? = some a ∧ H a = some (.dK (fk (opL o i))) := by
  have hi : i < G.os.length := by rw [R.len]; exact (List.getElem?_eq_some_iff.mp h).1
  exact ⟨G.os[i], List.getElem?_eq_getElem hi, R.op i _ _ (List.getElem?_eq_getElem hi) h⟩
theorem LawAt.own_not (R : LawAt K H G s) {b : Addr} (h : b ∈ G.own) : (∃ o, H b = some o) ∧ (∀ ys, H b ≠ some (.tup ys)) ∧ ∀ o ys, H b ≠ some (.frz o (.tup ys)) := by
  have key : ∀ {u : HO}, H b = some u → (∀ ys, u ≠ .tup ys) → (∀ o ys, u ≠ .frz o (.tup ys)) → (∃ o, H b = some o) ∧ (∀ ys, H b ≠ some (.tup ys)) ∧ ∀ o ys, H b ≠ some (.frz o (.tup ys)) := fun {u} e h1 h2 => ⟨⟨_, e⟩, fun ys z => h1 ys (Option.some.inj (e.symm.trans z)), fun o ys z => h2 o ys (Option.some.inj (e.symm.trans z))⟩
  rcases List.mem_cons.mp h with rfl | h
  · exact key R.h (fun ys z => by cases z) (fun o ys z => by cases z)
  rcases List.mem_cons.mp h with rfl | h
  · exact key R.ol (fun ys z => by cases z) (fun o ys z => by cases z)
  rcases List.mem_cons.mp h with rfl | h
  · exact key R.pl (fun ys z => by cases z) (fun o ys z => by cases z)
  obtain ⟨i, hi⟩ := List.mem_iff_getElem?.mp h
  have hl := (List.getElem?_eq_some_iff.mp hi).1
  rw [R.len] at hl
  exact key (R.op i _ _ hi (List.getElem?_eq_getElem hl)) (fun ys z => by cases z) (fun o ys z => by cases z)
theorem LawAt.frame (R : LawAt K H G s) {Ds : List Addr} (F : Fr Ds H H') (h1 : ∀ b ∈ Ds, b ∉ G.own) (h2 : ∀ b ∈ Ds, (∀ xs, H b ≠ some (.tup xs)) ∧ ∀ o xs, H b ≠ some (.frz o (.tup xs))) : LawAt K H' G s := by
  have o : ∀ {b : Addr} {u : HO}, H b = some u → b ∈ G.own → H' b = some u := fun {b u} e m => F b u e fun z => h1 b z m
  have m3 : ∀ {b : Addr}, b ∈ G.os → b ∈ G.own := fun {b} h => List.mem_cons_of_mem _ (List.mem_cons_of_mem _ (List.mem_cons_of_mem _ h))
  exact ⟨o R.h (List.mem_cons_self ..), SqT.fr F R.des h2, SqT.fr F R.wor h2, o R.ol (List.mem_cons_of_mem _ (List.mem_cons_self ..)), o R.pl (List.mem_cons_of_mem _ (List.mem_cons_of_mem _ (List.mem_cons_self ..))), R.len,
    fun i a q e1 e2 => o (R.op i a q e1 e2) (m3 (List.mem_of_getElem? e1)), R.nd, Paired.mapP R.ev fun x y e => F _ _ e fun z => (h2 _ z).1 _ e, R.ne, R.nh⟩
theorem LawAt.tupK (R : LawAt K H G s) {b : Addr} {u : HO} (hb : b ∈ G.own) {c : Addr} {xs : List V} (h : SqT K H c xs) : SqT K (upd H b u) c xs := by
  refine SqT.fr (D := [b]) (Fr.upd (by simp)) h fun d hd => ?_
  rw [List.mem_singleton.mp hd]
  exact (R.own_not hb).2
theorem LawAt.setH (R : LawAt K H G s) {s' : S} (h1 : s'.ops = s.ops) (h2 : s'.past = s.past) (h3 : s'.cfg = s.cfg) : LawAt K (upd H G.h (.dK (fk (stL G s')))) G s' := by
  have ne : ∀ {b : Addr} {u : HO}, H b = some u → (∀ x, u ≠ .dK x) → b ≠ G.h := fun {b u} h d z => by
    rw [z, R.h] at h
    exact d _ (Option.some.inj h).symm
  have tp : ∀ {b : Addr} {u : HO}, H b = some u → (∀ x, u ≠ .dK x) → upd H G.h (.dK (fk (stL G s'))) b = some u := fun {b u} h d => by
    rw [upd_ne (ne h d)]
    exact h
  refine ⟨upd_same, by rw [h3]; exact R.tupK (List.mem_cons_self ..) R.des, by rw [h3]; exact R.tupK (List.mem_cons_self ..) R.wor, tp R.ol (fun _ z => by cases z), tp R.pl (fun _ z => by cases z), by rw [h1]; exact R.len, fun i a o e1 e2 => ?_, R.nd, by rw [h2]; exact Paired.mapP R.ev fun x y h => tp h (fun _ z => by cases z), R.ne, R.nh⟩
  rw [h1] at e2
  have na : a ≠ G.h := fun z => R.nh (by rw [← z]; exact List.mem_of_getElem? e1)
  rw [upd_ne na]
  exact R.op i a o e1 e2
theorem LawAt.setOp (R : LawAt K H G s) {i : Nat} {a : Addr} {o' : Op} (ha : G.os[i]? = some a) : LawAt K (upd H a (.dK (fk (opL o' i)))) G (s.setOp i o') := by
  have hil := (List.getElem?_eq_some_iff.mp ha).1
  rw [R.len] at hil
  have ho := R.op i a _ ha (List.getElem?_eq_getElem hil)
  have ne : ∀ {b : Addr} {u : HO}, H b = some u → (∀ x, u ≠ .dK x) → b ≠ a := fun {b u} h d z => by
    rw [z, ho] at h
    exact d _ (Option.some.inj h).symm
  have tp : ∀ {b : Addr} {u : HO}, H b = some u → (∀ x, u ≠ .dK x) → upd H a (.dK (fk (opL o' i))) b = some u := fun {b u} h d => by
    rw [upd_ne (ne h d)]
    exact h
  have hm : a ∈ G.own := List.mem_cons_of_mem _ (List.mem_cons_of_mem _ (List.mem_cons_of_mem _ (List.mem_of_getElem? ha)))
  have nah : G.h ≠ a := fun z => R.nh (by rw [z]; exact List.mem_of_getElem? ha)
  refine ⟨by rw [upd_ne nah]; exact R.h, R.tupK hm R.des, R.tupK hm R.wor, tp R.ol (fun _ z => by cases z), tp R.pl (fun _ z => by cases z), ?_, fun j b o e1 e2 => ?_, R.nd, Paired.mapP R.ev fun x y h => tp h (fun _ z => by cases z), R.ne, R.nh⟩
  · show G.os.length = (s.ops.set i o').length
    rw [List.length_set]
    exact R.len
  · have e2 : (s.ops.set i o')[j]? = some o := e2
    by_cases hj : j = i
    · subst hj
      rw [ha] at e1
      cases e1
      rw [List.getElem?_set_self hil] at e2
      cases e2
      exact upd_same
    · rw [List.getElem?_set_ne (fun z => hj z.symm)] at e2
      have nb : b ≠ a := fun z => by
        subst z
        exact hj (nd_ix R.nd e1 ha)
      rw [upd_ne nb]
      exact R.op j b o e1 e2
theorem LawAt.as (R : LawAt K H G s) {s' : S} (hs : stL G s' = stL G s) (hc : s'.cfg = s.cfg) (hl : s'.ops.length = s.ops.length) (hp : s'.past = s.past) (ho : ∀ (i : Nat) (o o' : Op), s.ops[i]? = some o → s'.ops[i]? = some o' → opL o' i = opL o i) : LawAt K H G s' := by
  refine ⟨by rw [hs]; exact R.h, by rw [hc]; exact R.des, by rw [hc]; exact R.wor, R.ol, R.pl, by rw [hl]; exact R.len, fun i a o' h1 h2 => ?_, R.nd, by rw [hp]; exact R.ev, R.ne, R.nh⟩
  have hi := (List.getElem?_eq_some_iff.mp h2).1
  rw [hl] at hi
  rw [ho i _ o' (List.getElem?_eq_getElem hi) h2]
  exact R.op i a _ h1 (List.getElem?_eq_getElem hi)
theorem ev_dk (h : Ev td σ H (.ref a)) (ha : H a = some (.dK (fk fs))) (hl : fs.lookup f = some v) : Ev (tDGet td (tC (.str f))) σ H v := fun H1 e Q q =>
  h H1 e _ fun H2 e2 => ev_c H2 ((e.trans e2)) _ fun H3 e3 => ⟨a, v, rfl, by
    have z := DGet.k (k := (Sum.inr f : Key)) ((e.trans (e2.trans e3)) _ _ ha)
    rw [fk_get, hl] at z
    exact z, q H3 (e2.trans e3)⟩
theorem ev_sF (R : LawAt K H G s) (h : Ev td σ H (.ref G.h)) (hl : (stL G s).lookup f = some v := by rfl) : Ev (tDGet td (tC (.str f))) σ H v := ev_dk h R.h hl
theorem ev_oF (R : LawAt K H G s) (ha : G.os[i]? = some a) (ho : s.ops[i]? = some o) (h : Ev td σ H (.ref a)) (hl : (opL o i).lookup f = some v := by rfl) : Ev (tDGet td (tC (.str f))) σ H v := ev_dk h (R.op i a o ha ho) hl
theorem s_dput (hd : ∀ H1, Ex H H1 → Ev td σ H1 (.ref a)) (ha : H a = some (.dK (fk fs))) (hn : (fs.map (·.1)).Nodup) (hz : fs.length ≤ 1000) (h : Ev tv σ H y) (k : ∀ H1, Ex H H1 → D.nx σ (upd H1 a (.dK (fk (putF f y fs))))) : sDPut td (tC (.str f)) tv D σ H :=
  h H (Ex.refl H) _ fun H1 e1 => hd H1 e1 H1 (Ex.refl _) _ fun H2 e2 => ev_c H2 (Ex.refl _) _ fun H3 e3 => ⟨a, _, rfl, by
    have z := DPut.k (k := (Sum.inr f : Key)) (v := y) ((e1.trans (e2.trans e3)) _ _ ha) (by unfold fk; rw [List.length_map]; exact small1000 hz)
    rw [fk_put _ _ _ hn] at z
    exact z, k H3 (e1.trans (e2.trans e3))⟩
theorem s_setH (R : LawAt K H G s) (hd : ∀ H1, Ex H H1 → Ev td σ H1 (.ref G.h)) (h : Ev tv σ H y) (s' : S) (hf : putF f y (stL G s) = stL G s') (k : ∀ H', LawAt K H' G s' → Fr G.own H H' → D.nx σ H') (h1 : s'.ops = s.ops := by rfl) (h2 : s'.past = s.past := by rfl) (h3 : s'.cfg = s.cfg := by rfl) : sDPut td (tC (.str f)) tv D σ H :=
  s_dput hd R.h (stL_nd G s) (by show 9 ≤ 1000; decide) h fun H1 e1 => by
    rw [hf]
    exact k _ ((R.mono e1).setH h1 h2 h3) ((Fr.of e1).trans (Fr.upd (List.mem_cons_self ..)))
theorem q_setH (R : LawAt K H G s) (hd : ∀ H1, Ex H H1 → Ev td σ H1 (.ref G.h)) (h : Ev tv σ H y) (s' : S) (hf : putF f y (stL G s) = stL G s') (k : ∀ H', LawAt K H' G s' → Fr G.own H H' → tz D σ H') (h1 : s'.ops = s.ops := by rfl) (h2 : s'.past = s.past := by rfl) (h3 : s'.cfg = s.cfg := by rfl) : tSeq (sDPut td (tC (.str f)) tv) tz D σ H :=
  s_setH (D := { D with nx := tz D }) R hd h s' hf k h1 h2 h3
theorem own_os {i : Nat} {a : Addr} (ha : G.os[i]? = some a) : a ∈ G.own := List.mem_cons_of_mem _ (List.mem_cons_of_mem _ (List.mem_cons_of_mem _ (List.mem_of_getElem? ha)))
theorem s_setD (R : LawAt K H G s) (ha : G.os[i]? = some a) (ho : s.ops[i]? = some o) (hd : ∀ H1, Ex H H1 → Ev td σ H1 (.ref a)) (h : Ev tv σ H y) (o' : Op) (hf : putF f y (opL o i) = opL o' i) (k : ∀ H', LawAt K H' G (s.setOp i o') → Fr G.own H H' → D.nx σ H') : sDPut td (tC (.str f)) tv D σ H :=
  s_dput hd (R.op i a o ha ho) (opL_nd o i) (by show 9 ≤ 1000; decide) h fun H1 e1 => by
    rw [hf]
    exact k _ ((R.mono e1).setOp ha) ((Fr.of e1).trans (Fr.upd (own_os ha)))
theorem q_setD (R : LawAt K H G s) (ha : G.os[i]? = some a) (ho : s.ops[i]? = some o) (hd : ∀ H1, Ex H H1 → Ev td σ H1 (.ref a)) (h : Ev tv σ H y) (o' : Op) (hf : putF f y (opL o i) = opL o' i) (k : ∀ H', LawAt K H' G (s.setOp i o') → Fr G.own H H' → tz D σ H') : tSeq (sDPut td (tC (.str f)) tv) tz D σ H :=
  s_setD (D := { D with nx := tz D }) R ha ho hd h o' hf k
theorem g_dput {N : L2.St → Hp → Prop} (hd : Ev td σ H (.ref a)) (ha : H a = some (.dK (fk fs))) (hn : (fs.map (·.1)).Nodup) (hz : fs.length ≤ 1000) (k : ∀ H1, Ex H H1 → N σ (upd H1 a (.dK (fk (putF f y fs))))) : gSub td (tC (.str f)) rSetD y σ H N :=
  hd H (Ex.refl H) _ fun H2 e2 => ev_c H2 (Ex.refl _) _ fun H3 e3 => ⟨a, _, rfl, by
    have z := DPut.k (k := (Sum.inr f : Key)) (v := y) ((e2.trans e3) _ _ ha) (by unfold fk; rw [List.length_map]; exact small1000 hz)
    rw [fk_put _ _ _ hn] at z
    exact z, k H3 (e2.trans e3)⟩
theorem g_setH {N : L2.St → Hp → Prop} (R : LawAt K H G s) (hd : Ev td σ H (.ref G.h)) (s' : S) (hf : putF f y (stL G s) = stL G s') (k : ∀ H', LawAt K H' G s' → Fr G.own H H' → N σ H') (h1 : s'.ops = s.ops := by rfl) (h2 : s'.past = s.past := by rfl) (h3 : s'.cfg = s.cfg := by rfl) : gSub td (tC (.str f)) rSetD y σ H N :=
  g_dput hd R.h (stL_nd G s) (by show 9 ≤ 1000; decide) fun H1 e1 => by
    rw [hf]
    exact k _ ((R.mono e1).setH h1 h2 h3) ((Fr.of e1).trans (Fr.upd (List.mem_cons_self ..)))
theorem g_setD {N : L2.St → Hp → Prop} (R : LawAt K H G s) (ha : G.os[i]? = some a) (ho : s.ops[i]? = some o) (hd : Ev td σ H (.ref a)) (o' : Op) (hf : putF f y (opL o i) = opL o' i) (k : ∀ H', LawAt K H' G (s.setOp i o') → Fr G.own H H' → N σ H') : gSub td (tC (.str f)) rSetD y σ H N :=
  g_dput hd (R.op i a o ha ho) (opL_nd o i) (by show 9 ≤ 1000; decide) fun H1 e1 => by
    rw [hf]
    exact k _ ((R.mono e1).setOp ha) ((Fr.of e1).trans (Fr.upd (own_os ha)))
theorem LawAt.ol_at (R : LawAt K H G s) {x : V} {i : Nat} (h : (G.os.map V.ref)[i]? = some x) : ∃ a, G.os[i]? = some a ∧ x = .ref a ∧ s.ops[i]? = some (s.at i) := by
  rw [List.getElem?_map] at h
  cases ha : G.os[i]? with
  | none =>
    rw [ha] at h
    cases h
  | some a =>
    rw [ha] at h
    cases h
    have hi := (List.getElem?_eq_some_iff.mp ha).1
    rw [R.len] at hi
    exact ⟨a, rfl, rfl, ops_at hi⟩
theorem LawAt.now (R : LawAt K H G s) : (((G.es.map V.ref).length : Nat) : Int) = s.now := by
  rw [List.length_map, paired_len R.ev]
  rfl
end
end K10
end
section
set_option Elab.async false
set_option linter.all false
set_option maxRecDepth 100000
set_option maxHeartbeats 4000000
namespace K10
open PySem PySem.Spec PyProof.Rows L2 Evl
theorem SqL.fr {K : PySem.W.Frag} {D : List Addr} {H H' : Hp} {a : Addr} {xs : List V} (F : Fr D H H') (h : SqL K H a xs) (hD : a ∉ D) : SqL K H' a xs := by
  rcases h with (h | ⟨o, h⟩) | h
  · exact .inl (.inl (F _ _ h hD))
  · exact .inl (.inr ⟨o, F _ _ h hD⟩)
  · exact .inr h
structure RowAt (K : PySem.W.Frag) (H : Hp) (r sc : Addr) (ns : List Int) : Prop where
  row : ∃ a b c : Int, H r = some (.lst [.ref sc, .int a, .int b, .int c]) ∧ 0 ≤ a
  scl : SqL K H sc (ns.map V.int)
  ne : sc ≠ r ∨ ∀ H' : Hp, SqL K H' sc (ns.map V.int)
  len : ns.length ≤ 63
theorem RowAt.mono {K : PySem.W.Frag} {H H' : Hp} {r sc : Addr} {ns : List Int} (R : RowAt K H r sc ns) (e : Ex H H') : RowAt K H' r sc ns := by
  obtain ⟨⟨a, b, c, h1, h2⟩, h3, h4, h5⟩ := R
  exact ⟨⟨a, b, c, e _ _ h1, h2⟩, ex_l e h3, h4, h5⟩
theorem RowAt.set {K : PySem.W.Frag} {H : Hp} {r sc : Addr} {ns : List Int} {a b c : Int} (R : RowAt K H r sc ns) (ha : 0 ≤ a) : RowAt K (upd H r (.lst [.ref sc, .int a, .int b, .int c])) r sc ns :=
  ⟨⟨a, b, c, upd_same, ha⟩, R.ne.elim (fun n => SqL.fr (D := [r]) (Fr.upd (by simp)) R.scl (by simpa using n)) fun f => f _, R.ne, R.len⟩
theorem RowAt.frame {K : PySem.W.Frag} {D : List Addr} {H H' : Hp} {r sc : Addr} {ns : List Int} (R : RowAt K H r sc ns) (F : Fr D H H') (h1 : r ∉ D) (h2 : sc ∉ D) : RowAt K H' r sc ns := by
  obtain ⟨a, b, c, h3, h4⟩ := R.row
  exact ⟨⟨a, b, c, F _ _ h3 h1, h4⟩, SqL.fr F R.scl h2, R.ne, R.len⟩
section
variable {K : PySem.W.Frag} {H : Hp} {σ : L2.St} {tv to : TE} {D : Ends} {tz : TS} {r sc : Addr} {ns : List Int} {x y : Int}
theorem q_rset {ti : TE} {xs : List V} {j : Nat} (hr : H r = some (.lst xs)) (hv : Ev tv σ H (.int y)) (ho : ∀ H1, Ex H H1 → Ev to σ H1 (.ref r)) (hi : ∀ H1, Ex H H1 → Ev ti σ H1 (.int (j : Int))) (hj : j < xs.length) (k : ∀ H1, Ex H H1 → tz D σ (upd H1 r (.lst (xs.set j (.int y))))) : tSeq (tAsg tv (gSub to ti rSetL)) tz D σ H :=
  hv H (Ex.refl _) _ fun H1 e1 => ho H1 e1 H1 (Ex.refl _) _ fun H2 e2 => hi H2 (e1.trans e2) H2 (Ex.refl _) _ fun H3 e3 => ⟨r, xs, _, j, rfl, rfl, (e1.trans (e2.trans e3)) _ _ hr, ixN_nat hj, k H3 (e1.trans (e2.trans e3))⟩
theorem s_rset {ti : TE} {xs : List V} {j : Nat} (hr : H r = some (.lst xs)) (hv : Ev tv σ H (.int y)) (ho : ∀ H1, Ex H H1 → Ev to σ H1 (.ref r)) (hi : ∀ H1, Ex H H1 → Ev ti σ H1 (.int (j : Int))) (hj : j < xs.length) (k : ∀ H1, Ex H H1 → D.nx σ (upd H1 r (.lst (xs.set j (.int y))))) : tAsg tv (gSub to ti rSetL) D σ H :=
  q_rset (tz := fun D => D.nx) hr hv ho hi hj k
theorem s_retOp {r : R2} {ta tb : TE} {x : V} (ha : Ev ta σ H x) (k : ∀ H1, Ex H H1 → tb σ H1 fun y H2 => r x y H2 D.rt) : tRet (tOp r ta tb) D σ H := ha H (Ex.refl _) _ k
theorem ev_int1 (h : Ev tv σ H (.int x)) : Ev (tCB rInt1 (tCons tv tNil)) σ H (.int x) := ev_cb (ea_cons h ea_nil) fun H1 e Q q => .inl ⟨x, rfl, q H1 (Ex.refl _)⟩
theorem fmod_lt {i j : Int} (h : 0 < j) : 0 ≤ i.fmod j ∧ i.fmod j < j := by
  rw [Int.fmod_eq_emod_of_nonneg i (by omega)]
  exact ⟨Int.emod_nonneg _ (by omega), Int.emod_lt_of_pos _ h⟩
end
section
variable {P : Program} {w : World} {base h0 : Heap} {K : PySem.W.Frag} {mg : Str → Option Value}
def spTaken (K : PySem.W.Frag) : Sp := fun vs H Q _ => ∃ (r sc : Addr) (ns : List Int) (m : Int), vs = [.ref r, .int m] ∧ RowAt K H r sc ns ∧ 0 < m ∧ m < 1000000 ∧ ∀ v H', 0 ≤ v → v < m → RowAt K H' r sc ns → Fr [r] H H' → Q (.int v) H'
theorem sc_L_taken : FnScope ["_law_row", "_law_many", "_law_cell", "_law_found"] ["_law_row", "_law_many"] (defScope s_L_taken) := ⟨rfl, rfl, rfl, by decide +kernel, rfl, by decide +kernel, by decide +kernel⟩
theorem ok_L_taken (T : Txt h0 K mg) : FnOk P w K mg base CX0 1 (He.ga K "_law_taken") (fdOf K (He.ga K "_law_taken")) ["_law_row", "_law_many"] (spTaken K) := by
  refine FnOk.mono (j := 1) ((T.fn_L_taken).ok sc_L_taken (fun vs H Q E h => ?_) (fun cdv A outer st0 H vs Q E hr h => ?_)) (by decide)
  · obtain ⟨r, sc, ns, m, rfl, _⟩ := h
    rfl
  · obtain ⟨r, sc, ns, m, rfl, R, hm, hm2, k⟩ := h
    refine ⟨_, PSs.nox ((pss_cons (ps_if (pt_cmpR op_gt (pe_ix (ix_listK K) (pv 0) pe_int (fun _ _ => rfl)) pe_int (nomark _)) (pss_cons (ps_set (i := 3) sc_L_taken.nd rfl (Or.inl rfl) (pe_op op_modN (pe_callTy call_int1S (by rfl) T.f_int (by decide +kernel) (pa_cons (pe_ix (ix_listK K) (pv 0) pe_int (fun _ _ => rfl)) pa_nil)) (pv 1)))
      (pss_cons (ps_asg (pe_op op_fdivN (pe_ix (ix_listK K) (pv 0) pe_int (fun _ _ => rfl)) (pv 1)) (pg_sub (pv 0) pe_int set_list))
      (pss_one (ps_ret (pv 3))))) pss_nil)
      (pss_cons (ps_asg (pe_op op_add (pe_ix (ix_listK K) (pv 0) pe_int (fun _ _ => rfl)) pe_int) (pg_sub (pv 0) pe_int set_list))
      (pss_cons (ps_if (pt_cmpR op_gt (pe_ix (ix_listK K) (pv 0) pe_int (fun _ _ => rfl)) (pe_callB (call_lenK K) (by rfl) T.f_len (by decide +kernel) (pa_cons (pe_ix (ix_listK K) (pv 0) pe_int (fun _ _ => rfl)) pa_nil)) (nomark _)) (pss_cons (ps_asg (pe_op op_modN (pe_callTy call_int1S (by rfl) T.f_int (by decide +kernel) (pa_cons (pe_op op_add (pe_op op_mul (pe_ix (ix_listK K) (pv 0) pe_int (fun _ _ => rfl)) pe_int) pe_int) pa_nil)) pe_int) (pg_sub (pv 0) pe_int set_list))
      (pss_one (ps_ret (pe_op op_modN (pe_callTy call_int1S (by rfl) T.f_int (by decide +kernel) (pa_cons (pe_op op_fdivN (pe_ix (ix_listK K) (pv 0) pe_int (fun _ _ => rfl)) pe_int) pa_nil)) (pv 1))))) pss_nil)
      (pss_cons (ps_set (i := 2) sc_L_taken.nd rfl (Or.inl rfl) (pe_ix (ix_listK K) (pe_ix (ix_listK K) (pv 0) pe_int (fun _ _ => rfl)) (pe_op op_sub (pe_ix (ix_listK K) (pv 0) pe_int (fun _ _ => rfl)) pe_int) (fun _ _ => rfl)))
      (pss_cons (ps_asg (pe_op op_modN (pe_callTy call_int1S (by rfl) T.f_int (by decide +kernel) (pa_cons (pe_op op_add (pe_op op_add (pe_op op_mul (pe_ix (ix_listK K) (pv 0) pe_int (fun _ _ => rfl)) pe_int) (pv 2)) pe_int) pa_nil)) pe_int) (pg_sub (pv 0) pe_int set_list))
      (pss_cons (ps_if (pt_cmpR op_ge (pv 2) (pe_op op_pow pe_int pe_int) (nomark _)) (pss_one (ps_asg (pe_op op_fdivN (pv 2) (pv 1)) (pg_sub (pv 0) pe_int set_list))) pss_nil)
      (pss_one (ps_ret (pe_op op_modN (pe_callTy call_int1S (by rfl) T.f_int (by decide +kernel) (pa_cons (pv 2) pa_nil)) (pv 1))))))))))), ?_⟩
    obtain ⟨a, b, c, hr0, ha⟩ := R.row
    have at_ : ∀ {H1 : Hp} {σ : L2.St} {xs : List V} {j : Nat} {v : V}, σ[0]? = some (some (V.ref r)) → H1 r = some (.lst xs) → xs[j]? = some v → Ev (tOp (rIxL K) (tVar 0) (tC (.int (j : Int)))) σ H1 v := fun {H1 σ xs j v} h0 h1 h2 => ev_op (ev_var h0) ev_c (rv_ixL (sq_of h1) (atI_nat h2))
    have mod_ : ∀ {H1 : Hp} {σ : L2.St} {te tm : TE} {x y : Int}, Ev te σ H1 (.int x) → Ev tm σ H1 (.int y) → y ≠ 0 → Ev (tOp (rI (fun _ j => j ≠ 0) fun i j => V.int (i.fmod j)) te tm) σ H1 (.int (x.fmod y)) := fun {H1 σ te tm x y} h1 h2 h3 => ev_op h1 h2 (rv_I h3)
    have div_ : ∀ {H1 : Hp} {σ : L2.St} {te tm : TE} {x y : Int}, Ev te σ H1 (.int x) → Ev tm σ H1 (.int y) → 0 < y → y < 1000000 → Ev (tOp (rI CDivN fun i j => V.int (i.fdiv j)) te tm) σ H1 (.int (x.fdiv y)) := fun {H1 σ te tm x y} h1 h2 h3 h4 => ev_op h1 h2 (rv_I ⟨by omega, by omega⟩)
    have mul_ : ∀ {H1 : Hp} {σ : L2.St} {te : TE} {x : Int}, Ev te σ H1 (.int x) → Ev (tOp (rI CMul fun i j => V.int (i * j)) te (tC (.int 48271))) σ H1 (.int (x * 48271)) := fun {H1 σ te x} h1 => ev_op h1 ev_c (rv_I (.inr ⟨by decide, by decide⟩))
    have add_ : ∀ {H1 : Hp} {σ : L2.St} {te tm : TE} {x y : Int}, Ev te σ H1 (.int x) → Ev tm σ H1 (.int y) → Ev (tOp (rI0 fun i j => V.int (i + j)) te tm) σ H1 (.int (x + y)) := fun {H1 σ te tm x y} h1 h2 => ev_op h1 h2 rv_I0
    refine q_when (et_test (ev_op (at_ rfl hr0 (j := 3) rfl) ev_c rv_I0)) (fun hb H1 e1 => ?_) (fun hb H1 e1 => ?_)
    · have R1 := R.mono e1
      refine q_asg (mod_ (ev_int1 (at_ rfl (e1 _ _ hr0) (j := 3) rfl)) (ev_var rfl) (by omega)) fun H2 e2 => ?_
      have R2 := R1.mono e2
      refine q_rset (j := 3) (e2 _ _ (e1 _ _ hr0)) (div_ (at_ rfl (e2 _ _ (e1 _ _ hr0)) (j := 3) rfl) (ev_var rfl) hm hm2) (fun _ _ => ev_var rfl) (fun _ _ => ev_c) (by show 3 < 4; decide) fun H3 e3 => ?_
      refine s_ret (ev_var rfl) fun H4 e4 => ?_
      exact k _ _ (fmod_lt hm).1 (fmod_lt hm).2 (((R2.mono e3).set ha).mono e4) ((Fr.of (e1.trans (e2.trans e3))).trans ((Fr.upd (by simp)).trans (Fr.of e4)))
    · have R1 := R.mono e1
      refine q_rset (j := 1) (e1 _ _ hr0) (add_ (at_ rfl (e1 _ _ hr0) (j := 1) rfl) ev_c) (fun _ _ => ev_var rfl) (fun _ _ => ev_c) (by show 1 < 4; decide) fun H2 e2 => ?_
      have R2 : RowAt K (upd H2 r (.lst [.ref sc, .int (a + 1), .int b, .int c])) r sc ns := (R1.mono e2).set (by omega)
      have F2 : Fr [r] H (upd H2 r (.lst [.ref sc, .int (a + 1), .int b, .int c])) := (Fr.of (e1.trans e2)).trans (Fr.upd (by simp))
      show tSeq _ _ _ _ (upd H2 r (.lst [.ref sc, .int (a + 1), .int b, .int c]))
      have h2 : upd H2 r (.lst [.ref sc, .int (a + 1), .int b, .int c]) r = some (.lst [.ref sc, .int (a + 1), .int b, .int c]) := upd_same
      generalize upd H2 r (.lst [.ref sc, .int (a + 1), .int b, .int c]) = H3 at h2 R2 F2 ⊢
      refine q_when (et_test (ev_op (at_ rfl h2 (j := 1) rfl) (ev_len (at_ rfl h2 (j := 0) rfl) R2.scl) rv_I0)) (fun hb H4 e4 => ?_) (fun hb H4 e4 => ?_)
      · refine q_rset (j := 2) (e4 _ _ h2) (mod_ (ev_int1 (add_ (mul_ (at_ rfl (e4 _ _ h2) (j := 2) rfl)) ev_c)) ev_c (by decide)) (fun _ _ => ev_var rfl) (fun _ _ => ev_c) (by show 2 < 4; decide) fun H5 e5 => ?_
        refine s_ret (mod_ (ev_int1 (div_ (at_ rfl upd_same (j := 2) rfl) ev_c (by decide) (by decide))) (ev_var rfl) (by omega)) fun H6 e6 => ?_
        exact k _ _ (fmod_lt hm).1 (fmod_lt hm).2 (((R2.mono (e4.trans e5)).set (by omega)).mono e6) (F2.trans ((Fr.of (e4.trans e5)).trans ((Fr.upd (by simp)).trans (Fr.of e6))))
      · have hlen : a < (ns.length : Int) := by
          have := of_decide_eq_false hb
          rw [List.length_map] at this
          omega
        obtain ⟨cell, hcell⟩ : ∃ cell, ns[a.toNat]? = some cell := ⟨ns[a.toNat]'(by omega), List.getElem?_eq_getElem (by omega)⟩
        refine q_asg (v := .int cell) (ev_op (at_ rfl (e4 _ _ h2) (j := 0) rfl) (ev_op (at_ rfl (e4 _ _ h2) (j := 1) rfl) ev_c rv_I0) (rv_ixL (ex_l e4 R2.scl) (L2.at_of (j := a.toNat) (by omega) (by rw [List.getElem?_map, hcell] <;> rfl)))) fun H5 e5 => ?_
        have e45 := e4.trans e5
        refine q_rset (j := 2) (e45 _ _ h2) (mod_ (ev_int1 (add_ (add_ (mul_ (at_ rfl (e45 _ _ h2) (j := 2) rfl)) (ev_var rfl)) ev_c)) ev_c (by decide)) (fun _ _ => ev_var rfl) (fun _ _ => ev_c) (by show 2 < 4; decide) fun H6 e6 => ?_
        refine q_when (b := decide ((10 : Int) ^ 18 ≤ cell)) (et_test (ev_op (ev_var rfl) (ev_is (ev_op ev_c ev_c (rv_I (C := CPow) ⟨by decide, by decide, by decide⟩)) rfl) rv_I0)) (fun hb H7 e7 => ?_) (fun hb H7 e7 => ?_)
        · refine s_rset (j := 3) (e7 _ _ upd_same) (div_ (ev_var rfl) (ev_var rfl) hm hm2) (fun _ _ => ev_var rfl) (fun _ _ => ev_c) (by show 3 < 4; decide) fun H8 e8 => ?_
          refine s_ret (mod_ (ev_int1 (ev_var rfl)) (ev_var rfl) (by omega)) fun H9 e9 => ?_
          exact k _ _ (fmod_lt hm).1 (fmod_lt hm).2 ((((R2.mono (e45.trans e6)).set (by omega)).mono (e7.trans e8)).set (by omega) |>.mono e9) (F2.trans ((Fr.of (e45.trans e6)).trans ((Fr.upd (by simp)).trans ((Fr.of (e7.trans e8)).trans ((Fr.upd (by simp)).trans (Fr.of e9))))))
        · refine s_ret (mod_ (ev_int1 (ev_var rfl)) (ev_var rfl) (by omega)) fun H8 e8 => ?_
          exact k _ _ (fmod_lt hm).1 (fmod_lt hm).2 (((R2.mono (e45.trans e6)).set (by omega)).mono (e7.trans e8)) (F2.trans ((Fr.of (e45.trans e6)).trans ((Fr.upd (by simp)).trans (Fr.of (e7.trans e8)))))
def spPick (K : PySem.W.Frag) : Sp := fun vs H Q _ => ∃ (r sc p : Addr) (ns : List Int) (xs : List V), vs = [.ref r, .ref p] ∧ RowAt K H r sc ns ∧ SqL K H p xs ∧ p ≠ r ∧ 0 < xs.length ∧ xs.length < 100000 ∧ ∀ (j : Nat) v H', xs[j]? = some v → RowAt K H' r sc ns → Fr [r] H H' → Q v H'
theorem sc_L_pick : FnScope ["_law_row", "_law_kinds"] ["_law_row", "_law_kinds"] (defScope s_L_pick) := ⟨rfl, rfl, rfl, by decide +kernel, rfl, by decide +kernel, by decide +kernel⟩
theorem ok_L_pick (T : Txt h0 K mg) : FnOk P w K mg base CX0 2 (He.ga K "_law_pick") (fdOf K (He.ga K "_law_pick")) ["_law_row", "_law_kinds"] (spPick K) := by
  refine FnOk.mono (j := 2) ((T.fn_L_pick).ok sc_L_pick (fun vs H Q E h => ?_) (fun cdv A outer st0 H vs Q E hr h => ?_)) (by decide)
  · obtain ⟨r, sc, p, ns, xs, rfl, _⟩ := h
    rfl
  · obtain ⟨r, sc, p, ns, xs, rfl, R, hp, np, h0, hl, k⟩ := h
    refine ⟨_, PSs.nox ((pss_one (ps_ret (pe_ix (ix_listK K) (pv 1) (pe_call (ok_L_taken T) (hr.mono (by decide)) rfl T.g__law_taken T.k_L_taken T.b_L_taken .nil pass0 (pa_cons (pv 0) (pa_cons (pe_callB (call_lenK K) (by rfl) T.f_len (by decide +kernel) (pa_cons (pv 1) pa_nil)) pa_nil))) (fun _ _ => rfl))))), ?_⟩
    refine s_retOp (x := .ref p) (ev_var rfl) fun H1 e1 => ?_
    refine e_call (vs := [.ref r, .int (xs.length : Int)]) (ea_cons (ev_var rfl) (ea_cons (ev_len (ev_var rfl) (ex_l e1 hp)) ea_nil)) fun H2 e2 => ⟨r, sc, ns, _, rfl, R.mono (e1.trans e2), by omega, by omega, fun v H3 hv1 hv2 R3 F3 => ?_⟩
    have e12 := e1.trans e2
    have hx : xs[v.toNat]? = some (xs[v.toNat]'(by omega)) := List.getElem?_eq_getElem (by omega)
    refine ⟨p, xs, v, _, rfl, rfl, SqL.fr F3 (ex_l e12 hp) (by simpa using np), L2.at_of (j := v.toNat) (by omega) hx, ?_⟩
    exact k v.toNat _ _ hx R3 ((Fr.of e12).trans F3)
def spPaths : Sp := fun vs H Q _ => vs = [] ∧ RetL ([V.str "drop store", V.str "drop store drop", V.str "store", V.str "store drop", V.str "store set"]) H Q
theorem sc_L_paths : FnScope [] [] (defScope s_L_paths) := ⟨rfl, rfl, rfl, by decide +kernel, rfl, by decide +kernel, by decide +kernel⟩
theorem ok_L_paths (T : Txt h0 K mg) : FnOk P w K mg base CX0 1 (He.ga K "_law_paths") (fdOf K (He.ga K "_law_paths")) [] (spPaths) := by
  refine FnOk.mono (j := 1) ((T.fn_L_paths).ok sc_L_paths (fun vs H Q E h => ?_) (fun cdv A outer st0 H vs Q E hr h => ?_)) (by decide)
  · obtain ⟨rfl, _⟩ := h
    rfl
  · obtain ⟨rfl, k⟩ := h
    refine ⟨_, PSs.nox ((pss_one (ps_ret (pe_lst (pa_cons pe_str (pa_cons pe_str (pa_cons pe_str (pa_cons pe_str (pa_cons pe_str pa_nil))))))))), ?_⟩
    exact s_retL (el_lst (ea_cons ev_c (ea_cons ev_c (ea_cons ev_c (ea_cons ev_c (ea_cons ev_c ea_nil))))) (by show 5 ≤ 100000; decide)) k
end
end K10
end
section
set_option Elab.async false
set_option linter.all false
set_option maxRecDepth 100000
set_option maxHeartbeats 4000000
namespace K10
open PySem PySem.Spec PyProof.Rows L2 Evl
section
variable {K : PySem.W.Frag} {H : Hp} {σ : L2.St} {ta tb te : TE} {D : Ends} {tz : TS} {xs ys : List V} {es fs : List Evt}
theorem el_cat (h1 : EvL ta σ H xs) (h2 : EvL tb σ H ys) (hl : xs.length + ys.length ≤ 100000) : EvL (tOp rCat ta tb) σ H (xs ++ ys) := fun H1 e Q q =>
  h1 H1 e _ fun a H2 na e2 ha => h2 H2 (e.trans e2) _ fun b H3 nb e3 hb => ⟨a, b, xs, ys, rfl, rfl, e3 _ _ ha, hb, sz_of hl, fun p hp => q p _ (Same.free (e2.trans e3) hp) ((e2.trans e3).trans (Ex.new hp)) upd_same⟩
theorem ele_cat {a : Addr} (h1 : Ev ta σ H (.ref a)) (ha : EvL' H a es) (h2 : ELE tb σ H fs) (hl : es.length + fs.length ≤ 100000) : ELE (tOp rCat ta tb) σ H (es ++ fs) := fun H1 e Q q =>
  h1 H1 e _ fun H2 e2 => h2 H2 (e.trans e2) _ fun b H3 nb e3 hb => by
    obtain ⟨as, a1, a2, a3⟩ := ha.mono ((e.trans e2).trans e3)
    obtain ⟨bs, b1, b2, b3⟩ := hb
    refine ⟨a, b, _, _, rfl, rfl, a2, b2, sz_of (by rw [List.length_map, List.length_map, ← List.length_map (f := fun b : Evt × Addr => b.1), a1, ← List.length_map (as := bs) (f := fun b : Evt × Addr => b.1), b1]; exact hl), fun p hp => q p _ (Same.free (e2.trans e3) hp) ((e2.trans e3).trans (Ex.new hp)) ⟨as ++ bs, by rw [List.map_append, a1, b1], by rw [List.map_append]; exact upd_same, fun c hc => ?_⟩⟩
    rcases List.mem_append.mp hc with hc | hc
    · exact Ex.new hp _ _ (a3 c hc)
    · exact Ex.new hp _ _ (b3 c hc)
theorem x_pick {tr tl : TE} {E : XK} {r sc : Addr} {ns : List Int} {Q : VK} (R : RowAt K H r sc ns) (hr : Ev tr σ H (.ref r)) (hl : EvL tl σ H xs) (h0 : 0 < xs.length) (h1 : xs.length < 100000)
    (k : ∀ (j : Nat) v H', xs[j]? = some v → RowAt K H' r sc ns → Fr [r] H H' → Q v H') : tCall (spPick K) [] E (tCons tr (tCons tl tNil)) σ H Q :=
  hr H (Ex.refl _) _ fun H1 e1 => hl H1 e1 _ fun p H2 np e2 hp => ⟨r, sc, p, ns, xs, rfl, R.mono (e1.trans e2), sq_of hp, (fun z => by
    obtain ⟨a, b, c, h3, _⟩ := R.row
    rw [z, e1 _ _ h3] at np
    cases np), h0, h1, fun j v H' hv R' F' => k j v H' hv R' ((Fr.of (e1.trans e2)).trans F')⟩
theorem q_pick {tr tl : TE} {E : XK} {r sc : Addr} {ns : List Int} {i : Nat} (R : RowAt K H r sc ns) (hr : Ev tr σ H (.ref r)) (hl : EvL tl σ H xs) (h0 : 0 < xs.length) (h1 : xs.length < 100000)
    (k : ∀ (j : Nat) v H', xs[j]? = some v → RowAt K H' r sc ns → Fr [r] H H' → tz D (σ.set i (some v)) H') : tSeq (tAsg (tCall (spPick K) [] E (tCons tr (tCons tl tNil))) (gName i)) tz D σ H := x_pick R hr hl h0 h1 k
theorem map_at {α : Type} {l : List α} {f : α → V} {j : Nat} {v : V} (h : (l.map f)[j]? = some v) : ∃ a, v = f a := by
  rw [List.getElem?_map] at h
  cases e : l[j]? with
  | none =>
    rw [e] at h
    cases h
  | some a =>
    rw [e] at h
    exact ⟨a, (Option.some.inj h).symm⟩
end
section
variable {P : Program} {w : World} {base h0 : Heap} {K : PySem.W.Frag} {mg : Str → Option Value}
theorem el_paths {H : Hp} {σ : L2.St} {E : XK} : EvL (tCall spPaths [] E tNil) σ H ([.ds, .dsd, .s, .sd, .ss].map fun p : Pt => V.str p.str) := fun H1 e Q q => ⟨rfl, q⟩
def spDesign (K : PySem.W.Frag) : Sp := fun vs H Q _ => ∃ (r sc : Addr) (ns : List Int), vs = [.ref r] ∧ RowAt K H r sc ns ∧ ∀ p (c : Cfg) H', H p = none → H' p = some (.tup (desV c)) → RowAt K H' r sc ns → Fr [r] H H' → Q (.ref p) H'
theorem sc_L_design : FnScope ["_law_row", "_law_guard"] ["_law_row"] (defScope s_L_design) := ⟨rfl, rfl, rfl, by decide +kernel, rfl, by decide +kernel, by decide +kernel⟩
theorem ok_L_design (T : Txt h0 K mg) : FnOk P w K mg base CX0 3 (He.ga K "_law_design") (fdOf K (He.ga K "_law_design")) ["_law_row"] (spDesign K) := by
  refine FnOk.mono (j := 3) ((T.fn_L_design).ok sc_L_design (fun vs H Q E h => ?_) (fun cdv A outer st0 H vs Q E hr h => ?_)) (by decide)
  · obtain ⟨r, sc, ns, rfl, _⟩ := h
    rfl
  · obtain ⟨r, sc, ns, rfl, R, k⟩ := h
    refine ⟨_, PSs.nox ((pss_cons (ps_set (i := 1) sc_L_design.nd rfl (Or.inl rfl) (pe_call (ok_L_pick T) (hr.mono (by decide)) rfl T.g__law_pick T.k_L_pick T.b_L_pick .nil pass0 (pa_cons (pv 0) (pa_cons (pe_lst (pa_cons pe_str (pa_cons pe_str (pa_cons pe_str (pa_cons pe_str (pa_cons pe_str (pa_cons pe_str (pa_cons pe_str (pa_cons pe_str (pa_cons pe_str pa_nil)))))))))) pa_nil))))
      (pss_one (ps_ret (pe_tup (pa_cons (pe_call (ok_L_pick T) (hr.mono (by decide)) rfl T.g__law_pick T.k_L_pick T.b_L_pick .nil pass0 (pa_cons (pv 0) (pa_cons (pe_op op_cat (pe_call0 (ok_L_paths T) (hr.mono (by decide)) rfl T.g__law_paths T.k_L_paths T.b_L_paths .nil pass0) (pe_lst (pa_cons pe_str (pa_cons pe_str pa_nil)))) pa_nil))) (pa_cons (pv 1) (pa_cons (pe_call (ok_L_pick T) (hr.mono (by decide)) rfl T.g__law_pick T.k_L_pick T.b_L_pick .nil pass0 (pa_cons (pv 0) (pa_cons (pe_lst (pa_cons pe_str (pa_cons pe_str (pa_cons pe_str pa_nil)))) pa_nil))) pa_nil)))))))), ?_⟩
    refine q_pick (xs := [Gd.always, .empty, .mark, .mark, .never, .newer, .newer, .token, .token].map fun g => V.str g.str) R (ev_var rfl) (el_lst (ea_cons ev_c (ea_cons ev_c (ea_cons ev_c (ea_cons ev_c (ea_cons ev_c (ea_cons ev_c (ea_cons ev_c (ea_cons ev_c (ea_cons ev_c ea_nil))))))))) (by show 9 ≤ 100000; decide)) (by show 0 < 9; decide) (by show 9 < 100000; decide) fun j v H1 hv R1 F1 => ?_
    obtain ⟨g, rfl⟩ := map_at hv
    show tCall (spPick K) [] _ _ _ _ _
    refine x_pick (xs := ([.ds, .dsd, .s, .sd, .ss].map fun p : Pt => V.str p.str) ++ [.sd, .ss].map fun p : Pt => V.str p.str) R1 (ev_var rfl) (el_cat el_paths (el_lst (ea_cons ev_c (ea_cons ev_c ea_nil)) (by show 2 ≤ 100000; decide)) (by show 5 + 2 ≤ 100000; decide)) (by show 0 < 7; decide) (by show 7 < 100000; decide) fun j v H2 hv R2 F2 => ?_
    rw [← List.map_append] at hv
    obtain ⟨p, rfl⟩ := map_at hv
    refine (show tVar 1 _ H2 _ from ⟨_, rfl, ?_⟩)
    show tCall (spPick K) [] _ _ _ _ _
    refine x_pick (xs := [false, false, true].map fun b => V.str (fliS b)) R2 (ev_var rfl) (el_lst (ea_cons ev_c (ea_cons ev_c (ea_cons ev_c ea_nil))) (by show 3 ≤ 100000; decide)) (by show 0 < 3; decide) (by show 3 < 100000; decide) fun j v H3 hv R3 F3 => ?_
    obtain ⟨b, rfl⟩ := map_at hv
    refine ⟨by show 3 ≤ sizeLine; decide, fun q nq => ?_⟩
    have hq : H q = none := (F1.trans (F2.trans F3)).none_back nq fun z => by
      obtain ⟨x, y, u, h3, _⟩ := R3.row
      rw [List.mem_singleton.mp z, h3] at nq
      cases nq
    exact k q ⟨p, g, b, false, false, false⟩ _ hq upd_same (R3.mono (Ex.new nq)) (F1.trans (F2.trans (F3.trans (Fr.of (Ex.new nq)))))
def spWorld (K : PySem.W.Frag) : Sp := fun vs H Q _ => ∃ (r sc : Addr) (ns : List Int), vs = [.ref r] ∧ RowAt K H r sc ns ∧ ∀ p (a b c : Bool) H', H p = none → H' p = some (.tup [V.str (srcS a), .str (eviS b), .str (stoS c)]) → RowAt K H' r sc ns → Fr [r] H H' → Q (.ref p) H'
theorem sc_L_world : FnScope ["_law_row"] ["_law_row"] (defScope s_L_world) := ⟨rfl, rfl, rfl, by decide +kernel, rfl, by decide +kernel, by decide +kernel⟩
theorem ok_L_world (T : Txt h0 K mg) : FnOk P w K mg base CX0 3 (He.ga K "_law_world") (fdOf K (He.ga K "_law_world")) ["_law_row"] (spWorld K) := by
  refine FnOk.mono (j := 3) ((T.fn_L_world).ok sc_L_world (fun vs H Q E h => ?_) (fun cdv A outer st0 H vs Q E hr h => ?_)) (by decide)
  · obtain ⟨r, sc, ns, rfl, _⟩ := h
    rfl
  · obtain ⟨r, sc, ns, rfl, R, k⟩ := h
    refine ⟨_, PSs.nox ((pss_one (ps_ret (pe_tup (pa_cons (pe_call (ok_L_pick T) (hr.mono (by decide)) rfl T.g__law_pick T.k_L_pick T.b_L_pick .nil pass0 (pa_cons (pv 0) (pa_cons (pe_lst (pa_cons pe_str (pa_cons pe_str pa_nil))) pa_nil))) (pa_cons (pe_call (ok_L_pick T) (hr.mono (by decide)) rfl T.g__law_pick T.k_L_pick T.b_L_pick .nil pass0 (pa_cons (pv 0) (pa_cons (pe_lst (pa_cons pe_str (pa_cons pe_str (pa_cons pe_str pa_nil)))) pa_nil))) (pa_cons (pe_call (ok_L_pick T) (hr.mono (by decide)) rfl T.g__law_pick T.k_L_pick T.b_L_pick .nil pass0 (pa_cons (pv 0) (pa_cons (pe_lst (pa_cons pe_str (pa_cons pe_str (pa_cons pe_str pa_nil)))) pa_nil))) pa_nil))))))), ?_⟩
    show tCall (spPick K) [] _ _ _ _ _
    refine x_pick (xs := [false, true].map fun b => V.str (srcS b)) R (ev_var rfl) (el_lst (ea_cons ev_c (ea_cons ev_c ea_nil)) (by show 2 ≤ 100000; decide)) (by show 0 < 2; decide) (by show 2 < 100000; decide) fun j v H1 hv R1 F1 => ?_
    obtain ⟨a, rfl⟩ := map_at hv
    show tCall (spPick K) [] _ _ _ _ _
    refine x_pick (xs := [true, false, false].map fun b => V.str (eviS b)) R1 (ev_var rfl) (el_lst (ea_cons ev_c (ea_cons ev_c (ea_cons ev_c ea_nil))) (by show 3 ≤ 100000; decide)) (by show 0 < 3; decide) (by show 3 < 100000; decide) fun j v H2 hv R2 F2 => ?_
    obtain ⟨b, rfl⟩ := map_at hv
    show tCall (spPick K) [] _ _ _ _ _
    refine x_pick (xs := [false, false, true].map fun b => V.str (stoS b)) R2 (ev_var rfl) (el_lst (ea_cons ev_c (ea_cons ev_c (ea_cons ev_c ea_nil))) (by show 3 ≤ 100000; decide)) (by show 0 < 3; decide) (by show 3 < 100000; decide) fun j v H3 hv R3 F3 => ?_
    obtain ⟨c, rfl⟩ := map_at hv
    refine ⟨by show 3 ≤ sizeLine; decide, fun q nq => ?_⟩
    have hq : H q = none := (F1.trans (F2.trans F3)).none_back nq fun z => by
      obtain ⟨x, y, u, h3, _⟩ := R3.row
      rw [List.mem_singleton.mp z, h3] at nq
      cases nq
    exact k q a b c _ hq upd_same (R3.mono (Ex.new nq)) (F1.trans (F2.trans (F3.trans (Fr.of (Ex.new nq)))))
end
end K10
end
section
set_option Elab.async false
set_option linter.all false
set_option maxRecDepth 100000
set_option maxHeartbeats 4000000
namespace K10
open PySem PySem.Spec PyProof.Rows L2 Evl
theorem putF_keys (f : Str) (v : V) : ∀ fs : List (Str × V), (putF f v fs).map (·.1) = if f ∈ fs.map (·.1) then fs.map (·.1) else fs.map (·.1) ++ [f]
  | [] => rfl
  | (g, x) :: r => by
    show (if g = f then (g, v) :: r else (g, x) :: putF f v r).map (·.1) = _
    by_cases h : g = f
    · subst h
      rw [if_pos rfl, List.map_cons, List.map_cons, if_pos (List.mem_cons_self ..)]
    · rw [if_neg h, List.map_cons, putF_keys f v r, List.map_cons]
      by_cases h2 : f ∈ r.map (·.1)
      · rw [if_pos h2, if_pos (List.mem_cons_of_mem _ h2)]
      · rw [if_neg h2, if_neg fun z => by
          rcases List.mem_cons.mp z with z | z
          · exact h z.symm
          · exact h2 z]
        rfl
theorem putF_nd {f : Str} {v : V} {fs : List (Str × V)} (h : (fs.map (·.1)).Nodup) : ((putF f v fs).map (·.1)).Nodup := by
  rw [putF_keys]
  split
  · exact h
  · rename_i hk
    rw [List.nodup_append]
    exact ⟨h, by simp, fun a ha b hb => by
      simp at hb
      subst hb
      exact fun e => hk (e ▸ ha)⟩
def putAll (gs fs : List (Str × V)) : List (Str × V) := fs.foldl (fun a p => putF p.1 p.2 a) gs
theorem merge_fk : ∀ (fs gs : List (Str × V)), (gs.map (·.1)).Nodup → mergeK (fk gs) (fk fs) = fk (putAll gs fs)
  | [], gs, h => rfl
  | p :: fs, gs, h => by
    show mergeK (putK (fk gs) (Sum.inr p.1) p.2) (fk fs) = fk (putAll (putF p.1 p.2 gs) fs)
    rw [fk_put _ _ _ h]
    exact merge_fk fs _ (putF_nd h)
theorem merge_fk0 {fs gs : List (Str × V)} (h : putAll [] fs = gs) : mergeK [] (fk fs) = fk gs := by
  rw [← h]
  exact merge_fk fs [] (by simp)
section
variable {K : PySem.W.Frag} {H : Hp} {σ : L2.St} {ta tb te : TE} {D : Ends} {tz : TS} {xs ys : List V} {r : List (TE × TE)} {f : Str} {v : V} {Q : List (V × V) → Hp → Prop}
theorem tp_str (h : Ev te σ H v) (k : ∀ H1, Ex H H1 → tPairs r σ H1 fun ps H2 => Q ((.str f, v) :: ps) H2) : tPairs ((tC (.str f), te) :: r) σ H Q :=
  tp_cons (ev_c H (Ex.refl _) _ fun H1 e1 => h H1 e1 _ fun H2 e2 => k H2 (e1.trans e2))
theorem tp_strL (h : EvL te σ H xs) (k : ∀ p H1, H p = none → Ex H H1 → H1 p = some (.lst xs) → tPairs r σ H1 fun ps H2 => Q ((.str f, .ref p) :: ps) H2) : tPairs ((tC (.str f), te) :: r) σ H Q :=
  tp_cons (ev_c H (Ex.refl _) _ fun H1 e1 => h H1 e1 _ fun p H2 np e2 hp => k p H2 (Same.free e1 np) (e1.trans e2) hp)
theorem tp_end {gs fs : List (Str × V)} {p : Addr} {Q : VK} {pre : List (V × V)} (hp : H p = some (.dK [])) (hl : fs.length ≤ 15) (hg : putAll [] fs = gs) (hpre : pre = fs.map fun q => (.str q.1, q.2)) (k : Q (.ref p) (upd H p (.dK (fk gs)))) :
    H p = some (.dK []) ∧ ∃ kvs : List (Key × V), pre = kvs.map (fun kv => (kV kv.1, kv.2)) ∧ kvs.length ≤ 15 ∧ Q (.ref p) (upd H p (.dK (mergeK [] kvs))) := by
  refine ⟨hp, fk fs, ?_, by unfold fk; rw [List.length_map]; exact hl, by rw [merge_fk0 hg]; exact k⟩
  rw [hpre]
  unfold fk
  rw [List.map_map]
  rfl
theorem ev_niL {x : V} (ha : Ev ta σ H x) (hb : EvL tb σ H xs) (hx : flatV x = true) (hf : xs.all flatV = true) : Ev (tOp (rIn K true) ta tb) σ H (.bl (!inV x xs)) := ev_opL ha hb fun _ _ h _ => rv_niL (sq_of h) hx hf
theorem ev_isL {x : V} (ha : Ev ta σ H x) (hb : EvL tb σ H xs) (hx : flatV x = true) (hf : xs.all flatV = true) : Ev (tOp (rIn K false) ta tb) σ H (.bl (inV x xs)) := ev_opL ha hb fun _ _ h _ => rv_isL (sq_of h) hx hf
theorem q_par {i j : Nat} {tr : TA} {x y : V} (h : EvA tr σ H [x, y]) (k : ∀ H1, Ex H H1 → tz D ((σ.set i (some x)).set j (some y)) H1) : tSeq (tPar i j tr) tz D σ H := h H (Ex.refl _) _ fun H1 e1 => ⟨x, y, rfl, k H1 e1⟩
end
section
variable {P : Program} {w : World} {base h0 : Heap} {K : PySem.W.Frag} {mg : Str → Option Value}
def spLBegin (K : PySem.W.Frag) : Sp := fun vs H Q _ => ∃ (da wa : Addr) (c : Cfg), vs = [.ref da, .ref wa] ∧ SqT K H da (desV c) ∧ SqT K H wa (worV c) ∧ ∀ G H', LawAt K H' G (S.init c) → (∀ b ∈ G.own, H b = none) → Ex H H' → Q (.ref G.h) H'
theorem sc_L_begin : FnScope ["_law_design_here", "_law_world_here"] ["_law_design_here", "_law_world_here"] (defScope s_L_begin) := ⟨rfl, rfl, rfl, by decide +kernel, rfl, by decide +kernel, by decide +kernel⟩
theorem ok_L_begin (T : Txt h0 K mg) : FnOk P w K mg base CX0 1 (He.ga K "_law_begin") (fdOf K (He.ga K "_law_begin")) ["_law_design_here", "_law_world_here"] (spLBegin K) := by
  refine FnOk.mono (j := 1) ((T.fn_L_begin).ok sc_L_begin (fun vs H Q E h => ?_) (fun cdv A outer st0 H vs Q E hr h => ?_)) (by decide)
  · obtain ⟨da, wa, c, rfl, _⟩ := h
    rfl
  · obtain ⟨da, wa, c, rfl, hD, hW, k⟩ := h
    refine ⟨_, PSs.nox ((pss_one (ps_ret (pe_disp (pps_cons pe_str (pv 0) (pps_cons pe_str (pv 1) (pps_cons pe_str pe_int (pps_cons pe_str pe_int (pps_cons pe_str pe_non (pps_cons pe_str pe_int (pps_cons pe_str pe_non (pps_cons pe_str (pe_lst pa_nil) (pps_cons pe_str (pe_lst pa_nil) pps_nil))))))))) (by rfl) (by rfl) (fun z => by cases z) (by decide))))), ?_⟩
    intro d nd
    have e0 : Ex H (upd H d (.dK [])) := Ex.new nd
    refine tp_str (v := .ref da) (ev_var rfl) fun H1 e1 => tp_str (v := .ref wa) (ev_var rfl) fun H2 e2 => tp_str (v := .int 0) ev_c fun H3 e3 => tp_str (v := .int 0) ev_c fun H4 e4 => tp_str (v := .non) ev_c fun H5 e5 => tp_str (v := .int 0) ev_c fun H6 e6 => tp_str (v := .non) ev_c fun H7 e7 => ?_
    refine tp_strL (el_lst ea_nil (by show 0 ≤ 100000; decide)) fun ol H8 n8 e8 h8 => tp_strL (el_lst ea_nil (by show 0 ≤ 100000; decide)) fun pl H9 n9 e9 h9 => tp_nil ?_
    have e17 := e1.trans (e2.trans (e3.trans (e4.trans (e5.trans (e6.trans e7)))))
    have e19 := e17.trans (e8.trans e9)
    have d9 : H9 d = some (.dK []) := e19 _ _ upd_same
    have n7 : ∀ {b : Addr}, H7 b = none → H b = none ∧ b ≠ d := fun {b} hb => ⟨Same.free (e0.trans e17) hb, fun z => by
      rw [z, e17 _ _ upd_same] at hb
      cases hb⟩
    have nol := n7 n8
    have npl := n7 (Same.free e8 n9)
    have nolpl : ol ≠ pl := fun z => by
      rw [← z, h8] at n9
      cases n9
    refine tp_end (gs := stL ⟨d, da, wa, ol, pl, [], []⟩ (S.init c)) (fs := stL ⟨d, da, wa, ol, pl, [], []⟩ (S.init c)) d9 (by show 9 ≤ 15; decide) rfl rfl ?_
    have exd : Ex H (upd H9 d (.dK (fk (stL ⟨d, da, wa, ol, pl, [], []⟩ (S.init c))))) := (e0.trans e19).mut nd
    refine k ⟨d, da, wa, ol, pl, [], []⟩ _ ⟨upd_same, ex_t exd hD, ex_t exd hW, ?_, ?_, rfl, (fun i a o h1 h2 => by cases h2), List.nodup_nil, .nil, nolpl, by simp⟩ (fun b hb => ?_) exd
    · rw [upd_ne nol.2]
      exact e9 _ _ h8
    · rw [upd_ne npl.2]
      exact h9
    · have hb : b ∈ [d, ol, pl] := hb
      simp at hb
      rcases hb with rfl | rfl | rfl
      · exact nd
      · exact nol.1
      · exact npl.1
def goA (G : LLay) (s : S) : List V := (gos s).map fun i => V.ref (G.os.getD i 0)
theorem goA_at {G : LLay} {s : S} {j : Nat} {x : V} {H : Hp} (R : LawAt K H G s) (h : (goA G s)[j]? = some x) : ∃ i a, (gos s)[j]? = some i ∧ (s.at i).going = true ∧ x = .ref a ∧ G.os[i]? = some a ∧ s.ops[i]? = some (s.at i) := by
  unfold goA at h
  rw [List.getElem?_map] at h
  cases e : (gos s)[j]? with
  | none =>
    rw [e] at h
    cases h
  | some i =>
    rw [e] at h
    have hm := List.mem_filter.mp (List.mem_of_getElem? e)
    have hi := List.mem_range.mp hm.1
    have hi2 : i < G.os.length := by rw [R.len]; exact hi
    refine ⟨i, G.os[i], rfl, hm.2, ?_, List.getElem?_eq_getElem hi2, ops_at hi⟩
    rw [← Option.some.inj h]
    show V.ref (G.os.getD i 0) = _
    rw [List.getD_eq_getElem?_getD, List.getElem?_eq_getElem hi2] <;> rfl
def spLGoing (K : PySem.W.Frag) : Sp := fun vs H Q _ => ∃ (G : LLay) (s : S), vs = [.ref G.h] ∧ LawAt K H G s ∧ s.ops.length ≤ 1000 ∧ RetL (goA G s) H Q
theorem goA_given (G : LLay) (s : S) : given s.ops.length (fun i => (s.at i).going) (fun i => V.ref (G.os.getD i 0)) = goA G s := rfl
theorem sc_L_going : FnScope ["_law_h", "_law_one"] ["_law_h"] (defScope s_L_going) := ⟨rfl, rfl, rfl, by decide +kernel, rfl, by decide +kernel, by decide +kernel⟩
theorem ok_L_going (T : Txt h0 K mg) : FnOk P w K mg base CX0 1 (He.ga K "_law_going") (fdOf K (He.ga K "_law_going")) ["_law_h"] (spLGoing K) := by
  refine FnOk.mono (j := 1) ((T.fn_L_going).ok sc_L_going (fun vs H Q E h => ?_) (fun cdv A outer st0 H vs Q E hr h => ?_)) (by decide)
  · obtain ⟨G, s, rfl, _⟩ := h
    rfl
  · obtain ⟨G, s, rfl, R, hl, k⟩ := h
    refine ⟨_, PSs.nox ((pss_one (ps_ret (pe_lc (own := [("_law_one", 1)]) (g := (gName 1)) rfl sc_L_going.nd (pi_listK K (pe_dget (hu_of hr) (pv 0) pe_str (fun _ _ => rfl))) (blkOk_by (N := ["_law_h", "_law_one"]) (sc := defScope s_L_going) (by decide +kernel)) (fun _ _ _ _ _ => (pg_name (i := 1) sc_L_going.nd rfl (Or.inl rfl))) (fun _ _ _ _ _ => (pts_one (pt_cmpR (op_notInK K) (pe_dget (hu_of hr) (pv 1) pe_str (fun _ _ => rfl)) (pe_lst (pa_cons pe_str (pa_cons pe_str pa_nil))) rfl))) (fun _ _ _ _ _ => (pv 1)))))), ?_⟩
    have hlen : (G.os.map V.ref).length = s.ops.length := by rw [List.length_map, R.len]
    refine s_retL (el_lcL (xs := G.os.map V.ref) (fun i => (s.at i).going) (fun i => V.ref (G.os.getD i 0)) (ev_sF R (ev_var rfl)) (sq_of R.ol) (by rw [hlen]; omega) (fun _ => rfl) (fun i x H1 e hx => ?_) (fun i x H1 e hx hg => ?_)) ?_
    · obtain ⟨a, ha, rfl, ho⟩ := R.ol_at hx
      exact et_is (et_test (ev_niL (ev_oF (R.mono e) ha ho (ev_var rfl)) (el_lst (ea_cons ev_c (ea_cons ev_c ea_nil)) (by show 2 ≤ 100000; decide)) rfl rfl)) (going_in _)
    · obtain ⟨a, ha, rfl, ho⟩ := R.ol_at hx
      rw [List.getD_eq_getElem?_getD, ha]
      exact ev_var rfl
    · intro p H1 hp e h1
      rw [hlen, goA_given] at h1
      exact k p H1 hp e h1
theorem el_goA {H : Hp} {σ : L2.St} {te : TE} {E : XK} {G : LLay} {s : S} (R : LawAt K H G s) (hl : s.ops.length ≤ 1000) (h : Ev te σ H (.ref G.h)) : EvL (tCall (spLGoing K) [] E (tCons te tNil)) σ H (goA G s) :=
  el_call (vs := [.ref G.h]) (dvs := []) (ea_cons h ea_nil) fun H1 e Q q E => ⟨G, s, rfl, R.mono e, hl, fun p H2 hp e2 h2 => q p H2 hp e2 h2⟩
def spLNext (K : PySem.W.Frag) : Sp := fun vs H Q _ => ∃ (G : LLay) (s : S) (i : Nat) (a : Addr) (o : Op), vs = [.ref G.h, .ref a] ∧ LawAt K H G s ∧ G.os[i]? = some a ∧ s.ops[i]? = some o ∧ (o.stage = .waits → ∃ j q, o.leader = some j ∧ s.ops[j]? = some q) ∧ RetV (wV (s.nextW o)) H Q
theorem sc_L_next : FnScope ["_law_h", "_law_one"] ["_law_h", "_law_one"] (defScope s_L_next) := ⟨rfl, rfl, rfl, by decide +kernel, rfl, by decide +kernel, by decide +kernel⟩
theorem ok_L_next (T : Txt h0 K mg) : FnOk P w K mg base CX0 1 (He.ga K "_law_next") (fdOf K (He.ga K "_law_next")) ["_law_h", "_law_one"] (spLNext K) := by
  refine FnOk.mono (j := 1) ((T.fn_L_next).ok sc_L_next (fun vs H Q E h => ?_) (fun cdv A outer st0 H vs Q E hr h => ?_)) (by decide)
  · obtain ⟨G, s, i, a, o, rfl, _⟩ := h
    rfl
  · obtain ⟨G, s, i, a, o, rfl, R, ha, ho, hw, k⟩ := h
    refine ⟨_, PSs.nox ((pss_cons (ps_if (pt_cmpR op_ne (pe_dget (hu_of hr) (pv 1) pe_str (fun _ _ => rfl)) pe_str (nomark _)) (pss_one (ps_ret (pe_dget (hu_of hr) (pv 1) pe_str (fun _ _ => rfl)))) pss_nil)
      (pss_one (ps_ret (pe_ifExp (pt_cmpR op_eq (pe_dget (hu_of hr) (pe_ix (ix_listK K) (pe_dget (hu_of hr) (pv 0) pe_str (fun _ _ => rfl)) (pe_dget (hu_of hr) (pv 1) pe_str (fun _ _ => rfl)) (fun _ _ => rfl)) pe_str (fun _ _ => rfl)) pe_str (nomark _)) pe_str pe_non))))), ?_⟩
    have stg : ∀ {H1 : Hp} {σ : L2.St} {te : TE} {i : Nat} {a : Addr} {o : Op} {z : Str} (w2 : Wd), LawAt K H1 G s → G.os[i]? = some a → s.ops[i]? = some o → Ev te σ H1 (.ref a) → z = w2.str → Ev (tOp rEq (tDGet te (tC (.str "stage"))) (tC (.str z))) σ H1 (.bl (decide (o.stage = w2))) := fun {H1 σ te i a o z} w2 R ha ho h hz => ev_is (ev_op (ev_oF R ha ho h) ev_c (rv_eq rfl)) (congrArg V.bl (w_is _ w2 hz))
    have stn : ∀ {H1 : Hp} {σ : L2.St} {te : TE} {i : Nat} {a : Addr} {o : Op} {z : Str} (w2 : Wd), LawAt K H1 G s → G.os[i]? = some a → s.ops[i]? = some o → Ev te σ H1 (.ref a) → z = w2.str → Ev (tOp rNe (tDGet te (tC (.str "stage"))) (tC (.str z))) σ H1 (.bl (!decide (o.stage = w2))) := fun {H1 σ te i a o z} w2 R ha ho h hz => ev_is (ev_op (ev_oF R ha ho h) ev_c (rv_ne rfl)) (by rw [w_is _ w2 hz])
    refine q_when (et_test (stn .waits R ha ho (ev_var rfl) rfl)) (fun hb H1 e => ?_) (fun hb H1 e => ?_)
    · have hb : ¬ o.stage = .waits := by simpa using hb
      have en : s.nextW o = some o.stage := by
        unfold S.nextW
        rw [if_neg hb]
      rw [en] at k
      exact s_ret (ev_oF (R.mono e) ha ho (ev_var rfl)) fun H2 e2 => k H2 (e.trans e2)
    · have hb : o.stage = .waits := by simpa using hb
      obtain ⟨j, q, hj, hq⟩ := hw hb
      have R1 := R.mono e
      obtain ⟨b, hb1, hb2⟩ := R1.at hq
      have el : s.ldr o = q := by
        unfold S.ldr
        rw [hj]
        exact at_of hq
      refine s_ret (v := wV (s.nextW o)) (ev_if (et_test (stg .ended R1 hb1 hq (ev_op (ev_sF R1 (ev_var rfl)) (ev_oF R1 ha ho (ev_var rfl)) (by rw [hj]; exact rv_ixL (sq_of R1.ol) (L2.at_of (j := j) rfl (by rw [List.getElem?_map, hb1] <;> rfl)))) rfl)) (fun hb2 => ?_) (fun hb2 => ?_)) fun H2 e2 => k H2 (e.trans e2)
      · have hb2 : q.stage = .ended := by simpa using hb2
        unfold S.nextW
        rw [if_pos hb, el, if_pos hb2]
        exact ev_c
      · have hb2 : ¬ q.stage = .ended := by simpa using hb2
        unfold S.nextW
        rw [if_pos hb, el, if_neg hb2]
        exact ev_c
theorem ev_lnext {H : Hp} {G : LLay} {s : S} {a b : TE} {σ : L2.St} {i : Nat} {t : Addr} {o : Op} {E : XK} (R : LawAt K H G s) (ht : G.os[i]? = some t) (ho : s.ops[i]? = some o) (hw : waitOk s) (ha : Ev a σ H (.ref G.h)) (hb : Ev b σ H (.ref t)) :
    Ev (tCall (spLNext K) [] E (tCons a (tCons b tNil))) σ H (wV (s.nextW o)) :=
  ev_call (vs := [.ref G.h, .ref t]) (dvs := []) (ea_cons ha (ea_cons hb ea_nil)) fun H1 e1 Q q E => ⟨G, s, i, t, o, rfl, R.mono e1, ht, ho, hw i o ho, q⟩
end
end K10
end
section
set_option Elab.async false
set_option linter.all false
set_option maxRecDepth 100000
set_option maxHeartbeats 4000000
namespace K10
open PySem PySem.Spec PyProof.Rows L2 Evl
section
variable {K : PySem.W.Frag} {H : Hp} {σ : L2.St} {ta tb te tl : TE} {D : Ends} {tz : TS} {xs ys : List V} {t : TT} {vs : List Nat}
def CwE (H : Hp) (f : Nat → Bool) (v : Nat → Evt) (Dl : Addr) (i : Nat) (H' : Hp) : Prop := H Dl = none ∧ Ex H H' ∧ EvL' H' Dl (((List.range i).filter f).map v)
theorem ele_lcL {a : Addr} {j : Nat} (f : Nat → Bool) (v : Nat → Evt) (h : Ev tl σ H (.ref a)) (hx : SqL K H a xs) (hz : xs.length ≤ 40000) (hw : ∀ x, wipe ((wipe σ vs).set j (some x)) vs = wipe σ vs)
    (ht : ∀ (i : Nat) (x : V) H1, Ex H H1 → xs[i]? = some x → EvT t ((wipe σ vs).set j (some x)) H1 (f i)) (he : ∀ (i : Nat) (x : V) H1, Ex H H1 → xs[i]? = some x → f i = true → EvU te ((wipe σ vs).set j (some x)) H1 (evEnc (v i))) :
    ELE (tLc (iList K tl) (gName j) t te vs) σ H (((List.range xs.length).filter f).map v) := fun H0 e Q q => h H0 e _ fun H1 e1 => ⟨a, rfl, ⟨xs, ex_l (e.trans e1) hx⟩, fun Dl hD =>
  lc_list (xs := xs) (CwE H1 f v Dl) ⟨hD, Ex.new hD, ⟨[], rfl, upd_same, by simp⟩⟩ (fun i H' _ p => ex_l ((e.trans e1).trans p.2.1) hx) (fun i x H' hi p => ⟨hw x, by
    obtain ⟨p1, p2, p3⟩ := p
    have e2 := (e.trans e1).trans p2
    refine ht i x H' e2 hi H' (Ex.refl _) _ fun H3 e3 => ?_
    have hlen : (((List.range i).filter f).map v).length ≤ 40000 := by
      rw [List.length_map]
      have h1 := List.length_filter_le f (List.range i)
      rw [List.length_range] at h1
      have := (List.getElem?_eq_some_iff.mp hi).1
      omega
    cases hf : f i with
    | true =>
      show te _ H3 _
      refine he i x H3 (e2.trans e3) hi hf H3 (Ex.refl _) _ fun p H4 np e4 hp => ?_
      obtain ⟨acc, ha, hal⟩ := (p3.mono (e3.trans e4)).length
      refine ⟨acc, ha, sz_lt (by omega), p1, Ex.mut ((p2.trans e3).trans e4) p1, ?_⟩
      have h1 : ((List.range (i + 1)).filter f).map v = ((List.range i).filter f).map v ++ [v i] := by
        rw [List.range_succ, List.filter_append, List.map_append, List.filter_cons, if_pos hf] <;> rfl
      rw [h1]
      exact (p3.mono (e3.trans e4)).push ha (Ex.refl _) hp
    | false =>
      show CwE H1 f v Dl (i + 1) H3
      refine ⟨p1, p2.trans e3, ?_⟩
      have h1 : ((List.range (i + 1)).filter f).map v = ((List.range i).filter f).map v := by
        rw [List.range_succ, List.filter_append, List.map_append, List.filter_cons, if_neg (by rw [hf]; decide)]
        show _ ++ [] = _
        rw [List.append_nil]
      rw [h1]
      exact p3.mono e3⟩)
    (fun H' p => q Dl H' (Same.free e1 p.1) (e1.trans p.2.1) p.2.2)⟩
theorem ele_is {es fs : List Evt} (h : ELE te σ H es) (e : es = fs) : ELE te σ H fs := by
  rw [← e]
  exact h
theorem s_asgE {i : Nat} {es : List Evt} (h : ELE te σ H es) (k : ∀ p H1, H p = none → Ex H H1 → EvL' H1 p es → D.nx (σ.set i (some (.ref p))) H1) : tAsg te (gName i) D σ H := h H (Ex.refl H) _ k
theorem q_parL {i j : Nat} {x : V} (h : Ev ta σ H x) (hl : EvL tb σ H xs) (k : ∀ p H1, H p = none → Ex H H1 → H1 p = some (.lst xs) → tz D ((σ.set i (some x)).set j (some (.ref p))) H1) : tSeq (tPar i j (tCons ta (tCons tb tNil))) tz D σ H :=
  h H (Ex.refl _) _ fun H1 e1 => hl H1 e1 _ fun p H2 np e2 hp => ⟨x, .ref p, rfl, k p H2 (Same.free e1 np) (e1.trans e2) hp⟩
end
theorem flat_perm {α β : Type} (a b : α → List β) : ∀ l : List α, (l.flatMap fun i => a i ++ b i).Perm (l.flatMap a ++ l.flatMap b)
  | [] => .refl _
  | x :: l => by
    rw [List.flatMap_cons, List.flatMap_cons, List.flatMap_cons]
    have h := flat_perm a b l
    have h1 : ((a x ++ b x) ++ l.flatMap fun i => a i ++ b i).Perm ((a x ++ b x) ++ (l.flatMap a ++ l.flatMap b)) := h.append_left _
    refine h1.trans ?_
    rw [List.append_assoc, List.append_assoc]
    refine List.Perm.append_left _ ?_
    rw [← List.append_assoc, ← List.append_assoc]
    exact List.Perm.append_right _ List.perm_append_comm
theorem filter_flat {α β : Type} (f : α → Bool) (e : α → β) : ∀ l : List α, (l.filter f).map e = l.flatMap fun i => if f i then [e i] else []
  | [] => rfl
  | x :: l => by
    rw [List.flatMap_cons, ← filter_flat f e l, List.filter_cons]
    by_cases h : f x = true
    · rw [if_pos h, if_pos h]
      rfl
    · rw [if_neg h, if_neg h]
      rfl
theorem range_flat {β : Type} (l : List Nat) (f : Nat → Bool) (e : Nat → β) : ((List.range l.length).filter fun j => f (l.getD j 0)).map (fun j => e (l.getD j 0)) = (l.filter f).map e := by
  have h : (l.filter f).map e = (((List.range l.length).map fun j => l.getD j 0).filter f).map e := by rw [map_getD]
  rw [h, List.filter_map, List.map_map]
  rfl
def S.nxE (s : S) (i : Nat) : Evt := .op ((s.nextW (s.at i)).getD .look) i
def S.lawEvs (s : S) : List Evt := ([Evt.op .look s.ops.length, Evt.op s.first s.ops.length] ++ ((gos s).filter fun i => decide (s.nextW (s.at i) ≠ none)).map s.nxE) ++ (if s.cfg.stops then (gos s).map fun i => Evt.op .stop i else [])
theorem lawEvs_perm (s : S) : ((s.lawEvs ++ (if s.canEvict then [Evt.evict] else [])) ++ (if s.canCopy then [Evt.copy] else [])).Perm s.evList := by
  unfold S.lawEvs S.evList
  rw [opEvs_gos, filter_flat]
  have h2 : (if s.cfg.stops then (gos s).map fun i => Evt.op .stop i else []) = (gos s).flatMap fun i => (if s.cfg.stops then [Evt.op .stop i] else []) := by
    by_cases h : s.cfg.stops = true
    · rw [if_pos h]
      have : (fun i => (if s.cfg.stops then [Evt.op .stop i] else [])) = fun i => [Evt.op .stop i] := by
        funext i
        rw [if_pos h]
      rw [this]
      induction gos s with
      | nil => rfl
      | cons x l ih => rw [List.map_cons, ih, List.flatMap_cons] <;> rfl
    · rw [if_neg h]
      have : (fun i => (if s.cfg.stops then [Evt.op .stop i] else [])) = fun _ => ([] : List Evt) := by
        funext i
        rw [if_neg h]
      rw [this]
      induction gos s with
      | nil => rfl
      | cons x l ih => rw [List.flatMap_cons, ← ih] <;> rfl
  rw [h2, List.append_assoc, List.append_assoc, List.append_assoc, List.append_assoc]
  refine List.Perm.append_left _ ?_
  rw [← List.append_assoc]
  refine List.Perm.append_right _ ?_
  have h3 : (fun i => s.evsOf (s.at i) i) = fun i => (if decide (s.nextW (s.at i) ≠ none) = true then [s.nxE i] else []) ++ (if s.cfg.stops then [Evt.op .stop i] else []) := by
    funext i
    unfold S.evsOf S.nxE
    cases s.nextW (s.at i) with
    | none => rfl
    | some w => rfl
  rw [h3]
  exact (flat_perm _ _ (gos s)).symm
section
variable {P : Program} {w : World} {base h0 : Heap} {K : PySem.W.Frag} {mg : Str → Option Value}
def spLEvents (K : PySem.W.Frag) : Sp := fun vs H Q _ => ∃ (G : LLay) (s : S), vs = [.ref G.h] ∧ LawAt K H G s ∧ s.ops.length ≤ 100 ∧ waitOk s ∧ ∀ p H', H p = none → Ex H H' → EvL' H' p s.evs → Q (.ref p) H'
theorem ev_des0 {H : Hp} {σ : L2.St} {te : TE} {G : LLay} {s : S} (R : LawAt K H G s) (h : Ev te σ H (.ref G.h)) : Ev (tOp (rIxT K) (tDGet te (tC (.str "design"))) (tC (.int 0))) σ H (.str s.cfg.path.str) := ev_op (ev_sF R h) ev_c (rv_ixT R.des rfl)
theorem ev_des1 {H : Hp} {σ : L2.St} {te : TE} {G : LLay} {s : S} (R : LawAt K H G s) (h : Ev te σ H (.ref G.h)) : Ev (tOp (rIxT K) (tDGet te (tC (.str "design"))) (tC (.int 1))) σ H (.str s.cfg.guard.str) := ev_op (ev_sF R h) ev_c (rv_ixT R.des rfl)
theorem ev_des2 {H : Hp} {σ : L2.St} {te : TE} {G : LLay} {s : S} (R : LawAt K H G s) (h : Ev te σ H (.ref G.h)) : Ev (tOp (rIxT K) (tDGet te (tC (.str "design"))) (tC (.int 2))) σ H (.str (fliS s.cfg.shared)) := ev_op (ev_sF R h) ev_c (rv_ixT R.des rfl)
theorem ev_wor0 {H : Hp} {σ : L2.St} {te : TE} {G : LLay} {s : S} (R : LawAt K H G s) (h : Ev te σ H (.ref G.h)) : Ev (tOp (rIxT K) (tDGet te (tC (.str "world"))) (tC (.int 0))) σ H (.str (srcS s.cfg.repl)) := ev_op (ev_sF R h) ev_c (rv_ixT R.wor rfl)
theorem ev_wor1 {H : Hp} {σ : L2.St} {te : TE} {G : LLay} {s : S} (R : LawAt K H G s) (h : Ev te σ H (.ref G.h)) : Ev (tOp (rIxT K) (tDGet te (tC (.str "world"))) (tC (.int 1))) σ H (.str (eviS s.cfg.evic)) := ev_op (ev_sF R h) ev_c (rv_ixT R.wor rfl)
theorem ev_wor2 {H : Hp} {σ : L2.St} {te : TE} {G : LLay} {s : S} (R : LawAt K H G s) (h : Ev te σ H (.ref G.h)) : Ev (tOp (rIxT K) (tDGet te (tC (.str "world"))) (tC (.int 2))) σ H (.str (stoS s.cfg.stops)) := ev_op (ev_sF R h) ev_c (rv_ixT R.wor rfl)
theorem el_steps {H : Hp} {σ : L2.St} {te : TE} {G : LLay} {s : S} (R : LawAt K H G s) (h : Ev te σ H (.ref G.h)) : EvL (tM1 rSplit (tOp (rIxT K) (tDGet te (tC (.str "design"))) (tC (.int 0))) (tC (.str " "))) σ H (s.steps.map fun w => V.str w.str) := by
  have h1 := el_split (ev_des0 R h) (ev_c (v := .str " ")) (by decide +kernel) (by cases s.cfg.path <;> decide +kernel)
  rw [split_path, List.map_map] at h1
  exact h1
theorem sc_L_events : FnScope ["_law_h", "_law_found", "_law_many", "_law_going_here", "_law_one"] ["_law_h"] (defScope s_L_events) := ⟨rfl, rfl, rfl, by decide +kernel, rfl, by decide +kernel, by decide +kernel⟩
theorem ok_L_events (T : Txt h0 K mg) : FnOk P w K mg base CX0 2 (He.ga K "_law_events") (fdOf K (He.ga K "_law_events")) ["_law_h"] (spLEvents K) := by
  refine FnOk.mono (j := 2) ((T.fn_L_events).ok sc_L_events (fun vs H Q E h => ?_) (fun cdv A outer st0 H vs Q E hr h => ?_)) (by decide)
  · obtain ⟨G, s, rfl, _⟩ := h
    rfl
  · obtain ⟨G, s, rfl, R, hl, hw, k⟩ := h
    refine ⟨_, PSs.nox ((pss_cons (ps_par (i := 2) (j := 3) rfl sc_L_events.nd rfl rfl (by decide) rfl rfl (pa_cons (pe_callB (call_lenK K) (by rfl) T.f_len (by decide +kernel) (pa_cons (pe_dget (hu_of hr) (pv 0) pe_str (fun _ _ => rfl)) pa_nil)) (pa_cons (pe_call (ok_L_going T) (hr.mono (by decide)) rfl T.g__law_going T.k_L_going T.b_L_going .nil pass0 (pa_cons (pv 0) pa_nil)) pa_nil)) (by rfl))
      (pss_cons (ps_set (i := 1) sc_L_events.nd rfl (Or.inl rfl) (pe_lst (pa_cons (pe_tup (pa_cons pe_str (pa_cons (pv 2) pa_nil))) (pa_cons (pe_tup (pa_cons (pe_ix (ix_listK K) (pe_split (pe_ix (ix_tupK K) (pe_dget (hu_of hr) (pv 0) pe_str (fun _ _ => rfl)) pe_int (fun _ _ => rfl)) pe_str) pe_int (fun _ _ => rfl)) (pa_cons (pv 2) pa_nil))) pa_nil))))
      (pss_cons (ps_set (i := 1) sc_L_events.nd rfl (Or.inl rfl) (pe_op op_cat (pv 1) (pe_lc (own := [("_law_one", 4)]) (g := (gName 4)) rfl sc_L_events.nd (pi_listK K (pv 3)) (blkOk_by (N := ["_law_h", "_law_found", "_law_many", "_law_going_here", "_law_one"]) (sc := defScope s_L_events) (by decide +kernel)) (fun _ _ _ _ _ => (pg_name (i := 4) sc_L_events.nd rfl (Or.inl rfl))) (fun _ _ _ _ _ => (pts_one (pt_cmp (pc_notN (pe_call (ok_L_next T) (hr.mono (by decide)) rfl T.g__law_next T.k_L_next T.b_L_next .nil pass0 (pa_cons (pv 0) (pa_cons (pv 4) pa_nil))))))) (fun _ _ _ _ _ => (pe_tup (pa_cons (pe_call (ok_L_next T) (hr.mono (by decide)) rfl T.g__law_next T.k_L_next T.b_L_next .nil pass0 (pa_cons (pv 0) (pa_cons (pv 4) pa_nil))) (pa_cons (pe_dget (hu_of hr) (pv 4) pe_str (fun _ _ => rfl)) pa_nil)))))))
      (pss_cons (ps_if (pt_cmpR op_eq (pe_ix (ix_tupK K) (pe_dget (hu_of hr) (pv 0) pe_str (fun _ _ => rfl)) pe_int (fun _ _ => rfl)) pe_str (nomark _)) (pss_one (ps_set (i := 1) sc_L_events.nd rfl (Or.inl rfl) (pe_op op_cat (pv 1) (pe_lc (own := [("_law_one", 4)]) (g := (gName 4)) (tt := tYes) rfl sc_L_events.nd (pi_listK K (pv 3)) (blkOk_by (N := ["_law_h", "_law_found", "_law_many", "_law_going_here", "_law_one"]) (sc := defScope s_L_events) (by decide +kernel)) (fun _ _ _ _ _ => (pg_name (i := 4) sc_L_events.nd rfl (Or.inl rfl))) (fun _ _ _ _ _ => pts_nil) (fun _ _ _ _ _ => (pe_tup (pa_cons pe_str (pa_cons (pe_dget (hu_of hr) (pv 4) pe_str (fun _ _ => rfl)) pa_nil)))))))) pss_nil)
      (pss_cons (ps_if (PW.pt (pw_and (pt_cmpR op_eq (pe_ix (ix_tupK K) (pe_dget (hu_of hr) (pv 0) pe_str (fun _ _ => rfl)) pe_int (fun _ _ => rfl)) pe_str (nomark _)) (pw_and1 (PW.pt (pw_or (pt_cmp (pc_notN (pe_dget (hu_of hr) (pv 0) pe_str (fun _ _ => rfl)))) (pw_or1 (pt_cmpR op_gt (pe_dget (hu_of hr) (pv 0) pe_str (fun _ _ => rfl)) pe_int (nomark _)))))))) (pss_one (ps_expr (pe_appK K (pv 1) (pe_tup (pa_cons pe_str pa_nil))))) pss_nil)
      (pss_cons (ps_if (PW.pt (pw_and (pt_cmpR op_eq (pe_ix (ix_tupK K) (pe_dget (hu_of hr) (pv 0) pe_str (fun _ _ => rfl)) pe_int (fun _ _ => rfl)) pe_str (nomark _)) (pw_and1 (pt_cmpR op_lt (pe_dget (hu_of hr) (pv 0) pe_str (fun _ _ => rfl)) (pe_dget (hu_of hr) (pv 0) pe_str (fun _ _ => rfl)) (nomark _))))) (pss_one (ps_expr (pe_appK K (pv 1) (pe_tup (pa_cons pe_str pa_nil))))) pss_nil)
      (pss_one (ps_ret (pe_callB (cr_sortedEv K hr.units) (by rfl) T.f_sorted (by decide +kernel) (pa_cons (pv 1) pa_nil))))))))))), ?_⟩
    have hglen : (goA G s).length = (gos s).length := by unfold goA; rw [List.length_map]
    have hgl := gos_len s
    refine q_parL (ev_is (ev_len (ev_sF R (ev_var rfl)) (sq_of R.ol)) (by rw [List.length_map, R.len])) (el_goA R (by omega) (ev_var rfl)) fun g H1 ng e1 hg => ?_
    have R1 := R.mono e1
    refine q_asgE (es := [Evt.op .look s.ops.length, Evt.op s.first s.ops.length]) (ele_lst (eae_cons (eu_tup (ea_cons ev_c (ea_cons (ev_var rfl) ea_nil)) (by show 2 ≤ 100000; decide)) (eae_cons (eu_tup (ea_cons (ev_opL1 (el_steps R1 (ev_var rfl)) (fun _ _ => ev_c) fun p H2 hp e2 => rv_ixL (sq_of hp) (L2.at_of (j := 0) rfl (by rw [List.getElem?_map, first_at] <;> rfl))) (ea_cons (ev_var rfl) ea_nil)) (by show 2 ≤ 100000; decide)) eae_nil)) (by show 2 ≤ 100000; decide)) fun f H2 nf e2 hf => ?_
    have R2 := R1.mono e2
    have e02 := e1.trans e2
    refine q_asgE (es := [Evt.op .look s.ops.length, Evt.op s.first s.ops.length] ++ ((gos s).filter fun i => decide (s.nextW (s.at i) ≠ none)).map s.nxE) (ele_cat (ev_var rfl) hf ?_ ?_) fun f2 H3 nf2 e3 hf2 => ?_
    · rw [← range_flat, ← hglen]
      refine ele_lcL (xs := goA G s) (fun j => decide (s.nextW (s.at ((gos s).getD j 0)) ≠ none)) (fun j => s.nxE ((gos s).getD j 0)) (ev_var rfl) (sq_of (e2 _ _ hg)) (by omega) (fun _ => rfl) (fun j x H3 e3 hx => ?_) (fun j x H3 e3 hx hfj => ?_)
      · obtain ⟨i, a, hj, hgo, rfl, ha, ho⟩ := goA_at R hx
        have ej : (gos s).getD j 0 = i := by rw [List.getD_eq_getElem?_getD, hj] <;> rfl
        rw [ej]
        exact et_B (ev_is (ev_notN (ev_lnext (R2.mono e3) ha ho hw (ev_var rfl) (ev_var rfl))) (congrArg V.bl (by cases s.nextW (s.at i) <;> rfl)))
      · obtain ⟨i, a, hj, hgo, rfl, ha, ho⟩ := goA_at R hx
        have ej : (gos s).getD j 0 = i := by rw [List.getD_eq_getElem?_getD, hj] <;> rfl
        rw [ej] at hfj ⊢
        cases hnx : s.nextW (s.at i) with
        | none =>
          rw [hnx] at hfj
          cases hfj
        | some wd =>
          have en : s.nxE i = .op wd i := by
            unfold S.nxE
            rw [hnx] <;> rfl
          rw [en]
          exact eu_tup (ea_cons (ev_is (ev_lnext (R2.mono e3) ha ho hw (ev_var rfl) (ev_var rfl)) (show wV _ = V.str wd.str by rw [hnx]; rfl)) (ea_cons (ev_oF (R2.mono e3) ha ho (ev_var rfl)) ea_nil)) (by show 2 ≤ 100000; decide)
    · rw [List.length_map]
      have h1 := List.length_filter_le (fun i => decide (s.nextW (s.at i) ≠ none)) (gos s)
      show 2 + _ ≤ 100000
      omega
    have e03 := e02.trans e3
    have nlen : ([Evt.op .look s.ops.length, Evt.op s.first s.ops.length] ++ ((gos s).filter fun i => decide (s.nextW (s.at i) ≠ none)).map s.nxE).length ≤ 200 := by
      rw [List.length_append, List.length_map]
      have h1 := List.length_filter_le (fun i => decide (s.nextW (s.at i) ≠ none)) (gos s)
      show 2 + _ ≤ 200
      omega
    have cpy : ∀ (H4 : Hp) (f : Addr) (es : List Evt), H f = none → Ex H H4 → es.length ≤ 600 → EvL' H4 f es → (es ++ (if s.canCopy then [Evt.copy] else [])).Perm s.evList →
        tSeq (tIfS (tAnd (tTest (tOp rEq (tOp (rIxT K) (tDGet (tVar 0) (tC (.str "world"))) (tC (.int 0))) (tC (.str "replica")))) (tTest (tOp (rI0 fun i j => V.bl (decide (i < j))) (tDGet (tVar 0) (tC (.str "rep"))) (tDGet (tVar 0) (tC (.str "db")))))) (tDrop (tBM K "list" rAppend (tVar 1) (tCons (tTup (tCons (tC (.str "copy")) tNil)) tNil))) tNext)
          (tRet (tCB (rSortEv K) (tCons (tVar 1) tNil))) { nx := fun _ H' => Q .non H', rt := Q } [some (.ref G.h), some (.ref f), some (.int (s.ops.length : Int)), some (.ref g), none] H4 := by
      intro H4 f es nfH e4 hz hE4 hall
      have R4 := R.mono e4
      refine q_when (b := s.canCopy) (et_is (et_and (et_test (ev_is (ev_op (ev_wor0 R4 (ev_var rfl)) ev_c (rv_eq rfl)) (congrArg V.bl (src_is _)))) fun _ => et_test (ev_op (ev_sF R4 (ev_var rfl)) (ev_sF R4 (ev_var rfl)) rv_I0)) rfl) (fun hb H5 e5 => ?_) (fun hb H5 e5 => ?_)
      · refine app_ev (e := .copy) (hE4.mono e5) (by omega) (ev_var rfl) (eu_tup (ea_cons ev_c ea_nil) (by show 1 ≤ 100000; decide)) nfH (e4.trans e5) fun H6 h6 e6 k6 => ?_
        rw [hb, if_pos rfl] at hall
        refine s_retE (ele_sorted (ev_var rfl) h6) fun q H7 hq e7 h7 => ?_
        rw [mergeSort_perm_eq hall] at h7
        exact k q H7 (Same.free e6 hq) (e6.trans e7) h7
      · rw [hb, if_neg Bool.false_ne_true, List.append_nil] at hall
        refine s_retE (ele_sorted (ev_var rfl) (hE4.mono e5)) fun q H7 hq e7 h7 => ?_
        rw [mergeSort_perm_eq hall] at h7
        exact k q H7 (Same.free (e4.trans e5) hq) (e4.trans (e5.trans e7)) h7
    have evc : ∀ (H4 : Hp) (f : Addr), H f = none → Ex H H4 → EvL' H4 f s.lawEvs → s.lawEvs.length ≤ 500 →
        tSeq (tIfS (tAnd (tTest (tOp rEq (tOp (rIxT K) (tDGet (tVar 0) (tC (.str "world"))) (tC (.int 1))) (tC (.str "evicts")))) (tOr (tB (tNotN (tDGet (tVar 0) (tC (.str "cache"))))) (tTest (tOp (rI0 fun i j => V.bl (decide (j < i))) (tDGet (tVar 0) (tC (.str "mark"))) (tC (.int 0)))))) (tDrop (tBM K "list" rAppend (tVar 1) (tCons (tTup (tCons (tC (.str "evict")) tNil)) tNil))) tNext)
          (tSeq (tIfS (tAnd (tTest (tOp rEq (tOp (rIxT K) (tDGet (tVar 0) (tC (.str "world"))) (tC (.int 0))) (tC (.str "replica")))) (tTest (tOp (rI0 fun i j => V.bl (decide (i < j))) (tDGet (tVar 0) (tC (.str "rep"))) (tDGet (tVar 0) (tC (.str "db")))))) (tDrop (tBM K "list" rAppend (tVar 1) (tCons (tTup (tCons (tC (.str "copy")) tNil)) tNil))) tNext)
          (tRet (tCB (rSortEv K) (tCons (tVar 1) tNil)))) { nx := fun _ H' => Q .non H', rt := Q } [some (.ref G.h), some (.ref f), some (.int (s.ops.length : Int)), some (.ref g), none] H4 := by
      intro H4 f nfH e4 hE4 hz
      have R4 := R.mono e4
      refine q_when (b := s.canEvict) (et_is (et_and (et_test (ev_is (ev_op (ev_wor1 R4 (ev_var rfl)) ev_c (rv_eq rfl)) (congrArg V.bl (evi_is _)))) fun _ => et_or (et_is (et_B (ev_notN (ev_sF R4 (ev_var rfl)))) (show _ = decide (s.cache ≠ none) by rw [oV_non]; simp)) fun _ => et_test (ev_op (ev_sF R4 (ev_var rfl)) ev_c rv_I0)) rfl) (fun hb H5 e5 => ?_) (fun hb H5 e5 => ?_)
      · refine app_ev (e := .evict) (hE4.mono e5) (by omega) (ev_var rfl) (eu_tup (ea_cons ev_c ea_nil) (by show 1 ≤ 100000; decide)) nfH (e4.trans e5) fun H6 h6 e6 k6 => ?_
        refine cpy H6 f _ nfH e6 (by rw [List.length_append]; show _ + 1 ≤ _; omega) h6 ?_
        have h := lawEvs_perm s
        rw [hb, if_pos rfl] at h
        exact h
      · refine cpy H5 f _ nfH (e4.trans e5) (by omega) (hE4.mono e5) ?_
        have h := lawEvs_perm s
        rw [hb, if_neg Bool.false_ne_true, List.append_nil] at h
        exact h
    have R3 := R.mono e03
    refine q_when (et_is (et_test (ev_op (ev_wor2 R3 (ev_var rfl)) ev_c (rv_eq rfl))) (sto_is _)) (fun hb H4 e4 => ?_) (fun hb H4 e4 => ?_)
    · refine s_asgE (es := s.lawEvs) (ele_is (ele_cat (fs := (gos s).map fun i => Evt.op .stop i) (ev_var rfl) (hf2.mono e4) ?_ ?_) ?_) fun f3 H5 nf3 e5 hf3 => ?_
      · have h := ele_lcL (K := K) (te := tTup (tCons (tC (.str "stop")) (tCons (tDGet (tVar 4) (tC (.str "number"))) tNil))) (t := tYes) (tl := tVar 3) (vs := [4]) (j := 4) (σ := [some (.ref G.h), some (.ref f2), some (.int (s.ops.length : Int)), some (.ref g), none]) (H := H4) (xs := goA G s) (a := g) (fun _ => true) (fun j => Evt.op .stop ((gos s).getD j 0)) (ev_var rfl) (sq_of (e4 _ _ (e3 _ _ (e2 _ _ hg)))) (by omega) (fun _ => rfl) (fun j x H5 e5 hx => et_yes) (fun j x H5 e5 hx _ => by
          obtain ⟨i, a, hj, hgo, rfl, ha, ho⟩ := goA_at R hx
          have ej : (gos s).getD j 0 = i := by rw [List.getD_eq_getElem?_getD, hj] <;> rfl
          rw [ej]
          exact eu_tup (ea_cons ev_c (ea_cons (ev_oF ((R3.mono e4).mono e5) ha ho (ev_var rfl)) ea_nil)) (by show 2 ≤ 100000; decide))
        rw [hglen, range_flat (gos s) (fun _ => true) fun i => Evt.op .stop i] at h
        have h2 : (gos s).filter (fun _ => true) = gos s := List.filter_eq_self.mpr fun _ _ => rfl
        rw [h2] at h
        exact h
      · rw [List.length_map]
        omega
      · unfold S.lawEvs
        rw [hb, if_pos rfl]
      · refine evc H5 f3 (Same.free (e03.trans e4) nf3) (e03.trans (e4.trans e5)) hf3 ?_
        unfold S.lawEvs
        rw [hb, if_pos rfl, List.length_append, List.length_map]
        omega
    · have hE : EvL' H4 f2 s.lawEvs := by
        unfold S.lawEvs
        rw [hb, if_neg Bool.false_ne_true, List.append_nil]
        exact hf2.mono e4
      refine evc H4 f2 (Same.free e02 nf2) (e03.trans e4) hE ?_
      unfold S.lawEvs
      rw [hb, if_neg Bool.false_ne_true, List.append_nil]
      omega
end
end K10
end
section
set_option Elab.async false
set_option linter.all false
set_option maxRecDepth 100000
set_option maxHeartbeats 4000000
namespace K10
open PySem PySem.Spec PyProof.Rows L2 Evl
def S.lNewer (s : S) (v : Int) : Bool := match s.cache with
  | none => true
  | some c => decide (c < v)
def S.lLets (s : S) (o : Op) : Bool :=
  if s.cfg.guard = .token then o.clean else if s.cfg.guard = .mark then decide (s.mark ≤ o.ver.getD 0)
  else decide (s.cfg.guard = .always) || (if s.cfg.guard = .newer then s.lNewer (o.ver.getD 0) else decide (s.cache = none))
theorem lLets_eq {s : S} {o : Op} (hg : s.cfg.guard ≠ .never) (ht : o.token = o.clean) : s.lLets o = s.lets o o.token := by
  unfold S.lLets S.lets S.isNewer S.lNewer
  rw [ht]
  cases h : s.cfg.guard <;> simp_all <;> cases s.cache <;> rfl
section
variable {P : Program} {w : World} {base h0 : Heap} {K : PySem.W.Frag} {mg : Str → Option Value}
section
variable {H : Hp} {σ : L2.St} {te : TE} {G : LLay} {s : S} {i : Nat} {a : Addr} {o : Op} {z : Str}
theorem ev_lguard (R : LawAt K H G s) (h : Ev te σ H (.ref G.h)) (g2 : Gd) (hz : z = g2.str := by rfl) : Ev (tOp rEq (tOp (rIxT K) (tDGet te (tC (.str "design"))) (tC (.int 1))) (tC (.str z))) σ H (.bl (decide (s.cfg.guard = g2))) := ev_is (ev_op (ev_des1 R h) ev_c (rv_eq rfl)) (congrArg V.bl (g_is _ g2 hz))
theorem ev_lkindW (R : LawAt K H G s) (ha : G.os[i]? = some a) (ho : s.ops[i]? = some o) (h : Ev te σ H (.ref a)) : Ev (tOp rEq (tDGet te (tC (.str "kind"))) (tC (.str "write"))) σ H (.bl o.wr) := ev_is (ev_op (ev_oF R ha ho h) ev_c (rv_eq rfl)) (congrArg V.bl (by rw [kind_w]; cases o.wr <;> rfl))
theorem ev_w (hv : Ev te σ H (.str z)) {w2 w3 : Wd} (hz : z = w2.str) {y : Str} (hy : y = w3.str := by rfl) : Ev (tOp rEq te (tC (.str y))) σ H (.bl (decide (w2 = w3))) := ev_is (ev_op hv ev_c (rv_eq rfl)) (congrArg V.bl (by rw [hz]; exact w_is w2 w3 hy))
end
def spLEnd (K : PySem.W.Frag) : Sp := fun vs H Q _ => ∃ (G : LLay) (s : S) (i : Nat) (a : Addr) (o : Op) (w : Wd), vs = [.ref G.h, .ref a, .str w.str] ∧ (w = .ended ∨ w = .stopped) ∧ LawAt K H G s ∧ G.os[i]? = some a ∧ s.ops[i]? = some o ∧
  ∀ H', LawAt K H' G (if w = .ended then s.endOp i o else s.stopOp i o) → Fr G.own H H' → Q .non H'
theorem sc_L_end : FnScope ["_law_h", "_law_one", "_law_stage"] ["_law_h", "_law_one", "_law_stage"] (defScope s_L_end) := ⟨rfl, rfl, rfl, by decide +kernel, rfl, by decide +kernel, by decide +kernel⟩
theorem ok_L_end (T : Txt h0 K mg) : FnOk P w K mg base CX0 1 (He.ga K "_law_end") (fdOf K (He.ga K "_law_end")) ["_law_h", "_law_one", "_law_stage"] (spLEnd K) := by
  refine FnOk.mono (j := 1) ((T.fn_L_end).ok sc_L_end (fun vs H Q E h => ?_) (fun cdv A outer st0 H vs Q E hr h => ?_)) (by decide)
  · obtain ⟨G, s, i, a, o, w, rfl, _⟩ := h
    rfl
  · obtain ⟨G, s, i, a, o, w, rfl, hw, R, ha, ho, k⟩ := h
    refine ⟨_, PSs.nox ((pss_cons (ps_asg (pe_tup (pa_cons (pv 2) (pa_cons (pe_callB (call_lenK K) (by rfl) T.f_len (by decide +kernel) (pa_cons (pe_dget (hu_of hr) (pv 0) pe_str (fun _ _ => rfl)) pa_nil)) pa_nil))) (pg_tupK K (pgs_cons (pg_sub (pv 1) pe_str (set_dict (hu_of hr))) (pgs_cons (pg_sub (pv 1) pe_str (set_dict (hu_of hr))) pgs_nil))))
      (pss_one (ps_if (PW.pt (pw_and (pt_cmpR op_eq (pv 2) pe_str (nomark _)) (pw_and1 (pt_cmpR op_eq (pe_dget (hu_of hr) (pv 0) pe_str (fun _ _ => rfl)) (pe_dget (hu_of hr) (pv 1) pe_str (fun _ _ => rfl)) (nomark _))))) (pss_one (ps_dput (hu_of hr) (pv 0) pe_str pe_non rfl)) pss_nil)))), ?_⟩
    have hil := (List.getElem?_eq_some_iff.mp ho).1
    refine q_asg2 (x := .str w.str) (y := .int s.now) (ea_cons (ev_var rfl) (ea_cons (ev_is (ev_len (ev_sF R (ev_var rfl)) (sq_of R.pl)) (congrArg V.int R.now)) ea_nil)) fun H1 e1 => ?_
    have R1 := R.mono e1
    refine g_setD R1 ha ho (ev_var rfl) { o with stage := w } rfl fun H2 R2 F2 => ?_
    have ho2 : (s.setOp i { o with stage := w }).ops[i]? = some { o with stage := w } := set_at ho
    show gSub _ _ _ _ _ _ _
    refine g_setD R2 ha ho2 (ev_var rfl) { o with stage := w, over := some s.now } rfl fun H3 R3 F3 => ?_
    have e3 : (s.setOp i { o with stage := w }).setOp i { o with stage := w, over := some s.now } = s.setOp i { o with stage := w, over := some s.now } := by
      unfold S.setOp
      simp only [List.set_set]
    rw [e3] at R3
    have F13 := (Fr.of e1).trans (F2.trans F3)
    have ho3 : (s.setOp i { o with stage := w, over := some s.now }).ops[i]? = some { o with stage := w, over := some s.now } := set_at ho
    have fls : ∀ (c : Option Nat), scal (nV c) (V.int (i : Int)) = true := fun c => fl_scal c _
    refine s_when (b := decide (w = .ended) && decide (s.fl = some i)) (et_and (et_test (ev_w (ev_var rfl) rfl)) fun _ => et_test (ev_is (ev_op (ev_sF R3 (ev_var rfl)) (ev_oF R3 ha ho3 (ev_var rfl)) (rv_eq (fls _))) (congrArg V.bl (fl_is s.fl i)))) (fun hb H4 e4 => ?_) (fun hb H4 e4 => ?_)
    · obtain ⟨hb1, hb2⟩ := Bool.and_eq_true_iff.mp hb
      have hb1 := of_decide_eq_true hb1
      have hb2 := of_decide_eq_true hb2
      subst hb1
      refine s_setH (R3.mono e4) (fun _ _ => ev_var rfl) ev_c { s.setOp i { o with stage := .ended, over := some s.now } with fl := none } rfl fun H5 R5 F5 => k H5 ?_ (F13.trans ((Fr.of e4).trans F5))
      rw [if_pos rfl]
      refine R5.as ?_ rfl ?_ rfl fun j p q h1 h2 => ?_
      · unfold S.endOp stL
        simp only [if_pos hb2] <;> rfl
      · show (s.ops.set i _).length = (s.ops.set i _).length
        rw [List.length_set, List.length_set]
      · have h1 : (s.ops.set i _)[j]? = some p := h1
        have h2 : (s.ops.set i _)[j]? = some q := h2
        by_cases hj : j = i
        · subst hj
          rw [List.getElem?_set_self hil] at h1 h2
          cases h1
          cases h2
          rfl
        · rw [List.getElem?_set_ne (fun z => hj z.symm)] at h1 h2
          rw [h1] at h2
          cases h2
          rfl
    · have R4 := R3.mono e4
      refine k H4 ?_ (F13.trans (Fr.of e4))
      rcases hw with rfl | rfl
      · rw [if_pos rfl]
        have hfl : ¬ s.fl = some i := fun z => by
          rw [decide_eq_true z] at hb
          cases hb
        refine R4.as ?_ rfl ?_ rfl fun j p q h1 h2 => ?_
        · unfold S.endOp stL
          simp only [if_neg hfl] <;> rfl
        · show (s.ops.set i _).length = (s.ops.set i _).length
          rw [List.length_set, List.length_set]
        · have h1 : (s.ops.set i _)[j]? = some p := h1
          have h2 : (s.ops.set i _)[j]? = some q := h2
          by_cases hj : j = i
          · subst hj
            rw [List.getElem?_set_self hil] at h1 h2
            cases h1
            cases h2
            rfl
          · rw [List.getElem?_set_ne (fun z => hj z.symm)] at h1 h2
            rw [h1] at h2
            cases h2
            rfl
      · rw [if_neg (by decide)]
        exact R4
def spLHold (K : PySem.W.Frag) : Sp := fun vs H Q _ => ∃ (G : LLay) (s : S) (v : Int), vs = [.ref G.h, .int v] ∧ LawAt K H G s ∧ ∀ H', LawAt K H' G (s.put v) → Fr G.own H H' → Q .non H'
theorem sc_L_hold : FnScope ["_law_h", "_law_version"] ["_law_h", "_law_version"] (defScope s_L_hold) := ⟨rfl, rfl, rfl, by decide +kernel, rfl, by decide +kernel, by decide +kernel⟩
theorem ok_L_hold (T : Txt h0 K mg) : FnOk P w K mg base CX0 1 (He.ga K "_law_hold") (fdOf K (He.ga K "_law_hold")) ["_law_h", "_law_version"] (spLHold K) := by
  refine FnOk.mono (j := 1) ((T.fn_L_hold).ok sc_L_hold (fun vs H Q E h => ?_) (fun cdv A outer st0 H vs Q E hr h => ?_)) (by decide)
  · obtain ⟨G, s, v, rfl, _⟩ := h
    rfl
  · obtain ⟨G, s, v, rfl, R, k⟩ := h
    refine ⟨_, PSs.nox ((pss_cons (ps_dput (hu_of hr) (pv 0) pe_str (pv 1) rfl)
      (pss_one (ps_if (pt_cmpR op_eq (pe_ix (ix_tupK K) (pe_dget (hu_of hr) (pv 0) pe_str (fun _ _ => rfl)) pe_int (fun _ _ => rfl)) pe_str (nomark _)) (pss_one (ps_dput (hu_of hr) (pv 0) pe_str (pe_callB (call_max2S rfl) (by rfl) T.f_max (by decide +kernel) (pa_cons (pe_dget (hu_of hr) (pv 0) pe_str (fun _ _ => rfl)) (pa_cons (pv 1) pa_nil))) rfl)) pss_nil)))), ?_⟩
    refine q_setH R (fun _ _ => ev_var rfl) (ev_var rfl) { s with cache := some v } rfl fun H1 R1 F1 => ?_
    refine s_when (et_test (ev_lguard R1 (ev_var rfl) .mark)) (fun hb H2 e2 => ?_) (fun hb H2 e2 => ?_)
    · have R2 := R1.mono e2
      have hb : s.cfg.guard = .mark := of_decide_eq_true hb
      refine s_setH R2 (fun _ _ => ev_var rfl) (ev_max2' (ev_sF R2 (ev_var rfl)) (ev_var rfl)) (s.put v) ?_ fun H3 R3 F3 => k H3 R3 (F1.trans ((Fr.of e2).trans F3))
      unfold S.put
      rw [if_pos hb]
      rfl
    · have hb : ¬ s.cfg.guard = .mark := of_decide_eq_false hb
      refine k H2 ?_ (F1.trans (Fr.of e2))
      have : s.put v = { s with cache := some v } := by
        unfold S.put
        rw [if_neg hb]
      rw [this]
      exact R1.mono e2
def spLNewer (K : PySem.W.Frag) : Sp := fun vs H Q _ => ∃ (G : LLay) (s : S) (v : Int), vs = [.ref G.h, .int v] ∧ LawAt K H G s ∧ RetV (.bl (s.lNewer v)) H Q
theorem sc_L_newer : FnScope ["_law_h", "_law_version"] ["_law_h", "_law_version"] (defScope s_L_newer) := ⟨rfl, rfl, rfl, by decide +kernel, rfl, by decide +kernel, by decide +kernel⟩
theorem ok_L_newer (T : Txt h0 K mg) : FnOk P w K mg base CX0 1 (He.ga K "_law_newer") (fdOf K (He.ga K "_law_newer")) ["_law_h", "_law_version"] (spLNewer K) := by
  refine FnOk.mono (j := 1) ((T.fn_L_newer).ok sc_L_newer (fun vs H Q E h => ?_) (fun cdv A outer st0 H vs Q E hr h => ?_)) (by decide)
  · obtain ⟨G, s, v, rfl, _⟩ := h
    rfl
  · obtain ⟨G, s, v, rfl, R, k⟩ := h
    refine ⟨_, PSs.nox ((pss_one (ps_ret (pe_or (pe_cmp (pc_isN (pe_dget (hu_of hr) (pv 0) pe_str (fun _ _ => rfl)))) (pe_one (pe_cmpR op_lt (pe_dget (hu_of hr) (pv 0) pe_str (fun _ _ => rfl)) (pv 1) (nomark _))))))), ?_⟩
    cases hc : s.cache with
    | none =>
      have : s.lNewer v = true := by
        unfold S.lNewer
        rw [hc]
      rw [this] at k
      exact s_ret (ev_orV (a := true) (b := true) (ev_is (ev_isN (ev_sF R (ev_var rfl))) (by show V.bl (decide (oV s.cache = .non)) = _; rw [hc] <;> rfl)) fun z => by cases z) k
    | some c =>
      have : s.lNewer v = (false || decide (c < v)) := by
        unfold S.lNewer
        rw [hc] <;> rfl
      rw [this] at k
      exact s_ret (ev_orV (a := false) (ev_is (ev_isN (ev_sF R (ev_var rfl))) (by show V.bl (decide (oV s.cache = .non)) = _; rw [hc] <;> rfl)) fun _ => ev_op (ev_is (ev_sF R (ev_var rfl)) (show oV s.cache = V.int c by rw [hc] <;> rfl)) (ev_var rfl) rv_I0) k
theorem ev_lnewer {H : Hp} {σ : L2.St} {a b : TE} {E : XK} {G : LLay} {s : S} {v : Int} (R : LawAt K H G s) (ha : Ev a σ H (.ref G.h)) (hb : Ev b σ H (.int v)) : Ev (tCall (spLNewer K) [] E (tCons a (tCons b tNil))) σ H (.bl (s.lNewer v)) :=
  ev_call (vs := [.ref G.h, .int v]) (dvs := []) (ea_cons ha (ea_cons hb ea_nil)) fun H1 e1 Q q E => ⟨G, s, v, rfl, R.mono e1, q⟩
def spLLets (K : PySem.W.Frag) : Sp := fun vs H Q _ => ∃ (G : LLay) (s : S) (i : Nat) (a : Addr) (o : Op) (v : Int), vs = [.ref G.h, .ref a] ∧ LawAt K H G s ∧ G.os[i]? = some a ∧ s.ops[i]? = some o ∧ o.ver = some v ∧ RetV (.bl (s.lLets o)) H Q
theorem sc_L_lets : FnScope ["_law_h", "_law_one", "_law_guard", "_law_version"] ["_law_h", "_law_one"] (defScope s_L_lets) := ⟨rfl, rfl, rfl, by decide +kernel, rfl, by decide +kernel, by decide +kernel⟩
theorem ok_L_lets (T : Txt h0 K mg) : FnOk P w K mg base CX0 2 (He.ga K "_law_lets") (fdOf K (He.ga K "_law_lets")) ["_law_h", "_law_one"] (spLLets K) := by
  refine FnOk.mono (j := 2) ((T.fn_L_lets).ok sc_L_lets (fun vs H Q E h => ?_) (fun cdv A outer st0 H vs Q E hr h => ?_)) (by decide)
  · obtain ⟨G, s, i, a, o, v, rfl, _⟩ := h
    rfl
  · obtain ⟨G, s, i, a, o, v, rfl, R, ha, ho, hv, k⟩ := h
    refine ⟨_, PSs.nox ((pss_cons (ps_par (i := 2) (j := 3) rfl sc_L_lets.nd rfl rfl (by decide) rfl rfl (pa_cons (pe_ix (ix_tupK K) (pe_dget (hu_of hr) (pv 0) pe_str (fun _ _ => rfl)) pe_int (fun _ _ => rfl)) (pa_cons (pe_dget (hu_of hr) (pv 1) pe_str (fun _ _ => rfl)) pa_nil)) (by rfl))
      (pss_cons (ps_if (pt_cmpR op_eq (pv 2) pe_str (nomark _)) (pss_one (ps_ret (pe_dget (hu_of hr) (pv 1) pe_str (fun _ _ => rfl)))) pss_nil)
      (pss_cons (ps_if (pt_cmpR op_eq (pv 2) pe_str (nomark _)) (pss_one (ps_ret (pe_cmpR op_ge (pv 3) (pe_dget (hu_of hr) (pv 0) pe_str (fun _ _ => rfl)) (nomark _)))) pss_nil)
      (pss_one (ps_ret (pe_or (pe_cmpR op_eq (pv 2) pe_str (nomark _)) (pe_one (pe_ifExp (pt_cmpR op_eq (pv 2) pe_str (nomark _)) (pe_call (ok_L_newer T) (hr.mono (by decide)) rfl T.g__law_newer T.k_L_newer T.b_L_newer .nil pass0 (pa_cons (pv 0) (pa_cons (pv 3) pa_nil))) (pe_cmp (pc_isN (pe_dget (hu_of hr) (pv 0) pe_str (fun _ _ => rfl))))))))))))), ?_⟩
    have gd : ∀ {σ : L2.St} {H1} (g2 : Gd) {z : Str}, z = g2.str → σ[2]? = some (some (V.str s.cfg.guard.str)) → Ev (tOp rEq (tVar 2) (tC (.str z))) σ H1 (.bl (decide (s.cfg.guard = g2))) := fun {σ H1} g2 {z} hz h => ev_is (ev_op (ev_var h) ev_c (rv_eq rfl)) (congrArg V.bl (g_is _ g2 hz))
    refine q_par (ea_cons (ev_des1 R (ev_var rfl)) (ea_cons (ev_is (ev_oF R ha ho (ev_var rfl)) (show oV o.ver = V.int v by rw [hv] <;> rfl)) ea_nil)) fun H1 e1 => ?_
    have R1 := R.mono e1
    unfold S.lLets at k
    rw [hv] at k
    refine q_when (et_test (gd .token rfl rfl)) (fun hb H2 e2 => ?_) (fun hb H2 e2 => ?_)
    · rw [if_pos (of_decide_eq_true hb)] at k
      exact s_ret (ev_oF (R1.mono e2) ha ho (ev_var rfl)) fun H3 e3 => k _ (e1.trans (e2.trans e3))
    rw [if_neg (of_decide_eq_false hb)] at k
    refine q_when (et_test (gd .mark rfl rfl)) (fun hb H3 e3 => ?_) (fun hb H3 e3 => ?_)
    · rw [if_pos (of_decide_eq_true hb)] at k
      exact s_ret (ev_op (ev_var rfl) (ev_sF ((R1.mono e2).mono e3) (ev_var rfl)) rv_I0) fun H4 e4 => k _ (e1.trans (e2.trans (e3.trans e4)))
    rw [if_neg (of_decide_eq_false hb)] at k
    have R3 := (R1.mono e2).mono e3
    refine s_ret (ev_orV (gd .always rfl rfl) fun _ => ev_if (et_test (gd .newer rfl rfl)) (fun hb2 => ?_) fun hb2 => ?_) fun H4 e4 => k _ (e1.trans (e2.trans (e3.trans e4)))
    · rw [if_pos (of_decide_eq_true hb2)]
      exact ev_lnewer R3 (ev_var rfl) (ev_var rfl)
    · rw [if_neg (of_decide_eq_false hb2)]
      exact ev_is (ev_isN (ev_sF R3 (ev_var rfl))) (by rw [oV_non])
end
end K10
end
section
set_option Elab.async false
set_option linter.all false
set_option maxRecDepth 100000
set_option maxHeartbeats 4000000
namespace K10
open PySem PySem.Spec PyProof.Rows L2 Evl
section
variable {K : PySem.W.Frag} {H : Hp} {σ : L2.St} {ta tb te tl : TE} {D : Ends} {tz : TS} {xs ys : List V}
theorem s_dcl {vs : List V} {sp : Sp} {E : XK} {tr : TA} (h : EvA tr σ H vs) (k : ∀ H1, Ex H H1 → sp (vs ++ []) H1 (fun _ H2 => D.nx σ H2) E) : tDrop (tCall sp [] E tr) D σ H := h H (Ex.refl H) _ k
theorem q_dcl {vs : List V} {sp : Sp} {E : XK} {tr : TA} (h : EvA tr σ H vs) (k : ∀ H1, Ex H H1 → sp (vs ++ []) H1 (fun _ H2 => tz D σ H2) E) : tSeq (tDrop (tCall sp [] E tr)) tz D σ H := h H (Ex.refl H) _ k
theorem q_parL1 {i j : Nat} {y : V} (hl : EvL ta σ H xs) (h : ∀ H1, Ex H H1 → Ev tb σ H1 y) (k : ∀ p H1, H p = none → Ex H H1 → H1 p = some (.lst xs) → tz D ((σ.set i (some (.ref p))).set j (some y)) H1) : tSeq (tPar i j (tCons ta (tCons tb tNil))) tz D σ H :=
  hl H (Ex.refl _) _ fun p H1 np e1 hp => h H1 e1 H1 (Ex.refl _) _ fun H2 e2 => ⟨.ref p, y, rfl, k p H2 np (e1.trans e2) (e2 _ _ hp)⟩
end
def S.lGood (s : S) (v : Int) : Bool := if s.cfg.guard = .mark then decide (s.mark ≤ v) else !decide (s.cfg.guard = .newer) || s.lNewer v
theorem lGood_eq (s : S) (v : Int) : s.lGood v = (!(decide (s.cfg.guard = .mark) || decide (s.cfg.guard = .newer)) || s.isNewer v) := by
  unfold S.lGood S.isNewer S.lNewer
  cases h : s.cfg.guard <;> simp_all <;> cases s.cache <;> rfl
theorem upO_all (s : S) (u : Op → Op) : s.upO u (List.range s.ops.length) = { s with ops := s.ops.map u } := by
  unfold S.upO
  congr 1
  apply List.ext_getElem?
  intro i
  rw [List.getElem?_mapIdx, List.getElem?_map]
  cases h : s.ops[i]? with
  | none => rfl
  | some o =>
    have : i ∈ List.range s.ops.length := List.mem_range.mpr (List.getElem?_eq_some_iff.mp h).1
    show some (if i ∈ List.range s.ops.length then u o else o) = some (u o)
    rw [if_pos this]
theorem upO_nil (s : S) (u : Op → Op) : s.upO u [] = s := by
  unfold S.upO
  have : s.ops.mapIdx (fun i o => if i ∈ ([] : List Nat) then u o else o) = s.ops := by
    apply List.ext_getElem?
    intro i
    rw [List.getElem?_mapIdx]
    cases s.ops[i]? <;> simp
  rw [this]
theorem spoil_idem (o : Op) : o.spoil.spoil = o.spoil := by
  unfold Op.spoil Op.going
  by_cases h : (!(decide (o.stage = .ended) || decide (o.stage = .stopped))) = true
  · simp [h]
  · simp [h]
section
variable {P : Program} {w : World} {base h0 : Heap} {K : PySem.W.Frag} {mg : Str → Option Value}
def spLWrite (K : PySem.W.Frag) : Sp := fun vs H Q _ => ∃ (G : LLay) (s : S) (i : Nat) (a : Addr) (o : Op) (w : Wd), vs = [.ref G.h, .ref a, .str w.str] ∧ LawAt K H G s ∧ G.os[i]? = some a ∧ s.ops[i]? = some o ∧ lwOk s w o ∧ s.ops.length ≤ 1000 ∧
  ∀ H', LawAt K H' G (s.doWrite i w o) → Fr G.own H H' → Q .non H'
theorem sc_L_write : FnScope ["_law_h", "_law_one", "_law_word_here", "_law_steps", "_law_guard", "_law_other", "_law_good"] ["_law_h", "_law_one", "_law_word_here"] (defScope s_L_write) := ⟨rfl, rfl, rfl, by decide +kernel, rfl, by decide +kernel, by decide +kernel⟩
theorem ok_L_write (T : Txt h0 K mg) : FnOk P w K mg base CX0 2 (He.ga K "_law_write") (fdOf K (He.ga K "_law_write")) ["_law_h", "_law_one", "_law_word_here"] (spLWrite K) := by
  refine FnOk.mono (j := 2) ((T.fn_L_write).ok sc_L_write (fun vs H Q E h => ?_) (fun cdv A outer st0 H vs Q E hr h => ?_)) (by decide)
  · obtain ⟨G, s, i, a, o, w, rfl, _⟩ := h
    rfl
  · obtain ⟨G, s, i, a, o, w, rfl, R, ha, ho, ⟨hw, hok1, hok2, hok3⟩, hl, k⟩ := h
    refine ⟨_, PSs.nox ((pss_cons (ps_par (i := 3) (j := 4) rfl sc_L_write.nd rfl rfl (by decide) rfl rfl (pa_cons (pe_split (pe_ix (ix_tupK K) (pe_dget (hu_of hr) (pv 0) pe_str (fun _ _ => rfl)) pe_int (fun _ _ => rfl)) pe_str) (pa_cons (pe_ix (ix_tupK K) (pe_dget (hu_of hr) (pv 0) pe_str (fun _ _ => rfl)) pe_int (fun _ _ => rfl)) pa_nil)) (by rfl))
      (pss_cons (ps_if (pt_cmpR op_eq (pv 2) pe_str (nomark _)) (pss_cons (ps_dput (hu_of hr) (pv 0) pe_str (pe_op op_add (pe_dget (hu_of hr) (pv 0) pe_str (fun _ _ => rfl)) pe_int) rfl)
      (pss_one (ps_dput (hu_of hr) (pv 1) pe_str (pe_dget (hu_of hr) (pv 0) pe_str (fun _ _ => rfl)) rfl))) (pss_one (ps_for PassesOwn.never rfl (pi_listK K (pe_dget (hu_of hr) (pv 0) pe_str (fun _ _ => rfl))) (pg_name (i := 5) sc_L_write.nd rfl (Or.inl rfl))
      (pss_one (ps_dput (hu_of hr) (pv 5) pe_str pe_bl rfl)))))
      (pss_cons (ps_if (pt_cmpR op_eq (pv 2) pe_str (nomark _)) (pss_cons (ps_dput (hu_of hr) (pv 0) pe_str pe_non rfl)
      (pss_one (ps_if (PW.pt (pw_and (pt_cmpR op_eq (pv 4) pe_str (nomark _)) (pw_and1 (pt_cmp (pc_notN (pe_dget (hu_of hr) (pv 1) pe_str (fun _ _ => rfl))))))) (pss_one (ps_dput (hu_of hr) (pv 0) pe_str (pe_callB (call_max2S rfl) (by rfl) T.f_max (by decide +kernel) (pa_cons (pe_dget (hu_of hr) (pv 0) pe_str (fun _ _ => rfl)) (pa_cons (pe_dget (hu_of hr) (pv 1) pe_str (fun _ _ => rfl)) pa_nil))) rfl)) pss_nil))) pss_nil)
      (pss_cons (ps_if (pt_cmpR op_eq (pv 2) pe_str (nomark _)) (pss_cons (ps_set (i := 6) sc_L_write.nd rfl (Or.inl rfl) (pe_ifExp (pt_cmpR op_eq (pv 4) pe_str (nomark _)) (pe_cmpR op_ge (pe_dget (hu_of hr) (pv 1) pe_str (fun _ _ => rfl)) (pe_dget (hu_of hr) (pv 0) pe_str (fun _ _ => rfl)) (nomark _)) (pe_or (pe_cmpR op_ne (pv 4) pe_str (nomark _)) (pe_one (pe_call (ok_L_newer T) (hr.mono (by decide)) rfl T.g__law_newer T.k_L_newer T.b_L_newer .nil pass0 (pa_cons (pv 0) (pa_cons (pe_dget (hu_of hr) (pv 1) pe_str (fun _ _ => rfl)) pa_nil)))))))
      (pss_one (ps_if (pt_val (pv 6)) (pss_one (ps_expr (pe_call (ok_L_hold T) (hr.mono (by decide)) rfl T.g__law_hold T.k_L_hold T.b_L_hold .nil pass0 (pa_cons (pv 0) (pa_cons (pe_dget (hu_of hr) (pv 1) pe_str (fun _ _ => rfl)) pa_nil))))) pss_nil))) pss_nil)
      (pss_cons (ps_dput (hu_of hr) (pv 1) pe_str (pe_op op_add (pe_dget (hu_of hr) (pv 1) pe_str (fun _ _ => rfl)) pe_int) rfl)
      (pss_one (ps_if (pt_cmpR op_eq (pe_dget (hu_of hr) (pv 1) pe_str (fun _ _ => rfl)) (pe_callB (call_lenK K) (by rfl) T.f_len (by decide +kernel) (pa_cons (pv 3) pa_nil)) (nomark _)) (pss_one (ps_expr (pe_call (ok_L_end T) (hr.mono (by decide)) rfl T.g__law_end T.k_L_end T.b_L_end .nil pass0 (pa_cons (pv 0) (pa_cons (pv 1) (pa_cons pe_str pa_nil)))))) (pss_one (ps_dput (hu_of hr) (pv 1) pe_str (pe_ix (ix_listK K) (pv 3) (pe_dget (hu_of hr) (pv 1) pe_str (fun _ _ => rfl)) (fun _ _ => rfl)) rfl)))))))))), ?_⟩
    have hil := (List.getElem?_eq_some_iff.mp ho).1
    refine q_parL1 (el_steps R (ev_var rfl)) (fun H1 e1 => ev_des1 (R.mono e1) (ev_var rfl)) fun st H1 nst e1 hst => ?_
    have R1 := R.mono e1
    have stN : st ∉ G.own := fun z => by
      obtain ⟨⟨u, hu⟩, _⟩ := R.own_not z
      rw [hu] at nst
      cases nst
    have wd : ∀ {σ : L2.St} {H'} (w3 : Wd) {y : Str}, y = w3.str → σ[2]? = some (some (V.str w.str)) → EvT (tTest (tOp rEq (tVar 2) (tC (.str y)))) σ H' (decide (w = w3)) := fun {σ H'} w3 {y} hy h => et_test (ev_w (ev_var h) rfl hy)
    have gd : ∀ {σ : L2.St} {H'} (g2 : Gd) {z : Str}, z = g2.str → σ[4]? = some (some (V.str s.cfg.guard.str)) → Ev (tOp rEq (tVar 4) (tC (.str z))) σ H' (.bl (decide (s.cfg.guard = g2))) := fun {σ H'} g2 {z} hz h => ev_is (ev_op (ev_var h) ev_c (rv_eq rfl)) (congrArg V.bl (g_is _ g2 hz))
    have gn : ∀ {σ : L2.St} {H'} (g2 : Gd) {z : Str}, z = g2.str → σ[4]? = some (some (V.str s.cfg.guard.str)) → Ev (tOp rNe (tVar 4) (tC (.str z))) σ H' (.bl (!decide (s.cfg.guard = g2))) := fun {σ H'} g2 {z} hz h => ev_is (ev_op (ev_var h) ev_c (rv_ne rfl)) (by rw [g_is _ g2 hz])
    have fin : ∀ (H2 : Hp) (x5 x6 : Option V), LawAt K H2 G (s.wrote i w o) → H2 st = some (.lst (s.steps.map fun w => V.str w.str)) → Fr G.own H H2 →
        tSeq (sDPut (tVar 1) (tC (.str "step")) (tOp (rI0 fun i j => V.int (i + j)) (tDGet (tVar 1) (tC (.str "step"))) (tC (.int 1))))
          (tIfS (tTest (tOp rEq (tDGet (tVar 1) (tC (.str "step"))) (tCB (rLenS K) (tCons (tVar 3) tNil)))) (tDrop (tCall (spLEnd K) [] E0 (tCons (tVar 0) (tCons (tVar 1) (tCons (tC (.str "ended")) tNil))))) (sDPut (tVar 1) (tC (.str "stage")) (tOp (rIxL K) (tVar 3) (tDGet (tVar 1) (tC (.str "step"))))))
          { nx := fun _ H' => Q .non H', rt := Q } [some (.ref G.h), some (.ref a), some (.str w.str), some (.ref st), some (.str s.cfg.guard.str), x5, x6] H2 := by
      intro H2 x5 x6 R2 hst2 F2
      have ho2 : (s.wrote i w o).ops[i]? = some (s.wroteOp w o) := wrote_at ho
      have hat : (s.wrote i w o).at i = s.wroteOp w o := at_of ho2
      have hsteps : (s.wrote i w o).steps = s.steps := by
        unfold S.steps
        rw [show (s.wrote i w o).cfg = s.cfg from wrote_cfg s i w o]
      refine q_setD R2 ha ho2 (fun _ _ => ev_var rfl) (ev_op (ev_oF R2 ha ho2 (ev_var rfl)) ev_c rv_I0) { s.wroteOp w o with step := (s.wroteOp w o).step + 1 } ?_ fun H3 R3 F3 => ?_
      · show putF "step" (.int (((s.wroteOp w o).step : Int) + 1)) (opL (s.wroteOp w o) i) = opL { s.wroteOp w o with step := (s.wroteOp w o).step + 1 } i
        have : (((s.wroteOp w o).step : Int) + 1) = (((s.wroteOp w o).step + 1 : Nat) : Int) := by omega
        rw [this]
        rfl
      have ho3 : ((s.wrote i w o).setOp i { s.wroteOp w o with step := (s.wroteOp w o).step + 1 }).ops[i]? = some { s.wroteOp w o with step := (s.wroteOp w o).step + 1 } := set_at ho2
      have hst3 : H3 st = some (.lst (s.steps.map fun w => V.str w.str)) := F3 _ _ hst2 stN
      have hstep : (s.wroteOp w o).step = o.step := wroteOp_step
      refine s_if (b := decide (o.step + 1 = s.steps.length)) (et_test (ev_is (ev_op (ev_oF R3 ha ho3 (ev_var rfl)) (ev_len (ev_var rfl) (sq_of hst3)) (rv_eq rfl)) (congrArg V.bl ?_))) (fun hb H4 e4 => ?_) (fun hb H4 e4 => ?_)
      · rw [List.length_map]
        show decide (V.int (((s.wroteOp w o).step + 1 : Nat) : Int) = V.int ((s.steps.length : Nat) : Int)) = _
        rw [int_is, hstep]
      · have hb := of_decide_eq_true hb
        refine s_dcl (vs := [.ref G.h, .ref a, .str Wd.ended.str]) (ea_cons (ev_var rfl) (ea_cons (ev_var rfl) (ea_cons ev_c ea_nil))) fun H5 e5 => ?_
        refine ⟨G, _, i, a, _, .ended, rfl, .inl rfl, R3.mono (Ex.trans e4 e5), ha, ho3, fun H6 R6 F6 => ?_⟩
        rw [if_pos rfl] at R6
        refine k H6 ?_ (F2.trans (F3.trans ((Fr.of (Ex.trans e4 e5)).trans F6)))
        have e9 : s.doWrite i w o = ((s.wrote i w o).setOp i { s.wroteOp w o with step := (s.wroteOp w o).step + 1 }).endOp i { s.wroteOp w o with step := (s.wroteOp w o).step + 1 } := by
          unfold S.doWrite S.advance
          rw [hat, hsteps, hstep, if_pos hb, endOp_set]
        rw [e9]
        exact R6
      · have hb := of_decide_eq_false hb
        have hlt : o.step + 1 < s.steps.length := by omega
        have hget : s.steps[o.step + 1]? = some (s.steps.getD (o.step + 1) .store) := by
          rw [List.getD_eq_getElem?_getD, List.getElem?_eq_getElem hlt] <;> rfl
        have R4 := R3.mono e4
        refine s_setD R4 ha ho3 (fun _ _ => ev_var rfl) (ev_op (ev_var rfl) (ev_oF R4 ha ho3 (ev_var rfl)) (rv_ixL (sq_of (e4 _ _ hst3)) (L2.at_of (j := o.step + 1) (by show (((s.wroteOp w o).step + 1 : Nat) : Int) = _; rw [hstep]) (by rw [List.getElem?_map, hget] <;> rfl)))) { s.wroteOp w o with step := (s.wroteOp w o).step + 1, stage := s.steps.getD (o.step + 1) .store } rfl fun H5 R5 F5 => ?_
        refine k H5 ?_ (F2.trans (F3.trans ((Fr.of e4).trans F5)))
        have e9 : s.doWrite i w o = ((s.wrote i w o).setOp i { s.wroteOp w o with step := (s.wroteOp w o).step + 1 }).setOp i { s.wroteOp w o with step := (s.wroteOp w o).step + 1, stage := s.steps.getD (o.step + 1) .store } := by
          unfold S.doWrite S.advance
          rw [hat, hsteps, hstep, if_neg hb]
          unfold S.setOp
          simp only [List.set_set]
        rw [e9]
        exact R5
    have spl : ∀ {D' : Ends} (H2 : Hp), Ex H H2 → (∀ x5 H3, LawAt K H3 G s.spoil → H3 st = some (.lst (s.steps.map fun w => V.str w.str)) → Fr G.own H H3 → D'.nx [some (.ref G.h), some (.ref a), some (.str w.str), some (.ref st), some (.str s.cfg.guard.str), x5, none] H3) → H2 st = some (.lst (s.steps.map fun w => V.str w.str)) →
        tFor (iList K (tDGet (tVar 0) (tC (.str "ops")))) (gName 5) (sDPut (tVar 5) (tC (.str "clean")) (tC (.bl false))) D' [some (.ref G.h), some (.ref a), some (.str w.str), some (.ref st), some (.str s.cfg.guard.str), none, none] H2 := by
      intro D' H2 e2 kk hst2
      have R2 := R.mono e2
      refine s_forLn (xs := G.os.map V.ref) (K := K) (ev_sF R2 (ev_var rfl)) (sq_of R2.ol) (fun n σ' H' => ∃ x5 : Option V, σ' = [some (.ref G.h), some (.ref a), some (.str w.str), some (.ref st), some (.str s.cfg.guard.str), x5, none] ∧ LawAt K H' G (s.upO Op.spoil (List.range n)) ∧ Fr G.own H2 H') ?_ ?_ ?_ ?_
      · intro H3 e3
        refine ⟨none, rfl, ?_, Fr.of e3⟩
        rw [show List.range 0 = [] from rfl, upO_nil]
        exact R2.mono e3
      · rintro n σ' H3 _ ⟨x5, rfl, R3, F3⟩
        exact sq_of R3.ol
      · rintro n x σ' H3 hx ⟨x5, rfl, R3, F3⟩
        obtain ⟨b, hb, rfl, hob⟩ := R.ol_at hx
        have ho3 : (s.upO Op.spoil (List.range n)).ops[n]? = some (s.at n) := by
          rw [upO_at hob, if_neg (by simp)]
        refine s_setD R3 hb ho3 (fun _ _ => ev_var rfl) ev_c (s.at n).spoil rfl fun H4 R4 F4 => ⟨_, rfl, ?_, F3.trans F4⟩
        have e5 : (s.upO Op.spoil (List.range n)).setOp n (s.at n).spoil = s.upO Op.spoil (List.range (n + 1)) := by
          have h := upO_set (u := Op.spoil) spoil_idem (D := List.range n) hob
          rw [if_neg (by simp)] at h
          rw [h, List.range_succ]
        rw [← e5]
        exact R4
      · rintro σ' H3 ⟨x5, rfl, R3, F3⟩
        rw [List.length_map, R.len, upO_all] at R3
        exact kk x5 H3 R3 (F3 _ _ hst2 stN) ((Fr.of e2).trans F3)
    rcases hw with rfl | rfl | rfl
    · -- store
      refine q_if (wd .store rfl rfl) (fun _ H2 e2 => ?_) (fun z => by cases z)
      have R2 := R1.mono e2
      refine q_setH R2 (fun _ _ => ev_var rfl) (ev_op (ev_sF R2 (ev_var rfl)) ev_c rv_I0) { s with db := s.db + 1 } rfl fun H3 R3 F3 => ?_
      refine s_setD R3 ha ho (fun _ _ => ev_var rfl) (ev_sF R3 (ev_var rfl)) { o with ver := some (s.db + 1) } rfl fun H4 R4 F4 => ?_
      refine q_when (wd .drop rfl rfl) (fun z => by cases z) fun _ H5 e5 => ?_
      refine q_when (wd .set rfl rfl) (fun z => by cases z) fun _ H6 e6 => ?_
      have F24 : Fr G.own H1 H6 := (Fr.of e2).trans (F3.trans (F4.trans (Fr.of (e5.trans e6))))
      exact fin H6 none none ((R4.mono e5).mono e6) (F24 _ _ hst stN) ((Fr.of e1).trans F24)
    · -- drop
      refine q_if (wd .store rfl rfl) (fun z => by cases z) (fun _ H2 e2 => spl H2 (e1.trans e2) (fun x5 H3 R3 hst3 F3 => ?_) (e2 _ _ hst))
      refine q_if (wd .drop rfl rfl) (fun _ H4 e4 => ?_) (fun z => by cases z)
      have R4 := R3.mono e4
      refine q_setH R4 (fun _ _ => ev_var rfl) ev_c ({ s with cache := none }.spoil) rfl fun H5 R5 F5 => ?_
      have ho5 : ({ s with cache := none }.spoil : S).ops[i]? = some o.spoil := by
        show (s.ops.map Op.spoil)[i]? = _
        rw [List.getElem?_map, ho] <;> rfl
      have F45 : Fr G.own H3 H5 := (Fr.of e4).trans F5
      have nxt : ∀ {tu : TS} (H6 : Hp), LawAt K H6 G (s.wrote i .drop o) → Fr G.own H5 H6 → tSeq (tIfS (tTest (tOp rEq (tVar 2) (tC (.str "set")))) tu tNext) _ { nx := fun _ H' => Q .non H', rt := Q } [some (.ref G.h), some (.ref a), some (.str Wd.drop.str), some (.ref st), some (.str s.cfg.guard.str), x5, none] H6 := fun {tu} H6 R6 F6 =>
        q_when (wd .set rfl rfl) (fun z => by cases z) fun _ H7 e7 => fin H7 x5 none (R6.mono e7) (e7 _ _ ((F45.trans F6) _ _ hst3 stN)) (F3.trans (F45.trans (F6.trans (Fr.of e7))))
      refine s_when (b := decide (s.cfg.guard = .mark) && decide (o.ver ≠ none)) (et_and (et_test (gd .mark rfl rfl)) fun _ => et_B (ev_is (ev_notN (ev_oF R5 ha ho5 (ev_var rfl))) (congrArg V.bl (show (!decide (oV o.ver = .non)) = _ by rw [oV_non]; simp)))) (fun hb H6 e6 => ?_) (fun hb H6 e6 => ?_)
      · obtain ⟨hb1, hb2⟩ := Bool.and_eq_true_iff.mp hb
        cases hv : o.ver with
        | none =>
          rw [hv] at hb2
          cases hb2
        | some v =>
          have R6 := R5.mono e6
          refine s_setH R6 (fun _ _ => ev_var rfl) (ev_max2' (ev_sF R6 (ev_var rfl)) (ev_is (ev_oF R6 ha ho5 (ev_var rfl)) (show oV o.ver = V.int v by rw [hv] <;> rfl))) { ({ s with cache := none }.spoil : S) with mark := mx s.mark v } rfl fun H7 R7 F7 => nxt H7 ?_ ((Fr.of e6).trans F7)
          have : s.wrote i .drop o = { ({ s with cache := none }.spoil : S) with mark := mx s.mark v } := by
            unfold S.wrote
            rw [if_neg (by decide), if_pos rfl]
            show (match decide (s.cfg.guard = Gd.mark), o.ver with
              | true, some v => ({ ({ s with cache := none }.spoil : S) with mark := mx s.mark v } : S)
              | _, _ => ({ s with cache := none }.spoil : S)) = _
            rw [hb1, hv]
          rw [this]
          exact R7
      · refine nxt H6 ?_ (Fr.of e6)
        have : s.wrote i .drop o = ({ s with cache := none }.spoil : S) := by
          unfold S.wrote
          rw [if_neg (by decide), if_pos rfl]
          show (match decide (s.cfg.guard = Gd.mark), o.ver with
            | true, some v => ({ ({ s with cache := none }.spoil : S) with mark := mx s.mark v } : S)
            | _, _ => ({ s with cache := none }.spoil : S)) = _
          split
          · rename_i h1 h2
            rw [h1, h2] at hb
            cases hb
          · rfl
        rw [this]
        exact R5.mono e6
    · -- set
      obtain ⟨v, hv⟩ := hok1 (by decide) (by decide)
      refine q_if (wd .store rfl rfl) (fun z => by cases z) (fun _ H2 e2 => spl H2 (e1.trans e2) (fun x5 H3 R3 hst3 F3 => ?_) (e2 _ _ hst))
      have ho3 : s.spoil.ops[i]? = some o.spoil := by
        show (s.ops.map Op.spoil)[i]? = _
        rw [List.getElem?_map, ho] <;> rfl
      refine q_when (wd .drop rfl rfl) (fun z => by cases z) fun _ H4 e4 => ?_
      refine q_if (wd .set rfl rfl) (fun _ H5 e5 => ?_) (fun z => by cases z)
      have e35 := e4.trans e5
      have R5 := R3.mono e35
      have ver : ∀ {σ : L2.St} {H'}, Ex H5 H' → σ[1]? = some (some (V.ref a)) → Ev (tDGet (tVar 1) (tC (.str "version"))) σ H' (.int v) := fun {σ H'} e h => ev_is (ev_oF (R5.mono e) ha ho3 (ev_var h)) (show oV o.ver = V.int v by rw [hv] <;> rfl)
      have wr : s.wrote i .set o = if s.spoil.lGood v = true then s.spoil.put v else s.spoil := by
        unfold S.wrote
        rw [if_neg (by decide), if_neg (by decide)]
        show (if (!(decide (s.cfg.guard = .mark) || decide (s.cfg.guard = .newer)) || s.spoil.isNewer (o.ver.getD 0)) = true then s.spoil.put (o.ver.getD 0) else s.spoil) = _
        rw [lGood_eq, hv]
        rfl
      refine q_asg (v := .bl (s.spoil.lGood v)) (ev_if (et_test (gd .mark rfl rfl)) (fun hb => ?_) fun hb => ?_) fun H6 e6 => ?_
      · refine ev_is (ev_op (ver (Ex.refl _) rfl) (ev_sF R5 (ev_var rfl)) rv_I0) ?_
        unfold S.lGood
        rw [if_pos (show s.spoil.cfg.guard = .mark from of_decide_eq_true hb)]
      · refine ev_is (ev_orV (gn .newer rfl rfl) fun _ => ev_lnewer R5 (ev_var rfl) (ver (Ex.refl _) rfl)) ?_
        unfold S.lGood
        rw [if_neg (show ¬ s.spoil.cfg.guard = .mark from of_decide_eq_false hb)]
        rfl
      · refine s_when (et_B (ev_var rfl)) (fun hb H7 e7 => ?_) (fun hb H7 e7 => ?_)
        · refine s_dcl (vs := [.ref G.h, .int v]) (ea_cons (ev_var rfl) (ea_cons (ver (e6.trans e7) rfl) ea_nil)) fun H8 e8 => ⟨G, s.spoil, v, rfl, R5.mono (e6.trans (e7.trans e8)), fun H9 R9 F9 => ?_⟩
          rw [if_pos hb] at wr
          rw [← wr] at R9
          have F39 : Fr G.own H3 H9 := (Fr.of (e35.trans (e6.trans (e7.trans e8)))).trans F9
          exact fin H9 x5 _ R9 (F39 _ _ hst3 stN) (F3.trans F39)
        · rw [hb, if_neg Bool.false_ne_true] at wr
          have e37 := e35.trans (e6.trans e7)
          refine fin H7 x5 _ ?_ (e37 _ _ hst3) (F3.trans (Fr.of e37))
          rw [wr]
          exact R3.mono e37
end
end K10
end
section
set_option Elab.async false
set_option linter.all false
set_option maxRecDepth 100000
set_option maxHeartbeats 4000000
namespace K10
open PySem PySem.Spec PyProof.Rows L2 Evl
section
variable {P : Program} {w : World} {base h0 : Heap} {K : PySem.W.Frag} {mg : Str → Option Value}
def spLRead (K : PySem.W.Frag) : Sp := fun vs H Q _ => ∃ (G : LLay) (s : S) (i : Nat) (a : Addr) (o : Op) (w : Wd), vs = [.ref G.h, .ref a, .str w.str] ∧ LawAt K H G s ∧ G.os[i]? = some a ∧ s.ops[i]? = some o ∧ lrOk s w o ∧
  ∀ H', LawAt K H' G (s.doRead i w o) → Fr G.own H H' → Q .non H'
theorem set_setOp (s : S) (i : Nat) (a b : Op) : (s.setOp i a).setOp i b = s.setOp i b := by
  unfold S.setOp
  simp only [List.set_set]
theorem sc_L_read : FnScope ["_law_h", "_law_one", "_law_word_here"] ["_law_h", "_law_one", "_law_word_here"] (defScope s_L_read) := ⟨rfl, rfl, rfl, by decide +kernel, rfl, by decide +kernel, by decide +kernel⟩
theorem ok_L_read (T : Txt h0 K mg) : FnOk P w K mg base CX0 3 (He.ga K "_law_read") (fdOf K (He.ga K "_law_read")) ["_law_h", "_law_one", "_law_word_here"] (spLRead K) := by
  refine FnOk.mono (j := 3) ((T.fn_L_read).ok sc_L_read (fun vs H Q E h => ?_) (fun cdv A outer st0 H vs Q E hr h => ?_)) (by decide)
  · obtain ⟨G, s, i, a, o, w, rfl, _⟩ := h
    rfl
  · obtain ⟨G, s, i, a, o, w, rfl, R, ha, ho, ⟨hw, ⟨hr1, hr2⟩, hfi, hsh⟩, k⟩ := h
    refine ⟨_, PSs.nox ((pss_one (ps_if (PW.pt (pw_and (pt_cmpR op_eq (pv 2) pe_str (nomark _)) (pw_and1 (pt_cmp (pc_notN (pe_dget (hu_of hr) (pv 0) pe_str (fun _ _ => rfl))))))) (pss_cons (ps_dput (hu_of hr) (pv 1) pe_str (pe_dget (hu_of hr) (pv 0) pe_str (fun _ _ => rfl)) rfl)
      (pss_one (ps_expr (pe_call (ok_L_end T) (hr.mono (by decide)) rfl T.g__law_end T.k_L_end T.b_L_end .nil pass0 (pa_cons (pv 0) (pa_cons (pv 1) (pa_cons pe_str pa_nil))))))) (pss_one (ps_if (PW.pt (pw_and (pt_cmpR op_eq (pv 2) pe_str (nomark _)) (pw_and1 (pt_cmp (pc_notN (pe_dget (hu_of hr) (pv 0) pe_str (fun _ _ => rfl))))))) (pss_one (ps_asg (pe_tup (pa_cons pe_str (pa_cons (pe_dget (hu_of hr) (pv 0) pe_str (fun _ _ => rfl)) pa_nil))) (pg_tupK K (pgs_cons (pg_sub (pv 1) pe_str (set_dict (hu_of hr))) (pgs_cons (pg_sub (pv 1) pe_str (set_dict (hu_of hr))) pgs_nil))))) (pss_one (ps_if (pt_cmpR op_eq (pv 2) pe_str (nomark _)) (pss_cons (ps_dput (hu_of hr) (pv 1) pe_str pe_str rfl)
      (pss_one (ps_dput (hu_of hr) (pv 0) pe_str (pe_ifExp (pt_cmpR op_eq (pe_ix (ix_tupK K) (pe_dget (hu_of hr) (pv 0) pe_str (fun _ _ => rfl)) pe_int (fun _ _ => rfl)) pe_str (nomark _)) (pe_dget (hu_of hr) (pv 1) pe_str (fun _ _ => rfl)) pe_non) rfl))) (pss_one (ps_if (pt_cmpR op_eq (pv 2) pe_str (nomark _)) (pss_cons (ps_dput (hu_of hr) (pv 1) pe_str (pe_ifExp (pt_cmpR op_eq (pe_ix (ix_tupK K) (pe_dget (hu_of hr) (pv 0) pe_str (fun _ _ => rfl)) pe_int (fun _ _ => rfl)) pe_str (nomark _)) (pe_dget (hu_of hr) (pv 0) pe_str (fun _ _ => rfl)) (pe_dget (hu_of hr) (pv 0) pe_str (fun _ _ => rfl))) rfl)
      (pss_cons (ps_dput (hu_of hr) (pv 1) pe_str pe_str rfl)
      (pss_one (ps_if (pt_cmpR op_eq (pe_ix (ix_tupK K) (pe_dget (hu_of hr) (pv 0) pe_str (fun _ _ => rfl)) pe_int (fun _ _ => rfl)) pe_str (nomark _)) (pss_one (ps_expr (pe_call (ok_L_end T) (hr.mono (by decide)) rfl T.g__law_end T.k_L_end T.b_L_end .nil pass0 (pa_cons (pv 0) (pa_cons (pv 1) (pa_cons pe_str pa_nil)))))) pss_nil)))) (pss_one (ps_if (pt_cmpR op_eq (pv 2) pe_str (nomark _)) (pss_cons (ps_dput (hu_of hr) (pv 1) pe_str (pe_dget (hu_of hr) (pe_ix (ix_listK K) (pe_dget (hu_of hr) (pv 0) pe_str (fun _ _ => rfl)) (pe_dget (hu_of hr) (pv 1) pe_str (fun _ _ => rfl)) (fun _ _ => rfl)) pe_str (fun _ _ => rfl)) rfl)
      (pss_one (ps_expr (pe_call (ok_L_end T) (hr.mono (by decide)) rfl T.g__law_end T.k_L_end T.b_L_end .nil pass0 (pa_cons (pv 0) (pa_cons (pv 1) (pa_cons pe_str pa_nil))))))) (pss_cons (ps_if (pt_val (pe_call (ok_L_lets T) (hr.mono (by decide)) rfl T.g__law_lets T.k_L_lets T.b_L_lets .nil pass0 (pa_cons (pv 0) (pa_cons (pv 1) pa_nil)))) (pss_one (ps_expr (pe_call (ok_L_hold T) (hr.mono (by decide)) rfl T.g__law_hold T.k_L_hold T.b_L_hold .nil pass0 (pa_cons (pv 0) (pa_cons (pe_dget (hu_of hr) (pv 1) pe_str (fun _ _ => rfl)) pa_nil))))) pss_nil)
      (pss_one (ps_expr (pe_call (ok_L_end T) (hr.mono (by decide)) rfl T.g__law_end T.k_L_end T.b_L_end .nil pass0 (pa_cons (pv 0) (pa_cons (pv 1) (pa_cons pe_str pa_nil)))))))))))))))))), ?_⟩
    have wd : ∀ {H'} (w3 : Wd) {y : Str}, y = w3.str → EvT (tTest (tOp rEq (tVar 2) (tC (.str y)))) [some (.ref G.h), some (.ref a), some (.str w.str)] H' (decide (w = w3)) := fun {H'} w3 {y} hy => et_test (ev_w (ev_var rfl) rfl hy)
    have cch : ∀ {H'}, Ex H H' → EvT (tB (tNotN (tDGet (tVar 0) (tC (.str "cache"))))) [some (.ref G.h), some (.ref a), some (.str w.str)] H' (decide (s.cache ≠ none)) := fun {H'} e => et_B (ev_is (ev_notN (ev_sF (R.mono e) (ev_var rfl))) (congrArg V.bl (show (!decide (oV s.cache = .non)) = _ by rw [oV_non]; simp)))
    have opn : ∀ {H'}, Ex H H' → EvT (tB (tNotN (tDGet (tVar 0) (tC (.str "open"))))) [some (.ref G.h), some (.ref a), some (.str w.str)] H' (decide (s.fl ≠ none)) := fun {H'} e => et_B (ev_is (ev_notN (ev_sF (R.mono e) (ev_var rfl))) (congrArg V.bl (show (!decide (nV s.fl = .non)) = _ by rw [nV_non]; simp)))
    have fin : ∀ (H2 : Hp) (s2 : S) (o2 : Op), LawAt K H2 G s2 → s2.ops[i]? = some o2 → Fr G.own H H2 → s2.endOp i o2 = s.doRead i w o →
        tDrop (tCall (spLEnd K) [] E0 (tCons (tVar 0) (tCons (tVar 1) (tCons (tC (.str "ended")) tNil)))) { nx := fun _ H' => Q .non H', rt := Q } [some (.ref G.h), some (.ref a), some (.str w.str)] H2 := fun H2 s2 o2 R2 h2 F2 he =>
      s_dcl (vs := [.ref G.h, .ref a, .str Wd.ended.str]) (ea_cons (ev_var rfl) (ea_cons (ev_var rfl) (ea_cons ev_c ea_nil))) fun H5 e5 => ⟨G, s2, i, a, o2, .ended, rfl, .inl rfl, R2.mono e5, ha, h2, fun H6 R6 F6 => by
        rw [if_pos rfl, he] at R6
        exact k H6 R6 (F2.trans ((Fr.of e5).trans F6))⟩
    refine s_if (b := decide (w = .look) && decide (s.cache ≠ none)) (et_and (wd .look rfl) fun _ => cch (Ex.refl _)) (fun hb H1 e1 => ?_) (fun hb H1 e1 => ?_)
    · obtain ⟨hb1, hb2⟩ := Bool.and_eq_true_iff.mp hb
      have hb1 := of_decide_eq_true hb1
      subst hb1
      cases hc : s.cache with
      | none => exact absurd hc (of_decide_eq_true hb2)
      | some c =>
        have R1 := R.mono e1
        refine q_setD R1 ha ho (fun _ _ => ev_var rfl) (ev_is (ev_sF R1 (ev_var rfl)) (show oV s.cache = V.int c by rw [hc] <;> rfl)) { o with ver := some c } rfl fun H2 R2 F2 => ?_
        refine fin H2 _ _ R2 (set_at ho) ((Fr.of e1).trans F2) ?_
        rw [endOp_set]
        unfold S.doRead S.doLook
        rw [if_pos rfl, hc]
    refine s_if (b := decide (w = .look) && decide (s.fl ≠ none)) (et_and (wd .look rfl) fun _ => opn e1) (fun hb2 H2 e2 => ?_) (fun hb2 H2 e2 => ?_)
    · obtain ⟨h1, h2⟩ := Bool.and_eq_true_iff.mp hb2
      have h1 := of_decide_eq_true h1
      have h2 := of_decide_eq_true h2
      subst h1
      have hc : s.cache = none := by
        cases hc : s.cache with
        | none => rfl
        | some c =>
          rw [hc] at hb
          cases hb
      have R2 := R.mono (e1.trans e2)
      refine s_asg2 (x := .str Wd.waits.str) (y := nV s.fl) (ea_cons ev_c (ea_cons (ev_sF R2 (ev_var rfl)) ea_nil)) fun H3 e3 => ?_
      have R3 := R2.mono e3
      refine g_setD R3 ha ho (ev_var rfl) { o with stage := .waits } rfl fun H4 R4 F4 => ?_
      show gSub _ _ _ _ _ _ _
      refine g_setD R4 ha (set_at ho) (ev_var rfl) { o with stage := .waits, leader := s.fl } rfl fun H5 R5 F5 => ?_
      refine k H5 ?_ ((Fr.of (e1.trans (e2.trans e3))).trans (F4.trans F5))
      rw [set_setOp] at R5
      have hshared : s.cfg.shared = true := by
        cases hq : s.cfg.shared with
        | true => rfl
        | false => exact absurd (hsh hq) h2
      have : s.doRead i .look o = s.setOp i { o with stage := .waits, leader := s.fl } := by
        unfold S.doRead S.doLook
        rw [if_pos rfl, hc]
        show (if _ then _ else _) = _
        rw [if_pos ⟨hshared, h2⟩]
      rw [this]
      exact R5
    have e02 := e1.trans e2
    have R2 := R.mono e02
    refine s_if (wd .look rfl) (fun hb3 H3 e3 => ?_) (fun hb3 H3 e3 => ?_)
    · have hb3 := of_decide_eq_true hb3
      subst hb3
      have hc : s.cache = none := by
        cases hc : s.cache with
        | none => rfl
        | some c =>
          rw [hc] at hb
          cases hb
      have hf : s.fl = none := by
        cases hf : s.fl with
        | none => rfl
        | some c =>
          rw [hf] at hb2
          cases hb2
      have R3 := R2.mono e3
      refine q_setD R3 ha ho (fun _ _ => ev_var rfl) ev_c { o with stage := .fetch } rfl fun H4 R4 F4 => ?_
      refine s_setH R4 (fun _ _ => ev_var rfl) (y := nV (if s.cfg.shared then some i else none)) (ev_if (et_test (ev_is (ev_op (ev_des2 R4 (ev_var rfl)) ev_c (rv_eq rfl)) (congrArg V.bl (fli_is _)))) (fun h => ?_) fun h => ?_) { s.setOp i { o with stage := .fetch } with fl := if s.cfg.shared then some i else none } rfl fun H5 R5 F5 => ?_
      · have h : s.cfg.shared = true := h
        rw [if_pos h]
        exact ev_oF R4 ha (set_at ho) (ev_var rfl)
      · have h : s.cfg.shared = false := h
        rw [h, if_neg Bool.false_ne_true]
        exact ev_c
      · refine k H5 ?_ ((Fr.of (e02.trans e3)).trans (F4.trans F5))
        have : s.doRead i .look o = { s.setOp i { o with stage := .fetch } with fl := if s.cfg.shared then some i else none } := by
          unfold S.doRead S.doLook
          rw [if_pos rfl]
          split
          · rename_i c hh
            rw [hc] at hh
            cases hh
          · rw [if_neg (fun z => z.2 hf)]
            rfl
        rw [this]
        exact R5
    have nl := of_decide_eq_false hb3
    have e03 := e02.trans e3
    refine s_if (wd .fetch rfl) (fun hb4 H4 e4 => ?_) (fun hb4 H4 e4 => ?_)
    · have hb4 := of_decide_eq_true hb4
      subst hb4
      have R4 := R.mono (e03.trans e4)
      refine q_setD R4 ha ho (fun _ _ => ev_var rfl) (y := oV (some s.source)) (ev_if (et_test (ev_is (ev_op (ev_wor0 R4 (ev_var rfl)) ev_c (rv_eq rfl)) (congrArg V.bl (src_is _)))) (fun h => ?_) fun h => ?_) { o with ver := some s.source } rfl fun H5 R5 F5 => ?_
      · have h : s.cfg.repl = true := h
        refine ev_is (ev_sF R4 (ev_var rfl)) (show V.int s.rep = oV (some s.source) from ?_)
        unfold S.source
        rw [if_pos h]
        rfl
      · have h : s.cfg.repl = false := h
        refine ev_is (ev_sF R4 (ev_var rfl)) (show V.int s.db = oV (some s.source) from ?_)
        unfold S.source
        rw [h, if_neg Bool.false_ne_true]
        rfl
      · refine q_setD R5 ha (set_at ho) (fun _ _ => ev_var rfl) ev_c { o with ver := some s.source, stage := .fill } rfl fun H6 R6 F6 => ?_
        rw [set_setOp] at R6
        have F06 : Fr G.own H H6 := (Fr.of (e03.trans e4)).trans (F5.trans F6)
        refine s_when (et_test (ev_lguard R6 (ev_var rfl) .never)) (fun hg H7 e7 => ?_) (fun hg H7 e7 => ?_)
        · refine fin H7 _ _ (R6.mono e7) (set_at ho) (F06.trans (Fr.of e7)) ?_
          unfold S.doRead S.doFetch
          rw [if_neg (by decide), if_pos rfl]
          show _ = if s.cfg.guard = .never then _ else _
          rw [if_pos (show s.cfg.guard = .never from of_decide_eq_true hg)]
        · refine k H7 ?_ (F06.trans (Fr.of e7))
          have : s.doRead i .fetch o = s.setOp i { o with ver := some s.source, stage := .fill } := by
            unfold S.doRead S.doFetch
            rw [if_neg (by decide), if_pos rfl]
            show (if s.cfg.guard = .never then _ else _) = _
            rw [if_neg (show ¬ s.cfg.guard = .never from of_decide_eq_false hg)]
          rw [this]
          exact R6.mono e7
    have nf := of_decide_eq_false hb4
    have e04 := e03.trans e4
    refine s_if (wd .take rfl) (fun hb5 H5 e5 => ?_) (fun hb5 H5 e5 => ?_)
    · have hb5 := of_decide_eq_true hb5
      subst hb5
      have R5 := R.mono (e04.trans e5)
      obtain ⟨j, q, v, hj, hq, hqv⟩ := hr2 (by decide) (by decide) (by decide)
      obtain ⟨b, hb1, hb2⟩ := R5.at hq
      have el : s.ldr o = q := by
        unfold S.ldr
        rw [hj]
        exact at_of hq
      refine q_setD R5 ha ho (fun _ _ => ev_var rfl) (y := oV (s.ldr o).ver) ?_ { o with ver := (s.ldr o).ver } rfl fun H6 R6 F6 => ?_
      · rw [el]
        exact ev_oF R5 hb1 hq (ev_op (ev_sF R5 (ev_var rfl)) (ev_oF R5 ha ho (ev_var rfl)) (by rw [hj]; exact rv_ixL (sq_of R5.ol) (L2.at_of (j := j) rfl (by rw [List.getElem?_map, hb1] <;> rfl))))
      · refine fin H6 _ _ R6 (set_at ho) ((Fr.of (e04.trans e5)).trans F6) ?_
        unfold S.doRead S.doTake
        rw [if_neg (by decide), if_neg (by decide), if_neg (by decide)]
    have nt := of_decide_eq_false hb5
    have hwf : w = .fill := by
      rcases hw with h | h | h | h
      · exact absurd h nl
      · exact absurd h nf
      · exact h
      · exact absurd h nt
    subst hwf
    obtain ⟨v, hv⟩ := hr1 rfl
    obtain ⟨hg, htc⟩ := hfi rfl
    have R5 := R.mono (e04.trans e5)
    have hdo : s.doRead i .fill o = (if s.lLets o = true then s.put v else s).endOp i o := by
      unfold S.doRead S.doFill
      rw [if_neg (by decide), if_neg (by decide), if_pos rfl, lLets_eq hg htc, hv]
      rfl
    refine q_when (b := s.lLets o) (et_B (ev_call (sp := spLLets K) (vs := [.ref G.h, .ref a]) (dvs := []) (ea_cons (ev_var rfl) (ea_cons (ev_var rfl) ea_nil)) fun H6 e6 Q' q' E' => ⟨G, s, i, a, o, v, rfl, R5.mono e6, ha, ho, hv, q'⟩)) (fun hb6 H6 e6 => ?_) (fun hb6 H6 e6 => ?_)
    · rw [if_pos hb6] at hdo
      refine s_dcl (vs := [.ref G.h, .int v]) (ea_cons (ev_var rfl) (ea_cons (ev_is (ev_oF (R5.mono e6) ha ho (ev_var rfl)) (show oV o.ver = V.int v by rw [hv] <;> rfl)) ea_nil)) fun H7 e7 => ⟨G, s, v, rfl, (R5.mono e6).mono e7, fun H8 R8 F8 => ?_⟩
      exact fin H8 _ o R8 ho ((Fr.of (e04.trans (e5.trans (e6.trans e7)))).trans F8) hdo.symm
    · rw [hb6, if_neg Bool.false_ne_true] at hdo
      exact fin H6 _ o (R5.mono e6) ho (Fr.of (e04.trans (e5.trans e6))) hdo.symm
end
end K10
end
section
set_option Elab.async false
set_option linter.all false
set_option maxRecDepth 100000
set_option maxHeartbeats 4000000
namespace K10
open PySem PySem.Spec PyProof.Rows L2 Evl
theorem paired_app {α β : Type} {F : α → β → Prop} : ∀ {as cs : List α} {bs ds : List β}, Paired F as bs → Paired F cs ds → Paired F (as ++ cs) (bs ++ ds)
  | _, _, _, _, .nil, h => h
  | _, _, _, _, .cons h r, h2 => .cons h (paired_app r h2)
def EvD (te : TE) (σ : L2.St) (H : Hp) (fs : List (Str × V)) : Prop := ∀ H1, Ex H H1 → ∀ Q : VK, (∀ p H2, H1 p = none → Ex H1 H2 → H2 p = some (.dK (fk fs)) → Q (.ref p) H2) → te σ H1 Q
def EPL (ta : TA) (σ : L2.St) (H : Hp) (gs : List (Str × V)) : Prop := ∀ H1, Ex H H1 → ∀ Q : List V → Hp → Prop, (∀ (ts : List Addr) H2, Ex H1 H2 → Paired (fun t (q : Str × V) => H2 t = some (.tup [.str q.1, q.2])) ts gs → Q (ts.map V.ref) H2) → ta σ H1 Q
section
variable {K : PySem.W.Frag} {H : Hp} {σ : L2.St} {te td : TE} {tr : TA} {f : Str} {v : V} {fs gs hs : List (Str × V)} {d : Addr}
theorem epl_nil : EPL tNil σ H [] := fun H1 e Q q => q [] H1 (Ex.refl _) .nil
theorem epl_cons (h : EvU te σ H [.str f, v]) (hr : EPL tr σ H gs) : EPL (tCons te tr) σ H ((f, v) :: gs) := fun H1 e Q q =>
  h H1 e _ fun p H2 np e2 hp => hr H2 (e.trans e2) _ fun ts H3 e3 h3 => q (p :: ts) H3 (e2.trans e3) (.cons (e3 _ _ hp) h3)
theorem evd_up (h : Ev td σ H (.ref d)) (hd : H d = some (.dK (fk fs))) (hp : EPL tr σ H gs) (hl : fs.length + gs.length ≤ 1000) (hput : putAll [] (fs ++ gs) = hs) : EvD (tCB (rDictP K) (tCons (tOp rCat (LiI.tListItems td) (tLst tr)) tNil)) σ H hs := fun H1 e Q q =>
  h H1 e _ fun H2 e2 => ⟨d, fk fs, rfl, (e.trans e2) _ _ hd, fun H3 p ts e3 np nts pn hp3 hpr => by
    have e3' : Ex H2 H3 := e3
    refine hp H3 (e.trans (e2.trans e3')) _ fun ts2 H4 e4 h4 => ⟨by
      rw [List.length_map, paired_len h4]
      exact sz_of (by omega), fun b nb => ?_⟩
    have e5 : Ex H4 (upd H4 b (.lst (ts2.map V.ref))) := Ex.new nb
    have pb : p ≠ b := ne_of_none (e4 _ _ hp3) nb
    refine ⟨p, b, ts.map V.ref, ts2.map V.ref, rfl, rfl, by rw [upd_ne pb]; exact e4 _ _ hp3, upd_same, ?_, fun c nc => ?_⟩
    · rw [List.length_map, List.length_map, paired_len hpr, paired_len h4]
      unfold fk
      rw [List.length_map]
      exact sz_of (by omega)
    · have e6 : Ex (upd H4 b (.lst (ts2.map V.ref))) (upd (upd H4 b (.lst (ts2.map V.ref))) c (.lst (ts.map V.ref ++ ts2.map V.ref))) := Ex.new nc
      have e36 := e4.trans (e5.trans e6)
      refine ⟨c, ts ++ ts2, fk (fs ++ gs), rfl, by rw [List.map_append]; exact sq_of upd_same, ?_, fun r nr => ?_⟩
      · have h1 : Paired (fun p (kv : Key × V) => SqT K (upd (upd H4 b (.lst (ts2.map V.ref))) c (.lst (ts.map V.ref ++ ts2.map V.ref))) p [kV kv.1, kv.2]) ts (fk fs) := Paired.mapP hpr fun x y hxy => st_of (e36 _ _ hxy)
        have h2 : Paired (fun p (kv : Key × V) => SqT K (upd (upd H4 b (.lst (ts2.map V.ref))) c (.lst (ts.map V.ref ++ ts2.map V.ref))) p [kV kv.1, kv.2]) ts2 (fk gs) := by
          have key : ∀ {us : List Addr} {ls : List (Str × V)}, Paired (fun t (q : Str × V) => H4 t = some (.tup [.str q.1, q.2])) us ls → Paired (fun p (kv : Key × V) => SqT K (upd (upd H4 b (.lst (ts2.map V.ref))) c (.lst (ts.map V.ref ++ ts2.map V.ref))) p [kV kv.1, kv.2]) us (fk ls) := by
            intro us ls hh
            induction hh with
            | nil => exact .nil
            | cons hh _ ih => exact .cons (st_of ((e5.trans e6) _ _ hh)) ih
          exact key h4
        have h3 := paired_app h1 h2
        unfold fk at h3 ⊢
        rw [List.map_append]
        exact h3
      · have e26 := e3'.trans (e4.trans (e5.trans e6))
        refine q r _ (Same.free (e2.trans e26) nr) ((e2.trans e26).trans (Ex.new nr)) ?_
        rw [upd_same, merge_fk0 hput]⟩
end
def LLay.push (G : LLay) (a : Addr) : LLay := { G with os := G.os ++ [a] }
def LLay.pushEv (G : LLay) (a : Addr) : LLay := { G with es := G.es ++ [a] }
structure GrowL (G G' : LLay) (H : Hp) : Prop where
  h : G'.h = G.h
  da : G'.da = G.da
  wa : G'.wa = G.wa
  own : ∀ b ∈ G'.own, b ∈ G.own ∨ H b = none
  os : ∃ t, G'.os = G.os ++ t
section
variable {K : PySem.W.Frag} {H : Hp} {G : LLay} {s : S} {a : Addr} {o : Op} {e : Evt}
theorem LawAt.push (R : LawAt K H G s) (ha : H a = some (.dK (fk (opL o s.ops.length)))) (hn : a ∉ G.own) : LawAt K (upd H G.ol (.lst ((G.os.map V.ref) ++ [V.ref a]))) (G.push a) { s with ops := s.ops ++ [o] } := by
  have ne : ∀ {b : Addr} {u : HO}, H b = some u → (∀ x, u ≠ .lst x) → b ≠ G.ol := fun {b u} h d z => by
    rw [z, R.ol] at h
    exact d _ (Option.some.inj h).symm
  have tp : ∀ {b : Addr} {u : HO}, H b = some u → (∀ x, u ≠ .lst x) → upd H G.ol (.lst ((G.os.map V.ref) ++ [V.ref a])) b = some u := fun {b u} h d => by
    rw [upd_ne (ne h d)]
    exact h
  have olm : G.ol ∈ G.own := List.mem_cons_of_mem _ (List.mem_cons_self ..)
  have hos : a ∉ G.os := fun z => hn (List.mem_cons_of_mem _ (List.mem_cons_of_mem _ (List.mem_cons_of_mem _ z)))
  refine ⟨tp R.h (fun _ z => by cases z), R.tupK olm R.des, R.tupK olm R.wor, ?_, by rw [show (G.push a).pl = G.pl from rfl, upd_ne (Ne.symm R.ne)]; exact R.pl, ?_, fun i b q e1 e2 => ?_, ?_, Paired.mapP R.ev fun x y h => tp h (fun _ z => by cases z), R.ne, ?_⟩
  · show upd H G.ol _ G.ol = some (.lst ((G.os ++ [a]).map V.ref))
    rw [upd_same, List.map_append] <;> rfl
  · show (G.os ++ [a]).length = (s.ops ++ [o]).length
    rw [List.length_append, List.length_append, R.len] <;> rfl
  · have e1 : (G.os ++ [a])[i]? = some b := e1
    have e2 : (s.ops ++ [o])[i]? = some q := e2
    by_cases hi : i < s.ops.length
    · rw [List.getElem?_append_left (by rw [R.len]; exact hi)] at e1
      rw [List.getElem?_append_left hi] at e2
      exact tp (R.op i b q e1 e2) (fun _ z => by cases z)
    · have hi2 : i = s.ops.length := by
        have := (List.getElem?_eq_some_iff.mp e2).1
        rw [List.length_append] at this
        simp at this
        omega
      subst hi2
      rw [List.getElem?_append_right (by rw [R.len]; exact Nat.le_refl _), R.len, Nat.sub_self] at e1
      rw [List.getElem?_append_right (Nat.le_refl _), Nat.sub_self] at e2
      cases e1
      cases e2
      exact tp ha (fun _ z => by cases z)
  · show (G.os ++ [a]).Nodup
    rw [List.nodup_append]
    exact ⟨R.nd, by simp, fun x hx y hy => by
      simp at hy
      subst hy
      exact fun z => hos (z ▸ hx)⟩
  · show G.h ∉ G.os ++ [a]
    intro z
    rcases List.mem_append.mp z with z | z
    · exact R.nh z
    · simp at z
      exact hn (z ▸ List.mem_cons_self ..)
theorem LawAt.pushEv (R : LawAt K H G s) (ha : H a = some (.tup (evEnc e))) : LawAt K (upd H G.pl (.lst ((G.es.map V.ref) ++ [V.ref a]))) (G.pushEv a) (s.addPast e) := by
  have ne : ∀ {b : Addr} {u : HO}, H b = some u → (∀ x, u ≠ .lst x) → b ≠ G.pl := fun {b u} h d z => by
    rw [z, R.pl] at h
    exact d _ (Option.some.inj h).symm
  have tp : ∀ {b : Addr} {u : HO}, H b = some u → (∀ x, u ≠ .lst x) → upd H G.pl (.lst ((G.es.map V.ref) ++ [V.ref a])) b = some u := fun {b u} h d => by
    rw [upd_ne (ne h d)]
    exact h
  have plm : G.pl ∈ G.own := List.mem_cons_of_mem _ (List.mem_cons_of_mem _ (List.mem_cons_self ..))
  refine ⟨tp R.h (fun _ z => by cases z), R.tupK plm R.des, R.tupK plm R.wor, by rw [show (G.pushEv a).ol = G.ol from rfl, upd_ne R.ne]; exact R.ol, ?_, R.len, fun i b q e1 e2 => tp (R.op i b q e1 e2) (fun _ z => by cases z), R.nd, ?_, R.ne, R.nh⟩
  · show upd H G.pl _ G.pl = some (.lst ((G.es ++ [a]).map V.ref))
    rw [upd_same, List.map_append] <;> rfl
  · show Paired _ (G.es ++ [a]) (s.past ++ [e])
    exact paired_app (Paired.mapP R.ev fun x y h => tp h (fun _ z => by cases z)) (.cons (tp ha (fun _ z => by cases z)) .nil)
end
end K10
end
section
set_option Elab.async false
set_option linter.all false
set_option maxRecDepth 100000
set_option maxHeartbeats 4000000
namespace K10
open PySem PySem.Spec PyProof.Rows L2 Evl
theorem GrowL.refl (G : LLay) (H : Hp) : GrowL G G H := ⟨rfl, rfl, rfl, fun _ h => .inl h, [], (List.append_nil _).symm⟩
theorem Fr.growL {G G1 : LLay} {H H1 H2 : Hp} (F : Fr G.own H H1) (g : GrowL G G1 H) (F2 : Fr G1.own H1 H2) : Fr G.own H H2 := fun b o e n => F2 b o (F b o e n) fun z => by
  rcases g.own b z with z | z
  · exact n z
  · rw [e] at z
    cases z
section
variable {K : PySem.W.Frag} {H : Hp} {σ : L2.St} {te : TE} {tr : TA} {f : Str} {v : V} {fs gs hs : List (Str × V)} {D : Ends} {tz : TS}
inductive EvPs (σ : L2.St) (H : Hp) : List (TE × TE) → List (Str × V) → Prop
  | nil : EvPs σ H [] []
  | cons {f : Str} {te : TE} {v : V} {r : List (TE × TE)} {gs : List (Str × V)} : Ev te σ H v → EvPs σ H r gs → EvPs σ H ((tC (.str f), te) :: r) ((f, v) :: gs)
theorem tp_all {trs : List (TE × TE)} (h : EvPs σ H trs gs) : ∀ H1, Ex H H1 → ∀ Q : List (V × V) → Hp → Prop, (∀ H2, Ex H1 H2 → Q (gs.map fun q => (.str q.1, q.2)) H2) → tPairs trs σ H1 Q := by
  induction h with
  | nil => exact fun H1 e Q q => tp_nil (q H1 (Ex.refl _))
  | cons h _ ih => exact fun H1 e Q q => tp_str (h.mono e) fun H2 e2 => ih H2 (e.trans e2) _ fun H3 e3 => q H3 (e2.trans e3)
theorem evd_disp {trs : List (TE × TE)} (h : EvPs σ H trs gs) (hl : gs.length ≤ 15) (hput : putAll [] gs = hs) : EvD (tDisp trs) σ H hs := fun H1 e Q q p np =>
  tp_all h (upd H1 p (.dK [])) (e.trans (Ex.new np)) _ fun H2 e2 => tp_end (e2 _ _ upd_same) hl hput rfl (q p _ np ((Ex.new np |>.trans e2).mut np) upd_same)
theorem q_asgD {i : Nat} (h : EvD te σ H fs) (k : ∀ p H1, H p = none → Ex H H1 → H1 p = some (.dK (fk fs)) → tz D (σ.set i (some (.ref p))) H1) : tSeq (tAsg te (gName i)) tz D σ H := h H (Ex.refl _) _ k
theorem s_appD {l : Addr} {xs : List V} {ta : TE} (hl : H l = some (.lst xs)) (ha : Ev ta σ H (.ref l)) (h : EvD te σ H fs) (hz : xs.length < 100000) (k : ∀ p H1, H p = none → Ex H H1 → H1 p = some (.dK (fk fs)) → D.nx σ (upd H1 l (.lst (xs ++ [.ref p])))) : tDrop (tBM K "list" rAppend ta (tCons te tNil)) D σ H :=
  s_appG ha hl fun H1 e1 => h H1 e1 _ fun p H2 np e2 hp => ⟨xs, (e1.trans e2) _ _ hl, sz_lt hz, k p H2 (Same.free e1 np) (e1.trans e2) hp⟩
end
theorem pushEv_own (G : LLay) (a : Addr) : (G.pushEv a).own = G.own := rfl
section
variable {P : Program} {w : World} {base h0 : Heap} {K : PySem.W.Frag} {mg : Str → Option Value}
def spLDo (K : PySem.W.Frag) : Sp := fun vs H Q _ => ∃ (G : LLay) (s : S) (a : Addr) (e : Evt), vs = [.ref G.h, .ref a] ∧ LawAt K H G s ∧ H a = some (.tup (evEnc e)) ∧ s.ops.length ≤ 900 ∧ s.past.length ≤ 900 ∧ levOk s e ∧
  ∀ G' H', LawAt K H' G' (s.doEv e) → GrowL G G' H → Fr G.own H H' → Q .non H'
theorem rv_eqE {H : Hp} {a b : Addr} {e d : Evt} (ha : SqT K H a (evEnc e)) (hb : SqT K H b (evEnc d)) : ∀ H1, Ex H H1 → ∀ Q : VK, Q (.bl (decide (e = d))) H1 → rEqD K (.ref a) (.ref b) H1 Q := fun H1 x Q q =>
  ⟨evData e, evData d, dp_ev K (ex_t x ha), dp_ev K (ex_t x hb), ev_shaped e, ev_shaped d, by rw [ev_eqv]; exact q⟩
theorem ev_eqE {H : Hp} {σ : L2.St} {ta tb : TE} {a : Addr} {e d : Evt} (h : Ev ta σ H (.ref a)) (ha : SqT K H a (evEnc e)) (hb : EvU tb σ H (evEnc d)) : Ev (tOp (rEqD K) ta tb) σ H (.bl (decide (e = d))) := fun H1 x Q q =>
  h H1 x _ fun H2 x2 => hb H2 (x.trans x2) _ fun b H3 nb x3 h3 => rv_eqE (ex_t ((x.trans x2).trans x3) ha) (st_of h3) H3 (Ex.refl _) _ (q H3 (x2.trans x3))
theorem sc_L_do : FnScope ["_law_h", "_law_event", "_law_one", "_law_word_here", "_law_number", "_law_kind"] ["_law_h", "_law_event"] (defScope s_L_do) := ⟨rfl, rfl, rfl, by decide +kernel, rfl, by decide +kernel, by decide +kernel⟩
theorem ok_L_do (T : Txt h0 K mg) : FnOk P w K mg base CX0 4 (He.ga K "_law_do") (fdOf K (He.ga K "_law_do")) ["_law_h", "_law_event"] (spLDo K) := by
  refine FnOk.mono (j := 4) ((T.fn_L_do).ok sc_L_do (fun vs H Q E h => ?_) (fun cdv A outer st0 H vs Q E hr h => ?_)) (by decide)
  · obtain ⟨G, s, a, e, rfl, _⟩ := h
    rfl
  · obtain ⟨G, s, a, e, rfl, R, hae, hlo, hlp, hok, k⟩ := h
    refine ⟨_, PSs.nox ((pss_cons (ps_if (pt_cmpR (op_eqDK K hr.units) (pv 1) (pe_tup (pa_cons pe_str pa_nil)) (nomark _)) (pss_one (ps_asg (pe_tup (pa_cons pe_non (pa_cons pe_int pa_nil))) (pg_tupK K (pgs_cons (pg_sub (pv 0) pe_str (set_dict (hu_of hr))) (pgs_cons (pg_sub (pv 0) pe_str (set_dict (hu_of hr))) pgs_nil))))) (pss_one (ps_if (pt_cmpR (op_eqDK K hr.units) (pv 1) (pe_tup (pa_cons pe_str pa_nil)) (nomark _)) (pss_one (ps_dput (hu_of hr) (pv 0) pe_str (pe_op op_add (pe_dget (hu_of hr) (pv 0) pe_str (fun _ _ => rfl)) pe_int) rfl)) (pss_cons (ps_asg (pv 1) (pg_tupK K (pgs_cons (pg_name (i := 3) sc_L_do.nd rfl (Or.inl rfl)) (pgs_cons (pg_name (i := 4) sc_L_do.nd rfl (Or.inl rfl)) pgs_nil))))
      (pss_cons (ps_if (pt_cmpR op_eq (pv 4) (pe_callB (call_lenK K) (by rfl) T.f_len (by decide +kernel) (pa_cons (pe_dget (hu_of hr) (pv 0) pe_str (fun _ _ => rfl)) pa_nil)) (nomark _)) (pss_cons (ps_set (i := 5) sc_L_do.nd rfl (Or.inl rfl) (pe_ifExp (pt_cmpR op_eq (pv 3) pe_str (nomark _)) pe_str pe_str))
      (pss_cons (ps_set (i := 2) sc_L_do.nd rfl (Or.inl rfl) (pe_disp (pps_cons pe_str (pv 4) (pps_cons pe_str (pv 5) (pps_cons pe_str (pv 3) (pps_cons pe_str pe_non (pps_cons pe_str (pe_callB (call_lenK K) (by rfl) T.f_len (by decide +kernel) (pa_cons (pe_dget (hu_of hr) (pv 0) pe_str (fun _ _ => rfl)) pa_nil)) (pps_cons pe_str pe_non pps_nil)))))) (by rfl) (by rfl) (fun z => by cases z) (by decide)))
      (pss_one (ps_expr (pe_appK K (pe_dget (hu_of hr) (pv 0) pe_str (fun _ _ => rfl)) (pe_callTy (call_dictK K) (by rfl) T.f_dict (by decide +kernel) (pa_cons (pe_op op_cat (LiI.pe_listItems (by rfl) (pv 2) (by rfl) T.f_list (by decide +kernel)) (pe_lst (pa_cons (pe_tup (pa_cons pe_str (pa_cons pe_int pa_nil))) (pa_cons (pe_tup (pa_cons pe_str (pa_cons pe_bl pa_nil))) (pa_cons (pe_tup (pa_cons pe_str (pa_cons pe_non pa_nil))) pa_nil))))) pa_nil))))))) pss_nil)
      (pss_cons (ps_set (i := 2) sc_L_do.nd rfl (Or.inl rfl) (pe_ix (ix_listK K) (pe_dget (hu_of hr) (pv 0) pe_str (fun _ _ => rfl)) (pv 4) (fun _ _ => rfl)))
      (pss_one (ps_if (pt_cmpR op_eq (pv 3) pe_str (nomark _)) (pss_one (ps_expr (pe_call (ok_L_end T) (hr.mono (by decide)) rfl T.g__law_end T.k_L_end T.b_L_end .nil pass0 (pa_cons (pv 0) (pa_cons (pv 2) (pa_cons pe_str pa_nil)))))) (pss_one (ps_if (pt_cmpR op_eq (pe_dget (hu_of hr) (pv 2) pe_str (fun _ _ => rfl)) pe_str (nomark _)) (pss_one (ps_expr (pe_call (ok_L_write T) (hr.mono (by decide)) rfl T.g__law_write T.k_L_write T.b_L_write .nil pass0 (pa_cons (pv 0) (pa_cons (pv 2) (pa_cons (pv 3) pa_nil)))))) (pss_one (ps_expr (pe_call (ok_L_read T) (hr.mono (by decide)) rfl T.g__law_read T.k_L_read T.b_L_read .nil pass0 (pa_cons (pv 0) (pa_cons (pv 2) (pa_cons (pv 3) pa_nil))))))))))))))))
      (pss_one (ps_expr (pe_appK K (pe_dget (hu_of hr) (pv 0) pe_str (fun _ _ => rfl)) (pv 1)))))), ?_⟩
    have fin : ∀ (H2 : Hp) (G2 : LLay) (s2 : S) (x2 x3 x4 x5 : Option V), LawAt K H2 G2 s2 → LawAt K H2 G2 (s.doCore e) → (s.doCore e).past.length ≤ 900 → GrowL G G2 H → Fr G.own H H2 →
        tDrop (tBM K "list" rAppend (tDGet (tVar 0) (tC (.str "past"))) (tCons (tVar 1) tNil)) { nx := fun _ H' => Q .non H', rt := Q } [some (.ref G.h), some (.ref a), x2, x3, x4, x5] H2 := by
      intro H2 G2 s2 x2 x3 x4 x5 _ R2 hl2 g2 F2
      have hlen : (G2.es.map V.ref).length = (s.doCore e).past.length := by rw [List.length_map]; exact paired_len R2.ev
      have han : a ∉ G.own := fun z => (R.own_not z).2.1 _ hae
      refine s_app (xs := G2.es.map V.ref) R2.pl (ev_sF R2 (ev_is (ev_var rfl) (by rw [g2.h]))) (ev_var rfl) (by rw [hlen]; omega) fun H3 e3 => ?_
      have R3 := (R2.mono e3).pushEv (e := e) (a := a) (e3 _ _ (F2 _ _ hae han))
      refine k (G2.pushEv a) _ R3 ⟨g2.h, g2.da, g2.wa, fun b hb => g2.own b hb, g2.os⟩ (F2.growL g2 ((Fr.of e3).trans (Fr.upd (List.mem_cons_of_mem _ (List.mem_cons_of_mem _ (List.mem_cons_self ..))))))
    have eqs : ∀ {H1 : Hp} (d : Evt) (te : TE), Ex H H1 → EvU te [some (.ref G.h), some (.ref a), none, none, none, none] H1 (evEnc d) → EvT (tTest (tOp (rEqD K) (tVar 1) te)) [some (.ref G.h), some (.ref a), none, none, none, none] H1 (decide (e = d)) := fun {H1} d te x h => et_test (ev_eqE (ev_var rfl) (st_of (x _ _ hae)) h)
    refine q_if (eqs .evict _ (Ex.refl _) (eu_tup (ea_cons ev_c ea_nil) (by show 1 ≤ 100000; decide))) (fun hb H1 e1 => ?_) (fun hb H1 e1 => ?_)
    · have hb := of_decide_eq_true hb
      subst hb
      refine s_asg2 (x := .non) (y := .int 0) (ea_cons ev_c (ea_cons ev_c ea_nil)) fun H2 e2 => ?_
      have R2 := R.mono (e1.trans e2)
      refine g_setH R2 (ev_var rfl) { s with cache := none } rfl fun H3 R3 F3 => ?_
      show gSub _ _ _ _ _ _ _
      refine g_setH R3 (ev_var rfl) { s with cache := none, mark := 0 } rfl fun H4 R4 F4 => ?_
      exact fin H4 G _ none none none none R4 (R4.as rfl rfl rfl rfl fun i p q h1 h2 => by
        have h2 : s.ops[i]? = some q := h2
        rw [show s.ops[i]? = some p from h1] at h2
        cases h2
        rfl) hlp (GrowL.refl G H) ((Fr.of (e1.trans e2)).trans (F3.trans F4))
    have n1 := of_decide_eq_false hb
    refine s_if (eqs .copy _ e1 (eu_tup (ea_cons ev_c ea_nil) (by show 1 ≤ 100000; decide))) (fun hb H2 e2 => ?_) (fun hb H2 e2 => ?_)
    · have hb := of_decide_eq_true hb
      subst hb
      have R2 := R.mono (e1.trans e2)
      refine s_setH R2 (fun _ _ => ev_var rfl) (ev_op (ev_sF R2 (ev_var rfl)) ev_c rv_I0) { s with rep := s.rep + 1 } rfl fun H4 R4 F4 => ?_
      exact fin H4 G _ none none none none R4 (R4.as rfl rfl rfl rfl fun i p q h1 h2 => by
        have h2 : s.ops[i]? = some q := h2
        rw [show s.ops[i]? = some p from h1] at h2
        cases h2
        rfl) hlp (GrowL.refl G H) ((Fr.of (e1.trans e2)).trans F4)
    have n2 := of_decide_eq_false hb
    cases e with
    | evict => exact absurd rfl n1
    | copy => exact absurd rfl n2
    | op wd n =>
      have e02 := e1.trans e2
      have R2 : LawAt K H2 G { s with last := none } := (R.mono e02).as rfl rfl rfl rfl fun i p q h1 h2 => by
        have h2 : s.ops[i]? = some q := h2
        rw [h1] at h2
        cases h2
        rfl
      obtain ⟨hlt, hfst, hstep⟩ : lstepOk { s with last := none } wd n := hok
      have hcore : s.doCore (.op wd n) = ({ s with last := none } : S).doStep wd n := rfl
      refine q_unp2 (x := .str wd.str) (y := .int (n : Int)) (fun Q q => (ev_var (v := .ref a) rfl : Ev (tVar 1) _ _ _) H2 (Ex.refl _) Q fun H3 e3 => q a H3 e3 (st_of (e3 _ _ (e02 _ _ hae)))) fun H3 e3 => ?_
      have R3 := R2.mono e3
      have e03 := e02.trans e3
      have rest : ∀ {D' : Ends} (H4 : Hp) (G4 : LLay) (x2 x5 : Option V), LawAt K H4 G4 (({ s with last := none } : S).begun wd n) → GrowL G G4 H → Fr G.own H H4 → (({ s with last := none } : S).begun wd n).ops.length ≤ 1000 →
          (∀ H5 x2 x5, LawAt K H5 G4 (s.doCore (.op wd n)) → Fr G.own H H5 → D'.nx [some (.ref G.h), some (.ref a), x2, some (.str wd.str), some (.int (n : Int)), x5] H5) →
          tSeq (tAsg (tOp (rIxL K) (tDGet (tVar 0) (tC (.str "ops"))) (tVar 4)) (gName 2))
            (tIfS (tTest (tOp rEq (tVar 3) (tC (.str "stop")))) (tDrop (tCall (spLEnd K) [] E0 (tCons (tVar 0) (tCons (tVar 2) (tCons (tC (.str "stopped")) tNil)))))
              (tIfS (tTest (tOp rEq (tDGet (tVar 2) (tC (.str "kind"))) (tC (.str "write")))) (tDrop (tCall (spLWrite K) [] E0 (tCons (tVar 0) (tCons (tVar 2) (tCons (tVar 3) tNil))))) (tDrop (tCall (spLRead K) [] E0 (tCons (tVar 0) (tCons (tVar 2) (tCons (tVar 3) tNil)))))))
            D' [some (.ref G.h), some (.ref a), x2, some (.str wd.str), some (.int (n : Int)), x5] H4 := by
        intro D' H4 G4 x2 x5 R4 g4 F4 hl4 kD
        have hon : (({ s with last := none } : S).begun wd n).ops[n]? = some ((({ s with last := none } : S).begun wd n).at n) := ops_at hlt
        obtain ⟨b, hb1, hb2⟩ := R4.at hon
        have ownF : ∀ {H5 H6 : Hp}, Fr G.own H H5 → Fr G4.own H5 H6 → Fr G.own H H6 := fun {H5 H6} F5 F6 => F5.growL g4 F6
        refine q_asg (v := .ref b) (ev_op (ev_sF R4 (ev_is (ev_var rfl) (by rw [g4.h]))) (ev_var rfl) (rv_ixL (sq_of R4.ol) (L2.at_of (j := n) rfl (by rw [List.getElem?_map, hb1] <;> rfl)))) fun H5 e5 => ?_
        have R5 := R4.mono e5
        refine s_if (b := decide (wd = .stop)) (et_test (ev_w (ev_var rfl) rfl)) (fun hs H6 e6 => ?_) (fun hs H6 e6 => ?_)
        · have hs := of_decide_eq_true hs
          subst hs
          refine s_dcl (vs := [.ref G.h, .ref b, .str Wd.stopped.str]) (ea_cons (ev_var rfl) (ea_cons (ev_var rfl) (ea_cons ev_c ea_nil))) fun H7 e7 => ⟨G4, _, n, b, _, .stopped, by rw [g4.h] <;> rfl, .inr rfl, (R5.mono e6).mono e7, hb1, hon, fun H8 R8 F8 => ?_⟩
          rw [if_neg (by decide)] at R8
          refine kD H8 _ _ ?_ (ownF (F4.trans (Fr.of (e5.trans (e6.trans e7)))) F8)
          rw [hcore]
          unfold S.doStep
          rw [if_pos rfl]
          exact R8
        have ns := of_decide_eq_false hs
        have hstep := hstep.resolve_left ns
        have R6 := R5.mono e6
        refine s_if (et_test (ev_lkindW R6 hb1 hon (ev_var rfl))) (fun hw H7 e7 => ?_) (fun hw H7 e7 => ?_)
        · refine s_dcl (vs := [.ref G.h, .ref b, .str wd.str]) (ea_cons (ev_var rfl) (ea_cons (ev_var rfl) (ea_cons (ev_var rfl) ea_nil))) fun H8 e8 => ⟨G4, _, n, b, _, wd, by rw [g4.h] <;> rfl, (R6.mono e7).mono e8, hb1, hon, hstep.1 hw, hl4, fun H9 R9 F9 => ?_⟩
          refine kD H9 _ _ ?_ (ownF (F4.trans (Fr.of (e5.trans (e6.trans (e7.trans e8))))) F9)
          rw [hcore]
          unfold S.doStep
          rw [if_neg ns, if_pos hw]
          exact R9
        · refine s_dcl (vs := [.ref G.h, .ref b, .str wd.str]) (ea_cons (ev_var rfl) (ea_cons (ev_var rfl) (ea_cons (ev_var rfl) ea_nil))) fun H8 e8 => ⟨G4, _, n, b, _, wd, by rw [g4.h] <;> rfl, (R6.mono e7).mono e8, hb1, hon, hstep.2 hw, fun H9 R9 F9 => ?_⟩
          refine kD H9 _ _ ?_ (ownF (F4.trans (Fr.of (e5.trans (e6.trans (e7.trans e8))))) F9)
          rw [hcore]
          unfold S.doStep
          rw [if_neg ns, if_neg (by rw [hw]; decide)]
          exact R9
      have hcp : (s.doCore (.op wd n)).past.length ≤ 900 := by
        have h1 := congrArg List.length (doEv_past s (.op wd n))
        have h2 : (s.doEv (.op wd n)).past = (s.doCore (.op wd n)).past ++ [.op wd n] := rfl
        rw [h2, List.length_append, List.length_append] at h1
        have h3 : ([Evt.op wd n] : List Evt).length = 1 := rfl
        omega
      refine q_if (b := decide (n = s.ops.length)) (et_test (ev_is (ev_op (ev_var rfl) (ev_is (ev_len (ev_sF R3 (ev_var rfl)) (sq_of R3.ol)) (by rw [List.length_map, R3.len])) (rv_eq rfl)) (congrArg V.bl (int_is n s.ops.length)))) (fun hb H4 e4 => ?_) (fun hb H4 e4 => ?_)
      · have hb := of_decide_eq_true hb
        have hfst := hfst hb
        refine q_asg (v := .str (kindS (decide (wd ≠ .look)))) (ev_if (et_test (ev_w (ev_var rfl) rfl (w3 := .look))) (fun h => ?_) fun h => ?_) fun H5 e5 => ?_
        · rw [of_decide_eq_true h]
          exact ev_c
        · have h := of_decide_eq_false h
          rw [decide_eq_true h]
          exact ev_c
        have R5 := (R3.mono e4).mono e5
        refine q_asgD (fs := [("number", .int (n : Int)), ("kind", .str (kindS (decide (wd ≠ .look)))), ("stage", .str wd.str), ("version", .non), ("begun", .int s.now), ("over", .non)])
          (evd_disp (.cons (ev_var rfl) (.cons (ev_var rfl) (.cons (ev_var rfl) (.cons ev_c (.cons (ev_is (ev_len (ev_sF R5 (ev_var rfl)) (sq_of R5.pl)) (congrArg V.int R5.now)) (.cons ev_c .nil)))))) (by show 6 ≤ 15; decide) rfl) fun d H6 nd e6 hd => ?_
        have R6 := R5.mono e6
        let s0 : S := { s with last := none }
        have hnew : opL (s0.newOp (decide (wd ≠ .look))) s0.ops.length = putAll [] (([("number", .int (n : Int)), ("kind", .str (kindS (decide (wd ≠ .look)))), ("stage", .str wd.str), ("version", .non), ("begun", .int s.now), ("over", .non)] : List (Str × V)) ++ ([("step", .int 0), ("clean", .bl true), ("leader", .non)] : List (Str × V))) := by
          rw [hb]
          have hst : (s0.newOp (decide (wd ≠ .look))).stage = wd := by
            unfold S.newOp
            by_cases hl : wd = .look
            · subst hl
              rfl
            · rw [decide_eq_true hl]
              rcases hfst with h | h
              · exact absurd h hl
              · exact h.symm
          show opL _ s.ops.length = _
          have : opL (s0.newOp (decide (wd ≠ .look))) s.ops.length = ([("number", .int (s.ops.length : Int)), ("kind", .str (kindS (decide (wd ≠ .look)))), ("stage", .str (s0.newOp (decide (wd ≠ .look))).stage.str), ("version", .non), ("begun", .int s.now), ("over", .non), ("step", .int 0), ("clean", .bl true), ("leader", .non)] : List (Str × V)) := rfl
          rw [this, hst]
          rfl
        refine s_appD (xs := G.os.map V.ref) R6.ol (ev_sF R6 (ev_var rfl)) (evd_up (ev_var rfl) hd (epl_cons (eu_tup (ea_cons ev_c (ea_cons ev_c ea_nil)) (by show 2 ≤ 100000; decide)) (epl_cons (eu_tup (ea_cons ev_c (ea_cons ev_c ea_nil)) (by show 2 ≤ 100000; decide)) (epl_cons (eu_tup (ea_cons ev_c (ea_cons ev_c ea_nil)) (by show 2 ≤ 100000; decide)) epl_nil))) (by show 6 + 3 ≤ 1000; decide) hnew.symm) (by rw [List.length_map, R6.len]; show s.ops.length < 100000; omega) fun q H7 nq e7 hq => ?_
        have R7 := R6.mono e7
        have e37 := e4.trans (e5.trans (e6.trans e7))
        have nqH : H q = none := Same.free (e03.trans (e4.trans (e5.trans e6))) nq
        have nqG : q ∉ G.own := fun z => by
          obtain ⟨⟨u, hu⟩, _⟩ := R.own_not z
          rw [hu] at nqH
          cases nqH
        have R8 := R7.push (o := s0.newOp (decide (wd ≠ .look))) hq nqG
        have Rb : LawAt K (upd H7 G.ol (.lst ((G.os.map V.ref) ++ [V.ref q]))) (G.push q) (s0.begun wd n) := by
          have hbe : s0.begun wd n = s0.begin (decide (wd ≠ .look)) := by
            unfold S.begun
            rw [if_pos hb]
          rw [hbe]
          refine R8.as rfl rfl ?_ rfl fun i p u h1 h2 => ?_
          · show ((if _ then _ else _) ++ [_]).length = (s0.ops ++ [_]).length
            rw [List.length_append, List.length_append]
            split
            · rw [List.length_map]
            · rfl
          · have h1 : (s0.ops ++ [s0.newOp (decide (wd ≠ .look))])[i]? = some p := h1
            have h2 : ((if decide (wd ≠ .look) = true then s0.ops.map Op.hush else s0.ops) ++ [s0.newOp (decide (wd ≠ .look))])[i]? = some u := h2
            by_cases hi : i < s0.ops.length
            · rw [List.getElem?_append_left hi] at h1
              rw [List.getElem?_append_left (by
                split
                · rw [List.length_map]
                  exact hi
                · exact hi)] at h2
              split at h2
              · rw [List.getElem?_map, h1] at h2
                cases h2
                show opL (Op.hush p) i = opL p i
                unfold Op.hush
                split <;> rfl
              · rw [h1] at h2
                cases h2
                rfl
            · have e1 : (if decide (wd ≠ .look) = true then s0.ops.map Op.hush else s0.ops).length = s0.ops.length := by
                split
                · rw [List.length_map]
                · rfl
              rw [List.getElem?_append_right (by omega)] at h1
              rw [List.getElem?_append_right (by omega), e1, h1] at h2
              cases h2
              rfl
        have g8 : GrowL G (G.push q) H := ⟨rfl, rfl, rfl, fun b hb => by
          have hb : b ∈ G.h :: G.ol :: G.pl :: (G.os ++ [q]) := hb
          simp only [List.mem_cons, List.mem_append, List.mem_singleton, List.not_mem_nil, or_false] at hb
          rcases hb with rfl | rfl | rfl | hb | rfl
          · exact .inl (List.mem_cons_self ..)
          · exact .inl (List.mem_cons_of_mem _ (List.mem_cons_self ..))
          · exact .inl (List.mem_cons_of_mem _ (List.mem_cons_of_mem _ (List.mem_cons_self ..)))
          · exact .inl (List.mem_cons_of_mem _ (List.mem_cons_of_mem _ (List.mem_cons_of_mem _ hb)))
          · exact .inr nqH, [q], rfl⟩
        have F8 : Fr G.own H (upd H7 G.ol (.lst ((G.os.map V.ref) ++ [V.ref q]))) := (Fr.of (e03.trans e37)).trans (Fr.upd (List.mem_cons_of_mem _ (List.mem_cons_self ..)))
        exact rest _ _ _ _ Rb g8 F8 (Nat.le_trans (begun_len s0 wd n) (by show s.ops.length + 1 ≤ 1000; omega)) fun H9 y2 y5 R9 F9 => fin H9 _ _ _ _ _ _ R9 R9 hcp g8 F9
      · have hb := of_decide_eq_false hb
        have hbe : ({ s with last := none } : S).begun wd n = { s with last := none } := by
          unfold S.begun
          rw [if_neg hb]
        refine rest H4 G _ _ (by rw [hbe]; exact R3.mono e4) (GrowL.refl G H) (Fr.of (e03.trans e4)) (by rw [hbe]; show s.ops.length ≤ 1000; omega) fun H9 y2 y5 R9 F9 => fin H9 G _ _ _ _ _ R9 R9 hcp (GrowL.refl G H) F9
end
end K10
end
section
set_option Elab.async false
set_option linter.all false
set_option maxRecDepth 100000
set_option maxHeartbeats 4000000
namespace K10
open PySem PySem.Spec PyProof.Rows L2 Evl
theorem lrunOk_take {s : S} : ∀ {es : List Evt} {i : Nat} {e : Evt}, lrunOk s es → es[i]? = some e → levOk (s.run (es.take i)) e
  | [], _, _, _, h => by simp at h
  | x :: r, 0, e, h, hi => by
    simp at hi
    subst hi
    exact h.1
  | x :: r, i + 1, e, h, hi => lrunOk_take (s := s.doEv x) h.2 (by simpa using hi)
def refsA (G : LLay) (l : List Nat) : List V := l.map fun i => V.ref (G.os.getD i 0)
theorem refsA_at {G : LLay} {s : S} {K : PySem.W.Frag} {H : Hp} {l : List Nat} {j : Nat} {x : V} (R : LawAt K H G s) (hl : ∀ i ∈ l, i < s.ops.length) (h : (refsA G l)[j]? = some x) : ∃ i a, l[j]? = some i ∧ x = .ref a ∧ G.os[i]? = some a ∧ s.ops[i]? = some (s.at i) := by
  unfold refsA at h
  rw [List.getElem?_map] at h
  cases e : l[j]? with
  | none =>
    rw [e] at h
    cases h
  | some i =>
    rw [e] at h
    have hi := hl i (List.mem_of_getElem? e)
    have hi2 : i < G.os.length := by rw [R.len]; exact hi
    refine ⟨i, G.os[i], rfl, ?_, List.getElem?_eq_getElem hi2, ops_at hi⟩
    rw [← Option.some.inj h]
    show V.ref (G.os.getD i 0) = _
    rw [List.getD_eq_getElem?_getD, List.getElem?_eq_getElem hi2] <;> rfl
theorem idxs_gos (s : S) : gos s = idxs s Op.going := rfl
theorem range_flatG {β : Type} (l : List Nat) (f : Nat → Bool) (e : Nat → β) : ((List.range l.length).filter fun j => f (l.getD j 0)).map (fun j => e (l.getD j 0)) = (l.filter f).map e := range_flat l f e
section
variable {K : PySem.W.Frag} {H : Hp} {σ : L2.St} {te tl : TE} {t : TT} {G : LLay} {s : S} {j : Nat} {vs : List Nat}
theorem el_ops (R : LawAt K H G s) (h : Ev tl σ H (.ref G.h)) (hz : s.ops.length ≤ 40000) (q : Op → Bool) (hw : ∀ x, wipe ((wipe σ vs).set j (some x)) vs = wipe σ vs)
    (ht : ∀ i a H1, Ex H H1 → G.os[i]? = some a → s.ops[i]? = some (s.at i) → EvT t ((wipe σ vs).set j (some (.ref a))) H1 (q (s.at i))) (hv : ∀ (x : V) H1, Ev te ((wipe σ vs).set j (some x)) H1 x) :
    EvL (tLc (iList K (tDGet tl (tC (.str "ops")))) (gName j) t te vs) σ H (refsA G (idxs s q)) := by
  have hlen : (G.os.map V.ref).length = s.ops.length := by rw [List.length_map, R.len]
  have key := el_lcL (K := K) (te := te) (t := t) (tl := tDGet tl (tC (.str "ops"))) (vs := vs) (j := j) (σ := σ) (H := H) (xs := G.os.map V.ref) (fun i => q (s.at i)) (fun i => V.ref (G.os.getD i 0)) (ev_sF R h) (sq_of R.ol) (by rw [hlen]; exact hz) hw
    (fun i x H1 e hx => by
      obtain ⟨a, ha, rfl, ho⟩ := R.ol_at hx
      exact ht i a H1 e ha ho)
    (fun i x H1 e hx hf => by
      obtain ⟨a, ha, rfl, ho⟩ := R.ol_at hx
      rw [List.getD_eq_getElem?_getD, ha]
      exact hv _ _)
  rw [hlen] at key
  exact key
theorem el_refs {p : Addr} {l : List Nat} (R : LawAt K H G s) (hl : ∀ i ∈ l, i < s.ops.length) (h : Ev tl σ H (.ref p)) (hp : H p = some (.lst (refsA G l))) (hz : l.length ≤ 40000) (q : Nat → Bool) (v : Nat → V) (hw : ∀ x, wipe ((wipe σ vs).set j (some x)) vs = wipe σ vs)
    (ht : ∀ i a H1, Ex H H1 → i ∈ l → G.os[i]? = some a → s.ops[i]? = some (s.at i) → EvT t ((wipe σ vs).set j (some (.ref a))) H1 (q i)) (hv : ∀ i a H1, Ex H H1 → i ∈ l → q i = true → G.os[i]? = some a → s.ops[i]? = some (s.at i) → Ev te ((wipe σ vs).set j (some (.ref a))) H1 (v i)) :
    EvL (tLc (iList K tl) (gName j) t te vs) σ H ((l.filter q).map v) := by
  have hlen : (refsA G l).length = l.length := by unfold refsA; rw [List.length_map]
  have key := el_lcL (K := K) (te := te) (t := t) (tl := tl) (vs := vs) (j := j) (σ := σ) (H := H) (xs := refsA G l) (fun k => q (l.getD k 0)) (fun k => v (l.getD k 0)) h (sq_of hp) (by rw [hlen]; exact hz) hw
    (fun k x H1 e hx => by
      obtain ⟨i, a, hk, rfl, ha, ho⟩ := refsA_at R hl hx
      have ek : l.getD k 0 = i := by rw [List.getD_eq_getElem?_getD, hk] <;> rfl
      rw [ek]
      exact ht i a H1 e (List.mem_of_getElem? hk) ha ho)
    (fun k x H1 e hx hf => by
      obtain ⟨i, a, hk, rfl, ha, ho⟩ := refsA_at R hl hx
      have ek : l.getD k 0 = i := by rw [List.getD_eq_getElem?_getD, hk] <;> rfl
      rw [ek] at hf ⊢
      exact hv i a H1 e (List.mem_of_getElem? hk) hf ha ho)
  rw [hlen] at key
  have e : given l.length (fun k => q (l.getD k 0)) (fun k => v (l.getD k 0)) = (l.filter q).map v := range_flat l q v
  rw [e] at key
  exact key
theorem ev_eqNil {xs : List V} {ta : TE} (h : EvL ta σ H xs) : Ev (tOp (rEqN K) ta (tLst tNil)) σ H (.bl xs.isEmpty) := ev_opLL h (el_lst ea_nil (by show 0 ≤ 100000; decide)) fun p q H1 hp hq e1 H2 e2 Q k => ⟨p, q, xs, rfl, rfl, sq_of (e2 _ _ hp), sq_of (e2 _ _ hq), k H2 (Ex.refl _)⟩
theorem ev_neNil {xs : List V} {ta : TE} (h : EvL ta σ H xs) : Ev (tOp (rNeN K) ta (tLst tNil)) σ H (.bl (!xs.isEmpty)) := ev_opLL h (el_lst ea_nil (by show 0 ≤ 100000; decide)) fun p q H1 hp hq e1 H2 e2 Q k => ⟨p, q, xs, rfl, rfl, sq_of (e2 _ _ hp), sq_of (e2 _ _ hq), k H2 (Ex.refl _)⟩
theorem ev_eqNilV {xs : List V} {ta : TE} {p : Addr} (h : Ev ta σ H (.ref p)) (hp : SqL K H p xs) : Ev (tOp (rEqN K) ta (tLst tNil)) σ H (.bl xs.isEmpty) := ev_opL h (el_lst ea_nil (by show 0 ≤ 100000; decide)) fun q H1 hq e1 H2 e2 Q k => ⟨p, q, xs, rfl, rfl, ex_l (e1.trans e2) hp, sq_of (e2 _ _ hq), k H2 (Ex.refl _)⟩
theorem ev_neNilV {xs : List V} {ta : TE} {p : Addr} (h : Ev ta σ H (.ref p)) (hp : SqL K H p xs) : Ev (tOp (rNeN K) ta (tLst tNil)) σ H (.bl (!xs.isEmpty)) := ev_opL h (el_lst ea_nil (by show 0 ≤ 100000; decide)) fun q H1 hq e1 H2 e2 Q k => ⟨p, q, xs, rfl, rfl, ex_l (e1.trans e2) hp, sq_of (e2 _ _ hq), k H2 (Ex.refl _)⟩
end
theorem refsA_empty (G : LLay) (l : List Nat) : (refsA G l).isEmpty = l.isEmpty := by
  unfold refsA
  rw [List.isEmpty_map]
theorem lenU2 {A : Around} (h : A.units + 64 < cLine) : A.units < cLine := Nat.lt_of_le_of_lt (Nat.le_add_right _ 64) h
theorem mx_le (a b : Int) : a ≤ mx a b ∧ b ≤ mx a b ∧ (mx a b = a ∨ mx a b = b) := by
  unfold mx
  split
  · exact ⟨by omega, Int.le_refl _, .inr rfl⟩
  · exact ⟨Int.le_refl _, by omega, .inl rfl⟩
theorem foldl_mx : ∀ (l : List Int) (a : Int), a ≤ l.foldl mx a ∧ (∀ y ∈ l, y ≤ l.foldl mx a) ∧ (l.foldl mx a = a ∨ l.foldl mx a ∈ l)
  | [], a => ⟨Int.le_refl _, fun y hy => by simp at hy, .inl rfl⟩
  | x :: l, a => by
    obtain ⟨h1, h2, h3⟩ := foldl_mx l (mx a x)
    obtain ⟨m1, m2, m3⟩ := mx_le a x
    show a ≤ l.foldl mx (mx a x) ∧ (∀ y ∈ x :: l, y ≤ l.foldl mx (mx a x)) ∧ (l.foldl mx (mx a x) = a ∨ l.foldl mx (mx a x) ∈ x :: l)
    refine ⟨Int.le_trans m1 h1, fun y hy => ?_, ?_⟩
    · rcases List.mem_cons.mp hy with rfl | hy
      · exact Int.le_trans m2 h1
      · exact h2 y hy
    · rcases h3 with h | h
      · rcases m3 with q | q
        · exact .inl (h.trans q)
        · exact .inr (by rw [h, q]; exact List.mem_cons_self ..)
      · exact .inr (List.mem_cons_of_mem _ h)
theorem lmax_eq {l : List Int} {m : Int} (h1 : m ∈ 0 :: l) (h2 : ∀ y ∈ 0 :: l, y ≤ m) : m = lmax l := by
  obtain ⟨a1, a2, a3⟩ := foldl_mx l 0
  refine Int.le_antisymm ?_ ?_
  · rcases List.mem_cons.mp h1 with rfl | h
    · exact a1
    · exact a2 m h
  · show l.foldl mx 0 ≤ m
    rcases a3 with h | h
    · rw [h]
      exact h2 0 (List.mem_cons_self ..)
    · exact h2 _ (List.mem_cons_of_mem _ h)
section
variable {P : Program} {w : World} {base h0 : Heap} {K : PySem.W.Frag} {mg : Str → Option Value}
def spLRun (K : PySem.W.Frag) : Sp := fun vs H Q _ => ∃ (da wa l : Addr) (c : Cfg) (as : List Addr) (es : List Evt), vs = [.ref da, .ref wa, .ref l] ∧ SqT K H da (desV c) ∧ SqT K H wa (worV c) ∧ SqL K H l (as.map V.ref) ∧ Paired (evTup H) as es ∧ es.length ≤ 100 ∧ lrunOk (S.init c) es ∧
  ∀ G H', LawAt K H' G ((S.init c).run es) → (∀ b ∈ G.own, H b = none) → Ex H H' → Q (.ref G.h) H'
theorem sc_L_run : FnScope ["_law_design_here", "_law_world_here", "_law_events_here", "_law_h", "_law_event"] ["_law_design_here", "_law_world_here", "_law_events_here"] (defScope s_L_run) := ⟨rfl, rfl, rfl, by decide +kernel, rfl, by decide +kernel, by decide +kernel⟩
theorem ok_L_run (T : Txt h0 K mg) : FnOk P w K mg base CX0 5 (He.ga K "_law_run") (fdOf K (He.ga K "_law_run")) ["_law_design_here", "_law_world_here", "_law_events_here"] (spLRun K) := by
  refine FnOk.mono (j := 5) ((T.fn_L_run).ok sc_L_run (fun vs H Q E h => ?_) (fun cdv A outer st0 H vs Q E hr h => ?_)) (by decide)
  · obtain ⟨da, wa, l, c, as, es, rfl, _⟩ := h
    rfl
  · obtain ⟨da, wa, l, c, as, es, rfl, hD, hW, hl, hev, hlen, hok, k⟩ := h
    refine ⟨_, PSs.nox ((pss_cons (ps_set (i := 3) sc_L_run.nd rfl (Or.inl rfl) (pe_call (ok_L_begin T) (hr.mono (by decide)) rfl T.g__law_begin T.k_L_begin T.b_L_begin .nil pass0 (pa_cons (pv 0) (pa_cons (pv 1) pa_nil))))
      (pss_cons (ps_for PassesOwn.never rfl (pi_listK K (pv 2)) (pg_name (i := 4) sc_L_run.nd rfl (Or.inl rfl))
      (pss_one (ps_expr (pe_call (ok_L_do T) (hr.mono (by decide)) rfl T.g__law_do T.k_L_do T.b_L_do .nil pass0 (pa_cons (pv 3) (pa_cons (pv 4) pa_nil))))))
      (pss_one (ps_ret (pv 3)))))), ?_⟩
    refine q_call (vs := [.ref da, .ref wa]) (ea_cons (ev_var rfl) (ea_cons (ev_var rfl) ea_nil)) fun H0 e0 => ⟨da, wa, c, rfl, ex_t e0 hD, ex_t e0 hW, fun G H1 R1 own1' e1' => ?_⟩
    have e1 := e0.trans e1'
    have own1 : ∀ b ∈ G.own, H b = none := fun b hb => Same.free e0 (own1' b hb)
    have alen := Paired.length hev
    refine q_forLn (xs := as.map V.ref) (K := K) (ev_var rfl) (ex_l e1 hl) (fun i σ H' => ∃ (L1 : LLay) (x : Option V), σ = [some (.ref da), some (.ref wa), some (.ref l), some (.ref L1.h), x] ∧ LawAt K H' L1 ((S.init c).run (es.take i)) ∧ (∀ b ∈ L1.own, H b = none) ∧ Ex H H') ?_ ?_ ?_ ?_
    · intro H2 e2
      exact ⟨G, none, rfl, R1.mono e2, own1, e1.trans e2⟩
    · rintro i σ H2 _ ⟨L1, x, rfl, R2, o2, e2⟩
      exact ex_l e2 hl
    · rintro i x σ H2 hx ⟨L1, y, rfl, R2, o2, e2⟩
      obtain ⟨a, e, rfl, he, ha⟩ := paired_at hev hx
      have hi := (List.getElem?_eq_some_iff.mp he).1
      refine s_dcl (vs := [.ref L1.h, .ref a]) (ea_cons (ev_var rfl) (ea_cons (ev_var rfl) ea_nil)) fun H3 e3 => ?_
      refine ⟨L1, _, a, e, rfl, R2.mono e3, e3 _ _ (e2 _ _ ha), ?_, ?_, lrunOk_take hok he, fun L2 H4 R4 g4 F4 => ?_⟩
      · have h1 := run_ops (S.init c) (es.take i)
        have h2 : (S.init c).ops.length = 0 := rfl
        rw [List.length_take] at h1
        omega
      · rw [run_past, List.length_append, List.length_take]
        have h2 : (S.init c).past.length = 0 := rfl
        omega
      · refine ⟨L2, some (.ref a), ?_, ?_, fun b hb => ?_, fun b o eb => ?_⟩
        · rw [g4.h] <;> rfl
        · have e5 : es.take (i + 1) = es.take i ++ [e] := by
            rw [List.take_add_one, he] <;> rfl
          rw [e5, run_snoc]
          exact R4
        · rcases g4.own b hb with z | z
          · exact o2 b z
          · exact Same.free (e2.trans e3) z
        · exact F4 b o (e3 _ _ (e2 _ _ eb)) fun z => by
            rw [o2 b z] at eb
            cases eb
    · rintro σ H2 ⟨L1, x, rfl, R2, o2, e2⟩
      rw [List.length_map, alen, List.take_length] at R2
      exact s_ret (ev_var rfl) fun H3 e3 => k L1 H3 (R2.mono e3) o2 (e2.trans e3)
def spLBehind (K : PySem.W.Frag) : Sp := fun vs H Q _ => ∃ (G : LLay) (s : S), vs = [.ref G.h] ∧ LawAt K H G s ∧ RetV (.bl s.behind) H Q
theorem sc_L_behind : FnScope ["_law_h"] ["_law_h"] (defScope s_L_behind) := ⟨rfl, rfl, rfl, by decide +kernel, rfl, by decide +kernel, by decide +kernel⟩
theorem ok_L_behind (T : Txt h0 K mg) : FnOk P w K mg base CX0 1 (He.ga K "_law_behind") (fdOf K (He.ga K "_law_behind")) ["_law_h"] (spLBehind K) := by
  refine FnOk.mono (j := 1) ((T.fn_L_behind).ok sc_L_behind (fun vs H Q E h => ?_) (fun cdv A outer st0 H vs Q E hr h => ?_)) (by decide)
  · obtain ⟨G, s, rfl, _⟩ := h
    rfl
  · obtain ⟨G, s, rfl, R, k⟩ := h
    refine ⟨_, PSs.nox ((pss_one (ps_ret (pe_and (pe_cmp (pc_notN (pe_dget (hu_of hr) (pv 0) pe_str (fun _ _ => rfl)))) (pe_one (pe_cmpR op_lt (pe_dget (hu_of hr) (pv 0) pe_str (fun _ _ => rfl)) (pe_dget (hu_of hr) (pv 0) pe_str (fun _ _ => rfl)) (nomark _))))))), ?_⟩
    cases hc : s.cache with
    | none =>
      refine s_ret (ev_is (ev_andV (b := false) (ev_is (ev_notN (ev_sF R (ev_var rfl))) (show V.bl (!decide (oV s.cache = .non)) = V.bl false by rw [hc] <;> rfl)) (fun z => by cases z)) ?_) k
      unfold S.behind
      rw [hc] <;> rfl
    | some c =>
      refine s_ret (ev_is (ev_andV (ev_is (ev_notN (ev_sF R (ev_var rfl))) (show V.bl (!decide (oV s.cache = .non)) = V.bl true by rw [hc] <;> rfl)) (fun _ => ev_op (ev_is (ev_sF R (ev_var rfl)) (show oV s.cache = V.int c by rw [hc] <;> rfl)) (ev_sF R (ev_var rfl)) rv_I0)) ?_) k
      unfold S.behind
      rw [hc] <;> rfl
def spLBefore (K : PySem.W.Frag) : Sp := fun vs H Q _ => ∃ (G : LLay) (s : S) (i : Nat) (a : Addr) (o : Op) (wr : Bool), vs = [.ref G.h, .ref a, .str (kindS wr)] ∧ LawAt K H G s ∧ G.os[i]? = some a ∧ s.ops[i]? = some o ∧ s.ops.length ≤ 1000 ∧ endedOk s ∧ RetV (.int (s.lBefore o.begun wr)) H Q
theorem kind_is (a b : Bool) : decide (V.str (kindS a) = V.str (kindS b)) = decide (a = b) := by cases a <;> cases b <;> decide +kernel
theorem sc_L_before : FnScope ["_law_h", "_law_one", "_law_kind", "_law_found", "_law_other"] ["_law_h", "_law_one", "_law_kind"] (defScope s_L_before) := ⟨rfl, rfl, rfl, by decide +kernel, rfl, by decide +kernel, by decide +kernel⟩
theorem ok_L_before (T : Txt h0 K mg) : FnOk P w K mg base CX0 1 (He.ga K "_law_before") (fdOf K (He.ga K "_law_before")) ["_law_h", "_law_one", "_law_kind"] (spLBefore K) := by
  refine FnOk.mono (j := 1) ((T.fn_L_before).ok sc_L_before (fun vs H Q E h => ?_) (fun cdv A outer st0 H vs Q E hr h => ?_)) (by decide)
  · obtain ⟨G, s, i, a, o, wr, rfl, _⟩ := h
    rfl
  · obtain ⟨G, s, i, a, o, wr, rfl, R, ha, ho, hl, hen, k⟩ := h
    refine ⟨_, PSs.nox ((pss_cons (ps_setLc (i := 3) (own := [("_law_other", 4)]) (g := (gName 4)) rfl sc_L_before.nd rfl rfl (sw_true rfl rfl rfl (by decide +kernel)) (pi_listK K (pe_dget (hu_of hr) (pv 0) pe_str (fun _ _ => rfl))) (blkOk_by (N := ["_law_h", "_law_one", "_law_kind", "_law_found", "_law_other"]) (sc := defScope s_L_before) (by decide +kernel)) (fun _ _ _ _ _ => (pg_name (i := 4) sc_L_before.nd rfl (Or.inl rfl))) (fun _ _ _ _ _ => (pts_one (PW.pt (pw_and (pt_cmpR op_eq (pe_dget (hu_of hr) (pv 4) pe_str (fun _ _ => rfl)) (pv 2) (nomark _)) (pw_and1 (pt_cmpR op_eq (pe_dget (hu_of hr) (pv 4) pe_str (fun _ _ => rfl)) pe_str (nomark _))))))) (fun _ _ _ _ _ => (pv 4)))
      (pss_one (ps_ret (pe_callB (cr_maxK K) (by rfl) T.f_max (by decide +kernel) (pa_cons (pe_op op_cat (pe_lst (pa_cons pe_int pa_nil)) (pe_lc (own := [("_law_other", 4)]) (g := (gName 4)) rfl sc_L_before.nd (pi_listK K (pv 3)) (blkOk_by (N := ["_law_h", "_law_one", "_law_kind", "_law_found", "_law_other"]) (sc := defScope s_L_before) (by decide +kernel)) (fun _ _ _ _ _ => (pg_name (i := 4) sc_L_before.nd rfl (Or.inl rfl))) (fun _ _ _ _ _ => (pts_one (pt_cmpR op_lt (pe_dget (hu_of hr) (pv 4) pe_str (fun _ _ => rfl)) (pe_dget (hu_of hr) (pv 1) pe_str (fun _ _ => rfl)) (nomark _)))) (fun _ _ _ _ _ => (pe_dget (hu_of hr) (pv 4) pe_str (fun _ _ => rfl))))) pa_nil)))))), ?_⟩
    refine q_asgL (el_ops R (ev_var rfl) (by omega) (Op.endedOf wr) (fun _ => rfl) (fun j b H1 e1 hb hob => et_and (et_test (ev_is (ev_op (ev_oF (R.mono e1) hb hob (ev_var rfl)) (ev_var rfl) (rv_eq rfl)) (congrArg V.bl (kind_is _ _)))) fun _ => et_test (ev_is (ev_op (ev_oF (R.mono e1) hb hob (ev_var rfl)) ev_c (rv_eq rfl)) (congrArg V.bl (w_is _ .ended rfl)))) (fun x H1 => ev_var rfl)) fun p H1 np e1 hp => ?_
    have R1 := R.mono e1
    have hend : ∀ i ∈ idxs s (Op.endedOf wr), (∃ v, (s.at i).ver = some v) ∧ ∃ n, (s.at i).over = some n := fun i hi => by
      have h1 := (List.mem_filter.mp hi).2
      exact hen i _ (ops_at (idxs_lt i hi)) (of_decide_eq_true (Bool.and_eq_true_iff.mp h1).2)
    have hlen : (idxs s (Op.endedOf wr)).length ≤ 1000 := by
      have h := List.length_filter_le (fun i => (Op.endedOf wr) (s.at i)) (List.range s.ops.length)
      rw [List.length_range] at h
      exact Nat.le_trans h hl
    have comp := el_refs (K := K) (te := tDGet (tVar 4) (tC (.str "version"))) (t := tTest (tOp (rI0 fun i j => V.bl (decide (i < j))) (tDGet (tVar 4) (tC (.str "over"))) (tDGet (tVar 1) (tC (.str "begun"))))) (tl := tVar 3) (vs := [4]) (j := 4) (σ := [some (.ref G.h), some (.ref a), some (.str (kindS wr)), some (.ref p), none]) R1 idxs_lt (ev_var rfl) hp (Nat.le_trans hlen (by decide)) (fun i => decide ((s.at i).over.getD 0 < o.begun)) (fun i => V.int ((s.at i).ver.getD 0)) (fun _ => rfl)
      (fun i b H2 e2 hi hb hob => by
        obtain ⟨_, n, hn⟩ := hend i hi
        rw [hn]
        exact et_test (ev_op (ev_is (ev_oF (R1.mono e2) hb hob (ev_var rfl)) (show oV (s.at i).over = V.int n by rw [hn] <;> rfl)) (ev_oF (R1.mono e2) ha ho (ev_var rfl)) rv_I0))
      (fun i b H2 e2 hi _ hb hob => by
        obtain ⟨⟨v, hv⟩, _⟩ := hend i hi
        rw [hv]
        exact ev_is (ev_oF (R1.mono e2) hb hob (ev_var rfl)) (show oV (s.at i).ver = V.int v by rw [hv] <;> rfl))
    have e3 : ((idxs s (Op.endedOf wr)).filter fun i => decide ((s.at i).over.getD 0 < o.begun)).map (fun i => V.int ((s.at i).ver.getD 0)) = (((idxs s (Op.endedOf wr)).filter fun i => decide ((s.at i).over.getD 0 < o.begun)).map fun i => (s.at i).ver.getD 0).map V.int := by rw [List.map_map] <;> rfl
    rw [e3] at comp
    have hl2 : (((idxs s (Op.endedOf wr)).filter fun i => decide ((s.at i).over.getD 0 < o.begun)).map fun i => (s.at i).ver.getD 0).length ≤ 1000 := by
      rw [List.length_map]
      exact Nat.le_trans (List.length_filter_le _ _) hlen
    refine s_ret (v := .int (s.lBefore o.begun wr)) (fun H2 e2 Q' q' => ?_) fun H2 e2 => k _ (e1.trans e2)
    refine (el_cat (xs := [V.int 0]) (el_lst (ea_cons ev_c ea_nil) (by show 1 ≤ 100000; decide)) comp (by rw [List.length_map]; show 1 + _ ≤ 100000; omega)) H2 e2 _ fun p H3 np e3 hp => ?_
    refine ⟨p, 0 :: _, rfl, sq_of hp, Nat.zero_lt_succ _, fun m h1 h2 => ?_⟩
    rw [lmax_eq h1 h2]
    exact q' H3 e3
def spLQuiet (K : PySem.W.Frag) : Sp := fun vs H Q _ => ∃ (G : LLay) (s : S) (i : Nat) (a : Addr) (o : Op) (n : Int), vs = [.ref G.h, .ref a] ∧ LawAt K H G s ∧ G.os[i]? = some a ∧ s.ops[i]? = some o ∧ o.over = some n ∧ s.ops.length ≤ 1000 ∧ RetV (.bl (s.lQuiet o.begun n)) H Q
theorem sc_L_was_quiet : FnScope ["_law_h", "_law_one", "_law_writes", "_law_other"] ["_law_h", "_law_one"] (defScope s_L_was_quiet) := ⟨rfl, rfl, rfl, by decide +kernel, rfl, by decide +kernel, by decide +kernel⟩
theorem ok_L_was_quiet (T : Txt h0 K mg) : FnOk P w K mg base CX0 1 (He.ga K "_law_was_quiet") (fdOf K (He.ga K "_law_was_quiet")) ["_law_h", "_law_one"] (spLQuiet K) := by
  refine FnOk.mono (j := 1) ((T.fn_L_was_quiet).ok sc_L_was_quiet (fun vs H Q E h => ?_) (fun cdv A outer st0 H vs Q E hr h => ?_)) (by decide)
  · obtain ⟨G, s, i, a, o, n, rfl, _⟩ := h
    rfl
  · obtain ⟨G, s, i, a, o, n, rfl, R, ha, ho, hn, hl, k⟩ := h
    refine ⟨_, PSs.nox ((pss_cons (ps_setLc (i := 2) (own := [("_law_other", 3)]) (g := (gName 3)) rfl sc_L_was_quiet.nd rfl rfl (sw_true rfl rfl rfl (by decide +kernel)) (pi_listK K (pe_dget (hu_of hr) (pv 0) pe_str (fun _ _ => rfl))) (blkOk_by (N := ["_law_h", "_law_one", "_law_writes", "_law_other"]) (sc := defScope s_L_was_quiet) (by decide +kernel)) (fun _ _ _ _ _ => (pg_name (i := 3) sc_L_was_quiet.nd rfl (Or.inl rfl))) (fun _ _ _ _ _ => (pts_one (PW.pt (pw_and (pt_cmpR op_eq (pe_dget (hu_of hr) (pv 3) pe_str (fun _ _ => rfl)) pe_str (nomark _)) (pw_and1 (pt_cmpR op_lt (pe_dget (hu_of hr) (pv 3) pe_str (fun _ _ => rfl)) (pe_dget (hu_of hr) (pv 1) pe_str (fun _ _ => rfl)) (nomark _))))))) (fun _ _ _ _ _ => (pv 3)))
      (pss_one (ps_ret (pe_cmpR (op_eqN K (lenU2 hr.units)) (pe_lc (own := [("_law_other", 3)]) (g := (gName 3)) rfl sc_L_was_quiet.nd (pi_listK K (pv 2)) (blkOk_by (N := ["_law_h", "_law_one", "_law_writes", "_law_other"]) (sc := defScope s_L_was_quiet) (by decide +kernel)) (fun _ _ _ _ _ => (pg_name (i := 3) sc_L_was_quiet.nd rfl (Or.inl rfl))) (fun _ _ _ _ _ => (pts_one (PW.pt (pw_or (pt_cmp (pc_isN (pe_dget (hu_of hr) (pv 3) pe_str (fun _ _ => rfl)))) (pw_or1 (pt_cmpR op_gt (pe_dget (hu_of hr) (pv 3) pe_str (fun _ _ => rfl)) (pe_dget (hu_of hr) (pv 1) pe_str (fun _ _ => rfl)) (nomark _))))))) (fun _ _ _ _ _ => (pv 3))) (pe_lst pa_nil) (nomark _)))))), ?_⟩
    have ov : ∀ {σ : L2.St} {H1}, Ex H H1 → σ[1]? = some (some (V.ref a)) → Ev (tDGet (tVar 1) (tC (.str "over"))) σ H1 (.int n) := fun {σ H1} e h => ev_is (ev_oF (R.mono e) ha ho (ev_var h)) (show oV o.over = V.int n by rw [hn] <;> rfl)
    refine q_asgL (el_ops R (ev_var rfl) (by omega) (fun o => o.wr && decide (o.begun < n)) (fun _ => rfl) (fun j b H1 e1 hb hob => et_and (et_test (ev_lkindW (R.mono e1) hb hob (ev_var rfl))) fun _ => et_test (ev_op (ev_oF (R.mono e1) hb hob (ev_var rfl)) (ov e1 rfl) rv_I0)) (fun x H1 => ev_var rfl)) fun p H1 np e1 hp => ?_
    have R1 := R.mono e1
    have hlen : (idxs s fun o => o.wr && decide (o.begun < n)).length ≤ 1000 := by
      have h := List.length_filter_le (fun i => (s.at i).wr && decide ((s.at i).begun < n)) (List.range s.ops.length)
      rw [List.length_range] at h
      exact Nat.le_trans h hl
    refine s_ret (ev_is (ev_eqNil (el_refs R1 idxs_lt (ev_var rfl) hp (Nat.le_trans hlen (by decide)) (fun i => decide ((s.at i).over = none) || decide (o.begun < (s.at i).over.getD 0)) (fun i => V.ref (G.os.getD i 0)) (fun _ => rfl) (fun i b H2 e2 hi hb hob => ?_) (fun i b H2 e2 hi _ hb hob => ?_))) ?_) fun H2 e2 => k _ (e1.trans e2)
    · have R2 := R1.mono e2
      cases hov : (s.at i).over with
      | none => exact et_is (et_or (a := true) (b := true) (et_B (ev_is (ev_isN (ev_oF R2 hb hob (ev_var rfl))) (show V.bl (decide (oV (s.at i).over = .non)) = _ by rw [hov] <;> rfl))) fun z => by cases z) rfl
      | some y => exact et_is (et_or (a := false) (et_B (ev_is (ev_isN (ev_oF R2 hb hob (ev_var rfl))) (show V.bl (decide (oV (s.at i).over = .non)) = _ by rw [hov] <;> rfl))) fun _ => et_test (ev_op (ev_is (ev_oF R2 hb hob (ev_var rfl)) (show oV (s.at i).over = V.int y by rw [hov] <;> rfl)) (ev_oF R2 ha ho (ev_var rfl)) rv_I0)) rfl
    · rw [List.getD_eq_getElem?_getD, hb]
      exact ev_var rfl
    · rw [List.isEmpty_map]
      rfl
end
end K10
end
section
set_option Elab.async false
set_option linter.all false
set_option maxRecDepth 100000
set_option maxHeartbeats 4000000
namespace K10
open PySem PySem.Spec PyProof.Rows L2 Evl
section
variable {K : PySem.W.Frag} {H : Hp} {σ : L2.St} {te tl : TE} {t : TT} {tu : TS} {D : Ends} {tz : TS} {xs : List V} {a : Addr}
theorem q_forE {i0 j0 : Nat} (h : Ev tl σ H (.ref a)) (hx : SqL K H a xs) (Pv : Nat → L2.St → Hp → Prop) (h0 : ∀ H1, Ex H H1 → Pv 0 σ H1) (hl : ∀ i σ' H', i ≤ xs.length → Pv i σ' H' → SqL K H' a xs)
    (hs : ∀ (i : Nat) x σ' H' H2, xs[i]? = some x → Pv i σ' H' → Ex H' H2 → tu { D with nx := Pv (i + 1), ct := Pv (i + 1), bk := tz D } ((σ'.set i0 (some (.int (i : Int)))).set j0 (some x)) H2) (hd : ∀ σ' H', Pv xs.length σ' H' → tz D σ' H') :
    tSeq (tFor (iEnum K (tCons tl tNil)) (gTup K 2 (gCons (gName i0) (gCons (gName j0) gNil))) tu) tz D σ H :=
  h H (Ex.refl _) _ fun H1 e1 => ⟨a, xs, rfl, ex_l e1 hx, by
    refine ⟨fun i m σ H => m = xs.length - i ∧ i ≤ xs.length ∧ Pv i σ H, ⟨xs.length, rfl, Nat.zero_le _, h0 H1 e1⟩, ?_⟩
    rintro i m σ H ⟨rfl, hi, p⟩
    have qx := hl i σ H hi p
    by_cases hlt : i < xs.length
    · have hxi : xs[i]? = some xs[i] := List.getElem?_eq_getElem hlt
      refine .inr ⟨⟨xs, _, qx, hxi⟩, Pv (i + 1), fun σ' H' p' => ⟨xs.length - (i + 1), by omega, rfl, hlt, p'⟩, fun v H' y => ?_⟩
      obtain ⟨T, x', rfl, hT, rfl, f1⟩ := y
      exact ⟨T, _, rfl, st_of upd_same, rfl, _, _, rfl, _, _, rfl, rfl, hs i x' σ H _ (f1 xs qx) p (Ex.new hT)⟩
    · have e : i = xs.length := by omega
      subst e
      exact .inl ⟨⟨xs, qx, Nat.le_refl _⟩, hd σ H p⟩⟩
theorem cut_drop {i : Nat} (h : i ≤ xs.length) : cutV xs (some (i : Int)) none = xs.drop i := by
  unfold cutV
  have e1 : HT.sIx xs.length xs.length none = xs.length := rfl
  have e2 : HT.sIx xs.length 0 (some (i : Int)) = i := by
    unfold HT.sIx
    simp only [Option.getD, Option.elim]
    rw [if_neg (by omega)]
    omega
  rw [e1, e2]
  exact List.take_of_length_le (by rw [List.length_drop]; exact Nat.le_refl _)
end
def DAt (H : Hp) (a : Addr) (q : Dct) : Prop := H a = some (.dK (fk (opL q.1 q.2)))
theorem paired_take {α β : Type} {F : α → β → Prop} : ∀ {as : List α} {bs : List β} (n : Nat), Paired F as bs → Paired F (as.take n) (bs.take n)
  | _, _, 0, h => by
    rw [List.take_zero, List.take_zero]
    exact .nil
  | _, _, n + 1, .nil => .nil
  | _, _, n + 1, .cons h r => .cons h (paired_take n r)
theorem paired_drop {α β : Type} {F : α → β → Prop} : ∀ {as : List α} {bs : List β} (n : Nat), Paired F as bs → Paired F (as.drop n) (bs.drop n)
  | _, _, 0, h => h
  | _, _, n + 1, .nil => .nil
  | _, _, n + 1, .cons h r => paired_drop n r
section
variable {P : Program} {w : World} {base h0 : Heap} {K : PySem.W.Frag} {mg : Str → Option Value}
def spOrd (K : PySem.W.Frag) : Nat → Sp
  | 0 => fun _ _ _ _ => False
  | n + 1 => fun vs H Q _ => ∃ (p : Addr) (v : Option Int) (as : List Addr) (qs : List Dct), vs = [.ref p, oV v] ∧ SqL K H p (as.map V.ref) ∧ Paired (DAt H) as qs ∧ qs.length ≤ n ∧ n ≤ 100 ∧ RetV (.bl (ordB (n + 1) qs v)) H Q
theorem ev_dF {H : Hp} {σ : L2.St} {te : TE} {a : Addr} {q : Dct} {f : Str} {v : V} (ha : DAt H a q) (h : Ev te σ H (.ref a)) (hl : (opL q.1 q.2).lookup f = some v := by rfl) : Ev (tDGet te (tC (.str f))) σ H v := ev_dk h ha hl
theorem sc_L_ordered : FnScope ["_law_left", "_law_version", "_law_at", "_law_one", "_law_others", "_law_late", "_law_other"] ["_law_left", "_law_version"] (defScope s_L_ordered) := ⟨rfl, rfl, rfl, by decide +kernel, rfl, by decide +kernel, by decide +kernel⟩
theorem ok_ordN (T : Txt h0 K mg) : ∀ n : Nat, FnOk P w K mg base CX0 (n + 1) (He.ga K "_law_ordered") (fdOf K (He.ga K "_law_ordered")) ["_law_left", "_law_version"] (spOrd K n)
  | 0 => ⟨fun vs H Q E h => h.elim, fun A outer s H args us vs Q E hr he hb hv h => h.elim⟩
  | n + 1 => by
    have ih := ok_ordN T n
    have ok_L_ordered := fun (_ : Txt h0 K mg) => ih
    refine T.fn_L_ordered.ok sc_L_ordered (fun vs H Q E h => ?_) (fun cdv A outer st0 H vs Q E hr h => ?_)
    · obtain ⟨p, v, as, qs, rfl, _⟩ := h
      rfl
    · obtain ⟨p, v, as, qs, rfl, hp, hq, hl, hn, k⟩ := h
      refine ⟨_, PSs.nox ((pss_cons (ps_if (pt_cmpR (op_eqN K (lenU2 hr.units)) (pv 0) (pe_lst pa_nil) (nomark _)) (pss_one (ps_ret pe_bl)) pss_nil)
      (pss_cons (ps_for PassesOwn.never rfl (pi_enum rfl T.f_enumerate (pa_cons (pv 0) pa_nil)) (pg_tupK K (pgs_cons (pg_name (i := 2) sc_L_ordered.nd rfl (Or.inl rfl)) (pgs_cons (pg_name (i := 3) sc_L_ordered.nd rfl (Or.inr rfl)) pgs_nil)))
      (pss_cons (ps_set (i := 4) sc_L_ordered.nd rfl (Or.inl rfl) (pe_op op_cat (pe_slice (sl_listK K) (pv 0) po_none (po_some (pv 2))) (pe_slice (sl_listK K) (pv 0) (po_some (pe_op op_add (pv 2) pe_int)) po_none)))
      (pss_cons (ps_setLc (i := 5) (own := [("_law_other", 6)]) (g := (gName 6)) rfl sc_L_ordered.nd rfl rfl (sw_true rfl rfl rfl (by decide +kernel)) (pi_listK K (pv 4)) (blkOk_by (N := ["_law_left", "_law_version", "_law_at", "_law_one", "_law_others", "_law_late", "_law_other"]) (sc := defScope s_L_ordered) (by decide +kernel)) (fun _ _ _ _ _ => (pg_name (i := 6) sc_L_ordered.nd rfl (Or.inl rfl))) (fun _ _ _ _ _ => (pts_one (PW.pt (pw_and (pt_cmp (pc_notN (pe_dget (hu_of hr) (pv 6) pe_str (fun _ _ => rfl)))) (pw_and1 (pt_cmpR op_lt (pe_dget (hu_of hr) (pv 6) pe_str (fun _ _ => rfl)) (pe_dget (hu_of hr) (pv 3) pe_str (fun _ _ => rfl)) (nomark _))))))) (fun _ _ _ _ _ => (pv 6)))
      (pss_one (ps_if (PW.pt (pw_and (pt_cmpR (op_eqN K (lenU2 hr.units)) (pv 5) (pe_lst pa_nil) (nomark _)) (pw_and (PW.pt (pw_or (pt_cmpR op_eq (pe_dget (hu_of hr) (pv 3) pe_str (fun _ _ => rfl)) pe_str (nomark _)) (pw_or1 (pt_cmpR op_eq (pe_dget (hu_of hr) (pv 3) pe_str (fun _ _ => rfl)) (pv 1) (nomark _))))) (pw_and1 (pt_val (pe_call (ok_L_ordered T) (hr.mono (Nat.le_refl _)) rfl T.g__law_ordered T.k_L_ordered T.b_L_ordered .nil pass0 (pa_cons (pv 4) (pa_cons (pe_dget (hu_of hr) (pv 3) pe_str (fun _ _ => rfl)) pa_nil)))))))) (pss_one (ps_ret pe_bl)) pss_nil)))))
      (pss_one (ps_ret pe_bl))))), ?_⟩
      have hlen : as.length = qs.length := paired_len hq
      have hlenV : (as.map V.ref).length = qs.length := by rw [List.length_map, hlen]
      have hemp : (as.map V.ref).isEmpty = qs.isEmpty := by
        rw [List.isEmpty_map]
        cases hq with
        | nil => rfl
        | cons _ _ => rfl
      refine q_when (et_test (ev_eqNilV (ev_var rfl) hp)) (fun hb H1 e1 => ?_) (fun hb H1 e1 => ?_)
      · rw [hemp] at hb
        have : ordB (n + 1) qs v = true := by
          unfold ordB
          rw [hb] <;> rfl
        rw [this] at k
        exact s_ret ev_c fun H2 e2 => k _ (e1.trans e2)
      rw [hemp] at hb
      let cand : Nat → Bool := fun j => ((qs.take j ++ qs.drop (j + 1)).filter fun q => q.1.late (qs.getD j default).1.begun).isEmpty && (((qs.getD j default).1.wr || decide ((qs.getD j default).1.ver = v)) && ordB n (qs.take j ++ qs.drop (j + 1)) (qs.getD j default).1.ver)
      have hord : ordB (n + 1) qs v = (List.range qs.length).any cand := by
        show (qs.isEmpty || _) = _
        rw [hb] <;> rfl
      refine q_forE (xs := as.map V.ref) (ev_var rfl) (ex_l e1 hp) (fun i σ' H' => ∃ x2 x3 x4 x5 x6 : Option V, σ' = [some (.ref p), some (oV v), x2, x3, x4, x5, x6] ∧ Ex H H' ∧ ∀ j < i, cand j = false) ?_ ?_ ?_ ?_
      · intro H2 e2
        exact ⟨none, none, none, none, none, rfl, e1.trans e2, fun j hj => absurd hj (Nat.not_lt_zero _)⟩
      · rintro i σ' H2 _ ⟨x2, x3, x4, x5, x6, rfl, e2, _⟩
        exact ex_l e2 hp
      · rintro i x σ' H2' H2 hx ⟨x2, x3, x4, x5, x6, rfl, e2', hc⟩ e23
        have e2 := e2'.trans e23
        have hi : i < as.length := by
          have := (List.getElem?_eq_some_iff.mp hx).1
          rw [List.length_map] at this
          exact this
        rw [List.getElem?_map, List.getElem?_eq_getElem hi] at hx
        cases hx
        have hiq : i < qs.length := by omega
        have hqi : qs[i]? = some (qs.getD i default) := by
          rw [List.getD_eq_getElem?_getD, List.getElem?_eq_getElem hiq] <;> rfl
        have hda : ∀ {H'}, Ex H H' → DAt H' as[i] (qs.getD i default) := fun {H'} e => e _ _ (paired_at2 (F := DAt H) hq (List.getElem?_eq_getElem hi) hqi)
        have ho : ∀ {H'}, Ex H H' → Paired (DAt H') (as.take i ++ as.drop (i + 1)) (qs.take i ++ qs.drop (i + 1)) := fun {H'} e => paired_app (Paired.mapP (paired_take i hq) fun x y h => e _ _ h) (Paired.mapP (paired_drop (i + 1) hq) fun x y h => e _ _ h)
        have hol : (qs.take i ++ qs.drop (i + 1)).length ≤ n - 1 := by
          rw [List.length_append, List.length_take, List.length_drop]
          omega
        refine q_asgL (xs := (as.take i ++ as.drop (i + 1)).map V.ref) (EvL.is (el_cat (el_sl (ev_var rfl) eo_none (eo_some (i := (i : Int)) (ev_var rfl)) (ex_l e2 hp)) (el_sl (ev_var rfl) (eo_some (i := ((i + 1 : Nat) : Int)) (ev_is (ev_op (ev_var rfl) ev_c rv_I0) (by show V.int ((i : Int) + 1) = V.int (((i + 1 : Nat)) : Int); congr 1))) eo_none (ex_l e2 hp)) ?_) ?_) fun p2 H3 np3 e3 hp3 => ?_
        · have h1 := cutV_length (as.map V.ref) none (some (i : Int))
          have h2 := cutV_length (as.map V.ref) (some ((i + 1 : Nat) : Int)) none
          omega
        · rw [cut_take (by rw [List.length_map]; omega), cut_drop (by rw [List.length_map]; omega), List.map_append, List.map_take, List.map_drop]
        have e03 := e2.trans e3
        have hlo : (as.take i ++ as.drop (i + 1)).length = (qs.take i ++ qs.drop (i + 1)).length := paired_len (ho (Ex.refl _))
        refine q_asgL (el_lcL (xs := (as.take i ++ as.drop (i + 1)).map V.ref) (fun k => ((qs.take i ++ qs.drop (i + 1)).getD k default).1.late (qs.getD i default).1.begun) (fun k => V.ref ((as.take i ++ as.drop (i + 1)).getD k 0)) (ev_var rfl) (sq_of hp3) (by rw [List.length_map, hlo]; omega) (fun _ => rfl) (fun k x H4 e4 hx => ?_) (fun k x H4 e4 hx _ => ?_)) fun p4 H4 np4 e4 hp4 => ?_
        · rw [List.getElem?_map] at hx
          cases hak : (as.take i ++ as.drop (i + 1))[k]? with
          | none =>
            rw [hak] at hx
            cases hx
          | some b =>
            rw [hak] at hx
            cases hx
            obtain ⟨d, hd, hdb⟩ := paired_ix2 (ho (e03.trans e4)) hak
            have hgd : (qs.take i ++ qs.drop (i + 1)).getD k default = d := by rw [List.getD_eq_getElem?_getD, hd] <;> rfl
            rw [hgd]
            have hda4 := hda (e03.trans e4)
            cases hov : d.1.over with
            | none =>
              refine et_is (et_and (a := false) (b := false) (et_B (ev_is (ev_notN (ev_dF hdb (ev_var rfl))) (show V.bl (!decide (oV d.1.over = .non)) = _ by rw [hov] <;> rfl))) fun z => by cases z) ?_
              unfold Op.late
              rw [hov] <;> rfl
            | some y =>
              refine et_is (et_and (a := true) (et_B (ev_is (ev_notN (ev_dF hdb (ev_var rfl))) (show V.bl (!decide (oV d.1.over = .non)) = _ by rw [hov] <;> rfl))) fun _ => et_test (ev_op (ev_is (ev_dF hdb (ev_var rfl)) (show oV d.1.over = V.int y by rw [hov] <;> rfl)) (ev_dF hda4 (ev_var rfl)) rv_I0)) ?_
              unfold Op.late
              rw [hov] <;> rfl
        · rw [List.getElem?_map] at hx
          cases hak : (as.take i ++ as.drop (i + 1))[k]? with
          | none =>
            rw [hak] at hx
            cases hx
          | some b =>
            rw [hak] at hx
            cases hx
            rw [List.getD_eq_getElem?_getD, hak]
            exact ev_var rfl
        have e04 := e03.trans e4
        have hda4 := hda e04
        have hlate : (given ((as.take i ++ as.drop (i + 1)).map V.ref).length (fun k => ((qs.take i ++ qs.drop (i + 1)).getD k default).1.late (qs.getD i default).1.begun) (fun k => V.ref ((as.take i ++ as.drop (i + 1)).getD k 0))).isEmpty = ((qs.take i ++ qs.drop (i + 1)).filter fun q => q.1.late (qs.getD i default).1.begun).isEmpty := by
          unfold given
          rw [List.isEmpty_map, List.length_map, hlo]
          have h := filter_getD (qs.take i ++ qs.drop (i + 1)) default fun q => q.1.late (qs.getD i default).1.begun
          rw [Bool.eq_iff_iff, List.isEmpty_iff_length_eq_zero, List.isEmpty_iff_length_eq_zero, h]
        refine s_when (b := cand i) (et_and (et_is (et_test (ev_eqNilV (ev_var rfl) (sq_of hp4))) hlate) fun _ => et_and (et_or (et_test (ev_is (ev_op (ev_dF hda4 (ev_var rfl)) ev_c (rv_eq rfl)) (congrArg V.bl (by rw [kind_w]; cases (qs.getD i default).1.wr <;> rfl)))) fun _ => et_test (ev_is (ev_op (ev_dF hda4 (ev_var rfl)) (ev_var rfl) (rv_eq (oV_scal _ _))) (congrArg V.bl (oV_eq _ _)))) fun _ => et_B ?_) (fun hb2 H5 e5 => ?_) (fun hb2 H5 e5 => ?_)
        · refine ev_call (vs := [.ref p2, oV (qs.getD i default).1.ver]) (dvs := []) (ea_cons (ev_var rfl) (ea_cons (ev_dF hda4 (ev_var rfl)) ea_nil)) fun H5 e5 Q' q' E' => ?_
          cases n with
          | zero => omega
          | succ n =>
            exact ⟨p2, _, as.take i ++ as.drop (i + 1), qs.take i ++ qs.drop (i + 1), rfl, sq_of (e5 _ _ (e4 _ _ hp3)), ho (e04.trans e5), by omega, by omega, q'⟩
        · refine s_ret ev_c fun H6 e6 => ?_
          have : ordB (n + 1) qs v = true := by
            rw [hord, List.any_eq_true]
            exact ⟨i, List.mem_range.mpr hiq, hb2⟩
          rw [this] at k
          exact k _ (e04.trans (e5.trans e6))
        · refine ⟨_, _, _, _, _, rfl, e04.trans e5, fun j hj => ?_⟩
          rcases Nat.lt_or_ge j i with h | h
          · exact hc j h
          · have : j = i := by omega
            rw [this]
            exact hb2
      · rintro σ' H2 ⟨x2, x3, x4, x5, x6, rfl, e2, hc⟩
        rw [hlenV] at hc
        refine s_ret ev_c fun H3 e3 => ?_
        have : ordB (n + 1) qs v = false := by
          rw [hord, Bool.eq_false_iff]
          intro z
          obtain ⟨j, hj, hcj⟩ := List.any_eq_true.mp z
          rw [hc j (List.mem_range.mp hj)] at hcj
          cases hcj
        rw [this] at k
        exact k _ (e2.trans e3)
theorem ok_L_ordered (T : Txt h0 K mg) : FnOk P w K mg base CX0 20 (He.ga K "_law_ordered") (fdOf K (He.ga K "_law_ordered")) ["_law_left", "_law_version"] (spOrd K 19) := ok_ordN T 19
end
end K10
end
section
set_option Elab.async false
set_option linter.all false
set_option maxRecDepth 100000
set_option maxHeartbeats 1000000
namespace K10
open PySem PySem.Spec PyProof.Rows L2 Evl
def DL (H : Hp) (p : Addr) (qs : List Dct) : Prop := ∃ as : List Addr, H p = some (.lst (as.map V.ref)) ∧ Paired (DAt H) as qs
theorem DL.mono {H H' : Hp} {p : Addr} {qs : List Dct} (h : DL H p qs) (e : Ex H H') : DL H' p qs := by
  obtain ⟨as, h1, h2⟩ := h
  exact ⟨as, e _ _ h1, Paired.mapP h2 fun x y h => e _ _ h⟩
theorem DL.push {H : Hp} {p t : Addr} {qs : List Dct} {q : Dct} {xs : List V} (h : DL H p qs) (hx : H p = some (.lst xs)) (ht : DAt H t q) : DL (upd H p (.lst (xs ++ [.ref t]))) p (qs ++ [q]) := by
  obtain ⟨as, h1, h2⟩ := h
  rw [hx] at h1
  have e2 : xs = as.map V.ref := by
    injection h1 with h1
    injection h1
  have tp : ∀ {b : Addr} {q : Dct} {u : HO}, DAt H b q → DAt (upd H p u) b q := fun {b q u} hb => by
    show upd H p u b = _
    rw [upd_ne fun z => ?_]
    · exact hb
    · subst z
      have : H b = _ := hb
      rw [hx] at this
      cases this
  refine ⟨as ++ [t], ?_, paired_app (Paired.mapP h2 fun x y h => tp h) (.cons (tp ht) .nil)⟩
  rw [List.map_append, e2]
  exact upd_same
section
variable {K : PySem.W.Frag} {H : Hp} {σ : L2.St} {te tl ta tb : TE} {tA : TT} {t : TT} {vs : List Nat} {xs : List V}
theorem ev_ifx {b : Bool} {x y : V} (hc : EvT tA σ H b) (h1 : b = true → Ev ta σ H x) (h2 : b = false → Ev tb σ H y) : Ev (tIf tA ta tb) σ H (if b = true then x else y) := fun H1 e Q q => hc H1 e _ fun H2 e2 => by
  cases b with
  | true => exact h1 rfl H2 (e.trans e2) _ fun H3 e3 => q H3 (e2.trans e3)
  | false => exact h2 rfl H2 (e.trans e2) _ fun H3 e3 => q H3 (e2.trans e3)
theorem el_vcat {p q : Addr} {ys : List V} (ha : Ev ta σ H (.ref p)) (hb : Ev tb σ H (.ref q)) (hp : H p = some (.lst xs)) (hq : H q = some (.lst ys)) (hl : xs.length + ys.length ≤ 100000) : EvL (tOp rCat ta tb) σ H (xs ++ ys) := fun H1 e Q q' =>
  ha H1 e _ fun H2 e2 => hb H2 (e.trans e2) _ fun H3 e3 => ⟨p, q, xs, ys, rfl, rfl, (e.trans (e2.trans e3)) _ _ hp, (e.trans (e2.trans e3)) _ _ hq, sz_of hl, fun c hc => q' c _ (Same.free (e2.trans e3) hc) ((e2.trans e3).trans (Ex.new hc)) upd_same⟩
def CwD (H : Hp) (v : Nat → Dct) (Dl : Addr) (i : Nat) (H' : Hp) : Prop := H Dl = none ∧ Ex H H' ∧ DL H' Dl ((List.range i).map v)
def ELD (te : TE) (σ : L2.St) (H : Hp) (qs : List Dct) : Prop := ∀ H1, Ex H H1 → ∀ Q : VK, (∀ p H2, H1 p = none → Ex H1 H2 → DL H2 p qs → Q (.ref p) H2) → te σ H1 Q
theorem q_asgDL {i : Nat} {qs : List Dct} {D : Ends} {tz : TS} (h : ELD te σ H qs) (k : ∀ p H1, H p = none → Ex H H1 → DL H1 p qs → tz D (σ.set i (some (.ref p))) H1) : tSeq (tAsg te (gName i)) tz D σ H := h H (Ex.refl H) _ k
theorem eld_lcL {a : Addr} {j : Nat} (v : Nat → Dct) (h : Ev tl σ H (.ref a)) (hx : SqL K H a xs) (hz : xs.length ≤ 40000) (hw : ∀ x, wipe ((wipe σ vs).set j (some x)) vs = wipe σ vs)
    (he : ∀ (i : Nat) (x : V) H1, Ex H H1 → xs[i]? = some x → EvD te ((wipe σ vs).set j (some x)) H1 (opL (v i).1 (v i).2)) :
    ELD (tLc (iList K tl) (gName j) tYes te vs) σ H ((List.range xs.length).map v) := fun H0 e Q q => h H0 e _ fun H1 e1 => ⟨a, rfl, ⟨xs, ex_l (e.trans e1) hx⟩, fun Dl hD =>
  lc_list (xs := xs) (CwD H1 v Dl) ⟨hD, Ex.new hD, ⟨[], upd_same, .nil⟩⟩ (fun i H' _ p => ex_l ((e.trans e1).trans p.2.1) hx) (fun i x H' hi p => ⟨hw x, by
    obtain ⟨p1, p2, p3⟩ := p
    have e2 := (e.trans e1).trans p2
    refine et_yes (σ := (wipe σ vs).set j (some x)) (H := H') H' (Ex.refl _) _ fun H3 e3 => ?_
    have hlen : ((List.range i).map v).length ≤ 40000 := by
      rw [List.length_map, List.length_range]
      have := (List.getElem?_eq_some_iff.mp hi).1
      omega
    show te _ H3 _
    refine he i x H3 (e2.trans e3) hi H3 (Ex.refl _) _ fun p H4 np e4 hp => ?_
    obtain ⟨as, ha, hal⟩ := p3.mono (e3.trans e4)
    refine ⟨as.map V.ref, ha, sz_lt (by rw [List.length_map, paired_len hal]; omega), p1, Ex.mut ((p2.trans e3).trans e4) p1, ?_⟩
    have h1 : (List.range (i + 1)).map v = (List.range i).map v ++ [v i] := by
      rw [List.range_succ, List.map_append] <;> rfl
    rw [h1]
    exact (p3.mono (e3.trans e4)).push ha hp⟩)
    (fun H' p => q Dl H' (Same.free e1 p.1) (e1.trans p.2.1) p.2.2)⟩
end
theorem put_over (o : Op) (x : Option Int) (i : Nat) : putAll [] (opL o i ++ ([("over", oV x)] : List (Str × V))) = opL { o with over := x } i := rfl
theorem plain_put (o : Op) (i : Nat) : putAll [] (opL o i ++ ([("over", oV o.plain.over)] : List (Str × V))) = opL o.plain i := by
  rw [put_over]
  unfold Op.plain
  split <;> rfl
theorem inV_oV (v : Option Int) : ∀ l : List (Option Int), inV (oV v) (l.map oV) = decide (v ∈ l)
  | [] => rfl
  | x :: l => by
    have ih := inV_oV v l
    unfold inV at ih ⊢
    rw [List.map_cons, List.any_cons, ih]
    have h : eqV (oV x) (oV v) = decide (v = x) := by
      cases x with
      | none => cases v <;> rfl
      | some a => cases v with
        | none => rfl
        | some b =>
          show (a == b) = _
          rw [Bool.eq_iff_iff]
          exact ⟨fun h => decide_eq_true (by rw [eq_of_beq h]), fun h => by
            injection of_decide_eq_true h with h
            rw [h]
            exact beq_self_eq_true _⟩
    rw [h, Bool.eq_iff_iff]
    simp
theorem two_filters {α : Type} (p q : α → Bool) (h : ∀ x, p x = true → q x = false) : ∀ l : List α, (l.filter p).length + (l.filter q).length ≤ l.length
  | [] => Nat.le_refl _
  | x :: l => by
    have ih := two_filters p q h l
    rw [List.filter_cons, List.filter_cons]
    cases hp : p x with
    | true =>
      rw [h x hp, if_pos rfl, if_neg (by decide), List.length_cons, List.length_cons]
      omega
    | false =>
      rw [if_neg (by decide), List.length_cons]
      have h2 : (if q x = true then x :: l.filter q else l.filter q).length ≤ (l.filter q).length + 1 := by
        split
        · exact Nat.le_refl _
        · exact Nat.le_succ _
      omega
theorem lDcts_len (s : S) : s.lDcts.length ≤ s.ops.length := by
  unfold S.lDcts
  rw [List.length_append, List.length_map, List.length_map]
  have h1 := two_filters (fun i => Op.endedOf false (s.at i)) (fun i => (s.at i).wr && decide ((s.at i).ver ≠ none)) (fun i h => by
    have h1 := of_decide_eq_true (Bool.and_eq_true_iff.mp h).1
    show ((s.at i).wr && _) = false
    rw [h1] <;> rfl) (List.range s.ops.length)
  rw [List.length_range] at h1
  have h2 : s.lWrites.length ≤ (idxs s fun o => o.wr && decide (o.ver ≠ none)).length := List.length_filter_le _ _
  exact Nat.le_trans (Nat.add_le_add_left h2 _) h1
section
variable {P : Program} {w : World} {base h0 : Heap} {K : PySem.W.Frag} {mg : Str → Option Value}
theorem refs_DL {G : LLay} {s : S} {H : Hp} (R : LawAt K H G s) : ∀ l : List Nat, (∀ i ∈ l, i < s.ops.length) → Paired (DAt H) (l.map fun i => G.os.getD i 0) (l.map fun i => (s.at i, i))
  | [], _ => .nil
  | i :: l, h => .cons (by
      have hi := h i (List.mem_cons_self ..)
      have hi2 : i < G.os.length := by rw [R.len]; exact hi
      show H (G.os.getD i 0) = _
      rw [List.getD_eq_getElem?_getD, List.getElem?_eq_getElem hi2]
      exact R.op i _ _ (List.getElem?_eq_getElem hi2) (ops_at hi)) (refs_DL R l fun j hj => h j (List.mem_cons_of_mem _ hj))
def spLOrder (K : PySem.W.Frag) : Sp := fun vs H Q _ => ∃ (G : LLay) (s : S), vs = [.ref G.h] ∧ LawAt K H G s ∧ s.ops.length ≤ 18 ∧ RetV (.bl s.lOrder) H Q
theorem sc_L_in_order : FnScope ["_law_h", "_law_reads", "_law_told", "_law_writes", "_law_plain", "_law_one"] ["_law_h"] (defScope s_L_in_order) := ⟨rfl, rfl, rfl, by decide +kernel, rfl, by decide +kernel, by decide +kernel⟩
theorem ok_L_in_order (T : Txt h0 K mg) : FnOk P w K mg base CX0 21 (He.ga K "_law_in_order") (fdOf K (He.ga K "_law_in_order")) ["_law_h"] (spLOrder K) := by
  refine FnOk.mono (j := 21) ((T.fn_L_in_order).ok sc_L_in_order (fun vs H Q E h => ?_) (fun cdv A outer st0 H vs Q E hr h => ?_)) (by decide)
  · obtain ⟨G, s, rfl, _⟩ := h
    rfl
  · obtain ⟨G, s, rfl, R, hl, k⟩ := h
    refine ⟨_, PSs.nox ((pss_cons (ps_setLc (i := 1) (own := [("_law_one", 5)]) (g := (gName 5)) rfl sc_L_in_order.nd rfl rfl (sw_true rfl rfl rfl (by decide +kernel)) (pi_listK K (pe_dget (hu_of hr) (pv 0) pe_str (fun _ _ => rfl))) (blkOk_by (N := ["_law_h", "_law_reads", "_law_told", "_law_writes", "_law_plain", "_law_one"]) (sc := defScope s_L_in_order) (by decide +kernel)) (fun _ _ _ _ _ => (pg_name (i := 5) sc_L_in_order.nd rfl (Or.inl rfl))) (fun _ _ _ _ _ => (pts_one (PW.pt (pw_and (pt_cmpR op_eq (pe_dget (hu_of hr) (pv 5) pe_str (fun _ _ => rfl)) pe_str (nomark _)) (pw_and1 (pt_cmpR op_eq (pe_dget (hu_of hr) (pv 5) pe_str (fun _ _ => rfl)) pe_str (nomark _))))))) (fun _ _ _ _ _ => (pv 5)))
      (pss_cons (ps_set (i := 2) sc_L_in_order.nd rfl (Or.inr rfl) (pe_lc (own := [("_law_one", 5)]) (g := (gName 5)) (tt := tYes) rfl sc_L_in_order.nd (pi_listK K (pv 1)) (blkOk_by (N := ["_law_h", "_law_reads", "_law_told", "_law_writes", "_law_plain", "_law_one"]) (sc := defScope s_L_in_order) (by decide +kernel)) (fun _ _ _ _ _ => (pg_name (i := 5) sc_L_in_order.nd rfl (Or.inl rfl))) (fun _ _ _ _ _ => pts_nil) (fun _ _ _ _ _ => (pe_dget (hu_of hr) (pv 5) pe_str (fun _ _ => rfl)))))
      (pss_cons (ps_setLc (i := 3) (own := [("_law_one", 5)]) (g := (gName 5)) rfl sc_L_in_order.nd rfl rfl (sw_true rfl rfl rfl (by decide +kernel)) (pi_listK K (pe_dget (hu_of hr) (pv 0) pe_str (fun _ _ => rfl))) (blkOk_by (N := ["_law_h", "_law_reads", "_law_told", "_law_writes", "_law_plain", "_law_one"]) (sc := defScope s_L_in_order) (by decide +kernel)) (fun _ _ _ _ _ => (pg_name (i := 5) sc_L_in_order.nd rfl (Or.inl rfl))) (fun _ _ _ _ _ => (pts_one (PW.pt (pw_and (pt_cmpR op_eq (pe_dget (hu_of hr) (pv 5) pe_str (fun _ _ => rfl)) pe_str (nomark _)) (pw_and1 (pt_cmp (pc_notN (pe_dget (hu_of hr) (pv 5) pe_str (fun _ _ => rfl))))))))) (fun _ _ _ _ _ => (pv 5)))
      (pss_cons (ps_setLc (i := 3) (own := [("_law_one", 5)]) (g := (gName 5)) rfl sc_L_in_order.nd rfl rfl (sw_true rfl rfl rfl (by decide +kernel)) (pi_listK K (pv 3)) (blkOk_by (N := ["_law_h", "_law_reads", "_law_told", "_law_writes", "_law_plain", "_law_one"]) (sc := defScope s_L_in_order) (by decide +kernel)) (fun _ _ _ _ _ => (pg_name (i := 5) sc_L_in_order.nd rfl (Or.inl rfl))) (fun _ _ _ _ _ => (pts_one (PW.pt (pw_or (pt_cmpR op_eq (pe_dget (hu_of hr) (pv 5) pe_str (fun _ _ => rfl)) pe_str (nomark _)) (pw_or1 (pt_cmpR (op_inK K) (pe_dget (hu_of hr) (pv 5) pe_str (fun _ _ => rfl)) (pv 2) rfl)))))) (fun _ _ _ _ _ => (pv 5)))
      (pss_cons (ps_setLc (i := 4) (own := [("_law_one", 5)]) (g := (gName 5)) (tt := tYes) rfl sc_L_in_order.nd rfl rfl (sw_true rfl rfl rfl (by decide +kernel)) (pi_listK K (pv 3)) (blkOk_by (N := ["_law_h", "_law_reads", "_law_told", "_law_writes", "_law_plain", "_law_one"]) (sc := defScope s_L_in_order) (by decide +kernel)) (fun _ _ _ _ _ => (pg_name (i := 5) sc_L_in_order.nd rfl (Or.inl rfl))) (fun _ _ _ _ _ => pts_nil) (fun _ _ _ _ _ => (pe_callTy (call_dictK K) (by rfl) T.f_dict (by decide +kernel) (pa_cons (pe_op op_cat (LiI.pe_listItems (by rfl) (pv 5) (by rfl) T.f_list (by decide +kernel)) (pe_lst (pa_cons (pe_tup (pa_cons pe_str (pa_cons (pe_ifExp (pt_cmpR op_eq (pe_dget (hu_of hr) (pv 5) pe_str (fun _ _ => rfl)) pe_str (nomark _)) (pe_dget (hu_of hr) (pv 5) pe_str (fun _ _ => rfl)) pe_non) pa_nil))) pa_nil))) pa_nil))))
      (pss_one (ps_ret (pe_call (ok_L_ordered T) (hr.mono (by decide)) rfl T.g__law_ordered T.k_L_ordered T.b_L_ordered .nil pass0 (pa_cons (pe_op op_cat (pv 1) (pv 4)) (pa_cons pe_int pa_nil))))))))))), ?_⟩
    refine q_asgL (el_ops R (ev_var rfl) (by omega) (Op.endedOf false) (fun _ => rfl) (fun j b H1 e1 hb hob => et_and (et_test (ev_is (ev_op (ev_oF (R.mono e1) hb hob (ev_var rfl)) ev_c (rv_eq rfl)) (congrArg V.bl (kind_is _ false)))) fun _ => et_test (ev_is (ev_op (ev_oF (R.mono e1) hb hob (ev_var rfl)) ev_c (rv_eq rfl)) (congrArg V.bl (w_is _ .ended rfl)))) (fun x H1 => ev_var rfl)) fun p1 H1 np1 e1 hp1 => ?_
    have R1 := R.mono e1
    have ilen : ∀ q, (idxs s q).length ≤ 18 := fun q => by
      have h := List.length_filter_le (fun i => q (s.at i)) (List.range s.ops.length)
      rw [List.length_range] at h
      exact Nat.le_trans h hl
    have comp2 := el_refs (K := K) (te := tDGet (tVar 5) (tC (.str "version"))) (t := tYes) (tl := tVar 1) (vs := [5]) (j := 5) (σ := [some (.ref G.h), some (.ref p1), none, none, none, none]) R1 idxs_lt (ev_var rfl) hp1 (Nat.le_trans (ilen _) (by decide)) (fun i => true) (fun i => oV (s.at i).ver) (fun _ => rfl)
      (fun i b H2 e2 hi hb hob => et_yes)
      (fun i b H2 e2 hi _ hb hob => ev_oF (R1.mono e2) hb hob (ev_var rfl))
    rw [List.filter_eq_self.mpr fun _ _ => rfl] at comp2
    refine q_asgL comp2 fun p2 H2 np2 e2 hp2 => ?_
    have R2 := R1.mono e2
    refine q_asgL (el_ops R2 (ev_var rfl) (by omega) (fun o => o.wr && decide (o.ver ≠ none)) (fun _ => rfl) (fun j b H1 e1 hb hob => et_and (et_test (ev_is (ev_op (ev_oF (R2.mono e1) hb hob (ev_var rfl)) ev_c (rv_eq rfl)) (congrArg V.bl ((kind_is _ true).trans (by cases (s.at j).wr <;> rfl))))) fun _ => et_B (ev_is (ev_notN (ev_oF (R2.mono e1) hb hob (ev_var rfl))) (show V.bl (!decide (oV (s.at j).ver = .non)) = _ by cases (s.at j).ver <;> rfl))) (fun x H1 => ev_var rfl)) fun p3 H3 np3 e3 hp3 => ?_
    have R3 := R2.mono e3
    refine q_asgL (el_refs R3 idxs_lt (ev_var rfl) hp3 (Nat.le_trans (ilen _) (by decide)) (fun i => decide ((s.at i).stage = .ended) || decide ((s.at i).ver ∈ s.lReads.map fun i => (s.at i).ver)) (fun i => V.ref (G.os.getD i 0)) (fun _ => rfl)
      (fun i b H4 e4 hi hb hob => et_or (et_test (ev_is (ev_op (ev_oF (R3.mono e4) hb hob (ev_var rfl)) ev_c (rv_eq rfl)) (congrArg V.bl (w_is _ .ended rfl)))) fun _ => et_test (ev_is (ev_op (ev_oF (R3.mono e4) hb hob (ev_var rfl)) (ev_var rfl) (rv_isL (xs := (s.lReads.map fun i => (s.at i).ver).map oV) (sq_of (by rw [List.map_map]; exact (e3.trans e4) _ _ hp2)) (by cases (s.at i).ver <;> rfl) (List.all_eq_true.mpr fun x hx => by
        obtain ⟨y, _, rfl⟩ := List.mem_map.mp hx
        cases y <;> rfl))) (congrArg V.bl (inV_oV _ _))))
      (fun i b H4 e4 hi _ hb hob => by
        rw [List.getD_eq_getElem?_getD, hb]
        exact ev_var rfl)) fun p4 H4 np4 e4 hp4 => ?_
    have R4 := R3.mono e4
    have wlt : ∀ i ∈ s.lWrites, i < s.ops.length := fun i hi => idxs_lt i (List.mem_filter.mp hi).1
    have hp4' : H4 p4 = some (.lst (refsA G s.lWrites)) := hp4
    have wlen : s.lWrites.length ≤ 18 := Nat.le_trans (List.length_filter_le _ _) (ilen _)
    refine q_asgDL (eld_lcL (K := K) (vs := [5]) (j := 5) (σ := [some (.ref G.h), some (.ref p1), some (.ref p2), some (.ref p4), none, none]) (xs := refsA G s.lWrites) (a := p4) (H := H4) (fun k => ((s.at (s.lWrites.getD k 0)).plain, s.lWrites.getD k 0)) (ev_var rfl) (sq_of hp4') (by unfold refsA; rw [List.length_map]; omega) (fun _ => rfl)
      (fun k x H5 e5 hx => by
        obtain ⟨i, a, hk, rfl, ha, ho⟩ := refsA_at R4 wlt hx
        have ek : s.lWrites.getD k 0 = i := by rw [List.getD_eq_getElem?_getD, hk] <;> rfl
        rw [ek]
        have R5 := R4.mono e5
        refine evd_up (ev_var rfl) (R5.op i a _ ha ho) (epl_cons (v := oV (s.at i).plain.over) (eu_tup (ea_cons ev_c (ea_cons (ev_is (ev_ifx (b := decide ((s.at i).stage = .ended)) (et_test (ev_is (ev_op (ev_oF R5 ha ho (ev_var rfl)) ev_c (rv_eq rfl)) (congrArg V.bl (w_is _ .ended rfl)))) (fun _ => ev_oF R5 ha ho (ev_var rfl)) fun _ => ev_c) ?_) ea_nil)) (by show 2 ≤ 100000; decide)) epl_nil) (by show 9 + 1 ≤ 1000; decide) ?_
        · unfold Op.plain
          split <;> rfl
        · exact plain_put _ _)) fun p5 H5 np5 e5 hp5 => ?_
    obtain ⟨as, ha5, hpa⟩ := hp5
    have R5 := R4.mono e5
    have e15 := e2.trans (e3.trans (e4.trans e5))
    have hp15 : H5 p1 = some (.lst (refsA G s.lReads)) := e15 _ _ hp1
    have hq : ((List.range (refsA G s.lWrites).length).map fun k => ((s.at (s.lWrites.getD k 0)).plain, s.lWrites.getD k 0)) = s.lWrites.map fun i => ((s.at i).plain, i) := by
      unfold refsA
      rw [List.length_map]
      have h := map_getD s.lWrites 0
      conv => rhs; rw [← h]
      rw [List.map_map] <;> rfl
    rw [hq] at hpa
    refine el_vcat (ev_var rfl) (ev_var rfl) hp15 ha5 (by unfold refsA; rw [List.length_map, List.length_map, paired_len hpa, List.length_map]; have := ilen (Op.endedOf false); unfold S.lReads; omega) H5 (Ex.refl _) _ fun p6 H6 np6 e6 hp6 => ?_
    refine (ev_c : Ev (tC (.int 0)) _ H6 _) H6 (Ex.refl _) _ fun H7 e7 => ?_
    have R7 := R5.mono (e6.trans e7)
    have hcat : refsA G s.lReads ++ as.map V.ref = (s.lReads.map (fun i => G.os.getD i 0) ++ as).map V.ref := by
      rw [List.map_append, List.map_map] <;> rfl
    rw [hcat] at hp6
    exact ⟨p6, some 0, _, s.lDcts, rfl, sq_of (e7 _ _ hp6), paired_app (refs_DL R7 _ idxs_lt) (Paired.mapP hpa fun x y h => (e6.trans e7) _ _ h), Nat.le_trans (lDcts_len s) hl, by decide, fun H8 e8 => k H8 (e1.trans (e15.trans (e6.trans (e7.trans e8))))⟩
end
end K10
end
section
set_option Elab.async false
set_option linter.all false
set_option maxRecDepth 100000
set_option maxHeartbeats 1000000
namespace K10
open PySem PySem.Spec PyProof.Rows L2 Evl
section
variable {K : PySem.W.Frag} {H : Hp} {σ : L2.St} {te tn : TE} {tu : TS} {D : Ends} {tz : TS}
theorem q_forR {n j : Nat} (h : Ev tn σ H (.int (n : Int))) (hz : n ≤ 1000) (Pv : Nat → L2.St → Hp → Prop) (h0 : ∀ H1, Ex H H1 → Pv 0 σ H1)
    (hs : ∀ (i : Nat) σ' H', i < n → Pv i σ' H' → tu { D with nx := Pv (i + 1), ct := Pv (i + 1), bk := tz D } (σ'.set j (some (.int (0 + (i : Int))))) H') (hd : ∀ σ' H', Pv n σ' H' → tz D σ' H') :
    tSeq (tFor (iRng1 (tCons tn tNil)) (gName j) tu) tz D σ H :=
  h H (Ex.refl _) _ fun H1 e1 => ⟨(n : Int), rfl, by omega, by omega, by
    refine ⟨fun i m σ H => m = n - i ∧ i ≤ n ∧ Pv i σ H, ⟨n, rfl, Nat.zero_le _, h0 H1 e1⟩, ?_⟩
    rintro i m σ H ⟨rfl, hi, p⟩
    by_cases hlt : i < n
    · refine .inr ⟨hlt, Pv (i + 1), fun σ' H' p' => ⟨n - (i + 1), by omega, rfl, hlt, p'⟩, fun v H' y => ?_⟩
      obtain ⟨rfl, rfl⟩ := y
      exact hs i σ H' hlt p
    · have e : i = n := by omega
      subst e
      exact .inl ⟨Nat.le_refl _, hd σ H p⟩⟩
end
section
variable {K : PySem.W.Frag} {H : Hp} {σ : L2.St} {ta tb : TE} {D : Ends} {tz : TS} {G : LLay} {s : S} {e : Evt} {E : XK}
theorem s_ldo (R : LawAt K H G s) (ha : Ev ta σ H (.ref G.h)) (hb : EvU tb σ H (evEnc e)) (h1 : s.ops.length ≤ 900) (h2 : s.past.length ≤ 900) (hok : levOk s e)
    (k : ∀ G' H', LawAt K H' G' (s.doEv e) → GrowL G G' H → Fr G.own H H' → D.nx σ H') : tDrop (tCall (spLDo K) [] E (tCons ta (tCons tb tNil))) D σ H :=
  ha H (Ex.refl H) _ fun H2 e2 => hb H2 e2 _ fun p H3 hp e3 h3 => ⟨G, s, p, e, rfl, R.mono (e2.trans e3), h3, h1, h2, hok, fun G' H' R' g F => k G' H' R' ⟨g.h, g.da, g.wa, fun b hb => by
    rcases g.own b hb with z | z
    · exact .inl z
    · exact .inr (Same.free (e2.trans e3) z), g.os⟩ ((Fr.of (e2.trans e3)).trans F)⟩
theorem q_ldo (R : LawAt K H G s) (ha : Ev ta σ H (.ref G.h)) (hb : EvU tb σ H (evEnc e)) (h1 : s.ops.length ≤ 900) (h2 : s.past.length ≤ 900) (hok : levOk s e)
    (k : ∀ G' H', LawAt K H' G' (s.doEv e) → GrowL G G' H → Fr G.own H H' → tz D σ H') : tSeq (tDrop (tCall (spLDo K) [] E (tCons ta (tCons tb tNil)))) tz D σ H :=
  s_ldo (D := { D with nx := tz D }) R ha hb h1 h2 hok k
end
section
variable {P : Program} {w : World} {base h0 : Heap} {K : PySem.W.Frag} {mg : Str → Option Value}
theorem os_keep {G G' : LLay} {H : Hp} (g : GrowL G G' H) {i : Nat} {a : Addr} (h : G.os[i]? = some a) : G'.os[i]? = some a := by
  obtain ⟨t, e⟩ := g.os
  rw [e, List.getElem?_append_left (List.getElem?_eq_some_iff.mp h).1]
  exact h
def spLAlone (K : PySem.W.Frag) : Sp := fun vs H Q _ => ∃ (G : LLay) (s : S) (wd : Wd), vs = [.ref G.h, .str wd.str] ∧ LawAt K H G s ∧ aloneOk s wd ∧
  ∀ G' H' (p t : Addr), LawAt K H' G' (s.lAlone wd) → G'.os[s.ops.length]? = some t → s.ops.length < (s.lAlone wd).ops.length → (∀ b ∈ G'.own, H b = none) → Ex H H' → H' p = some (.tup [.ref G'.h, .ref t]) → Q (.ref p) H'
theorem sc_L_alone : FnScope ["_law_h", "_law_first", "_law_after", "_law_number", "_law_one", "_law_turn", "_law_word_here"] ["_law_h", "_law_first"] (defScope s_L_alone) := ⟨rfl, rfl, rfl, by decide +kernel, rfl, by decide +kernel, by decide +kernel⟩
theorem ok_L_alone (T : Txt h0 K mg) : FnOk P w K mg base CX0 6 (He.ga K "_law_alone") (fdOf K (He.ga K "_law_alone")) ["_law_h", "_law_first"] (spLAlone K) := by
  refine FnOk.mono (j := 6) ((T.fn_L_alone).ok sc_L_alone (fun vs H Q E h => ?_) (fun cdv A outer st0 H vs Q E hr h => ?_)) (by decide)
  · obtain ⟨G, s, wd, rfl, _⟩ := h
    rfl
  · obtain ⟨G, s, wd, rfl, R, ⟨A, hlev, htn⟩, k⟩ := h
    refine ⟨_, PSs.nox ((pss_cons (ps_set (i := 2) sc_L_alone.nd rfl (Or.inl rfl) (pe_call (ok_L_run T) (hr.mono (by decide)) rfl T.g__law_run T.k_L_run T.b_L_run .nil pass0 (pa_cons (pe_dget (hu_of hr) (pv 0) pe_str (fun _ _ => rfl)) (pa_cons (pe_dget (hu_of hr) (pv 0) pe_str (fun _ _ => rfl)) (pa_cons (pe_dget (hu_of hr) (pv 0) pe_str (fun _ _ => rfl)) pa_nil)))))
      (pss_cons (ps_set (i := 3) sc_L_alone.nd rfl (Or.inl rfl) (pe_callB (call_lenK K) (by rfl) T.f_len (by decide +kernel) (pa_cons (pe_dget (hu_of hr) (pv 2) pe_str (fun _ _ => rfl)) pa_nil)))
      (pss_cons (ps_expr (pe_call (ok_L_do T) (hr.mono (by decide)) rfl T.g__law_do T.k_L_do T.b_L_do .nil pass0 (pa_cons (pv 2) (pa_cons (pe_tup (pa_cons (pv 1) (pa_cons (pv 3) pa_nil))) pa_nil))))
      (pss_cons (ps_set (i := 4) sc_L_alone.nd rfl (Or.inl rfl) (pe_ix (ix_listK K) (pe_dget (hu_of hr) (pv 2) pe_str (fun _ _ => rfl)) (pv 3) (fun _ _ => rfl)))
      (pss_cons (ps_for PassesOwn.never rfl (pi_range1 rfl T.f_range (pa_cons pe_int pa_nil)) (pg_name (i := 5) sc_L_alone.nd rfl (Or.inl rfl))
      (pss_cons (ps_set (i := 6) sc_L_alone.nd rfl (Or.inl rfl) (pe_ifExp (pt_cmpR (op_notInK K) (pe_dget (hu_of hr) (pv 4) pe_str (fun _ _ => rfl)) (pe_lst (pa_cons pe_str (pa_cons pe_str pa_nil))) rfl) (pe_call (ok_L_next T) (hr.mono (by decide)) rfl T.g__law_next T.k_L_next T.b_L_next .nil pass0 (pa_cons (pv 2) (pa_cons (pv 4) pa_nil))) pe_non))
      (pss_one (ps_if (pt_cmp (pc_notN (pv 6))) (pss_one (ps_expr (pe_call (ok_L_do T) (hr.mono (by decide)) rfl T.g__law_do T.k_L_do T.b_L_do .nil pass0 (pa_cons (pv 2) (pa_cons (pe_tup (pa_cons (pv 6) (pa_cons (pv 3) pa_nil))) pa_nil))))) pss_nil))))
      (pss_one (ps_ret (pe_tup (pa_cons (pv 2) (pa_cons (pv 4) pa_nil))))))))))), ?_⟩
    have aops := A.ops
    have alen := A.len
    refine q_call (vs := [.ref G.da, .ref G.wa, .ref G.pl]) (ea_cons (ev_sF R (ev_var rfl)) (ea_cons (ev_sF R (ev_var rfl)) (ea_cons (ev_sF R (ev_var rfl)) ea_nil))) fun H0 e0 => ⟨G.da, G.wa, G.pl, s.cfg, G.es, s.past, rfl, ex_t e0 R.des, ex_t e0 R.wor, sq_of (e0 _ _ R.pl), Paired.mapP R.ev fun x y h => e0 _ _ h, by omega, A.ok, fun G1 H1 R1' own1' e1' => ?_⟩
    have e1 := e0.trans e1'
    have own1 : ∀ b ∈ G1.own, H b = none := fun b hb => Same.free e0 (own1' b hb)
    rw [A.c] at R1'
    have R1 : LawAt K H1 G1 s := R1'
    refine q_asg (v := .int ((s.ops.length : Nat) : Int)) (ev_is (ev_len (ev_sF R1 (ev_var rfl)) (sq_of R1.ol)) (by rw [List.length_map, R1.len])) fun H2 e2 => ?_
    have R2 := R1.mono e2
    refine q_ldo (e := .op wd s.ops.length) R2 (ev_var rfl) (eu_tup (ea_cons (ev_var rfl) (ea_cons (ev_var rfl) ea_nil)) (by show 2 ≤ 100000; decide)) (by omega) (by omega) hlev fun G5 H5 R5 g5 F5 => ?_
    have e14 := e1.trans e2
    have own5 : ∀ b ∈ G5.own, H b = none := fun b hb => by
      rcases g5.own b hb with z | z
      · exact own1 b z
      · exact Same.free e14 z
    have e5 : Ex H H5 := fun b o eb => F5 b o (e14 b o eb) fun z => by
      rw [own1 b z] at eb
      cases eb
    have hn := doEv_begins s wd
    have hn2 : s.ops.length < G5.os.length := by rw [R5.len]; exact hn
    have ht : G5.os[s.ops.length]? = some G5.os[s.ops.length] := List.getElem?_eq_getElem hn2
    generalize G5.os[s.ops.length] = t at ht
    refine q_asg (v := .ref t) (ev_op (ev_sF R5 (ev_is (ev_var rfl) (by rw [g5.h]))) (ev_var rfl) (rv_ixL (sq_of R5.ol) (L2.at_of (j := s.ops.length) rfl (by rw [List.getElem?_map, ht] <;> rfl)))) fun H6 e6 => ?_
    refine q_forR (n := 4) ev_c (by decide) (fun i σ H' => ∃ (G7 : LLay) (x y : Option V), σ = [some (.ref G.h), some (.str wd.str), some (.ref G7.h), some (.int ((s.ops.length : Nat) : Int)), some (.ref t), x, y] ∧ LawAt K H' G7 (S.lTurns i (s.doEv (.op wd s.ops.length)) s.ops.length) ∧ (∀ b ∈ G7.own, H b = none) ∧ Ex H H' ∧ G7.os[s.ops.length]? = some t ∧
      s.ops.length < (S.lTurns i (s.doEv (.op wd s.ops.length)) s.ops.length).ops.length ∧ (S.lTurns i (s.doEv (.op wd s.ops.length)) s.ops.length).ops.length ≤ 61 + i ∧ (S.lTurns i (s.doEv (.op wd s.ops.length)) s.ops.length).past.length ≤ 61 + i) ?_ ?_ ?_
    · intro H7 e7
      refine ⟨G5, none, none, ?_, R5.mono (e6.trans e7), own5, e5.trans (e6.trans e7), ht, hn, ?_, ?_⟩
      · rw [g5.h] <;> rfl
      · have := doEv_ops s (.op wd s.ops.length)
        show (s.doEv (.op wd s.ops.length)).ops.length ≤ _
        omega
      · show (s.doEv (.op wd s.ops.length)).past.length ≤ _
        rw [doEv_past, List.length_append]
        show s.past.length + 1 ≤ _
        omega
    · rintro i σ H7 hi ⟨G7, x, y, rfl, R7, o7, e7, ht7, hn7, hb1, hb2⟩
      have htn7 := htn i hi
      generalize hu : S.lTurns i (s.doEv (.op wd s.ops.length)) s.ops.length = u at R7 hn7 hb1 hb2 htn7
      have hu2 : S.lTurns (i + 1) (s.doEv (.op wd s.ops.length)) s.ops.length = u.lTurn s.ops.length := by rw [← hu] <;> rfl
      rw [hu2]
      obtain ⟨hw7, hlev7⟩ := htn7
      have ho := ops_at hn7
      have hlt := lTurn_ops u s.ops.length
      refine q_asg (v := wV (u.lWord s.ops.length)) (ev_is (ev_ifx (b := (u.at s.ops.length).going) (et_is (et_test (ev_niL (ev_oF R7 ht7 ho (ev_var rfl)) (el_lst (ea_cons ev_c (ea_cons ev_c ea_nil)) (by show 2 ≤ 100000; decide)) rfl rfl)) (going_in _)) (fun _ => ev_lnext R7 ht7 ho hw7 (ev_var rfl) (ev_var rfl)) (fun _ => ev_c)) (by unfold S.lWord; split <;> rfl)) fun H8 e8 => ?_
      cases hnx : u.lWord s.ops.length with
      | none =>
        refine s_when (b := false) (et_B (ev_is (ev_notN (ev_var rfl)) rfl)) (fun z => by cases z) (fun _ H9 e9 => ?_)
        have hsame : u.lTurn s.ops.length = u := by
          unfold S.lTurn
          rw [hnx]
        rw [hsame]
        exact ⟨G7, _, _, rfl, R7.mono (e8.trans e9), o7, e7.trans (e8.trans e9), ht7, hn7, by omega, by omega⟩
      | some wd2 =>
        refine s_when (b := true) (et_B (ev_is (ev_notN (ev_var rfl)) rfl)) (fun _ H9 e9 => ?_) (fun z => by cases z)
        have hsame : u.lTurn s.ops.length = u.doEv (.op wd2 s.ops.length) := by
          unfold S.lTurn
          rw [hnx]
        refine s_ldo (e := .op wd2 s.ops.length) (R7.mono (e8.trans e9)) (ev_var rfl) (eu_tup (ea_cons (ev_var rfl) (ea_cons (ev_var rfl) ea_nil)) (by show 2 ≤ 100000; decide)) (by omega) (by omega) (hlev7 _ hnx) fun G12 H12 R12 g12 F12 => ?_
        have e711 := e7.trans (e8.trans e9)
        rw [hsame] at hlt ⊢
        refine ⟨G12, some (.int (0 + (i : Int))), some (.str wd2.str), ?_, R12, fun b hb => ?_, fun b o eb => ?_, os_keep g12 ht7, by omega, by omega, by omega⟩
        · rw [g12.h] <;> rfl
        · rcases g12.own b hb with z | z
          · exact o7 b z
          · exact Same.free e711 z
        · exact F12 b o (e711 b o eb) fun z => by
            rw [o7 b z] at eb
            cases eb
    · rintro σ H7 ⟨G7, x, y, rfl, R7, o7, e7, ht7, hn7, hb1, hb2⟩
      refine (eu_tup (ea_cons (ev_var rfl) (ea_cons (ev_var rfl) ea_nil)) (by show 2 ≤ 100000; decide)) H7 (Ex.refl _) _ fun p H8 np e8 hp => ?_
      exact k G7 H8 p t (R7.mono e8) ht7 hn7 o7 (e7.trans e8) hp
end
end K10
end
section
set_option Elab.async false
set_option linter.all false
set_option maxRecDepth 100000
set_option maxHeartbeats 1000000
namespace K10
open PySem PySem.Spec PyProof.Rows L2 Evl
section
variable {K : PySem.W.Frag} {H : Hp} {σ : L2.St} {te ta tb : TE} {tr : TA} {D : Ends} {tz : TS} {G : LLay} {s : S} {e : Evt} {E : XK} {Q : VK} {r : R2} {sp : Sp}
theorem x_alone {wd : Wd} (R : LawAt K H G s) (hok : aloneOk s wd) (ha : Ev ta σ H (.ref G.h)) (hb : ∀ H1, Ex H H1 → Ev tb σ H1 (.str wd.str))
    (k : ∀ G' H' (p t : Addr), LawAt K H' G' (s.lAlone wd) → G'.os[s.ops.length]? = some t → s.ops.length < (s.lAlone wd).ops.length → (∀ b ∈ G'.own, H b = none) → Ex H H' → H' p = some (.tup [.ref G'.h, .ref t]) → Q (.ref p) H') : tCall (spLAlone K) [] E (tCons ta (tCons tb tNil)) σ H Q :=
  ha H (Ex.refl _) _ fun H1 e1 => hb H1 e1 H1 (Ex.refl _) _ fun H2 e2 => ⟨G, s, wd, rfl, R.mono (e1.trans e2), hok, fun G' H' p t R' h1 h2 h3 h4 h5 => k G' H' p t R' h1 h2 (fun b hb => Same.free (e1.trans e2) (h3 b hb)) ((e1.trans e2).trans h4) h5⟩
theorem s_retArg (h : te σ H (fun v H1 => sp ([v] ++ []) H1 D.rt E)) : tRet (tCall sp [] E (tCons te tNil)) D σ H := h
theorem x_op (h : ta σ H fun x H1 => tb σ H1 fun y H2 => r x y H2 Q) : tOp r ta tb σ H Q := h
theorem q_asgT {i j : Nat} (h : ∀ Q : VK, (∀ (a : Addr) (x y : V) H1, SqT K H1 a [x, y] → tz D ((σ.set i (some x)).set j (some y)) H1 → Q (.ref a) H1) → te σ H Q) : tSeq (tAsg te (gTup K 2 (gCons (gName i) (gCons (gName j) gNil)))) tz D σ H :=
  h _ fun a x y H1 hx k => ⟨a, [x, y], rfl, hx, rfl, x, _, rfl, y, _, rfl, rfl, k⟩
end
section
variable {P : Program} {w : World} {base h0 : Heap} {K : PySem.W.Frag} {mg : Str → Option Value}
def spLRest (K : PySem.W.Frag) : Sp := fun vs H Q _ => ∃ (G : LLay) (s : S) (p : Pr), vs = [.ref G.h, .str p.str] ∧ LawAt K H G s ∧ aloneOk s .look ∧ aloneOk s s.first ∧ RetV (.bl (s.lRest p)) H Q
theorem sc_L_at_rest : FnScope ["_law_h", "_law_promise", "_law_after", "_law_one"] ["_law_h", "_law_promise"] (defScope s_L_at_rest) := ⟨rfl, rfl, rfl, by decide +kernel, rfl, by decide +kernel, by decide +kernel⟩
theorem ok_L_at_rest (T : Txt h0 K mg) : FnOk P w K mg base CX0 7 (He.ga K "_law_at_rest") (fdOf K (He.ga K "_law_at_rest")) ["_law_h", "_law_promise"] (spLRest K) := by
  refine FnOk.mono (j := 7) ((T.fn_L_at_rest).ok sc_L_at_rest (fun vs H Q E h => ?_) (fun cdv A outer st0 H vs Q E hr h => ?_)) (by decide)
  · obtain ⟨G, s, p, rfl, _⟩ := h
    rfl
  · obtain ⟨G, s, p, rfl, R, A1, A2, k⟩ := h
    refine ⟨_, PSs.nox ((pss_cons (ps_if (pt_cmpR op_eq (pv 1) pe_str (nomark _)) (pss_one (ps_ret (pe_call (ok_L_behind T) (hr.mono (by decide)) rfl T.g__law_behind T.k_L_behind T.b_L_behind .nil pass0 (pa_cons (pv 0) pa_nil)))) pss_nil)
      (pss_cons (ps_if (pt_cmpR op_eq (pv 1) pe_str (nomark _)) (pss_one (ps_ret (pe_call (ok_L_behind T) (hr.mono (by decide)) rfl T.g__law_behind T.k_L_behind T.b_L_behind .nil pass0 (pa_cons (pe_ix (ix_tupK K) (pe_call (ok_L_alone T) (hr.mono (by decide)) rfl T.g__law_alone T.k_L_alone T.b_L_alone .nil pass0 (pa_cons (pv 0) (pa_cons (pe_ix (ix_listK K) (pe_split (pe_ix (ix_tupK K) (pe_dget (hu_of hr) (pv 0) pe_str (fun _ _ => rfl)) pe_int (fun _ _ => rfl)) pe_str) pe_int (fun _ _ => rfl)) pa_nil))) pe_int (fun _ _ => rfl)) pa_nil)))) pss_nil)
      (pss_cons (ps_asg (pe_call (ok_L_alone T) (hr.mono (by decide)) rfl T.g__law_alone T.k_L_alone T.b_L_alone .nil pass0 (pa_cons (pv 0) (pa_cons pe_str pa_nil))) (pg_tupK K (pgs_cons (pg_name (i := 2) sc_L_at_rest.nd rfl (Or.inl rfl)) (pgs_cons (pg_name (i := 3) sc_L_at_rest.nd rfl (Or.inl rfl)) pgs_nil))))
      (pss_one (ps_ret (pe_or (pe_cmpR op_ne (pe_dget (hu_of hr) (pv 3) pe_str (fun _ _ => rfl)) pe_str (nomark _)) (pe_one (pe_cmpR op_ne (pe_dget (hu_of hr) (pv 2) pe_str (fun _ _ => rfl)) (pe_dget (hu_of hr) (pv 3) pe_str (fun _ _ => rfl)) (nomark _)))))))))), ?_⟩
    have pis : ∀ {H1 : Hp} (q : Pr) {z : Str}, z = q.str → EvT (tTest (tOp rEq (tVar 1) (tC (.str z)))) [some (.ref G.h), some (.str p.str), none, none] H1 (decide (p = q)) := fun {H1} q {z} hz => et_test (ev_is (ev_op (ev_var rfl) ev_c (rv_eq rfl)) (congrArg V.bl (p_is p q hz)))
    refine q_when (pis .rest rfl) (fun hb H1 e1 => ?_) (fun hb1 H1 e1 => ?_)
    · have hb := of_decide_eq_true hb
      subst hb
      refine s_ret (ev_call (vs := [.ref G.h]) (dvs := []) (ea_cons (ev_var rfl) ea_nil) fun H2 e2 Q q E => ⟨G, s, rfl, R.mono (e1.trans e2), q⟩) fun H2 e2 => k H2 (e1.trans e2)
    refine q_when (pis .mended rfl) (fun hb H2 e2 => ?_) (fun hb2 H2 e2 => ?_)
    · have hb := of_decide_eq_true hb
      subst hb
      have R2 := R.mono (e1.trans e2)
      refine s_retArg (x_op (x_alone R2 A2 (ev_var rfl) (fun H3 e3 => ev_opL1 (el_steps (R2.mono e3) (ev_var rfl)) (fun _ _ => ev_c) fun p H2 hp e2 => rv_ixL (sq_of hp) (L2.at_of (j := 0) rfl (by rw [List.getElem?_map, first_at] <;> rfl))) fun G' H' p t R' ht hn own' e' hp => ?_))
      refine ev_c H' (Ex.refl _) _ fun H4 e4 => ?_
      exact rv_ixT (st_of hp) rfl H4 e4 _ fun H6 e6 => ⟨G', _, rfl, R'.mono (e4.trans e6), fun H5 e5 => k H5 (e1.trans (e2.trans (e'.trans (e4.trans (e6.trans e5)))))⟩
    have R2 := R.mono (e1.trans e2)
    refine q_asgT (K := K) fun Q' kk => x_alone (wd := .look) R2 A1 (ev_var rfl) (fun H3 e3 => ev_c) fun G' H' q t R' ht hn own' e' hp => kk q _ _ H' (st_of hp) ?_
    have ho := ops_at hn
    have hr : s.lRest p = (!decide (((s.lAlone .look).at s.ops.length).stage = .ended) || !decide ((s.lAlone .look).cache = ((s.lAlone .look).at s.ops.length).ver)) := by
      have n1 := of_decide_eq_false hb1
      have n2 := of_decide_eq_false hb2
      cases p <;> first | exact absurd rfl n1 | exact absurd rfl n2 | rfl
    refine s_ret (ev_is (ev_orV (a := !decide (((s.lAlone .look).at s.ops.length).stage = .ended)) (b := !decide ((s.lAlone .look).cache = ((s.lAlone .look).at s.ops.length).ver)) (ev_is (ev_op (ev_oF R' ht ho (ev_var rfl)) ev_c (rv_ne rfl)) (by rw [show decide (V.str ((s.lAlone .look).at s.ops.length).stage.str = V.str "ended") = _ from w_is _ .ended rfl])) fun _ => ev_is (ev_op (ev_sF R' (ev_var rfl)) (ev_oF R' ht ho (ev_var rfl)) (rv_ne (oV_scal _ _))) (by rw [oV_eq])) (congrArg V.bl hr.symm)) fun H5 e5 => k H5 (e1.trans (e2.trans (e'.trans e5)))
def spLPromises : Sp := fun vs H Q _ => vs = [] ∧ ∀ p H', H p = none → Ex H H' → H' p = some (.lst (Pr.all.map fun p => V.str p.str)) → Q (.ref p) H'
theorem sc_L_promises : FnScope [] [] (defScope s_L_promises) := ⟨rfl, rfl, rfl, by decide +kernel, rfl, by decide +kernel, by decide +kernel⟩
theorem ok_L_promises (T : Txt h0 K mg) : FnOk P w K mg base CX0 1 (He.ga K "_law_promises") (fdOf K (He.ga K "_law_promises")) [] (spLPromises) := by
  refine FnOk.mono (j := 1) ((T.fn_L_promises).ok sc_L_promises (fun vs H Q E h => ?_) (fun cdv A outer st0 H vs Q E hr h => ?_)) (by decide)
  · obtain ⟨rfl, _⟩ := h
    rfl
  · obtain ⟨rfl, k⟩ := h
    refine ⟨_, PSs.nox ((pss_one (ps_ret (pe_lst (pa_cons pe_str (pa_cons pe_str (pa_cons pe_str (pa_cons pe_str (pa_cons pe_str (pa_cons pe_str (pa_cons pe_str (pa_cons pe_str (pa_cons pe_str (pa_cons pe_str pa_nil)))))))))))))), ?_⟩
    exact el_lst (vs := Pr.all.map fun p => V.str p.str) (ea_cons ev_c (ea_cons ev_c (ea_cons ev_c (ea_cons ev_c (ea_cons ev_c (ea_cons ev_c (ea_cons ev_c (ea_cons ev_c (ea_cons ev_c (ea_cons ev_c ea_nil)))))))))) (by show 10 ≤ 100000; decide) H (Ex.refl _) _ fun p H1 np e1 hp => k p H1 np e1 hp
end
end K10
end
section
set_option Elab.async false
set_option linter.all false
set_option maxRecDepth 100000
set_option maxHeartbeats 1000000
namespace K10
open PySem PySem.Spec PyProof.Rows L2 Evl
theorem pr3 (p : Pr) : inV (V.str p.str) [V.str "rest", V.str "mended", V.str "filled"] = (decide (p = .rest) || decide (p = .mended) || decide (p = .filled)) := by
  cases p <;> decide +kernel
theorem st2L (w : Wd) : inV (V.str w.str) [V.str "fetch", V.str "fill"] = (decide (w = .fetch) || decide (w = .fill)) := by
  cases w <;> decide +kernel
section
variable {P : Program} {w : World} {base h0 : Heap} {K : PySem.W.Frag} {mg : Str → Option Value}
def spLBroken (K : PySem.W.Frag) : Sp := fun vs H Q _ => ∃ (G : LLay) (s : S) (p : Pr), vs = [.ref G.h, .str p.str] ∧ LawAt K H G s ∧ s.ops.length ≤ 18 ∧ waitOk s ∧ endedOk s ∧ aloneOk s .look ∧ aloneOk s s.first ∧ RetV (.bl (s.lBroken p)) H Q
theorem sc_L_broken : FnScope ["_law_h", "_law_promise", "_law_going_here", "_law_last", "_law_one"] ["_law_h", "_law_promise"] (defScope s_L_broken) := ⟨rfl, rfl, rfl, by decide +kernel, rfl, by decide +kernel, by decide +kernel⟩
theorem ok_L_broken (T : Txt h0 K mg) : FnOk P w K mg base CX0 22 (He.ga K "_law_broken") (fdOf K (He.ga K "_law_broken")) ["_law_h", "_law_promise"] (spLBroken K) := by
  refine FnOk.mono (j := 22) ((T.fn_L_broken).ok sc_L_broken (fun vs H Q E h => ?_) (fun cdv A outer st0 H vs Q E hr h => ?_)) (by decide)
  · obtain ⟨G, s, p, rfl, _⟩ := h
    rfl
  · obtain ⟨G, s, p, rfl, R, hl, hw, hen, A1, A2, k⟩ := h
    refine ⟨_, PSs.nox ((pss_cons (ps_set (i := 2) sc_L_broken.nd rfl (Or.inl rfl) (pe_call (ok_L_going T) (hr.mono (by decide)) rfl T.g__law_going T.k_L_going T.b_L_going .nil pass0 (pa_cons (pv 0) pa_nil)))
      (pss_cons (ps_if (pt_cmpR (op_inK K) (pv 1) (pe_lst (pa_cons pe_str (pa_cons pe_str (pa_cons pe_str pa_nil)))) rfl) (pss_one (ps_ret (pe_and (pe_cmpR (op_eqN K (lenU2 hr.units)) (pv 2) (pe_lst pa_nil) (nomark _)) (pe_one (pe_call (ok_L_at_rest T) (hr.mono (by decide)) rfl T.g__law_at_rest T.k_L_at_rest T.b_L_at_rest .nil pass0 (pa_cons (pv 0) (pa_cons (pv 1) pa_nil))))))) pss_nil)
      (pss_cons (ps_if (pt_cmpR op_eq (pv 1) pe_str (nomark _)) (pss_one (ps_ret (pe_not (pe_call (ok_L_in_order T) (hr.mono (by decide)) rfl T.g__law_in_order T.k_L_in_order T.b_L_in_order .nil pass0 (pa_cons (pv 0) pa_nil))))) pss_nil)
      (pss_cons (ps_if (pt_cmpR op_eq (pv 1) pe_str (nomark _)) (pss_one (ps_ret (pe_cmpR (op_neN K (lenU2 hr.units)) (pe_lc (own := [("_law_one", 4)]) (g := (gName 4)) rfl sc_L_broken.nd (pi_listK K (pv 2)) (blkOk_by (N := ["_law_h", "_law_promise", "_law_going_here", "_law_last", "_law_one"]) (sc := defScope s_L_broken) (by decide +kernel)) (fun _ _ _ _ _ => (pg_name (i := 4) sc_L_broken.nd rfl (Or.inl rfl))) (fun _ _ _ _ _ => (pts_one (pt_cmp (pc_isN (pe_call (ok_L_next T) (hr.mono (by decide)) rfl T.g__law_next T.k_L_next T.b_L_next .nil pass0 (pa_cons (pv 0) (pa_cons (pv 4) pa_nil))))))) (fun _ _ _ _ _ => (pv 4))) (pe_lst pa_nil) (nomark _)))) pss_nil)
      (pss_cons (ps_if (pt_cmpR op_eq (pv 1) pe_str (nomark _)) (pss_one (ps_ret (pe_cmpR (op_neN K (lenU2 hr.units)) (pe_lc (own := [("_law_one", 4)]) (g := (gName 4)) rfl sc_L_broken.nd (pi_listK K (pv 2)) (blkOk_by (N := ["_law_h", "_law_promise", "_law_going_here", "_law_last", "_law_one"]) (sc := defScope s_L_broken) (by decide +kernel)) (fun _ _ _ _ _ => (pg_name (i := 4) sc_L_broken.nd rfl (Or.inl rfl))) (fun _ _ _ _ _ => (pts_one (PW.pt (pw_and (pt_cmpR op_eq (pe_dget (hu_of hr) (pv 4) pe_str (fun _ _ => rfl)) pe_str (nomark _)) (pw_and1 (pt_cmpR op_eq (pe_dget (hu_of hr) (pe_ix (ix_listK K) (pe_dget (hu_of hr) (pv 0) pe_str (fun _ _ => rfl)) (pe_dget (hu_of hr) (pv 4) pe_str (fun _ _ => rfl)) (fun _ _ => rfl)) pe_str (fun _ _ => rfl)) pe_str (nomark _))))))) (fun _ _ _ _ _ => (pv 4))) (pe_lst pa_nil) (nomark _)))) pss_nil)
      (pss_cons (ps_if (pt_cmpR op_eq (pv 1) pe_str (nomark _)) (pss_one (ps_ret (pe_cmpR op_gt (pe_callB (call_lenK K) (by rfl) T.f_len (by decide +kernel) (pa_cons (pe_lc (own := [("_law_one", 4)]) (g := (gName 4)) rfl sc_L_broken.nd (pi_listK K (pv 2)) (blkOk_by (N := ["_law_h", "_law_promise", "_law_going_here", "_law_last", "_law_one"]) (sc := defScope s_L_broken) (by decide +kernel)) (fun _ _ _ _ _ => (pg_name (i := 4) sc_L_broken.nd rfl (Or.inl rfl))) (fun _ _ _ _ _ => (pts_one (pt_cmpR (op_inK K) (pe_dget (hu_of hr) (pv 4) pe_str (fun _ _ => rfl)) (pe_lst (pa_cons pe_str (pa_cons pe_str pa_nil))) rfl))) (fun _ _ _ _ _ => (pv 4))) pa_nil)) pe_int (nomark _)))) pss_nil)
      (pss_cons (ps_setLc (i := 3) (own := [("_law_one", 4)]) (g := (gName 4)) rfl sc_L_broken.nd rfl rfl (sw_true rfl rfl rfl (by decide +kernel)) (pi_listK K (pe_dget (hu_of hr) (pv 0) pe_str (fun _ _ => rfl))) (blkOk_by (N := ["_law_h", "_law_promise", "_law_going_here", "_law_last", "_law_one"]) (sc := defScope s_L_broken) (by decide +kernel)) (fun _ _ _ _ _ => (pg_name (i := 4) sc_L_broken.nd rfl (Or.inl rfl))) (fun _ _ _ _ _ => (pts_one (PW.pt (pw_and (pt_cmpR op_eq (pe_dget (hu_of hr) (pv 4) pe_str (fun _ _ => rfl)) pe_str (nomark _)) (pw_and (pt_cmpR op_eq (pe_dget (hu_of hr) (pv 4) pe_str (fun _ _ => rfl)) pe_str (nomark _)) (pw_and1 (pt_cmpR op_eq (pe_dget (hu_of hr) (pv 4) pe_str (fun _ _ => rfl)) (pe_op op_sub (pe_callB (call_lenK K) (by rfl) T.f_len (by decide +kernel) (pa_cons (pe_dget (hu_of hr) (pv 0) pe_str (fun _ _ => rfl)) pa_nil)) pe_int) (nomark _)))))))) (fun _ _ _ _ _ => (pv 4)))
      (pss_cons (ps_if (pt_cmpR (op_eqN K (lenU2 hr.units)) (pv 3) (pe_lst pa_nil) (nomark _)) (pss_one (ps_ret pe_bl)) pss_nil)
      (pss_cons (ps_if (pt_cmpR op_eq (pv 1) pe_str (nomark _)) (pss_one (ps_ret (pe_and (pe_call (ok_L_was_quiet T) (hr.mono (by decide)) rfl T.g__law_was_quiet T.k_L_was_quiet T.b_L_was_quiet .nil pass0 (pa_cons (pv 0) (pa_cons (pe_ix (ix_listK K) (pv 3) pe_int (fun _ _ => rfl)) pa_nil))) (pe_one (pe_cmpR op_lt (pe_dget (hu_of hr) (pe_ix (ix_listK K) (pv 3) pe_int (fun _ _ => rfl)) pe_str (fun _ _ => rfl)) (pe_dget (hu_of hr) (pv 0) pe_str (fun _ _ => rfl)) (nomark _)))))) pss_nil)
      (pss_one (ps_ret (pe_cmpR op_lt (pe_dget (hu_of hr) (pe_ix (ix_listK K) (pv 3) pe_int (fun _ _ => rfl)) pe_str (fun _ _ => rfl)) (pe_call (ok_L_before T) (hr.mono (by decide)) rfl T.g__law_before T.k_L_before T.b_L_before .nil pass0 (pa_cons (pv 0) (pa_cons (pe_ix (ix_listK K) (pv 3) pe_int (fun _ _ => rfl)) (pa_cons (pe_ifExp (pt_cmpR op_eq (pv 1) pe_str (nomark _)) pe_str pe_str) pa_nil)))) (nomark _)))))))))))))), ?_⟩
    refine q_asgL (el_goA R (by omega) (ev_var rfl)) fun g H1 ng e1 hg => ?_
    have R1 := R.mono e1
    have hgl := gos_len s
    have hg' : H1 g = some (.lst (refsA G (gos s))) := hg
    have glt : ∀ i ∈ gos s, i < s.ops.length := fun i hi => idxs_lt (q := Op.going) i hi
    have pis : ∀ {H1 : Hp} {x : Option V} (q : Pr) {z : Str}, z = q.str → EvT (tTest (tOp rEq (tVar 1) (tC (.str z)))) [some (.ref G.h), some (.str p.str), some (.ref g), x, none] H1 (decide (p = q)) := fun {H1 x} q {z} hz => et_test (ev_is (ev_op (ev_var rfl) ev_c (rv_eq rfl)) (congrArg V.bl (p_is p q hz)))
    refine q_when (b := (decide (p = .rest) || decide (p = .mended) || decide (p = .filled))) (et_is (et_test (ev_isL (ev_var rfl) (el_lst (ea_cons ev_c (ea_cons ev_c (ea_cons ev_c ea_nil))) (by show 3 ≤ 100000; decide)) rfl rfl)) (pr3 p)) (fun hb H2 e2 => ?_) (fun hb0 H2 e2 => ?_)
    · have hv : s.lBroken p = ((gos s).isEmpty && s.lRest p) := by
        unfold S.lBroken
        rw [if_pos hb]
      rw [hv] at k
      refine s_ret (ev_andV (ev_is (ev_eqNilV (ev_var rfl) (sq_of (e2 _ _ hg'))) (congrArg V.bl (refsA_empty G _))) fun _ => ev_call (vs := [.ref G.h, .str p.str]) (dvs := []) (ea_cons (ev_var rfl) (ea_cons (ev_var rfl) ea_nil)) fun H3 e3 Q q E => ⟨G, s, p, rfl, R1.mono (e2.trans e3), A1, A2, q⟩) fun H3 e3 => k H3 (e1.trans (e2.trans e3))
    have e02 := e1.trans e2
    have hg2 : H2 g = some (.lst (refsA G (gos s))) := e2 _ _ hg'
    have R2 := R1.mono e2
    clear R1 hg hg' e2 e1
    refine q_when (pis .linear rfl) (fun hb H3 e3 => ?_) (fun hb1 H3 e3 => ?_)
    · have hb := of_decide_eq_true hb
      subst hb
      exact s_ret (v := .bl (!s.lOrder)) (ev_notV (ev_call (vs := [.ref G.h]) (dvs := []) (ea_cons (ev_var rfl) ea_nil) fun H4 e4 Q q E => ⟨G, s, rfl, R2.mono (e3.trans e4), hl, q⟩)) fun H4 e4 => k H4 (e02.trans (e3.trans e4))
    have e03 := e02.trans e3
    have hg3 : H3 g = some (.lst (refsA G (gos s))) := e3 _ _ hg2
    have R3 := R2.mono e3
    clear R2 hg2 e3 e02
    have refv : ∀ {H' : Hp} {σ : L2.St} {i : Nat} {a : Addr}, σ[4]? = some (some (V.ref a)) → G.os[i]? = some a → Ev (tVar 4) σ H' (V.ref (G.os.getD i 0)) := fun {H' σ i a} hs h => by
      rw [List.getD_eq_getElem?_getD, h]
      exact ev_var hs
    refine q_when (pis .moving rfl) (fun hb H4 e4 => ?_) (fun hb2 H4 e4 => ?_)
    · have hb := of_decide_eq_true hb
      subst hb
      have R4 := R3.mono e4
      refine s_ret (ev_is (ev_neNil (el_refs R4 glt (ev_var rfl) (e4 _ _ hg3) (by omega) (fun i => decide (s.nextW (s.at i) = none)) (fun i => V.ref (G.os.getD i 0)) (fun _ => rfl) (fun i a H5 e5 hi ha ho => et_B (ev_is (ev_isN (ev_lnext (R4.mono e5) ha ho hw (ev_var rfl) (ev_var rfl))) (show V.bl (decide (wV (s.nextW (s.at i)) = .non)) = _ by cases s.nextW (s.at i) <;> rfl))) (fun i a H5 e5 hi _ ha ho => refv rfl ha))) ?_) fun H5 e5 => k H5 (e03.trans (e4.trans e5))
      rw [List.isEmpty_map]
      rfl
    have e04 := e03.trans e4
    have hg4 : H4 g = some (.lst (refsA G (gos s))) := e4 _ _ hg3
    have R4 := R3.mono e4
    clear R3 hg3 e4 e03
    refine q_when (pis .ending rfl) (fun hb H5 e5 => ?_) (fun hb3 H5 e5 => ?_)
    · have hb := of_decide_eq_true hb
      subst hb
      have R5 := R4.mono e5
      refine s_ret (ev_is (ev_neNil (el_refs R5 glt (ev_var rfl) (e5 _ _ hg4) (by omega) (fun i => s.isEnding (s.at i)) (fun i => V.ref (G.os.getD i 0)) (fun _ => rfl) (fun i a H6 e6 hi ha ho => et_and (et_test (ev_is (ev_op (ev_oF (R5.mono e6) ha ho (ev_var rfl)) ev_c (rv_eq rfl)) (congrArg V.bl (w_is _ .waits rfl)))) fun hwt => ?_) (fun i a H6 e6 hi _ ha ho => refv rfl ha))) ?_) fun H6 e6 => k H6 (e04.trans (e5.trans e6))
      · obtain ⟨j, q, hj, hq⟩ := hw i _ ho (of_decide_eq_true hwt)
        have R6 := R5.mono e6
        obtain ⟨b, hb1, hb2⟩ := R6.at hq
        have el : s.ldr (s.at i) = q := by
          unfold S.ldr
          rw [hj]
          exact at_of hq
        rw [el]
        exact et_test (ev_is (ev_op (ev_oF R6 hb1 hq (ev_op (ev_sF R6 (ev_var rfl)) (ev_oF R6 ha ho (ev_var rfl)) (by rw [hj]; exact rv_ixL (sq_of R6.ol) (L2.at_of (j := j) rfl (by rw [List.getElem?_map, hb1] <;> rfl))))) ev_c (rv_eq rfl)) (congrArg V.bl (w_is _ .stopped rfl)))
      · rw [List.isEmpty_map]
        rfl
    have e05 := e04.trans e5
    have hg5 : H5 g = some (.lst (refsA G (gos s))) := e5 _ _ hg4
    have R5 := R4.mono e5
    clear R4 hg4 e5 e04
    refine q_when (pis .single rfl) (fun hb H6 e6 => ?_) (fun hb4 H6 e6 => ?_)
    · have hb := of_decide_eq_true hb
      subst hb
      have R6 := R5.mono e6
      refine s_ret (ev_is (ev_op (ev_lenN (el_refs R6 glt (ev_var rfl) (e6 _ _ hg5) (by omega) (fun i => (s.at i).inFetch) (fun i => V.ref (G.os.getD i 0)) (fun _ => rfl) (fun i a H7 e7 hi ha ho => et_is (et_test (ev_isL (ev_oF (R6.mono e7) ha ho (ev_var rfl)) (el_lst (ea_cons ev_c (ea_cons ev_c ea_nil)) (by show 2 ≤ 100000; decide)) rfl rfl)) (st2L _)) (fun i a H7 e7 hi _ ha ho => refv rfl ha))) ev_c rv_I0) ?_) fun H7 e7 => k H7 (e05.trans (e6.trans e7))
      rw [List.length_map]
      rfl
    have e06 := e05.trans e6
    have R6 := R5.mono e6
    clear R5 hg5 e6 e05
    refine q_asgL (el_ops R6 (ev_var rfl) (by omega) (fun o => decide (o.wr = false) && (decide (o.stage = .ended) && decide (o.over = some (s.now - 1)))) (fun _ => rfl) (fun j b H7 e7 hb hob => et_and (et_test (ev_is (ev_op (ev_oF (R6.mono e7) hb hob (ev_var rfl)) ev_c (rv_eq rfl)) (congrArg V.bl (kind_is _ false)))) fun _ => et_and (et_test (ev_is (ev_op (ev_oF (R6.mono e7) hb hob (ev_var rfl)) ev_c (rv_eq rfl)) (congrArg V.bl (w_is _ .ended rfl)))) fun _ => et_test (ev_is (ev_op (ev_oF (R6.mono e7) hb hob (ev_var rfl)) (ev_is (ev_op (ev_len (ev_sF (R6.mono e7) (ev_var rfl)) (sq_of (R6.mono e7).pl)) ev_c rv_I0) (show _ = oV (some (s.now - 1)) by rw [R6.now] <;> rfl)) (rv_eq (oV_scal _ _))) (congrArg V.bl (oV_eq _ _)))) (fun x H1 => ev_var rfl)) fun q H7 nq e7 hq => ?_
    have R7 := R6.mono e7
    have e07 := e06.trans e7
    have n0 : ¬ (decide (p = .rest) || decide (p = .mended) || decide (p = .filled)) = true := by rw [hb0]; decide
    have n1 := of_decide_eq_false hb1
    have n2 := of_decide_eq_false hb2
    have n3 := of_decide_eq_false hb3
    have n4 := of_decide_eq_false hb4
    have hq' : H7 q = some (.lst (refsA G s.lLast)) := hq
    refine q_when (et_is (et_test (ev_eqNilV (ev_var rfl) (sq_of hq'))) (refsA_empty G _)) (fun hb H8 e8 => ?_) (fun hb5 H8 e8 => ?_)
    · have hv : s.lBroken p = false := by
        unfold S.lBroken
        rw [if_neg n0, if_neg n1, if_neg n2, if_neg n3, if_neg n4]
        cases hL : s.lLast with
        | nil => rfl
        | cons a l =>
          rw [hL] at hb
          cases hb
      rw [hv] at k
      exact s_ret ev_c fun H9 e9 => k H9 (e07.trans (e8.trans e9))
    obtain ⟨i, l, hL⟩ : ∃ i l, s.lLast = i :: l := by
      cases hL : s.lLast with
      | nil =>
        rw [hL] at hb5
        cases hb5
      | cons a l => exact ⟨a, l, rfl⟩
    have hi : i ∈ s.lLast := by rw [hL]; exact List.mem_cons_self ..
    have hil : i < s.ops.length := idxs_lt i hi
    have ho := ops_at hil
    have hprop := Bool.and_eq_true_iff.mp (List.mem_filter.mp hi).2
    have hprop2 := Bool.and_eq_true_iff.mp hprop.2
    have hst : (s.at i).stage = .ended := of_decide_eq_true hprop2.1
    have hov : (s.at i).over = some (s.now - 1) := of_decide_eq_true hprop2.2
    obtain ⟨⟨v, hver⟩, _⟩ := hen i _ ho hst
    have R8 := R7.mono e8
    have e08 := e07.trans e8
    have hi2 : i < G.os.length := by rw [R8.len]; exact hil
    have ha : G.os[i]? = some G.os[i] := List.getElem?_eq_getElem hi2
    generalize G.os[i] = a at ha
    have hq8 : H8 q = some (.lst (V.ref a :: refsA G l)) := by
      have h := e8 _ _ hq'
      rw [hL] at h
      have : refsA G (i :: l) = V.ref a :: refsA G l := by
        show V.ref (G.os.getD i 0) :: _ = _
        rw [List.getD_eq_getElem?_getD, ha] <;> rfl
      rw [this] at h
      exact h
    have first : ∀ {H' : Hp} {σ : L2.St}, Ex H8 H' → σ[3]? = some (some (V.ref q)) → Ev (tOp (rIxL K) (tVar 3) (tC (.int 0))) σ H' (.ref a) := fun {H' σ} e hs => ev_op (ev_var hs) ev_c (rv_ixL (sq_of (e _ _ hq8)) (L2.at_of (j := 0) rfl rfl))
    have hv : s.lBroken p = (if p = .quiet then s.lQuiet (s.at i).begun (s.now - 1) && decide (v < s.db) else decide (v < s.lBefore (s.at i).begun (decide (p = .fresh)))) := by
      unfold S.lBroken
      rw [if_neg n0, if_neg n1, if_neg n2, if_neg n3, if_neg n4, hL]
      show (if p = .quiet then _ else _) = _
      rw [hver] <;> rfl
    rw [hv] at k
    have vv : ∀ {H' : Hp} {σ : L2.St} {te : TE}, Ex H8 H' → Ev te σ H' (.ref a) → Ev (tDGet te (tC (.str "version"))) σ H' (.int v) := fun {H' σ te} e h => ev_is (ev_oF (R8.mono e) ha ho h) (show oV (s.at i).ver = V.int v by rw [hver] <;> rfl)
    refine q_when (pis .quiet rfl) (fun hb H9 e9 => ?_) (fun hb6 H9 e9 => ?_)
    · rw [if_pos (of_decide_eq_true hb)] at k
      exact s_ret (ev_andV (ev_call (vs := [.ref G.h, .ref a]) (dvs := []) (ea_cons (ev_var rfl) (ea_cons (first e9 rfl) ea_nil)) fun H10 e10 Q q E => ⟨G, s, i, a, _, s.now - 1, rfl, R8.mono (e9.trans e10), ha, ho, hov, by omega, q⟩) fun _ => ev_op (vv e9 (first e9 rfl)) (ev_sF (R8.mono e9) (ev_var rfl)) rv_I0) fun H10 e10 => k H10 (e08.trans (e9.trans e10))
    · rw [if_neg (of_decide_eq_false hb6)] at k
      exact s_ret (ev_op (vv e9 (first e9 rfl)) (ev_call (vs := [.ref G.h, .ref a, .str (kindS (decide (p = .fresh)))]) (dvs := []) (ea_cons (ev_var rfl) (ea_cons (first e9 rfl) (ea_cons (ev_is (ev_ifx (x := .str (kindS true)) (y := .str (kindS false)) (pis .fresh rfl) (fun _ => ev_c) (fun _ => ev_c)) (by cases decide (p = .fresh) <;> rfl)) ea_nil))) fun H10 e10 Q q E => ⟨G, s, i, a, _, _, rfl, R8.mono (e9.trans e10), ha, ho, by omega, hen, q⟩) rv_I0) fun H10 e10 => k H10 (e08.trans (e9.trans e10))
end
end K10
end
section
set_option Elab.async false
set_option linter.all false
set_option maxRecDepth 100000
set_option maxHeartbeats 1000000
namespace K10
open PySem PySem.Spec PyProof.Rows L2 Evl
section
variable {K : PySem.W.Frag} {H : Hp} {σ : L2.St} {te ta tb tn : TE} {t : TT} {vs : List Nat} {x : V} {ty : Value}
theorem el_lcR {n j : Nat} (f : Nat → Bool) (v : Nat → V) (h : Ev tn σ H (.int (n : Int))) (hz : n ≤ 40000) (hw : ∀ x, wipe ((wipe σ vs).set j (some x)) vs = wipe σ vs)
    (ht : ∀ (i : Nat) H1, Ex H H1 → i < n → EvT t ((wipe σ vs).set j (some (.int (0 + (i : Int))))) H1 (f i)) (he : ∀ (i : Nat) H1, Ex H H1 → i < n → f i = true → Ev te ((wipe σ vs).set j (some (.int (0 + (i : Int))))) H1 (v i)) :
    EvL (tLc (iRng1 (tCons tn tNil)) (gName j) t te vs) σ H (given n f v) :=
  el_lcG (J := Itr 0 n) f v (fun H1 e R r => h H1 e _ fun H2 e2 => ⟨(n : Int), rfl, by omega, by omega, r H2 e2⟩) hz (fun i H1 e hi => hi) (fun H1 e => Nat.le_refl _)
    (fun i H1 x H2 e hi y => by
      obtain ⟨rfl, rfl⟩ := y
      exact ⟨Ex.refl _, fun N k => k _ (hw _) (ht i _ e hi) fun hf => he i _ e hi hf⟩)
theorem ev_isiT {cs : List V} {us : List Value} {b : Bool} (ha : Ev ta σ H x) (hb : EvU tb σ H cs) (hc : Paired ClsV cs us) (hty : ∀ H1, Ex H H1 → TyX K H1 x ty) (kit : PySem.W.kitAny K ty us = some b) : Ev (tCB (rIsiT K) (tCons ta (tCons tb tNil))) σ H (.bl b) := fun H1 e Q q =>
  ha H1 e _ fun H2 e2 => hb H2 (e.trans e2) _ fun p H3 np e3 hp => ⟨x, p, cs, ty, us, b, rfl, hp, hc, hty H3 (e.trans (e2.trans e3)), kit, q H3 (e2.trans e3)⟩
theorem kit_tl (n : String) (h1 : kitB n "tuple" = some false) (h2 : kitB n "list" = some false) : PySem.W.kitAny K (.type n) [.type "tuple", .type "list"] = some false :=
  kitAny_cons (kit_ty h1) (fun _ => kitAny_cons (kit_ty h2) (fun _ => kitAny_nil) (fun z => by cases z)) (fun z => by cases z)
theorem kit_tlT : PySem.W.kitAny K (.type "tuple") [.type "tuple", .type "list"] = some true :=
  kitAny_cons (b := true) (kit_ty (by decide +kernel)) (fun z => by cases z) (fun _ => rfl)
theorem ev_isTL {b : Bool} (ha : Ev ta σ H x) (hty : ∀ H1, Ex H H1 → TyX K H1 x ty) (kit : PySem.W.kitAny K ty [.type "tuple", .type "list"] = some b) : Ev (tCB (rIsiT K) (tCons ta (tCons (tTup (tCons (tC (.ty "tuple")) (tCons (tC (.ty "list")) tNil))) tNil))) σ H (.bl b) :=
  ev_isiT ha (eu_tup (ea_cons ev_c (ea_cons ev_c ea_nil)) (by show 2 ≤ 100000; decide)) (.cons (.ty _) (.cons (.ty _) .nil)) hty kit
theorem ev_isi1 {n : String} {b : Bool} (ha : Ev ta σ H x) (hty : ∀ H1, Ex H H1 → TyX K H1 x ty) (kit : PySem.W.kitOne K ty (.type n) = some b) : Ev (tCB (rIsi K) (tCons ta (tCons (tC (.ty n)) tNil))) σ H (.bl b) := ev_isi (ea_cons ha (ea_cons ev_c ea_nil)) hty kit
end
def Alk (K : PySem.W.Frag) : Nat → Hp → V → V → Prop
  | 0, _, _, _ => False
  | n + 1, H, x, y => (x = y ∧ ((∃ z, x = .str z) ∨ ∃ i, x = .int i)) ∨ ∃ (a b : Addr) (xs ys : List V), x = .ref a ∧ y = .ref b ∧ SqT K H a xs ∧ SqT K H b ys ∧ Paired (Alk K n H) xs ys ∧ xs.length ≤ 1000
theorem Alk.mono {K : PySem.W.Frag} : ∀ {n : Nat} {H H' : Hp} {x y : V}, Alk K n H x y → Ex H H' → Alk K n H' x y
  | 0, _, _, _, _, h, _ => h
  | n + 1, H, H', x, y, h, e => by
    rcases h with h | ⟨a, b, xs, ys, h1, h2, h3, h4, h5, h6⟩
    · exact .inl h
    · exact .inr ⟨a, b, xs, ys, h1, h2, ex_t e h3, ex_t e h4, Paired.mapP h5 fun u v h => Alk.mono h e, h6⟩
section
variable {P : Program} {w : World} {base h0 : Heap} {K : PySem.W.Frag} {mg : Str → Option Value}
def spAlk (K : PySem.W.Frag) (n : Nat) : Sp := fun vs H Q _ => ∃ x y, vs = [x, y] ∧ Alk K n H x y ∧ RetV (.bl true) H Q
theorem sc_L_alike : FnScope ["_law_found", "_law_due", "_law_k"] ["_law_found", "_law_due"] (defScope s_L_alike) := ⟨rfl, rfl, rfl, by decide +kernel, rfl, by decide +kernel, by decide +kernel⟩
theorem ok_alkN (T : Txt h0 K mg) : ∀ n : Nat, FnOk P w K mg base CX0 (n + 1) (He.ga K "_law_alike") (fdOf K (He.ga K "_law_alike")) ["_law_found", "_law_due"] (spAlk K n)
  | 0 => ⟨fun vs H Q E h => h.elim fun _ h => h.elim fun _ h => h.2.1.elim, fun A outer s H args us vs Q E hr he hb hv h => h.elim fun _ h => h.elim fun _ h => h.2.1.elim⟩
  | n + 1 => by
    have ih := ok_alkN T n
    have ok_L_alike := fun (_ : Txt h0 K mg) => ih
    refine T.fn_L_alike.ok sc_L_alike (fun vs H Q E h => ?_) (fun cdv A outer st0 H vs Q E hr h => ?_)
    · obtain ⟨x, y, rfl, _⟩ := h
      rfl
    · obtain ⟨x, y, rfl, hx, k⟩ := h
      refine ⟨_, PSs.nox ((pss_cons (ps_if (pt_val (pe_callB (call_isiTK K) (by rfl) T.f_isinstance (by decide +kernel) (pa_cons (pv 1) (pa_cons (pe_tup (pa_cons (pe_bltn (v := .ty "tuple") rfl T.f_tuple (by decide +kernel) rfl) (pa_cons (pe_bltn (v := .ty "list") rfl T.f_list (by decide +kernel) rfl) pa_nil))) pa_nil)))) (pss_cons (ps_if (PW.pt (pw_or (pt_not (pt_val (pe_callB (call_isiTK K) (by rfl) T.f_isinstance (by decide +kernel) (pa_cons (pv 0) (pa_cons (pe_tup (pa_cons (pe_bltn (v := .ty "tuple") rfl T.f_tuple (by decide +kernel) rfl) (pa_cons (pe_bltn (v := .ty "list") rfl T.f_list (by decide +kernel) rfl) pa_nil))) pa_nil))))) (pw_or1 (pt_cmpR op_ne (pe_callB (call_isiK' K) (by rfl) T.f_isinstance (by decide +kernel) (pa_cons (pv 0) (pa_cons (pe_bltn (v := .ty "list") rfl T.f_list (by decide +kernel) rfl) pa_nil))) (pe_callB (call_isiK' K) (by rfl) T.f_isinstance (by decide +kernel) (pa_cons (pv 1) (pa_cons (pe_bltn (v := .ty "list") rfl T.f_list (by decide +kernel) rfl) pa_nil))) (nomark _))))) (pss_one (ps_ret pe_bl)) pss_nil)
      (pss_cons (ps_if (pt_cmpR op_ne (pe_callB (call_lenK K) (by rfl) T.f_len (by decide +kernel) (pa_cons (pv 0) pa_nil)) (pe_callB (call_lenK K) (by rfl) T.f_len (by decide +kernel) (pa_cons (pv 1) pa_nil)) (nomark _)) (pss_one (ps_ret pe_bl)) pss_nil)
      (pss_one (ps_ret (pe_cmpR (op_eqN K (lenU2 hr.units)) (pe_lc (own := [("_law_k", 2)]) (g := (gName 2)) rfl sc_L_alike.nd (pi_range1 rfl T.f_range (pa_cons (pe_callB (call_lenK K) (by rfl) T.f_len (by decide +kernel) (pa_cons (pv 1) pa_nil)) pa_nil)) (blkOk_by (N := ["_law_found", "_law_due", "_law_k"]) (sc := defScope s_L_alike) (by decide +kernel)) (fun _ _ _ _ _ => (pg_name (i := 2) sc_L_alike.nd rfl (Or.inl rfl))) (fun _ _ _ _ _ => (pts_one (pt_not (pt_val (pe_call (ok_L_alike T) (hr.mono (Nat.le_refl _)) rfl T.g__law_alike T.k_L_alike T.b_L_alike .nil pass0 (pa_cons (pe_ix (ix_tupK K) (pv 0) (pv 2) (fun _ _ => rfl)) (pa_cons (pe_ix (ix_tupK K) (pv 1) (pv 2) (fun _ _ => rfl)) pa_nil))))))) (fun _ _ _ _ _ => (pv 2))) (pe_lst pa_nil) (nomark _)))))) pss_nil)
      (pss_cons (ps_if (PW.pt (pw_or (pt_cmp (pc_isN (pv 1))) (pw_or1 (pt_val (pe_callB (call_isiK' K) (by rfl) T.f_isinstance (by decide +kernel) (pa_cons (pv 1) (pa_cons (pe_bltn (v := .ty "str") rfl T.f_str (by decide +kernel) rfl) pa_nil))))))) (pss_one (ps_ret (pe_and (pe_cmpR op_eq (pv 0) (pv 1) (nomark _)) (pe_one (pe_cmpR op_eq (pe_callB (call_isiK' K) (by rfl) T.f_isinstance (by decide +kernel) (pa_cons (pv 0) (pa_cons (pe_bltn (v := .ty "str") rfl T.f_str (by decide +kernel) rfl) pa_nil))) (pe_callB (call_isiK' K) (by rfl) T.f_isinstance (by decide +kernel) (pa_cons (pv 1) (pa_cons (pe_bltn (v := .ty "str") rfl T.f_str (by decide +kernel) rfl) pa_nil))) (nomark _)))))) pss_nil)
      (pss_one (ps_ret (pe_and (pe_callB (call_isiK' K) (by rfl) T.f_isinstance (by decide +kernel) (pa_cons (pv 0) (pa_cons (pe_bltn (v := .ty "int") rfl T.f_int (by decide +kernel) rfl) pa_nil))) (pe_and (pe_cmpR op_eq (pe_callB (call_isiK' K) (by rfl) T.f_isinstance (by decide +kernel) (pa_cons (pv 0) (pa_cons (pe_bltn (v := .ty "bool") rfl T.f_bool (by decide +kernel) rfl) pa_nil))) (pe_callB (call_isiK' K) (by rfl) T.f_isinstance (by decide +kernel) (pa_cons (pv 1) (pa_cons (pe_bltn (v := .ty "bool") rfl T.f_bool (by decide +kernel) rfl) pa_nil))) (nomark _)) (pe_one (pe_cmpR op_eq (pv 0) (pv 1) (nomark _)))))))))), ?_⟩
      rcases hx with ⟨rfl, h⟩ | ⟨a, b, xs, ys, rfl, rfl, hxs, hys, hp, hl⟩
      · rcases h with ⟨z, rfl⟩ | ⟨i, rfl⟩
        · refine q_when (b := false) (et_test (ev_isTL (ty := .type "str") (ev_var rfl) (fun H1 e => .base (.str z)) (kit_tl "str" (by decide +kernel) (by decide +kernel)))) (fun z => by cases z) (fun _ H1 e1 => ?_)
          refine q_when (b := true) (et_is (et_or (a := false) (b := true) (et_B (ev_is (ev_isN (ev_var rfl)) rfl)) fun _ => et_test (ev_isi1 (ty := .type "str") (ev_var rfl) (fun H1 e => .base (.str z)) (kit_ty (by decide +kernel)))) rfl) (fun _ H2 e2 => ?_) (fun z => by cases z)
          exact s_ret (ev_is (ev_andV (a := true) (b := true) (ev_is (ev_op (ev_var rfl) (ev_var rfl) (rv_eq rfl)) (by rw [decide_eq_true rfl])) fun _ => ev_is (ev_op (ev_isi1 (b := true) (ty := .type "str") (ev_var rfl) (fun H1 e => .base (.str z)) (kit_ty (by decide +kernel))) (ev_isi1 (b := true) (ty := .type "str") (ev_var rfl) (fun H1 e => .base (.str z)) (kit_ty (by decide +kernel))) (rv_eq rfl)) (by rw [decide_eq_true rfl])) rfl) fun H3 e3 => k H3 (e1.trans (e2.trans e3))
        · refine q_when (b := false) (et_test (ev_isTL (ty := .type "int") (ev_var rfl) (fun H1 e => .base (.int i)) (kit_tl "int" (by decide +kernel) (by decide +kernel)))) (fun z => by cases z) (fun _ H1 e1 => ?_)
          refine q_when (b := false) (et_is (et_or (a := false) (b := false) (et_B (ev_is (ev_isN (ev_var rfl)) rfl)) fun _ => et_test (ev_isi1 (ty := .type "int") (ev_var rfl) (fun H1 e => .base (.int i)) (kit_ty (by decide +kernel)))) rfl) (fun z => by cases z) (fun _ H2 e2 => ?_)
          exact s_ret (ev_is (ev_andV (a := true) (b := true) (ev_isi1 (ty := .type "int") (ev_var rfl) (fun H1 e => .base (.int i)) (kit_ty (by decide +kernel))) fun _ => ev_is (ev_andV (a := true) (b := true) (ev_is (ev_op (ev_isi1 (b := false) (ty := .type "int") (ev_var rfl) (fun H1 e => .base (.int i)) (kit_ty (by decide +kernel))) (ev_isi1 (b := false) (ty := .type "int") (ev_var rfl) (fun H1 e => .base (.int i)) (kit_ty (by decide +kernel))) (rv_eq rfl)) (by rw [decide_eq_true rfl])) fun _ => ev_is (ev_op (ev_var rfl) (ev_var rfl) (rv_eq rfl)) (by rw [decide_eq_true rfl])) rfl) rfl) fun H3 e3 => k H3 (e1.trans (e2.trans e3))
      · have hlen := paired_len hp
        refine q_when (b := true) (et_test (ev_isTL (ty := .type "tuple") (ev_var rfl) (fun H1 e => tyx_sqt (ex_t e hys)) kit_tlT)) (fun _ H1 e1 => ?_) (fun z => by cases z)
        have hx1 := ex_t e1 hxs
        have hy1 := ex_t e1 hys
        refine q_when (b := false) (et_is (et_or (a := false) (b := false) (et_is (et_not (et_test (ev_isTL (ty := .type "tuple") (ev_var rfl) (fun H2 e => tyx_sqt (ex_t e hx1)) kit_tlT))) rfl) fun _ => et_is (et_test (ev_op (ev_isi1 (b := false) (ty := .type "tuple") (ev_var rfl) (fun H2 e => tyx_sqt (ex_t e hx1)) (kit_ty (by decide +kernel))) (ev_isi1 (b := false) (ty := .type "tuple") (ev_var rfl) (fun H2 e => tyx_sqt (ex_t e hy1)) (kit_ty (by decide +kernel))) (rv_ne rfl))) (by rw [decide_eq_true rfl] <;> rfl)) rfl) (fun z => by cases z) (fun _ H2 e2 => ?_)
        have hx2 := ex_t e2 hx1
        have hy2 := ex_t e2 hy1
        refine q_when (b := false) (et_is (et_test (ev_op (ev_lenT (ev_var rfl) hx2) (ev_lenT (ev_var rfl) hy2) (rv_ne rfl))) (by rw [hlen, decide_eq_true rfl] <;> rfl)) (fun z => by cases z) (fun _ H3 e3 => ?_)
        have hx3 := ex_t e3 hx2
        have hy3 := ex_t e3 hy2
        have e03 := e1.trans (e2.trans e3)
        refine s_ret (ev_is (ev_eqNil (el_lcR (n := ys.length) (fun _ => false) (fun _ => .non) (ev_lenT (ev_var rfl) hy3) (by omega) (fun _ => rfl) (fun i H4 e4 hi => ?_) (fun i H4 e4 hi z => by cases z))) ?_) fun H4 e4 => k H4 (e03.trans e4)
        · have hix : i < xs.length := by omega
          refine et_is (et_not (a := true) (et_B (ev_call (z := .bl true) (vs := [xs[i], ys[i]]) (dvs := []) (ea_cons (ev_op (ev_var rfl) (ev_var rfl) (rv_ixT (ex_t e4 hx3) (L2.at_of (j := i) (by omega) (List.getElem?_eq_getElem hix)))) (ea_cons (ev_op (ev_var rfl) (ev_var rfl) (rv_ixT (ex_t e4 hy3) (L2.at_of (j := i) (by omega) (List.getElem?_eq_getElem hi)))) ea_nil)) fun H5 e5 Q q E => ⟨_, _, rfl, Alk.mono (paired_at2 (F := Alk K n H) hp (List.getElem?_eq_getElem hix) (List.getElem?_eq_getElem hi)) (e03.trans (e4.trans e5)), q⟩))) rfl
        · show V.bl (given ys.length (fun _ => false) fun _ => V.non).isEmpty = _
          unfold given
          rw [List.isEmpty_map, List.filter_eq_nil_iff.mpr (fun _ _ => by decide)] <;> rfl
theorem ok_L_alike (T : Txt h0 K mg) : FnOk P w K mg base CX0 6 (He.ga K "_law_alike") (fdOf K (He.ga K "_law_alike")) ["_law_found", "_law_due"] (spAlk K 5) := ok_alkN T 5
end
end K10
end
section
set_option Elab.async false
set_option linter.all false
set_option maxRecDepth 100000
set_option maxHeartbeats 1000000
namespace K10
open PySem PySem.Spec PyProof.Rows L2 Evl
section
variable {P : Program} {w : World} {base h0 : Heap} {K : PySem.W.Frag} {mg : Str → Option Value}
theorem sc_L_line : FnScope ["_law_event", "_law_one"] ["_law_event"] (defScope s_L_line) := ⟨rfl, rfl, rfl, by decide +kernel, rfl, by decide +kernel, by decide +kernel⟩
theorem ok_L_line (T : Txt h0 K mg) : FnOk P w K mg base CX0 1 (He.ga K "_law_line") (fdOf K (He.ga K "_law_line")) ["_law_event"] (spEvTxt K) := by
  refine FnOk.mono (j := 1) ((T.fn_L_line).ok sc_L_line (fun vs H Q E h => ?_) (fun cdv A outer st0 H vs Q E hr h => ?_)) (by decide)
  · obtain ⟨a, e, rfl, _⟩ := h
    rfl
  · obtain ⟨a, e, rfl, hx, hs, k⟩ := h
    refine ⟨_, PSs.nox ((pss_one (ps_ret (pe_joinK K pe_str (pe_lc (own := [("_law_one", 1)]) (g := (gName 1)) (tt := tYes) rfl sc_L_line.nd ((pi_tupK K) (pv 0)) (blkOk_by (N := ["_law_event", "_law_one"]) (sc := defScope s_L_line) (by decide +kernel)) (fun _ _ _ _ _ => (pg_name (i := 1) sc_L_line.nd rfl (Or.inl rfl))) (fun _ _ _ _ _ => pts_nil) (fun _ _ _ _ _ => (pe_callTy call_strB (by rfl) T.f_str (by decide +kernel) (pa_cons (pv 1) pa_nil)))))))), ?_⟩
    rw [← evTxt_join] at k
    have hpl : (evEnc e).length = (evParts e).length := by cases e <;> rfl
    refine s_ret (ev_join ev_c (EvL.is (el_lcT (xs := evEnc e) (fun _ => true) (fun i => V.str ((evParts e).getD i Str.empty)) (ev_var rfl) hx (by cases e <;> exact Nat.le_of_ble_eq_true rfl) (fun _ => rfl) (fun i x H1 e1 hx => et_yes) (fun i x H1 e1 hx _ => ?_)) ?_) (Nat.le_trans (evParts_len hs) (by decide))) k
    · cases e with
      | evict =>
        cases i with
        | zero =>
          cases hx
          exact ev_strZ (ev_var rfl)
        | succ i => cases hx
      | copy =>
        cases i with
        | zero =>
          cases hx
          exact ev_strZ (ev_var rfl)
        | succ i => cases hx
      | op w n =>
        have hs : n < 64 := hs
        match i, hx with
        | 0, hx =>
          cases hx
          exact ev_strZ (ev_var rfl)
        | 1, hx =>
          cases hx
          exact ev_strI (ev_var rfl) (by show (n : Int).natAbs < 1000000; omega)
    · rw [given_all, hpl]
      have h := map_getD (evParts e) Str.empty
      have h2 : (evParts e).map V.str = ((List.range (evParts e).length).map (fun j => (evParts e).getD j Str.empty)).map V.str := by rw [h]
      rw [h2, List.map_map]
      rfl
end
end K10
end
section
set_option Elab.async false
set_option linter.all false
set_option maxRecDepth 100000
set_option maxHeartbeats 1000000
namespace K10
open PySem PySem.Spec PyProof.Rows L2 Evl
section
variable {K : PySem.W.Frag} {H : Hp} {σ : L2.St} {ta tb : TE} {a : Addr} {ys : List V} {E : XK}
theorem ev_joinL {b : Str} {zs : List Str} {p : Addr} (ha : Ev ta σ H (.str b)) (hb : Ev tb σ H (.ref p)) (hx : SqL K H p (zs.map V.str)) (hs : (zs.map (·.length)).sum + zs.length * b.length ≤ 100000) : Ev (tM1 (rJoin K) ta tb) σ H (.str (Txt.join b zs)) := fun H1 e Q q =>
  ha H1 e _ fun H2 e2 => ⟨⟨b, rfl⟩, hb H2 (e.trans e2) _ fun H3 e3 => ⟨b, p, zs, rfl, rfl, .inl (ex_l ((e.trans e2).trans e3) hx), Nat.le_trans hs (by decide), q H3 (e2.trans e3)⟩⟩
theorem ev_prop {C dx : Addr} {fs : List (Str × V)} {sp : Sp} {x : V} (ha : Ev ta σ H (.ref a)) (ho : H a = some (.ins C dx fs)) (hs : SpV sp [.ref a] H x) : Ev (tProp C sp [] E ta) σ H x := fun H1 e Q q =>
  ha H1 e _ fun H2 e2 => ⟨a, dx, fs, rfl, (e.trans e2) _ _ ho, hs H2 (e.trans e2) Q (fun H3 e3 => q H3 (e2.trans e3)) E⟩
theorem ev_alike {n : Nat} (ha : Ev ta σ H (.ref a)) (hb : EvU tb σ H ys) (hk : ∀ H1 p, Ex H H1 → H1 p = some (.tup ys) → Alk K n H1 (.ref a) (.ref p)) : Ev (tCall (spAlk K n) [] E (tCons ta (tCons tb tNil))) σ H (.bl true) := fun H1 e Q q =>
  ha H1 e _ fun H2 e2 => hb H2 (e.trans e2) _ fun p H3 np e3 hp => ⟨_, _, rfl, hk H3 p (e.trans (e2.trans e3)) hp, fun H4 e4 => q H4 (e2.trans (e3.trans e4))⟩
end
section
variable {h0 : Heap} {K : PySem.W.Frag} {mg : Str → Option Value}
theorem Txt.b_Desk_done (T : Txt h0 K mg) : Binds K (fdOf K (gAd K "done")) ["self"] [] := T.fn_Desk_done.1.bindsN fun _ _ _ _ _ _ us hl => match us, hl with | [_], _ => rfl
theorem Txt.b_Desk_broken (T : Txt h0 K mg) : Binds K (fdOf K (gAd K "broken")) ["self"] [] := T.fn_Desk_broken.1.bindsN fun _ _ _ _ _ _ us hl => match us, hl with | [_], _ => rfl
end
theorem alk_same {K : PySem.W.Frag} {n : Nat} {H : Hp} : ∀ xs : List V, (∀ x ∈ xs, (∃ z, x = V.str z) ∨ ∃ i, x = V.int i) → Paired (Alk K (n + 1) H) xs xs
  | [], _ => .nil
  | x :: xs, h => .cons (.inl ⟨rfl, h x (List.mem_cons_self ..)⟩) (alk_same xs fun y hy => h y (List.mem_cons_of_mem _ hy))
theorem evEnc_flat : ∀ e : Evt, (∀ x ∈ evEnc e, (∃ z, x = V.str z) ∨ ∃ i, x = V.int i) ∧ (evEnc e).length ≤ 1000
  | .evict => ⟨fun x hx => by
      rw [List.mem_singleton.mp hx]
      exact .inl ⟨_, rfl⟩, Nat.le_of_ble_eq_true rfl⟩
  | .copy => ⟨fun x hx => by
      rw [List.mem_singleton.mp hx]
      exact .inl ⟨_, rfl⟩, Nat.le_of_ble_eq_true rfl⟩
  | .op w n => ⟨fun x hx => by
      rcases List.mem_cons.mp hx with rfl | hx
      · exact .inl ⟨_, rfl⟩
      · rw [List.mem_singleton.mp hx]
        exact .inr ⟨_, rfl⟩, Nat.le_of_ble_eq_true rfl⟩
theorem alk_ev {K : PySem.W.Frag} {n : Nat} {H : Hp} {a b : Addr} {e : Evt} (ha : evTup H a e) (hb : evTup H b e) : Alk K (n + 2) H (.ref a) (.ref b) :=
  .inr ⟨a, b, _, _, rfl, rfl, st_of ha, st_of hb, alk_same _ (evEnc_flat e).1, (evEnc_flat e).2⟩
theorem alk_evs {K : PySem.W.Frag} {n : Nat} {H : Hp} : ∀ {as bs : List Addr} {es : List Evt}, Paired (evTup H) as es → Paired (evTup H) bs es → Paired (Alk K (n + 2) H) (as.map V.ref) (bs.map V.ref)
  | _, _, _, .nil, .nil => .nil
  | _, _, _, .cons h r, .cons h2 r2 => .cons (alk_ev h h2) (alk_evs r r2)
structure ShowOk (s : S) : Prop where
  ops : s.ops.length ≤ 18
  past : s.past.length ≤ 50
  wait : waitOk s
  ended : endedOk s
  a1 : aloneOk s .look
  a2 : aloneOk s s.first
  ans : AnsOk s
  br : ∀ p, s.lBroken p = s.broken p
theorem ans_events (s : S) : s.ans "events" = .str (Txt.join "; " (s.evs.map evTxt)) := if_pos rfl
theorem ans_cache (s : S) : s.ans "cache" = (match s.cache with
    | none => .str "nothing"
    | some v => .str (toString v)) := by
  unfold S.ans
  rw [if_neg (by decide +kernel), if_pos rfl]
  first | done | (cases s.cache <;> rfl)
theorem ans_database (s : S) : s.ans "database" = .str (toString s.db) := by
  unfold S.ans
  rw [if_neg (by decide +kernel), if_neg (by decide +kernel), if_pos rfl]
theorem ans_broken (s : S) : s.ans "broken" = (if (Pr.all.filter s.broken).isEmpty then .str "none" else .str (Txt.join " " ((Pr.all.filter s.broken).map Pr.str))) := by
  unfold S.ans
  rw [if_neg (by decide +kernel), if_neg (by decide +kernel), if_neg (by decide +kernel), if_pos rfl]
section
variable {P : Program} {w : World} {base h0 : Heap} {K : PySem.W.Frag} {mg : Str → Option Value}
theorem ev_ask {H : Hp} {σ : L2.St} {ta tb : TE} {a : Addr} {D : Dk} {s : S} {z : Str} {E : XK} (R : DeskAt K H a D s) (A : AnsOk s) (hp : s.past.length ≤ 50) (ha : Ev ta σ H (.ref a)) (hb : Ev tb σ H (.str z)) (hz : s.ans z ≠ .non) : Ev (tMeth (He.ga K "Desk") "run" (spRun K) [] E ta (tCons tb tNil)) σ H (s.ans z) :=
  ev_meth ha R.ins rfl (ea_cons hb ea_nil) fun H1 e1 Q q E => ⟨a, D, s, R.mono e1, A, hp, .inr (.inl ⟨z, rfl, hz, q⟩)⟩
def spLShown (K : PySem.W.Frag) : Sp := fun vs H Q _ => ∃ (a : Addr) (D : Dk) (G : LLay) (s : S), vs = [.ref a, .ref G.h] ∧ DeskAt K H a D s ∧ LawAt K H G s ∧ ShowOk s ∧ RetV (.bl true) H Q
theorem sc_L_shown : FnScope ["_law_desk", "_law_h", "_law_due", "_law_one", "_law_event"] ["_law_desk", "_law_h"] (defScope s_L_shown) := ⟨rfl, rfl, rfl, by decide +kernel, rfl, by decide +kernel, by decide +kernel⟩
theorem ok_L_shown (T : TxtP P h0 K mg) : FnOk P w K mg base CX0 23 (He.ga K "_law_shown") (fdOf K (He.ga K "_law_shown")) ["_law_desk", "_law_h"] (spLShown K) := by
  refine FnOk.mono (j := 23) ((T.fn_L_shown).ok sc_L_shown (fun vs H Q E h => ?_) (fun cdv A outer st0 H vs Q E hr h => ?_)) (by decide)
  · obtain ⟨a, D, G, s, rfl, _⟩ := h
    rfl
  · obtain ⟨a, D, G, s, rfl, R, L, O, k⟩ := h
    have hops := O.ops
    have hpast := O.past
    have hdue : Pr.all.filter s.lBroken = Pr.all.filter s.broken := by rw [funext O.br]
    refine ⟨_, PSs.nox ((pss_cons (ps_setLc (i := 2) (own := [("_law_one", 3)]) (g := (gName 3)) rfl sc_L_shown.nd rfl rfl (sw_true rfl rfl rfl (by decide +kernel)) (pi_listK K (pe_call0 (ok_L_promises T.toTxt) (hr.mono (by decide)) rfl T.g__law_promises T.k_L_promises T.b_L_promises .nil pass0)) (blkOk_by (N := ["_law_desk", "_law_h", "_law_due", "_law_one", "_law_event"]) (sc := defScope s_L_shown) (by decide +kernel)) (fun _ _ _ _ _ => (pg_name (i := 3) sc_L_shown.nd rfl (Or.inl rfl))) (fun _ _ _ _ _ => (pts_one (pt_val (pe_call (ok_L_broken T.toTxt) (hr.mono (by decide)) rfl T.g__law_broken T.k_L_broken T.b_L_broken .nil pass0 (pa_cons (pv 1) (pa_cons (pv 3) pa_nil)))))) (fun _ _ _ _ _ => (pv 3)))
      (pss_cons (ps_if (PW.pt (pw_or (pt_not (pt_val (pe_call (ok_L_alike T.toTxt) (hr.mono (by decide)) rfl T.g__law_alike T.k_L_alike T.b_L_alike .nil pass0 (pa_cons (pe_prop (pv 0) T.cl_Desk (T.fn_Desk_done).2 (ok_Desk_done T.toTxt) (hr.mono (by decide)) T.b_Desk_done .nil pass0 rfl) (pa_cons (pe_callTy (call_tupK K) (by rfl) T.f_tuple (by decide +kernel) (pa_cons (pe_dget (hu_of hr) (pv 1) pe_str (fun _ _ => rfl)) pa_nil)) pa_nil))))) (pw_or1 (pt_not (pt_val (pe_call (ok_L_alike T.toTxt) (hr.mono (by decide)) rfl T.g__law_alike T.k_L_alike T.b_L_alike .nil pass0 (pa_cons (pe_prop (pv 0) T.cl_Desk (T.fn_Desk_broken).2 (ok_Desk_broken T.toTxt) (hr.mono (by decide)) T.b_Desk_broken .nil pass0 rfl) (pa_cons (pe_callTy (call_tupK K) (by rfl) T.f_tuple (by decide +kernel) (pa_cons (pv 2) pa_nil)) pa_nil)))))))) (pss_one (ps_ret pe_bl)) pss_nil)
      (pss_cons (ps_if (pt_cmpR op_ne (pe_meth (pv 0) T.cl_Desk T.m_Desk_run (ok_Desk_run T) (hr.mono (by decide)) T.b_Desk_run .nil passL (pa_cons pe_str pa_nil)) (pe_joinK K pe_str (pe_lc (own := [("_law_event", 4)]) (g := (gName 4)) (tt := tYes) rfl sc_L_shown.nd (pi_listK K (pe_call (ok_L_events T.toTxt) (hr.mono (by decide)) rfl T.g__law_events T.k_L_events T.b_L_events .nil pass0 (pa_cons (pv 1) pa_nil))) (blkOk_by (N := ["_law_desk", "_law_h", "_law_due", "_law_one", "_law_event"]) (sc := defScope s_L_shown) (by decide +kernel)) (fun _ _ _ _ _ => (pg_name (i := 4) sc_L_shown.nd rfl (Or.inl rfl))) (fun _ _ _ _ _ => pts_nil) (fun _ _ _ _ _ => (pe_call (ok_L_line T.toTxt) (hr.mono (by decide)) rfl T.g__law_line T.k_L_line T.b_L_line .nil pass0 (pa_cons (pv 4) pa_nil))))) (nomark _)) (pss_one (ps_ret pe_bl)) pss_nil)
      (pss_cons (ps_if (PW.pt (pw_or (pt_cmpR op_ne (pe_meth (pv 0) T.cl_Desk T.m_Desk_run (ok_Desk_run T) (hr.mono (by decide)) T.b_Desk_run .nil passL (pa_cons pe_str pa_nil)) (pe_ifExp (pt_cmp (pc_isN (pe_dget (hu_of hr) (pv 1) pe_str (fun _ _ => rfl)))) pe_str (pe_callTy call_strB (by rfl) T.f_str (by decide +kernel) (pa_cons (pe_dget (hu_of hr) (pv 1) pe_str (fun _ _ => rfl)) pa_nil))) (nomark _)) (pw_or1 (pt_cmpR op_ne (pe_meth (pv 0) T.cl_Desk T.m_Desk_run (ok_Desk_run T) (hr.mono (by decide)) T.b_Desk_run .nil passL (pa_cons pe_str pa_nil)) (pe_callTy call_strB (by rfl) T.f_str (by decide +kernel) (pa_cons (pe_dget (hu_of hr) (pv 1) pe_str (fun _ _ => rfl)) pa_nil)) (nomark _))))) (pss_one (ps_ret pe_bl)) pss_nil)
      (pss_one (ps_ret (pe_cmpR op_eq (pe_meth (pv 0) T.cl_Desk T.m_Desk_run (ok_Desk_run T) (hr.mono (by decide)) T.b_Desk_run .nil passL (pa_cons pe_str pa_nil)) (pe_ifExp (pt_cmpR (op_neN K (lenU2 hr.units)) (pv 2) (pe_lst pa_nil) (nomark _)) (pe_joinK K pe_str (pv 2)) pe_str) (nomark _))))))))), ?_⟩
    have comp1 : EvL (tLc (iList K (tCall spLPromises [] E0 tNil)) (gName 3) (tB (tCall (spLBroken K) [] E0 (tCons (tVar 1) (tCons (tVar 3) tNil)))) (tVar 3) [3]) [some (.ref a), some (.ref G.h), none, none, none] H ((Pr.all.filter s.broken).map fun p => V.str p.str) := by
      have key := el_lcNL (K := K) (te := tVar 3) (t := tB (tCall (spLBroken K) [] E0 (tCons (tVar 1) (tCons (tVar 3) tNil)))) (tl := tCall spLPromises [] E0 tNil) (vs := [3]) (j := 3) (σ := [some (.ref a), some (.ref G.h), none, none, none]) (H := H) (xs := Pr.all.map fun p => V.str p.str) (fun i => s.broken (Pr.all.getD i .ending)) (fun i => V.str (Pr.all.getD i .ending).str)
        (el_call (vs := []) (dvs := []) ea_nil fun H1 e Q q E => ⟨rfl, q⟩) (by show 10 ≤ 40000; decide) (fun _ => rfl)
        (fun i x H1 e hx => by
          rw [List.getElem?_map] at hx
          cases hp : Pr.all[i]? with
          | none =>
            rw [hp] at hx
            cases hx
          | some p =>
            rw [hp] at hx
            cases hx
            have hg : Pr.all.getD i .ending = p := by rw [List.getD_eq_getElem?_getD, hp] <;> rfl
            rw [hg, ← O.br p]
            exact et_B (ev_call (vs := [.ref G.h, .str p.str]) (dvs := []) (ea_cons (ev_var rfl) (ea_cons (ev_var rfl) ea_nil)) fun H2 e2 Q q E => ⟨G, s, p, rfl, L.mono (e.trans e2), O.ops, O.wait, O.ended, O.a1, O.a2, q⟩))
        (fun i x H1 e hx _ => by
          rw [List.getElem?_map] at hx
          cases hp : Pr.all[i]? with
          | none =>
            rw [hp] at hx
            cases hx
          | some p =>
            rw [hp] at hx
            cases hx
            rw [List.getD_eq_getElem?_getD, hp]
            exact ev_var rfl)
      refine EvL.is key ?_
      unfold given
      rw [List.length_map]
      have h := map_getD Pr.all .ending
      have h2 : (Pr.all.filter s.broken).map (fun p => V.str p.str) = (((List.range Pr.all.length).map fun j => Pr.all.getD j .ending).filter s.broken).map fun p => V.str p.str := by rw [h]
      rw [h2, List.filter_map, List.map_map]
      rfl
    refine q_asgL comp1 fun q H1 nq e1 hq => ?_
    have R1 := R.mono e1
    have L1 := L.mono e1
    refine q_when (b := false) (et_is (et_or (a := false) (b := false) (et_is (et_not (a := true) (et_B ?_)) rfl) fun _ => et_is (et_not (a := true) (et_B ?_)) rfl) rfl) (fun z => by cases z) (fun _ H2 e2 => ?_)
    · refine ev_alike (ev_prop (sp := spDone K) (ev_var rfl) R1.ins fun H2 e2 Q q E => ⟨a, D, s, rfl, R1.mono e2, q⟩) (eu_tupR (ev_sF L1 (ev_var rfl)) (sq_of L1.pl)) fun H2 p e2 hp => .inr ⟨D.dn, p, _, _, rfl, rfl, st_of (e2 _ _ R1.dn), st_of hp, alk_evs (n := 2) (R1.run.mono e2).ev (L1.mono e2).ev, ?_⟩
      rw [List.length_map, paired_len R1.run.ev]
      omega
    · refine ev_alike (ev_prop (sp := spBrk K) (ev_var rfl) R1.ins fun H2 e2 Q q E => ⟨a, D, s, rfl, R1.mono e2, q⟩) (eu_tupR (ev_var rfl) (sq_of hq)) fun H2 p e2 hp => .inr ⟨D.br, p, brL s, brL s, rfl, rfl, st_of (e2 _ _ R1.br), st_of hp, alk_same (n := 3) _ (fun x hx => ?_), ?_⟩
      · obtain ⟨y, _, rfl⟩ := List.mem_map.mp hx
        exact .inl ⟨_, rfl⟩
      · unfold brL
        rw [List.length_map]
        exact Nat.le_trans (List.length_filter_le _ _) (by decide)
    have R2 := R1.mono e2
    have L2 := L1.mono e2
    have hans := O.ans
    have hmany := hans.many
    refine q_when (b := false) (et_is (et_test (ev_op (ev_ask (z := "events") R2 O.ans O.past (ev_var rfl) ev_c (by rw [ans_events]; exact fun z => by cases z)) (ev_join (ys := s.evs.map evTxt) ev_c (EvL.is (el_lcE (es := s.evs) (fun _ => true) (fun i => V.str (evTxt (s.evs.getD i .evict))) (fun H3 e3 Q' q' => ?_) (by omega) (fun _ => rfl) (fun i b e H3 e3 he hb => et_yes) (fun i b e H3 e3 he hb _ => ?_)) ?_) ?_) (rv_ne (by rw [ans_events] <;> rfl)))) (by rw [ans_events, decide_eq_true rfl] <;> rfl)) (fun z => by cases z) (fun _ H3 e3 => ?_)
    · refine (ev_var rfl : Ev (tVar 1) _ H3 (.ref G.h)) H3 (Ex.refl _) _ fun H4 e4 => ⟨G, s, rfl, L2.mono (e3.trans e4), by omega, O.wait, fun p H5 np e5 hp => q' p H5 (Same.free e4 np) (e4.trans e5) hp⟩
    · have hm := List.mem_of_getElem? he
      rw [List.getD_eq_getElem?_getD, he]
      exact ev_call (sp := spEvTxt K) (dvs := []) (vs := [.ref b]) (ea_cons (ev_var rfl) ea_nil) fun H3 e3 Q' q' E' => ⟨b, e, rfl, ex_t e3 (st_of hb), (hans.small e hm).1, q'⟩
    · rw [given_all]
      have h := map_getD s.evs Evt.evict
      have h2 : (s.evs.map evTxt).map V.str = (((List.range s.evs.length).map (fun j => s.evs.getD j .evict)).map evTxt).map V.str := by rw [h]
      rw [h2, List.map_map, List.map_map]
      rfl
    · rw [List.map_map]
      have h1 := sum_le (l := s.evs.map ((fun x => x.length) ∘ evTxt)) (k := 20) fun x hx => by
        obtain ⟨e, he, rfl⟩ := List.mem_map.mp hx
        exact (hans.small e he).2
      have h2 : ("; " : Str).length = 2 := by decide +kernel
      rw [List.length_map] at h1 ⊢
      rw [h2]
      omega
    have R3 := R2.mono e3
    have L3 := L2.mono e3
    have e03 := e1.trans (e2.trans e3)
    refine q_when (b := false) (et_is (et_or (a := false) (b := false) (et_is (et_test (ev_op (y := s.ans "cache") (ev_ask (z := "cache") R3 O.ans O.past (ev_var rfl) ev_c ?_) ?_ (rv_ne ?_))) (by rw [decide_eq_true rfl] <;> rfl)) fun _ => et_is (et_test (ev_op (y := s.ans "database") (ev_ask (z := "database") R3 O.ans O.past (ev_var rfl) ev_c ?_) ?_ (rv_ne ?_))) (by rw [decide_eq_true rfl] <;> rfl)) rfl) (fun z => by cases z) (fun _ H4 e4 => ?_)
    · rw [ans_cache]
      cases s.cache <;> exact fun z => by cases z
    · rw [ans_cache]
      cases hc : s.cache with
      | none => exact ev_ifx (b := true) (x := .str "nothing") (y := .non) (et_B (ev_is (ev_isN (ev_sF L3 (ev_var rfl))) (show V.bl (decide (oV s.cache = .non)) = _ by rw [hc] <;> rfl))) (fun _ => ev_c) (fun z => by cases z)
      | some v => exact ev_ifx (b := false) (x := .non) (y := .str (toString v)) (et_B (ev_is (ev_isN (ev_sF L3 (ev_var rfl))) (show V.bl (decide (oV s.cache = .non)) = _ by rw [hc] <;> rfl))) (fun z => by cases z) (fun _ => ev_strI (ev_is (ev_sF L3 (ev_var rfl)) (show oV s.cache = _ by rw [hc] <;> rfl)) (hans.cache v hc))
    · rw [ans_cache]
      cases s.cache <;> rfl
    · rw [ans_database]
      exact fun z => by cases z
    · rw [ans_database]
      exact ev_strI (ev_sF L3 (ev_var rfl)) hans.db
    · rw [ans_database] <;> rfl
    have R4 := R3.mono e4
    have e04 := e03.trans e4
    have hq4 : H4 q = some (.lst (((Pr.all.filter s.broken).map Pr.str).map V.str)) := by
      have h := (e2.trans (e3.trans e4)) _ _ hq
      rw [List.map_map]
      exact h
    have hb : s.ans "broken" = (if (!(Pr.all.filter s.broken).isEmpty) = true then .str (Txt.join " " ((Pr.all.filter s.broken).map Pr.str)) else .str "none") := by
      rw [ans_broken]
      cases (Pr.all.filter s.broken).isEmpty <;> rfl
    have hne : s.ans "broken" ≠ .non := by
      rw [hb]
      split <;> exact fun z => by cases z
    refine s_ret (v := .bl true) (ev_is (ev_op (y := s.ans "broken") (ev_ask (z := "broken") R4 O.ans O.past (ev_var rfl) ev_c hne) ?_ (rv_eq ?_)) (by rw [decide_eq_true rfl])) fun H5 e5 => k H5 (e04.trans e5)
    · rw [hb]
      refine ev_ifx (et_is (et_test (ev_neNilV (ev_var rfl) (sq_of hq4))) (by rw [List.isEmpty_map, List.isEmpty_map])) (fun _ => ev_joinL ev_c (ev_var rfl) (sq_of hq4) ?_) (fun _ => ev_c)
      have h1 := sum_le (l := ((Pr.all.filter s.broken).map Pr.str).map (·.length)) (k := 20) fun x hx => by
        obtain ⟨y, hy, rfl⟩ := List.mem_map.mp hx
        obtain ⟨p, _, rfl⟩ := List.mem_map.mp hy
        cases p <;> decide +kernel
      have h2 : (" " : Str).length = 1 := by decide +kernel
      have h3 : (Pr.all.filter s.broken).length ≤ 10 := List.length_filter_le _ _
      rw [List.length_map, List.length_map] at h1
      rw [List.length_map, h2]
      omega
    · rw [hb]
      split <;> rfl
end
end K10
end
section
set_option Elab.async false
set_option linter.all false
set_option maxRecDepth 100000
set_option maxHeartbeats 1000000
namespace K10
open PySem PySem.Spec PyProof.Rows L2 Evl LamX
def Ex4.word : Ex4 → Str
  | .invalid => "invalid" | .now => "now" | .text => "text" | .undo => "undo"
def ExW (K : PySem.W.Frag) (Q : VK) : XK := fun cls d H' => ∃ x : Ex4, cls = .ref (He.ga K x.nm) ∧ (x = .invalid → ∃ dd, d = some dd ∧ H' dd = some (.xd [("line", .int 1)])) ∧ (x ≠ .invalid → d = none) ∧ ∀ H'', Ex H' H'' → Q (.str x.word) H''
def TWord (K : PySem.W.Frag) : (XK → Hp → VK → Prop) → Hp → VK → Prop := fun tl H Q => tl (ExW K Q) H fun _ H' => Q (.str "") H'
theorem takes_len {X : Cx} {W : WX} {n : Nat} (tk : Takes X W) (hn : X.N.length = n) : Takes X (fun cls d σ H => σ.length = n → W cls d σ H) := fun u s' ⟨a, B, sI, pins, σ, H, cls, d, e, I, nb, up, sky, na, os, ag, w⟩ =>
  tk u s' ⟨a, B, sI, pins, σ, H, cls, d, e, I, nb, up, sky, na, os, ag, w (I.len.trans hn)⟩
theorem sc_L_word : FnScope ["_law_work", "e", "_law_known"] ["_law_work"] (defScope s_L_word) := ⟨rfl, rfl, rfl, by decide +kernel, rfl, by decide +kernel, by decide +kernel⟩
abbrev wCx (X : Cx) (g : Addr) (cdg : Value) (s : Shared) (H : Hp) : Cx := (cxOf C8.CX0 X.prog X.w X.K X.mg X.base ["_law_work", "e", "_law_known"] "_law_word" (defScope s_L_word) g cdg X.A X.stack s H C8.E0).nox
def wSuite : List Stmt := match defBody s_L_word with
  | .Try _ (.ExceptHandler _ _ b _ :: _) _ _ _ :: _ => b
  | _ => []
def tWI (K : PySem.W.Frag) (a : Addr) (cls : Value) (d : Option Addr) (y : Ex4) : TE := tCB (rIsEx K cls d a) (tCons (tVar 1) (tCons (tC (V.ref (He.ga K y.nm))) tNil))
def tWS (K : PySem.W.Frag) (a : Addr) (cls : Value) (d : Option Addr) : TS :=
  tSeq (tAsg (tLst (tCons (tAndV (tWI K a cls d .invalid) (tOp rEq (tXf a cls d (itC K) "line" (tVar 1)) (tC (.int 1)))) (tCons (tWI K a cls d .now) (tCons (tWI K a cls d .text) (tCons (tWI K a cls d .undo) tNil))))) (gName 2))
    (tRet (tIf (tTest (tOp rEq (tBM K "list" (rCntB K) (tVar 2) (tCons (tC (.bl true)) tNil)) (tC (.int 1))))
      (tOp (rIxL K) (tLst (tCons (tC (.str "invalid")) (tCons (tC (.str "now")) (tCons (tC (.str "text")) (tCons (tC (.str "undo")) tNil))))) (tBM K "list" (rIndex K) (tVar 2) (tCons (tC (.bl true)) tNil)))
      (tC (.str "other"))))
theorem word_suite {P : Program} {h0 : Heap} {X : Cx} (T : TxtP P h0 X.K X.mg) (a : Addr) (cls : Value) (d : Option Addr) (g : Addr) (cdg : Value) (s : Shared) (H : Hp) (oe : Obj) (pn : List (Addr × Obj)) (hz : Zc cls d oe) (hf : ∃ vs, oe.data = .fields vs) : PSs ((wCx X g cdg s H).suite a ((a, oe) :: pn)) (wSuite.getD 0 (.Pass default) :: wSuite.drop 1) (tWS X.K a cls d) := by
  have key := (pss_cons (X := (wCx X g cdg s H).suite a ((a, oe) :: pn)) (st := wSuite.getD 0 (.Pass default)) (rest := wSuite.drop 1) (ps_set (i := 2) sc_L_word.nd rfl (Or.inl rfl) (pe_lst (pa_cons (pe_and (pe_callB (call_isEx (X := wCx X g cdg s H) (pn := pn) hz hf) (by rfl) T.f_isinstance (by decide +kernel) (pa_cons (pv 1) (pa_cons (pe_gref T.g_InvalidText) pa_nil))) (pe_one (pe_cmpR op_eq (pe_xf T.xf T.xl hz hf (pv 1)) pe_int (nomark _)))) (pa_cons (pe_callB (call_isEx (X := wCx X g cdg s H) (pn := pn) hz hf) (by rfl) T.f_isinstance (by decide +kernel) (pa_cons (pv 1) (pa_cons (pe_gref T.g_NotNow) pa_nil))) (pa_cons (pe_callB (call_isEx (X := wCx X g cdg s H) (pn := pn) hz hf) (by rfl) T.f_isinstance (by decide +kernel) (pa_cons (pv 1) (pa_cons (pe_gref T.g_NotText) pa_nil))) (pa_cons (pe_callB (call_isEx (X := wCx X g cdg s H) (pn := pn) hz hf) (by rfl) T.f_isinstance (by decide +kernel) (pa_cons (pv 1) (pa_cons (pe_gref T.g_NothingToUndo) pa_nil))) pa_nil))))))
      (pss_one (ps_ret (pe_ifExp (pt_cmpR op_eq (pe_bm PySem.F.plainAttrs_list PySem.F.slot_list_count PySem.F.type_list_count mt_bcount (pv 2) (pa_cons pe_bl pa_nil)) pe_int (nomark _)) (pe_ix (ix_listK (K := X.K)) (pe_lst (pa_cons pe_str (pa_cons pe_str (pa_cons pe_str (pa_cons pe_str pa_nil))))) (pe_bm PySem.F.plainAttrs_list PySem.F.slot_list_index PySem.F.type_list_index mt_index (pv 2) (pa_cons pe_bl pa_nil)) (fun _ _ => rfl)) pe_str))))
  exact key
def Ex4.bits : Ex4 → List Bool
  | .invalid => [true, false, false, false] | .now => [false, true, false, false] | .text => [false, false, true, false] | .undo => [false, false, false, true]
def Ex4.pos : Ex4 → Nat
  | .invalid => 0 | .now => 1 | .text => 2 | .undo => 3
theorem bits_of (x : Ex4) : x.bits = [decide (x = .invalid), decide (x = .now), decide (x = .text), decide (x = .undo)] := by cases x <;> rfl
theorem bits_count (x : Ex4) : x.bits.count true = 1 := by cases x <;> rfl
theorem bits_flat (x : Ex4) : (x.bits.map V.bl).all flatV = true := by cases x <;> rfl
theorem bits_at (x : Ex4) : (x.bits.map V.bl)[x.pos]? = some (.bl true) := by cases x <;> rfl
theorem bits_first (x : Ex4) : ∀ (m : Nat) (z' : V), m < x.pos → (x.bits.map V.bl)[m]? = some z' → eqV z' (.bl true) = false := by
  intro m z' h e
  cases x <;> simp only [Ex4.pos] at h
  · omega
  · have : m = 0 := by omega
    subst this
    rw [← Option.some.inj e] <;> rfl
  · have : m = 0 ∨ m = 1 := by omega
    rcases this with rfl | rfl <;> (rw [← Option.some.inj e] <;> rfl)
  · have : m = 0 ∨ m = 1 ∨ m = 2 := by omega
    rcases this with rfl | rfl | rfl <;> (rw [← Option.some.inj e] <;> rfl)
theorem word_at (x : Ex4) : atI [V.str "invalid", V.str "now", V.str "text", V.str "undo"] (x.pos : Int) = some (V.str x.word) := by cases x <;> rfl
theorem word_says {P : Program} {h0 : Heap} {K : PySem.W.Frag} {mg : Str → Option Value} (T : TxtP P h0 K mg) {a : Addr} {d : Option Addr} {D : Ends} {σ0 σ2 : Option V} {H : Hp} (x : Ex4) (h1 : x = .invalid → ∃ dd, d = some dd ∧ H dd = some (.xd [("line", .int 1)])) (h2 : x ≠ .invalid → d = none) (k : ∀ H'', Ex H H'' → D.rt (.str x.word) H'') :
    tWS K a (.ref (He.ga K x.nm)) d D [σ0, some (.ref a), σ2] H := by
  have isx : ∀ y : Ex4, Ev (tWI K a (.ref (He.ga K x.nm)) d y) [σ0, some (.ref a), σ2] H (.bl (decide (x = y))) := fun y => by
    refine ev_cb (ea_cons (ev_var rfl) (ea_cons ev_c ea_nil)) fun H1 e1 Q q => ⟨He.ga K x.nm, .ref (He.ga K y.nm), .ref (He.ga K y.nm), decide (x = y), rfl, rfl, T.x2 x, fun u r => r, T.x3 x y, ?_, q H1 (Ex.refl H1)⟩
    by_cases hx : x = .invalid
    · obtain ⟨dd, e, hd⟩ := h1 hx
      exact .inr ⟨dd, _, e, e1 _ _ hd⟩
    · exact .inl (h2 hx)
  have hline : x = .invalid → Ev (tOp rEq (tXf a (.ref (He.ga K x.nm)) d (itC K) "line" (tVar 1)) (tC (.int 1))) [σ0, some (.ref a), σ2] H (.bl true) := fun hx => by
    obtain ⟨dd, e, hd⟩ := h1 hx
    subst hx
    exact ev_op (x := .int 1) (fun H1 e1 Q q => ⟨.ref a, rfl, rfl, rfl, dd, _, _, e, e1 _ _ hd, rfl, q H1 (Ex.refl H1)⟩) ev_c (rv_eq rfl)
  have hl : EvL (tLst (tCons (tAndV (tWI K a (.ref (He.ga K x.nm)) d .invalid) (tOp rEq (tXf a (.ref (He.ga K x.nm)) d (itC K) "line" (tVar 1)) (tC (.int 1)))) (tCons (tWI K a (.ref (He.ga K x.nm)) d .now) (tCons (tWI K a (.ref (He.ga K x.nm)) d .text) (tCons (tWI K a (.ref (He.ga K x.nm)) d .undo) tNil))))) [σ0, some (.ref a), σ2] H (x.bits.map V.bl) := by
    rw [bits_of]
    refine el_lst (ea_cons (ev_is (ev_andV (b := true) (isx .invalid) fun hb => hline (of_decide_eq_true hb)) (by rw [Bool.and_true])) (ea_cons (isx .now) (ea_cons (isx .text) (ea_cons (isx .undo) ea_nil)))) (by show 4 ≤ 100000; decide)
  refine q_asgL hl fun p H1 np e1 hp => ?_
  refine s_ret (v := .str x.word) (ev_if (b := true) (et_test (ev_op (x := .int 1) (y := .int 1) (fun H2 e2 Q q => ⟨.ref p, rfl, .inl ⟨rfl, _, sq_of (e2 _ _ hp)⟩, p, x.bits, rfl, rfl, sq_of (e2 _ _ hp), ?_⟩) ev_c (rv_eq rfl))) (fun _ => ?_) (fun z => by cases z)) fun H2 e2 => k H2 (e1.trans e2)
  · rw [bits_count]
    exact q H2 (Ex.refl H2)
  · refine ev_opL1 (y := .int (x.pos : Int)) (el_lst (vs := [.str "invalid", .str "now", .str "text", .str "undo"]) (ea_cons ev_c (ea_cons ev_c (ea_cons ev_c (ea_cons ev_c ea_nil)))) (by show 4 ≤ 100000; decide)) (fun H2 e2 H3 e3 Q q => ?_) fun q H2 hq e2 => rv_ixL (sq_of hq) (word_at x)
    have hp3 := e3 _ _ (e2 _ _ hp)
    exact ⟨.ref p, rfl, .inl ⟨rfl, _, sq_of hp3⟩, p, x.bits.map V.bl, .bl true, x.pos, .bl true, rfl, rfl, sq_of hp3, rfl, bits_flat x, bits_at x, rfl, bits_first x, q H3 (Ex.refl H3)⟩
theorem word_gives {P : Program} {h0 : Heap} {X : Cx} (T : TxtP P h0 X.K X.mg) {q : Str} {g : Addr} {cdg : Value} : GivesTo X ["_law_work", "e", "_law_known"] "_law_word" (defScope s_L_word) g cdg (defBody s_L_word) "_law_work" q (TWord X.K) := by
  intro f c' s H Q tl act hc h
  refine ⟨_, pss_cons (ps_try_as (X := wCx X g cdg s H) (c := .ref (He.ga X.K "CacheError")) (i := 1) (b₀ := wSuite.getD 0 (.Pass default)) (suite := wSuite.drop 1) (ts := tWS X.K)
      (tb := fun W D σ H => ∃ Ech : XK, (∀ cls d (σ' : L2.St) H', σ'.length = 3 → Ech cls d H' → W cls d σ' H') ∧ σ[0]? = some (some (.ref f)) ∧ H c' = some (CodeO c' q) ∧ tl Ech H (fun _ H' => D.nx σ H'))
      rfl rfl sc_L_word.nd rfl rfl ⟨rfl, by decide, .inl T.g_CacheError⟩ L2.takes0 (fun W pn xe tk _ => ?_) (fun a oe cls d pn hz hf => word_suite T a cls d g cdg s H oe pn hz hf)) (pss_one (ps_ret pe_str)), ?_⟩
  · refine ⟨fun pins s' σ H' D I h' => ?_⟩
    obtain ⟨Ech, hW, h1, h2, h3⟩ := h'
    exact (pss_one (ps_expr (act (fun cls d σ H => σ.length = 3 → W cls d σ H) pn xe Ech _ _ (takes_len tk rfl) (fun cls d σ' H' he hl => hW cls d σ' H' hl he)))).run pins s' σ H' D I ⟨h1, h2, h3⟩
  · refine ⟨ExW X.K Q, fun cls d σ' H' hlen he => ?_, rfl, hc, h⟩
    obtain ⟨x, rfl, h1, h2, k⟩ := he
    refine ⟨true, T.xc x, fun _ a na => ?_, fun z => by cases z⟩
    match σ', hlen with
    | [s0, s1, s2], _ => exact word_says T x h1 h2 k
end K10
end
section
set_option linter.all false
set_option maxHeartbeats 1000000
namespace K10
def Op.core (o : Op) : Op := { o with token := false, clean := false, quiet := false }
structure Kp (q q' : Op) : Prop where
  wr : q'.wr = q.wr
  stage : q'.stage = q.stage
  ver : q'.ver = q.ver
  begun : q'.begun = q.begun
  ended : q'.ended = q.ended
  over : q'.over = q.over
  step : q'.step = q.step
  leader : q'.leader = q.leader
  fin : q'.fin = q.fin
  ret : q'.ret = q.ret
  tok : q.token = q.clean → q.going = true → q'.token = q'.clean
theorem Kp.going {q q' : Op} (k : Kp q q') : q'.going = q.going := by unfold Op.going; rw [k.stage]
theorem Kp.refl (q : Op) : Kp q q := ⟨rfl, rfl, rfl, rfl, rfl, rfl, rfl, rfl, rfl, rfl, fun h _ => h⟩
theorem Kp.spoil (q : Op) : Kp q q.spoil := ⟨rfl, rfl, rfl, rfl, rfl, rfl, rfl, rfl, rfl, rfl, fun _ g => by unfold Op.spoil; simp [g]⟩
theorem Kp.hush (q : Op) : Kp q q.hush := by unfold Op.hush; split <;> exact ⟨rfl, rfl, rfl, rfl, rfl, rfl, rfl, rfl, rfl, rfl, fun h _ => h⟩
def Pt.si : Pt → Nat
  | .ds => 1 | .dsd => 1 | .s => 0 | .sd => 0 | .ss => 0
theorem going_iff (o : Op) : o.going = true ↔ o.stage ≠ .ended ∧ o.stage ≠ .stopped := by
  unfold Op.going
  cases o.stage <;> simp
theorem not_going {o : Op} (h : o.going = false) : o.stage = .ended ∨ o.stage = .stopped := by
  revert h
  unfold Op.going
  cases o.stage <;> simp
structure End (u t : S) (n : Nat) (o o' : Op) : Prop where
  cases : (o'.going = true ∧ o'.over = none ∧ o'.ended = none ∧ t.fin = u.fin ∧ t.ret = u.ret ∧ t.last = none)
    ∨ (o'.stage = .stopped ∧ o'.over = some u.now ∧ o'.ended = none ∧ t.fin = u.fin ∧ t.ret = u.ret ∧ t.last = none ∧ o'.ver = o.ver ∧ o'.step = o.step)
    ∨ (o'.stage = .ended ∧ o'.over = some u.now ∧ o'.ended = some u.now ∧ ∃ v, o'.ver = some v ∧ t.fin = (if o.wr then mx u.fin v else u.fin) ∧ t.ret = (if o.wr then u.ret else mx u.ret v) ∧ t.last = (if o.wr then none else some n))
structure Sm (u t : S) (n : Nat) (o o' : Op) : Prop where
  cfg : t.cfg = u.cfg
  len : t.ops.length = u.ops.length
  me : t.ops[n]? = some o'
  oth : ∀ i q, i ≠ n → u.ops[i]? = some q → ∃ q', t.ops[i]? = some q' ∧ Kp q q' ∧ q'.quiet = q.quiet
  kwr : o'.wr = o.wr
  kb : o'.begun = o.begun
  kf : o'.fin = o.fin
  kr : o'.ret = o.ret
  kq : o'.quiet = o.quiet
  ktok : o'.going = true → o'.token = o'.clean
  rep : t.rep = u.rep
  db : (t.db = u.db ∧ (o.wr = true → o'.ver = o.ver)) ∨ (o.wr = true ∧ o.ver = none ∧ t.db = u.db + 1 ∧ o'.ver = some (u.db + 1))
  cache : t.cache = u.cache ∨ t.cache = none ∨ ∃ v, t.cache = some v ∧ o.ver = some v
  fl : t.fl = u.fl ∨ t.fl = none ∨ (t.fl = some n ∧ u.cfg.shared = true)
  rver : o.wr = false → o'.ver = o.ver ∨ (∃ v, u.cache = some v ∧ o'.ver = some v) ∨ o'.ver = some u.source ∨ ∃ (j : Nat) (q : Op), u.ops[j]? = some q ∧ q.ver = o'.ver
  fin : End u t n o o'
  wst : o.wr = true → o'.going = true → u.steps[o'.step]? = some o'.stage
  wver : o.wr = true → (o'.ver ≠ none ↔ u.cfg.path.si < o'.step)
  rst : o.wr = false → o'.stage = .fetch ∨ o'.stage = .fill ∨ o'.stage = .waits ∨ o'.stage = .ended ∨ o'.stage = .stopped
  fill : o.wr = false → o'.stage = .fill → o'.ver ≠ none ∧ u.cfg.guard ≠ .never
  waits : o'.stage = .waits → u.cfg.shared = true ∧ ∃ j, o'.leader = some j ∧ u.fl = some j
  keep : o'.going = true ∨ o'.stage = .stopped ∨ o'.ver ≠ none
def Op.rank (o : Op) : Nat := match o.stage with
  | .look => 3
  | .fetch => 2
  | .fill => 1
  | .waits => 1
  | .ended => 0
  | .stopped => 0
  | _ => 4
structure Pg (u : S) (o o' : Op) : Prop where
  nst : o'.stage ≠ .stopped
  rd : o.wr = false → o'.rank < o.rank
  wt : o.wr = true → o'.step = o.step + 1 ∧ (o'.going = true ↔ o.step + 1 < u.steps.length)
structure OpOk (s : S) (b c : Int) (o : Op) : Prop where
  wst : o.wr = true → o.going = true → s.steps[o.step]? = some o.stage
  wver : o.wr = true → (o.ver ≠ none ↔ s.cfg.path.si < o.step)
  rst : o.wr = false → o.stage = .look ∨ o.stage = .fetch ∨ o.stage = .fill ∨ o.stage = .waits ∨ o.stage = .ended ∨ o.stage = .stopped
  fill : o.wr = false → o.stage = .fill → o.ver ≠ none ∧ s.cfg.guard ≠ .never
  waits : o.stage = .waits → s.cfg.shared = true ∧ ∃ j, o.leader = some j ∧ j < s.ops.length
  done : o.stage = .ended → o.ver ≠ none ∧ o.ended = o.over
  nend : o.stage ≠ .ended → o.ended = none
  run : o.going = true → o.over = none
  stp : o.going = false → o.over ≠ none
  tok : o.going = true → o.token = o.clean
  beg : 0 ≤ o.begun ∧ o.begun < b
  ovr : ∀ m, o.over = some m → o.begun ≤ m ∧ m < c
  ver : ∀ v, o.ver = some v → 0 ≤ v ∧ v ≤ s.db ∧ (o.wr = true → 1 ≤ v)
theorem ops_set_ne {l : List Op} {i n : Nat} {x : Op} (h : i ≠ n) : (l.set n x)[i]? = l[i]? := List.getElem?_set_ne (fun z => h z.symm)
theorem ops_set_me {l : List Op} {n : Nat} {o x : Op} (h : l[n]? = some o) : (l.set n x)[n]? = some x := List.getElem?_set_self (List.getElem?_eq_some_iff.mp h).1
theorem at_get {s : S} {n : Nat} {o : Op} (h : s.ops[n]? = some o) : s.at n = o := by
  unfold S.at
  rw [List.getD_eq_getElem?_getD, h] <;> rfl
theorem oth_set {l : List Op} {n : Nat} {x : Op} : ∀ i q, i ≠ n → l[i]? = some q → ∃ q', (l.set n x)[i]? = some q' ∧ Kp q q' ∧ q'.quiet = q.quiet := fun i q h e =>
  ⟨q, by rw [ops_set_ne h]; exact e, Kp.refl q, rfl⟩
theorem oth_spoil {l : List Op} {n : Nat} {x : Op} : ∀ i q, i ≠ n → l[i]? = some q → ∃ q', ((l.map Op.spoil).set n x)[i]? = some q' ∧ Kp q q' ∧ q'.quiet = q.quiet := fun i q h e =>
  ⟨q.spoil, by rw [ops_set_ne h, List.getElem?_map, e] <;> rfl, Kp.spoil q, rfl⟩
theorem sm_stop {u : S} {n : Nat} {o : Op} {b c : Int} (ho : u.ops[n]? = some o) (K : OpOk u b c o) (hg : o.going = true) (hl : u.last = none) : Sm u (u.stopOp n o) n o { o with stage := .stopped, over := some u.now } where
  cfg := rfl
  len := setOp_ops ..
  me := ops_set_me ho
  oth := oth_set
  kwr := rfl
  kb := rfl
  kf := rfl
  kr := rfl
  kq := rfl
  ktok := fun h => by simp [Op.going] at h
  rep := rfl
  db := .inl ⟨rfl, fun _ => rfl⟩
  cache := .inl rfl
  fl := .inl rfl
  rver := fun _ => .inl rfl
  fin := ⟨.inr (.inl ⟨rfl, rfl, K.nend ((going_iff o).mp hg).1, rfl, rfl, hl, rfl, rfl⟩)⟩
  wst := fun _ h => by simp [Op.going] at h
  wver := K.wver
  rst := fun _ => .inr (.inr (.inr (.inr rfl)))
  fill := fun _ h => by cases h
  waits := fun h => by cases h
  keep := .inr (.inl rfl)
theorem sm_hit {u : S} {n : Nat} {o : Op} {b c : Int} {v : Int} (ho : u.ops[n]? = some o) (K : OpOk u b c o) (hg : o.going = true) (hl : u.last = none) (hw : o.wr = false)
    (hv : (∃ z, u.cache = some z ∧ some v = some z) ∨ some v = some u.source ∨ ∃ (j : Nat) (q : Op), u.ops[j]? = some q ∧ q.ver = some v) : Sm u (u.endOp n { o with ver := some v }) n o { o with ver := some v, stage := .ended, ended := some u.now, over := some u.now } where
  cfg := rfl
  len := endOp_ops ..
  me := ops_set_me ho
  oth := oth_set
  kwr := rfl
  kb := rfl
  kf := rfl
  kr := rfl
  kq := rfl
  ktok := fun h => by simp [Op.going] at h
  rep := rfl
  db := .inl ⟨rfl, fun z => by rw [hw] at z; cases z⟩
  cache := .inl rfl
  fl := by
    show (if u.fl = some n then none else u.fl) = _ ∨ (if u.fl = some n then none else u.fl) = _ ∨ _
    split
    · exact .inr (.inl rfl)
    · exact .inl rfl
  rver := fun _ => .inr hv
  fin := ⟨.inr (.inr ⟨rfl, rfl, rfl, v, rfl, rfl, rfl, by show (if o.wr then u.last else some n) = _; rw [hl]⟩)⟩
  wst := fun _ h => by simp [Op.going] at h
  wver := fun z => by rw [hw] at z; cases z
  rst := fun _ => .inr (.inr (.inr (.inl rfl)))
  fill := fun _ h => by cases h
  waits := fun h => by cases h
  keep := .inr (.inr (fun z => by cases z))
theorem endOp_stage (u : S) (n : Nat) (o : Op) (w : Wd) : (u.endOp n { o with stage := w }) = u.endOp n o := rfl
theorem setOp_endOp (u : S) (n : Nat) (x o : Op) : (u.setOp n x).endOp n o = u.endOp n o := by
  unfold S.setOp S.endOp
  simp only [List.set_set]
  rfl
theorem sm_fillx {u : S} {n : Nat} {o : Op} {b c : Int} {v : Int} {t : S} (ho : u.ops[n]? = some o) (K : OpOk u b c o) (hg : o.going = true) (hl : u.last = none) (hw : o.wr = false) (hv : o.ver = some v) (ht : t = u ∨ t = u.put v) :
    Sm u (t.endOp n o) n o { o with stage := .ended, ended := some u.now, over := some u.now } := by
  have h1 : t.ops = u.ops ∧ t.past = u.past ∧ t.cfg = u.cfg ∧ t.rep = u.rep ∧ t.db = u.db ∧ t.fin = u.fin ∧ t.ret = u.ret ∧ t.last = u.last ∧ t.fl = u.fl ∧ (t.cache = u.cache ∨ t.cache = some v) := by
    rcases ht with rfl | rfl
    · exact ⟨rfl, rfl, rfl, rfl, rfl, rfl, rfl, rfl, rfl, .inl rfl⟩
    · exact ⟨rfl, rfl, rfl, rfl, rfl, rfl, rfl, rfl, rfl, .inr rfl⟩
  obtain ⟨e1, e2, e3, e4, e5, e6, e7, e8, e9, e10⟩ := h1
  have en : t.now = u.now := by unfold S.now; rw [e2]
  exact {
    cfg := e3
    len := by rw [endOp_ops, e1]
    me := by
      show (t.ops.set n _)[n]? = _
      rw [e1, en]
      exact ops_set_me ho
    oth := by
      show ∀ i q, i ≠ n → u.ops[i]? = some q → ∃ q', (t.ops.set n _)[i]? = some q' ∧ Kp q q' ∧ q'.quiet = q.quiet
      rw [e1]
      exact oth_set
    kwr := rfl
    kb := rfl
    kf := rfl
    kr := rfl
    kq := rfl
    ktok := fun h => by simp [Op.going] at h
    rep := e4
    db := .inl ⟨e5, fun z => rfl⟩
    cache := by
      rcases e10 with z | z
      · exact .inl z
      · exact .inr (.inr ⟨v, z, hv⟩)
    fl := by
      show (if t.fl = some n then none else t.fl) = _ ∨ (if t.fl = some n then none else t.fl) = _ ∨ _
      rw [e9]
      split
      · exact .inr (.inl rfl)
      · exact .inl rfl
    rver := fun _ => .inl rfl
    fin := ⟨.inr (.inr ⟨rfl, rfl, rfl, v, hv, by
      show (if o.wr then mx t.fin (o.ver.getD 0) else t.fin) = _
      rw [e6, hv] <;> rfl, by
      show (if o.wr then t.ret else mx t.ret (o.ver.getD 0)) = _
      rw [e7, hv] <;> rfl, by
      show (if o.wr then t.last else some n) = _
      rw [e8, hl]⟩)⟩
    wst := fun _ h => by simp [Op.going] at h
    wver := fun z => by rw [hw] at z; cases z
    rst := fun _ => .inr (.inr (.inr (.inl rfl)))
    fill := fun _ h => by cases h
    waits := fun h => by cases h
    keep := .inr (.inr (fun z => by rw [hv] at z; cases z)) }
theorem sm_on {u t : S} {n : Nat} {o o' : Op} {b c : Int} (ho : u.ops[n]? = some o) (K : OpOk u b c o) (hg : o.going = true) (hl : u.last = none) (hw : o.wr = false)
    (e : ∃ f, t = { u with ops := u.ops.set n o', fl := f } ∧ (f = u.fl ∨ f = none ∨ (f = some n ∧ u.cfg.shared = true)))
    (hx : ∃ w x l, o' = { o with stage := w, ver := x, leader := l } ∧ (x = o.ver ∨ x = some u.source) ∧ ((w = .fetch) ∨ (w = .fill ∧ x ≠ none ∧ u.cfg.guard ≠ .never) ∨ (w = .waits ∧ u.cfg.shared = true ∧ ∃ j, l = some j ∧ u.fl = some j))) : Sm u t n o o' := by
  obtain ⟨f, rfl, hf⟩ := e
  obtain ⟨w, x, l, rfl, hv, hx⟩ := hx
  have g : ∀ (y : Option Int) (l : Option Nat), ({ o with stage := w, ver := y, leader := l } : Op).going = true := fun y l => by
    rcases hx with rfl | ⟨rfl, _⟩ | ⟨rfl, _⟩ <;> rfl
  have hs := (going_iff o).mp hg
  exact {
    cfg := rfl
    len := by show (u.ops.set _ _).length = _; rw [List.length_set]
    me := ops_set_me ho
    oth := oth_set
    kwr := rfl
    kb := rfl
    kf := rfl
    kr := rfl
    kq := rfl
    ktok := fun _ => K.tok hg
    rep := rfl
    db := .inl ⟨rfl, fun z => by rw [hw] at z; cases z⟩
    cache := .inl rfl
    fl := hf
    rver := fun _ => by
      rcases hv with rfl | rfl
      · exact .inl rfl
      · exact .inr (.inr (.inl rfl))
    fin := ⟨.inl ⟨g _ _, K.run hg, K.nend hs.1, rfl, rfl, hl⟩⟩
    wst := fun z => by have z : o.wr = true := z; rw [hw] at z; cases z
    wver := fun z => by have z : o.wr = true := z; rw [hw] at z; cases z
    rst := fun _ => by
      rcases hx with rfl | ⟨rfl, _⟩ | ⟨rfl, _⟩
      · exact .inl rfl
      · exact .inr (.inl rfl)
      · exact .inr (.inr (.inl rfl))
    fill := fun _ h => by
      rcases hx with rfl | ⟨rfl, h1⟩ | ⟨rfl, _⟩
      · cases h
      · exact h1
      · cases h
    waits := fun h => by
      rcases hx with rfl | ⟨rfl, h1⟩ | ⟨rfl, h1⟩
      · cases h
      · cases h
      · exact h1
    keep := .inl (g _ _) }
theorem sm_read {u : S} {n : Nat} {o : Op} {b c : Int} {w : Wd} (ho : u.ops[n]? = some o) (K : OpOk u b c o) (hg : o.going = true) (hl : u.last = none) (hw : o.wr = false) (hn : u.nextW o = some w)
    (led : ∀ q, o.stage = .waits → u.ldr o = q → q.stage = .ended → (∃ j : Nat, u.ops[j]? = some q) ∧ q.ver ≠ none) :
    ∃ o', Sm u (u.doRead n w o) n o o' ∧ Pg u o o' := by
  have hs := (going_iff o).mp hg
  have pg : ∀ o' : Op, o'.stage ≠ .stopped → o'.rank < o.rank → Pg u o o' := fun o' h1 h2 => ⟨h1, fun _ => h2, fun z => by rw [hw] at z; cases z⟩
  have rk : ∀ w, o.stage = w → o.rank = ({ o with stage := w } : Op).rank := fun w h => by rw [← h]
  rcases K.rst hw with h | h | h | h | h | h
  · have e : w = .look := by unfold S.nextW at hn; rw [h] at hn; simp at hn; exact hn.symm
    subst e
    unfold S.doRead
    rw [if_pos rfl]
    unfold S.doLook
    cases hc : u.cache with
    | some v => exact ⟨_, sm_hit ho K hg hl hw (.inl ⟨v, hc, rfl⟩), pg _ (fun z => by cases z) (by rw [rk _ h]; exact Nat.lt_of_sub_eq_succ rfl)⟩
    | none =>
      simp only
      split
      · rename_i hsh
        obtain ⟨j, hj⟩ : ∃ j, u.fl = some j := by
          cases hf : u.fl with
          | none => exact absurd hf hsh.2
          | some j => exact ⟨j, rfl⟩
        exact ⟨_, sm_on ho K hg hl hw ⟨u.fl, rfl, .inl rfl⟩ ⟨.waits, o.ver, u.fl, rfl, .inl rfl, .inr (.inr ⟨rfl, hsh.1, j, hj, hj⟩)⟩, pg _ (fun z => by cases z) (by rw [rk _ h]; exact Nat.lt_of_sub_eq_succ rfl)⟩
      · refine ⟨_, sm_on ho K hg hl hw ⟨_, by simp only [hc] <;> rfl, ?_⟩ ⟨.fetch, o.ver, o.leader, rfl, .inl rfl, .inl rfl⟩, pg _ (fun z => by cases z) (by rw [rk _ h]; exact Nat.lt_of_sub_eq_succ rfl)⟩
        split
        · rename_i hsh
          exact .inr (.inr ⟨rfl, hsh⟩)
        · exact .inr (.inl rfl)
  · have e : w = .fetch := by unfold S.nextW at hn; rw [h] at hn; simp at hn; exact hn.symm
    subst e
    unfold S.doRead
    rw [if_neg (by decide), if_pos rfl]
    unfold S.doFetch
    simp only
    split
    · rw [setOp_endOp, endOp_stage u n { o with ver := some u.source } .fill]
      exact ⟨_, sm_hit ho K hg hl hw (.inr (.inl rfl)), pg _ (fun z => by cases z) (by rw [rk _ h]; exact Nat.lt_of_sub_eq_succ rfl)⟩
    · rename_i hgd
      exact ⟨_, sm_on ho K hg hl hw ⟨u.fl, rfl, .inl rfl⟩ ⟨.fill, some u.source, o.leader, rfl, .inr rfl, .inr (.inl ⟨rfl, ⟨(fun z => by cases z), hgd⟩⟩)⟩, pg _ (fun z => by cases z) (by rw [rk _ h]; exact Nat.lt_of_sub_eq_succ rfl)⟩
  · have e : w = .fill := by unfold S.nextW at hn; rw [h] at hn; simp at hn; exact hn.symm
    subst e
    unfold S.doRead
    rw [if_neg (by decide), if_neg (by decide), if_pos rfl]
    unfold S.doFill
    obtain ⟨v, hv⟩ : ∃ v, o.ver = some v := by
      cases hv : o.ver with
      | none => exact absurd hv (K.fill hw h).1
      | some v => exact ⟨v, rfl⟩
    refine ⟨_, sm_fillx ho K hg hl hw hv ?_, pg _ (fun z => by cases z) (by rw [rk _ h]; exact Nat.lt_of_sub_eq_succ rfl)⟩
    rw [hv]
    split
    · exact .inr rfl
    · exact .inl rfl
  · have e : (u.ldr o).stage = .ended ∧ w = .take := by
      unfold S.nextW at hn
      rw [if_pos h] at hn
      split at hn
      · rename_i h2
        exact ⟨h2, (Option.some.inj hn).symm⟩
      · cases hn
    obtain ⟨e1, rfl⟩ := e
    obtain ⟨⟨j, hj⟩, hv⟩ := led _ h rfl e1
    unfold S.doRead
    rw [if_neg (by decide), if_neg (by decide), if_neg (by decide)]
    unfold S.doTake
    simp only
    cases hv2 : (u.ldr o).ver with
    | none => exact absurd hv2 hv
    | some v =>
      rw [setOp_endOp]
      exact ⟨_, sm_hit ho K hg hl hw (.inr (.inr ⟨j, _, hj, hv2⟩)), pg _ (fun z => by cases z) (by rw [rk _ h]; exact Nat.lt_of_sub_eq_succ rfl)⟩
  · exact absurd h hs.1
  · exact absurd h hs.2
end K10
end
section
set_option linter.all false
set_option maxHeartbeats 1000000
namespace K10
theorem steps_at (p : Pt) (k : Nat) (w : Wd) (h : p.steps[k]? = some w) : (w = .store ∧ k = p.si) ∨ ((w = .drop ∨ w = .set) ∧ k ≠ p.si ∧ (w = .set → p.si < k)) := by
  cases p <;> (match k with
    | 0 => (simp [Pt.steps] at h; subst h; simp [Pt.si])
    | 1 => first | (simp [Pt.steps] at h; done) | (simp [Pt.steps] at h; subst h; simp [Pt.si])
    | 2 => first | (simp [Pt.steps] at h; done) | (simp [Pt.steps] at h; subst h; simp [Pt.si])
    | k + 3 => simp [Pt.steps] at h)
theorem si_lt (p : Pt) : p.si < p.steps.length := by cases p <;> decide
structure Wr (u t : S) (n : Nat) (o o1 : Op) : Prop where
  cfg : t.cfg = u.cfg
  past : t.past = u.past
  len : t.ops.length = u.ops.length
  me : t.ops[n]? = some o1
  oth : ∀ i q, i ≠ n → u.ops[i]? = some q → ∃ q', t.ops[i]? = some q' ∧ Kp q q' ∧ q'.quiet = q.quiet
  same : ∃ x y z, o1 = { o with ver := x, token := y, clean := z }
  tok : o1.token = o1.clean
  rep : t.rep = u.rep
  fin : t.fin = u.fin
  ret : t.ret = u.ret
  last : t.last = u.last
  fl : t.fl = u.fl
  db : (t.db = u.db ∧ o1.ver = o.ver) ∨ (o.ver = none ∧ t.db = u.db + 1 ∧ o1.ver = some (u.db + 1))
  cache : t.cache = u.cache ∨ t.cache = none ∨ ∃ v, t.cache = some v ∧ o.ver = some v
  ver : o1.ver ≠ none ↔ u.cfg.path.si < o.step + 1
theorem wr_of {u : S} {n : Nat} {o : Op} {b c : Int} (ho : u.ops[n]? = some o) (K : OpOk u b c o) (hg : o.going = true) (hw : o.wr = true) : Wr u (u.wrote n o.stage o) n o (u.wroteOp o.stage o) := by
  have hst := K.wst hw hg
  have hv := K.wver hw
  have htk := K.tok hg
  have hsp : u.spoil.ops[n]? = some o.spoil := by show (u.ops.map Op.spoil)[n]? = _; rw [List.getElem?_map, ho] <;> rfl
  have osp : ∀ i q, i ≠ n → u.ops[i]? = some q → ∃ q', u.spoil.ops[i]? = some q' ∧ Kp q q' ∧ q'.quiet = q.quiet := fun i q h e => ⟨q.spoil, by show (u.ops.map Op.spoil)[i]? = _; rw [List.getElem?_map, e] <;> rfl, Kp.spoil q, rfl⟩
  have tsp : o.spoil.token = o.spoil.clean := by unfold Op.spoil; simp [hg]
  rcases steps_at _ _ _ hst with ⟨e, es⟩ | ⟨e, es, e2⟩
  · rw [e]
    have hno : o.ver = none := by
      cases h : o.ver with
      | none => rfl
      | some v => have := hv.mp (by rw [h]; exact fun z => by cases z); omega
    unfold S.wrote S.wroteOp
    rw [if_pos rfl, if_pos rfl]
    exact ⟨rfl, rfl, by show (u.ops.set _ _).length = _; rw [List.length_set], ops_set_me ho, oth_set, ⟨_, _, _, rfl⟩, htk, rfl, rfl, rfl, rfl, rfl, .inr ⟨hno, rfl, rfl⟩, .inl rfl, by
      constructor
      · intro _; omega
      · intro _ z; cases z⟩
  · have hns : o.stage ≠ .store := by rcases e with h | h <;> rw [h] <;> decide
    have hver : o.ver ≠ none ↔ u.cfg.path.si < o.step + 1 := by rw [hv]; omega
    unfold S.wrote S.wroteOp
    rw [if_neg hns, if_neg hns]
    rcases e with h | h
    · rw [if_pos h]
      have key : ∀ m : Int, Wr u { ({ u with cache := none } : S).spoil with mark := m } n o o.spoil := fun m =>
        ⟨rfl, rfl, spoil_ops u, hsp, osp, ⟨_, _, _, rfl⟩, tsp, rfl, rfl, rfl, rfl, rfl, .inl ⟨rfl, rfl⟩, .inr (.inl rfl), hver⟩
      show Wr u (match decide (u.cfg.guard = Gd.mark), o.ver with
        | true, some x => ({ ({ u with cache := none }.spoil : S) with mark := mx u.mark x } : S)
        | _, _ => ({ u with cache := none }.spoil : S)) n o o.spoil
      split
      · exact key _
      · exact key u.mark
    · rw [if_neg (by rw [h]; decide)]
      have hlt := e2 h
      obtain ⟨v, hv2⟩ : ∃ v, o.ver = some v := by
        cases hv2 : o.ver with
        | none => exact absurd hv2 (hv.mpr hlt)
        | some v => exact ⟨v, rfl⟩
      show Wr u (if _ then _ else _ : S) n o o.spoil
      split
      · exact ⟨rfl, rfl, spoil_ops u, hsp, osp, ⟨_, _, _, rfl⟩, tsp, rfl, rfl, rfl, rfl, rfl, .inl ⟨rfl, rfl⟩, .inr (.inr ⟨v, by show some (o.ver.getD 0) = _; rw [hv2] <;> rfl, hv2⟩), hver⟩
      · exact ⟨rfl, rfl, spoil_ops u, hsp, osp, ⟨_, _, _, rfl⟩, tsp, rfl, rfl, rfl, rfl, rfl, .inl ⟨rfl, rfl⟩, .inl rfl, hver⟩
theorem oth_then {l m : List Op} {n : Nat} {x : Op} (h : ∀ i q, i ≠ n → l[i]? = some q → ∃ q', m[i]? = some q' ∧ Kp q q' ∧ q'.quiet = q.quiet) :
    ∀ i q, i ≠ n → l[i]? = some q → ∃ q', (m.set n x)[i]? = some q' ∧ Kp q q' ∧ q'.quiet = q.quiet := fun i q hi e => by
  obtain ⟨q', h1, h2⟩ := h i q hi e
  exact ⟨q', by rw [ops_set_ne hi]; exact h1, h2⟩
theorem sm_write {u : S} {n : Nat} {o : Op} {b c : Int} (ho : u.ops[n]? = some o) (K : OpOk u b c o) (hg : o.going = true) (hl : u.last = none) (hw : o.wr = true) :
    ∃ o', Sm u (u.doWrite n o.stage o) n o o' ∧ Pg u o o' := by
  have R := wr_of ho K hg hw
  have hs := (going_iff o).mp hg
  unfold S.doWrite
  rw [at_get R.me]
  generalize u.wrote n o.stage o = t at R
  generalize u.wroteOp o.stage o = o1 at R
  obtain ⟨x, y, z, rfl⟩ := R.same
  have hsteps : t.steps = u.steps := by unfold S.steps; rw [R.cfg]
  have en : t.now = u.now := by unfold S.now; rw [R.past]
  have hdb := R.db
  have hver := R.ver
  unfold S.advance
  rw [hsteps]
  split
  · rename_i hend
    have hend : o.step + 1 = u.steps.length := hend
    have hx : x ≠ none := hver.mpr (by rw [hend]; exact si_lt _)
    obtain ⟨v, hv⟩ : ∃ v, x = some v := by
      cases x with
      | none => exact absurd rfl hx
      | some v => exact ⟨v, rfl⟩
    subst hv
    exact ⟨{ o with ver := some v, token := y, clean := z, step := o.step + 1, stage := .ended, ended := some u.now, over := some u.now }, {
      cfg := R.cfg
      len := by rw [endOp_ops, R.len]
      me := by
        show (t.ops.set n _)[n]? = _
        rw [en]
        exact ops_set_me R.me
      oth := oth_then R.oth
      kwr := rfl
      kb := rfl
      kf := rfl
      kr := rfl
      kq := rfl
      ktok := fun h => by simp [Op.going] at h
      rep := R.rep
      db := by
        rcases hdb with ⟨h1, h2⟩ | ⟨h1, h2, h3⟩
        · exact .inl ⟨h1, fun _ => h2⟩
        · exact .inr ⟨hw, h1, h2, h3⟩
      cache := R.cache
      fl := by
        show (if t.fl = some n then none else t.fl) = _ ∨ (if t.fl = some n then none else t.fl) = _ ∨ _
        rw [R.fl]
        split
        · exact .inr (.inl rfl)
        · exact .inl rfl
      rver := fun h => by rw [hw] at h; cases h
      fin := ⟨.inr (.inr ⟨rfl, rfl, rfl, v, rfl, by
        show (if o.wr then mx t.fin v else t.fin) = _
        rw [R.fin], by
        show (if o.wr then t.ret else mx t.ret v) = _
        rw [R.ret], by
        show (if o.wr then t.last else some n) = _
        rw [R.last, hl]⟩)⟩
      wst := fun _ h => by simp [Op.going] at h
      wver := fun _ => hver
      rst := fun h => by have h : o.wr = false := h; rw [hw] at h; cases h
      fill := fun _ h => by cases h
      waits := fun h => by cases h
      keep := .inr (.inr fun z => by cases z) }, ⟨fun z => (by cases z), fun z => (by rw [hw] at z; cases z), fun _ => ⟨rfl, ⟨fun z => (by simp [Op.going] at z), fun z => (by omega)⟩⟩⟩⟩
  · rename_i hend
    have hend : ¬ o.step + 1 = u.steps.length := hend
    have hlt : o.step < u.steps.length := (List.getElem?_eq_some_iff.mp (K.wst hw hg)).1
    have hlt2 : o.step + 1 < u.steps.length := by omega
    have hget : u.steps[o.step + 1]? = some (u.steps.getD (o.step + 1) .store) := by
      rw [List.getD_eq_getElem?_getD, List.getElem?_eq_getElem hlt2] <;> rfl
    have hst3 := steps_at _ _ _ hget
    have hgo : ∀ (q : Op), q.stage = u.steps.getD (o.step + 1) .store → q.going = true := fun q hq => by
      rw [going_iff, hq]
      rcases hst3 with ⟨h, _⟩ | ⟨h | h, _⟩ <;> rw [h] <;> exact ⟨by decide, by decide⟩
    exact ⟨{ o with ver := x, token := y, clean := z, step := o.step + 1, stage := u.steps.getD (o.step + 1) .store }, {
      cfg := R.cfg
      len := by rw [setOp_ops, R.len]
      me := ops_set_me R.me
      oth := oth_then R.oth
      kwr := rfl
      kb := rfl
      kf := rfl
      kr := rfl
      kq := rfl
      ktok := fun _ => R.tok
      rep := R.rep
      db := by
        rcases hdb with ⟨h1, h2⟩ | ⟨h1, h2, h3⟩
        · exact .inl ⟨h1, fun _ => h2⟩
        · exact .inr ⟨hw, h1, h2, h3⟩
      cache := R.cache
      fl := .inl R.fl
      rver := fun h => by rw [hw] at h; cases h
      fin := ⟨.inl ⟨hgo _ rfl, K.run hg, K.nend hs.1, R.fin, R.ret, by show t.last = none; rw [R.last, hl]⟩⟩
      wst := fun _ _ => hget
      wver := fun _ => hver
      rst := fun h => by have h : o.wr = false := h; rw [hw] at h; cases h
      fill := fun h => by have h : o.wr = false := h; rw [hw] at h; cases h
      waits := fun h => by
        have h : u.steps.getD (o.step + 1) .store = .waits := h
        rcases hst3 with ⟨h1, _⟩ | ⟨h1 | h1, _⟩ <;> rw [h1] at h <;> cases h
      keep := .inl (hgo _ rfl) }, ⟨((going_iff _).mp (hgo _ rfl)).2, fun z => (by rw [hw] at z; cases z), fun _ => ⟨rfl, ⟨fun _ => hlt2, fun _ => hgo _ rfl⟩⟩⟩⟩
end K10
end
section
set_option linter.all false
set_option maxHeartbeats 1000000
namespace K10
structure MaxOf (s : S) (wr : Bool) (b x : Int) : Prop where
  le : ∀ (j : Nat) (q : Op) (m v : Int), s.ops[j]? = some q → q.wr = wr → q.stage = .ended → q.over = some m → m < b → q.ver = some v → v ≤ x
  at' : x = 0 ∨ ∃ (j : Nat) (q : Op) (m : Int), s.ops[j]? = some q ∧ q.wr = wr ∧ q.stage = .ended ∧ q.over = some m ∧ m < b ∧ q.ver = some x
  nn : 0 ≤ x
structure RInv (b c : Int) (s : S) : Prop where
  op : ∀ (i : Nat) (o : Op), s.ops[i]? = some o → OpOk s b c o
  stamp : ∀ (i j : Nat) (o q : Op), i ≠ j → s.ops[i]? = some o → s.ops[j]? = some q → o.begun ≠ q.begun ∧ ∀ m, q.over = some m → o.begun ≠ m ∧ o.over ≠ some m
  sh : s.cfg.shared = false → s.fl = none
  fl : ∀ i, s.fl = some i → i < s.ops.length
  cache : ∀ v, s.cache = some v → 0 ≤ v ∧ v ≤ s.db
  rep : 0 ≤ s.rep ∧ s.rep ≤ s.db
  has : ∀ v, 1 ≤ v → v ≤ s.db → ∃ (j : Nat) (q : Op), s.ops[j]? = some q ∧ q.wr = true ∧ q.ver = some v
  uniq : ∀ (i j : Nat) (o q : Op) (v : Int), s.ops[i]? = some o → s.ops[j]? = some q → o.wr = true → q.wr = true → o.ver = some v → q.ver = some v → i = j
  src : ∀ (i : Nat) (o : Op) (v m : Int), s.ops[i]? = some o → o.wr = false → o.stage = .ended → o.ver = some v → o.over = some m → 1 ≤ v → ∃ (j : Nat) (q : Op), s.ops[j]? = some q ∧ q.wr = true ∧ q.ver = some v ∧ q.begun ≤ m
  mf : ∀ (i : Nat) (o : Op), s.ops[i]? = some o → MaxOf s true o.begun o.fin ∧ MaxOf s false o.begun o.ret
  fin : MaxOf s true c s.fin
  ret : MaxOf s false c s.ret
  qui : ∀ (i : Nat) (o : Op), s.ops[i]? = some o → o.wr = false → o.going = true ∨ s.last = some i → (o.quiet = true ↔ ∀ (j : Nat) (q : Op), s.ops[j]? = some q → q.wr = true → ∃ m, q.over = some m ∧ m < o.begun)
theorem si_pos (p : Pt) : 0 ≤ p.si := Nat.zero_le _
theorem inv_init (c : Cfg) : RInv 0 0 (S.init c) where
  op := fun i o h => by simp [S.init] at h
  stamp := fun i j o q _ h => by simp [S.init] at h
  sh := fun _ => rfl
  fl := fun i h => by cases h
  cache := fun v h => by cases h
  rep := ⟨Int.le_refl _, Int.le_refl _⟩
  has := fun v h1 h2 => by have h2 : v ≤ 0 := h2; omega
  uniq := fun i j o q v h => by simp [S.init] at h
  src := fun i o v m h => by simp [S.init] at h
  mf := fun i o h => by simp [S.init] at h
  fin := ⟨fun j q m v h => by simp [S.init] at h, .inl rfl, Int.le_refl _⟩
  ret := ⟨fun j q m v h => by simp [S.init] at h, .inl rfl, Int.le_refl _⟩
  qui := fun i o h => by simp [S.init] at h
theorem MaxOf.next {s t : S} {wr : Bool} {b x : Int} (M : MaxOf s wr b x)
    (h1 : ∀ (j : Nat) (q : Op) (m : Int), s.ops[j]? = some q → q.stage = .ended → q.over = some m → m < b → ∃ q', t.ops[j]? = some q' ∧ q'.wr = q.wr ∧ q'.stage = .ended ∧ q'.over = some m ∧ q'.ver = q.ver)
    (h2 : ∀ (j : Nat) (q : Op) (m : Int), t.ops[j]? = some q → q.stage = .ended → q.over = some m → m < b → ∃ q', s.ops[j]? = some q' ∧ q'.wr = q.wr ∧ q'.stage = .ended ∧ q'.over = some m ∧ q'.ver = q.ver) : MaxOf t wr b x where
  le := fun j q m v e w g ov lt vv => by
    obtain ⟨q', a1, a2, a3, a4, a5⟩ := h2 j q m e g ov lt
    exact M.le j q' m v a1 (a2.trans w) a3 a4 lt (a5.trans vv)
  at' := by
    rcases M.at' with h | ⟨j, q, m, e, w, g, ov, lt, vv⟩
    · exact .inl h
    · obtain ⟨q', a1, a2, a3, a4, a5⟩ := h1 j q m e g ov lt
      exact .inr ⟨j, q', m, a1, a2.trans w, a3, a4, lt, a5.trans vv⟩
  nn := M.nn
theorem MaxOf.mono {s : S} {wr : Bool} {b b' x : Int} (M : MaxOf s wr b x) (hb : b ≤ b') (h : ∀ (j : Nat) (q : Op) (m : Int), s.ops[j]? = some q → q.stage = .ended → q.over = some m → m < b' → m < b) : MaxOf s wr b' x where
  le := fun j q m v e w g ov lt vv => M.le j q m v e w g ov (h j q m e g ov lt) vv
  at' := by
    rcases M.at' with z | ⟨j, q, m, e, w, g, ov, lt, vv⟩
    · exact .inl z
    · exact .inr ⟨j, q, m, e, w, g, ov, by omega, vv⟩
  nn := M.nn
theorem newOp_stage (s : S) (wr : Bool) : (s.newOp wr).stage = if wr then s.first else .look := rfl
theorem first_get (s : S) : s.steps[0]? = some s.first := by
  unfold S.first S.steps
  cases s.cfg.path <;> rfl
theorem first_ne (s : S) : s.first ≠ .look ∧ s.first ≠ .fill ∧ s.first ≠ .waits ∧ s.first ≠ .ended ∧ s.first ≠ .stopped ∧ s.first ≠ .fetch ∧ s.first ≠ .take ∧ s.first ≠ .stop := by
  unfold S.first S.steps
  cases s.cfg.path <;> decide
theorem begin_new (s : S) (wr : Bool) : (s.begin wr).ops[s.ops.length]? = some (s.newOp wr) := by
  unfold S.begin
  show ((if wr then s.ops.map Op.hush else s.ops) ++ [s.newOp wr])[s.ops.length]? = _
  rw [List.getElem?_append_right (by split <;> simp)]
  split <;> simp
theorem begin_old {s : S} {wr : Bool} {i : Nat} {q' : Op} (h : (s.begin wr).ops[i]? = some q') (hi : i ≠ s.ops.length) : ∃ q, s.ops[i]? = some q ∧ q' = (if wr then q.hush else q) := by
  have h : ((if wr then s.ops.map Op.hush else s.ops) ++ [s.newOp wr])[i]? = some q' := h
  have hl : i < s.ops.length := by
    have h1 := (List.getElem?_eq_some_iff.mp h).1
    rw [List.length_append] at h1
    have h2 : (if wr then s.ops.map Op.hush else s.ops).length = s.ops.length := by split <;> simp
    rw [h2] at h1
    simp at h1
    omega
  rw [List.getElem?_append_left (by split <;> simpa using hl)] at h
  refine ⟨s.ops[i], List.getElem?_eq_getElem hl, ?_⟩
  cases wr with
  | true => simp [List.getElem?_map, List.getElem?_eq_getElem hl] at h; simp [h]
  | false => simp [List.getElem?_eq_getElem hl] at h; simp [h]
theorem begin_fwd {s : S} {wr : Bool} {i : Nat} {q : Op} (h : s.ops[i]? = some q) : (s.begin wr).ops[i]? = some (if wr then q.hush else q) := by
  have hl := (List.getElem?_eq_some_iff.mp h).1
  show ((if wr then s.ops.map Op.hush else s.ops) ++ [s.newOp wr])[i]? = _
  rw [List.getElem?_append_left (by split <;> simpa using hl)]
  cases wr with
  | true => simp [List.getElem?_map, h]
  | false => simp [h]
theorem kp_hush (q : Op) (wr : Bool) : Kp q (if wr then q.hush else q) := by
  cases wr with
  | true => exact Kp.hush q
  | false => exact Kp.refl q
theorem kp_src {s : S} {wr : Bool} {i : Nat} {q' : Op} (h : (s.begin wr).ops[i]? = some q') (hi : i ≠ s.ops.length) : ∃ q, s.ops[i]? = some q ∧ Kp q q' ∧ (wr = false → q' = q) := by
  obtain ⟨q, e, rfl⟩ := begin_old h hi
  exact ⟨q, e, kp_hush q wr, fun z => by rw [z] <;> rfl⟩
theorem writing_iff (s : S) : s.writing = true ↔ ∃ (j : Nat) (q : Op), s.ops[j]? = some q ∧ q.wr = true ∧ q.going = true := by
  unfold S.writing
  rw [List.any_eq_true]
  constructor
  · rintro ⟨q, hq, h⟩
    obtain ⟨j, hj⟩ := List.mem_iff_getElem?.mp hq
    rw [Bool.and_eq_true] at h
    exact ⟨j, q, hj, h.2, h.1⟩
  · rintro ⟨j, q, hj, h1, h2⟩
    exact ⟨q, List.mem_of_getElem? hj, by rw [Bool.and_eq_true]; exact ⟨h2, h1⟩⟩
theorem OpOk.kp {s t : S} {b b' c c' : Int} {q q' : Op} (K : OpOk s b c q) (k : Kp q q') (h1 : t.cfg = s.cfg) (h2 : s.ops.length ≤ t.ops.length) (h3 : s.db ≤ t.db) (h4 : b ≤ b') (h5 : c ≤ c') : OpOk t b' c' q' where
  wst := by
    rw [k.wr, k.going, k.step, k.stage]
    unfold S.steps
    rw [h1]
    exact K.wst
  wver := by rw [k.wr, k.ver, k.step, h1]; exact K.wver
  rst := by rw [k.wr, k.stage]; exact K.rst
  fill := by rw [k.wr, k.stage, k.ver, h1]; exact K.fill
  waits := by
    rw [k.stage, h1, k.leader]
    intro h
    obtain ⟨a, j, e, l⟩ := K.waits h
    exact ⟨a, j, e, by omega⟩
  done := by rw [k.stage, k.ver, k.ended, k.over]; exact K.done
  nend := by rw [k.stage, k.ended]; exact K.nend
  run := by rw [k.going, k.over]; exact K.run
  stp := by rw [k.going, k.over]; exact K.stp
  tok := by
    rw [k.going]
    intro h
    exact k.tok (K.tok h) h
  beg := by rw [k.begun]; have := K.beg; omega
  ovr := by
    rw [k.begun, k.over]
    intro m h
    have := K.ovr m h
    omega
  ver := by
    rw [k.ver, k.wr]
    intro v h
    obtain ⟨a, b, d⟩ := K.ver v h
    exact ⟨a, by omega, d⟩
theorem inv_begin {s : S} {wr : Bool} (I : RInv s.now s.now s) (hl : s.last = none) : RInv (s.now + 1) s.now (s.begin wr) := by
  have hn0 : 0 ≤ s.now := Int.natCast_nonneg _
  have len : (s.begin wr).ops.length = s.ops.length + 1 := begin_ops ..
  have back : ∀ (j : Nat) (q : Op) (m : Int), (s.begin wr).ops[j]? = some q → q.over = some m → ∃ q', s.ops[j]? = some q' ∧ Kp q' q := fun j q m h ho => by
    by_cases hj : j = s.ops.length
    · subst hj
      rw [begin_new] at h
      rw [← Option.some.inj h] at ho
      cases ho
    · obtain ⟨q', h1, h2, _⟩ := kp_src h hj
      exact ⟨q', h1, h2⟩
  have mx : ∀ {w : Bool} {b x : Int}, MaxOf s w b x → MaxOf (s.begin wr) w b x := fun M => M.next
    (fun j q m h g o lt => ⟨_, begin_fwd h, (kp_hush q wr).wr, by rw [(kp_hush q wr).stage]; exact g, by rw [(kp_hush q wr).over]; exact o, (kp_hush q wr).ver⟩)
    (fun j q m h g o lt => by
      obtain ⟨q', h1, k⟩ := back j q m h o
      exact ⟨q', h1, k.wr.symm, by rw [← k.stage]; exact g, by rw [← k.over]; exact o, k.ver.symm⟩)
  constructor
  case op =>
    intro i o h
    by_cases hi : i = s.ops.length
    · subst hi
      rw [begin_new] at h
      obtain rfl := Option.some.inj h
      obtain ⟨f1, f2, f3, f4, f5, _⟩ := first_ne s
      have fs := first_get s
      have hgo : (s.newOp wr).going = true := by
        rw [going_iff, newOp_stage]
        cases wr with
        | true => exact ⟨f4, f5⟩
        | false => exact ⟨(by decide : Wd.look ≠ .ended), (by decide : Wd.look ≠ .stopped)⟩
      exact {
        wst := fun (hw : wr = true) _ => by
          subst hw
          exact fs
        wver := fun _ => ⟨fun z => absurd rfl z, fun z => by have z : s.cfg.path.si < 0 := z; omega⟩
        rst := fun (hw : wr = false) => by
          subst hw
          exact .inl rfl
        fill := fun (hw : wr = false) h => by
          subst hw
          cases h
        waits := fun h => by
          cases wr with
          | true => exact absurd h f3
          | false => cases h
        done := fun h => absurd h ((going_iff _).mp hgo).1
        nend := fun _ => rfl
        run := fun _ => rfl
        stp := fun h => by rw [hgo] at h; cases h
        tok := fun _ => rfl
        beg := ⟨hn0, by show s.now < s.now + 1; omega⟩
        ovr := fun m h => by cases h
        ver := fun v h => by cases h }
    · obtain ⟨q, h1, k, _⟩ := kp_src h hi
      exact (I.op i q h1).kp k rfl (by omega) (Int.le_refl _) (by omega) (Int.le_refl _)
  case stamp =>
    intro i j o q hij h1 h2
    by_cases hi : i = s.ops.length
    · subst hi
      rw [begin_new] at h1
      obtain rfl := Option.some.inj h1
      obtain ⟨q', e, k, _⟩ := kp_src h2 (fun z => hij z.symm)
      have K := I.op j q' e
      have hb := K.beg
      refine ⟨?_, fun m hm => ⟨?_, fun z => by cases z⟩⟩
      · show s.now ≠ _
        rw [k.begun]
        omega
      · show s.now ≠ _
        rw [k.over] at hm
        have := K.ovr m hm
        omega
    · obtain ⟨o', e, k, _⟩ := kp_src h1 hi
      have K := I.op i o' e
      by_cases hj : j = s.ops.length
      · subst hj
        rw [begin_new] at h2
        obtain rfl := Option.some.inj h2
        refine ⟨?_, fun m hm => by cases hm⟩
        show _ ≠ s.now
        rw [k.begun]
        have := K.beg
        omega
      · obtain ⟨q', e2, k2, _⟩ := kp_src h2 hj
        have := I.stamp i j o' q' hij e e2
        rw [k.begun, k2.begun, k2.over, k.over]
        exact this
  case sh => exact I.sh
  case fl =>
    intro i h
    have := I.fl i h
    omega
  case cache => exact I.cache
  case rep => exact I.rep
  case has =>
    intro v h1 h2
    obtain ⟨j, q, e, w, x⟩ := I.has v h1 h2
    exact ⟨j, _, begin_fwd e, by rw [(kp_hush q wr).wr]; exact w, by rw [(kp_hush q wr).ver]; exact x⟩
  case uniq =>
    intro i j o q v h1 h2 w1 w2 v1 v2
    have old : ∀ {i : Nat} {o : Op}, (s.begin wr).ops[i]? = some o → o.ver = some v → ∃ q, s.ops[i]? = some q ∧ Kp q o := fun {i o} h hv => by
      by_cases hi : i = s.ops.length
      · subst hi
        rw [begin_new] at h
        rw [← Option.some.inj h] at hv
        cases hv
      · obtain ⟨q, a, b, _⟩ := kp_src h hi
        exact ⟨q, a, b⟩
    obtain ⟨o', a1, k1⟩ := old h1 v1
    obtain ⟨q', a2, k2⟩ := old h2 v2
    exact I.uniq i j o' q' v a1 a2 (by rw [← k1.wr]; exact w1) (by rw [← k2.wr]; exact w2) (by rw [← k1.ver]; exact v1) (by rw [← k2.ver]; exact v2)
  case src =>
    intro i o v m h w g hv ho h1
    obtain ⟨o', e, k⟩ := back i o m h ho
    obtain ⟨j, q, a, b, d, f⟩ := I.src i o' v m e (by rw [← k.wr]; exact w) (by rw [← k.stage]; exact g) (by rw [← k.ver]; exact hv) (by rw [← k.over]; exact ho) h1
    exact ⟨j, _, begin_fwd a, by rw [(kp_hush q wr).wr]; exact b, by rw [(kp_hush q wr).ver]; exact d, by rw [(kp_hush q wr).begun]; exact f⟩
  case mf =>
    intro i o h
    by_cases hi : i = s.ops.length
    · subst hi
      rw [begin_new] at h
      obtain rfl := Option.some.inj h
      exact ⟨mx I.fin, mx I.ret⟩
    · obtain ⟨o', e, k, _⟩ := kp_src h hi
      rw [k.begun, k.fin, k.ret]
      exact ⟨mx (I.mf i o' e).1, mx (I.mf i o' e).2⟩
  case fin => exact mx I.fin
  case ret => exact mx I.ret
  case qui =>
    intro i o h hw hg
    by_cases hi : i = s.ops.length
    · subst hi
      rw [begin_new] at h
      obtain rfl := Option.some.inj h
      have hw : wr = false := hw
      subst hw
      show (!s.writing) = true ↔ _
      constructor
      · intro hq j q hj hwq
        by_cases hj2 : j = s.ops.length
        · subst hj2
          rw [begin_new] at hj
          rw [← Option.some.inj hj] at hwq
          cases hwq
        · obtain ⟨q', e, k, kk⟩ := kp_src hj hj2
          have := kk rfl
          subst this
          have ng : q.going = false := by
            cases hgq : q.going with
            | false => rfl
            | true =>
              have := (writing_iff s).mpr ⟨j, q, e, hwq, hgq⟩
              rw [this] at hq
              cases hq
          have K := I.op j q e
          cases ho : q.over with
          | none => exact absurd ho (K.stp ng)
          | some m => exact ⟨m, rfl, (K.ovr m ho).2⟩
      · intro hall
        cases hwr : s.writing with
        | false => rfl
        | true =>
          obtain ⟨j, q, e, w, g⟩ := (writing_iff s).mp hwr
          obtain ⟨m, hm, _⟩ := hall j _ (begin_fwd e) w
          have : q.over = none := (I.op j q e).run g
          have hm : q.over = some m := hm
          rw [this] at hm
          cases hm
    · obtain ⟨o', e, k, kk⟩ := kp_src h hi
      have hgg : o.going = true := by
        rcases hg with z | z
        · exact z
        · have z : s.last = some i := z
          rw [hl] at z
          cases z
      have hg' : o'.going = true := by rw [← k.going]; exact hgg
      cases wr with
      | true =>
        have hq : o.quiet = false := by
          obtain ⟨q, e2, rfl⟩ := begin_old h hi
          show (Op.hush q).quiet = false
          rw [e] at e2
          obtain rfl := Option.some.inj e2
          unfold Op.hush
          rw [if_pos hg']
        rw [hq]
        constructor
        · intro z
          cases z
        · intro hall
          obtain ⟨m, hm, _⟩ := hall s.ops.length _ (begin_new s true) rfl
          cases hm
      | false =>
        have := kk rfl
        subst this
        rw [I.qui i o e hw (.inl hgg)]
        constructor
        · intro hall j q hj hwq
          by_cases hj2 : j = s.ops.length
          · subst hj2
            rw [begin_new] at hj
            rw [← Option.some.inj hj] at hwq
            cases hwq
          · obtain ⟨q', e3, k3, kk3⟩ := kp_src hj hj2
            have := kk3 rfl
            subst this
            exact hall j q e3 hwq
        · intro hall j q hj hwq
          exact hall j q (begin_fwd hj) hwq
end K10
end
section
set_option linter.all false
set_option maxHeartbeats 1000000
namespace K10
theorem mx_l (i j : Int) : i ≤ mx i j := by unfold mx; split <;> omega
theorem mx_r (i j : Int) : j ≤ mx i j := by unfold mx; split <;> omega
theorem mx_or (i j : Int) : mx i j = i ∨ mx i j = j := by unfold mx; split <;> simp
theorem source_le {b c : Int} {u : S} (I : RInv b c u) : 0 ≤ u.source ∧ u.source ≤ u.db := by
  unfold S.source
  have := I.rep
  split <;> omega
section
variable {u t : S} {n : Nat} {o o' : Op}
theorem Sm.back (R : Sm u t n o o') {i : Nat} {q' : Op} (hi : i ≠ n) (h : t.ops[i]? = some q') : ∃ q, u.ops[i]? = some q ∧ Kp q q' ∧ q'.quiet = q.quiet := by
  have hl := (List.getElem?_eq_some_iff.mp h).1
  rw [R.len] at hl
  obtain ⟨q2, a, b, c⟩ := R.oth i _ hi (List.getElem?_eq_getElem hl)
  rw [h] at a
  obtain rfl := Option.some.inj a
  exact ⟨_, List.getElem?_eq_getElem hl, b, c⟩
theorem Sm.is_me (R : Sm u t n o o') {q' : Op} (h : t.ops[n]? = some q') : q' = o' := by
  rw [R.me] at h
  exact (Option.some.inj h).symm
theorem Sm.db_le (R : Sm u t n o o') : u.db ≤ t.db := by
  rcases R.db with ⟨h, _⟩ | ⟨_, _, h, _⟩ <;> omega
theorem Sm.write (R : Sm u t n o o') {i : Nat} {q : Op} {v : Int} (ho : u.ops[n]? = some o) (h : u.ops[i]? = some q) (hw : q.wr = true) (hv : q.ver = some v) : ∃ q', t.ops[i]? = some q' ∧ q'.wr = true ∧ q'.ver = some v ∧ q'.begun = q.begun := by
  by_cases hi : i = n
  · subst hi
    rw [ho] at h
    obtain rfl := Option.some.inj h
    refine ⟨o', R.me, R.kwr.trans hw, ?_, R.kb⟩
    rcases R.db with ⟨_, h2⟩ | ⟨_, h2, _⟩
    · rw [h2 hw]
      exact hv
    · rw [h2] at hv
      cases hv
  · obtain ⟨q', a, k, _⟩ := R.oth i q hi h
    exact ⟨q', a, k.wr.trans hw, k.ver.trans hv, k.begun⟩
theorem Sm.ended (R : Sm u t n o o') (ho : u.ops[n]? = some o) (hg : o.going = true) {wr : Bool} {b x : Int} (hb : b ≤ u.now) (M : MaxOf u wr b x) : MaxOf t wr b x :=
  M.next
    (fun j q m h g ov lt => by
      by_cases hj : j = n
      · subst hj
        rw [ho] at h
        obtain rfl := Option.some.inj h
        exact absurd g ((going_iff _).mp hg).1
      · obtain ⟨q', a, k, _⟩ := R.oth j q hj h
        exact ⟨q', a, k.wr, k.stage.trans g, k.over.trans ov, k.ver⟩)
    (fun j q m h g ov lt => by
      by_cases hj : j = n
      · subst hj
        obtain rfl := R.is_me h
        rcases R.fin.cases with ⟨_, h2, _⟩ | ⟨h2, _⟩ | ⟨_, h2, _⟩
        · rw [h2] at ov
          cases ov
        · rw [h2] at g
          cases g
        · rw [h2] at ov
          have := Option.some.inj ov
          omega
      · obtain ⟨q', a, k, _⟩ := R.back hj h
        exact ⟨q', a, k.wr.symm, k.stage ▸ g, k.over ▸ ov, k.ver.symm⟩)
theorem Sm.over (R : Sm u t n o o') : ∀ m, o'.over = some m → m = u.now := fun m h => by
  rcases R.fin.cases with ⟨_, h2, _⟩ | ⟨_, h2, _⟩ | ⟨_, h2, _⟩
  · rw [h2] at h
    cases h
  · rw [h2] at h
    exact (Option.some.inj h).symm
  · rw [h2] at h
    exact (Option.some.inj h).symm
theorem Sm.ver_le (R : Sm u t n o o') (I : RInv (u.now + 1) u.now u) (ho : u.ops[n]? = some o) : ∀ v, o'.ver = some v → 0 ≤ v ∧ v ≤ t.db ∧ (o'.wr = true → 1 ≤ v) := fun v hv => by
  have K := I.op n o ho
  have hd := R.db_le
  rw [R.kwr]
  cases hw : o.wr with
  | true =>
    rcases R.db with ⟨h1, h2⟩ | ⟨_, _, h1, h2⟩
    · rw [h2 hw] at hv
      obtain ⟨a, b, c⟩ := K.ver v hv
      exact ⟨a, by omega, fun _ => c hw⟩
    · rw [h2] at hv
      have := Option.some.inj hv
      have := I.rep
      exact ⟨by omega, by omega, fun _ => by omega⟩
  | false =>
    have key : 0 ≤ v ∧ v ≤ u.db := by
      rcases R.rver hw with h | ⟨z, h1, h2⟩ | h | ⟨j, q, h1, h2⟩
      · rw [h] at hv
        exact ⟨(K.ver v hv).1, (K.ver v hv).2.1⟩
      · rw [h2] at hv
        obtain rfl := Option.some.inj hv
        exact I.cache _ h1
      · rw [h] at hv
        obtain rfl := Option.some.inj hv
        exact source_le I
      · rw [← h2] at hv
        exact ⟨((I.op j q h1).ver v hv).1, ((I.op j q h1).ver v hv).2.1⟩
    exact ⟨key.1, by omega, fun z => by cases z⟩
theorem Sm.maxN (R : Sm u t n o o') (I : RInv (u.now + 1) u.now u) (ho : u.ops[n]? = some o) (hg : o.going = true) {wr : Bool} {x y : Int} (M : MaxOf u wr u.now x)
    (hy : (o'.stage = .ended → o.wr = wr → ∃ v, o'.ver = some v ∧ y = mx x v) ∧ (¬ (o'.stage = .ended ∧ o.wr = wr) → y = x)) : MaxOf t wr (u.now + 1) y := by
  have M2 := R.ended ho hg (Int.le_refl _) M
  have old : ∀ (j : Nat) (q : Op) (m : Int), j ≠ n → t.ops[j]? = some q → q.over = some m → m < u.now := fun j q m hj h ov => by
    obtain ⟨q', a, k, _⟩ := R.back hj h
    exact ((I.op j q' a).ovr m (k.over ▸ ov)).2
  by_cases hc : o'.stage = .ended ∧ o.wr = wr
  · obtain ⟨v, hv, rfl⟩ := hy.1 hc.1 hc.2
    refine ⟨fun j q m z h w g ov lt hz => ?_, ?_, ?_⟩
    · by_cases hj : j = n
      · subst hj
        obtain rfl := R.is_me h
        rw [hv] at hz
        obtain rfl := Option.some.inj hz
        exact mx_r _ _
      · have h1 := M2.le j q m z h w g ov (old j q m hj h ov) hz
        exact Int.le_trans h1 (mx_l _ _)
    · rcases mx_or x v with e | e
      · rw [e]
        rcases M2.at' with z | ⟨j, q, m, a, b, c, d, lt, f⟩
        · exact .inl z
        · exact .inr ⟨j, q, m, a, b, c, d, by omega, f⟩
      · rw [e]
        refine .inr ⟨n, o', u.now, R.me, R.kwr.trans hc.2, hc.1, ?_, by omega, hv⟩
        rcases R.fin.cases with ⟨h2, _⟩ | ⟨h2, _⟩ | ⟨_, h2, _⟩
        · exact absurd hc.1 ((going_iff _).mp h2).1
        · rw [h2] at hc
          cases hc.1
        · exact h2
    · have := M.nn
      have := mx_l x v
      omega
  · rw [hy.2 hc]
    refine ⟨fun j q m z h w g ov lt hz => ?_, ?_, M.nn⟩
    · by_cases hj : j = n
      · subst hj
        obtain rfl := R.is_me h
        exact absurd ⟨g, R.kwr.symm.trans w⟩ hc
      · exact M2.le j q m z h w g ov (old j q m hj h ov) hz
    · rcases M2.at' with z | ⟨j, q, m, a, b, c, d, lt, f⟩
      · exact .inl z
      · exact .inr ⟨j, q, m, a, b, c, d, by omega, f⟩
theorem inv_step (R : Sm u t n o o') (I : RInv (u.now + 1) u.now u) (ho : u.ops[n]? = some o) (hg : o.going = true) (hb : ∀ (i : Nat) (q : Op), i ≠ n → u.ops[i]? = some q → q.begun < u.now) : RInv (u.now + 1) (u.now + 1) t := by
  have hd := R.db_le
  have K := I.op n o ho
  have hlen := R.len
  have hnl : n < u.ops.length := (List.getElem?_eq_some_iff.mp ho).1
  have hover := R.over
  have hve := R.ver_le I ho
  have hbeg := K.beg
  have hrun := K.run hg
  have hend := R.fin.cases
  constructor
  case op =>
    intro i q h
    by_cases hi : i = n
    · subst hi
      obtain rfl := R.is_me h
      refine ⟨fun a b => ?_, fun a => ?_, fun a => ?_, fun a b => ?_, fun a => ?_, fun a => ?_, fun a => ?_, fun a => ?_, fun a => ?_, R.ktok, ?_, fun m hm => ?_, hve⟩
      · have := R.wst (R.kwr ▸ a) b
        unfold S.steps at *
        rw [R.cfg]
        exact this
      · rw [R.cfg]
        exact R.wver (R.kwr ▸ a)
      · rcases R.rst (R.kwr ▸ a) with h | h | h | h | h <;> simp [h]
      · rw [R.cfg]
        exact R.fill (R.kwr ▸ a) b
      · rw [R.cfg]
        obtain ⟨h1, j, h2, h3⟩ := R.waits a
        exact ⟨h1, j, h2, by rw [hlen]; exact I.fl j h3⟩
      · rcases hend with ⟨h2, _⟩ | ⟨h2, _⟩ | ⟨_, h2, h3, v, h4, _⟩
        · exact absurd a ((going_iff _).mp h2).1
        · rw [h2] at a
          cases a
        · exact ⟨fun z => (by rw [h4] at z; cases z), by rw [h2, h3]⟩
      · rcases hend with ⟨_, _, h2, _⟩ | ⟨_, _, h2, _⟩ | ⟨h2, _⟩
        · exact h2
        · exact h2
        · exact absurd h2 a
      · rcases hend with ⟨_, h2, _⟩ | ⟨h2, _⟩ | ⟨h2, _⟩
        · exact h2
        · exact absurd h2 ((going_iff _).mp a).2
        · exact absurd h2 ((going_iff _).mp a).1
      · rcases hend with ⟨h2, _⟩ | ⟨_, h2, _⟩ | ⟨_, h2, _⟩
        · rw [h2] at a
          cases a
        · rw [h2]
          exact fun z => by cases z
        · rw [h2]
          exact fun z => by cases z
      · rw [R.kb]
        exact hbeg
      · have := hover m hm
        rw [R.kb]
        omega
    · obtain ⟨q', a, k, _⟩ := R.back hi h
      exact (I.op i q' a).kp k R.cfg (by omega) hd (Int.le_refl _) (by omega)
  case stamp =>
    intro i j a b hij h1 h2
    by_cases hi : i = n
    · subst hi
      obtain rfl := R.is_me h1
      obtain ⟨q, e, k, _⟩ := R.back (fun z => hij z.symm) h2
      have s1 := I.stamp i j o q hij ho e
      rw [R.kb, k.begun]
      refine ⟨s1.1, fun m hm => ?_⟩
      rw [k.over] at hm
      refine ⟨(s1.2 m hm).1, fun z => ?_⟩
      have := hover m z
      have := ((I.op j q e).ovr m hm).2
      omega
    · obtain ⟨p, e1, k1, _⟩ := R.back hi h1
      by_cases hj : j = n
      · subst hj
        obtain rfl := R.is_me h2
        have s1 := I.stamp i j p o hij e1 ho
        rw [R.kb, k1.begun, k1.over]
        refine ⟨s1.1, fun m hm => ?_⟩
        have hm := hover m hm
        subst hm
        have := hb i p hi e1
        refine ⟨by omega, fun z => ?_⟩
        have := ((I.op i p e1).ovr _ z).2
        omega
      · obtain ⟨q, e2, k2, _⟩ := R.back hj h2
        rw [k1.begun, k2.begun, k1.over, k2.over]
        exact I.stamp i j p q hij e1 e2
  case sh =>
    intro h
    rw [R.cfg] at h
    have h0 := I.sh h
    rcases R.fl with z | z | ⟨_, z⟩
    · rw [z]
      exact h0
    · exact z
    · rw [h] at z
      cases z
  case fl =>
    intro i h
    rw [hlen]
    rcases R.fl with z | z | ⟨z, _⟩
    · rw [z] at h
      exact I.fl i h
    · rw [z] at h
      cases h
    · rw [z] at h
      rw [← Option.some.inj h]
      exact hnl
  case cache =>
    intro v h
    rcases R.cache with z | z | ⟨x, z, hx⟩
    · rw [z] at h
      have := I.cache v h
      omega
    · rw [z] at h
      cases h
    · rw [z] at h
      obtain rfl := Option.some.inj h
      have := K.ver x hx
      omega
  case rep =>
    rw [R.rep]
    have := I.rep
    omega
  case has =>
    intro v h1 h2
    by_cases hv : v ≤ u.db
    · obtain ⟨j, q, a, b, d⟩ := I.has v h1 hv
      obtain ⟨q', a', b', d', _⟩ := R.write ho a b d
      exact ⟨j, q', a', b', d'⟩
    · rcases R.db with ⟨h, _⟩ | ⟨h, _, h3, h4⟩
      · omega
      · have : v = u.db + 1 := by omega
        subst this
        exact ⟨n, o', R.me, R.kwr.trans h, h4⟩
  case uniq =>
    have one : ∀ {i : Nat} {q : Op} {v : Int}, t.ops[i]? = some q → q.wr = true → q.ver = some v → (∃ p, u.ops[i]? = some p ∧ p.wr = true ∧ p.ver = some v) ∨ (i = n ∧ v = u.db + 1) := fun {i q v} h hw hv => by
      by_cases hi : i = n
      · subst hi
        obtain rfl := R.is_me h
        have hw2 : o.wr = true := R.kwr.symm.trans hw
        rcases R.db with ⟨_, h2⟩ | ⟨_, _, _, h2⟩
        · exact .inl ⟨o, ho, hw2, (h2 hw2) ▸ hv⟩
        · rw [h2] at hv
          exact .inr ⟨rfl, (Option.some.inj hv).symm⟩
      · obtain ⟨p, a, k, _⟩ := R.back hi h
        exact .inl ⟨p, a, k.wr ▸ hw, k.ver ▸ hv⟩
    intro i j a b v h1 h2 w1 w2 v1 v2
    rcases one h1 w1 v1 with ⟨p, a1, a2, a3⟩ | ⟨rfl, a1⟩
    · rcases one h2 w2 v2 with ⟨q, b1, b2, b3⟩ | ⟨rfl, b1⟩
      · exact I.uniq i j p q v a1 b1 a2 b2 a3 b3
      · have := ((I.op i p a1).ver v a3).2.1
        omega
    · rcases one h2 w2 v2 with ⟨q, b1, b2, b3⟩ | ⟨rfl, b1⟩
      · have := ((I.op j q b1).ver v b3).2.1
        omega
      · rfl
  case src =>
    intro i q v m h hw hs hv hov h1
    by_cases hi : i = n
    · subst hi
      obtain rfl := R.is_me h
      have hw2 : o.wr = false := R.kwr.symm.trans hw
      have hvd := (hve v hv).2.1
      have hdb : t.db = u.db := by
        rcases R.db with ⟨z, _⟩ | ⟨z, _⟩
        · exact z
        · rw [hw2] at z
          cases z
      obtain ⟨j, p, a, b, d⟩ := I.has v h1 (by omega)
      obtain ⟨p', a', b', d', e'⟩ := R.write ho a b d
      refine ⟨j, p', a', b', d', ?_⟩
      have := (I.op j p a).beg
      have := hover m hov
      omega
    · obtain ⟨p, a, k, _⟩ := R.back hi h
      obtain ⟨j, x, a2, b2, d2, f2⟩ := I.src i p v m a (k.wr ▸ hw) (k.stage ▸ hs) (k.ver ▸ hv) (k.over ▸ hov) h1
      obtain ⟨p', a', b', d', e'⟩ := R.write ho a2 b2 d2
      exact ⟨j, p', a', b', d', by omega⟩
  case mf =>
    intro i q h
    by_cases hi : i = n
    · subst hi
      obtain rfl := R.is_me h
      rw [R.kb, R.kf, R.kr]
      exact ⟨R.ended ho hg (by omega) (I.mf _ _ ho).1, R.ended ho hg (by omega) (I.mf _ _ ho).2⟩
    · obtain ⟨p, a, k, _⟩ := R.back hi h
      have := hb i p hi a
      rw [k.begun, k.fin, k.ret]
      exact ⟨R.ended ho hg (by omega) (I.mf i p a).1, R.ended ho hg (by omega) (I.mf i p a).2⟩
  case fin =>
    refine R.maxN I ho hg I.fin ⟨fun a b => ?_, fun a => ?_⟩
    · rcases hend with ⟨h2, _⟩ | ⟨h2, _⟩ | ⟨_, _, _, v, h4, h5, _⟩
      · exact absurd a ((going_iff _).mp h2).1
      · rw [h2] at a
        cases a
      · exact ⟨v, h4, by rw [h5, b] <;> rfl⟩
    · rcases hend with ⟨_, _, _, h, _⟩ | ⟨_, _, _, h, _⟩ | ⟨h, _, _, v, h4, h5, _⟩
      · exact h
      · exact h
      · rw [h5]
        cases hw : o.wr with
        | true => exact absurd ⟨h, hw⟩ a
        | false => rfl
  case ret =>
    refine R.maxN I ho hg I.ret ⟨fun a b => ?_, fun a => ?_⟩
    · rcases hend with ⟨h2, _⟩ | ⟨h2, _⟩ | ⟨_, _, _, v, h4, _, h5, _⟩
      · exact absurd a ((going_iff _).mp h2).1
      · rw [h2] at a
        cases a
      · exact ⟨v, h4, by rw [h5, b] <;> rfl⟩
    · rcases hend with ⟨_, _, _, _, h, _⟩ | ⟨_, _, _, _, h, _⟩ | ⟨h, _, _, v, h4, _, h5, _⟩
      · exact h
      · exact h
      · rw [h5]
        cases hw : o.wr with
        | false => exact absurd ⟨h, hw⟩ a
        | true => rfl
  case qui =>
    intro i q h hw hgo
    have lst : ∀ k, t.last = some k → k = n := fun k z => by
      rcases hend with ⟨_, _, _, _, _, h⟩ | ⟨_, _, _, _, _, h, _⟩ | ⟨_, _, _, v, _, _, _, h⟩
      · rw [h] at z
        cases z
      · rw [h] at z
        cases z
      · rw [h] at z
        split at z
        · cases z
        · exact (Option.some.inj z).symm
    by_cases hi : i = n
    · subst hi
      obtain rfl := R.is_me h
      have hw2 : o.wr = false := R.kwr.symm.trans hw
      rw [R.kq, R.kb, I.qui i o ho hw2 (.inl hg)]
      constructor
      · intro hall j p hj hwp
        have hne : j ≠ i := fun z => by
          subst z
          obtain rfl := R.is_me hj
          rw [hw] at hwp
          cases hwp
        obtain ⟨p', a, k, _⟩ := R.back hne hj
        rw [k.over]
        exact hall j p' a (k.wr ▸ hwp)
      · intro hall j p hj hwp
        have hne : j ≠ i := fun z => by
          subst z
          rw [ho] at hj
          obtain rfl := Option.some.inj hj
          rw [hw2] at hwp
          cases hwp
        obtain ⟨p', a, k, _⟩ := R.oth j p hne hj
        rw [← k.over]
        exact hall j p' a (k.wr.trans hwp)
    · obtain ⟨p, a, k, kq⟩ := R.back hi h
      have hgp : p.going = true := by
        rcases hgo with z | z
        · rw [← k.going]
          exact z
        · exact absurd (lst i z) hi
      have hpb := hb i p hi a
      rw [kq, k.begun, I.qui i p a (k.wr ▸ hw) (.inl hgp)]
      constructor
      · intro hall j x hj hwx
        by_cases hj2 : j = n
        · subst hj2
          obtain rfl := R.is_me hj
          obtain ⟨m, hm, _⟩ := hall j o ho (R.kwr.symm.trans hwx)
          rw [hrun] at hm
          cases hm
        · obtain ⟨x', e, kx, _⟩ := R.back hj2 hj
          rw [kx.over]
          exact hall j x' e (kx.wr ▸ hwx)
      · intro hall j x hj hwx
        by_cases hj2 : j = n
        · subst hj2
          rw [ho] at hj
          obtain rfl := Option.some.inj hj
          obtain ⟨m, hm, hlt⟩ := hall j o' R.me (R.kwr.trans hwx)
          have := hover m hm
          omega
        · obtain ⟨x', e, kx, _⟩ := R.oth j x hj2 hj
          rw [← kx.over]
          exact hall j x' e (kx.wr.trans hwx)
end
end K10
end
section
set_option linter.all false
set_option maxHeartbeats 1000000
namespace K10
def Can (s : S) (w : Wd) (n : Nat) : Prop := (n = s.ops.length ∧ (w = .look ∨ w = s.first)) ∨ ∃ o, s.ops[n]? = some o ∧ o.going = true ∧ (s.nextW o = some w ∨ w = .stop)
def CanEv (s : S) : Evt → Prop
  | .evict => True
  | .copy => s.rep < s.db
  | .op w n => Can s w n
theorem at_lt {s : S} {i : Nat} (h : (s.at i).going = true) (hi : i < s.ops.length) : s.ops[i]? = some (s.at i) := ops_at hi
theorem gos_mem {s : S} {i : Nat} : i ∈ gos s ↔ i < s.ops.length ∧ (s.at i).going = true := by
  unfold gos
  rw [List.mem_filter, List.mem_range]
theorem can_of {s : S} {e : Evt} (h : e ∈ s.evList) : CanEv s e := by
  unfold S.evList at h
  rw [opEvs_gos] at h
  rcases List.mem_append.mp h with h | h
  · rcases List.mem_append.mp h with h | h
    · rcases List.mem_cons.mp h with rfl | h
      · exact .inl ⟨rfl, .inl rfl⟩
      · rw [List.mem_singleton.mp h]
        exact .inl ⟨rfl, .inr rfl⟩
    · obtain ⟨i, hi, hx⟩ := List.mem_flatMap.mp h
      obtain ⟨h1, h2⟩ := gos_mem.mp hi
      unfold S.evsOf at hx
      rcases List.mem_append.mp hx with hx | hx
      · split at hx
        · rename_i w hw
          rw [List.mem_singleton.mp hx]
          exact .inr ⟨_, ops_at h1, h2, .inl hw⟩
        · cases hx
      · split at hx
        · rw [List.mem_singleton.mp hx]
          exact .inr ⟨_, ops_at h1, h2, .inr rfl⟩
        · cases hx
  · rcases List.mem_append.mp h with h | h
    · split at h
      · rw [List.mem_singleton.mp h]
        exact True.intro
      · cases h
    · split at h
      · rename_i hc
        rw [List.mem_singleton.mp h]
        unfold S.canCopy at hc
        exact (of_decide_eq_true (Bool.and_eq_true_iff.mp hc).2 : s.rep < s.db)
      · cases h
theorem next_mem {s : S} {n : Nat} {o : Op} {w : Wd} (ho : s.ops[n]? = some o) (hg : o.going = true) (hw : s.nextW o = some w) : .op w n ∈ s.evList := by
  unfold S.evList
  rw [opEvs_gos]
  refine List.mem_append.mpr (.inl (List.mem_append.mpr (.inr (List.mem_flatMap.mpr ⟨n, gos_mem.mpr ⟨(List.getElem?_eq_some_iff.mp ho).1, ?_⟩, ?_⟩))))
  · rw [at_get ho]
    exact hg
  · rw [at_get ho]
    unfold S.evsOf
    rw [hw]
    exact List.mem_append.mpr (.inl (List.mem_singleton.mpr rfl))
theorem look_mem (s : S) : .op .look s.ops.length ∈ s.evList := List.mem_append.mpr (.inl (List.mem_append.mpr (.inl (List.mem_cons_self ..))))
theorem first_mem (s : S) : .op s.first s.ops.length ∈ s.evList := List.mem_append.mpr (.inl (List.mem_append.mpr (.inl (List.mem_cons_of_mem _ (List.mem_cons_self ..)))))
theorem MaxOf.cong {s t : S} (h : t.ops = s.ops) {wr : Bool} {b x : Int} (M : MaxOf s wr b x) : MaxOf t wr b x := ⟨by rw [h]; exact M.le, by rw [h]; exact M.at', M.nn⟩
theorem RInv.wide {b c b' c' : Int} {s t : S} (I : RInv b c s) (hb : b ≤ b') (hc : c ≤ c') (h1 : t.ops = s.ops) (h2 : t.cfg = s.cfg) (h3 : t.fl = s.fl) (h4 : t.fin = s.fin) (h5 : t.ret = s.ret) (h6 : t.db = s.db) (hl : t.last = none)
    (h7 : t.cache = s.cache ∨ t.cache = none) (h8 : t.rep = s.rep ∨ (t.rep = s.rep + 1 ∧ s.rep < s.db)) : RInv b' c' t where
  op := fun i o h => (I.op i o (h1 ▸ h)).kp (Kp.refl o) h2 (by rw [h1]; exact Nat.le_refl _) (by omega) hb hc
  stamp := by rw [h1]; exact I.stamp
  sh := by rw [h2, h3]; exact I.sh
  fl := by rw [h1, h3]; exact I.fl
  cache := fun v h => by
    rcases h7 with z | z
    · rw [z] at h
      rw [h6]
      exact I.cache v h
    · rw [z] at h
      cases h
  rep := by
    have := I.rep
    rcases h8 with z | ⟨z, _⟩ <;> omega
  has := by rw [h1, h6]; exact I.has
  uniq := by rw [h1]; exact I.uniq
  src := by rw [h1]; exact I.src
  mf := fun i o h => ⟨((I.mf i o (h1 ▸ h)).1).cong h1, ((I.mf i o (h1 ▸ h)).2).cong h1⟩
  fin := by
    rw [h4]
    exact (I.fin.cong h1).mono hc fun j q m h g o lt => ((I.op j q (h1 ▸ h)).ovr m o).2
  ret := by
    rw [h5]
    exact (I.ret.cong h1).mono hc fun j q m h g o lt => ((I.op j q (h1 ▸ h)).ovr m o).2
  qui := by
    intro i o h hw hg
    rw [h1] at h
    rw [I.qui i o h hw (.inl (by
      rcases hg with z | z
      · exact z
      · rw [hl] at z
        cases z)), h1]
structure Stp (s : S) (w : Wd) (n : Nat) (u : S) (o o' : Op) : Prop where
  eu : u = ({ s with last := none } : S).begun w n
  I : RInv (s.now + 1) s.now u
  now : u.now = s.now
  cfg : u.cfg = s.cfg
  db : u.db = s.db
  len : u.ops.length = if n = s.ops.length then s.ops.length + 1 else s.ops.length
  ho : u.ops[n]? = some o
  hg : o.going = true
  hn : u.nextW o = some w ∨ w = .stop
  hb : ∀ (i : Nat) (q : Op), i ≠ n → u.ops[i]? = some q → q.begun < s.now
  sm : Sm u (({ s with last := none } : S).doStep w n) n o o'
  new : n = s.ops.length → o = ({ s with last := none } : S).newOp (decide (w ≠ .look)) ∧ (w = .look ∨ w = s.first)
  old : n ≠ s.ops.length → u = { s with last := none }
  pg : w ≠ .stop → Pg u o o'
theorem led_of {b c : Int} {u : S} {o : Op} (I : RInv b c u) (h : o.stage = .waits) (K : OpOk u b c o) (he : (u.ldr o).stage = .ended) : ∃ j, o.leader = some j ∧ u.ops[j]? = some (u.ldr o) ∧ (u.ldr o).ver ≠ none := by
  obtain ⟨_, j, e, l⟩ := K.waits h
  have e1 : u.ldr o = u.at j := by unfold S.ldr; rw [e] <;> rfl
  refine ⟨j, e, by rw [e1]; exact ops_at l, ?_⟩
  rw [e1] at he ⊢
  exact ((I.op j _ (ops_at l)).done he).1
theorem nextW_write {b c : Int} {u : S} {o : Op} (K : OpOk u b c o) (hg : o.going = true) (hw : o.wr = true) : u.nextW o = some o.stage := by
  unfold S.nextW
  have := K.wst hw hg
  rw [if_neg]
  intro z
  rw [z] at this
  rcases steps_at _ _ _ this with ⟨h, _⟩ | ⟨h | h, _⟩ <;> cases h
theorem stp_of {s : S} {w : Wd} {n : Nat} (I : RInv s.now s.now s) (h : Can s w n) : ∃ u o o', Stp s w n u o o' := by
  have I0 : RInv s.now s.now ({ s with last := none } : S) := I.wide (Int.le_refl _) (Int.le_refl _) rfl rfl rfl rfl rfl rfl rfl (.inl rfl) (.inl rfl)
  generalize e0 : ({ s with last := none } : S) = s0 at *
  have p1 : s0.ops = s.ops := by rw [← e0]
  have p2 : s0.now = s.now := by rw [← e0] <;> rfl
  have p3 : s0.cfg = s.cfg := by rw [← e0]
  have p4 : s0.last = none := by rw [← e0]
  have p5 : s0.db = s.db := by rw [← e0]
  have p6 : s0.first = s.first := by unfold S.first S.steps; rw [p3]
  have p7 : ∀ o, s0.nextW o = s.nextW o := fun o => by unfold S.nextW S.ldr S.at; rw [p1]
  have fin : ∀ (u : S) (o : Op), u = s0.begun w n → RInv (s.now + 1) s.now u → u.now = s.now → u.last = none → u.ops[n]? = some o → o.going = true → (u.nextW o = some w ∨ w = .stop) → (∀ (i : Nat) (q : Op), i ≠ n → u.ops[i]? = some q → q.begun < s.now) → ∃ o', Sm u (s0.doStep w n) n o o' ∧ (w ≠ .stop → Pg u o o') := by
    intro u o hu hI hnow hlast ho hg hn hb
    have K := hI.op n o ho
    unfold S.doStep
    simp only
    rw [← hu, at_get ho]
    rcases hn with hn | rfl
    · rw [if_neg (by
        rintro rfl
        have hs := (going_iff o).mp hg
        cases hw : o.wr with
        | true =>
          rw [nextW_write K hg hw] at hn
          have := K.wst hw hg
          rw [Option.some.inj hn] at this
          rcases steps_at _ _ _ this with ⟨h, _⟩ | ⟨h | h, _⟩ <;> cases h
        | false =>
          unfold S.nextW at hn
          split at hn
          · split at hn <;> cases hn
          · rcases K.rst hw with z | z | z | z | z | z <;> rw [z] at hn <;> cases hn)]
      cases hw : o.wr with
      | true =>
        rw [if_pos rfl]
        rw [nextW_write K hg hw] at hn
        rw [← Option.some.inj hn]
        obtain ⟨o', a, b⟩ := sm_write ho K hg hlast hw
        exact ⟨o', a, fun _ => b⟩
      | false =>
        rw [if_neg Bool.false_ne_true]
        obtain ⟨o', a, b⟩ := sm_read ho K hg hlast hw hn fun q hst hq he => (by
          subst hq
          obtain ⟨j, _, h2, h3⟩ := led_of hI hst K he
          exact ⟨⟨j, h2⟩, h3⟩)
        exact ⟨o', a, fun _ => b⟩
    · rw [if_pos rfl]
      exact ⟨_, sm_stop ho K hg hlast, fun z => absurd rfl z⟩
  rcases h with ⟨hn, hw⟩ | ⟨o, ho, hg, hn⟩
  · have hn0 : n = s0.ops.length := by rw [p1]; exact hn
    have hu : s0.begun w n = s0.begin (decide (w ≠ .look)) := by unfold S.begun; rw [if_pos hn0]
    have Iu := inv_begin (wr := decide (w ≠ .look)) (p2 ▸ I0) p4
    rw [p2] at Iu
    have hnew := begin_new s0 (decide (w ≠ .look))
    rw [← hn0] at hnew
    have hgo : (s0.newOp (decide (w ≠ .look))).going = true ∧ (s0.begin (decide (w ≠ .look))).nextW (s0.newOp (decide (w ≠ .look))) = some w := by
      obtain ⟨f1, f2, f3, f4, f5, _⟩ := first_ne s
      rcases hw with rfl | rfl
      · exact ⟨rfl, rfl⟩
      · rw [decide_eq_true f1]
        have e : (s0.newOp true).stage = s.first := by rw [newOp_stage, if_pos rfl]; exact p6
        refine ⟨by rw [going_iff, e]; exact ⟨f4, f5⟩, ?_⟩
        unfold S.nextW
        rw [e, if_neg f3]
    have hbb : ∀ (i : Nat) (q : Op), i ≠ n → (s0.begin (decide (w ≠ .look))).ops[i]? = some q → q.begun < s.now := by
      intro i q hi h
      obtain ⟨q', a, k, _⟩ := kp_src h (by rw [← hn0]; exact hi)
      rw [k.begun]
      exact (I0.op i q' a).beg.2
    have hnow : (s0.begin (decide (w ≠ .look))).now = s.now := p2
    obtain ⟨o', R, G⟩ := fin _ _ hu.symm Iu hnow p4 hnew hgo.1 (.inl hgo.2) hbb
    exact ⟨_, _, o', ⟨by rw [e0]; exact hu.symm, Iu, hnow, p3, p5, by rw [if_pos hn, begin_ops, p1], hnew, hgo.1, .inl hgo.2, hbb, by rw [e0]; exact R, fun _ => ⟨by rw [e0], hw⟩, fun z => absurd hn z, G⟩⟩
  · have hn0 : ¬ n = s0.ops.length := by
      rw [p1]
      have := (List.getElem?_eq_some_iff.mp ho).1
      omega
    have hu : s0.begun w n = s0 := by unfold S.begun; rw [if_neg hn0]
    have Iu : RInv (s.now + 1) s.now s0 := I0.wide (by omega) (Int.le_refl _) rfl rfl rfl rfl rfl rfl p4 (.inl rfl) (.inl rfl)
    have ho0 : s0.ops[n]? = some o := by rw [p1]; exact ho
    have hbb : ∀ (i : Nat) (q : Op), i ≠ n → s0.ops[i]? = some q → q.begun < s.now := fun i q _ h => (I0.op i q h).beg.2
    have hnx : s0.nextW o = some w ∨ w = .stop := by rw [p7]; exact hn
    obtain ⟨o', R, G⟩ := fin _ _ hu.symm Iu p2 p4 ho0 hg hnx hbb
    exact ⟨_, _, o', ⟨by rw [e0]; exact hu.symm, Iu, p2, p3, p5, by rw [if_neg (by rw [← p1]; exact hn0), p1], ho0, hg, hnx, hbb, by rw [e0]; exact R, fun z => absurd (by rw [p1]; exact z) hn0, fun _ => by rw [e0], G⟩⟩
theorem RInv.past {b c : Int} {s : S} (I : RInv b c s) (e : Evt) : RInv b c (s.addPast e) :=
  ⟨fun i o h => (I.op i o h).kp (Kp.refl o) rfl (Nat.le_refl _) (Int.le_refl _) (Int.le_refl _) (Int.le_refl _), I.stamp, I.sh, I.fl, I.cache, I.rep, I.has, I.uniq, I.src, fun i o h => ⟨MaxOf.cong (s := s) (t := s.addPast e) rfl (I.mf i o h).1, MaxOf.cong (s := s) (t := s.addPast e) rfl (I.mf i o h).2⟩, MaxOf.cong (s := s) (t := s.addPast e) rfl I.fin, MaxOf.cong (s := s) (t := s.addPast e) rfl I.ret, I.qui⟩
theorem now_ev (s : S) (e : Evt) : (s.doEv e).now = s.now + 1 := by
  unfold S.now
  rw [doEv_past, List.length_append]
  simp
theorem inv_ev {s : S} {e : Evt} (I : RInv s.now s.now s) (h : CanEv s e) : RInv (s.doEv e).now (s.doEv e).now (s.doEv e) := by
  rw [now_ev]
  cases e with
  | evict => exact I.wide (by omega) (by omega) rfl rfl rfl rfl rfl rfl rfl (.inr rfl) (.inl rfl)
  | copy => exact I.wide (by omega) (by omega) rfl rfl rfl rfl rfl rfl rfl (.inl rfl) (.inr ⟨rfl, h⟩)
  | op w n =>
    obtain ⟨u, o, o', P⟩ := stp_of I h
    have := inv_step P.sm (by rw [P.now]; exact P.I) P.ho P.hg (by rw [P.now]; exact P.hb)
    rw [P.now] at this
    exact this.past _
theorem stepOk_of {s : S} {w : Wd} {n : Nat} {u : S} {o o' : Op} (P : Stp s w n u o o') : (w ≠ .stop → (o.wr = true → lwOk u w o) ∧ (o.wr = false → lrOk u w o)) := fun hs => by
  have K := P.I.op n o P.ho
  have hn : u.nextW o = some w := by
    rcases P.hn with h | h
    · exact h
    · exact absurd h hs
  refine ⟨fun hw => ?_, fun hw => ?_⟩
  · rw [nextW_write K P.hg hw] at hn
    have hst := K.wst hw P.hg
    have hv := K.wver hw
    rw [Option.some.inj hn] at hst
    have hlt : o.step < u.steps.length := (List.getElem?_eq_some_iff.mp hst).1
    have hsi := si_lt u.cfg.path
    have some_of : ∀ {x : Option Int}, x ≠ none → ∃ v, x = some v := fun {x} h => by
      cases x with
      | none => exact absurd rfl h
      | some v => exact ⟨v, rfl⟩
    have hl : u.steps.length = u.cfg.path.steps.length := rfl
    rcases steps_at _ _ _ hst with ⟨h, h2⟩ | ⟨h, h2, h3⟩
    · subst h
      refine ⟨.inl rfl, fun z => absurd rfl z, hlt, fun _ => ⟨u.db + 1, ?_⟩⟩
      unfold S.wroteOp
      rw [if_pos rfl]
    · refine ⟨.inr h, fun z1 z2 => ?_, hlt, fun z => ?_⟩
      · rcases h with h | h
        · exact absurd h z2
        · exact some_of (hv.mpr (h3 h))
      · obtain ⟨v, hx⟩ := some_of (hv.mpr (by omega))
        refine ⟨v, ?_⟩
        unfold S.wroteOp
        rw [if_neg (by rcases h with h | h <;> rw [h] <;> decide)]
        exact hx
  · have hgo := (going_iff o).mp P.hg
    unfold S.nextW at hn
    have some_of : ∀ {x : Option Int}, x ≠ none → ∃ v, x = some v := fun {x} h => by
      cases x with
      | none => exact absurd rfl h
      | some v => exact ⟨v, rfl⟩
    have sh : u.cfg.shared = false → u.fl = none := P.I.sh
    split at hn
    · rename_i hwt
      split at hn
      · rename_i he
        obtain rfl := Option.some.inj hn
        obtain ⟨j, h1, h2, h3⟩ := led_of P.I hwt K he
        obtain ⟨v, hv⟩ := some_of h3
        exact ⟨.inr (.inr (.inr rfl)), ⟨fun z => (by cases z), fun _ _ _ => ⟨j, _, v, h1, h2, hv⟩⟩, fun z => (by cases z), sh⟩
      · cases hn
    · rename_i hwt
      obtain rfl := Option.some.inj hn
      rcases K.rst hw with h | h | h | h | h | h
      · rw [h]
        exact ⟨.inl rfl, ⟨fun z => (by cases z), fun z => absurd rfl z⟩, fun z => (by cases z), sh⟩
      · rw [h]
        exact ⟨.inr (.inl rfl), ⟨fun z => (by cases z), fun _ z => absurd rfl z⟩, fun z => (by cases z), sh⟩
      · obtain ⟨h1, h2⟩ := K.fill hw h
        obtain ⟨v, hv⟩ := some_of h1
        rw [h]
        exact ⟨.inr (.inr (.inl rfl)), ⟨fun _ => ⟨v, hv⟩, fun _ _ z => absurd rfl z⟩, fun _ => ⟨h2, K.tok P.hg⟩, sh⟩
      · exact absurd h hwt
      · exact absurd h hgo.1
      · exact absurd h hgo.2
theorem ev_ok {s : S} {e : Evt} (I : RInv s.now s.now s) (h : CanEv s e) : evOk s e ∧ levOk s e := by
  cases e with
  | evict => exact ⟨True.intro, True.intro⟩
  | copy => exact ⟨True.intro, True.intro⟩
  | op w n =>
    obtain ⟨u, o, o', P⟩ := stp_of I h
    have Q := stepOk_of P
    have hu := P.eu
    have hlt := (List.getElem?_eq_some_iff.mp P.ho).1
    have hat := at_get P.ho
    refine ⟨?_, ?_⟩
    · show stepOk ({ s with last := none } : S) w n
      unfold stepOk
      rw [← hu, hat]
      exact ⟨hlt, fun hs => ⟨fun hw => ((Q hs).1 hw).2, fun hw => ((Q hs).2 hw).2.1⟩⟩
    · show lstepOk ({ s with last := none } : S) w n
      unfold lstepOk
      rw [← hu, hat]
      refine ⟨hlt, fun hn => (P.new hn).2, ?_⟩
      by_cases hs : w = .stop
      · exact .inl hs
      · exact .inr (Q hs)
end K10
end
section
set_option linter.all false
set_option maxHeartbeats 1000000
namespace K10
inductive Reach (c : Cfg) : S → Prop where
  | init : Reach c (S.init c)
  | step {s : S} {e : Evt} : Reach c s → e ∈ s.evList → Reach c (s.doEv e)
def LastOk (s : S) : Prop := ∀ i, s.last = some i ↔ ∃ o, s.ops[i]? = some o ∧ o.wr = false ∧ o.stage = .ended ∧ o.over = some (s.now - 1)
theorem runOk_snoc {s : S} : ∀ {es : List Evt} {e : Evt}, runOk s es → evOk (s.run es) e → runOk s (es ++ [e])
  | [], e, _, h => ⟨h, True.intro⟩
  | x :: r, e, h, h2 => ⟨h.1, runOk_snoc (s := s.doEv x) h.2 h2⟩
theorem lrunOk_snoc {s : S} : ∀ {es : List Evt} {e : Evt}, lrunOk s es → levOk (s.run es) e → lrunOk s (es ++ [e])
  | [], e, _, h => ⟨h, True.intro⟩
  | x :: r, e, h, h2 => ⟨h.1, lrunOk_snoc (s := s.doEv x) h.2 h2⟩
structure Facts (c : Cfg) (s : S) : Prop where
  inv : RInv s.now s.now s
  cfg : s.cfg = c
  again : (S.init c).run s.past = s
  ok : runOk (S.init c) s.past
  lok : lrunOk (S.init c) s.past
  ops : s.ops.length ≤ s.past.length
  db : s.db ≤ s.now
  last : LastOk s
theorem over_lt {s : S} (I : RInv s.now s.now s) {i : Nat} {o : Op} {m : Int} (h : s.ops[i]? = some o) (hm : o.over = some m) : m < s.now := ((I.op i o h).ovr m hm).2
theorem last_ev {s : S} {e : Evt} (I : RInv s.now s.now s) (h : CanEv s e) : LastOk (s.doEv e) := by
  have hn : (s.doEv e).now - 1 = s.now := by rw [now_ev]; omega
  have none_of : ∀ (t : S), t.last = none → t.ops = s.ops → ∀ i : Nat, t.last = some i ↔ ∃ o, t.ops[i]? = some o ∧ o.wr = false ∧ o.stage = .ended ∧ o.over = some s.now := fun t h1 h2 i => by
    rw [h1, h2]
    constructor
    · intro z
      cases z
    · rintro ⟨o, a, _, _, b⟩
      have := over_lt I a b
      omega
  unfold LastOk
  rw [hn]
  cases e with
  | evict => exact none_of _ rfl rfl
  | copy => exact none_of _ rfl rfl
  | op w n =>
    obtain ⟨u, o, o', P⟩ := stp_of I h
    have R := P.sm
    intro i
    show (({ s with last := none } : S).doStep w n).last = some i ↔ ∃ q, (({ s with last := none } : S).doStep w n).ops[i]? = some q ∧ _
    generalize ({ s with last := none } : S).doStep w n = t at R
    have oth : ∀ q, t.ops[i]? = some q → i ≠ n → q.over ≠ some s.now := fun q a hi z => by
      obtain ⟨q', b, k, _⟩ := R.back hi a
      rw [k.over] at z
      have := ((P.I.op i q' b).ovr _ z).2
      omega
    have hnow := P.now
    rcases R.fin.cases with ⟨h1, h2, _, _, _, h3⟩ | ⟨h1, h2, _, _, _, h3, _⟩ | ⟨h1, h2, _, v, _, _, _, h3⟩
    · rw [h3]
      constructor
      · intro z
        cases z
      · rintro ⟨q, a, _, b, d⟩
        by_cases hi : i = n
        · subst hi
          obtain rfl := R.is_me a
          rw [h2] at d
          cases d
        · exact absurd d (oth q a hi)
    · rw [h3]
      constructor
      · intro z
        cases z
      · rintro ⟨q, a, _, b, d⟩
        by_cases hi : i = n
        · subst hi
          obtain rfl := R.is_me a
          rw [h1] at b
          cases b
        · exact absurd d (oth q a hi)
    · rw [h3]
      constructor
      · intro z
        split at z
        · cases z
        · rename_i hw
          obtain rfl := Option.some.inj z
          exact ⟨o', R.me, R.kwr.trans (by simpa using hw), h1, by rw [h2, hnow]⟩
      · rintro ⟨q, a, b, _, d⟩
        by_cases hi : i = n
        · subst hi
          obtain rfl := R.is_me a
          rw [← R.kwr, b]
          rfl
        · exact absurd d (oth q a hi)
theorem db_ev {s : S} {e : Evt} (I : RInv s.now s.now s) (h : CanEv s e) : (s.doEv e).db ≤ s.db + 1 := by
  cases e with
  | evict => show s.db ≤ _; omega
  | copy => show s.db ≤ _; omega
  | op w n =>
    obtain ⟨u, o, o', P⟩ := stp_of I h
    show (({ s with last := none } : S).doStep w n).db ≤ _
    have := P.db
    rcases P.sm.db with ⟨z, _⟩ | ⟨_, _, z, _⟩ <;> omega
theorem Reach.facts {c : Cfg} {s : S} (h : Reach c s) : Facts c s := by
  induction h with
  | init => exact ⟨inv_init c, rfl, rfl, True.intro, True.intro, Nat.le_refl _, Int.le_refl _, fun i => ⟨(fun z => by cases z), fun ⟨o, a, _⟩ => (by simp [S.init] at a)⟩⟩
  | @step s e hr he ih =>
    have hc := can_of he
    have ok := ev_ok ih.inv hc
    have hp := doEv_past s e
    have hl : (s.doEv e).past.length = s.past.length + 1 := by rw [hp, List.length_append] <;> rfl
    refine ⟨inv_ev ih.inv hc, (doEv_cfg s e).trans ih.cfg, ?_, ?_, ?_, ?_, ?_, last_ev ih.inv hc⟩
    · rw [hp, run_snoc, ih.again]
    · rw [hp]
      exact runOk_snoc ih.ok (by rw [ih.again]; exact ok.1)
    · rw [hp]
      exact lrunOk_snoc ih.lok (by rw [ih.again]; exact ok.2)
    · have := doEv_ops s e
      have := ih.ops
      omega
    · have := db_ev ih.inv hc
      have := ih.db
      rw [now_ev]
      omega
theorem waitOk_of {b c : Int} {s : S} (I : RInv b c s) : waitOk s := fun i o h hs => by
  obtain ⟨_, j, e, l⟩ := (I.op i o h).waits hs
  exact ⟨j, _, e, ops_at l⟩
theorem some_of {x : Option Int} (h : x ≠ none) : ∃ v, x = some v := by
  cases x with
  | none => exact absurd rfl h
  | some v => exact ⟨v, rfl⟩
theorem zonedOk_of {b c : Int} {s : S} (I : RInv b c s) : zonedOk s := fun i o h hz => by
  unfold Op.zoned at hz
  rcases Bool.or_eq_true_iff.mp hz with z | z
  · exact some_of (of_decide_eq_true (Bool.and_eq_true_iff.mp z).2)
  · exact some_of ((I.op i o h).done (of_decide_eq_true (Bool.and_eq_true_iff.mp z).2)).1
theorem endedOk_of {b c : Int} {s : S} (I : RInv b c s) : endedOk s := fun i o h hs => by
  have K := I.op i o h
  refine ⟨some_of (K.done hs).1, ?_⟩
  have : o.going = false := by unfold Op.going; rw [hs] <;> rfl
  obtain ⟨n, e⟩ := some_of (K.stp this)
  exact ⟨n, e⟩
theorem lTurn_reach {c : Cfg} {u : S} {n : Nat} (h : Reach c u) (hn : n < u.ops.length) : Reach c (u.lTurn n) := by
  unfold S.lTurn
  cases e : u.lWord n with
  | none => exact h
  | some w =>
    unfold S.lWord at e
    split at e
    · rename_i hg
      exact .step h (next_mem (ops_at hn) hg e)
    · cases e
theorem lTurns_reach {c : Cfg} {u : S} {n : Nat} (h : Reach c u) (hn : n < u.ops.length) : ∀ k, Reach c (S.lTurns k u n) ∧ n < (S.lTurns k u n).ops.length
  | 0 => ⟨h, hn⟩
  | k + 1 => by
    obtain ⟨a, b⟩ := lTurns_reach h hn k
    exact ⟨lTurn_reach a b, Nat.lt_of_lt_of_le b (lTurn_ops _ n).1⟩
theorem turnOk_of {c : Cfg} {u : S} {n : Nat} (h : Reach c u) (hn : n < u.ops.length) : turnOk u n := by
  have F := h.facts
  refine ⟨waitOk_of F.inv, fun w e => ?_⟩
  unfold S.lWord at e
  split at e
  · rename_i hg
    exact (ev_ok F.inv (can_of (next_mem (ops_at hn) hg e))).2
  · cases e
theorem aloneOk_of {c : Cfg} {s : S} {w : Wd} (h : Reach c s) (hl : s.past.length ≤ 60) (hw : .op w s.ops.length ∈ s.evList) : aloneOk s w := by
  have F := h.facts
  have := F.ops
  refine ⟨⟨by rw [F.cfg]; exact F.again, by rw [F.cfg]; exact F.lok, hl, by omega⟩, (ev_ok F.inv (can_of hw)).2, fun k _ => ?_⟩
  obtain ⟨a, b⟩ := lTurns_reach (.step h hw) (doEv_begins s w) k
  exact turnOk_of a b
theorem step_me {c : Cfg} {u : S} {n : Nat} {o : Op} {w : Wd} (h : Reach c u) (ho : u.ops[n]? = some o) (hg : o.going = true) (hw : u.nextW o = some w) :
    ∃ o', (u.doEv (.op w n)).ops[n]? = some o' ∧ o'.wr = o.wr ∧ Pg u o o' := by
  have F := h.facts
  obtain ⟨v, q, o', P⟩ := stp_of F.inv (can_of (next_mem ho hg hw))
  have hne : n ≠ u.ops.length := by
    have := (List.getElem?_eq_some_iff.mp ho).1
    omega
  have e1 := P.old hne
  have e2 : q = o := by
    have h1 := P.ho
    rw [e1] at h1
    have h1 : u.ops[n]? = some q := h1
    rw [ho] at h1
    exact (Option.some.inj h1).symm
  subst e2
  have ns : w ≠ .stop := by
    rintro rfl
    have K := F.inv.op n q ho
    cases hwr : q.wr with
    | true =>
      rw [nextW_write K hg hwr] at hw
      have := K.wst hwr hg
      rw [Option.some.inj hw] at this
      rcases steps_at _ _ _ this with ⟨h, _⟩ | ⟨h | h, _⟩ <;> cases h
    | false =>
      unfold S.nextW at hw
      split at hw
      · split at hw <;> cases hw
      · rcases K.rst hwr with z | z | z | z | z | z <;> rw [z] at hw <;> cases hw
  have G := P.pg ns
  have est : v.steps = u.steps := by unfold S.steps; rw [P.cfg]
  exact ⟨o', P.sm.me, P.sm.kwr, G.nst, G.rd, est ▸ G.wt⟩
theorem goOnOk_of {c : Cfg} {n : Nat} : ∀ (k : Nat) {u : S} {o : Op}, Reach c u → u.ops[n]? = some o → o.wr = false → o.rank ≤ k → goOnOk k u n
  | 0, u, o, h, ho, hw, hr => by
    show (u.at n).going = false
    rw [at_get ho]
    have K := h.facts.inv.op n o ho
    unfold Op.rank at hr
    unfold Op.going
    rcases K.rst hw with z | z | z | z | z | z <;> rw [z] at hr ⊢ <;> first | rfl | (exact absurd hr (by decide))
  | k + 1, u, o, h, ho, hw, hr => by
    refine ⟨fun hs => ?_, fun hg w hn => ?_⟩
    · rw [at_get ho] at hs ⊢
      exact waitOk_of h.facts.inv n o ho hs
    · rw [at_get ho] at hg hn
      have hm := next_mem ho hg hn
      obtain ⟨o', a, b, G⟩ := step_me h ho hg hn
      have := G.rd hw
      exact ⟨(ev_ok h.facts.inv (can_of hm)).1, goOnOk_of k (.step h hm) a (b.trans hw) (by omega)⟩
theorem begins_me {c : Cfg} {s : S} {w : Wd} (h : Reach c s) (hw : w = .look ∨ w = s.first) :
    ∃ o o', (s.doEv (.op w s.ops.length)).ops[s.ops.length]? = some o' ∧ o'.wr = decide (w ≠ .look) ∧ o = ({ s with last := none } : S).newOp (decide (w ≠ .look)) ∧ Pg s o o' := by
  have F := h.facts
  obtain ⟨v, q, o', P⟩ := stp_of (w := w) (n := s.ops.length) F.inv (.inl ⟨rfl, hw⟩)
  obtain ⟨e, _⟩ := P.new rfl
  have ns : w ≠ .stop := by
    rcases hw with rfl | rfl
    · decide
    · exact (first_ne s).2.2.2.2.2.2.2
  have G := P.pg ns
  have est : v.steps = s.steps := by unfold S.steps; rw [P.cfg]
  exact ⟨q, o', P.sm.me, by rw [P.sm.kwr, e] <;> rfl, e, G.nst, G.rd, est ▸ G.wt⟩
theorem alone_reach {c : Cfg} {s : S} (h : Reach c s) : ∀ k, k < s.steps.length →
    (∀ t, t = s.run ((s.steps.take (k + 1)).map fun w => Evt.op w s.ops.length) → Reach c t ∧ (∃ o, t.ops[s.ops.length]? = some o ∧ o.wr = true ∧ o.step = k + 1 ∧ o.stage ≠ .stopped ∧ (o.going = true ↔ k + 1 < s.steps.length)) ∧ runOk s ((s.steps.take (k + 1)).map fun w => Evt.op w s.ops.length))
  | 0, hk, t, ht => by
    have e : (s.steps.take (0 + 1)).map (fun w => Evt.op w s.ops.length) = [Evt.op s.first s.ops.length] := by
      have := first_get s
      cases hs : s.steps with
      | nil => rw [hs] at this; cases this
      | cons a r => rw [hs] at this; rw [← Option.some.inj this] <;> rfl
    rw [e] at ht ⊢
    subst ht
    have hm := first_mem s
    obtain ⟨o, o', a, b, d, G⟩ := begins_me h (.inr rfl)
    have hw : o.wr = true := by rw [d]; exact decide_eq_true (first_ne s).1
    have hst : o.step = 0 := by rw [d] <;> rfl
    obtain ⟨g1, g2⟩ := G.wt hw
    rw [hst] at g1 g2
    exact ⟨.step h hm, ⟨o', a, b.trans (decide_eq_true (first_ne s).1), g1, G.nst, g2⟩, (ev_ok h.facts.inv (can_of hm)).1, True.intro⟩
  | k + 1, hk, t, ht => by
    obtain ⟨r1, ⟨o, a, b, d, f, g⟩, r2⟩ := alone_reach h k (by omega) _ rfl
    have hg : o.going = true := g.mpr hk
    have F := r1.facts
    have K := F.inv.op _ o a
    have hcfg : (s.run ((s.steps.take (k + 1)).map fun w => Evt.op w s.ops.length)).cfg = s.cfg := run_cfg ..
    have hst := K.wst b hg
    have est : (s.run ((s.steps.take (k + 1)).map fun w => Evt.op w s.ops.length)).steps = s.steps := congrArg (fun c : Cfg => c.path.steps) hcfg
    rw [est, d] at hst
    have hnx := nextW_write K hg b
    have hm := next_mem a hg hnx
    have et : (s.steps.take (k + 1 + 1)).map (fun w => Evt.op w s.ops.length) = (s.steps.take (k + 1)).map (fun w => Evt.op w s.ops.length) ++ [Evt.op o.stage s.ops.length] := by
      rw [List.take_succ, hst, List.map_append] <;> rfl
    rw [et, run_snoc] at ht
    rw [et]
    subst ht
    obtain ⟨o', a', b', G⟩ := step_me r1 a hg hnx
    obtain ⟨g1, g2⟩ := G.wt b
    rw [est, d] at g2
    exact ⟨.step r1 hm, ⟨o', a', b'.trans b, by rw [g1, d], G.nst, g2⟩, runOk_snoc r2 (ev_ok F.inv (can_of hm)).1⟩
theorem steps_pos (s : S) : 0 < s.steps.length := by
  unfold S.steps
  cases s.cfg.path <;> decide
theorem alone_end {c : Cfg} {s : S} (h : Reach c s) : Reach c s.aloneW ∧ (∃ o, s.aloneW.ops[s.ops.length]? = some o ∧ o.going = false) ∧ runOk s (s.steps.map fun w => Evt.op w s.ops.length) := by
  have hp := steps_pos s
  have h2 := alone_reach h (s.steps.length - 1) (by omega) _ rfl
  rw [show s.steps.length - 1 + 1 = s.steps.length by omega, List.take_length] at h2
  obtain ⟨r1, ⟨o, a, b, d, f, g⟩, r2⟩ := h2
  refine ⟨r1, ⟨o, a, ?_⟩, r2⟩
  cases hg : o.going with
  | false => rfl
  | true => exact absurd (g.mp hg) (Nat.lt_irrefl _)
theorem checkOk_of {c : Cfg} {s : S} (h : Reach c s) (hl : s.past.length ≤ 60) : CheckOk s := by
  have F := h.facts
  have := F.ops
  refine ⟨zonedOk_of F.inv, fun i hi => ?_, waitOk_of F.inv, ⟨by rw [F.cfg]; exact F.again, by rw [F.cfg]; exact F.ok, hl, by omega⟩, (alone_end h).2.2, (ev_ok F.inv (can_of (look_mem s))).1, ?_⟩
  · obtain ⟨o, a, _, b, _⟩ := (F.last i).mp hi
    refine ⟨(List.getElem?_eq_some_iff.mp a).1, ?_⟩
    rw [at_get a]
    exact some_of ((F.inv.op i o a).done b).1
  · obtain ⟨o, o', a, b, d, G⟩ := begins_me h (.inl rfl)
    have hw : o.wr = false := by rw [d] <;> rfl
    have hr := G.rd hw
    have : o.rank = 3 := by rw [d] <;> rfl
    exact goOnOk_of 4 (.step h (look_mem s)) a b (by omega)
end K10
end
section
set_option linter.all false
set_option maxHeartbeats 1000000
namespace K10
theorem lTurn_stay {u : S} {n : Nat} (h : (u.at n).going = false) : u.lTurn n = u := by
  unfold S.lTurn S.lWord
  rw [h]
  rfl
theorem lTurns_front (n : Nat) : ∀ (k : Nat) (u : S), S.lTurns (k + 1) u n = S.lTurns k (u.lTurn n) n
  | 0, u => rfl
  | k + 1, u => by
    show (S.lTurns (k + 1) u n).lTurn n = (S.lTurns k (u.lTurn n) n).lTurn n
    rw [lTurns_front n k u]
theorem lAlone_w {c : Cfg} {s : S} (h : Reach c s) : ∀ k, S.lTurns k (s.doEv (.op s.first s.ops.length)) s.ops.length = s.run ((s.steps.take (k + 1)).map fun w => Evt.op w s.ops.length)
  | 0 => by
    have e : (s.steps.take (0 + 1)).map (fun w => Evt.op w s.ops.length) = [Evt.op s.first s.ops.length] := by
      have := first_get s
      cases hs : s.steps with
      | nil => rw [hs] at this; cases this
      | cons a r => rw [hs] at this; rw [← Option.some.inj this] <;> rfl
    rw [e]
    rfl
  | k + 1 => by
    show (S.lTurns k (s.doEv (.op s.first s.ops.length)) s.ops.length).lTurn s.ops.length = _
    rw [lAlone_w h k]
    by_cases hk : k + 1 < s.steps.length
    · obtain ⟨r1, ⟨o, a, b, d, f, g⟩, r2⟩ := alone_reach h k (by omega) _ rfl
      have hg : o.going = true := g.mpr hk
      have F := r1.facts
      have K := F.inv.op _ o a
      have hcfg : (s.run ((s.steps.take (k + 1)).map fun w => Evt.op w s.ops.length)).cfg = s.cfg := run_cfg ..
      have est : (s.run ((s.steps.take (k + 1)).map fun w => Evt.op w s.ops.length)).steps = s.steps := congrArg (fun c : Cfg => c.path.steps) hcfg
      have hst := K.wst b hg
      rw [est, d] at hst
      have hnx := nextW_write K hg b
      have et : (s.steps.take (k + 1 + 1)).map (fun w => Evt.op w s.ops.length) = (s.steps.take (k + 1)).map (fun w => Evt.op w s.ops.length) ++ [Evt.op o.stage s.ops.length] := by
        rw [List.take_succ, hst, List.map_append] <;> rfl
      rw [et, run_snoc]
      unfold S.lTurn S.lWord
      rw [at_get a, if_pos hg, hnx]
    · have h1 : s.steps.take (k + 1) = s.steps := List.take_of_length_le (by omega)
      have h2 : s.steps.take (k + 1 + 1) = s.steps := List.take_of_length_le (by omega)
      rw [h1, h2]
      obtain ⟨_, ⟨o, a, b⟩, _⟩ := alone_end h
      exact lTurn_stay (by show (s.aloneW.at _).going = false; rw [at_get a]; exact b)
theorem steps_le (s : S) : s.steps.length ≤ 3 := by
  unfold S.steps
  cases s.cfg.path <;> decide
theorem lAlone_write {c : Cfg} {s : S} (h : Reach c s) : s.lAlone s.first = s.aloneW := by
  unfold S.lAlone S.aloneW
  rw [lAlone_w h 4, List.take_of_length_le (by have := steps_le s; omega)]
theorem goOn_turns {c : Cfg} {n : Nat} : ∀ (k : Nat) {u : S} {o : Op}, Reach c u → u.ops[n]? = some o → o.wr = false → o.rank ≤ k → o.stage ≠ .stopped →
    (S.goOn k u n = none ∧ ((S.lTurns k u n).at n).stage ≠ .ended) ∨ (S.goOn k u n = some (S.lTurns k u n) ∧ ((S.lTurns k u n).at n).stage = .ended)
  | 0, u, o, h, ho, hw, hr, hs => by
    refine .inr ⟨rfl, ?_⟩
    show (u.at n).stage = .ended
    rw [at_get ho]
    have K := h.facts.inv.op n o ho
    unfold Op.rank at hr
    rcases K.rst hw with z | z | z | z | z | z <;> rw [z] at hr <;> first | exact z | exact absurd z hs | (exact absurd hr (by decide))
  | k + 1, u, o, h, ho, hw, hr, hs => by
    rw [lTurns_front]
    cases hg : o.going with
    | false =>
      have he : o.stage = .ended := by
        rcases not_going hg with z | z
        · exact z
        · exact absurd z hs
      have hstay : u.lTurn n = u := lTurn_stay (by rw [at_get ho]; exact hg)
      have all : ∀ k, S.lTurns k u n = u := fun k => by
        induction k with
        | zero => rfl
        | succ k ih =>
          show (S.lTurns k u n).lTurn n = u
          rw [ih, hstay]
      refine .inr ⟨?_, ?_⟩
      · show (if (u.at n).going = true then _ else some u) = _
        rw [at_get ho, hg, hstay, all]
        rfl
      · rw [hstay, all, at_get ho]
        exact he
    | true =>
      cases hn : u.nextW o with
      | none =>
        have hstay : u.lTurn n = u := by
          unfold S.lTurn S.lWord
          rw [at_get ho, hg, if_pos rfl, hn]
        have all : ∀ k, S.lTurns k u n = u := fun k => by
          induction k with
          | zero => rfl
          | succ k ih =>
            show (S.lTurns k u n).lTurn n = u
            rw [ih, hstay]
        refine .inl ⟨?_, ?_⟩
        · show (if (u.at n).going = true then (match u.nextW (u.at n) with
            | none => none
            | some w => S.goOn k (u.doEv (.op w n)) n) else some u) = _
          rw [at_get ho, hg, if_pos rfl, hn]
        · rw [hstay, all, at_get ho]
          exact ((going_iff o).mp hg).1
      | some w =>
        have hm := next_mem ho hg hn
        obtain ⟨o', a, b, G⟩ := step_me h ho hg hn
        have := G.rd hw
        have ht : u.lTurn n = u.doEv (.op w n) := by
          unfold S.lTurn S.lWord
          rw [at_get ho, hg, if_pos rfl, hn]
        have hgo : S.goOn (k + 1) u n = S.goOn k (u.doEv (.op w n)) n := by
          show (if (u.at n).going = true then (match u.nextW (u.at n) with
            | none => none
            | some w => S.goOn k (u.doEv (.op w n)) n) else some u) = _
          rw [at_get ho, hg, if_pos rfl, hn]
        rw [ht, hgo]
        exact goOn_turns k (.step h hm) a (b.trans hw) (by omega) G.nst
theorem filled_eq {c : Cfg} {s : S} (h : Reach c s) : s.lRest .filled = !s.fills := by
  obtain ⟨o, o', a, b, d, G⟩ := begins_me h (.inl rfl)
  have hw : o.wr = false := by rw [d] <;> rfl
  have hr := G.rd hw
  have : o.rank = 3 := by rw [d] <;> rfl
  have key := goOn_turns 4 (.step h (look_mem s)) a b (by omega) G.nst
  unfold S.fills S.aloneR S.lRest S.lAlone
  generalize S.lTurns 4 (s.doEv (.op .look s.ops.length)) s.ops.length = T at key ⊢
  rcases key with ⟨k1, k2⟩ | ⟨k1, k2⟩
  · rw [k1, decide_eq_false k2]
    rfl
  · rw [k1, decide_eq_true k2]
    rfl
theorem any_idx (s : S) (q : Op → Bool) : s.ops.any q = !((List.range s.ops.length).filter fun i => q (s.at i)).isEmpty := by
  rw [Bool.eq_iff_iff, List.any_eq_true]
  constructor
  · rintro ⟨o, ho, h⟩
    obtain ⟨i, hi⟩ := List.mem_iff_getElem?.mp ho
    have hm : i ∈ (List.range s.ops.length).filter fun i => q (s.at i) := List.mem_filter.mpr ⟨List.mem_range.mpr (List.getElem?_eq_some_iff.mp hi).1, by rw [at_get hi]; exact h⟩
    cases e : (List.range s.ops.length).filter fun i => q (s.at i) with
    | nil => rw [e] at hm; cases hm
    | cons x l => rfl
  · intro h
    cases e : (List.range s.ops.length).filter fun i => q (s.at i) with
    | nil => rw [e] at h; cases h
    | cons x l =>
      have hm : x ∈ (List.range s.ops.length).filter fun i => q (s.at i) := by rw [e]; exact List.mem_cons_self ..
      obtain ⟨h1, h2⟩ := List.mem_filter.mp hm
      exact ⟨_, List.mem_of_getElem? (ops_at (List.mem_range.mp h1)), h2⟩
theorem gos_filter (s : S) (q : Op → Bool) : ((gos s).filter fun i => q (s.at i)) = (List.range s.ops.length).filter fun i => (fun o : Op => o.going && q o) (s.at i) := by
  unfold gos
  rw [List.filter_filter]
  congr 1
  funext i
  rw [Bool.and_comm]
theorem single_eq (s : S) : decide (1 < (((gos s).filter fun i => (s.at i).inFetch).length : Int)) = decide (1 < (s.ops.filter fun o => o.going && o.inFetch).length) := by
  have h := gos_filter s Op.inFetch
  have h2 : ((List.range s.ops.length).filter fun i => (fun o : Op => o.going && o.inFetch) (s.at i)).length = (s.ops.filter fun o => o.going && o.inFetch).length := filter_getD s.ops default fun o => o.going && o.inFetch
  rw [h, h2]
  exact decide_eq_decide.mpr (by omega)
theorem lmax_acc : ∀ (l : List Int) (a : Int), a ≤ l.foldl mx a ∧ (∀ x ∈ l, x ≤ l.foldl mx a) ∧ (l.foldl mx a = a ∨ l.foldl mx a ∈ l)
  | [], a => ⟨Int.le_refl _, fun x h => by (cases h), .inl rfl⟩
  | y :: l, a => by
    obtain ⟨h1, h2, h3⟩ := lmax_acc l (mx a y)
    refine ⟨Int.le_trans (mx_l a y) h1, fun x hx => ?_, ?_⟩
    · rcases List.mem_cons.mp hx with rfl | hx
      · exact Int.le_trans (mx_r a x) h1
      · exact h2 x hx
    · show l.foldl mx (mx a y) = a ∨ l.foldl mx (mx a y) ∈ y :: l
      rcases h3 with z | z
      · rcases mx_or a y with e | e
        · exact .inl (z.trans e)
        · exact .inr (by rw [z, e]; exact List.mem_cons_self ..)
      · exact .inr (List.mem_cons_of_mem _ z)
theorem before_eq {c : Cfg} {s : S} (h : Reach c s) {wr : Bool} {b x : Int} (M : MaxOf s wr b x) : s.lBefore b wr = x := by
  have F := h.facts
  unfold S.lBefore lmax
  obtain ⟨h1, h2, h3⟩ := lmax_acc (((idxs s (Op.endedOf wr)).filter fun i => decide ((s.at i).over.getD 0 < b)).map fun i => (s.at i).ver.getD 0) 0
  generalize hy : List.foldl mx 0 (((idxs s (Op.endedOf wr)).filter fun i => decide ((s.at i).over.getD 0 < b)).map fun i => (s.at i).ver.getD 0) = y at *
  have fwd : ∀ i ∈ (idxs s (Op.endedOf wr)).filter (fun i => decide ((s.at i).over.getD 0 < b)), s.ops[i]? = some (s.at i) ∧ (s.at i).wr = wr ∧ (s.at i).stage = .ended ∧ ∃ m v, (s.at i).over = some m ∧ m < b ∧ (s.at i).ver = some v := fun i hi => by
    obtain ⟨a1, a2⟩ := List.mem_filter.mp hi
    have a3 := idxs_lt i a1
    have a4 := (List.mem_filter.mp a1).2
    unfold Op.endedOf at a4
    obtain ⟨b1, b2⟩ := Bool.and_eq_true_iff.mp a4
    have b2 := of_decide_eq_true b2
    obtain ⟨⟨v, c1⟩, m, c2⟩ := endedOk_of F.inv i _ (ops_at a3) b2
    have a2 := of_decide_eq_true a2
    rw [c2] at a2
    exact ⟨ops_at a3, of_decide_eq_true b1, b2, m, v, c2, a2, c1⟩
  have hle : y ≤ x := by
    rcases h3 with z | z
    · rw [z]
      exact M.nn
    · obtain ⟨i, hi, e⟩ := List.mem_map.mp z
      obtain ⟨a1, a2, a3, m, v, a4, a5, a6⟩ := fwd i hi
      rw [a6] at e
      have e : v = y := e
      rw [← e]
      exact M.le i _ m v a1 a2 a3 a4 a5 a6
  have hge : x ≤ y := by
    rcases M.at' with z | ⟨j, q, m, a1, a2, a3, a4, a5, a6⟩
    · rw [z]
      exact h1
    · have hlt := (List.getElem?_eq_some_iff.mp a1).1
      have hat := at_get a1
      have m1 : j ∈ (idxs s (Op.endedOf wr)).filter (fun i => decide ((s.at i).over.getD 0 < b)) := by
        refine List.mem_filter.mpr ⟨List.mem_filter.mpr ⟨List.mem_range.mpr hlt, ?_⟩, ?_⟩
        · rw [hat]
          unfold Op.endedOf
          rw [decide_eq_true a2, decide_eq_true a3]
          rfl
        · rw [hat, a4]
          exact decide_eq_true a5
      exact h2 x (List.mem_map.mpr ⟨j, m1, by rw [hat, a6] <;> rfl⟩)
  omega
theorem last_list {c : Cfg} {s : S} (h : Reach c s) : (s.last = none ∧ s.lLast = []) ∨ ∃ i l, s.last = some i ∧ s.lLast = i :: l ∧ i < s.ops.length := by
  have F := h.facts
  have key : ∀ i, i ∈ s.lLast ↔ s.last = some i := fun i => by
    rw [F.last i]
    unfold S.lLast idxs
    rw [List.mem_filter, List.mem_range]
    constructor
    · rintro ⟨a, b⟩
      obtain ⟨b1, b2⟩ := Bool.and_eq_true_iff.mp b
      obtain ⟨b2, b3⟩ := Bool.and_eq_true_iff.mp b2
      exact ⟨_, ops_at a, of_decide_eq_true b1, of_decide_eq_true b2, of_decide_eq_true b3⟩
    · rintro ⟨o, a, b1, b2, b3⟩
      refine ⟨(List.getElem?_eq_some_iff.mp a).1, ?_⟩
      rw [at_get a]
      show (decide (o.wr = false) && (decide (o.stage = Wd.ended) && decide (o.over = some (s.now - 1)))) = true
      rw [decide_eq_true b1, decide_eq_true b2, decide_eq_true b3]
      rfl
  cases e : s.lLast with
  | nil =>
    refine .inl ⟨?_, rfl⟩
    cases e2 : s.last with
    | none => rfl
    | some i =>
      have := (key i).mpr e2
      rw [e] at this
      cases this
  | cons i l =>
    have hi := (key i).mp (by rw [e]; exact List.mem_cons_self ..)
    obtain ⟨o, a, _⟩ := (F.last i).mp hi
    exact .inr ⟨i, l, hi, rfl, (List.getElem?_eq_some_iff.mp a).1⟩
theorem quiet_eq {c : Cfg} {s : S} (h : Reach c s) {i : Nat} (hi : s.last = some i) : s.lQuiet (s.at i).begun (s.now - 1) = (s.at i).quiet := by
  have F := h.facts
  obtain ⟨o, a, b1, b2, b3⟩ := (F.last i).mp hi
  rw [at_get a]
  have Q := F.inv.qui i o a b1 (.inr hi)
  rw [Bool.eq_iff_iff, Q]
  unfold S.lQuiet
  rw [List.isEmpty_iff, List.filter_eq_nil_iff]
  constructor
  · intro hall j q hj hw
    have hlt := (List.getElem?_eq_some_iff.mp hj).1
    have hne : i ≠ j := by
      rintro rfl
      rw [a] at hj
      obtain rfl := Option.some.inj hj
      rw [b1] at hw
      cases hw
    have st := F.inv.stamp j i q o (fun z => hne z.symm) hj a
    have st2 := F.inv.stamp i j o q hne a hj
    have hb := (F.inv.op j q hj).beg.2
    have hq1 : q.begun ≠ s.now - 1 := (st.2 _ b3).1
    have hm : j ∈ idxs s fun o => o.wr && decide (o.begun < s.now - 1) := List.mem_filter.mpr ⟨List.mem_range.mpr hlt, by
      rw [at_get hj]
      show (q.wr && decide (q.begun < s.now - 1)) = true
      rw [hw, decide_eq_true (show q.begun < s.now - 1 by omega)]
      rfl⟩
    have := hall j hm
    rw [at_get hj] at this
    cases hov : q.over with
    | none =>
      rw [hov] at this
      exact absurd rfl this
    | some m =>
      rw [hov] at this
      refine ⟨m, rfl, ?_⟩
      have h1 : ¬ o.begun < m := fun z => this (by
        show (false || decide (o.begun < m)) = true
        rw [decide_eq_true z]
        rfl)
      have h2 := (st2.2 m hov).1
      omega
  · intro hall j hj hx
    obtain ⟨hj1, hj2⟩ := List.mem_filter.mp hj
    have hlt := List.mem_range.mp hj1
    obtain ⟨m, hm, hlt2⟩ := hall j _ (ops_at hlt) (Bool.and_eq_true_iff.mp hj2).1
    rw [hm] at hx
    have hx : (false || decide (o.begun < m)) = true := hx
    rw [Bool.false_or] at hx
    have := of_decide_eq_true hx
    omega
theorem br_eq {c : Cfg} {s : S} (h : Reach c s) (p : Pr) (hp : p ≠ .linear) : s.lBroken p = s.broken p := by
  have F := h.facts
  unfold S.lBroken
  cases p with
  | rest => exact rfl
  | mended =>
    show ((gos s).isEmpty && (s.lAlone s.first).behind) = ((gos s).isEmpty && s.aloneW.behind)
    rw [lAlone_write h]
  | filled =>
    show ((gos s).isEmpty && s.lRest .filled) = ((gos s).isEmpty && !s.fills)
    rw [filled_eq h]
  | linear => exact absurd rfl hp
  | moving =>
    show (!((gos s).filter fun i => decide (s.nextW (s.at i) = none)).isEmpty) = s.ops.any fun o => o.going && decide (s.nextW o = none)
    rw [any_idx, gos_filter s fun o => decide (s.nextW o = none)]
  | ending =>
    show (!((gos s).filter fun i => s.isEnding (s.at i)).isEmpty) = s.ops.any fun o => o.going && s.isEnding o
    rw [any_idx, gos_filter s fun o => s.isEnding o]
  | single => exact single_eq s
  | forward =>
    show (match s.lLast with
      | [] => false
      | i :: _ => decide ((s.at i).ver.getD 0 < s.lBefore (s.at i).begun false)) = (match s.lastOp with | none => false | some o => decide (o.ver.getD 0 < o.ret))
    unfold S.lastOp
    rcases last_list h with ⟨e1, e2⟩ | ⟨i, l, e1, e2, e3⟩
    · rw [e1, e2]
      rfl
    · rw [e1, e2]
      show decide ((s.at i).ver.getD 0 < s.lBefore (s.at i).begun false) = decide ((s.at i).ver.getD 0 < (s.at i).ret)
      rw [before_eq h (F.inv.mf i _ (ops_at e3)).2]
  | fresh =>
    show (match s.lLast with
      | [] => false
      | i :: _ => decide ((s.at i).ver.getD 0 < s.lBefore (s.at i).begun true)) = (match s.lastOp with | none => false | some o => decide (o.ver.getD 0 < o.fin))
    unfold S.lastOp
    rcases last_list h with ⟨e1, e2⟩ | ⟨i, l, e1, e2, e3⟩
    · rw [e1, e2]
      rfl
    · rw [e1, e2]
      show decide ((s.at i).ver.getD 0 < s.lBefore (s.at i).begun true) = decide ((s.at i).ver.getD 0 < (s.at i).fin)
      rw [before_eq h (F.inv.mf i _ (ops_at e3)).1]
  | quiet =>
    show (match s.lLast with
      | [] => false
      | i :: _ => s.lQuiet (s.at i).begun (s.now - 1) && decide ((s.at i).ver.getD 0 < s.db)) = (match s.lastOp with | none => false | some o => o.quiet && decide (o.ver.getD 0 < s.db))
    unfold S.lastOp
    rcases last_list h with ⟨e1, e2⟩ | ⟨i, l, e1, e2, e3⟩
    · rw [e1, e2]
      rfl
    · rw [e1, e2]
      show (s.lQuiet (s.at i).begun (s.now - 1) && decide ((s.at i).ver.getD 0 < s.db)) = ((s.at i).quiet && decide ((s.at i).ver.getD 0 < s.db))
      rw [quiet_eq h e1]
end K10
end
section
set_option linter.all false
set_option maxHeartbeats 1000000
namespace K10
inductive Lin : List Dct → Option Int → Prop where
  | nil (v : Option Int) : Lin [] v
  | pick (s : List Dct) (x : Dct) (t : List Dct) (v : Option Int) : (∀ q ∈ s ++ t, q.1.late x.1.begun = false) → (x.1.wr = true ∨ x.1.ver = v) → Lin (s ++ t) x.1.ver → Lin (s ++ x :: t) v
theorem mem_mid {s t : List Dct} {x q : Dct} : q ∈ s ++ x :: t ↔ q = x ∨ q ∈ s ++ t := by
  rw [List.mem_append, List.mem_cons, List.mem_append]
  constructor
  · rintro (h | h | h)
    · exact .inr (.inl h)
    · exact .inl h
    · exact .inr (.inr h)
  · rintro (h | h | h)
    · exact .inr (.inl h)
    · exact .inl h
    · exact .inr (.inr h)
theorem take_drop_mid {l : List Dct} {j : Nat} (h : j < l.length) : l = l.take j ++ l[j] :: l.drop (j + 1) := by
  rw [List.getElem_cons_drop, List.take_append_drop]
theorem ordB_lin : ∀ (n : Nat) (l : List Dct) (v : Option Int), l.length ≤ n → (ordB (n + 1) l v = true ↔ Lin l v)
  | 0, l, v, h => by
    have : l = [] := List.length_eq_zero_iff.mp (by omega)
    subst this
    exact ⟨fun _ => .nil v, fun _ => rfl⟩
  | n + 1, l, v, h => by
    show (l.isEmpty || (List.range l.length).any fun j =>
      ((l.take j ++ l.drop (j + 1)).filter fun q => q.1.late (l.getD j default).1.begun).isEmpty && (((l.getD j default).1.wr || decide ((l.getD j default).1.ver = v)) && ordB (n + 1) (l.take j ++ l.drop (j + 1)) (l.getD j default).1.ver)) = true ↔ _
    rw [Bool.or_eq_true, List.any_eq_true]
    constructor
    · rintro (h1 | ⟨j, hj, h1⟩)
      · rw [List.isEmpty_iff] at h1
        subst h1
        exact .nil v
      · have hj := List.mem_range.mp hj
        have hg : l.getD j default = l[j] := by rw [List.getD_eq_getElem?_getD, List.getElem?_eq_getElem hj] <;> rfl
        rw [hg] at h1
        obtain ⟨a, b⟩ := Bool.and_eq_true_iff.mp h1
        obtain ⟨b, c⟩ := Bool.and_eq_true_iff.mp b
        rw [List.isEmpty_iff, List.filter_eq_nil_iff] at a
        have hlen : (l.take j ++ l.drop (j + 1)).length ≤ n := by
          rw [List.length_append, List.length_take, List.length_drop]
          omega
        have ih := (ordB_lin n _ _ hlen).mp c
        have key := Lin.pick (l.take j) l[j] (l.drop (j + 1)) v (fun q hq => by simpa using a q hq) (by
          rcases Bool.or_eq_true_iff.mp b with z | z
          · exact .inl z
          · exact .inr (of_decide_eq_true z)) ih
        rw [← take_drop_mid hj] at key
        exact key
    · intro hL
      cases hL with
      | nil => exact .inl rfl
      | pick s x t v h1 h2 h3 =>
        refine .inr ⟨s.length, List.mem_range.mpr (by rw [List.length_append, List.length_cons]; omega), ?_⟩
        have hg : (s ++ x :: t).getD s.length default = x := by simp [List.getD_eq_getElem?_getD]
        have ht : (s ++ x :: t).take s.length = s := by simp
        have hd : (s ++ x :: t).drop (s.length + 1) = t := by
          rw [List.drop_append]
          simp
        rw [hg, ht, hd]
        have hlen : (s ++ t).length ≤ n := by
          rw [List.length_append] at h ⊢
          rw [List.length_cons] at h
          omega
        rw [(ordB_lin n _ _ hlen).mpr h3, Bool.and_true, Bool.and_eq_true, List.isEmpty_iff, List.filter_eq_nil_iff]
        refine ⟨fun q hq => by rw [h1 q hq]; exact Bool.false_ne_true, ?_⟩
        rcases h2 with z | z
        · rw [z]
          rfl
        · rw [decide_eq_true z, Bool.or_true]
def NW (l : List Dct) (v : Option Int) : Prop := ∀ w ∈ l, w.1.wr = true → w.1.ver ≠ v
def Uw (l : List Dct) : Prop := l.Nodup ∧ ∀ a ∈ l, ∀ b ∈ l, a.1.wr = true → b.1.wr = true → a.1.ver = b.1.ver → a = b
theorem Uw.sub {s t : List Dct} {x : Dct} (h : Uw (s ++ x :: t)) : Uw (s ++ t) ∧ x ∉ s ++ t := by
  obtain ⟨h1, h2⟩ := h
  have p : (s ++ x :: t).Perm (x :: (s ++ t)) := List.perm_middle
  have h3 := (p.nodup_iff).mp h1
  rw [List.nodup_cons] at h3
  exact ⟨⟨h3.2, fun a ha b hb => h2 a (mem_mid.mpr (.inr ha)) b (mem_mid.mpr (.inr hb))⟩, h3.1⟩
theorem NW.next {s t : List Dct} {x : Dct} {v : Option Int} (h : NW (s ++ x :: t) v) (u : Uw (s ++ x :: t)) (hx : x.1.wr = true ∨ x.1.ver = v) : NW (s ++ t) x.1.ver := fun w hw hwr hv => by
  cases hxw : x.1.wr with
  | true =>
    have := u.2 w (mem_mid.mpr (.inr hw)) x (mem_mid.mpr (.inl rfl)) hwr hxw hv
    subst this
    exact u.sub.2 hw
  | false =>
    rcases hx with z | z
    · rw [hxw] at z
      cases z
    · exact h w (mem_mid.mpr (.inr hw)) hwr (hv.trans z)
theorem lin_back {l : List Dct} {v : Option Int} (h : Lin l v) : ∀ y ∈ l, y.1.ver ≠ v → ∃ w ∈ l, w.1.wr = true ∧ w.1.ver = y.1.ver := by
  induction h with
  | nil v =>
    intro y hy
    cases hy
  | pick s x t v h1 h2 h3 ih =>
    intro y hy hv
    by_cases e : x.1.ver = y.1.ver
    · refine ⟨x, mem_mid.mpr (.inl rfl), ?_, e⟩
      rcases h2 with z | z
      · exact z
      · exact absurd (e.symm.trans z) hv
    · rcases mem_mid.mp hy with rfl | hy
      · exact absurd rfl e
      · obtain ⟨w, a, b, c⟩ := ih y hy (fun z => e z.symm)
        exact ⟨w, mem_mid.mpr (.inr a), b, c⟩
theorem lin_first {l : List Dct} {v : Option Int} (h : Lin l v) : Uw l → NW l v → ∀ c ∈ l, ∀ d ∈ l, c.1.ver ≠ v → d.1.ver = v → c.1.late d.1.begun = false := by
  induction h with
  | nil v =>
    intro _ _ c hc
    cases hc
  | pick s x t v h1 h2 h3 ih =>
    intro hu hn c hc d hd hcv hdv
    by_cases e : x.1.ver = v
    · rcases mem_mid.mp hc with rfl | hc2
      · exact absurd e hcv
      rcases mem_mid.mp hd with rfl | hd2
      · exact h1 c hc2
      exact ih hu.sub.1 (hn.next hu h2) c hc2 d hd2 (by rw [e]; exact hcv) (by rw [e]; exact hdv)
    · rcases mem_mid.mp hd with rfl | hd
      · exact absurd hdv e
      obtain ⟨w, a, b, f⟩ := lin_back h3 d hd (by rw [hdv]; exact fun z => e z.symm)
      exact absurd (f.trans hdv) (hn w (mem_mid.mpr (.inr a)) b)
theorem lin_free {l : List Dct} {v : Option Int} (h : Lin l v) : Uw l → NW l v → ∀ a ∈ l, ∀ b ∈ l, ∀ c ∈ l, ∀ d ∈ l, a.1.ver = d.1.ver → b.1.ver = c.1.ver → a.1.ver ≠ b.1.ver → a.1.late b.1.begun = true → c.1.late d.1.begun = true → False := by
  induction h with
  | nil v =>
    intro _ _ a ha
    cases ha
  | pick s x t v h1 h2 h3 ih =>
    intro hu hn a ha b hb c hc d hd e1 e2 e3 l1 l2
    have hu' := hu.sub.1
    have hn' := hn.next hu h2
    have nb : b ≠ x := by
      rintro rfl
      rcases mem_mid.mp ha with rfl | ha
      · exact e3 rfl
      · rw [h1 a ha] at l1
        cases l1
    have nd : d ≠ x := by
      rintro rfl
      rcases mem_mid.mp hc with rfl | hc
      · exact e3 (e1.trans e2.symm)
      · rw [h1 c hc] at l2
        cases l2
    have hb2 := (mem_mid.mp hb).resolve_left nb
    have hd2 := (mem_mid.mp hd).resolve_left nd
    rcases mem_mid.mp ha with rfl | ha2
    · have hc2 : c ∈ s ++ t := by
        rcases mem_mid.mp hc with rfl | hc2
        · exact absurd e2.symm e3
        · exact hc2
      have := lin_first h3 hu' hn' c hc2 d hd2 (fun z => e3 (z.symm.trans e2.symm)) e1.symm
      rw [this] at l2
      cases l2
    · rcases mem_mid.mp hc with rfl | hc2
      · have := lin_first h3 hu' hn' a ha2 b hb2 (fun z => e3 (z.trans e2.symm)) e2
        rw [this] at l1
        cases l1
      · exact ih hu' hn' a ha2 b hb2 c hc2 d hd2 e1 e2 e3 l1 l2
theorem late_iff {o : Op} {b : Int} : o.late b = true ↔ ∃ m, o.over = some m ∧ m < b := by
  unfold Op.late
  rw [Bool.and_eq_true, decide_eq_true_eq, decide_eq_true_eq]
  cases o.over with
  | none => simp
  | some m => simp
theorem not_late {o : Op} {b : Int} (h : ∀ m, o.over = some m → b ≤ m) : o.late b = false := by
  cases e : o.late b with
  | false => rfl
  | true =>
    obtain ⟨m, a, c⟩ := late_iff.mp e
    have := h m a
    omega
theorem exists_min {α : Type} (f : α → Int) (p : α → Prop) [DecidablePred p] : ∀ l : List α, (∃ x ∈ l, p x) → ∃ x ∈ l, p x ∧ ∀ y ∈ l, p y → f x ≤ f y
  | [], h => by
    obtain ⟨x, hx, _⟩ := h
    cases hx
  | x :: l, h => by
    by_cases hl : ∃ y ∈ l, p y
    · obtain ⟨y, hy, py, hm⟩ := exists_min f p l hl
      by_cases hx : p x ∧ f x ≤ f y
      · refine ⟨x, List.mem_cons_self .., hx.1, fun z hz pz => ?_⟩
        rcases List.mem_cons.mp hz with rfl | hz
        · exact Int.le_refl _
        · exact Int.le_trans hx.2 (hm z hz pz)
      · refine ⟨y, List.mem_cons_of_mem _ hy, py, fun z hz pz => ?_⟩
        rcases List.mem_cons.mp hz with rfl | hz
        · have : ¬ f z ≤ f y := fun w => hx ⟨pz, w⟩
          omega
        · exact hm z hz pz
    · obtain ⟨y, hy, py⟩ := h
      rcases List.mem_cons.mp hy with rfl | hy
      · refine ⟨y, List.mem_cons_self .., py, fun z hz pz => ?_⟩
        rcases List.mem_cons.mp hz with rfl | hz
        · exact Int.le_refl _
        · exact absurd ⟨z, hz, pz⟩ hl
      · exact absurd ⟨y, hy, py⟩ hl
structure Free (l : List Dct) (v : Option Int) : Prop where
  u : Uw l
  nw : NW l v
  src : ∀ r ∈ l, r.1.wr = false → r.1.ver ≠ v → ∃ w ∈ l, w.1.wr = true ∧ w.1.ver = r.1.ver ∧ ∀ m, r.1.over = some m → w.1.begun ≤ m
  fst : ∀ c ∈ l, ∀ d ∈ l, c.1.ver ≠ v → d.1.ver = v → c.1.late d.1.begun = false
  no : ∀ a ∈ l, ∀ b ∈ l, ∀ c ∈ l, ∀ d ∈ l, a.1.ver = d.1.ver → b.1.ver = c.1.ver → a.1.ver ≠ b.1.ver → a.1.late b.1.begun = true → c.1.late d.1.begun = true → False
  ord : ∀ q ∈ l, ∀ m, q.1.over = some m → q.1.begun ≤ m
theorem least_version {l : List Dct} {v : Option Int} (F : Free l v) (hl : l ≠ []) : ∃ x ∈ l, ∀ q ∈ l, ∀ b ∈ l, q.1.ver ≠ x.1.ver → b.1.ver = x.1.ver → q.1.late b.1.begun = false := by
  by_cases h : ∃ x ∈ l, x.1.over ≠ none
  · obtain ⟨q0, h0, p0, hm⟩ := exists_min (fun q : Dct => q.1.over.getD 0) (fun q : Dct => q.1.over ≠ none) l h
    by_cases hmin : ∀ q ∈ l, ∀ b ∈ l, q.1.ver ≠ q0.1.ver → b.1.ver = q0.1.ver → q.1.late b.1.begun = false
    · exact ⟨q0, h0, hmin⟩
    · have hmin : ∃ q ∈ l, ∃ b ∈ l, q.1.ver ≠ q0.1.ver ∧ b.1.ver = q0.1.ver ∧ q.1.late b.1.begun = true := by
        apply Classical.byContradiction
        intro hn
        apply hmin
        intro q hq b hb e1 e2
        cases e : q.1.late b.1.begun with
        | false => rfl
        | true => exact absurd ⟨q, hq, b, hb, e1, e2, e⟩ hn
      obtain ⟨q1, hq1, b1, hb1, e1, e2, e3⟩ := hmin
      refine ⟨q1, hq1, fun q hq d hd e4 e5 => not_late fun m hov => ?_⟩
      have hd0 : q0.1.late d.1.begun = false := by
        cases e : q0.1.late d.1.begun with
        | false => rfl
        | true => exact (F.no q0 h0 d hd q1 hq1 b1 hb1 e2.symm e5 (fun z => e1 (e5.symm.trans z.symm)) e e3).elim
      have h1 := hm q hq (by rw [hov]; exact fun z => by cases z)
      rw [hov] at h1
      have h1 : q0.1.over.getD 0 ≤ m := h1
      cases ho : q0.1.over with
      | none => exact absurd ho p0
      | some m0 =>
        rw [ho] at h1
        have h1 : m0 ≤ m := h1
        have : ¬ m0 < d.1.begun := fun z => by
          rw [late_iff.mpr ⟨m0, ho, z⟩] at hd0
          cases hd0
        omega
  · obtain ⟨x, hx⟩ : ∃ x, x ∈ l := by
      cases l with
      | nil => exact absurd rfl hl
      | cons x l => exact ⟨x, List.mem_cons_self ..⟩
    refine ⟨x, hx, fun q hq b hb _ _ => not_late fun m hov => ?_⟩
    exact absurd ⟨q, hq, by rw [hov]; exact fun z => by cases z⟩ h
theorem lin_of_free : ∀ (n : Nat) (l : List Dct) (v : Option Int), l.length ≤ n → Free l v → Lin l v
  | 0, l, v, h, _ => by
    have : l = [] := List.length_eq_zero_iff.mp (by omega)
    subst this
    exact .nil v
  | n + 1, l, v, h, F => by
    by_cases hl : l = []
    · subst hl
      exact .nil v
    by_cases hv : ∃ r ∈ l, r.1.ver = v
    · obtain ⟨x, hx, ex, hm⟩ := exists_min (fun q : Dct => q.1.begun) (fun q : Dct => q.1.ver = v) l hv
      obtain ⟨s, t, rfl⟩ := List.append_of_mem hx
      have sub : ∀ {q : Dct}, q ∈ s ++ t → q ∈ s ++ x :: t := fun h => mem_mid.mpr (.inr h)
      have hxr : x.1.wr = false := by
        cases e : x.1.wr with
        | false => rfl
        | true => exact absurd ex (F.nw x hx e)
      refine .pick s x t v (fun q hq => ?_) (.inr ex) (lin_of_free n (s ++ t) x.1.ver (by simp at h ⊢; omega) ?_)
      · by_cases e : q.1.ver = v
        · refine not_late fun m ho => ?_
          have h1 := hm q (sub hq) e
          have h2 := F.ord q (sub hq) m ho
          exact Int.le_trans h1 h2
        · exact F.fst q (sub hq) x hx e ex
      · rw [ex]
        refine ⟨F.u.sub.1, fun w hw => F.nw w (sub hw), fun r hr hrw hrv => ?_, fun c hc d hd => F.fst c (sub hc) d (sub hd), fun a ha b hb c hc d hd => F.no a (sub ha) b (sub hb) c (sub hc) d (sub hd), fun q hq => F.ord q (sub hq)⟩
        obtain ⟨w, a, b, c⟩ := F.src r (sub hr) hrw hrv
        refine ⟨w, (mem_mid.mp a).resolve_left ?_, b, c⟩
        rintro rfl
        rw [hxr] at b
        cases b
    · obtain ⟨y, hy, hmin⟩ := least_version F hl
      have yv : y.1.ver ≠ v := fun z => hv ⟨y, hy, z⟩
      obtain ⟨x, hx, xw, xv⟩ : ∃ x ∈ l, x.1.wr = true ∧ x.1.ver = y.1.ver := by
        cases e : y.1.wr with
        | true => exact ⟨y, hy, e, rfl⟩
        | false =>
          obtain ⟨w, a, b, c, _⟩ := F.src y hy e yv
          exact ⟨w, a, b, c⟩
      obtain ⟨s, t, rfl⟩ := List.append_of_mem hx
      have sub : ∀ {q : Dct}, q ∈ s ++ t → q ∈ s ++ x :: t := fun h => mem_mid.mpr (.inr h)
      refine .pick s x t v (fun q hq => ?_) (.inl xw) (lin_of_free n (s ++ t) x.1.ver (by simp at h ⊢; omega) ?_)
      · by_cases e : q.1.ver = y.1.ver
        · have qr : q.1.wr = false := by
            cases e2 : q.1.wr with
            | false => rfl
            | true =>
              have := F.u.2 q (sub hq) x hx e2 xw (e.trans xv.symm)
              subst this
              exact absurd hq F.u.sub.2
          obtain ⟨w, a, b, c, d⟩ := F.src q (sub hq) qr (by rw [e]; exact yv)
          have := F.u.2 w a x hx b xw (c.trans (e.trans xv.symm))
          subst this
          exact not_late d
        · exact hmin q (sub hq) x hx e xv
      · refine ⟨F.u.sub.1, F.nw.next F.u (.inl xw), fun r hr hrw hrv => ?_, fun c hc d hd e1 e2 => hmin c (sub hc) d (sub hd) (by rw [← xv]; exact e1) (by rw [← xv]; exact e2), fun a ha b hb c hc d hd => F.no a (sub ha) b (sub hb) c (sub hc) d (sub hd), fun q hq => F.ord q (sub hq)⟩
        obtain ⟨w, a, b, c, d⟩ := F.src r (sub hr) hrw (fun z => hv ⟨r, sub hr, z⟩)
        refine ⟨w, (mem_mid.mp a).resolve_left ?_, b, c, d⟩
        rintro rfl
        exact hrv c.symm
end K10
end
section
set_option linter.all false
set_option maxHeartbeats 1000000
namespace K10
theorem zGet_mem {z : Zn} {k : Int} {p : Int × Int} (h : zGet z k = some p) : (k, p) ∈ z := by
  unfold zGet at h
  cases e : z.find? (fun p => decide (p.1 = k)) with
  | none =>
    rw [e] at h
    cases h
  | some q =>
    rw [e] at h
    have h1 : q.2 = p := Option.some.inj h
    have h2 := List.find?_some e
    have h2 : q.1 = k := of_decide_eq_true h2
    have h3 := List.mem_of_find?_eq_some e
    rw [← h1, ← h2]
    exact h3
theorem mem_zGet : ∀ {z : Zn} {k : Int} {p : Int × Int}, (z.map (·.1)).Nodup → (k, p) ∈ z → zGet z k = some p
  | [], _, _, _, h => by cases h
  | q :: z, k, p, hn, h => by
    rw [List.map_cons, List.nodup_cons] at hn
    unfold zGet
    rw [List.find?_cons]
    rcases List.mem_cons.mp h with rfl | h
    · rw [decide_eq_true rfl]
      rfl
    · have : q.1 ≠ k := fun e => hn.1 (List.mem_map.mpr ⟨(k, p), h, e.symm⟩)
      rw [decide_eq_false this]
      exact mem_zGet hn.2 h
theorem zGet_put (z : Zn) (k k' : Int) (v : Int × Int) : zGet (zPut z k v) k' = if k' = k then some v else zGet z k' := by
  unfold zPut zGet
  split
  · rename_i ha
    rw [List.find?_map]
    have hf : ((fun p : Int × (Int × Int) => decide (p.1 = k')) ∘ fun p : Int × (Int × Int) => if p.1 = k then (p.1, v) else p) = fun p => decide (p.1 = k') := by
      funext p
      show decide ((if p.1 = k then (p.1, v) else p).1 = k') = _
      split <;> rfl
    rw [hf]
    cases e : z.find? (fun p => decide (p.1 = k')) with
    | none =>
      split
      · rename_i hk
        subst hk
        rw [List.any_eq_true] at ha
        obtain ⟨p, hp, h⟩ := ha
        have := List.find?_eq_none.mp e p hp
        exact absurd h this
      · rfl
    | some q =>
      have h2 := List.find?_some e
      have h2 : q.1 = k' := of_decide_eq_true h2
      show some (if q.1 = k then (q.1, v) else q).2 = _
      rw [h2]
      split <;> rfl
  · rename_i ha
    rw [List.find?_append]
    split
    · rename_i hk
      subst hk
      have : z.find? (fun p => decide (p.1 = k')) = none := by
        rw [List.find?_eq_none]
        intro p hp h
        exact ha (List.any_eq_true.mpr ⟨p, hp, h⟩)
      rw [this]
      simp
    · rename_i hk
      cases e : z.find? (fun p => decide (p.1 = k')) with
      | none =>
        have : ¬ k = k' := fun w => hk w.symm
        simp [this]
      | some q => simp
theorem mn_l (i j : Int) : mn i j ≤ i := by unfold mn; split <;> omega
theorem mn_r (i j : Int) : mn i j ≤ j := by unfold mn; split <;> omega
theorem mn_or (i j : Int) : mn i j = i ∨ mn i j = j := by unfold mn; split <;> simp
structure ZI (far : Int) (done : List Op) (z : Zn) : Prop where
  a : ∀ o ∈ done, o.zoned = true → ∃ p, zGet z (o.ver.getD 0) = some p ∧ p.1 ≤ o.ended.getD far ∧ o.begun ≤ p.2
  b : ∃ p, zGet z 0 = some p ∧ p.1 ≤ -1
  c : ∀ k p, zGet z k = some p → ((p.1 = -1 ∧ k = 0) ∨ p.1 = far ∨ ∃ o ∈ done, o.zoned = true ∧ o.ver.getD 0 = k ∧ o.ended.getD far = p.1) ∧ (p.2 = -1 ∨ ∃ o ∈ done, o.zoned = true ∧ o.ver.getD 0 = k ∧ o.begun = p.2)
theorem ZI.step {far : Int} {done : List Op} {z : Zn} (Z : ZI far done z) (o : Op) : ZI far (done ++ [o]) (zStep far z o) := by
  unfold zStep
  split
  · rename_i hz
    have hp : ∃ p, (zGet z (o.ver.getD 0)).getD (far, -1) = p ∧ ((p.1 = -1 ∧ o.ver.getD 0 = 0) ∨ p.1 = far ∨ ∃ q ∈ done, q.zoned = true ∧ q.ver.getD 0 = o.ver.getD 0 ∧ q.ended.getD far = p.1) ∧ (p.2 = -1 ∨ ∃ q ∈ done, q.zoned = true ∧ q.ver.getD 0 = o.ver.getD 0 ∧ q.begun = p.2) := by
      cases e : zGet z (o.ver.getD 0) with
      | none => exact ⟨_, rfl, .inr (.inl rfl), .inl rfl⟩
      | some p => exact ⟨p, rfl, Z.c _ _ e⟩
    obtain ⟨p, e, c1, c2⟩ := hp
    have en : zNew far z o = (mn p.1 (o.ended.getD far), mx p.2 o.begun) := by unfold zNew; rw [e]
    rw [en]
    refine ⟨fun q hq hqz => ?_, ?_, fun k r hk => ?_⟩
    · rw [zGet_put]
      rcases List.mem_append.mp hq with hq | hq
      · obtain ⟨r, h1, h2, h3⟩ := Z.a q hq hqz
        split
        · rename_i hk
          refine ⟨_, rfl, ?_, ?_⟩
          · rw [hk] at h1
            rw [h1] at e
            have e : r = p := e
            subst e
            exact Int.le_trans (mn_l _ _) h2
          · rw [hk] at h1
            rw [h1] at e
            have e : r = p := e
            subst e
            exact Int.le_trans h3 (mx_l _ _)
        · exact ⟨r, h1, h2, h3⟩
      · rw [List.mem_singleton.mp hq, if_pos rfl]
        exact ⟨_, rfl, mn_r _ _, mx_r _ _⟩
    · obtain ⟨r, h1, h2⟩ := Z.b
      rw [zGet_put]
      split
      · rename_i hk
        refine ⟨_, rfl, ?_⟩
        rw [← hk, h1] at e
        have e : r = p := e
        subst e
        exact Int.le_trans (mn_l _ _) h2
      · exact ⟨r, h1, h2⟩
    · rw [zGet_put] at hk
      split at hk
      · rename_i hkk
        obtain rfl := Option.some.inj hk
        subst hkk
        refine ⟨?_, ?_⟩
        · rcases mn_or p.1 (o.ended.getD far) with h | h
          · show (mn p.1 (o.ended.getD far) = -1 ∧ _) ∨ mn p.1 (o.ended.getD far) = far ∨ ∃ q ∈ done ++ [o], q.zoned = true ∧ q.ver.getD 0 = o.ver.getD 0 ∧ q.ended.getD far = mn p.1 (o.ended.getD far)
            rw [h]
            rcases c1 with w | w | ⟨q, w1, w2⟩
            · exact .inl w
            · exact .inr (.inl w)
            · exact .inr (.inr ⟨q, List.mem_append.mpr (.inl w1), w2⟩)
          · exact .inr (.inr ⟨o, List.mem_append.mpr (.inr (List.mem_singleton.mpr rfl)), hz, rfl, h.symm⟩)
        · rcases mx_or p.2 o.begun with h | h
          · show mx p.2 o.begun = -1 ∨ ∃ q ∈ done ++ [o], q.zoned = true ∧ q.ver.getD 0 = o.ver.getD 0 ∧ q.begun = mx p.2 o.begun
            rw [h]
            rcases c2 with w | ⟨q, w1, w2⟩
            · exact .inl w
            · exact .inr ⟨q, List.mem_append.mpr (.inl w1), w2⟩
          · exact .inr ⟨o, List.mem_append.mpr (.inr (List.mem_singleton.mpr rfl)), hz, rfl, h.symm⟩
      · obtain ⟨d1, d2⟩ := Z.c k r hk
        refine ⟨?_, ?_⟩
        · rcases d1 with w | w | ⟨q, w1, w2⟩
          · exact .inl w
          · exact .inr (.inl w)
          · exact .inr (.inr ⟨q, List.mem_append.mpr (.inl w1), w2⟩)
        · rcases d2 with w | ⟨q, w1, w2⟩
          · exact .inl w
          · exact .inr ⟨q, List.mem_append.mpr (.inl w1), w2⟩
  · rename_i hz
    refine ⟨fun q hq hqz => ?_, Z.b, fun k r hk => ?_⟩
    · rcases List.mem_append.mp hq with hq | hq
      · exact Z.a q hq hqz
      · rw [List.mem_singleton.mp hq] at hqz
        exact absurd hqz hz
    · obtain ⟨d1, d2⟩ := Z.c k r hk
      refine ⟨?_, ?_⟩
      · rcases d1 with w | w | ⟨q, w1, w2⟩
        · exact .inl w
        · exact .inr (.inl w)
        · exact .inr (.inr ⟨q, List.mem_append.mpr (.inl w1), w2⟩)
      · rcases d2 with w | ⟨q, w1, w2⟩
        · exact .inl w
        · exact .inr ⟨q, List.mem_append.mpr (.inl w1), w2⟩
theorem ZI.fold {far : Int} : ∀ (l : List Op) {done : List Op} {z : Zn}, ZI far done z → ZI far (done ++ l) (l.foldl (zStep far) z)
  | [], done, z, Z => by rw [List.append_nil]; exact Z
  | o :: l, done, z, Z => by
    have := ZI.fold l (Z.step o)
    rw [List.append_assoc] at this
    exact this
theorem zn_zi (s : S) : ZI s.now s.ops s.zn := by
  have h : ZI s.now [] [(0, (-1, -1))] := by
    refine ⟨fun o ho => (by cases ho), ⟨(-1, -1), rfl, Int.le_refl _⟩, fun k p hk => ?_⟩
    have := zGet_mem hk
    rw [List.mem_singleton] at this
    obtain ⟨rfl, rfl⟩ := Prod.mk.injEq _ _ _ _ ▸ this
    exact ⟨.inl ⟨rfl, rfl⟩, .inl rfl⟩
  have := ZI.fold s.ops h
  rw [List.nil_append] at this
  exact this
theorem zn_nodup (s : S) : (s.zn.map (·.1)).Nodup := zFold_nodup _ _ (by simp)
theorem pairwise_any {α : Type} {R : α → α → Prop} (hs : ∀ a b, R a b → R b a) : ∀ {l : List α}, l.Pairwise R → ∀ a ∈ l, ∀ b ∈ l, a ≠ b → R a b
  | [], _ => fun a h => by cases h
  | x :: l, h => fun a ha b hb hne => by
    rw [List.pairwise_cons] at h
    rcases List.mem_cons.mp ha with rfl | ha2
    · rcases List.mem_cons.mp hb with rfl | hb2
      · exact absurd rfl hne
      · exact h.1 b hb2
    · rcases List.mem_cons.mp hb with rfl | hb2
      · exact hs _ _ (h.1 a ha2)
      · exact pairwise_any hs h.2 a ha2 b hb2 hne
theorem isLin_iff (s : S) : s.isLin = true ↔ ∀ k k' p p', zGet s.zn k = some p → zGet s.zn k' = some p' → k ≠ k' → zOk p p' = true := by
  unfold S.isLin
  rw [decide_eq_true_eq, List.pairwise_map]
  constructor
  · intro h k k' p p' h1 h2 hne
    exact pairwise_any (fun a b => zOk_symm) h (k, p) (zGet_mem h1) (k', p') (zGet_mem h2) fun e => hne (congrArg Prod.fst e)
  · intro h
    have hn := zn_nodup s
    have hn2 : s.zn.Pairwise fun a b => a.1 ≠ b.1 := List.pairwise_map.mp hn
    refine hn2.imp_of_mem fun {a b} ha hb hne => ?_
    exact h a.1 b.1 a.2 b.2 (mem_zGet hn ha) (mem_zGet hn hb) hne
theorem plain_over {s : S} {b c : Int} {o : Op} (K : OpOk s b c o) : o.plain.over = o.ended ∧ o.plain.wr = o.wr ∧ o.plain.ver = o.ver ∧ o.plain.begun = o.begun := by
  unfold Op.plain
  split
  · rename_i h
    exact ⟨(K.done (of_decide_eq_true h)).2.symm, rfl, rfl, rfl⟩
  · rename_i h
    exact ⟨(K.nend fun z => h (decide_eq_true z)).symm, rfl, rfl, rfl⟩
theorem mem_reads {s : S} {i : Nat} : i ∈ s.lReads ↔ ∃ o, s.ops[i]? = some o ∧ o.wr = false ∧ o.stage = .ended := by
  unfold S.lReads idxs
  rw [List.mem_filter, List.mem_range]
  unfold Op.endedOf
  rw [Bool.and_eq_true, decide_eq_true_eq, decide_eq_true_eq]
  constructor
  · rintro ⟨a, b, c⟩
    exact ⟨_, ops_at a, b, c⟩
  · rintro ⟨o, a, b, c⟩
    rw [at_get a]
    exact ⟨(List.getElem?_eq_some_iff.mp a).1, b, c⟩
theorem mem_writes {s : S} {i : Nat} : i ∈ s.lWrites ↔ ∃ o, s.ops[i]? = some o ∧ o.wr = true ∧ o.ver ≠ none ∧ (o.stage = .ended ∨ ∃ (j : Nat) (q : Op), s.ops[j]? = some q ∧ q.wr = false ∧ q.stage = .ended ∧ q.ver = o.ver) := by
  unfold S.lWrites
  rw [List.mem_filter]
  unfold idxs
  rw [List.mem_filter, List.mem_range, Bool.and_eq_true, decide_eq_true_eq, Bool.or_eq_true, decide_eq_true_eq, decide_eq_true_eq]
  constructor
  · rintro ⟨⟨a, b, c⟩, d⟩
    refine ⟨_, ops_at a, b, c, ?_⟩
    rcases d with d | d
    · exact .inl d
    · obtain ⟨j, hj, e⟩ := List.mem_map.mp d
      obtain ⟨q, h1, h2, h3⟩ := mem_reads.mp hj
      rw [at_get h1] at e
      exact .inr ⟨j, q, h1, h2, h3, e⟩
  · rintro ⟨o, a, b, c, d⟩
    rw [at_get a]
    refine ⟨⟨(List.getElem?_eq_some_iff.mp a).1, b, c⟩, ?_⟩
    rcases d with d | ⟨j, q, h1, h2, h3, e⟩
    · exact .inl d
    · exact .inr (List.mem_map.mpr ⟨j, mem_reads.mpr ⟨q, h1, h2, h3⟩, by rw [at_get h1]; exact e⟩)
structure IsD (s : S) (q : Dct) (o : Op) : Prop where
  ho : s.ops[q.2]? = some o
  wr : q.1.wr = o.wr
  ver : q.1.ver = o.ver
  begun : q.1.begun = o.begun
  over : q.1.over = o.ended
  zoned : o.zoned = true
  eq : q.1 = if o.wr then o.plain else o
theorem zoned_iff (o : Op) : o.zoned = true ↔ (o.wr = true ∧ o.ver ≠ none) ∨ (o.wr = false ∧ o.stage = .ended) := by
  unfold Op.zoned
  cases o.wr <;> simp
theorem mem_d {s : S} {b c : Int} (I : RInv b c s) {q : Dct} (h : q ∈ s.lDcts) : ∃ o, IsD s q o := by
  unfold S.lDcts at h
  rcases List.mem_append.mp h with h | h
  · obtain ⟨i, hi, rfl⟩ := List.mem_map.mp h
    obtain ⟨o, h1, h2, h3⟩ := mem_reads.mp hi
    rw [at_get h1]
    have K := I.op i o h1
    exact ⟨o, h1, rfl, rfl, rfl, (K.done h3).2.symm, (zoned_iff o).mpr (.inr ⟨h2, h3⟩), by rw [h2] <;> rfl⟩
  · obtain ⟨i, hi, rfl⟩ := List.mem_map.mp h
    obtain ⟨o, h1, h2, h3, _⟩ := mem_writes.mp hi
    rw [at_get h1]
    obtain ⟨a1, a2, a3, a4⟩ := plain_over (I.op i o h1)
    exact ⟨o, h1, a2, a3, a4, a1, (zoned_iff o).mpr (.inl ⟨h2, h3⟩), by rw [h2] <;> rfl⟩
theorem d_of {s : S} {b c : Int} (I : RInv b c s) {i : Nat} {o : Op} (h : s.ops[i]? = some o) (hz : o.zoned = true) (ht : o.stage = .ended ∨ ∃ (j : Nat) (q : Op), s.ops[j]? = some q ∧ q.wr = false ∧ q.stage = .ended ∧ q.ver = o.ver) : ∃ q ∈ s.lDcts, q.2 = i ∧ IsD s q o := by
  have key : ∃ q ∈ s.lDcts, q.2 = i := by
    unfold S.lDcts
    rcases (zoned_iff o).mp hz with ⟨h1, h2⟩ | ⟨h1, h2⟩
    · exact ⟨_, List.mem_append.mpr (.inr (List.mem_map.mpr ⟨i, mem_writes.mpr ⟨o, h, h1, h2, ht⟩, rfl⟩)), rfl⟩
    · exact ⟨_, List.mem_append.mpr (.inl (List.mem_map.mpr ⟨i, mem_reads.mpr ⟨o, h, h1, h2⟩, rfl⟩)), rfl⟩
  obtain ⟨q, hq, rfl⟩ := key
  obtain ⟨o', D⟩ := mem_d I hq
  have := D.ho
  rw [h] at this
  obtain rfl := Option.some.inj this
  exact ⟨q, hq, rfl, D⟩
theorem two_filt {α : Type} (p q : α → Bool) : ∀ l : List α, (∀ i ∈ l, ¬ (p i = true ∧ q i = true)) → (l.filter p).length + (l.filter q).length ≤ l.length
  | [], _ => Nat.le_refl _
  | x :: l, h => by
    have ih := two_filt p q l fun i hi => h i (List.mem_cons_of_mem _ hi)
    have hx := h x (List.mem_cons_self ..)
    rw [List.filter_cons, List.filter_cons, List.length_cons]
    cases hp : p x <;> cases hq : q x
    · simp; omega
    · simp; omega
    · simp; omega
    · exact absurd ⟨hp, hq⟩ hx
theorem dcts_len (s : S) : s.lDcts.length ≤ s.ops.length := by
  unfold S.lDcts
  rw [List.length_append, List.length_map, List.length_map]
  have h1 : s.lWrites.length ≤ (idxs s fun o => o.wr && decide (o.ver ≠ none)).length := List.length_filter_le _ _
  have h2 : (idxs s (Op.endedOf false)).length + (idxs s fun o => o.wr && decide (o.ver ≠ none)).length ≤ (List.range s.ops.length).length := two_filt _ _ _ fun i _ ⟨a, b⟩ => by
    unfold Op.endedOf at a
    have a := of_decide_eq_true (Bool.and_eq_true_iff.mp a).1
    have b := (Bool.and_eq_true_iff.mp b).1
    rw [a] at b
    cases b
  rw [List.length_range] at h2
  have h3 : s.lReads.length = (idxs s (Op.endedOf false)).length := rfl
  omega
theorem lDcts_uw {s : S} {b c : Int} (I : RInv b c s) : Uw s.lDcts := by
  refine ⟨?_, fun x hx y hy h1 h2 h3 => ?_⟩
  · have hnum : (s.lDcts.map (·.2)).Nodup := by
      unfold S.lDcts
      rw [List.map_append, List.map_map, List.map_map]
      have e1 : (List.map ((fun q : Dct => q.2) ∘ fun i => (s.at i, i)) s.lReads) = s.lReads := by
        rw [show ((fun q : Dct => q.2) ∘ fun i => (s.at i, i)) = id from rfl, List.map_id]
      have e2 : (List.map ((fun q : Dct => q.2) ∘ fun i => ((s.at i).plain, i)) s.lWrites) = s.lWrites := by
        rw [show ((fun q : Dct => q.2) ∘ fun i => ((s.at i).plain, i)) = id from rfl, List.map_id]
      rw [e1, e2, List.nodup_append]
      refine ⟨List.nodup_range.filter _, (List.nodup_range.filter _).filter _, fun i hi j hj e => ?_⟩
      subst e
      obtain ⟨o, a1, a2, _⟩ := mem_reads.mp hi
      obtain ⟨q, b1, b2, _⟩ := mem_writes.mp hj
      rw [a1] at b1
      obtain rfl := Option.some.inj b1
      rw [a2] at b2
      cases b2
    exact List.Pairwise.imp (fun {a b} h e => h (by rw [e])) (List.pairwise_map.mp hnum)
  · obtain ⟨o, D⟩ := mem_d I hx
    obtain ⟨q, E⟩ := mem_d I hy
    have hz := D.zoned
    have ow : o.wr = true := D.wr.symm.trans h1
    have qw : q.wr = true := E.wr.symm.trans h2
    obtain ⟨v, hv⟩ : ∃ v, o.ver = some v := by
      rcases (zoned_iff o).mp hz with ⟨_, h⟩ | ⟨h, _⟩
      · exact some_of h
      · rw [ow] at h
        cases h
    have hq : q.ver = some v := by rw [← E.ver, ← h3, D.ver]; exact hv
    have e := I.uniq x.2 y.2 o q v D.ho E.ho ow qw hv hq
    have h4 := D.ho
    rw [e, E.ho] at h4
    obtain rfl := Option.some.inj h4
    exact Prod.ext (by rw [D.eq, E.eq]) e
theorem d_ver {s : S} {b c : Int} (I : RInv b c s) {q : Dct} {o : Op} (D : IsD s q o) : ∃ v, o.ver = some v ∧ q.1.ver = some v ∧ o.ver.getD 0 = v ∧ 0 ≤ v ∧ (o.wr = true → 1 ≤ v) := by
  have K := I.op _ o D.ho
  obtain ⟨v, hv⟩ : ∃ v, o.ver = some v := by
    rcases (zoned_iff o).mp D.zoned with ⟨_, h⟩ | ⟨_, h⟩
    · exact some_of h
    · exact some_of (K.done h).1
  exact ⟨v, hv, D.ver.trans hv, by rw [hv] <;> rfl, (K.ver v hv).1, (K.ver v hv).2.2⟩
theorem lin_no {s : S} {c : Cfg} (h : Reach c s) (hL : s.isLin = true) {a b : Dct} {x y : Dct} (ha : a ∈ s.lDcts) (hb : b ∈ s.lDcts) (hx : x ∈ s.lDcts) (hy : y ∈ s.lDcts) (e1 : a.1.ver = y.1.ver) (e2 : b.1.ver = x.1.ver) (e3 : a.1.ver ≠ b.1.ver) (l1 : a.1.late b.1.begun = true) (l2 : x.1.late y.1.begun = true) : False := by
  have I := h.facts.inv
  have Z := zn_zi s
  obtain ⟨oa, Da⟩ := mem_d I ha
  obtain ⟨ob, Db⟩ := mem_d I hb
  obtain ⟨ox, Dx⟩ := mem_d I hx
  obtain ⟨oy, Dy⟩ := mem_d I hy
  obtain ⟨va, a1, a2, a3, _⟩ := d_ver I Da
  obtain ⟨vb, b1, b2, b3, _⟩ := d_ver I Db
  obtain ⟨vx, x1, x2, x3, _⟩ := d_ver I Dx
  obtain ⟨vy, y1, y2, y3, _⟩ := d_ver I Dy
  rw [a2, y2] at e1
  rw [b2, x2] at e2
  rw [a2, b2] at e3
  obtain rfl := Option.some.inj e1
  obtain rfl := Option.some.inj e2
  obtain ⟨p, p1, p2, p3⟩ := Z.a oa (List.mem_of_getElem? Da.ho) Da.zoned
  obtain ⟨q, q1, q2, q3⟩ := Z.a ob (List.mem_of_getElem? Db.ho) Db.zoned
  obtain ⟨p', p1', p2', p3'⟩ := Z.a oy (List.mem_of_getElem? Dy.ho) Dy.zoned
  obtain ⟨q', q1', q2', q3'⟩ := Z.a ox (List.mem_of_getElem? Dx.ho) Dx.zoned
  rw [a3] at p1
  rw [y3, p1] at p1'
  obtain rfl := Option.some.inj p1'
  rw [b3] at q1
  rw [x3, q1] at q1'
  obtain rfl := Option.some.inj q1'
  obtain ⟨m, m1, m2⟩ := late_iff.mp l1
  obtain ⟨n, n1, n2⟩ := late_iff.mp l2
  rw [Da.over] at m1
  rw [Db.begun] at m2
  rw [Dx.over] at n1
  rw [Dy.begun] at n2
  rw [m1] at p2
  rw [n1] at q2'
  have p2 : p.1 ≤ m := p2
  have q2' : q.1 ≤ n := q2'
  have := (isLin_iff s).mp hL _ _ _ _ p1 q1 (fun z => e3 (by rw [z]))
  unfold zOk at this
  rw [decide_eq_true (show p.1 < q.2 by omega), decide_eq_true (show q.1 < p.2 by omega)] at this
  cases this
theorem lin_no0 {s : S} {c : Cfg} (h : Reach c s) (hL : s.isLin = true) {x y : Dct} (hx : x ∈ s.lDcts) (hy : y ∈ s.lDcts) (e1 : x.1.ver ≠ some 0) (e2 : y.1.ver = some 0) : x.1.late y.1.begun = false := by
  cases l2 : x.1.late y.1.begun with
  | false => rfl
  | true =>
    have I := h.facts.inv
    have Z := zn_zi s
    obtain ⟨ox, Dx⟩ := mem_d I hx
    obtain ⟨oy, Dy⟩ := mem_d I hy
    obtain ⟨vx, x1, x2, x3, _⟩ := d_ver I Dx
    obtain ⟨vy, y1, y2, y3, _⟩ := d_ver I Dy
    rw [y2] at e2
    obtain rfl := Option.some.inj e2
    rw [x2] at e1
    obtain ⟨p, p1, p2⟩ := Z.b
    obtain ⟨p', p1', p2', p3'⟩ := Z.a oy (List.mem_of_getElem? Dy.ho) Dy.zoned
    obtain ⟨q, q1, q2, q3⟩ := Z.a ox (List.mem_of_getElem? Dx.ho) Dx.zoned
    rw [y3, p1] at p1'
    obtain rfl := Option.some.inj p1'
    rw [x3] at q1
    obtain ⟨n, n1, n2⟩ := late_iff.mp l2
    rw [Dx.over] at n1
    rw [Dy.begun] at n2
    rw [n1] at q2
    have q2 : q.1 ≤ n := q2
    have hb := (I.op _ ox Dx.ho).beg.1
    have := (isLin_iff s).mp hL _ _ _ _ p1 q1 (fun z => e1 (by rw [z]))
    unfold zOk at this
    rw [decide_eq_true (show p.1 < q.2 by omega), decide_eq_true (show q.1 < p.2 by omega)] at this
    cases this
theorem d_nw0 {s : S} {b c : Int} (I : RInv b c s) : NW s.lDcts (some 0) := fun w hw hwr hv => by
  obtain ⟨o, D⟩ := mem_d I hw
  obtain ⟨v, a1, a2, a3, a4, a5⟩ := d_ver I D
  rw [a2] at hv
  have := Option.some.inj hv
  have := a5 (D.wr.symm.trans hwr)
  omega
theorem free_of {s : S} {c : Cfg} (h : Reach c s) (hL : s.isLin = true) : Free s.lDcts (some 0) where
  u := lDcts_uw h.facts.inv
  nw := d_nw0 h.facts.inv
  src := fun r hr hrw hrv => by
    have I := h.facts.inv
    obtain ⟨o, D⟩ := mem_d I hr
    obtain ⟨v, a1, a2, a3, a4, a5⟩ := d_ver I D
    have ow : o.wr = false := D.wr.symm.trans hrw
    have hst : o.stage = .ended := by
      rcases (zoned_iff o).mp D.zoned with ⟨z, _⟩ | ⟨_, z⟩
      · rw [ow] at z
        cases z
      · exact z
    have hv1 : 1 ≤ v := by
      have : v ≠ 0 := fun z => hrv (by rw [a2, z])
      omega
    have K := I.op _ o D.ho
    have hng : o.going = false := by unfold Op.going; rw [hst] <;> rfl
    obtain ⟨m, hm⟩ := some_of (K.stp hng)
    obtain ⟨j, q, b1, b2, b3, b4⟩ := I.src _ o v m D.ho ow hst a1 hm hv1
    obtain ⟨w, w1, w2, E⟩ := d_of I b1 ((zoned_iff q).mpr (.inl ⟨b2, by rw [b3]; exact fun z => by cases z⟩)) (.inr ⟨_, o, D.ho, ow, hst, a1.trans b3.symm⟩)
    refine ⟨w, w1, E.wr.trans b2, by rw [E.ver, b3, a2], fun k hk => ?_⟩
    rw [D.over, (K.done hst).2, hm] at hk
    obtain rfl := Option.some.inj hk
    rw [E.begun]
    exact b4
  fst := fun x hx y hy e1 e2 => lin_no0 h hL hx hy e1 e2
  no := fun a ha b hb x hx y hy e1 e2 e3 l1 l2 => lin_no h hL ha hb hx hy e1 e2 e3 l1 l2
  ord := fun q hq m hm => by
    have I := h.facts.inv
    obtain ⟨o, D⟩ := mem_d I hq
    have K := I.op _ o D.ho
    rw [D.over] at hm
    rw [D.begun]
    have hst : o.stage = .ended := Classical.byContradiction fun z => by
      rw [K.nend z] at hm
      cases hm
    rw [(K.done hst).2] at hm
    exact (K.ovr m hm).1
theorem isLin_of {s : S} {c : Cfg} (h : Reach c s) (hL : Lin s.lDcts (some 0)) : s.isLin = true := by
  have I := h.facts.inv
  have Z := zn_zi s
  have U := lDcts_uw I
  have N := d_nw0 I
  have hn0 : 0 ≤ s.now := Int.natCast_nonneg _
  rw [isLin_iff]
  intro k k' p p' h1 h2 hne
  cases hz : zOk p p' with
  | true => rfl
  | false =>
    exfalso
    unfold zOk at hz
    have hz : (decide (p.1 < p'.2) && decide (p'.1 < p.2)) = true := by
      cases e : (decide (p.1 < p'.2) && decide (p'.1 < p.2)) with
      | true => rfl
      | false => rw [e] at hz; cases hz
    obtain ⟨z1, z2⟩ := Bool.and_eq_true_iff.mp hz
    have z1 := of_decide_eq_true z1
    have z2 := of_decide_eq_true z2
    obtain ⟨c1, c2⟩ := Z.c k p h1
    obtain ⟨d1, d2⟩ := Z.c k' p' h2
    have low : ∀ {k : Int} {p : Int × Int} {hi : Int}, ((p.1 = -1 ∧ k = 0) ∨ p.1 = s.now ∨ ∃ o ∈ s.ops, o.zoned = true ∧ o.ver.getD 0 = k ∧ o.ended.getD s.now = p.1) → p.1 < hi → hi < s.now → (p.1 = -1 ∧ k = 0) ∨ ∃ q ∈ s.lDcts, q.1.ver = some k ∧ (∃ o, IsD s q o ∧ o.stage = .ended) ∧ ∀ b, p.1 < b → q.1.late b = true := by
      intro k p hi hc l1 l2
      rcases hc with w | w | ⟨o, o1, o2, o3, o4⟩
      · exact .inl w
      · omega
      · obtain ⟨i, hi⟩ := List.mem_iff_getElem?.mp o1
        have K := I.op i o hi
        cases he : o.ended with
        | none =>
          rw [he] at o4
          have o4 : s.now = p.1 := o4
          omega
        | some m =>
          rw [he] at o4
          have o4 : m = p.1 := o4
          have hst : o.stage = .ended := Classical.byContradiction fun z => by
            rw [K.nend z] at he
            cases he
          obtain ⟨q, q1, q2, D⟩ := d_of I hi o2 (.inl hst)
          obtain ⟨v, a1, a2, a3, _⟩ := d_ver I D
          refine .inr ⟨q, q1, by rw [a2, ← a3, o3], ⟨o, D, hst⟩, fun b hb => late_iff.mpr ⟨m, by rw [D.over, he], by omega⟩⟩
    have high : ∀ {k : Int} {p : Int × Int}, (p.2 = -1 ∨ ∃ o ∈ s.ops, o.zoned = true ∧ o.ver.getD 0 = k ∧ o.begun = p.2) → -1 < p.2 → ∃ (i : Nat) (o : Op), s.ops[i]? = some o ∧ o.zoned = true ∧ o.ver = some k ∧ o.begun = p.2 := by
      intro k p hc l1
      rcases hc with w | ⟨o, o1, o2, o3, o4⟩
      · omega
      · obtain ⟨i, hi⟩ := List.mem_iff_getElem?.mp o1
        refine ⟨i, o, hi, o2, ?_, o4⟩
        have K := I.op i o hi
        obtain ⟨v, hv⟩ : ∃ v, o.ver = some v := by
          rcases (zoned_iff o).mp o2 with ⟨_, h⟩ | ⟨_, h⟩
          · exact some_of h
          · exact some_of (K.done h).1
        rw [hv] at o3 ⊢
        rw [show v = k from o3]
    have lowb : ∀ {k : Int} {p : Int × Int}, ((p.1 = -1 ∧ k = 0) ∨ p.1 = s.now ∨ ∃ o ∈ s.ops, o.zoned = true ∧ o.ver.getD 0 = k ∧ o.ended.getD s.now = p.1) → -1 ≤ p.1 := by
      intro k p hc
      rcases hc with ⟨w, _⟩ | w | ⟨o, o1, o2, o3, o4⟩
      · omega
      · omega
      · obtain ⟨i, hi⟩ := List.mem_iff_getElem?.mp o1
        have K := I.op i o hi
        cases he : o.ended with
        | none =>
          rw [he] at o4
          have o4 : s.now = p.1 := o4
          omega
        | some m =>
          rw [he] at o4
          have o4 : m = p.1 := o4
          have hst : o.stage = .ended := Classical.byContradiction fun z => by
            rw [K.nend z] at he
            cases he
          have h3 := (K.done hst).2
          rw [he] at h3
          have := (K.ovr m h3.symm).1
          have := K.beg.1
          omega
    have b1 := lowb c1
    have b2 := lowb d1
    obtain ⟨ib, ob, ob1, ob2, ob3, ob4⟩ := high d2 (by omega)
    obtain ⟨iy, oy, oy1, oy2, oy3, oy4⟩ := high c2 (by omega)
    have bb := (I.op _ ob ob1).beg.2
    have by' := (I.op _ oy oy1).beg.2
    have inD : ∀ {i : Nat} {o : Op} {k : Int} {q : Dct}, s.ops[i]? = some o → o.zoned = true → o.ver = some k → q.1.ver = some k → (∃ o', IsD s q o' ∧ o'.stage = .ended) → ∃ r ∈ s.lDcts, r.1.ver = some k ∧ r.1.begun = o.begun := by
      intro i o k q e1 e2 e3 e4 ⟨o', D, e5⟩
      have hv : o'.ver = some k := D.ver.symm.trans e4
      have ht : o.stage = .ended ∨ ∃ (j : Nat) (q : Op), s.ops[j]? = some q ∧ q.wr = false ∧ q.stage = .ended ∧ q.ver = o.ver := by
        cases ew : o'.wr with
        | false => exact .inr ⟨_, o', D.ho, ew, e5, hv.trans e3.symm⟩
        | true =>
          rcases (zoned_iff o).mp e2 with ⟨w1, _⟩ | ⟨_, w1⟩
          · have := I.uniq _ _ o o' k e1 D.ho w1 ew e3 hv
            subst this
            have h4 := D.ho
            rw [e1] at h4
            obtain rfl := Option.some.inj h4
            exact .inl e5
          · exact .inl w1
      obtain ⟨r, r1, r2, E⟩ := d_of I e1 e2 ht
      exact ⟨r, r1, E.ver.trans e3, E.begun⟩
    have neD : some k ≠ some k' := fun z => hne (Option.some.inj z)
    have endD : ∀ {i : Nat} {o : Op}, s.ops[i]? = some o → o.zoned = true → o.ver = some 0 → o.stage = .ended := by
      intro i o e1 e2 e3
      rcases (zoned_iff o).mp e2 with ⟨w1, _⟩ | ⟨_, w1⟩
      · have := ((I.op i o e1).ver 0 e3).2.2 w1
        omega
      · exact w1
    rcases low c1 z1 (by omega) with ⟨u1, u2⟩ | ⟨qa, qa1, qa2, qa3, qa4⟩
    · rcases low d1 z2 (by omega) with ⟨w1, w2⟩ | ⟨qx, qx1, qx2, qx3, qx4⟩
      · exact hne (u2.trans w2.symm)
      · subst u2
        obtain ⟨r, r1, r2, E⟩ := d_of I oy1 oy2 (.inl (endD oy1 oy2 oy3))
        have := lin_first hL U N qx qx1 r r1 (by rw [qx2]; exact fun z => neD z.symm) (E.ver.trans oy3)
        rw [E.begun, oy4, qx4 _ z2] at this
        cases this
    · rcases low d1 z2 (by omega) with ⟨w1, w2⟩ | ⟨qx, qx1, qx2, qx3, qx4⟩
      · subst w2
        obtain ⟨r, r1, r2, E⟩ := d_of I ob1 ob2 (.inl (endD ob1 ob2 ob3))
        have := lin_first hL U N qa qa1 r r1 (by rw [qa2]; exact neD) (E.ver.trans ob3)
        rw [E.begun, ob4, qa4 _ z1] at this
        cases this
      · obtain ⟨rb, rb1, rb2, rb3⟩ := inD ob1 ob2 ob3 qx2 qx3
        obtain ⟨ry, ry1, ry2, ry3⟩ := inD oy1 oy2 oy3 qa2 qa3
        exact lin_free hL U N qa qa1 rb rb1 qx qx1 ry ry1 (qa2.trans ry2.symm) (rb2.trans qx2.symm) (by rw [qa2, rb2]; exact neD) (by rw [rb3, ob4]; exact qa4 _ z1) (by rw [ry3, oy4]; exact qx4 _ z2)
theorem order_eq {s : S} {c : Cfg} (h : Reach c s) (hl : s.ops.length ≤ 18) : s.lOrder = s.isLin := by
  have hlen : s.lDcts.length ≤ 18 := Nat.le_trans (dcts_len s) hl
  unfold S.lOrder
  rw [Bool.eq_iff_iff, ordB_lin 18 _ _ hlen]
  exact ⟨isLin_of h, fun hL => lin_of_free 18 _ _ hlen (free_of h hL)⟩
theorem broken_eq {s : S} {c : Cfg} (h : Reach c s) (hl : s.ops.length ≤ 18) (p : Pr) : s.lBroken p = s.broken p := by
  by_cases hp : p = .linear
  · subst hp
    show (!s.lOrder) = !s.isLin
    rw [order_eq h hl]
  · exact br_eq h p hp
end K10
end
section
set_option Elab.async false
set_option linter.all false
set_option maxRecDepth 100000
set_option maxHeartbeats 1000000
namespace K10
open PySem PySem.Spec PyProof.Rows L2 Evl LamX
theorem can_word {s : S} {b c : Int} (I : RInv b c s) {w : Wd} {n : Nat} (h : Can s w n) : w.step = true := by
  rcases h with ⟨_, rfl | rfl⟩ | ⟨o, ho, hg, hn | rfl⟩
  · rfl
  · unfold S.first S.steps
    cases s.cfg.path <;> rfl
  · have K := I.op n o ho
    have hs := (going_iff o).mp hg
    unfold S.nextW at hn
    split at hn
    · split at hn
      · rw [← Option.some.inj hn] <;> rfl
      · cases hn
    · rename_i hw
      rw [← Option.some.inj hn]
      cases e : o.stage with
      | waits => exact absurd e hw
      | ended => exact absurd e hs.1
      | stopped => exact absurd e hs.2
      | _ => rfl
  · rfl
theorem can_num {s : S} {w : Wd} {n : Nat} (h : Can s w n) : n ≤ s.ops.length := by
  rcases h with ⟨rfl, _⟩ | ⟨o, ho, _⟩
  · exact Nat.le_refl _
  · exact Nat.le_of_lt (List.getElem?_eq_some_iff.mp ho).1
theorem evs_good {c : Cfg} {s : S} (h : Reach c s) (hl : s.past.length ≤ 50) {e : Evt} (he : e ∈ s.evs) : evSmall e ∧ GoodZ (evTxt e) (some (evEnc e)) := by
  have F := h.facts
  have := F.ops
  have hc := can_of (mem_evs.mp he)
  have sm : evSmall e := by
    cases e with
    | evict => exact True.intro
    | copy => exact True.intro
    | op w n =>
      have := can_num (show Can s w n from hc)
      show n < 64
      omega
  refine ⟨sm, ev_good sm fun w n e1 => ?_⟩
  subst e1
  exact can_word F.inv hc
theorem opEvs_len (s : S) : ∀ (l : List Op) (k : Nat), (s.opEvs k l).length ≤ 2 * l.length
  | [], _ => Nat.le_refl _
  | o :: r, k => by
    have ih := opEvs_len s r (k + 1)
    show ((if o.going then s.evsOf o k else []) ++ s.opEvs (k + 1) r).length ≤ _
    rw [List.length_append, List.length_cons]
    have := evsOf_len s o k
    split
    · omega
    · show 0 + _ ≤ _
      omega
theorem evs_len (s : S) : s.evs.length ≤ 2 * s.ops.length + 4 := by
  unfold S.evs
  rw [List.length_mergeSort]
  unfold S.evList
  have := opEvs_len s s.ops 0
  rw [List.length_append, List.length_append, List.length_append]
  have h1 : (if s.canEvict then [Evt.evict] else []).length ≤ 1 := by split <;> simp
  have h2 : (if s.canCopy then [Evt.copy] else []).length ≤ 1 := by split <;> simp
  have h3 : [Evt.op .look s.ops.length, Evt.op s.first s.ops.length].length = 2 := rfl
  omega
theorem ansOk_of {c : Cfg} {s : S} (h : Reach c s) (hl : s.past.length ≤ 50) : AnsOk s := by
  have F := h.facts
  have := F.ops
  have hdb := F.db
  have hnow : s.now = (s.past.length : Int) := rfl
  have hr := F.inv.rep
  refine ⟨by omega, waitOk_of F.inv, fun e he => ?_, ?_, fun v hv => ?_, by omega⟩
  · obtain ⟨a, b⟩ := evs_good h hl he
    exact ⟨a, b.len⟩
  · have := evs_len s
    omega
  · have := F.inv.cache v hv
    omega
theorem showOk_of {c : Cfg} {s : S} (h : Reach c s) (hl : s.past.length ≤ 18) : ShowOk s := by
  have F := h.facts
  have := F.ops
  exact ⟨by omega, by omega, waitOk_of F.inv, endedOk_of F.inv, aloneOk_of h (by omega) (look_mem s), aloneOk_of h (by omega) (first_mem s), ansOk_of h (by omega), broken_eq h (by omega)⟩
theorem undo_of {c : Cfg} {s : S} (h : Reach c s) (hp : s.past ≠ []) : Reach c s.undo ∧ s.undo.past = s.past.dropLast ∧ runOk (S.init s.cfg) s.past.dropLast ∧ lrunOk (S.init s.cfg) s.past.dropLast := by
  cases h with
  | init => exact absurd rfl hp
  | @step t e ht he =>
    have F := ht.facts
    have hcfg : (t.doEv e).cfg = c := (doEv_cfg t e).trans F.cfg
    have e1 : (t.doEv e).past.dropLast = t.past := by rw [doEv_past, List.dropLast_concat]
    have e2 : (t.doEv e).undo = t := by
      unfold S.undo
      rw [hcfg, e1]
      exact F.again
    rw [e2, e1, hcfg]
    exact ⟨ht, rfl, F.ok, F.lok⟩
def Mu (H : Hp) (b : Addr) : Prop := ∃ u, H b = some u ∧ ((∃ C d fs, u = .ins C d fs) ∨ (∃ xs, u = .lst xs) ∨ ∃ kvs, u = .dK kvs)
theorem Mu.not {H : Hp} {b : Addr} (m : Mu H b) : (∀ ys, H b ≠ some (.tup ys)) ∧ (∀ o ys, H b ≠ some (.frz o (.tup ys))) ∧ (∀ ps, H b ≠ some (.tbl ps)) ∧ ∀ f, H b ≠ some (.ext f) := by
  obtain ⟨u, e, h⟩ := m
  refine ⟨fun ys z => ?_, fun o ys z => ?_, fun ps z => ?_, fun f z => ?_⟩ <;> (rw [e] at z; obtain rfl := Option.some.inj z; rcases h with ⟨_, _, _, h⟩ | ⟨_, h⟩ | ⟨_, h⟩ <;> cases h)
theorem Mu.some {H : Hp} {b : Addr} (m : Mu H b) : ∃ u, H b = some u := by
  obtain ⟨u, e, _⟩ := m
  exact ⟨u, e⟩
theorem mu_ne {H : Hp} {b d : Addr} (m : Mu H b) (h : H d = none) : b ≠ d := fun z => by
  obtain ⟨u, e⟩ := m.some
  rw [z, h] at e
  cases e
section
variable {K : PySem.W.Frag} {H H' : Hp} {G G' : LLay} {L L' : Lay} {s s' : S} {a : Addr} {D D' : Dk} {T : List (Addr × Str)} {r sc da wa : Addr} {ns : List Int} {c : Cfg} {sd sl sd' sl' : S}
theorem RunAt.own_mu (R : RunAt K H L s) {b : Addr} (h : b ∈ L.own) : Mu H b := by
  rcases List.mem_cons.mp h with rfl | h
  · exact ⟨_, R.run, .inl ⟨_, _, _, rfl⟩⟩
  rcases List.mem_cons.mp h with rfl | h
  · exact ⟨_, R.ol, .inr (.inl ⟨_, rfl⟩)⟩
  rcases List.mem_cons.mp h with rfl | h
  · exact ⟨_, R.el, .inr (.inl ⟨_, rfl⟩)⟩
  obtain ⟨t, ht, rfl⟩ := List.mem_map.mp h
  obtain ⟨i, hi⟩ := List.mem_iff_getElem?.mp ht
  have hl := (List.getElem?_eq_some_iff.mp hi).1
  rw [R.len] at hl
  exact ⟨_, (R.op i t _ hi (List.getElem?_eq_getElem hl)).1, .inl ⟨_, _, _, rfl⟩⟩
theorem LawAt.own_mu (R : LawAt K H G s) {b : Addr} (h : b ∈ G.own) : Mu H b := by
  rcases List.mem_cons.mp h with rfl | h
  · exact ⟨_, R.h, .inr (.inr ⟨_, rfl⟩)⟩
  rcases List.mem_cons.mp h with rfl | h
  · exact ⟨_, R.ol, .inr (.inl ⟨_, rfl⟩)⟩
  rcases List.mem_cons.mp h with rfl | h
  · exact ⟨_, R.pl, .inr (.inl ⟨_, rfl⟩)⟩
  obtain ⟨i, hi⟩ := List.mem_iff_getElem?.mp h
  have hl := (List.getElem?_eq_some_iff.mp hi).1
  rw [R.len] at hl
  exact ⟨_, R.op i _ _ hi (List.getElem?_eq_getElem hl), .inr (.inr ⟨_, rfl⟩)⟩
theorem DeskAt.mu (R : DeskAt K H a D s) : Mu H a := ⟨_, R.ins, .inl ⟨_, _, _, rfl⟩⟩
theorem RowAt.mu (R : RowAt K H r sc ns) : Mu H r := by
  obtain ⟨x, y, z, h, _⟩ := R.row
  exact ⟨_, h, .inr (.inl ⟨_, rfl⟩)⟩
theorem DeskAt.frame (R : DeskAt K H a D s) {Ds : List Addr} (F : Fr Ds H H') (h1 : ∀ b ∈ Ds, b ≠ a ∧ b ∉ D.L.own) (h2 : ∀ b ∈ Ds, Mu H b) : DeskAt K H' a D s := by
  have t : ∀ b ∈ Ds, (∀ ys, H b ≠ some (.tup ys)) ∧ ∀ o ys, H b ≠ some (.frz o (.tup ys)) := fun b hb => ⟨(h2 b hb).not.1, (h2 b hb).not.2.1⟩
  exact ⟨F _ _ R.ins fun z => (h1 _ z).1 rfl, SqT.fr F R.des t, SqT.fr F R.wor t, R.run.frame F (fun b hb => (h1 b hb).2) (fun b hb => (t b hb).1), F _ _ R.dn fun z => (t _ z).1 _ R.dn, F _ _ R.br fun z => (t _ z).1 _ R.br, R.na⟩
theorem tabs_frame (t : Tabs T H) {Ds : List Addr} (F : Fr Ds H H') (h2 : ∀ b ∈ Ds, Mu H b) : Tabs T H' := fun p hp => by
  obtain ⟨ps, e1, e2, e3⟩ := t p hp
  refine ⟨ps, F _ _ e1 fun z => (h2 _ z).not.2.2.1 _ e1, e2, fun pos cv hc => ?_⟩
  obtain ⟨c, x1, x2⟩ := e3 pos cv hc
  exact ⟨c, x1, F _ _ x2 fun z => (h2 _ z).not.2.2.2 _ x2⟩
def ScOk (K : PySem.W.Frag) (H : Hp) (sc : Addr) (ns : List Int) (own : List Addr) : Prop := (∀ H', SqL K H' sc (ns.map V.int)) ∨ ((∃ u, H sc = some u) ∧ sc ∉ own)
structure LS (K : PySem.W.Frag) (T : List (Addr × Str)) (H : Hp) (r sc da wa a : Addr) (ns : List Int) (c : Cfg) (D : Dk) (G : LLay) (sd sl : S) : Prop where
  row : RowAt K H r sc ns
  des : SqT K H da (desV c)
  wor : SqT K H wa (worV c)
  desk : DeskAt K H a D sd
  law : LawAt K H G sl
  tabs : Tabs T H
  rD : r ≠ a ∧ r ∉ D.L.own
  rG : r ∉ G.own
  sS : ScOk K H sc ns (a :: (D.L.own ++ G.own))
  aG : a ∉ G.own
  DG : ∀ b ∈ D.L.own, b ∉ G.own
theorem RowAt.frS (R : RowAt K H r sc ns) {Ds : List Addr} (F : Fr Ds H H') (h1 : r ∉ Ds) (h2 : (∀ H', SqL K H' sc (ns.map V.int)) ∨ sc ∉ Ds) : RowAt K H' r sc ns := by
  rcases h2 with h2 | h2
  · obtain ⟨x, y, z, h3, h4⟩ := R.row
    exact ⟨⟨x, y, z, F _ _ h3 h1, h4⟩, h2 H', R.ne, R.len⟩
  · exact R.frame F h1 h2
theorem ScOk.next {own own' : List Addr} (h : ScOk K H sc ns own) (e : ∀ u, H sc = some u → H' sc = some u ∨ ∃ v, H' sc = some v) (g : ∀ b ∈ own', b ∈ own ∨ H b = none) : ScOk K H' sc ns own' := by
  rcases h with h | ⟨⟨u, hu⟩, hn⟩
  · exact .inl h
  · refine .inr ⟨?_, fun z => ?_⟩
    · rcases e u hu with x | x
      · exact ⟨u, x⟩
      · exact x
    · rcases g _ z with x | x
      · exact hn x
      · rw [hu] at x
        cases x
theorem LS.ex (h : LS K T H r sc da wa a ns c D G sd sl) (e : Ex H H') : LS K T H' r sc da wa a ns c D G sd sl :=
  ⟨h.row.mono e, ex_t e h.des, ex_t e h.wor, h.desk.mono e, h.law.mono e, h.tabs.ext e, h.rD, h.rG, h.sS.next (fun u hu => .inl (e _ _ hu)) (fun b hb => .inl hb), h.aG, h.DG⟩
theorem sqT_N {x : Addr} {xs : List V} (h : SqT K H x xs) (e : ExtN H H') : SqT K H' x xs := by
  rcases h with (h | ⟨o, h⟩) | h
  · exact .inl (.inl (e _ _ h fun ps z => by cases z))
  · exact .inl (.inr ⟨o, e _ _ h fun ps z => by cases z⟩)
  · exact .inr h
theorem sqL_N {x : Addr} {xs : List V} (h : SqL K H x xs) (e : ExtN H H') : SqL K H' x xs := by
  rcases h with (h | ⟨o, h⟩) | h
  · exact .inl (.inl (e _ _ h fun ps z => by cases z))
  · exact .inl (.inr ⟨o, e _ _ h fun ps z => by cases z⟩)
  · exact .inr h
theorem RunAt.extN (R : RunAt K H L s) (e : ExtN H H') : RunAt K H' L s :=
  ⟨e _ _ R.run fun ps z => (by cases z), e _ _ R.ol fun ps z => (by cases z), e _ _ R.el fun ps z => (by cases z), e _ _ R.st fun ps z => (by cases z), R.len, fun i t o h1 h2 => ⟨e _ _ (R.op i t o h1 h2).1 fun ps z => (by cases z), e _ _ (R.op i t o h1 h2).2 fun ps z => (by cases z)⟩, R.nd, Paired.mapP R.ev fun a b h => e _ _ h fun ps z => (by cases z), R.ne⟩
theorem LS.extN (h : LS K T H r sc da wa a ns c D G sd sl) (e : ExtN H H') (t : Tabs T H') : LS K T H' r sc da wa a ns c D G sd sl := by
  have R := h.law
  have Dk := h.desk
  obtain ⟨x, y, z, h3, h4⟩ := h.row.row
  refine ⟨⟨⟨x, y, z, e _ _ h3 fun ps z => (by cases z), h4⟩, sqL_N h.row.scl e, h.row.ne, h.row.len⟩, sqT_N h.des e, sqT_N h.wor e, ?_, ?_, t, h.rD, h.rG, ?_, h.aG, h.DG⟩
  · exact ⟨e _ _ Dk.ins fun ps z => (by cases z), sqT_N Dk.des e, sqT_N Dk.wor e, Dk.run.extN e, e _ _ Dk.dn fun ps z => (by cases z), e _ _ Dk.br fun ps z => (by cases z), Dk.na⟩
  · exact ⟨e _ _ R.h fun ps z => (by cases z), sqT_N R.des e, sqT_N R.wor e, e _ _ R.ol fun ps z => (by cases z), e _ _ R.pl fun ps z => (by cases z), R.len, fun i a o h1 h2 => e _ _ (R.op i a o h1 h2) fun ps z => (by cases z), R.nd, Paired.mapP R.ev fun x y h => e _ _ h fun ps z => (by cases z), R.ne, R.nh⟩
  · rcases h.sS with q | ⟨⟨u, hu⟩, hn⟩
    · exact .inl q
    · rcases h.row.scl with (q | ⟨o, q⟩) | q
      · exact .inr ⟨⟨_, e _ _ q fun ps z => (by cases z)⟩, hn⟩
      · exact .inr ⟨⟨_, e _ _ q fun ps z => (by cases z)⟩, hn⟩
      · exact .inl fun H' => .inr q
theorem LS.frow (h : LS K T H r sc da wa a ns c D G sd sl) (F : Fr [r] H H') (R : RowAt K H' r sc ns) : LS K T H' r sc da wa a ns c D G sd sl := by
  have m : ∀ b ∈ [r], Mu H b := fun b hb => by rw [List.mem_singleton.mp hb]; exact h.row.mu
  have t : ∀ b ∈ [r], (∀ ys, H b ≠ some (.tup ys)) ∧ ∀ o ys, H b ≠ some (.frz o (.tup ys)) := fun b hb => ⟨(m b hb).not.1, (m b hb).not.2.1⟩
  refine ⟨R, SqT.fr F h.des t, SqT.fr F h.wor t, h.desk.frame F (fun b hb => ?_) m, h.law.frame F (fun b hb => ?_) t, tabs_frame h.tabs F m, h.rD, h.rG, (h.row.ne.elim (fun n => h.sS.next (fun u hu => .inl (F _ _ hu (by simpa using n))) (fun b hb => .inl hb)) fun f => .inl f), h.aG, h.DG⟩
  · rw [List.mem_singleton.mp hb]
    exact h.rD
  · rw [List.mem_singleton.mp hb]
    exact h.rG
theorem mem3 {x : Addr} {l m : List Addr} : x ∈ a :: (l ++ m) ↔ x = a ∨ x ∈ l ∨ x ∈ m := by rw [List.mem_cons, List.mem_append]
theorem LS.dev (h : LS K T H r sc da wa a ns c D G sd sl) (R : DeskAt K H' a D' sd') (g : Grow D.L D'.L H) (F : Fr (a :: D.L.own) H H') : LS K T H' r sc da wa a ns c D' G sd' sl := by
  have m : ∀ b ∈ a :: D.L.own, Mu H b := fun b hb => by
    rcases List.mem_cons.mp hb with rfl | hb
    · exact h.desk.mu
    · exact h.desk.run.own_mu hb
  have t : ∀ b ∈ a :: D.L.own, (∀ ys, H b ≠ some (.tup ys)) ∧ ∀ o ys, H b ≠ some (.frz o (.tup ys)) := fun b hb => ⟨(m b hb).not.1, (m b hb).not.2.1⟩
  have nr : r ∉ a :: D.L.own := fun z => by
    rcases List.mem_cons.mp z with z | z
    · exact h.rD.1 z
    · exact h.rD.2 z
  have ns' : (∀ H', SqL K H' sc (ns.map V.int)) ∨ ((∃ u, H sc = some u) ∧ sc ∉ a :: D.L.own) := by
    rcases h.sS with q | ⟨q, n⟩
    · exact .inl q
    · exact .inr ⟨q, fun z => n (mem3.mpr (by
        rcases List.mem_cons.mp z with z | z
        · exact .inl z
        · exact .inr (.inl z)))⟩
  refine ⟨h.row.frS F nr (ns'.imp_right fun z => z.2), SqT.fr F h.des t, SqT.fr F h.wor t, R, h.law.frame F (fun b hb => ?_) t, tabs_frame h.tabs F m, ⟨h.rD.1, fun z => ?_⟩, h.rG, ?_, h.aG, fun b hb z => ?_⟩
  · rcases List.mem_cons.mp hb with rfl | hb
    · exact h.aG
    · exact h.DG b hb
  · rcases g.own _ z with z | z
    · exact h.rD.2 z
    · exact mu_ne h.row.mu z rfl
  · rcases h.sS with q | ⟨⟨u, hu⟩, n⟩
    · exact .inl q
    · rcases ns' with q | ⟨_, n2⟩
      · exact .inl q
      · refine .inr ⟨⟨u, F _ _ hu n2⟩, fun z => n (mem3.mpr ?_)⟩
        rcases mem3.mp z with z | z | z
        · exact .inl z
        · rcases g.own _ z with z | z
          · exact .inr (.inl z)
          · rw [hu] at z
            cases z
        · exact .inr (.inr z)
  · rcases g.own _ hb with y | y
    · exact h.DG b y z
    · exact mu_ne (h.law.own_mu z) y rfl
theorem LS.dundo (h : LS K T H r sc da wa a ns c D G sd sl) (R : DeskAt K H' a D' sd') (g : ∀ b ∈ D'.L.own, H b = none) (F : Fr [a] H H') : LS K T H' r sc da wa a ns c D' G sd' sl := by
  have m : ∀ b ∈ [a], Mu H b := fun b hb => by rw [List.mem_singleton.mp hb]; exact h.desk.mu
  have t : ∀ b ∈ [a], (∀ ys, H b ≠ some (.tup ys)) ∧ ∀ o ys, H b ≠ some (.frz o (.tup ys)) := fun b hb => ⟨(m b hb).not.1, (m b hb).not.2.1⟩
  refine ⟨h.row.frS F (by simpa using h.rD.1) ?_, SqT.fr F h.des t, SqT.fr F h.wor t, R, h.law.frame F (fun b hb => ?_) t, tabs_frame h.tabs F m, ⟨h.rD.1, fun z => mu_ne h.row.mu (g _ z) rfl⟩, h.rG, ?_, h.aG, fun b hb z => mu_ne (h.law.own_mu z) (g b hb) rfl⟩
  · rcases h.sS with q | ⟨q, n⟩
    · exact .inl q
    · exact .inr fun z => n (mem3.mpr (.inl (List.mem_singleton.mp z)))
  · rw [List.mem_singleton.mp hb]
    exact h.aG
  · rcases h.sS with q | ⟨⟨u, hu⟩, n⟩
    · exact .inl q
    · refine .inr ⟨⟨u, F _ _ hu fun z => n (mem3.mpr (.inl (List.mem_singleton.mp z)))⟩, fun z => ?_⟩
      rcases mem3.mp z with z | z | z
      · exact n (mem3.mpr (.inl z))
      · have := g _ z
        rw [hu] at this
        cases this
      · exact n (mem3.mpr (.inr (.inr z)))
theorem LS.lev (h : LS K T H r sc da wa a ns c D G sd sl) (R : LawAt K H' G' sl') (g : GrowL G G' H) (F : Fr G.own H H') : LS K T H' r sc da wa a ns c D G' sd sl' := by
  have m : ∀ b ∈ G.own, Mu H b := fun b hb => h.law.own_mu hb
  have t : ∀ b ∈ G.own, (∀ ys, H b ≠ some (.tup ys)) ∧ ∀ o ys, H b ≠ some (.frz o (.tup ys)) := fun b hb => ⟨(m b hb).not.1, (m b hb).not.2.1⟩
  refine ⟨h.row.frS F h.rG ?_, SqT.fr F h.des t, SqT.fr F h.wor t, h.desk.frame F (fun b hb => ⟨fun z => h.aG (z ▸ hb), fun z => h.DG b z hb⟩) m, R, tabs_frame h.tabs F m, h.rD, fun z => ?_, ?_, fun z => ?_, fun b hb z => ?_⟩
  · rcases h.sS with q | ⟨q, n⟩
    · exact .inl q
    · exact .inr fun z => n (mem3.mpr (.inr (.inr z)))
  · rcases g.own _ z with z | z
    · exact h.rG z
    · exact mu_ne h.row.mu z rfl
  · rcases h.sS with q | ⟨⟨u, hu⟩, n⟩
    · exact .inl q
    · refine .inr ⟨⟨u, F _ _ hu fun z => n (mem3.mpr (.inr (.inr z)))⟩, fun z => ?_⟩
      rcases mem3.mp z with z | z | z
      · exact n (mem3.mpr (.inl z))
      · exact n (mem3.mpr (.inr (.inl z)))
      · rcases g.own _ z with z | z
        · exact n (mem3.mpr (.inr (.inr z)))
        · rw [hu] at z
          cases z
  · rcases g.own _ z with z | z
    · exact h.aG z
    · exact mu_ne h.desk.mu z rfl
  · rcases g.own _ z with z | z
    · exact h.DG b hb z
    · exact mu_ne (h.desk.run.own_mu hb) z rfl
theorem LS.lnew (h : LS K T H r sc da wa a ns c D G sd sl) (R : LawAt K H' G' sl') (g : ∀ b ∈ G'.own, H b = none) (e : Ex H H') : LS K T H' r sc da wa a ns c D G' sd sl' := by
  have h' := h.ex e
  refine ⟨h'.row, h'.des, h'.wor, h'.desk, R, h'.tabs, h.rD, fun z => mu_ne h.row.mu (g _ z) rfl, ?_, fun z => mu_ne h.desk.mu (g _ z) rfl, fun b hb z => mu_ne (h.desk.run.own_mu hb) (g b z) rfl⟩
  rcases h.sS with q | ⟨⟨u, hu⟩, n⟩
  · exact .inl q
  · refine .inr ⟨⟨u, e _ _ hu⟩, fun z => ?_⟩
    rcases mem3.mp z with z | z | z
    · exact n (mem3.mpr (.inl z))
    · exact n (mem3.mpr (.inr (.inl z)))
    · have := g _ z
      rw [hu] at this
      cases this
end
end K10
end
section
set_option Elab.async false
set_option linter.all false
set_option maxRecDepth 100000
set_option maxHeartbeats 1000000
namespace K10
open PySem PySem.Spec PyProof.Rows L2 Evl LamX
def lawQ : Str := ("law" ++ ".<locals>.") ++ "<lambda>"
def lawTab (K : PySem.W.Frag) : Addr := (He.cT K ("law", none)).2
abbrev lamT (K : PySem.W.Frag) : List (Addr × Str) := [(lawTab K, lawQ)]
abbrev tW (K : PySem.W.Frag) (t : XK → TE) : TE := tLam (lamT K) (TWord K) t
abbrev tUndoW (K : PySem.W.Frag) : TE := tW K fun E => tMeth (He.ga K "Desk") "undo" (spUndo K) [] E (tVar 5) tNil
abbrev tRunW (K : PySem.W.Frag) (te : TE) : TE := tW K fun E => tMeth (He.ga K "Desk") "run" (spRun K) [] E (tVar 5) (tCons te tNil)
abbrev tPickL (K : PySem.W.Frag) (tl : TE) : TE := tCall (spPick K) [] E0 (tCons (tVar 1) (tCons tl tNil))
abbrev tLineW (K : PySem.W.Frag) : TE := tCall (spEvTxt K) [] E0 (tCons (tVar 9) tNil)
abbrev tIfNe (tw : TE) (z : Str) : TS := tIfS (tTest (tOp rNe tw (tC (.str z)))) (tRet (tC (.bl false))) tNext
def lstBad : TE := tLst (tCons (tC (V.str "")) (tCons (tC (V.str "hum")) (tCons (tC (V.str "look")) (tCons (tC (V.str "look 00")) (tCons (tC (V.str "look -1")) (tCons (tC (V.str "evict 1")) (tCons (tC (V.str "events ")) (tCons (tC (V.str "fetch  0")) (tCons (tC (V.str "look 100")) (tCons (tC (V.str "jump 0")) tNil))))))))))
def lstText : TE := tLst (tCons (tC V.non) (tCons (tC (V.int 5)) (tCons (tLst (tCons (tC (V.str "look 0")) tNil)) (tCons (tTup (tCons (tC (V.str "look")) (tCons (tC (V.int 0)) tNil))) tNil))))
section
variable {K : PySem.W.Frag} {H H' : Hp} {G : LLay} {s : S} {a : Addr} {D : Dk} {r sc da wa : Addr} {ns : List Int} {c : Cfg} {sd sl : S} {σ : L2.St} {Q : VK} {En : Ends}
def VW (tw : TE) (z : Str) (σ : L2.St) (H : Hp) (P : Hp → Prop) : Prop := ∀ Q : VK, (∀ H', P H' → Q (.str z) H') → tw σ H Q
theorem vw_ne {tw : TE} {z : Str} {P : Hp → Prop} {Qb : Bool → Hp → Prop} (h : VW tw z σ H P) (k : ∀ H', P H' → Qb false H') : tTest (tOp rNe tw (tC (.str z))) σ H Qb :=
  h _ fun H' p => ⟨rfl, false, by rw [decide_eq_true rfl] <;> rfl, k H' p⟩
theorem s_ifNe {tw : TE} {z : Str} {P : Hp → Prop} (h : VW tw z σ H P) (k : ∀ H', P H' → En.nx σ H') : tIfNe tw z En σ H :=
  vw_ne h fun H' p => by
    rw [if_neg Bool.false_ne_true]
    exact k H' p
theorem vw_lam {t : XK → TE} {z : Str} {P : Hp → Prop} (h : LS K (lamT K) H r sc da wa a ns c D G sd sl) (k : ∀ H1, LS K (lamT K) H1 r sc da wa a ns c D G sd sl → ∀ Q : VK, (∀ H', P H' → Q (.str z) H') → t (ExW K Q) σ H1 fun _ H' => Q (.str "") H') : VW (tW K t) z σ H P := fun Q q =>
  ⟨h.tabs, fun H1 eN t1 => k H1 (h.extN eN t1) Q q⟩
theorem exw {Q : VK} {H1 : Hp} (x : Ex4) {d : Option Addr} (h1 : x = .invalid → ∃ dd, d = some dd ∧ H1 dd = some (.xd [("line", .int 1)])) (h2 : x ≠ .invalid → d = none) (k : ∀ H'', Ex H1 H'' → Q (.str x.word) H'') : ExW K Q (.ref (He.ga K x.nm)) d H1 := ⟨x, rfl, h1, h2, k⟩
theorem vw_undo (h : LS K (lamT K) H r sc da wa a ns c D G sd sl) (hp : sd.past = []) (hσ : σ[5]? = some (some (.ref a))) : VW (tUndoW K) "undo" σ H fun H' => LS K (lamT K) H' r sc da wa a ns c D G sd sl :=
  vw_lam h fun H1 h1 Q q => ⟨.ref a, hσ, a, _, _, rfl, h1.desk.ins, rfl, a, D, sd, rfl, h1.desk, by rw [hp]; exact Nat.zero_le _, .inl ⟨hp, fun H2 e2 => exw .undo (fun z => by cases z) (fun _ => rfl) fun H3 e3 => q H3 (h1.ex (e2.trans e3))⟩⟩
theorem vw_bad (h : LS K (lamT K) H r sc da wa a ns c D G sd sl) (hr : Reach c sd) (hl : sd.past.length ≤ 50) (hσ : σ[5]? = some (some (.ref a))) (hσ1 : σ[1]? = some (some (.ref r))) : VW (tRunW K (tPickL K lstBad)) "invalid" σ H fun H' => LS K (lamT K) H' r sc da wa a ns c D G sd sl :=
  vw_lam h fun H1 h1 Q q => ⟨.ref a, hσ, a, _, _, rfl, h1.desk.ins, rfl, by
    refine x_pick (xs := badL.map V.str) h1.row (ev_var hσ1) (el_lst (ea_cons ev_c (ea_cons ev_c (ea_cons ev_c (ea_cons ev_c (ea_cons ev_c (ea_cons ev_c (ea_cons ev_c (ea_cons ev_c (ea_cons ev_c (ea_cons ev_c ea_nil)))))))))) (by show 10 ≤ 100000; decide)) (by show 0 < 10; decide) (by show 10 < 100000; decide) fun j v H2 hv R2 F2 => ?_
    have h2 := h1.frow F2 R2
    obtain ⟨z, hz, rfl⟩ := List.mem_map.mp (List.mem_of_getElem? hv)
    exact ⟨a, D, sd, h2.desk, ansOk_of hr hl, hl, .inr (.inr (.inl ⟨z, rfl, goodZ_ok (bad_good z hz), fun d H3 e3 nd hd => exw .invalid (fun _ => ⟨d, rfl, hd⟩) (fun z => absurd rfl z) fun H4 e4 => q H4 (h2.ex (e3.trans e4))⟩))⟩⟩
theorem vw_text (h : LS K (lamT K) H r sc da wa a ns c D G sd sl) (hr : Reach c sd) (hl : sd.past.length ≤ 50) (hσ : σ[5]? = some (some (.ref a))) (hσ1 : σ[1]? = some (some (.ref r))) : VW (tRunW K (tPickL K lstText)) "text" σ H fun H' => LS K (lamT K) H' r sc da wa a ns c D G sd sl :=
  vw_lam h fun H1 h1 Q q => ⟨.ref a, hσ, a, _, _, rfl, h1.desk.ins, rfl, .ref r, hσ1, by show 1 ≤ sizeLine; decide, fun l nl => ⟨by show 2 ≤ sizeLine; decide, fun t nt => ⟨by show 4 ≤ sizeLine; decide, fun p np => by
    have e1 := Ex.new (o := HO.lst [V.str "look 0"]) nl
    have e2 := Ex.new (o := HO.tup [V.str "look", V.int 0]) nt
    have e3 := Ex.new (o := HO.lst [V.non, V.int 5, V.ref l, V.ref t]) np
    have e13 := e1.trans (e2.trans e3)
    have h3 := h1.ex e13
    have hlst := (e2.trans e3) l _ upd_same
    have htup := e3 t _ upd_same
    have npr : p ≠ r := fun z => by
      obtain ⟨u, hu⟩ := (h1.ex (e1.trans e2)).row.mu.some
      rw [z, hu] at np
      cases np
    have nlr : l ≠ r := fun z => by
      obtain ⟨u, hu⟩ := h1.row.mu.some
      rw [z, hu] at nl
      cases nl
    refine ⟨r, sc, p, ns, [V.non, V.int 5, V.ref l, V.ref t], rfl, h3.row, sq_of upd_same, npr, by show 0 < 4; decide, by show 4 < 100000; decide, fun j v H4 hv R4 F4 => ?_⟩
    have h4 := h3.frow F4 R4
    have fin : ∀ (x : V) (ty : Value), (∀ H5, Ex H4 H5 → TyX K H5 x ty) → PySem.W.kitOne K ty (.type "str") = some false → spRun K (.ref a :: ([x] ++ [])) H4 (fun _ H' => Q (.str "") H') (ExW K Q) := fun x ty hty hk =>
      ⟨a, D, sd, h4.desk, ansOk_of hr hl, hl, .inl ⟨x, ty, rfl, hty, hk, fun H5 e5 => exw .text (fun z => by cases z) (fun _ => rfl) fun H6 e6 => q H6 (h4.ex (e5.trans e6))⟩⟩
    have hl4 : H4 l = some (.lst [V.str "look 0"]) := F4 l _ hlst (by simpa using nlr)
    have ht4 : H4 t = some (.tup [V.str "look", V.int 0]) := F4 t _ htup (by
      have : t ≠ r := fun z => by
        obtain ⟨u, hu⟩ := (h1.ex e1).row.mu.some
        rw [z, hu] at nt
        cases nt
      simpa using this)
    match j, hv with
    | 0, hv =>
      cases hv
      exact fin _ _ (fun H5 e5 => .base .non) rfl
    | 1, hv =>
      cases hv
      exact fin _ _ (fun H5 e5 => .base (.int 5)) rfl
    | 2, hv =>
      cases hv
      exact fin _ _ (fun H5 e5 => .base (.lst (e5 _ _ hl4))) rfl
    | 3, hv =>
      cases hv
      exact fin _ _ (fun H5 e5 => .base (.tup (e5 _ _ ht4))) rfl⟩⟩⟩
theorem vw_now (h : LS K (lamT K) H r sc da wa a ns c D G sd sl) (hr : Reach c sd) (hl : sd.past.length ≤ 50) (hσ : σ[5]? = some (some (.ref a))) {p : Addr} {e : Evt} (hσ9 : σ[9]? = some (some (.ref p))) (hp : H p = some (.tup (evEnc e))) (hs : evSmall e) (hg : GoodZ (evTxt e) (some (evEnc e))) (hn : e ∉ sd.evs) :
    VW (tRunW K (tLineW K)) "now" σ H fun H' => LS K (lamT K) H' r sc da wa a ns c D G sd sl := fun Q q => by
  refine ⟨h.tabs, fun H1 eN t1 => ?_⟩
  have h1 := h.extN eN t1
  refine ⟨.ref a, hσ, a, _, _, rfl, h1.desk.ins, rfl, ?_⟩
  refine ⟨.ref p, hσ9, p, e, rfl, st_of (eN _ _ hp fun ps z => by cases z), hs, fun H2 e2 => ?_⟩
  have h2 := h1.ex e2
  exact ⟨a, D, sd, h2.desk, ansOk_of hr hl, hl, .inr (.inr (.inr (.inl ⟨e, rfl, hg, hn, fun H3 e3 => exw .now (fun z => by cases z) (fun _ => rfl) fun H4 e4 => q H4 (h2.ex (e3.trans e4))⟩)))⟩
end
end K10
end
section
set_option Elab.async false
set_option linter.all false
set_option maxRecDepth 100000
set_option maxHeartbeats 1000000
namespace K10
open PySem PySem.Spec PyProof.Rows L2 Evl LamX
def oddL : List Evt := [.op .fetch 0, .op .fill 1, .op .take 0, .op .set 0, .op .look 60, .op .stop 0, .evict, .copy]
abbrev tPairE (w : Str) (n : Int) : TE := tTup (tCons (tC (V.str w)) (tCons (tC (V.int n)) tNil))
def lstOdd : TE := tLst (tCons (tPairE "fetch" 0) (tCons (tPairE "fill" 1) (tCons (tPairE "take" 0) (tCons (tPairE "set" 0) (tCons (tPairE "look" 60) (tCons (tPairE "stop" 0) (tCons (tTup (tCons (tC (V.str "evict")) tNil)) (tCons (tTup (tCons (tC (V.str "copy")) tNil)) tNil))))))))
abbrev tEvsL (K : PySem.W.Frag) : TE := tCall (spLEvents K) [] E0 (tCons (tVar 6) tNil)
def tBackS (K : PySem.W.Frag) : TS := tSeq (tDrop (tMeth (He.ga K "Desk") "undo" (spUndo K) [] E0 (tVar 5) tNil)) (tAsg (tCall (spLRun K) [] E0 (tCons (tVar 3) (tCons (tVar 4) (tCons (tSl (rSlL K) (tDGet (tVar 6) (tC (V.str "past"))) tNoPart (tPart (tUn (rU fun i => V.int (-i)) (tC (V.int 1))))) tNil)))) (gName 6))
def tDoS (K : PySem.W.Frag) : TS := tSeq (tIfS (tB (tNotN (tMeth (He.ga K "Desk") "run" (spRun K) [] E0 (tVar 5) (tCons (tLineW K) tNil)))) (tRet (tC (.bl false))) tNext) (tDrop (tCall (spLDo K) [] E0 (tCons (tVar 6) (tCons (tVar 9) tNil))))
def tEventS (K : PySem.W.Frag) : TS := tSeq (tAsg lstOdd (gName 8)) (tSeq (tAsg (tPickL K (tOp rCat (tOp rRep (tEvsL K) (tC (V.int 3))) (tVar 8))) (gName 9))
  (tIfS (tTest (tOp (rNotInD K) (tVar 9) (tEvsL K))) (tIfNe (tRunW K (tLineW K)) "now") (tDoS K)))
def tTurn (K : PySem.W.Frag) : TS := tSeq (tAsg (tCall (spTaken K) [] E0 (tCons (tVar 1) (tCons (tC (V.int 8)) tNil))) (gName 7))
  (tIfS (tTest (tOp rEq (tVar 7) (tC (V.int 0)))) (tIfNe (tRunW K (tPickL K lstBad)) "invalid")
  (tIfS (tTest (tOp rEq (tVar 7) (tC (V.int 1)))) (tIfNe (tRunW K (tPickL K lstText)) "text")
  (tIfS (tAnd (tTest (tOp rEq (tVar 7) (tC (V.int 2)))) (tTest (tOp (rNeN K) (tDGet (tVar 6) (tC (V.str "past"))) (tLst tNil)))) (tBackS K) (tEventS K))))
section
variable {K : PySem.W.Frag} {H H' : Hp} {G : LLay} {s : S} {a : Addr} {D : Dk} {r sc da wa : Addr} {ns : List Int} {c : Cfg} {sd sl : S} {σ : L2.St} {Q : VK} {En : Ends} {x2 x7 x8 x9 : Option V} {k : Nat}
abbrev slots (sc r da wa a h : Addr) (x2 x7 x8 x9 : Option V) : L2.St := [some (.ref sc), some (.ref r), x2, some (.ref da), some (.ref wa), some (.ref a), some (.ref h), x7, x8, x9]
def LI (K : PySem.W.Frag) (r sc da wa a : Addr) (ns : List Int) (c : Cfg) (k : Nat) (σ : L2.St) (H : Hp) : Prop := ∃ (D : Dk) (G : LLay) (s : S) (x2 x7 x8 x9 : Option V), σ = slots sc r da wa a G.h x2 x7 x8 x9 ∧ LS K (lamT K) H r sc da wa a ns c D G s s ∧ Reach c s ∧ s.past.length ≤ k
theorem s_back (h : LS K (lamT K) H r sc da wa a ns c D G s s) (hr : Reach c s) (hl : s.past.length ≤ k) (hk : k ≤ 13) (hp : s.past ≠ []) (kk : ∀ σ' H', LI K r sc da wa a ns c (k + 1) σ' H' → En.nx σ' H') : tBackS K En (slots sc r da wa a G.h x2 x7 x8 x9) H := by
  obtain ⟨u1, u2, u3, u4⟩ := undo_of hr hp
  have F := hr.facts
  have hlu : s.undo.past.length ≤ 60 := by rw [u2, List.length_dropLast]; omega
  refine ⟨.ref a, rfl, a, _, _, rfl, h.desk.ins, rfl, a, D, s, rfl, h.desk, by omega, .inr ⟨hp, u3, checkOk_of u1 hlu, fun D' H1 R1 _ _ _ g1 F1 => ?_⟩⟩
  have h1 := h.dundo R1 g1 F1
  refine ⟨.ref da, rfl, .ref wa, rfl, el_sl (xs := G.es.map V.ref) (ev_sF h1.law (ev_var rfl)) eo_none (eo_some (ev_un ev_c ru_neg)) (sq_of h1.law.pl) H1 (Ex.refl H1) _ fun p H2 np e2 hp2 => ?_⟩
  rw [cut_last, ← List.map_dropLast] at hp2
  have h2 := h1.ex e2
  refine ⟨da, wa, p, c, G.es.dropLast, s.past.dropLast, rfl, h2.des, h2.wor, sq_of hp2, paired_dropLast h2.law.ev, by rw [List.length_dropLast]; omega, by rw [← F.cfg]; exact u4, ?_⟩
  intro G' H3 R3 g3 e3
  have hu : (S.init c).run s.past.dropLast = s.undo := by unfold S.undo; rw [F.cfg]
  rw [hu] at R3
  exact kk _ _ ⟨D', G', s.undo, x2, x7, x8, x9, rfl, h2.lnew R3 g3 e3, u1, by rw [u2, List.length_dropLast]; omega⟩
theorem odd_good {e : Evt} (h : e ∈ oddL) : evSmall e ∧ GoodZ (evTxt e) (some (evEnc e)) := by
  have key : ∀ e ∈ oddL, evSmall e ∧ ∀ w n, e = .op w n → w.step = true := by
    intro e he
    simp only [oddL, List.mem_cons, List.not_mem_nil, or_false] at he
    rcases he with rfl | rfl | rfl | rfl | rfl | rfl | rfl | rfl
    · exact ⟨(by decide : 0 < 64), fun w n z => by cases z; rfl⟩
    · exact ⟨(by decide : 1 < 64), fun w n z => by cases z; rfl⟩
    · exact ⟨(by decide : 0 < 64), fun w n z => by cases z; rfl⟩
    · exact ⟨(by decide : 0 < 64), fun w n z => by cases z; rfl⟩
    · exact ⟨(by decide : 60 < 64), fun w n z => by cases z; rfl⟩
    · exact ⟨(by decide : 0 < 64), fun w n z => by cases z; rfl⟩
    · exact ⟨True.intro, fun w n z => by cases z⟩
    · exact ⟨True.intro, fun w n z => by cases z⟩
  obtain ⟨a, b⟩ := key e h
  exact ⟨a, ev_good a b⟩
theorem el_odd {H : Hp} {σ : L2.St} : ELE lstOdd σ H oddL := by
  have pr : ∀ {H : Hp} {σ : L2.St} {w : Wd} {n : Nat}, EvU (tPairE w.str (n : Int)) σ H (evEnc (.op w n)) := fun {H σ w n} => eu_tup (ea_cons ev_c (ea_cons ev_c ea_nil)) (by show 2 ≤ 100000; decide)
  refine ele_lst (eae_cons (pr (w := .fetch) (n := 0)) (eae_cons (pr (w := .fill) (n := 1)) (eae_cons (pr (w := .take) (n := 0)) (eae_cons (pr (w := .set) (n := 0)) (eae_cons (pr (w := .look) (n := 60)) (eae_cons (pr (w := .stop) (n := 0)) (eae_cons (eu_tup (ea_cons ev_c ea_nil) (by show 1 ≤ 100000; decide)) (eae_cons (eu_tup (ea_cons ev_c ea_nil) (by show 1 ≤ 100000; decide)) eae_nil)))))))) (by show 8 ≤ 100000; decide)
theorem flat_mem {xs : List V} {n : Nat} {v : V} (h : v ∈ (List.replicate n xs).flatten) : v ∈ xs := by
  obtain ⟨l, hl, hv⟩ := List.mem_flatten.mp h
  rw [(List.mem_replicate.mp hl).2] at hv
  exact hv
theorem s_lawdo (h : LS K (lamT K) H r sc da wa a ns c D G s s) (hr : Reach c s) (hl : s.past.length ≤ k) (hk : k ≤ 13) {q : Addr} {e : Evt} (hq : H q = some (.tup (evEnc e))) (he : e ∈ s.evs) (kk : ∀ σ' H', LI K r sc da wa a ns c (k + 1) σ' H' → En.nx σ' H') : tDoS K En (slots sc r da wa a G.h x2 x7 x8 (some (.ref q))) H := by
  obtain ⟨g1, g2⟩ := evs_good hr (by omega) he
  have F := hr.facts
  have hm := mem_evs.mp he
  have hr2 := hr.step hm
  have ok := ev_ok F.inv (can_of hm)
  have hops := F.ops
  have hlen : (s.doEv e).past.length ≤ k + 1 := by rw [doEv_past, List.length_append]; show s.past.length + 1 ≤ _; omega
  refine ⟨.ref a, rfl, a, _, _, rfl, h.desk.ins, rfl, .ref q, rfl, q, e, rfl, st_of hq, g1, fun H1 e1 => ?_⟩
  have h1 := h.ex e1
  refine ⟨a, D, s, h1.desk, ansOk_of hr (by omega), by omega, .inr (.inr (.inr (.inr ⟨e, rfl, g2, he, ok.1, checkOk_of hr2 (by omega), fun D' H2 R2 _ _ _ g2 F2 => ?_⟩)))⟩
  have h2 := h1.dev R2 g2 F2
  refine ⟨false, by rw [decide_eq_true rfl] <;> rfl, ?_⟩
  have hif : ∀ {A B : Prop}, B → if (false : Bool) = true then A else B := fun {A B} b => by rw [if_neg Bool.false_ne_true]; exact b
  refine hif ?_
  have hq2 : H2 q = some (.tup (evEnc e)) := F2 q _ (e1 _ _ hq) fun z => by
    have m : Mu H1 q := by
      rcases List.mem_cons.mp z with rfl | z
      · exact h1.desk.mu
      · exact h1.desk.run.own_mu z
    exact m.not.1 _ (e1 _ _ hq)
  show tDrop (tCall (spLDo K) [] E0 (tCons (tVar 6) (tCons (tVar 9) tNil))) En (slots sc r da wa a G.h x2 x7 x8 (some (.ref q))) H2
  refine ⟨.ref G.h, rfl, .ref q, rfl, G, s, q, e, rfl, h2.law, hq2, by omega, by omega, ok.2, fun G' H3 R3 g3 F3 => ?_⟩
  have h3 := h2.lev R3 g3 F3
  exact kk _ _ ⟨D', G', s.doEv e, x2, x7, x8, some (.ref q), by rw [g3.h], h3, hr2, hlen⟩
theorem s_event (h : LS K (lamT K) H r sc da wa a ns c D G s s) (hr : Reach c s) (hl : s.past.length ≤ k) (hk : k ≤ 13) (kk : ∀ σ' H', LI K r sc da wa a ns c (k + 1) σ' H' → En.nx σ' H') : tEventS K En (slots sc r da wa a G.h x2 x7 x8 x9) H := by
  have F := hr.facts
  have hops := F.ops
  refine q_asgE el_odd fun q8 H1 n8 e1 h8 => ?_
  have h1 := h.ex e1
  show tSeq _ _ En (slots sc r da wa a G.h x2 x7 (some (.ref q8)) x9) H1
  refine ⟨.ref r, rfl, .ref G.h, rfl, G, s, rfl, h1.law, by omega, waitOk_of F.inv, fun p H2 np e2 hp => ?_⟩
  have h2 := h1.ex e2
  obtain ⟨bs, b1, b2, b3⟩ := hp
  obtain ⟨cs, c1, c2, c3⟩ := h8.mono e2
  have hbl : bs.length ≤ 60 := by
    have := evs_len s
    rw [← b1, List.length_map] at this
    omega
  have hcl : cs.length = 8 := by
    have := congrArg List.length c1
    rw [List.length_map] at this
    exact this
  refine ⟨p, 3, _, rfl, rfl, b2, by decide, by decide, by rw [List.length_map]; show bs.length * 3 ≤ sizeLine; exact Nat.le_trans (by omega : bs.length * 3 ≤ 1000) (by decide), fun p2 np2 => ?_⟩
  have e3 := Ex.new (o := HO.lst (List.replicate (3 : Int).toNat (bs.map fun b => V.ref b.2)).flatten) np2
  have hfl : (List.replicate (3 : Int).toNat (bs.map fun b => V.ref b.2)).flatten.length ≤ 1000 := by
    have e : (List.replicate (3 : Int).toNat (bs.map fun b => V.ref b.2)).flatten = (bs.map fun b => V.ref b.2) ++ ((bs.map fun b => V.ref b.2) ++ ((bs.map fun b => V.ref b.2) ++ [])) := rfl
    rw [e]
    simp only [List.length_append, List.length_map, List.length_nil]
    omega
  refine ⟨.ref q8, rfl, p2, q8, _, _, rfl, rfl, upd_same, e3 _ _ c2, by rw [List.length_map, hcl]; exact Nat.le_trans (by omega : _ ≤ 2000) (by decide), fun p3 np3 => ?_⟩
  have e4 := Ex.new (o := HO.lst ((List.replicate (3 : Int).toNat (bs.map fun b => V.ref b.2)).flatten ++ cs.map fun b => V.ref b.2)) np3
  have h4 := h2.ex (e3.trans e4)
  have npr : p3 ≠ r := fun z => by
    obtain ⟨u, hu⟩ := (h2.ex e3).row.mu.some
    rw [z, hu] at np3
    cases np3
  refine ⟨r, sc, p3, ns, _, rfl, h4.row, sq_of upd_same, npr, by rw [List.length_append, List.length_map, hcl]; omega, by rw [List.length_append, List.length_map, hcl]; omega, fun j v H5 hv R5 F5 => ?_⟩
  have h5 := h4.frow F5 R5
  have mr : ∀ q xs, H5 = H5 → upd (upd H2 p2 (.lst (List.replicate (3 : Int).toNat (bs.map fun b => V.ref b.2)).flatten)) p3 (.lst ((List.replicate (3 : Int).toNat (bs.map fun b => V.ref b.2)).flatten ++ cs.map fun b => V.ref b.2)) q = some (.tup xs) → H5 q = some (.tup xs) := fun q xs _ hq => F5 q _ hq fun z => by
    rw [List.mem_singleton.mp z] at hq
    exact h4.row.mu.not.1 _ hq
  obtain ⟨q, e, rfl, hq, hee⟩ : ∃ q e, v = .ref q ∧ H5 q = some (.tup (evEnc e)) ∧ (e ∈ s.evs ∨ e ∈ oddL) := by
    rcases List.mem_append.mp (List.mem_of_getElem? hv) with z | z
    · obtain ⟨b, hb, rfl⟩ := List.mem_map.mp (flat_mem z)
      exact ⟨b.2, b.1, rfl, mr _ _ rfl ((e3.trans e4) _ _ (b3 b hb)), .inl (by rw [← b1]; exact List.mem_map.mpr ⟨b, hb, rfl⟩)⟩
    · obtain ⟨b, hb, rfl⟩ := List.mem_map.mp z
      exact ⟨b.2, b.1, rfl, mr _ _ rfl ((e3.trans e4) _ _ (c3 b hb)), .inr (by rw [← c1]; exact List.mem_map.mpr ⟨b, hb, rfl⟩)⟩
  have hgood : evSmall e ∧ GoodZ (evTxt e) (some (evEnc e)) := by
    rcases hee with z | z
    · exact evs_good hr (by omega) z
    · exact odd_good z
  show tIfS (tTest (tOp (rNotInD K) (tVar 9) (tEvsL K))) (tIfNe (tRunW K (tLineW K)) "now") (tDoS K) En (slots sc r da wa a G.h x2 x7 (some (.ref q8)) (some (.ref q))) H5
  refine s_if (b := !decide (e ∈ s.evs)) (et_test (ev_niE (ev_var rfl) (st_of hq) fun H6 e6 Q' q' => ⟨.ref G.h, rfl, G, s, rfl, (h5.ex e6).law, by omega, waitOk_of F.inv, fun p6 H7 n7 e7 h7 => q' p6 H7 n7 e7 h7⟩)) (fun hb H6 e6 => ?_) (fun hb H6 e6 => ?_)
  · have hn : e ∉ s.evs := fun z => by
      rw [decide_eq_true z] at hb
      cases hb
    exact s_ifNe (vw_now (h5.ex e6) hr (by omega) rfl rfl (e6 _ _ hq) hgood.1 hgood.2 hn) fun H7 h7 => kk _ _ ⟨D, G, s, _, _, _, _, rfl, h7, hr, by omega⟩
  · have hm : e ∈ s.evs := Classical.byContradiction fun z => by
      rw [decide_eq_false z] at hb
      cases hb
    exact s_lawdo (h5.ex e6) hr hl hk (e6 _ _ hq) hm kk
theorem s_turn (h : LI K r sc da wa a ns c k σ H) (hk : k ≤ 13) (kk : ∀ σ' H', LI K r sc da wa a ns c (k + 1) σ' H' → En.nx σ' H') : tTurn K En σ H := by
  obtain ⟨D, G, s, x2, x7, x8, x9, rfl, h, hr, hl⟩ := h
  have F := hr.facts
  refine ⟨.ref r, rfl, r, sc, ns, 8, rfl, h.row, by decide, by decide, fun v H1 v0 v8 R1 F1 => ?_⟩
  have h1 := h.frow F1 R1
  show (tIfS (tTest (tOp rEq (tVar 7) (tC (V.int 0)))) (tIfNe (tRunW K (tPickL K lstBad)) "invalid")
    (tIfS (tTest (tOp rEq (tVar 7) (tC (V.int 1)))) (tIfNe (tRunW K (tPickL K lstText)) "text")
    (tIfS (tAnd (tTest (tOp rEq (tVar 7) (tC (V.int 2)))) (tTest (tOp (rNeN K) (tDGet (tVar 6) (tC (V.str "past"))) (tLst tNil)))) (tBackS K) (tEventS K)))) En (slots sc r da wa a G.h x2 (some (.int v)) x8 x9) H1
  have is : ∀ (i : Int) (H2 : Hp), EvT (tTest (tOp rEq (tVar 7) (tC (V.int i)))) (slots sc r da wa a G.h x2 (some (.int v)) x8 x9) H2 (decide (V.int v = V.int i)) := fun i H2 => et_test (ev_op (ev_var rfl) ev_c (rv_eq rfl))
  have same : ∀ H2, LS K (lamT K) H2 r sc da wa a ns c D G s s → En.nx (slots sc r da wa a G.h x2 (some (.int v)) x8 x9) H2 := fun H2 h2 => kk _ _ ⟨D, G, s, _, _, _, _, rfl, h2, hr, by omega⟩
  refine s_if (is 0 H1) (fun _ H2 e2 => s_ifNe (vw_bad (h1.ex e2) hr (by omega) rfl rfl) same) fun _ H2 e2 => ?_
  refine s_if (is 1 H2) (fun _ H3 e3 => s_ifNe (vw_text (h1.ex (e2.trans e3)) hr (by omega) rfl rfl) same) fun _ H3 e3 => ?_
  have h3 := h1.ex (e2.trans e3)
  have hpl : (G.es.map V.ref).isEmpty = s.past.isEmpty := by
    rw [List.isEmpty_map]
    have := paired_len h3.law.ev
    cases hp : s.past with
    | nil =>
      rw [hp] at this
      rw [List.eq_nil_of_length_eq_zero this] <;> rfl
    | cons x t =>
      rw [hp] at this
      cases he : G.es with
      | nil =>
        rw [he] at this
        cases this
      | cons y u => rfl
  refine s_if (et_and (b := !s.past.isEmpty) (is 2 H3) fun _ => et_test (ev_opL (x := .ref G.pl) (ev_sF h3.law (ev_var rfl)) (el_lst ea_nil (by show 0 ≤ 100000; decide)) fun q H5 hq e5 H6 e6 Q' q' => ⟨G.pl, q, G.es.map V.ref, rfl, rfl, sq_of ((e5.trans e6) _ _ h3.law.pl), sq_of (e6 _ _ hq), by rw [hpl]; exact q' _ (Ex.refl _)⟩)) (fun hb H4 e4 => ?_) (fun _ H4 e4 => s_event (h3.ex e4) hr hl hk kk)
  have hp : s.past ≠ [] := fun z => by
    rw [z, Bool.and_eq_true] at hb
    cases hb.2
  exact s_back (h3.ex e4) hr hl hk hp kk
end
end K10
end
section
set_option Elab.async false
set_option linter.all false
set_option maxRecDepth 100000
set_option maxHeartbeats 1000000
namespace K10
open PySem PySem.Spec PyProof.Rows L2 Evl LamX
abbrev tShownL (K : PySem.W.Frag) : TE := tCall (spLShown K) [] E0 (tCons (tVar 5) (tCons (tVar 6) tNil))
def tLaw (K : PySem.W.Frag) : TS :=
  tSeq (tAsg (tLst (tCons (tVar 0) (tCons (tC (V.int 0)) (tCons (tC (V.int 15557)) (tCons (tC (V.int 0)) tNil))))) (gName 1))
  (tSeq (tPar 3 4 (tCons (tCall (spDesign K) [] E0 (tCons (tVar 1) tNil)) (tCons (tCall (spWorld K) [] E0 (tCons (tVar 1) tNil)) tNil)))
  (tSeq (tAsg (tTup (tCons (tMake (He.ga K "Desk") (spDeskInit K) [] E0 (tCons (tVar 3) (tCons (tVar 4) tNil))) (tCons (tCall (spLBegin K) [] E0 (tCons (tVar 3) (tCons (tVar 4) tNil))) tNil))) (gTup K 2 (gCons (gName 5) (gCons (gName 6) gNil))))
  (tSeq (tIfS (tOr (tTest (tOp rNe (tUndoW K) (tC (V.str "undo")))) (tNot (tB (tShownL K)))) (tRet (tC (V.bl false))) tNext)
  (tSeq (tFor (iRng1 (tCons (tCall (spTaken K) [] E0 (tCons (tVar 1) (tCons (tC (V.int 13)) tNil))) tNil)) (gName 2) (tTurn K))
  (tRet (tShownL K))))))
section
variable {K : PySem.W.Frag} {H H' : Hp} {G : LLay} {s : S} {a : Addr} {D : Dk} {r sc da wa : Addr} {ns : List Int} {c : Cfg} {Q : VK} {En : Ends} {x2 x7 x8 x9 : Option V} {k : Nat}
theorem ev_shown (h : LS K (lamT K) H r sc da wa a ns c D G s s) (hr : Reach c s) (hl : s.past.length ≤ 18) : Ev (tShownL K) (slots sc r da wa a G.h x2 x7 x8 x9) H (.bl true) :=
  ev_call (vs := [.ref a, .ref G.h]) (dvs := []) (ea_cons (ev_var rfl) (ea_cons (ev_var rfl) ea_nil)) fun H1 e1 Q' q' E' => ⟨a, D, G, s, rfl, h.desk.mono e1, h.law.mono e1, showOk_of hr hl, q'⟩
theorem desV_c (c : Cfg) (x y z : Bool) : desV { c with repl := x, evic := y, stops := z } = desV c := rfl
theorem s_main (hsc : SqL K H sc (ns.map V.int)) (hlen : ns.length ≤ 63) (htab : H (lawTab K) = some (.tbl #[])) (kk : ∀ H', En.rt (.bl true) H') : tLaw K En [some (.ref sc), none, none, none, none, none, none, none, none, none] H := by
  refine q_asgL (xs := [.ref sc, .int 0, .int 15557, .int 0]) (el_lst (ea_cons (ev_var rfl) (ea_cons ev_c (ea_cons ev_c (ea_cons ev_c ea_nil)))) (by show 4 ≤ 100000; decide)) fun r H1 nr e1 hr1 => ?_
  have scN : sc ≠ r ∨ ∀ H' : Hp, SqL K H' sc (ns.map V.int) := by
    rcases hsc with (q | ⟨o, q⟩) | q
    · exact .inl (ne_of_none q nr)
    · exact .inl (ne_of_none q nr)
    · exact .inr fun H' => .inr q
  have scS : ∀ {H2 : Hp} {own : List Addr}, Fr [r] H H2 → (∀ b ∈ own, H b = none) → ScOk K H2 sc ns own := fun {H2 own} F g => by
    rcases hsc with (q | ⟨o, q⟩) | q
    · exact .inr ⟨⟨_, F _ _ q (by simpa using ne_of_none q nr)⟩, fun z => by
        have := g _ z
        rw [q] at this
        cases this⟩
    · exact .inr ⟨⟨_, F _ _ q (by simpa using ne_of_none q nr)⟩, fun z => by
        have := g _ z
        rw [q] at this
        cases this⟩
    · exact .inl fun H' => .inr q
  have R1 : RowAt K H1 r sc ns := ⟨⟨0, 15557, 0, hr1, Int.le_refl _⟩, ex_l e1 hsc, scN, hlen⟩
  have ntab : lawTab K ≠ r := ne_of_none htab nr
  show tSeq (tPar 3 4 _) _ En [some (.ref sc), some (.ref r), none, none, none, none, none, none, none, none] H1
  refine ⟨.ref r, rfl, r, sc, ns, rfl, R1, fun da c0 H2 nda hda R2 F2 => ?_⟩
  refine ⟨.ref r, rfl, r, sc, ns, rfl, R2, fun wa b1 b2 b3 H3 nwa hwa R3 F3 => ?_⟩
  refine ⟨.ref da, .ref wa, rfl, ?_⟩
  have hif : ∀ {A B : Prop}, B → if (false : Bool) = true then A else B := fun {A B} b => by rw [if_neg Bool.false_ne_true]; exact b
  generalize hc : ({ c0 with repl := b1, evic := b2, stops := b3 } : Cfg) = c
  have ed : desV c0 = desV c := by rw [← hc] <;> rfl
  have ew : [V.str (srcS b1), V.str (eviS b2), V.str (stoS b3)] = worV c := by rw [← hc] <;> rfl
  rw [ed] at hda
  rw [ew] at hwa
  have F13 : Fr [r] H1 H3 := F2.trans F3
  have F03 : Fr [r] H H3 := (Fr.of e1).trans F13
  have hda3 : H3 da = some (.tup (desV c)) := F3 _ _ hda fun z => by
    rw [List.mem_singleton.mp z] at hda
    exact R2.mu.not.1 _ hda
  have htab3 : H3 (lawTab K) = some (.tbl #[]) := F03 _ _ htab (by simpa using ntab)
  have hs3 : (∀ H', SqL K H' sc (ns.map V.int)) ∨ ∃ u, H3 sc = some u := (scS (own := []) F03 (fun b hb => by cases hb)).imp_right fun z => z.1
  show tSeq (tAsg (tTup (tCons (tMake (He.ga K "Desk") (spDeskInit K) [] E0 (tCons (tVar 3) (tCons (tVar 4) tNil))) (tCons (tCall (spLBegin K) [] E0 (tCons (tVar 3) (tCons (tVar 4) tNil))) tNil))) (gTup K 2 (gCons (gName 5) (gCons (gName 6) gNil)))) _ En [some (.ref sc), some (.ref r), none, some (.ref da), some (.ref wa), none, none, none, none, none] H3
  refine ⟨.ref da, rfl, .ref wa, rfl, fun a dx na nd ne => ?_⟩
  have e34a : Ex H3 (upd H3 dx (.own a)) := Ex.new nd
  have na' : upd H3 dx (.own a) a = none := by rw [upd_ne ne.symm]; exact na
  have e34 : Ex H3 (upd (upd H3 dx (.own a)) a (.ins (He.ga K "Desk") dx [])) := e34a.trans (Ex.new na')
  have ha4 : upd (upd H3 dx (.own a)) a (.ins (He.ga K "Desk") dx []) a = some (.ins (He.ga K "Desk") dx []) := upd_same
  generalize upd (upd H3 dx (.own a)) a (.ins (He.ga K "Desk") dx []) = H4 at e34 ha4
  have hr0 : Reach c (S.init c) := .init
  refine ⟨a, dx, da, wa, c, rfl, ha4, st_of (e34 _ _ hda3), st_of (e34 _ _ hwa), checkOk_of hr0 (Nat.zero_le _), fun D H5 R5 _ _ _ own5 F5 => ⟨rfl, ?_⟩⟩
  have keep5 : ∀ {b : Addr} {u : HO}, H3 b = some u → H5 b = some u := fun {b u} h => F5 _ _ (e34 _ _ h) (by simpa using ne_of_none h na)
  refine ⟨.ref da, rfl, .ref wa, rfl, da, wa, c, rfl, st_of (keep5 hda3), st_of (keep5 hwa), fun G H6 R6 own6 e6 => ?_⟩
  refine ⟨by show 2 ≤ sizeLine; decide, fun p np => ⟨p, _, rfl, st_of upd_same, rfl, .ref a, _, rfl, .ref G.h, _, rfl, rfl, ?_⟩⟩
  have e67 : Ex H6 (upd H6 p (.tup [.ref a, .ref G.h])) := Ex.new np
  generalize upd H6 p (.tup [.ref a, .ref G.h]) = H7 at e67
  have e57 := e6.trans e67
  have R3' := R3.mono e34
  obtain ⟨ur, hur⟩ := R3.mu.some
  have r5 : ∃ u, H5 r = some u := ⟨ur, keep5 hur⟩
  have LS7 : LS K (lamT K) H7 r sc da wa a ns c D G (S.init c) (S.init c) := by
    refine ⟨?_, st_of (e57 _ _ (keep5 hda3)), st_of (e57 _ _ (keep5 hwa)), R5.mono e57, R6.mono e67, fun q hq => ?_, ⟨ne_of_none hur na, fun z => ?_⟩, fun z => ?_, ?_, fun z => ?_, fun b hb z => ?_⟩
    · exact (R3'.frS F5 (by simpa using ne_of_none hur na) (hs3.imp_right fun ⟨u, hu⟩ => by simpa using ne_of_none hu na)).mono e57
    · rw [List.mem_singleton.mp hq]
      exact TabS.nil (e57 _ _ (keep5 htab3))
    · have := own5 _ z
      rw [e34 _ _ hur] at this
      cases this
    · have := own6 _ z
      rw [keep5 hur] at this
      cases this
    · rcases hs3 with f | ⟨u, hu⟩
      · exact .inl f
      · refine .inr ⟨⟨u, e57 _ _ (keep5 hu)⟩, fun z => ?_⟩
        rcases mem3.mp z with z | z | z
        · exact ne_of_none hu na z
        · have := own5 _ z
          rw [e34 _ _ hu] at this
          cases this
        · have := own6 _ z
          rw [keep5 hu] at this
          cases this
    · exact mu_ne R5.mu (own6 _ z) rfl
    · exact mu_ne (R5.run.own_mu hb) (own6 _ z) rfl
  show tSeq (tIfS (tOr (tTest (tOp rNe (tUndoW K) (tC (V.str "undo")))) (tNot (tB (tShownL K)))) (tRet (tC (V.bl false))) tNext) _ En (slots sc r da wa a G.h none none none none) H7
  refine vw_ne (vw_undo LS7 rfl rfl) fun H8 h8 => hif ?_
  refine et_not (et_B (ev_shown h8 hr0 (Nat.zero_le _))) H8 (Ex.refl H8) _ fun H9 e9 => hif ?_
  have h9 := h8.ex e9
  show tSeq (tFor (iRng1 (tCons (tCall (spTaken K) [] E0 (tCons (tVar 1) (tCons (tC (V.int 13)) tNil))) tNil)) (gName 2) (tTurn K)) (tRet (tShownL K)) En (slots sc r da wa a G.h none none none none) H9
  refine ⟨.ref r, rfl, r, sc, ns, 13, rfl, h9.row, by decide, by decide, fun v HA v0 v13 RA FA => ?_⟩
  refine ⟨v, rfl, by omega, by omega, for_range (lo := 0) (n := v.toNat) (fun i σ H => LI K r sc da wa a ns c i σ H) ⟨D, G, _, _, _, _, _, rfl, h9.frow FA RA, hr0, Nat.zero_le _⟩ (fun i σ' H' hi p => ?_) (fun σ' H' p => ?_)⟩
  · obtain ⟨D', G', s', y2, y7, y8, y9, rfl, hls, hrs, hps⟩ := p
    exact s_turn (k := i) ⟨D', G', s', _, y7, y8, y9, rfl, hls, hrs, hps⟩ (by omega) fun σ2 H2 z => z
  · obtain ⟨D', G', s', y2, y7, y8, y9, rfl, hls, hrs, hps⟩ := p
    exact s_ret (ev_shown hls hrs (by omega)) fun H2 _ => kk H2
end
end K10
end
section
set_option Elab.async false
set_option linter.all false
set_option maxRecDepth 100000
set_option maxHeartbeats 4000000
namespace K10
open PySem PySem.Spec PyProof.Rows L2 Evl LamX
theorem okC {CX : CXT} {P : Program} {w : World} {K : PySem.W.Frag} {mg : Str → Option Value} {base : Heap} {x qual : Str} {params : Arguments} {body : List Stmt} {scope : Scope} {dvs : List V} {kws : List (Str × V)} {f : Addr} {fd : FuncData} {N ps : List Str} {k : Nat} {sp : Sp}
    (F : FunD K x qual params body scope dvs kws f fd) (S : FnScope N ps scope) (len : ∀ vs H Q E, sp vs H Q E → vs.length = ps.length)
    (hbody : ∀ (A : Around) (outer : List Env) (s : Shared) (H : Hp) (vs : List V) (Q : VK) (E : XK), Room k (A.deeper (envOfC qual scope s.heap.objs.size f fd.code)) → sp vs H Q E →
      ∃ t, PSs (cxOf CX P w K mg base N qual scope f fd.code A outer s H E) body t ∧ t { nx := fun _ H' => Q .non H', rt := Q } (L2.start N vs) H) : FnOk P w K mg base CX (k + 1) f fd ps sp := by
  obtain ⟨oc, od, dV, kV, doc, pm, an, cdv, ct, osl, rfl, lk, hcd, _, _⟩ := F.ex
  exact fn_of lk hcd S len fun A outer s H vs Q E hr hsp => hbody A outer s H vs Q E hr hsp
theorem code_of {K : PySem.W.Frag} {n : Str} {qual : Str} {params : Arguments} {body : List Stmt} {scope : Scope} {dvs : List V} {kws : List (Str × V)} {fd : FuncData} (F : FunD K n qual params body scope dvs kws (He.ga K n) fd) : fd.code = .ref (He.codeOf K (n, none)) := by
  obtain ⟨oc, od, dV, kV, doc, pm, an, cdv, ct, osl, e, lk, hcd, _, _⟩ := F.ex
  obtain ⟨c, hc⟩ := He.codeIn_ref hcd
  have e2 : fd.code = .ref c := by rw [e]; exact hc
  rw [e2, He.codeOf_eq (p := (n, none)) lk e2]
theorem pe_word {P : Program} {h0 : Heap} {X : Cx} (T : TxtP P h0 X.K X.mg) {c Pt : Addr} {k : Nat} {params : Arguments} {body : Expr} {scope : Scope} {t : XK → TE} {p lpos pos : Pos} (hg : Gl X "_law_word") (TB : TabB X.base X.mg c Pt) (hcode : X.env.code = .ref c) (hr : Room (k + 2) X.A) (L : LamS X.env.scope scope) (hdef : defaultsOf params X.env = ([], []))
    (hbind : ∀ (q : Str) (cl : List (Str × Addr)) (pm cv ctv : Value), bindArgs (PySem.W.kla_fn "<lambda>" q params body scope cl pm cv ctv) ⟨[], []⟩ = pure [])
    (hbody : ∀ (A : Around) (outer : List Env) (s : Shared) (H : Hp) (E : XK) (f c' : Addr), Room k (A.deeper (lamEnv X scope s.heap.objs.size f c')) → PE (lamCx X A outer s H E scope f c') body (t E)) :
    PE X (.Call (.Name "_law_word" p) [.Lambda params body scope lpos] [] pos) (tLam [(Pt, X.env.qual ++ "<lambda>")] (TWord X.K) t) := by
  obtain ⟨oc, od, dV, kV, doc, pm, an, cdv, ct, osl, e, lk, hcd, _, _⟩ := T.fn_L_word.ex
  have hb := T.b_L_word
  rw [e] at lk hb
  exact pe_lamcall hg T.g__law_word T.k_L_word lk hcd hb sc_L_word rfl (.inl rfl) (word_gives T) TB hcode (List.mem_singleton.mpr rfl) (fun q hq _ => by rw [List.mem_singleton.mp hq]) hr L hdef hbind hbody
def spLaw (K : PySem.W.Frag) : Sp := fun vs H Q _ => ∃ (sc : Addr) (ns : List Int), vs = [.ref sc] ∧ SqL K H sc (ns.map V.int) ∧ ns.length ≤ 63 ∧ H (lawTab K) = some (.tbl #[]) ∧ ∀ H', Q (.bl true) H'
section
variable {P : Program} {w : World} {base h0 : Heap} {K : PySem.W.Frag} {mg : Str → Option Value}
theorem sc_law : FnScope ["_law_script", "_law_row", "_law_turn", "_law_design_here", "_law_world_here", "_law_desk", "_law_h", "_law_way", "_law_odd", "_law_event"] ["_law_script"] (defScope s_law) := ⟨rfl, rfl, rfl, by decide +kernel, rfl, by decide +kernel, by decide +kernel⟩
theorem ok_law (T : TxtP P h0 K mg) (TB : TabB base mg (He.cT K ("law", none)).1 (lawTab K)) : FnOk P w K mg base CX0 27 (He.ga K "law") (fdOf K (He.ga K "law")) ["_law_script"] (spLaw K) := by
  refine okC T.fn_law sc_law (fun vs H Q E h => ?_) (fun A outer st0 H vs Q E hr h => ?_)
  · obtain ⟨sc, ns, rfl, _⟩ := h
    rfl
  · obtain ⟨sc, ns, rfl, hsc, hlen, htab, k⟩ := h
    have hcode := code_of T.fn_law
    refine ⟨tLaw K, PSs.nox ((pss_cons (ps_set (i := 1) sc_law.nd rfl (Or.inr rfl) (pe_lst (pa_cons (pv 0) (pa_cons pe_int (pa_cons pe_int (pa_cons pe_int pa_nil))))))
      (pss_cons (ps_par (i := 3) (j := 4) rfl sc_law.nd rfl rfl (by decide) rfl rfl (pa_cons (pe_call (ok_L_design T.toTxt) (hr.mono (by decide)) rfl T.g__law_design T.k_L_design T.b_L_design .nil pass0 (pa_cons (pv 1) pa_nil)) (pa_cons (pe_call (ok_L_world T.toTxt) (hr.mono (by decide)) rfl T.g__law_world T.k_L_world T.b_L_world .nil pass0 (pa_cons (pv 1) pa_nil)) pa_nil)) (by rfl))
      (pss_cons (ps_asg (pe_tup (pa_cons (pe_make T.mk_Desk (ok_Desk_init T.toTxt) (hr.mono (by decide)) rfl T.g_Desk T.b_Desk_init .nil pass0 (pa_cons (pv 3) (pa_cons (pv 4) pa_nil))) (pa_cons (pe_call (ok_L_begin T.toTxt) (hr.mono (by decide)) rfl T.g__law_begin T.k_L_begin T.b_L_begin .nil pass0 (pa_cons (pv 3) (pa_cons (pv 4) pa_nil))) pa_nil))) (pg_tupK K (pgs_cons (pg_name (i := 5) sc_law.nd rfl (Or.inr rfl)) (pgs_cons (pg_name (i := 6) sc_law.nd rfl (Or.inl rfl)) pgs_nil))))
      (pss_cons (ps_if (PW.pt (pw_or (pt_cmpR op_ne (pe_word T rfl TB hcode hr (show LamS (defScope s_law) _ from lamS_by (by decide +kernel)) rfl (fun _ _ _ _ _ => rfl) (fun A2 outer2 s2 H2 E2 f2 c2 hr2 => (pe_meth0 (pv 5) T.cl_Desk T.m_Desk_undo (ok_Desk_undo T) (hr2.mono (by decide)) T.b_Desk_undo .nil (passes_call (E := E2) (takes_of rfl rfl rfl rfl) (fun _ _ _ _ h => h))))) pe_str (nomark _)) (pw_or1 (pt_not (pt_val (pe_call (ok_L_shown T) (hr.mono (by decide)) rfl T.g__law_shown T.k_L_shown T.b_L_shown .nil pass0 (pa_cons (pv 5) (pa_cons (pv 6) pa_nil)))))))) (pss_one (ps_ret pe_bl)) pss_nil)
      (pss_cons (ps_for PassesOwn.never rfl (pi_range1 rfl T.f_range (pa_cons (pe_call (ok_L_taken T.toTxt) (hr.mono (by decide)) rfl T.g__law_taken T.k_L_taken T.b_L_taken .nil pass0 (pa_cons (pv 1) (pa_cons pe_int pa_nil))) pa_nil)) (pg_name (i := 2) sc_law.nd rfl (Or.inl rfl))
      (pss_cons (ps_set (i := 7) sc_law.nd rfl (Or.inl rfl) (pe_call (ok_L_taken T.toTxt) (hr.mono (by decide)) rfl T.g__law_taken T.k_L_taken T.b_L_taken .nil pass0 (pa_cons (pv 1) (pa_cons pe_int pa_nil))))
      (pss_one (ps_if (pt_cmpR op_eq (pv 7) pe_int (nomark _)) (pss_one (ps_if (pt_cmpR op_ne (pe_word T rfl TB hcode hr (show LamS (defScope s_law) _ from lamS_by (by decide +kernel)) rfl (fun _ _ _ _ _ => rfl) (fun A2 outer2 s2 H2 E2 f2 c2 hr2 => (pe_meth (pv 5) T.cl_Desk T.m_Desk_run (ok_Desk_run T) (hr2.mono (by decide)) T.b_Desk_run .nil (passes_call (E := E2) (takes_of rfl rfl rfl rfl) (fun _ _ _ _ h => h)) (pa_cons (pe_call (ok_L_pick T.toTxt) (hr2.mono (by decide)) rfl T.g__law_pick T.k_L_pick T.b_L_pick .nil pass0 (pa_cons (pv 1) (pa_cons (pe_lst (pa_cons pe_str (pa_cons pe_str (pa_cons pe_str (pa_cons pe_str (pa_cons pe_str (pa_cons pe_str (pa_cons pe_str (pa_cons pe_str (pa_cons pe_str (pa_cons pe_str pa_nil))))))))))) pa_nil))) pa_nil)))) pe_str (nomark _)) (pss_one (ps_ret pe_bl)) pss_nil)) (pss_one (ps_if (pt_cmpR op_eq (pv 7) pe_int (nomark _)) (pss_one (ps_if (pt_cmpR op_ne (pe_word T rfl TB hcode hr (show LamS (defScope s_law) _ from lamS_by (by decide +kernel)) rfl (fun _ _ _ _ _ => rfl) (fun A2 outer2 s2 H2 E2 f2 c2 hr2 => (pe_meth (pv 5) T.cl_Desk T.m_Desk_run (ok_Desk_run T) (hr2.mono (by decide)) T.b_Desk_run .nil (passes_call (E := E2) (takes_of rfl rfl rfl rfl) (fun _ _ _ _ h => h)) (pa_cons (pe_call (ok_L_pick T.toTxt) (hr2.mono (by decide)) rfl T.g__law_pick T.k_L_pick T.b_L_pick .nil pass0 (pa_cons (pv 1) (pa_cons (pe_lst (pa_cons pe_non (pa_cons pe_int (pa_cons (pe_lst (pa_cons pe_str pa_nil)) (pa_cons (pe_tup (pa_cons pe_str (pa_cons pe_int pa_nil))) pa_nil))))) pa_nil))) pa_nil)))) pe_str (nomark _)) (pss_one (ps_ret pe_bl)) pss_nil)) (pss_one (ps_if (PW.pt (pw_and (pt_cmpR op_eq (pv 7) pe_int (nomark _)) (pw_and1 (pt_cmpR (op_neN K (lenU2 hr.units)) (pe_dget (hu_of hr) (pv 6) pe_str (fun _ _ => rfl)) (pe_lst pa_nil) (nomark _))))) (pss_cons (ps_expr (pe_meth0 (pv 5) T.cl_Desk T.m_Desk_undo (ok_Desk_undo T) (hr.mono (by decide)) T.b_Desk_undo .nil passL))
      (pss_one (ps_set (i := 6) sc_law.nd rfl (Or.inl rfl) (pe_call (ok_L_run T.toTxt) (hr.mono (by decide)) rfl T.g__law_run T.k_L_run T.b_L_run .nil pass0 (pa_cons (pv 3) (pa_cons (pv 4) (pa_cons (pe_slice (sl_listK K) (pe_dget (hu_of hr) (pv 6) pe_str (fun _ _ => rfl)) po_none (po_some (pe_un un_neg pe_int))) pa_nil))))))) (pss_cons (ps_set (i := 8) sc_law.nd rfl (Or.inl rfl) (pe_lst (pa_cons (pe_tup (pa_cons pe_str (pa_cons pe_int pa_nil))) (pa_cons (pe_tup (pa_cons pe_str (pa_cons pe_int pa_nil))) (pa_cons (pe_tup (pa_cons pe_str (pa_cons pe_int pa_nil))) (pa_cons (pe_tup (pa_cons pe_str (pa_cons pe_int pa_nil))) (pa_cons (pe_tup (pa_cons pe_str (pa_cons pe_int pa_nil))) (pa_cons (pe_tup (pa_cons pe_str (pa_cons pe_int pa_nil))) (pa_cons (pe_tup (pa_cons pe_str pa_nil)) (pa_cons (pe_tup (pa_cons pe_str pa_nil)) pa_nil))))))))))
      (pss_cons (ps_set (i := 9) sc_law.nd rfl (Or.inr rfl) (pe_call (ok_L_pick T.toTxt) (hr.mono (by decide)) rfl T.g__law_pick T.k_L_pick T.b_L_pick .nil pass0 (pa_cons (pv 1) (pa_cons (pe_op op_cat (pe_op op_rep (pe_call (ok_L_events T.toTxt) (hr.mono (by decide)) rfl T.g__law_events T.k_L_events T.b_L_events .nil pass0 (pa_cons (pv 6) pa_nil)) pe_int) (pv 8)) pa_nil))))
      (pss_one (ps_if (pt_cmpR (op_notInDK K (Room.u65 hr)) (pv 9) (pe_call (ok_L_events T.toTxt) (hr.mono (by decide)) rfl T.g__law_events T.k_L_events T.b_L_events .nil pass0 (pa_cons (pv 6) pa_nil)) rfl) (pss_one (ps_if (pt_cmpR op_ne (pe_word T rfl TB hcode hr (show LamS (defScope s_law) _ from lamS_by (by decide +kernel)) rfl (fun _ _ _ _ _ => rfl) (fun A2 outer2 s2 H2 E2 f2 c2 hr2 => (pe_meth (pv 5) T.cl_Desk T.m_Desk_run (ok_Desk_run T) (hr2.mono (by decide)) T.b_Desk_run .nil (passes_call (E := E2) (takes_of rfl rfl rfl rfl) (fun _ _ _ _ h => h)) (pa_cons (pe_call (ok_L_line T.toTxt) (hr2.mono (by decide)) rfl T.g__law_line T.k_L_line T.b_L_line .nil pass0 (pa_cons (pv 9) pa_nil)) pa_nil)))) pe_str (nomark _)) (pss_one (ps_ret pe_bl)) pss_nil)) (pss_cons (ps_if (pt_cmp (pc_notN (pe_meth (pv 5) T.cl_Desk T.m_Desk_run (ok_Desk_run T) (hr.mono (by decide)) T.b_Desk_run .nil passL (pa_cons (pe_call (ok_L_line T.toTxt) (hr.mono (by decide)) rfl T.g__law_line T.k_L_line T.b_L_line .nil pass0 (pa_cons (pv 9) pa_nil)) pa_nil)))) (pss_one (ps_ret pe_bl)) pss_nil)
      (pss_one (ps_expr (pe_call (ok_L_do T.toTxt) (hr.mono (by decide)) rfl T.g__law_do T.k_L_do T.b_L_do .nil pass0 (pa_cons (pv 6) (pa_cons (pv 9) pa_nil))))))))))))))))))
      (pss_one (ps_ret (pe_call (ok_L_shown T) (hr.mono (by decide)) rfl T.g__law_shown T.k_L_shown T.b_L_shown .nil pass0 (pa_cons (pv 5) (pa_cons (pv 6) pa_nil))))))))))), ?_⟩
    exact s_main (En := { nx := fun _ H' => Q .non H', rt := Q }) hsc hlen htab k
end
end K10
end
set_option Elab.async false
set_option linter.all false
set_option maxRecDepth 100000
set_option maxHeartbeats 4000000
namespace K10
open PySem PySem.Spec PyProof.Rows L2 LamX
abbrev LL : PySem.W.OpenLaw := PySem.Challenge.rw_cacheheld_k10_whole_desks
theorem txt_of {w : World} {h : Heap} {K : PySem.W.Frag} {mg : Str → Option Value} (KX : K.In h) (G : h.Ns mainGlobals mg) (c : SaysK w h K) : TxtP LL.prog h K mg := by
  obtain ⟨a, b⟩ := He.ba c.x.more
  obtain ⟨b, d⟩ := He.ba b
  obtain ⟨d, e⟩ := He.ba d
  have t : He.SaysD faL fnL K := congrArg Prod.fst (show He.obsT faL fnL [] K = He.valT fnL [] w from c.x.t)
  exact { X := KX, G := G, d := t, e := a, pd := c.d, pb := c.b, pr := ⟨rfl, by decide +kernel⟩, it := invT_of c.i b, xq := d, xm := e }
theorem law_at {w : World} {h : Heap} {K : PySem.W.Frag} {mg : Str → Option Value} {fa : Addr} (KX : K.In h) (G : h.Ns mainGlobals mg) (c : SaysK w h K) (hmg : mg ("law" : Str) = some (.ref fa)) : LawAtS LL w K CX0 27 63 "_law_script" mg fa h := by
  have T := txt_of KX G c
  have e := hmg.symm.trans T.g_law
  cases e
  have b := FunD.bindsA (ps := ["_law_script"]) T.fn_law fun _ _ _ _ _ _ us hl => match us, hl with | [_], _ => rfl
  have hm : (("law", none) : He.Defn) ∈ tfL := List.mem_singleton.mpr rfl
  refine ⟨fdOf K (He.ga K "law"), [He.cT K ("law", none)], spLaw K, fun p hp => ?_, fun p hp => ?_, fun p hp => ?_, fun s v => b s [v] rfl, fun H a ns hl _ hT hS => ⟨a, ns, rfl, hS, hl, hT _ (List.mem_singleton.mpr rfl), fun _ => rfl⟩, fun base _ _ hB => ok_law T (hB _ (List.mem_singleton.mpr rfl))⟩
  · rw [List.mem_singleton.mp hp]
    exact c.x.empty _ hm
  · rw [List.mem_singleton.mp hp]
    exact c.x.out _ hm
  · rw [List.mem_singleton.mp hp]
    exact PySem.W.codeHd_of_K KX (c.x.hd _ hm)
end K10
open PySem PySem.W PySem.Calls PyProof.Rows
theorem PySem.Challenge.cw_cacheheld_k10_whole_desks_holds : PySem.Challenge.rw_cacheheld_k10_whole_desks.Holds := by
  w_on; o_law
  refine HandSHeadRun.head_any (r := OpenLaw.row PySem.Challenge.rw_cacheheld_k10_whole_desks) (q := view (OpenLaw.row PySem.Challenge.rw_cacheheld_k10_whole_desks).prog [78]) (H := K10.hookK) (ob := K10.obH) (M := 20000) (loose := K10.globL) (d := HandSHeadRun.topDef (OpenLaw.row PySem.Challenge.rw_cacheheld_k10_whole_desks).prog 78) (kwd := []) K10.obH_eq
    (by kernel_rfl) (fun s => by kernel_rfl) K10.runH (by kernel_rfl) (by kernel_rfl) (by kernel_rfl) (by rfl) (by first | assumption | decide +kernel) (by decide +kernel) ⟨rfl, rfl, rfl, rfl, rfl, by decide +kernel⟩ ?hw ?hc
  case hw => w_witness2
  case hc =>
    refine LamX.walk_ofTsE (l := PySem.Challenge.rw_cacheheld_k10_whole_desks) (n := 63) (k := 27) (x := "_law_script") (CX := fun _ => L2.CX0) rfl (by decide) (by kernel_rfl) ⟨rfl, by decide, by decide⟩ ?F (fun _ _ _ _ _ z => z)
    intro w mg fa h Y G hmg0
    obtain ⟨K, KX, c⟩ := Y
    have hmg : mg ("law" : PySem.Str) = some (.ref fa) := by
      have e : (HandSHeadRun.topDef (OpenLaw.row PySem.Challenge.rw_cacheheld_k10_whole_desks).prog 78).name = ("law" : PySem.Str) := by kernel_rfl
      rw [← e]
      exact hmg0
    exact ⟨K, KX, K10.law_at KX G c hmg⟩
