import PyProof.Rows.All
import Wide.All
import OpenK.AllK
import Wide.FinOn
import HandS.ForMost
import HandS.Defaults
import HandS.Head2
import HandS.HeadEnd
import HandS.HeadHook1
import HandS.HeadHook2
import HandS.HeadHook3
import HandS.HeadHook4
import HandS.HeadWalk
import HandS.Lambda
import HandS.Nested
import KE.SortKeyHeap
import KE.KLam
import HandS.SetFor
import HandS.SetKeys
import HandS.Set
import KE.SortData
import HandS.Conv
import HandS.MakeKw
import HandS.OwnEq
import HandS.Walk
import HandS.TupAny
import HandS.Codes
import HandS.More
import HandS.IsInst
import HandS.Deep
import HandS.Zip
import HandS.Style
import HandS.Wide
import HandS.Exc
import HandS.NestedK
import PySem.Challenge.RW_bestsbook_k47_whole_sheets_in_whatever_o
set_option Elab.async false
set_option linter.all false
set_option maxRecDepth 100000
set_option maxHeartbeats 4000000
/-! ## part Kt -/
namespace Bb
open PySem PySem.Spec PyProof.Rows L2
def top (i : Nat) : Stmt := PySem.Challenge.pw_bestsbook_k47_whole_sheets_in_whatever_o.main.body.getD i (.Pass ⟨0, 0, 0, 0⟩)
abbrev sis_whole : Stmt := top 22
abbrev sis_from : Stmt := top 23
abbrev srises : Stmt := top 24
abbrev sis_name : Stmt := top 25
abbrev sis_day : Stmt := top 26
abbrev sis_way : Stmt := top 29
abbrev sis_mark : Stmt := top 30
abbrev sis_event : Stmt := top 31
abbrev sbeats : Stmt := top 32
abbrev sare_limits : Stmt := top 37
abbrev sis_wind : Stmt := top 38
abbrev sRules_init : Stmt := inClass (top 39) 0
abbrev sRules_len : Stmt := inClass (top 39) 2
abbrev sRules_classes_in : Stmt := inClass (top 39) 5
abbrev sDeed_init : Stmt := inClass (top 42) 0
abbrev sDeed_eq : Stmt := inClass (top 42) 1
abbrev sDeed_row : Stmt := inClass (top 42) 4
abbrev sDeed_time : Stmt := inClass (top 42) 5
abbrev sis_team : Stmt := top 45
abbrev sPerson_init : Stmt := inClass (top 46) 0
abbrev sPerson_age_at : Stmt := inClass (top 46) 6
abbrev sare_events : Stmt := top 50
abbrev sknown_day : Stmt := top 51
abbrev sBook_init : Stmt := inClass (top 52) 0
abbrev sBook_len : Stmt := inClass (top 52) 2
abbrev sBook_keep : Stmt := inClass (top 52) 4
abbrev sBook_enrol : Stmt := inClass (top 52) 5
abbrev sBook_event_of : Stmt := inClass (top 52) 6
abbrev sBook_person_of : Stmt := inClass (top 52) 7
abbrev sBook_need_told : Stmt := inClass (top 52) 8
abbrev sBook_tell : Stmt := inClass (top 52) 9
abbrev sBook_need_number : Stmt := inClass (top 52) 10
abbrev sBook_paper : Stmt := inClass (top 52) 11
abbrev sBook_strike : Stmt := inClass (top 52) 12
abbrev sBook_restore : Stmt := inClass (top 52) 13
abbrev sBook_measure : Stmt := inClass (top 52) 14
abbrev sBook_uphold : Stmt := inClass (top 52) 15
abbrev sBook_papers_by : Stmt := inClass (top 52) 18
abbrev sBook_word_of : Stmt := inClass (top 52) 19
abbrev sBook_state : Stmt := inClass (top 52) 20
abbrev sBook_need_best : Stmt := inClass (top 52) 21
abbrev sBook_counts : Stmt := inClass (top 52) 22
abbrev sBook_runners : Stmt := inClass (top 52) 23
abbrev sBook_walk : Stmt := inClass (top 52) 24
abbrev sBook_joins : Stmt := inClass (top 52) 25
abbrev sBook_stints : Stmt := inClass (top 52) 26
abbrev sBook_held_on : Stmt := inClass (top 52) 28
abbrev sBook_holders : Stmt := inClass (top 52) 29
abbrev sL_cell : Stmt := top 54
abbrev sL_pen : Stmt := top 55
abbrev sL_draw : Stmt := top 56
abbrev sL_rules : Stmt := top 57
abbrev sL_names : Stmt := top 58
abbrev sL_club : Stmt := top 59
abbrev sL_made : Stmt := top 60
abbrev sL_row : Stmt := top 61
abbrev sL_deed : Stmt := top 62
abbrev sL_paper : Stmt := top 63
abbrev sL_tell : Stmt := top 64
abbrev sL_bests : Stmt := top 65
abbrev sL_some_best : Stmt := top 66
abbrev sL_mixed : Stmt := top 67
abbrev sL_told_so : Stmt := top 68
abbrev sL_all : Stmt := top 69
abbrev s_law : Stmt := top 70
def dis_whole : He.DefD := ⟨("is_whole", none), "is_whole", "is_whole", defArgs sis_whole, defBody sis_whole, defScope sis_whole, [], []⟩
def dis_from : He.DefD := ⟨("is_from", none), "is_from", "is_from", defArgs sis_from, defBody sis_from, defScope sis_from, [], []⟩
def drises : He.DefD := ⟨("rises", none), "rises", "rises", defArgs srises, defBody srises, defScope srises, [], []⟩
def dis_name : He.DefD := ⟨("is_name", none), "is_name", "is_name", defArgs sis_name, defBody sis_name, defScope sis_name, [], []⟩
def dis_day : He.DefD := ⟨("is_day", none), "is_day", "is_day", defArgs sis_day, defBody sis_day, defScope sis_day, [], []⟩
def dis_way : He.DefD := ⟨("is_way", none), "is_way", "is_way", defArgs sis_way, defBody sis_way, defScope sis_way, [], []⟩
def dis_mark : He.DefD := ⟨("is_mark", none), "is_mark", "is_mark", defArgs sis_mark, defBody sis_mark, defScope sis_mark, [], []⟩
def dis_event : He.DefD := ⟨("is_event", none), "is_event", "is_event", defArgs sis_event, defBody sis_event, defScope sis_event, [], []⟩
def dbeats : He.DefD := ⟨("beats", none), "beats", "beats", defArgs sbeats, defBody sbeats, defScope sbeats, [], []⟩
def dare_limits : He.DefD := ⟨("are_limits", none), "are_limits", "are_limits", defArgs sare_limits, defBody sare_limits, defScope sare_limits, [], []⟩
def dis_wind : He.DefD := ⟨("is_wind", none), "is_wind", "is_wind", defArgs sis_wind, defBody sis_wind, defScope sis_wind, [], []⟩
def dRules_init : He.DefD := ⟨("Rules", some "__init__"), "__init__", "Rules.__init__", defArgs sRules_init, defBody sRules_init, defScope sRules_init, [.non, .bl true, .int 20, .bl true], []⟩
def dRules_len : He.DefD := ⟨("Rules", some "__len__"), "__len__", "Rules.__len__", defArgs sRules_len, defBody sRules_len, defScope sRules_len, [], []⟩
def dRules_classes_in : He.DefD := ⟨("Rules", some "classes_in"), "classes_in", "Rules.classes_in", defArgs sRules_classes_in, defBody sRules_classes_in, defScope sRules_classes_in, [], []⟩
def dDeed_init : He.DefD := ⟨("Deed", some "__init__"), "__init__", "Deed.__init__", defArgs sDeed_init, defBody sDeed_init, defScope sDeed_init, [.int 0, .int 0, .str "yard"], []⟩
def dDeed_eq : He.DefD := ⟨("Deed", some "__eq__"), "__eq__", "Deed.__eq__", defArgs sDeed_eq, defBody sDeed_eq, defScope sDeed_eq, [], []⟩
def dDeed_row : He.DefD := ⟨("Deed", some "row"), "row", "Deed.row", defArgs sDeed_row, defBody sDeed_row, defScope sDeed_row, [], []⟩
def dDeed_time : He.DefD := ⟨("Deed", some "time"), "time", "Deed.time", defArgs sDeed_time, defBody sDeed_time, defScope sDeed_time, [], []⟩
def dis_team : He.DefD := ⟨("is_team", none), "is_team", "is_team", defArgs sis_team, defBody sis_team, defScope sis_team, [], []⟩
def dPerson_init : He.DefD := ⟨("Person", some "__init__"), "__init__", "Person.__init__", defArgs sPerson_init, defBody sPerson_init, defScope sPerson_init, [.str "open", .str ""], []⟩
def dPerson_age_at : He.DefD := ⟨("Person", some "age_at"), "age_at", "Person.age_at", defArgs sPerson_age_at, defBody sPerson_age_at, defScope sPerson_age_at, [], []⟩
def dare_events : He.DefD := ⟨("are_events", none), "are_events", "are_events", defArgs sare_events, defBody sare_events, defScope sare_events, [], []⟩
def dknown_day : He.DefD := ⟨("known_day", none), "known_day", "known_day", defArgs sknown_day, defBody sknown_day, defScope sknown_day, [], []⟩
def dBook_init : He.DefD := ⟨("Book", some "__init__"), "__init__", "Book.__init__", defArgs sBook_init, defBody sBook_init, defScope sBook_init, [.non], []⟩
def dBook_len : He.DefD := ⟨("Book", some "__len__"), "__len__", "Book.__len__", defArgs sBook_len, defBody sBook_len, defScope sBook_len, [], []⟩
def dBook_keep : He.DefD := ⟨("Book", some "keep"), "keep", "Book.keep", defArgs sBook_keep, defBody sBook_keep, defScope sBook_keep, [], []⟩
def dBook_enrol : He.DefD := ⟨("Book", some "enrol"), "enrol", "Book.enrol", defArgs sBook_enrol, defBody sBook_enrol, defScope sBook_enrol, [], []⟩
def dBook_event_of : He.DefD := ⟨("Book", some "event_of"), "event_of", "Book.event_of", defArgs sBook_event_of, defBody sBook_event_of, defScope sBook_event_of, [], []⟩
def dBook_person_of : He.DefD := ⟨("Book", some "person_of"), "person_of", "Book.person_of", defArgs sBook_person_of, defBody sBook_person_of, defScope sBook_person_of, [], []⟩
def dBook_need_told : He.DefD := ⟨("Book", some "need_told"), "need_told", "Book.need_told", defArgs sBook_need_told, defBody sBook_need_told, defScope sBook_need_told, [], []⟩
def dBook_tell : He.DefD := ⟨("Book", some "tell"), "tell", "Book.tell", defArgs sBook_tell, defBody sBook_tell, defScope sBook_tell, [.non], []⟩
def dBook_need_number : He.DefD := ⟨("Book", some "need_number"), "need_number", "Book.need_number", defArgs sBook_need_number, defBody sBook_need_number, defScope sBook_need_number, [], []⟩
def dBook_paper : He.DefD := ⟨("Book", some "paper"), "paper", "Book.paper", defArgs sBook_paper, defBody sBook_paper, defScope sBook_paper, [], []⟩
def dBook_strike : He.DefD := ⟨("Book", some "strike"), "strike", "Book.strike", defArgs sBook_strike, defBody sBook_strike, defScope sBook_strike, [], []⟩
def dBook_restore : He.DefD := ⟨("Book", some "restore"), "restore", "Book.restore", defArgs sBook_restore, defBody sBook_restore, defScope sBook_restore, [], []⟩
def dBook_measure : He.DefD := ⟨("Book", some "measure"), "measure", "Book.measure", defArgs sBook_measure, defBody sBook_measure, defScope sBook_measure, [], []⟩
def dBook_uphold : He.DefD := ⟨("Book", some "uphold"), "uphold", "Book.uphold", defArgs sBook_uphold, defBody sBook_uphold, defScope sBook_uphold, [], []⟩
def dBook_papers_by : He.DefD := ⟨("Book", some "papers_by"), "papers_by", "Book.papers_by", defArgs sBook_papers_by, defBody sBook_papers_by, defScope sBook_papers_by, [], []⟩
def dBook_word_of : He.DefD := ⟨("Book", some "word_of"), "word_of", "Book.word_of", defArgs sBook_word_of, defBody sBook_word_of, defScope sBook_word_of, [], []⟩
def dBook_state : He.DefD := ⟨("Book", some "state"), "state", "Book.state", defArgs sBook_state, defBody sBook_state, defScope sBook_state, [.non], []⟩
def dBook_need_best : He.DefD := ⟨("Book", some "need_best"), "need_best", "Book.need_best", defArgs sBook_need_best, defBody sBook_need_best, defScope sBook_need_best, [], []⟩
def dBook_counts : He.DefD := ⟨("Book", some "counts"), "counts", "Book.counts", defArgs sBook_counts, defBody sBook_counts, defScope sBook_counts, [], []⟩
def dBook_runners : He.DefD := ⟨("Book", some "runners"), "runners", "Book.runners", defArgs sBook_runners, defBody sBook_runners, defScope sBook_runners, [], []⟩
def dBook_walk : He.DefD := ⟨("Book", some "walk"), "walk", "Book.walk", defArgs sBook_walk, defBody sBook_walk, defScope sBook_walk, [], []⟩
def dBook_joins : He.DefD := ⟨("Book", some "joins"), "joins", "Book.joins", defArgs sBook_joins, defBody sBook_joins, defScope sBook_joins, [], []⟩
def dBook_stints : He.DefD := ⟨("Book", some "stints"), "stints", "Book.stints", defArgs sBook_stints, defBody sBook_stints, defScope sBook_stints, [.non, .non, .non], []⟩
def dBook_held_on : He.DefD := ⟨("Book", some "held_on"), "held_on", "Book.held_on", defArgs sBook_held_on, defBody sBook_held_on, defScope sBook_held_on, [], []⟩
def dBook_holders : He.DefD := ⟨("Book", some "holders"), "holders", "Book.holders", defArgs sBook_holders, defBody sBook_holders, defScope sBook_holders, [.non, .non, .non, .non], []⟩
def dL_cell : He.DefD := ⟨("_law_cell", none), "_law_cell", "_law_cell", defArgs sL_cell, defBody sL_cell, defScope sL_cell, [], []⟩
def dL_pen : He.DefD := ⟨("_law_pen", none), "_law_pen", "_law_pen", defArgs sL_pen, defBody sL_pen, defScope sL_pen, [], []⟩
def dL_draw : He.DefD := ⟨("_law_draw", none), "_law_draw", "_law_draw", defArgs sL_draw, defBody sL_draw, defScope sL_draw, [], []⟩
def dL_rules : He.DefD := ⟨("_law_rules", none), "_law_rules", "_law_rules", defArgs sL_rules, defBody sL_rules, defScope sL_rules, [], []⟩
def dL_names : He.DefD := ⟨("_law_names", none), "_law_names", "_law_names", defArgs sL_names, defBody sL_names, defScope sL_names, [], []⟩
def dL_club : He.DefD := ⟨("_law_club", none), "_law_club", "_law_club", defArgs sL_club, defBody sL_club, defScope sL_club, [], []⟩
def dL_made : He.DefD := ⟨("_law_made", none), "_law_made", "_law_made", defArgs sL_made, defBody sL_made, defScope sL_made, [], []⟩
def dL_row : He.DefD := ⟨("_law_row", none), "_law_row", "_law_row", defArgs sL_row, defBody sL_row, defScope sL_row, [], []⟩
def dL_deed : He.DefD := ⟨("_law_deed", none), "_law_deed", "_law_deed", defArgs sL_deed, defBody sL_deed, defScope sL_deed, [], []⟩
def dL_paper : He.DefD := ⟨("_law_paper", none), "_law_paper", "_law_paper", defArgs sL_paper, defBody sL_paper, defScope sL_paper, [], []⟩
def dL_tell : He.DefD := ⟨("_law_tell", none), "_law_tell", "_law_tell", defArgs sL_tell, defBody sL_tell, defScope sL_tell, [], []⟩
def dL_bests : He.DefD := ⟨("_law_bests", none), "_law_bests", "_law_bests", defArgs sL_bests, defBody sL_bests, defScope sL_bests, [], []⟩
def dL_some_best : He.DefD := ⟨("_law_some_best", none), "_law_some_best", "_law_some_best", defArgs sL_some_best, defBody sL_some_best, defScope sL_some_best, [], []⟩
def dL_mixed : He.DefD := ⟨("_law_mixed", none), "_law_mixed", "_law_mixed", defArgs sL_mixed, defBody sL_mixed, defScope sL_mixed, [], []⟩
def dL_told_so : He.DefD := ⟨("_law_told_so", none), "_law_told_so", "_law_told_so", defArgs sL_told_so, defBody sL_told_so, defScope sL_told_so, [], []⟩
def dL_all : He.DefD := ⟨("_law_all", none), "_law_all", "_law_all", defArgs sL_all, defBody sL_all, defScope sL_all, [], []⟩
def d_law : He.DefD := ⟨("law", none), "law", "law", defArgs s_law, defBody s_law, defScope s_law, [], []⟩
def fn : List He.DefD := [dis_whole, dis_from, drises, dis_name, dis_day, dis_way, dis_mark, dis_event, dbeats, dare_limits, dis_wind, dRules_init, dRules_len, dRules_classes_in, dDeed_init, dDeed_eq, dDeed_row, dDeed_time, dis_team, dPerson_init, dPerson_age_at, dare_events, dknown_day, dBook_init, dBook_len, dBook_keep, dBook_enrol, dBook_event_of, dBook_person_of, dBook_need_told, dBook_tell, dBook_need_number, dBook_paper, dBook_strike, dBook_restore, dBook_measure, dBook_uphold, dBook_papers_by, dBook_word_of, dBook_state, dBook_need_best, dBook_counts, dBook_runners, dBook_walk, dBook_joins, dBook_stints, dBook_held_on, dBook_holders, dL_cell, dL_pen, dL_draw, dL_rules, dL_names, dL_club, dL_made, dL_row, dL_deed, dL_paper, dL_tell, dL_bests, dL_some_best, dL_mixed, dL_told_so, dL_all, d_law]
def fa0 : List He.Fa := [.glo "Book", .glo "Deed", .glo "Person", .glo "Rules", .glo "_law_all", .glo "_law_bests", .glo "_law_cell", .glo "_law_club", .glo "_law_deed", .glo "_law_draw", .glo "_law_made", .glo "_law_mixed", .glo "_law_names", .glo "_law_paper", .glo "_law_pen", .glo "_law_row", .glo "_law_rules", .glo "_law_some_best", .glo "_law_tell", .glo "_law_told_so", .glo "are_events", .glo "are_limits", .glo "beats", .glo "is_day", .glo "is_event", .glo "is_from", .glo "is_mark", .glo "is_name", .glo "is_team", .glo "is_way", .glo "is_whole", .glo "is_wind", .glo "known_day", .glo "law", .glo "rises"]
def fa1 : List He.Fa := [.free "len", .free "isinstance", .free "int", .free "str", .free "bool", .free "tuple", .free "list", .free "all", .free "any", .free "set", .free "sorted", .free "range", .free "zip", .free "dict", .free "min", .free "KeyError", .int "FIRST_DAY" (-40000), .int "LAST_DAY" (40000), .int "LAST_MARK" (1000000), .int "MOST_SIGNS" (8), .int "MOST_LIMITS" (4), .int "MOST_LIMIT" (99), .int "MOST_WIND" (99), .int "LAST_HOUR" (23), .int "YEAR" (365), .int "MOST_EVENTS" (4), .int "MOST_DEEDS" (100), .cls "Rules", .mkr "Rules", .noat "Rules" "limits", .noat "Rules" "up", .noat "Rules" "wind", .noat "Rules" "shares", .cls "Deed", .mkr "Deed"]
def fa2 : List He.Fa := [.noat "Deed" "name", .noat "Deed" "event", .noat "Deed" "mark", .noat "Deed" "day", .noat "Deed" "hour", .noat "Deed" "wind", .noat "Deed" "course", .cls "Person", .mkr "Person", .noat "Person" "name", .noat "Person" "born", .noat "Person" "group", .noat "Person" "team", .cls "Book", .mkr "Book", .noat "Book" "events", .noat "Book" "rules", .noat "Book" "people", .noat "Book" "told", .noat "Book" "papers", .noat "Book" "past", .meth "Rules" "__len__", .meth "Rules" "classes_in", .meth "Deed" "__eq__", .meth "Deed" "row", .meth "Deed" "time", .meth "Person" "age_at", .meth "Book" "__len__", .meth "Book" "keep", .meth "Book" "enrol", .meth "Book" "event_of", .meth "Book" "person_of", .meth "Book" "need_told", .meth "Book" "tell", .meth "Book" "need_number"]
def fa3 : List He.Fa := [.meth "Book" "paper", .meth "Book" "strike", .meth "Book" "restore", .meth "Book" "measure", .meth "Book" "uphold", .meth "Book" "papers_by", .meth "Book" "word_of", .meth "Book" "state", .meth "Book" "need_best", .meth "Book" "counts", .meth "Book" "runners", .meth "Book" "walk", .meth "Book" "joins", .meth "Book" "stints", .meth "Book" "held_on", .meth "Book" "holders"]
def fa : List He.Fa := fa0 ++ fa1 ++ fa2 ++ fa3
def loose0 : List Str := [("_wall" : Str), ("__name__" : Str), ("ClubError" : Str), ("Missing" : Str), ("NoRules" : Str), ("NoPerson" : Str), ("NoDay" : Str), ("NoDeed" : Str), ("NoEvents" : Str), ("NoName" : Str), ("NoClass" : Str), ("Clash" : Str), ("Unborn" : Str), ("Full" : Str), ("Unknown" : Str), ("NoEvent" : Str), ("Gone" : Str), ("FIRST_DAY" : Str), ("LAST_DAY" : Str), ("LAST_MARK" : Str), ("MOST_SIGNS" : Str), ("is_whole" : Str), ("is_from" : Str), ("rises" : Str), ("is_name" : Str), ("is_day" : Str), ("WAYS" : Str), ("is_way" : Str), ("is_mark" : Str), ("is_event" : Str), ("beats" : Str), ("MOST_LIMITS" : Str), ("MOST_LIMIT" : Str), ("MOST_WIND" : Str), ("are_limits" : Str)]
def loose1 : List Str := [("is_wind" : Str), ("Rules" : Str), ("LAST_HOUR" : Str), ("Deed" : Str), ("YEAR" : Str), ("is_team" : Str), ("Person" : Str), ("MOST_EVENTS" : Str), ("MOST_DEEDS" : Str), ("are_events" : Str), ("known_day" : Str), ("Book" : Str), ("_law_cell" : Str), ("_law_pen" : Str), ("_law_draw" : Str), ("_law_rules" : Str), ("_law_names" : Str), ("_law_club" : Str), ("_law_made" : Str), ("_law_row" : Str), ("_law_deed" : Str), ("_law_paper" : Str), ("_law_tell" : Str), ("_law_bests" : Str), ("_law_some_best" : Str), ("_law_mixed" : Str), ("_law_told_so" : Str), ("_law_all" : Str)]
def loose : List Str := loose0 ++ loose1
def tf : List He.Defn := [("Book", some "papers_by"), ("Book", some "runners")]
def ex (K : PySem.W.Frag) : Bool := He.tupB K "WAYS" [.str "less", .str "more"]
abbrev R : PySem.W.OpenRow := PySem.W.OpenLaw.row PySem.Challenge.rw_bestsbook_k47_whole_sheets_in_whatever_o
abbrev hk : PySem.W.Hook := He.hookX 5 fa fn [] tf ex
def ob (s : PySem.W.SharedT) : He.AlX := He.obsX 5 fa fn [] tf ex (HandSHeadRun.getT s)
theorem ob_eq (s : PySem.W.SharedT) : ob s = hk.obs s.abs := He.obsX_eq (HandSHeadRun.getT_eq s)
end Bb
/-! ## part LamSort -/
/-! sorted(xs, key=lambda x: e), e an expression that makes new things alone -/
namespace BbS
open PySem PySem.Spec PyProof.Rows L2 LamX NdefX PySem.W

/-- strictly more -/
def Ext (H H' : Hp) : Prop := ∀ b o, H b = some o → H' b = some o
theorem Ext.rfl' {H : Hp} : Ext H H := fun _ _ h => h
theorem Ext.tr {H H1 H2 : Hp} (x : Ext H H1) (y : Ext H1 H2) : Ext H H2 := fun b o h => y b o (x b o h)

theorem sqL_ext {K : Frag} {H H' : Hp} {a : Addr} {xs : List V} (e : Ext H H') (h : SqL K H a xs) : SqL K H' a xs := by
  rcases h with (h | ⟨o, h⟩) | h
  · exact .inl (.inl (e _ _ h))
  · exact .inl (.inr ⟨o, e _ _ h⟩)
  · exact .inr h
theorem sqT_ext {K : Frag} {H H' : Hp} {a : Addr} {xs : List V} (e : Ext H H') (h : SqT K H a xs) : SqT K H' a xs := by
  rcases h with (h | ⟨o, h⟩) | h
  · exact .inl (.inl (e _ _ h))
  · exact .inl (.inr ⟨o, e _ _ h⟩)
  · exact .inr h
mutual
theorem dp_ext {K : Frag} {H H' : Hp} (e : Ext H H') : ∀ {v : V} {d : PyData}, Dp K H v d → Dp K H' v d
  | _, _, .non => .non
  | _, _, .bl b => .bl b
  | _, _, .int i => .int i
  | _, _, .str x => .str x
  | _, _, .lst h1 h2 => .lst (sqL_ext e h1) (dpAll_ext e h2)
  | _, _, .tup h1 h2 => .tup (sqT_ext e h1) (dpAll_ext e h2)
theorem dpAll_ext {K : Frag} {H H' : Hp} (e : Ext H H') : ∀ {vs : List V} {ds : List PyData}, DpAll K H vs ds → DpAll K H' vs ds
  | _, _, .nil => .nil
  | _, _, .cons h1 h2 => .cons (dp_ext e h1) (dpAll_ext e h2)
end

section
variable {X : Cx} {pins : List (Addr × Obj)} {σ : L2.St} {H : Hp} {s : Shared}
/-- the lambda at f is called -/
theorem lam_run {A : Around} {f c' : Addr} {params : Arguments} {body : Expr} {scope : Scope} {pm ctv : Value} {N ps fr : List Str} {ws : List (Option V)} {k : Nat} {tb : TE} {us : List Value} {vs : List V} {Q : VK}
    (I : Inv X pins σ H s) (e0 : Env0 X.prog X.w X.K X.mg X.base A X.stack s H) (hr : Room (k + 1) A) (S : NScope N ps fr scope) (C : CellsAt (cloFrom X.env.cells scope.names []) fr ws s.heap H)
    (ho : s.heap.get? f = some (kla_obj "<lambda>" (X.env.qual ++ "<lambda>") params body scope (cloFrom X.env.cells scope.names []) pm c' ctv)) (hc : H c' = some (CodeO c' (X.env.qual ++ "<lambda>")))
    (hb : ∀ us : List Value, us.length = ps.length → bindArgs (kla_fn "<lambda>" (X.env.qual ++ "<lambda>") params body scope (cloFrom X.env.cells scope.names []) pm (.ref c') ctv) ⟨us, []⟩ = pure (ps.zip us))
    (hbody : ∀ (A : Around) (outer : List Env) (s : Shared) (H : Hp) (q : Str) (cl : List (Str × Addr)) (f c' : Addr), Room k (A.deeper (envF ⟨"<lambda>", q, params, [], scope, cl, c'⟩ f s.heap.objs.size)) → PE (ncx CX0 X.prog X.w X.K X.mg X.base N ⟨"<lambda>", q, params, [], scope, cl, c'⟩ f A outer s H E0) body tb)
    (r : Vals vs us) (hl : vs.length = ps.length) (h : tb (startF N vs ws) H Q) :
    wpAny (model X.prog X.w) A (call (.ref f) us) (EP X pins σ Q) (fun _ _ => False) s := by
  have lim : s.heap.NoLimit := e0.mod.nolimit.keeps fun b o e => (e0.bs b o e).1
  obtain ⟨⟨oc, cvs, t, hoc, hdc, hvc⟩, _, _⟩ := I.hok c' _ hc
  have hul : us.length = ps.length := r.length.symm.trans hl
  have main : codeAny (model X.prog X.w) A (.call (.ref f) ⟨us, []⟩) (CR CX0 X.stack X.prog X.w H s Q E0) s := by
    refine kla_callFunE hr.depth ho rfl S.co S.gen rfl ⟨c', oc, cvs, t, rfl, hoc, hdc, hvc⟩ ?_
    rw [hb us hul]
    refine wpAny_pure (wpAny_newFunctionEnv S.nocell (fun ⟨n, _⟩ hy => S.par n (List.of_mem_zip hy).1) (fun h₁ hns hsb => ⟨lim.fresh _ hsb, ?_⟩) S.kind)
    have keep : ∀ b o, s.heap.get? b = some o → h₁.get? b = some o := fun b o e => hsb.extBut b o (Nat.ne_of_lt (Heap.lt_size e)) (Heap.get?_push_of_some _ e)
    have J := inv_startN (CX := CX0) (F := ⟨"<lambda>", X.env.qual ++ "<lambda>", params, [], scope, cloFrom X.env.cells scope.names [], c'⟩) (f := f) (E := E0) (tk := s.toks + (ps.zip us).length) S hr.hd e0 hl r C hns keep
    refine kla_codeExpr (wpAny_mono ((hbody A X.stack s H _ _ f c' (hr.deeper _)).run [] _ (startF N vs ws) H Q J h) (fun v s' hq => ?_) fun e s' hq => hq)
    obtain ⟨v', H', J', rv, q⟩ := hq
    exact ⟨v', H', J'.os, J'.bare, J'.base, J'.hok, rv, q⟩
  refine wpAny_call (codeAny_mono main fun rs s' hq => ?_)
  cases rs with
  | error e => exact hq
  | ok fl =>
    cases fl with
    | ret u => exact I.after hq
    | next => exact False.elim hq
    | brk => exact False.elim hq
    | cont => exact False.elim hq
end

section
variable {X : Cx} {pins : List (Addr × Obj)} {σ : L2.St} {H : Hp} {s : Shared}
/-- what lies above all that the frame knows -/
structure Above (X : Cx) (pins : List (Addr × Obj)) (n : Nat) : Prop where
  s0 : X.s_0.heap.objs.size ≤ n
  loc : X.env.locals < n
  cel : ∀ x c, X.env.cells.lookup x = some c → c < n
  pin : ∀ p ∈ X.pn ++ pins, p.1 < n
theorem above_of (I : Inv X pins σ H s) : Above X pins s.heap.objs.size :=
  ⟨I.sz, I.lt, fun x c e => let ⟨_, o, ho, _⟩ := I.cell x c e; Heap.lt_size ho, fun p hp => Heap.lt_size (I.pin p hp).1⟩
/-- untracked things high up are written, one of them is tracked from now on -/
theorem inv_track {n : Nat} {a : Addr} {ch : List Addr} {o : HO} {h' : Heap} {t' : Nat} (B : Above X pins n) (I : Inv X pins σ H s) (hch : ∀ b ∈ ch, n ≤ b ∧ H b = none) (ha : a ∈ ch)
    (k : ∀ c u, c ∉ ch → s.heap.get? c = some u → h'.get? c = some u) (new : ObjOk X.prog X.w (upd H a o) h' a o) : Inv X pins σ (upd H a o) { s with heap := h', toks := t' } := by
  have hna : H a = none := (hch a ha).2
  have nn : ∀ {c u}, H c = some u → c ∉ ch := fun {c u} e z => by
    rw [(hch c z).2] at e
    cases e
  have up : ∀ {c u}, H c = some u → upd H a o c = some u := fun {c u} e => by
    rw [upd_ne (ne_of_none e hna)]
    exact e
  have nL : X.env.locals ∉ ch := fun z => Nat.lt_irrefl _ (Nat.lt_of_lt_of_le B.loc (hch _ z).1)
  refine I.step (g' := s.gens) (d' := s.drawn) (ch := ch) (fun b hb => ⟨.inr (Nat.le_trans B.s0 (hch b hb).1), fun z => nL (z ▸ hb), fun x c e z => ?_, fun p hp z => ?_⟩) (fun b u _ _ hb e _ => k b u hb e) (fun b u _ _ hb e _ => ⟨u.slots, k b u hb e⟩)
    (fun b u hb e e2 => ?_) (fun b u hb e => ⟨u, k b u hb e⟩) (fun b xs e => up e) (fun b ob u e => up e) (fun b qs e => ⟨#[], by rw [up e]; simp⟩) (fun m hm => ?_) (fun b u e => ?_) I.bare
  · have h1 := B.cel x c e
    rw [z] at h1
    exact Nat.lt_irrefl _ (Nat.lt_of_lt_of_le h1 (hch b hb).1)
  · have h1 := B.pin p hp
    rw [z] at h1
    exact Nat.lt_irrefl _ (Nat.lt_of_lt_of_le h1 (hch b hb).1)
  · rw [upd_ne (fun z : b = a => hb (by rw [z]; exact ha))]
    exact e2
  · obtain ⟨ob, es, ep, e1, r⟩ := hm
    exact ⟨ob, es, ep, k _ _ nL e1, r⟩
  · by_cases hb : b = a
    · rw [hb, upd_same] at e
      cases e
      rw [hb]
      exact new
    · rw [upd_ne hb] at e
      refine (I.hok b u e).stay (fun c v hc q => k c v ?_ q) (fun c q => up q) fun c xs q => up q
      rcases hc with z | z
      · rw [z]
        exact nn e
      · exact nn z
/-- one such thing is written, none is tracked -/
theorem inv_poke {n : Nat} {a : Addr} {h' : Heap} {t' : Nat} (B : Above X pins n) (I : Inv X pins σ H s) (ha : n ≤ a) (hn : H a = none) (k : ∀ c u, c ≠ a → s.heap.get? c = some u → h'.get? c = some u) :
    Inv X pins σ H { s with heap := h', toks := t' } := by
  have nn : ∀ {c u}, H c = some u → c ≠ a := fun {c u} e => ne_of_none e hn
  have nL : X.env.locals ≠ a := Nat.ne_of_lt (Nat.lt_of_lt_of_le B.loc ha)
  have nm : ∀ {b}, b ∉ [a] → b ≠ a := fun {b} z e => z (List.mem_singleton.mpr e)
  refine I.step (g' := s.gens) (d' := s.drawn) (ch := [a]) (fun b hb => ?_) (fun b u _ _ hb e _ => k b u (nm hb) e) (fun b u _ _ hb e _ => ⟨u.slots, k b u (nm hb) e⟩)
    (fun b u hb e e2 => e2) (fun b u hb e => ⟨u, k b u (nm hb) e⟩) (fun b xs e => e) (fun b ob u e => e) (fun b qs e => ⟨#[], by rw [e]; simp⟩) (fun m hm => ?_) (fun b u e => ?_) I.bare
  · rw [List.mem_singleton.mp hb]
    refine ⟨.inr (Nat.le_trans B.s0 ha), nL.symm, fun x c e z => ?_, fun p hp z => ?_⟩
    · have h1 := B.cel x c e
      rw [z] at h1
      exact Nat.lt_irrefl _ (Nat.lt_of_lt_of_le h1 ha)
    · have h1 := B.pin p hp
      rw [z] at h1
      exact Nat.lt_irrefl _ (Nat.lt_of_lt_of_le h1 ha)
  · obtain ⟨ob, es, ep, e1, r⟩ := hm
    exact ⟨ob, es, ep, k _ _ nL e1, r⟩
  · refine (I.hok b u e).stay (fun c v hc q => k c v ?_ q) (fun c q => q) fun c xs q => q
    rcases hc with z | z
    · rw [z]
      exact nn e
    · exact nn z
end

section
variable {X : Cx} {pins : List (Addr × Obj)} {σ : L2.St} {H : Hp} {s : Shared}
theorem dpAll_snoc {K : Frag} {H : Hp} {v : V} {d : PyData} (h : Dp K H v d) : ∀ {vs : List V} {ds : List PyData}, DpAll K H vs ds → DpAll K H (vs ++ [v]) (ds ++ [d])
  | _, _, .nil => .cons h .nil
  | _, _, .cons h1 h2 => .cons h1 (dpAll_snoc h h2)
theorem each_of_reads {h : Heap} : ∀ {us : List Value} {ds : List PyData} {as : List Addr}, ReadsAll h us ds as → EachIs (fun v d => ∃ as, Reads h v d as) us ds := fun {us ds as} r => by
  have r' : ReadsAll h us (ds.map id) as := by
    rw [List.map_id]
    exact r
  have q := readsAll_each id r'
  exact q

/-- sorted(l, key=f): the list's items xs, their keys ks -/
theorem sort_run {f : Addr} {of : Obj} {a : Addr} {xs : List V} {ks : List PyData} {Q : VK} (I : Inv X pins σ H s) (hh : X.A.handled = none) (hu : X.A.units + 100 < cLine) (hf : s.heap.get? f = some of) (hfn : H f = none) (hfl : f ≠ X.env.locals) (hfs : f ∉ X.fs) (hfc : ∀ v, of.data ≠ .cell v)
    (ha : SqL X.K H a xs) (hlen : ks.length = xs.length) (hal : AllAlike ks) (hsk : Sortable ks) (hdp : ∀ d ∈ ks, d.depth ≤ 8)
    (turn : ∀ (i : Nat) (x : V) (d : PyData) (u : Value) (pins' : List (Addr × Obj)) (s' : Shared) (H' : Hp), xs[i]? = some x → ks[i]? = some d → RelV x u → Inv X pins' σ H' s' → Ext H H' → s'.heap.get? f = some of →
      wpAny (model X.prog X.w) X.A.in1.in1 (call (.ref f) [u]) (EP X pins' σ fun v H'' => Ext H' H'' ∧ Dp X.K H'' v d) (fun _ _ => False) s')
    (q : ∀ (p : Addr) (H' : Hp), Ext H H' → H' p = none → Q (.ref p) (upd H' p (.lst (((xs.zip ks).mergeSort (dataLe false (·.2))).map (·.1))))) :
    wpAny (model X.prog X.w) X.A (call (.builtin "sorted") [.ref a] [(Str.ofString "key", .ref f)]) (EP X pins σ Q) X.xe s := by
  obtain ⟨its, rv, hl, hz⟩ := I.list ha
  have hvl : its.length = xs.length := rv.length.symm
  have hzl : its.length ≤ sizeLine := by
    rw [hvl]
    exact hz
  have B := above_of I
  refine sorted_of_sort hl.isList hzl (ksk_s1 _ _) (fun _ => ksk_l1 _ _) fun E' => ?_
  rw [ksk_t1]
  have h1 := copyHeap_at s.heap its
  obtain ⟨e1, h2⟩ : ∃ e1, ((copyHeap s.heap its).update (s.heap.objs.size + 1) (Obj.mapSeq fun _ => (#[] : Array Value))).get? (s.heap.objs.size + 1) = some (seqObj "list" #[] e1) := ⟨_, get?_update_seq h1 fun _ => #[]⟩
  have la : s.heap.objs.size + 1 < (copyHeap s.heap its).objs.size := Heap.lt_size h1
  unfold ksk_tree
  refine wpAny_bind (listItems_at h1 rfl ?_)
  refine wpAny_bind (listUpdate_at h1 rfl ?_ (by rw [List.size_toArray]; exact hzl) (Nat.zero_le _))
  refine wpAny_bind (seqEpoch_at h2 rfl ?_)
  refine wpAny_bind (wpAny_newTuple ?_ (by show its.length ≤ _; exact hzl))
  refine wpAny_bind (wpAny_newList ?_ (Nat.zero_le _))
  refine wpAny_holding ?_
  -- the heap ahead of the first key
  generalize hA : s.heap.objs.size + 1 = aL at h1 h2 la ⊢
  have hS2 : ((copyHeap s.heap its).update aL (Obj.mapSeq fun _ => (#[] : Array Value))).objs.size = (copyHeap s.heap its).objs.size := Heap.size_update ..
  generalize hG : (((copyHeap s.heap its).update aL (Obj.mapSeq fun _ => (#[] : Array Value))).push (seqObj "tuple" its.toArray 0)) = hT
  have sT : hT.objs.size = (copyHeap s.heap its).objs.size + 1 := by
    rw [← hG, Heap.size_push, hS2]
  have old0 : ∀ b o, s.heap.get? b = some o → hT.get? b = some o := fun b o e => by
    rw [← hG]
    have hb : b ≠ aL := by
      rw [← hA]
      exact Nat.ne_of_lt (Nat.lt_succ_of_lt (Heap.lt_size e))
    exact Heap.get?_push_of_some _ ((Heap.get?_update_ne _ _ _ _ hb).trans (copyHeap_old e))
  have aT : hT.get? aL = some (seqObj "list" #[] e1) := by
    rw [← hG]
    exact Heap.get?_push_of_some _ h2
  have nB : s.heap.objs.size ≤ aL := by
    rw [← hA]
    exact Nat.le_succ _
  have kB : s.heap.objs.size ≤ hT.objs.size := by
    rw [sT]
    omega
  have neK : hT.objs.size ≠ aL := by
    rw [sT]
    omega
  generalize hK : hT.objs.size = kS at kB neK ⊢
  have nF : ∀ b : Addr, s.heap.objs.size ≤ b → b ∉ X.fs := fun b hb => I.nofs hb
  show wpAny _ _ (ksk_rest aL (.ref f) false its.toArray e1 (.ref kS)) _ E' { s with heap := hT.push (seqObj "list" #[] 0), toks := s.toks }
  unfold ksk_rest
  refine wpAny_bind (wpAny_rule ?_)
  first
    | rw [List.forIn_toArray]
    | (rw [← Array.forIn_toList]; simp only [List.toList_toArray])
    | rw [← Array.forIn_toList]
  have fin : ∀ (s' : Shared) (H' : Hp) (kA : Array Value) (e : Nat) (kvs : List V), Inv X pins σ H' s' → Ext H H' → H' aL = none → H' kS = none → s'.heap.get? aL = some (seqObj "list" #[] e1) → s'.heap.get? kS = some (seqObj "list" kA e) →
      Vals kvs kA.toList → DpAll X.K H' kvs ks → wpAny (model X.prog X.w) X.A.in1.in1 (ksk_end aL false its.toArray e1 (.ref kS) kA) (fun fl s'' => fl = PySem.Fin.done (.ret .none) ∧ EP X pins σ Q (.ref aL) s'') E' s' := by
    intro s' H' kA e kvs J eH na nk ra rk rk2 dk
    obtain ⟨as, rr⟩ := Dp.readsAll J ks kvs kA.toList dk rk2
    have hk' : EachIs (fun v d => ∃ as, Reads s'.heap v d as) kA.toList ks := each_of_reads rr
    have hsz : kA.size = its.length := by
      have h3 := hk'.length
      rw [Array.length_toList] at h3
      rw [h3, hlen, hvl]
    have kp : KeepsBut aL (hideAll s'.heap [kS]) s'.heap := fun b o _ eb => of_hideAll [kS] eb
    refine keyH_end (κ := dataKind s'.heap ks) (h₁ := hideAll s'.heap [kS]) kp (hideAll_none [kS] (List.mem_singleton.mpr rfl)) rk ra neK
      (SortsAt.data (s := s') hk' hal hsk fun d hd => by
        have h4 := hdp d hd
        show X.A.units + 1 + 1 + d.depth < cLine
        omega) hsz hzl fun h' tk c kb ha' => ⟨rfl, ?_⟩
    -- what stands behind the sort
    have each1 : EachIs (fun (v : Value) (p : V × PyData) => RelV p.1 v) its (xs.zip ks) := by
      have aux : ∀ {ys : List V} {us : List Value} {ds : List PyData}, Vals ys us → ds.length = ys.length → EachIs (fun (v : Value) (p : V × PyData) => RelV p.1 v) us (ys.zip ds) := by
        intro ys us ds r
        induction r generalizing ds with
        | nil =>
          intro hd
          cases ds with
          | nil => exact .nil
          | cons _ _ => cases hd
        | cons r1 _ ih =>
          intro hd
          cases ds with
          | nil => cases hd
          | cons d ds => exact .cons r1 (ih (Nat.succ.inj hd))
      exact aux rv hlen
    have ez : (xs.zip ks).map (·.2) = ks := by
      rw [List.map_snd_zip]
      omega
    have ko : KeyedOut false ((xs.zip ks).map (·.2)) its (sortVals (dataKind s'.heap ks) false kA.toList its) := by
      rw [ez]
      exact ⟨s'.heap, kA.toList, hal, rfl, hk'⟩
    have eo := keyedOut_each (R := fun (v : Value) (p : V × PyData) => RelV p.1 v) (·.2) ko each1
    have vo : Vals (((xs.zip ks).mergeSort (dataLe false (·.2))).map (·.1)) (sortVals (dataKind s'.heap ks) false kA.toList its) := by
      have aux : ∀ {us : List Value} {ps : List (V × PyData)}, EachIs (fun (v : Value) (p : V × PyData) => RelV p.1 v) us ps → Vals (ps.map (·.1)) us := by
        intro us ps r
        induction r with
        | nil => exact .nil
        | cons r1 _ ih => exact .cons r1 ih
      exact aux eo
    have hlo : (((xs.zip ks).mergeSort (dataLe false (·.2))).map (·.1)).length ≤ sizeLine := by
      rw [List.length_map, List.length_mergeSort, List.length_zip]
      omega
    have keep' : ∀ b u, b ∉ [aL, kS] → s'.heap.get? b = some u → h'.get? b = some u := fun b u hb e => by
      have hb2 : b ≠ aL ∧ b ≠ kS := ⟨fun z => hb (by rw [z]; exact List.mem_cons_self), fun z => hb (by rw [z]; exact List.mem_cons_of_mem _ List.mem_cons_self)⟩
      exact kb b u hb2.1 (hideAll_get [kS] e fun z => hb2.2 (List.mem_singleton.mp z))
    exact ⟨.ref aL, _, inv_track (o := .lst (((xs.zip ks).mergeSort (dataLe false (·.2))).map (·.1))) B J (ch := [aL, kS]) (fun b hb => by
        rcases List.mem_cons.mp hb with z | z
        · rw [z]
          exact ⟨nB, na⟩
        · rw [List.mem_singleton.mp z]
          exact ⟨kB, nk⟩) List.mem_cons_self keep' ⟨hlo, _, c, vo, ha'⟩, rfl, q aL H' eH na⟩
  let G : Nat → Shared → Prop := fun i s' => ∃ (H' : Hp) (kA : Array Value) (e : Nat) (kvs : List V), Inv X pins σ H' s' ∧ Ext H H' ∧ H' aL = none ∧ H' kS = none ∧ s'.heap.get? aL = some (seqObj "list" #[] e1) ∧ s'.heap.get? kS = some (seqObj "list" kA e) ∧
    s'.heap.get? f = some of ∧ H' f = none ∧ Vals kvs kA.toList ∧ DpAll X.K H' kvs (ks.take i)
  refine wpAny_bind (ksk_fold G its 0 _ ⟨H, #[], 0, [], I.kept fun b o e => Heap.get?_push_of_some _ (old0 b o e), Ext.rfl', I.hok.fresh nB, I.hok.fresh kB, Heap.get?_push_of_some _ aT, by rw [← hK]; exact Heap.get?_push_size _ rfl,
    Heap.get?_push_of_some _ (old0 _ _ hf), hfn, .nil, by rw [List.take_zero]; exact .nil⟩ ?step ?done)
  case done =>
    rintro s' ⟨H', kA, e, kvs, J, eH, na, nk, ra, rk, rf, nf, rk2, dk⟩
    try dsimp only
    refine wpAny_bind (listItems_at rk rfl ?_)
    have et : ks.take (0 + its.length) = ks := List.take_of_length_le (by omega)
    rw [et] at dk
    exact fin s' H' kA e kvs J eH na nk ra rk rk2 dk
  case step =>
    rintro j u s' hu' ⟨H', kA, e, kvs, J, eH, na, nk, ra, rk, rf, nf, rk2, dk⟩
    simp only [Nat.zero_add] at dk ⊢
    have hj : j < its.length := (List.getElem?_eq_some_iff.mp hu').1
    obtain ⟨x, hx, rx⟩ : ∃ x, xs[j]? = some x ∧ RelV x u := by
      have hjx : j < xs.length := by omega
      obtain ⟨u2, h5, h6⟩ := rv.get (List.getElem?_eq_getElem hjx)
      rw [hu'] at h5
      rw [Option.some.inj h5]
      exact ⟨_, List.getElem?_eq_getElem hjx, h6⟩
    obtain ⟨d, hd⟩ : ∃ d, ks[j]? = some d := ⟨_, List.getElem?_eq_getElem (by omega)⟩
    have J2 : Inv X ((kS, seqObj "list" kA e) :: (aL, seqObj "list" #[] e1) :: (f, of) :: pins) σ H' s' := J.pins_of fun p hp => by
      rcases List.mem_cons.mp hp with z | hp
      · rw [z]
        exact ⟨rk, nk, Nat.ne_of_gt (Nat.lt_of_lt_of_le B.loc kB), nF _ kB, fun v z => by cases z⟩
      · rcases List.mem_cons.mp hp with z | hp
        · rw [z]
          exact ⟨ra, na, Nat.ne_of_gt (Nat.lt_of_lt_of_le B.loc nB), nF _ nB, fun v z => by cases z⟩
        · rcases List.mem_cons.mp hp with z | hp
          · rw [z]
            exact ⟨rf, nf, hfl, hfs, hfc⟩
          · exact J.pin p (List.mem_append_right _ hp)
    refine wpAny_bind (wpAny_attempt (wpAny_mono (turn j x d u _ s' H' hx hd rx J2 eH rf) (fun v s'' he => ?_) fun _ _ hF => hF.elim))
    obtain ⟨kv, H2, K2, rkv, eH2, dkv⟩ := he
    have pinE : ∀ p, p ∈ (kS, seqObj "list" kA e) :: (aL, seqObj "list" #[] e1) :: (f, of) :: pins → s''.heap.get? p.1 = some p.2 ∧ H2 p.1 = none := fun p hp => ⟨(K2.pin p (List.mem_append_right _ hp)).1, (K2.pin p (List.mem_append_right _ hp)).2.1⟩
    have K3 : Inv X pins σ H2 s'' := K2.pins_of fun p hp => K2.pin p (List.mem_append_right _ (List.mem_cons_of_mem _ (List.mem_cons_of_mem _ (List.mem_cons_of_mem _ hp))))
    obtain ⟨rk', nk'⟩ := pinE (kS, seqObj "list" kA e) List.mem_cons_self
    obtain ⟨ra', na'⟩ := pinE (aL, seqObj "list" #[] e1) (List.mem_cons_of_mem _ List.mem_cons_self)
    obtain ⟨rf', nf'⟩ := pinE (f, of) (List.mem_cons_of_mem _ (List.mem_cons_of_mem _ List.mem_cons_self))
    try dsimp only
    have hkl : kA.size ≤ its.length := by
      have h7 : kvs.length = kA.toList.length := L2.Vals.length rk2
      have h8 : kvs.length = (ks.take j).length := by
        have aux : ∀ {ys : List V} {ds : List PyData}, DpAll X.K H' ys ds → ys.length = ds.length := by
          intro ys
          induction ys with
          | nil =>
            intro ds h
            cases h
            rfl
          | cons y ys ih =>
            intro ds h
            cases h with
            | cons _ h2 => exact congrArg Nat.succ (ih h2)
        exact aux dk
      have h9 : kA.toList.length = kA.size := by simp
      have h10 : (ks.take j).length ≤ j := by
        rw [List.length_take]
        exact Nat.min_le_left _ _
      omega
    obtain ⟨c2, hc2⟩ : ∃ c2, (s''.heap.update kS (Obj.mapSeq (·.push v))).get? kS = some (seqObj "list" (kA.push v) c2) := ⟨_, get?_update_seq rk' (·.push v)⟩
    have kp2 : ∀ b o, b ≠ kS → s''.heap.get? b = some o → (s''.heap.update kS (Obj.mapSeq (·.push v))).get? b = some o := fun b o hb e => (Heap.get?_update_ne _ _ _ _ hb).trans e
    refine wpAny_bind (listUpdate_at rk' rfl ?_ (Nat.le_trans hkl hzl) (by rw [Array.size_push]; omega))
    have nfS : f ≠ kS := fun z => Nat.lt_irrefl _ (Nat.lt_of_lt_of_le (by rw [z] at hf; exact Heap.lt_size hf) kB)
    have ek : ks.take (j + 1) = ks.take j ++ [d] := by rw [List.take_add_one, hd]; simp
    have ea : (kA.push v).toList = kA.toList ++ [v] := by simp
    refine wpAny_pure ⟨rfl, H2, kA.push v, c2, kvs ++ [kv], inv_poke (t' := s''.toks) B K3 kB nk' kp2, eH.tr eH2, na', nk', kp2 _ _ neK.symm ra', hc2, kp2 _ _ nfS rf', nf', ?_, ?_⟩
    · rw [ea]
      exact rk2.append (.cons rkv .nil)
    · rw [ek]
      exact dpAll_snoc dkv (dpAll_ext eH2 dk)
end

/-- sorted(e, key=lambda ..): te reads e, tb the lambda's body, over the slots that it captures -/
def tSortLam (T : List (Addr × Str)) (K : Frag) (te tb : TE) (N : List Str) (js : List Nat) : TE := fun σ H Q => te σ H fun x H1 => Tabs T H1 ∧ ∀ H2, ExtN H1 H2 → Tabs T H2 →
  ∃ (a : Addr) (xs : List V) (ks : List PyData), x = .ref a ∧ SqL K H2 a xs ∧ ks.length = xs.length ∧ AllAlike ks ∧ Sortable ks ∧ (∀ d ∈ ks, d.depth ≤ 8) ∧
  (∀ (i : Nat) (y : V) (d : PyData) (H' : Hp), xs[i]? = some y → ks[i]? = some d → Ext H2 H' → tb (startF N [y] (js.map (slotAt σ))) H' fun v H'' => Ext H' H'' ∧ Dp K H'' v d) ∧
  ∀ (p : Addr) (H' : Hp), Ext H2 H' → H' p = none → Q (.ref p) (upd H' p (.lst (((xs.zip ks).mergeSort (dataLe false (·.2))).map (·.1))))
def one1 (B : V → Hp → Prop) : List V → Hp → Prop
  | [x], H => B x H
  | _, _ => False
section
variable {X : Cx}
theorem pe_sortLam {T : List (Addr × Str)} {c P : Addr} {e : Expr} {te tb : TE} {params : Arguments} {body : Expr} {scope : Scope} {N ps fr : List Str} {js : List Nat} {k : Nat} {p pos lpos kpos : Pos}
    (hg : Gl X "sorted") (hm : X.mg "sorted" = none) (TB : TabB X.base X.mg c P) (hcode : X.env.code = .ref c) (hmT : (P, X.env.qual ++ "<lambda>") ∈ T) (hu : ∀ p ∈ T, p.1 = P → p.2 = X.env.qual ++ "<lambda>") (hr : Room (k + 3) X.A)
    (hdef : defaultsOf params X.env = ([], [])) (S : NScope N ps fr scope) (hp1 : ps.length = 1) (hfree : ∀ y ∈ scope.names, y.2 = .free → X.env.scope.names.lookup y.1 = some .cell ∨ X.env.scope.names.lookup y.1 = some .free)
    (hfr : ∀ y ∈ fr, (y, NameKind.free) ∈ scope.names) (hjs : js.map (fun j => X.N[j]?) = fr.map some)
    (hb : ∀ (q : Str) (cl : List (Str × Addr)) (pm cv ctv : Value) (us : List Value), us.length = ps.length → bindArgs (kla_fn "<lambda>" q params body scope cl pm cv ctv) ⟨us, []⟩ = pure (ps.zip us))
    (he : PE X e te)
    (hbody : ∀ (A : Around) (outer : List Env) (s : Shared) (H : Hp) (q : Str) (cl : List (Str × Addr)) (f c' : Addr), Room k (A.deeper (envF ⟨"<lambda>", q, params, [], scope, cl, c'⟩ f s.heap.objs.size)) → PE (ncx CX0 X.prog X.w X.K X.mg X.base N ⟨"<lambda>", q, params, [], scope, cl, c'⟩ f A outer s H E0) body tb)
    (h1 : backTo pos (starEach [e] X.env) = (false, eval e X.env) :: backTo pos (starEach [] X.env) := by rfl) (h2 : (backTo pos (starEach [e] X.env)).any (·.1) = false := by rfl) (h0 : starEach [e] X.env = (false, eval e X.env) :: starEach [] X.env := by rfl) :
    PE X (.Call (.Name "sorted" p) [e] [⟨some "key", .Lambda params body scope lpos, kpos⟩] pos) (tSortLam T X.K te tb N js) := by
  refine ⟨fun pins s σ H Q I h => ?_⟩
  refine wpAny_Call_Name_kw (ld_blt I hg hm boot_sorted ?_ (by decide) (by decide))
  refine PyProof.Rows.callWith_kw (thn ((pa_cons he pa_nil h0).run pos pins s σ H (one1 _) I h) fun us s1 ⟨vs, H1, I1, r1, q1⟩ => ?_) h1 h2 (by rfl) (by rfl)
  obtain ⟨x, rfl⟩ : ∃ x, vs = [x] := by
    match vs, q1 with
    | [x], _ => exact ⟨x, rfl⟩
  obtain ⟨u, rfl, ru⟩ := vals1 r1
  obtain ⟨hT, q2⟩ := (show Tabs T H1 ∧ _ from q1)
  show wpAny _ _ (evalAll ((do let v ← eval (.Lambda params body scope lpos) X.env; standAt pos; pure v) :: (backToKw pos (keywordEach [] X.env)).map (·.2))) _ _ s1
  have hfre : ∀ y ∈ scope.names, y.2 = .free → ∃ c, X.env.cells.lookup y.1 = some c := fun y hy e => (hfree y hy e).elim (fun z => I1.ok.has _ (.inl z)) fun z => I1.ok.has _ (.inr z)
  refine wpAny_evalAll_cons (wpAny_bind (lam_make2 I1 TB hcode hmT hu hT hdef hfre fun f c' pm ctv H2 s2 I2 eN T2 hf hfn hfst hco => wpAny_bind (wpAny_standAt (wpAny_pure ?_))))
  refine wpAny_evalAll_nil ?_
  obtain ⟨a, xs, ks, rfl, ha, hlen, hal, hsk, hdp, turn, q⟩ := q2 H2 eN T2
  cases ru
  have fl : f ≠ X.env.locals := fun z => by
    obtain ⟨m, ⟨ob, es, ep, e1, e2, _⟩, _⟩ := I2.loc
    rw [← z, hf] at e1
    cases e1
    cases e2
  have fs : f ∉ X.fs := fun z => hfst (by
    rcases I2.ok.stk with e | ⟨e, _⟩
    · rw [e]
      exact z
    · rw [e]
      unfold frs
      rw [List.filterMap_cons]
      split
      · exact z
      · exact List.mem_cons_of_mem _ z)
  have un := hr.un
  show wpAny (model X.prog X.w) X.A (call (.builtin "sorted") [.ref a] [(Str.ofString "key", .ref f)]) (EP X pins σ Q) X.xe s2
  refine sort_run I2 hr.hd (by omega) hf hfn fl fs (fun v z => by cases z) ha hlen hal hsk hdp (fun i y d u pins' s' H' hy hd ry J eH rf => ?_) q
  have cp := Caps.made (fr := fr) (js := js) J.ok hfree hfr hjs
  exact lam_run J J.env0.in1.in1 (hr.in1.in1) S (cells_of J cp) rf (eH _ _ hco) (fun us hl => hb _ _ _ _ _ us hl) hbody (.cons ry .nil) (by rw [hp1]; rfl) (turn i y d H' hy hd eH)
end
end BbS
/-! ## part SetRules -/
/-! sets of numbers and texts: set(list), sorted(set), len(set) -/
namespace BbS
open PySem PySem.Spec PyProof.Rows L2 PySem.W

def keyM : Value → Key
  | .int k _ => .inl k
  | .str x _ => .inr x
  | _ => .inl 0
theorem keyM_is {k : Key} {v : Value} (h : keyIs k v = true) : keyM v = k := by
  rcases keyIs_shape h with ⟨i, t, rfl, rfl⟩ | ⟨x, t, rfl, rfl⟩ <;> rfl
theorem key_rel {k : Key} {v : Value} (h : keyIs k v = true) : RelV (kV k) v := by
  rcases keyIs_shape h with ⟨i, t, rfl, rfl⟩ | ⟨x, t, rfl, rfl⟩
  · exact ⟨t, rfl⟩
  · exact ⟨t, rfl⟩
theorem rel_key {k : Key} {v : Value} (h : RelV (kV k) v) : keyIs k v = true := by
  cases k with
  | inl i =>
    obtain ⟨t, e⟩ := (show ∃ t, v = Value.int i t from h)
    rw [e]
    exact keyIs_int i t
  | inr x =>
    obtain ⟨t, e⟩ := (show ∃ t, v = Value.str x t from h)
    rw [e]
    exact keyIs_str x t

/-- the set at a: its members L, in whatever order -/
def SetM (P : Program) (w : World) (h : Heap) (a : Addr) (L : List Key) : Prop :=
  ∃ o es ep t, h.get? a = some o ∧ o.ExactSet ∧ o.data = .set es ep t ∧ ElemsOf (mixKind P w) es.toList ∧ (es.toList.map fun e => keyM e.2).Perm L ∧ L.Nodup ∧ es.size < scanBound ∧ t.fits es.size = true ∧
    Ris t.place.toList ∧ (w.params.followText "set-order" = true ∨ t.led = true)
section
variable {P : Program} {w : World} {h h' : Heap} {a : Addr} {L : List Key}
theorem SetM.at_ (R : SetM P w h a L) (k : ∀ o, h.get? a = some o → h'.get? a = some o) : SetM P w h' a L := by
  obtain ⟨o, es, ep, t, ho, r⟩ := R
  exact ⟨o, es, ep, t, k o ho, r⟩
theorem elem_is {l : List (Int × Value)} (g : ElemsOf (mixKind P w) l) {e : Int × Value} (he : e ∈ l) (k : Key) : (mixKind P w).is k e.2 = true ↔ keyM e.2 = k := by
  obtain ⟨⟨k', h1, _⟩, _⟩ := g e he
  have h2 : keyM e.2 = k' := keyM_is h1
  constructor
  · exact fun z => keyM_is z
  · intro z
    rw [h2] at z
    rw [← z]
    exact h1
theorem SetM.size {o : Obj} (R : SetM P w h a L) : ∃ o es ep t, h.get? a = some o ∧ o.ExactSet ∧ o.data = .set es ep t ∧ t.fits es.size = true ∧ es.size = L.length := by
  obtain ⟨o, es, ep, t, ho, hx, hd, _, pm, _, _, hf, _⟩ := R
  refine ⟨o, es, ep, t, ho, hx, hd, hf, ?_⟩
  have e := pm.length_eq
  rw [List.length_map] at e
  simpa using e
end

section
variable {P : Program} {w : World} {A : Around} {E : Value → Shared → Prop} {s : Shared} {a : Addr} {L : List Key}
theorem laidSet {h : Heap} {a : Addr} {o : Obj} {es es' : Array (Int × Value)} {ep : Nat} {t t' : SetTable} (ho : h.get? a = some o) (hd : o.data = .set es ep t) :
    (h.update a (Obj.putSet es' t')).get? a = some { o with data := .set es' (ep + 1) t' } := by
  have q := Heap.get?_update_self (Obj.putSet es' t') ho (by rw [putSet_of es' t' hd]; rfl)
  rwa [putSet_of es' t' hd] at q

theorem setM_tail {g : Bool → Sem Unit} (hg : ∀ (b : Bool) (s₁ : Shared) (Q' : Unit → Shared → Prop), Q' () s₁ → wpAny (model P w) A (g b) Q' E s₁) {o : Obj} {es : Array (Int × Value)} {ep : Nat} {t : SetTable} (ho : s.heap.get? a = some o) (hex : o.ExactSet)
    (hd : o.data = .set es ep t) {es1 : Array (Int × Value)} {t2 : SetTable} (g1 : ElemsOf (mixKind P w) es1.toList) (pm1 : (es1.toList.map fun e => keyM e.2).Perm L) (nd : L.Nodup) (hb1 : es1.size < scanBound) (hf2 : t2.fits es1.size = true)
    (hr : Ris t2.place.toList) (hl : w.params.followText "set-order" = true ∨ t2.led = true) {wasDummy : Bool} {R : Option Bool → Shared → Prop} (hR : ∀ h', Heap.SameBut a s.heap h' → SetM P w h' a L → R (some true) { s with heap := h' }) :
    wpAny (model P w) A (do
        storeSet a es1 t2
        if (!wasDummy && t2.tooFull) = true then do
            g (relayAll t2 es1 (SetTable.grown es1.size)).2.2
            storeSet a (relayAll t2 es1 (SetTable.grown es1.size)).1 (relayAll t2 es1 (SetTable.grown es1.size)).2.1
            pure (some true)
          else pure (some true)) R E s := by
  refine wpAny_bind (wpAny_storeSet_of ho hd ?_ (fits_of_scanBound hb1))
  have o1 := laidSet (es' := es1) (t' := t2) ho hd
  have b1 := Heap.SameBut.update s.heap a (Obj.putSet es1 t2)
  split
  · have r1 := relayAll_perm t2 es1 (SetTable.grown es1.size)
    have r2 := relayAll_fits t2 es1 (SetTable.grown es1.size)
    have r3 := relayAll_ris t2 es1 (SetTable.grown es1.size)
    have r4 := relayAll_led t2 es1 (SetTable.grown es1.size)
    generalize relayAll t2 es1 (SetTable.grown es1.size) = Z at r1 r2 r3 r4 ⊢
    obtain ⟨es2, t3, gv⟩ := Z
    dsimp only at r1 r2 r3 r4 ⊢
    have ez : es2.size = es1.size := by
      have z := r1.length_eq
      simpa using z
    have b2 : es2.size < scanBound := by omega
    refine wpAny_bind (hg _ _ _ (wpAny_bind (wpAny_storeSet_of o1 rfl ?_ (fits_of_scanBound b2))))
    have o2 := laidSet (es' := es2) (t' := t3) o1 rfl
    exact wpAny_pure (hR _ (b1.trans (Heap.SameBut.update _ a _)) ⟨_, es2, _, t3, o2, hex, rfl, fun e he => g1 e (r1.mem_iff.mp he), (r1.map _).trans pm1, nd, b2, r2, r3, hl.imp id fun z => r4.trans z⟩)
  · exact wpAny_pure (hR _ b1 ⟨_, es1, _, t2, o1, hex, rfl, g1, pm1, nd, hb1, hf2, hr, hl⟩)

/-- what adding k makes of the members -/
def hasK (L : List Key) (k : Key) : Bool := L.any fun j => decide (j = k)
theorem hasK_iff {L : List Key} {k : Key} : hasK L k = true ↔ k ∈ L := by
  unfold hasK
  rw [List.any_eq_true]
  constructor
  · rintro ⟨j, hj, e⟩
    rw [← of_decide_eq_true e]
    exact hj
  · exact fun h => ⟨k, h, decide_eq_true rfl⟩
def addK (L : List Key) (k : Key) : List Key := if hasK L k = true then L else k :: L

theorem setM_add {k : Key} {v : Value} {Q : Bool → Shared → Prop} (hv : keyIs k v = true) (R : SetM P w s.heap a L) (room : L.length + 1 < scanBound)
    (hQ : ∀ h' b, Heap.SameBut a s.heap h' → SetM P w h' a (addK L k) → Q b { s with heap := h' }) : wpAny (model P w) A (setAddHashed a v ((mixKind P w).hash k)) Q E s := by
  obtain ⟨o, es, ep, t, ho, hex, hd, g, pm, nd, hb, hf, hr, hl⟩ := R
  have hkey : (mixKind P w).is k v = true := hv
  have hsc : v.scannable = true := key_scan (key_rel hv)
  unfold setAddHashed setAddHashedIn
  refine wpAny_holding (wpAny_bind (wpAny_setState_of ho hd hf ?_))
  dsimp only
  rw [byScan_of hsc hb g]
  simp only [↓reduceIte]
  unfold setAddByScan
  refine wpAny_bind (wpAny_bind (wpAny_rule (wpAny_bind (wpAny_setScan_of hkey ho hd hf g ?_))))
  cases hfi : List.findIdx? (fun e => (mixKind P w).is k e.2) es.toList with
  | some j =>
    dsimp only
    obtain ⟨hj, pj, _⟩ := List.findIdx?_eq_some_iff_getElem.mp hfi
    have hm : k ∈ L := pm.mem_iff.mp (List.mem_map.mpr ⟨es.toList[j], List.getElem_mem hj, (elem_is g (List.getElem_mem hj) k).mp pj⟩)
    refine wpAny_pure (wpAny_pure (hQ s.heap _ (Heap.SameBut.refl a s.heap) ?_))
    unfold addK
    rw [if_pos (hasK_iff.mpr hm)]
    exact ⟨o, es, ep, t, ho, hex, hd, g, pm, nd, hb, hf, hr, hl⟩
  | none =>
    dsimp only
    have hm : k ∉ L := fun z => by
      obtain ⟨e, he, q⟩ := List.mem_map.mp (pm.mem_iff.mpr z)
      have c := List.findIdx?_eq_none_iff.mp hfi e he
      rw [(elem_is g he k).mpr q] at c
      cases c
    have eL : addK L k = k :: L := by
      unfold addK
      exact if_neg fun z => hm (hasK_iff.mp z)
    have gw : ∀ (b : Bool) {s₁ : Shared} {Q' : Unit → Shared → Prop}, Q' () s₁ → wpAny (model P w) A (match b with | true => rule "set.scan.the-table-gave-way" | false => pure ()) Q' E s₁ := fun b s₁ Q' q => by
      cases b
      · exact wpAny_pure q
      · exact wpAny_rule q
    have p1 := layNew_perm t es ((mixKind P w).hash k) v
    have p2 := layNew_fits t es ((mixKind P w).hash k) v
    have p3 := layNew_ris t es ((mixKind P w).hash k) v hr
    have p4 := layNew_led t es ((mixKind P w).hash k) v
    generalize layNew t es ((mixKind P w).hash k) v = Z at p1 p2 p3 p4 ⊢
    obtain ⟨es1, t1, wasDummy, gave⟩ := Z
    dsimp only at p1 p2 p3 p4 ⊢
    rw [Array.toList_push] at p1
    have pc : es1.toList.Perm (((mixKind P w).hash k, v) :: es.toList) := p1.trans (List.perm_append_singleton _ _)
    have pk : (es1.toList.map fun e => keyM e.2).Perm (k :: L) := by
      have z := pc.map fun e => keyM e.2
      rw [List.map_cons, keyM_is hv] at z
      exact z.trans (pm.cons k)
    have g1 : ElemsOf (mixKind P w) es1.toList := fun e he => by
      rcases List.mem_cons.mp (pc.mem_iff.mp he) with z | z
      · rw [z]
        exact ⟨⟨k, hkey, rfl⟩, hsc⟩
      · exact g e z
    have nd1 : (k :: L).Nodup := List.nodup_cons.mpr ⟨hm, nd⟩
    have ez : es1.size = L.length + 1 := by
      have z := pk.length_eq
      simpa using z
    have hled : w.params.followText "set-order" = true ∨ t1.led = true := hl.imp id fun z => p4.trans z
    have fin : ∀ h', Heap.SameBut a s.heap h' → SetM P w h' a (k :: L) → Q true { s with heap := h' } := fun h' sb r => hQ h' true sb (by rw [eL]; exact r)
    refine wpAny_bind (gw _ ?_)
    split
    · refine wpAny_bind ?_
      rw [hashByValue_scannable 8 hsc]
      refine wpAny_pure ?_
      refine setM_tail ?_ ho hex hd g1 pk nd1 (by omega) ?_ ?_ ?_ fun h' sb r => (by dsimp only; exact wpAny_pure (fin h' sb r))
      · exact fun b s₁ Q' q => gw b q
      · first | (split <;> first | exact p2 | exact SetTable.fits_plain_off p2) | exact p2
      · first | (split <;> exact p3) | exact p3
      · first | (split <;> exact hled) | exact hled
    · refine wpAny_bind (wpAny_pure ?_)
      simp only [↓reduceIte]
      refine setM_tail ?_ ho hex hd g1 pk nd1 (by omega) p2 p3 hled fun h' sb r => (by dsimp only; exact wpAny_pure (fin h' sb r))
      exact fun b s₁ Q' q => gw b q
end

/-- the members of set(ks) -/
def membs (ks : List Key) : List Key := ks.foldl addK []
theorem addK_len (L : List Key) (k : Key) : (addK L k).length ≤ L.length + 1 := by
  unfold addK
  split
  · exact Nat.le_succ _
  · exact Nat.le_refl _
theorem addK_mem (L : List Key) (k j : Key) : j ∈ addK L k ↔ j ∈ L ∨ j = k := by
  unfold addK
  split
  · rename_i h
    have h2 := hasK_iff.mp h
    exact ⟨.inl, fun z => z.elim id fun e => by rw [e]; exact h2⟩
  · rw [List.mem_cons]
    exact Or.comm
theorem foldK_len : ∀ (ks L : List Key), (ks.foldl addK L).length ≤ L.length + ks.length
  | [], L => Nat.le_refl _
  | k :: ks, L => by
    have h1 := foldK_len ks (addK L k)
    have h2 := addK_len L k
    rw [List.foldl_cons, List.length_cons]
    omega
theorem foldK_mem : ∀ (ks L : List Key) (j : Key), j ∈ ks.foldl addK L ↔ j ∈ L ∨ j ∈ ks
  | [], L, j => by simp
  | k :: ks, L, j => by
    rw [List.foldl_cons, foldK_mem ks (addK L k) j, addK_mem, List.mem_cons, or_assoc]
theorem membs_len (ks : List Key) : (membs ks).length ≤ ks.length := by
  have h := foldK_len ks []
  show (ks.foldl addK []).length ≤ ks.length
  simpa using h
theorem membs_mem (ks : List Key) (j : Key) : j ∈ membs ks ↔ j ∈ ks := by
  unfold membs
  rw [foldK_mem]
  simp
theorem foldK_fresh : ∀ (ks L : List Key), (∀ k ∈ ks, k ∉ L) → ks.Nodup → (ks.foldl addK L).length = L.length + ks.length
  | [], L, _, _ => rfl
  | k :: ks, L, hd, nd => by
    obtain ⟨n1, n2⟩ := List.nodup_cons.mp nd
    have e : addK L k = k :: L := by
      unfold addK
      exact if_neg fun z => hd k List.mem_cons_self (hasK_iff.mp z)
    rw [List.foldl_cons, e, foldK_fresh ks (k :: L) (fun j hj z => ?_) n2, List.length_cons, List.length_cons]
    · omega
    · rcases List.mem_cons.mp z with z | z
      · rw [z] at hj
        exact n1 hj
      · exact hd j (List.mem_cons_of_mem _ hj) z
theorem membs_nodup (ks : List Key) (h : ks.Nodup) : (membs ks).length = ks.length := by
  have q := foldK_fresh ks [] (fun _ _ z => by cases z) h
  show (ks.foldl addK []).length = ks.length
  simpa using q

section
variable {P : Program} {w : World} {A : Around} {E : Value → Shared → Prop} {s : Shared}
theorem setM_new {h : Heap} {a : Addr} (ho : h.get? a = some { cls := .type "set", dict := none, data := .set #[] 0 (.fresh 0 0 (!w.params.followText "set-order")) }) : SetM P w h a [] :=
  ⟨_, #[], 0, _, ho, ⟨rfl, rfl, rfl⟩, rfl, (fun e he => by simp at he), .nil, List.nodup_nil, (by decide), (by rfl), List.Pairwise.nil, by
    show _ ∨ (!w.params.followText "set-order") = true
    cases w.params.followText "set-order" with
    | true => exact .inl rfl
    | false => exact .inr rfl⟩
theorem setM_loop {I : Addr} {fp wr : List Addr} {G : Array GenState → Array GenState → Prop} {n : Nat} {Pv : Nat → Value → Prop} {St : Nat → Shared → Prop} {R : Result → Shared → Prop} (W : WalksS P w A.in1 I fp wr G n Pv St) (S : Addr) (hSf : S ∉ fp) (ks : List Key)
    (hn : n = ks.length) (hb : ks.length + 1 < scanBound) (hval : ∀ i v, Pv i v → ∃ k, ks[i]? = some k ∧ keyIs k v = true) : ∀ (m i : Nat) (s : Shared), n - i = m → i ≤ n → St i s → SetM P w s.heap S (membs (ks.take i)) →
      (∀ s', Moved (S :: wr) G s s' → SetM P w s'.heap S (membs ks) → R (.ok (.ret .none)) s') → codeAny (model P w) A (.builtin "set.update.loop" ⟨[.ref S, .ref I], []⟩) R s := by
  have nw : S ∉ wr := fun h => hSf (W.sub _ h)
  have sb : ∀ b ∈ wr, b ∈ S :: wr := fun b h => List.mem_cons_of_mem _ h
  intro m
  induction m with
  | zero =>
    intro i s hm hi hst hS hR
    obtain rfl : i = n := by omega
    refine codeAny_builtin F.entry_set_update_loop ?_
    rw [Around.under_plainId F.plain_set_update_loop _]
    show wpAny _ A.in1 (pyNext (.ref I) >>= _) _ _ s
    refine wpAny_bind (W.done s _ _ hst fun s' mv => ?_)
    show wpAny _ A.in1 (ret Value.none) _ _ s'
    rw [List.take_of_length_le (Nat.le_of_eq hn.symm)] at hS
    exact wpAny_pure (hR s' (mv.mono sb) (hS.at_ fun o e => mv.heap S o nw e))
  | succ m ih =>
    intro i s hm hi hst hS hR
    have lt : i < n := by omega
    refine codeAny_builtin F.entry_set_update_loop ?_
    rw [Around.under_plainId F.plain_set_update_loop _]
    show wpAny _ A.in1 (pyNext (.ref I) >>= _) _ _ s
    refine wpAny_bind (W.item i s _ _ lt hst fun v s' hP hst' mv => ?_)
    obtain ⟨k, hk, kv⟩ := hval i v hP
    have hS' : SetM P w s'.heap S (membs (ks.take i)) := hS.at_ fun o e => mv.heap S o nw e
    show wpAny _ A.in1 (holding [v] (setAdd S v) >>= _) _ _ s'
    refine wpAny_bind (wpAny_holding ?_)
    unfold setAdd
    have ln := membs_len (ks.take i)
    rw [List.length_take] at ln
    refine wpAny_holding (wpAny_bind ((mixKind P w).pyHash (k := k) kv (setM_add (s := { s' with toks := s'.toks + 1 }) kv hS' (by omega) fun h' b hsb hS2 => ?_)))
    have hS3 : SetM P w h' S (membs (ks.take (i + 1))) := by
      rw [List.take_add_one, hk]
      unfold membs at hS2 ⊢
      rw [List.foldl_append]
      exact hS2
    have off : ∀ c, c ≠ S → ∀ o, s'.heap.get? c = some o → h'.get? c = some o := fun c hc o e => (hsb.2 c hc).trans e
    refine wpAny_pure ⟨plainId_quiet F.plain_set_update_loop _, ih (i + 1) _ (by omega) lt (W.frame _ s' _ _ hst' (Nat.le_succ _) fun c hc o e => off c (fun z => hSf (z ▸ hc)) o e) hS3 fun s'' mv2 r2 => ?_⟩
    exact hR s'' (Moved.trans W.gtrans ((mv.mono sb).then_heap (Nat.le_succ _) fun c o hc e => off c (fun z => hc (by rw [z]; exact List.mem_cons_self)) o e) mv2) r2
end

section
variable {P : Program} {w : World} {A : Around} {E : Value → Shared → Prop} {s : Shared}
abbrev set0 (w : World) : Obj := { cls := .type "set", dict := none, data := .set #[] 0 (.fresh 0 0 (!w.params.followText "set-order")) }
/-- set(l), a list of numbers and texts -/
theorem call_setM {l : Addr} {items : Array Value} (ks : List Key) {Q : Value → Shared → Prop} (hh : A.handled = none) (hl : s.heap.IsList l items) (hsz : items.size = ks.length) (hit : ∀ (i : Nat) v, items[i]? = some v → ∃ k, ks[i]? = some k ∧ keyIs k v = true)
    (hb : ks.length + 1 < scanBound) (h : ∀ (h' : Heap) (tk : Nat), SetM P w h' s.heap.objs.size (membs ks) → (∀ b o, s.heap.get? b = some o → h'.get? b = some o) → Q (.ref s.heap.objs.size) { s with heap := h', toks := tk }) :
    wpAny (model P w) A (call (.type "set") [.ref l]) Q E s := by
  obtain ⟨c, tl, hmro⟩ := F.called_set.mro
  have hmade := F.called_set.made
  have hsub := F.called_set.sub
  refine wpAny_call (codeAny_of_tree ?_)
  show wpAny _ _ (callAny (.type "set") _) _ _ _
  refine wpAny_pure ⟨Code.quiet_builtin _ (by decide +kernel), codeAny_builtin F.entry_type_call ?_⟩
  rw [Around.under_plain (weight_type_call_type "set" [.ref l] []) rfl]
  have h1 := F.called_set.notType
  have h2 := F.called_set.canCreate
  have hct := F.typeCall_set_1 (.ref l)
  repeat (any_goals (first | assumption | wp_step))
  refine codeAny_mono (code_set_led1 (.ref l) (E := E) (Q₁ := fun obj s₁ => obj = .ref s.heap.objs.size ∧ s₁ = { s with heap := s.heap.push (set0 w) }) ⟨rfl, rfl⟩) fun r s₁ hr => ?_
  cases r with
  | error e => exact hr
  | ok fl =>
    cases fl with
    | ret obj =>
      obtain ⟨rfl, rfl⟩ := hr
      have hS : (s.heap.push (set0 w)).get? s.heap.objs.size = some (set0 w) := Heap.get?_push_size _ rfl
      have hT : Shared.TypeIs { s with heap := s.heap.push (set0 w) } (.ref s.heap.objs.size) "set" := ⟨_, hS, rfl⟩
      have hli := F.called_set.init.lookup
      have hbi := F.called_set.init.bind (.ref s.heap.objs.size)
      repeat (any_goals (first | assumption | wp_step))
      refine codeAny_mono (codeAny_call_builtin (R := wants (fun r s₂ => r = .none ∧ ∃ h' tk, s₂ = { s with heap := h', toks := tk } ∧ SetM P w h' s.heap.objs.size (membs ks) ∧ (∀ b o, s.heap.get? b = some o → h'.get? b = some o)) E)
        F.called_set.init.plain F.entry_set_init (check_set_init_1 hT ?_)) fun r₂ s₂ hr₂ => ?_
      · obtain ⟨⟨ocls, odict, odata, oslots⟩, hol, hcl, nl, hdl⟩ := hl
        simp only at hcl hdl
        subst hcl hdl
        have hol2 : (s.heap.push (set0 w)).get? l = some { cls := .type "list", dict := odict, data := .seq items nl, slots := oslots } := Heap.get?_push_of_some _ hol
        have hsls := F.sub_list_set
        have hslf := F.sub_list_frozenset
        have hne : (Value.type "list" == Value.type "dict") = false := by decide
        have isl : (s.heap.push (set0 w)).IsList l items := ⟨_, hol2, rfl, nl, rfl⟩
        unfold Builtin.«set.__init__» noKeywords Builtin.Frozenset.updateFrom
        generalize hPI : pyIter = PI
        wp_walk
        subst hPI
        refine wpAny_pyIter_list isl (wpAny_bind (wpAny_runValue ?_))
        have lS : l < s.heap.objs.size := Heap.lt_size hol
        have hh3 : A.in1.in1.in1.handled = none := by simp [hh]
        have zP : (s.heap.push (set0 w)).objs.size = s.heap.objs.size + 1 := Heap.size_push ..
        have neI : l ≠ (s.heap.push (set0 w)).objs.size := by
          rw [zP]
          exact Nat.ne_of_lt (Nat.lt_succ_of_lt lS)
        have nSf : s.heap.objs.size ∉ [(s.heap.push (set0 w)).objs.size, l] := by
          rw [zP]
          simp only [List.mem_cons, List.mem_singleton, List.not_mem_nil, or_false, not_or]
          exact ⟨Nat.ne_of_lt (Nat.lt_succ_self _), Nat.ne_of_gt lS⟩
        refine setM_loop ((Walks.list hh3 _ l neI items).toS) s.heap.objs.size nSf ks hsz hb hit (items.size - 0) 0 _ (by omega) (Nat.zero_le _) ⟨⟨_, Heap.get?_push_size _ rfl, rfl, rfl⟩, (isl.push _)⟩
          (by rw [List.take_zero]; exact setM_new (Heap.get?_push_of_some _ hS)) fun s' mv rS => ?_
        obtain ⟨h', g2, d2, tk2, os2⟩ := s'
        obtain rfl : g2 = s.gens := mv.gens
        obtain rfl : d2 = s.drawn := mv.drawn
        obtain rfl : os2 = s.os := mv.os
        show wpAny _ _ _ _ _ _
        refine wpAny_pure ?_
        show wpAny _ _ (ret Value.none) _ _ _
        refine wpAny_pure ⟨rfl, h', tk2, rfl, rS, fun b o e => ?_⟩
        have b0 : b < s.heap.objs.size := Heap.lt_size e
        refine mv.heap b o ?_ (Heap.get?_push_of_some _ (Heap.get?_push_of_some _ e))
        simp only [List.mem_cons, List.mem_singleton, List.not_mem_nil, or_false, not_or]
        exact ⟨Nat.ne_of_lt b0, by rw [zP]; exact Nat.ne_of_lt (Nat.lt_succ_of_lt b0)⟩
      · cases r₂ with
        | error e => exact hr₂
        | ok fl₂ =>
          cases fl₂ with
          | ret r =>
            obtain ⟨rfl, h', tk, rfl, hS', hk'⟩ := hr₂
            repeat (any_goals (first | assumption | wp_step))
            exact h _ _ hS' hk'
          | _ => exact hr₂.elim
    | _ => exact hr.elim
end

/-- a permutation of an image is the image of a permutation -/
theorem perm_pull {α β : Type} (f : α → β) : ∀ {l m : List β}, l.Perm m → ∀ {xs : List α}, m = xs.map f → ∃ ys : List α, ys.Perm xs ∧ l = ys.map f := by
  intro l m h
  induction h with
  | nil =>
    intro xs e
    cases xs with
    | nil => exact ⟨[], .refl _, rfl⟩
    | cons x xs => cases e
  | cons a _ ih =>
    intro xs e
    cases xs with
    | nil => cases e
    | cons x xs =>
      obtain ⟨e1, e2⟩ := List.cons.inj e
      obtain ⟨ys, p, q⟩ := ih e2
      exact ⟨x :: ys, p.cons x, by rw [e1, q]; rfl⟩
  | swap a b l =>
    intro xs e
    match xs, e with
    | x :: y :: xs, e =>
      obtain ⟨e1, e2⟩ := List.cons.inj e
      obtain ⟨e3, e4⟩ := List.cons.inj e2
      exact ⟨y :: x :: xs, .swap _ _ _, by rw [e1, e3, e4]; rfl⟩
  | trans _ _ ih1 ih2 =>
    intro xs e
    obtain ⟨ys, p, q⟩ := ih2 e
    obtain ⟨zs, p2, q2⟩ := ih1 q
    exact ⟨zs, p2.trans p, q2⟩
theorem each_of_map_eq {α β : Type} {R : Value → β → Prop} : ∀ {us : List Value} {bs : List β}, us.length = bs.length → (∀ (i : Nat) u b, us[i]? = some u → bs[i]? = some b → R u b) → EachIs R us bs
  | [], [], _, _ => .nil
  | [], _ :: _, h, _ => by cases h
  | _ :: _, [], h, _ => by cases h
  | u :: us, b :: bs, h, k => .cons (k 0 u b rfl rfl) (each_of_map_eq (α := α) (Nat.succ.inj h) fun i u' b' h1 h2 => k (i + 1) u' b' (by simpa using h1) (by simpa using h2))

section
variable {P : Program} {w : World} {A : Around} {E : Value → Shared → Prop} {s : Shared}
/-- sorted(set): the members are bs0 by kf, they read as enc -/
theorem sorted_setM {β : Type} {a : Addr} {L : List Key} {bs0 : List β} {kf : β → Key} {enc : β → PyData} {Q : Value → Shared → Prop} (R : SetM P w s.heap a L) (hL : L = bs0.map kf) (hh : A.handled = none) (hu : A.units + 20 < cLine)
    (hrd : ∀ (b : β) (v : Value) (h : Heap), keyIs (kf b) v = true → Reads h v (enc b) []) (hal : ∀ b b', alike (enc b) (enc b') = true) (hot : ∀ b, enc b ≠ .none ∧ ∀ xs, enc b ≠ .tuple xs) (hdp : ∀ b, (enc b).depth ≤ 1)
    (hQ : ∀ s' p (out : List Value) (c : Nat) (bs : List β), (∀ b o, s.heap.get? b = some o → s'.heap.get? b = some o) → s'.gens = s.gens → s'.os = s.os → s.heap.objs.size ≤ p → s'.heap.get? p = some (seqObj "list" out.toArray c) → bs.Perm bs0 →
      EachIs (fun v b => keyIs (kf b) v = true) out (bs.mergeSort (dataLe false enc)) → Q (.ref p) s') : wpAny (model P w) A (call (.builtin "sorted") [.ref a]) Q E s := by
  obtain ⟨o, es, ep, t, ho, hex, hd, g, pm, nd, hb, hf, hr, hl⟩ := R
  refine Calls.call_function_entry kind_sorted plain_sorted entry_sorted (args_sorted1 _) ?_
  unfold Builtin.«sorted»
  refine wpAny_bind (m := checkCount "sorted" 1 1 _) (wpAny_pure ?_)
  refine wpAny_bind (collect_set (A := A.in1) hh ⟨o, ho, hex.1, hd⟩ hf hb hr hl fun s1 vs k1 hz g1 o1 pv => ?_)
  have p1 : (vs.map keyM).Perm (bs0.map kf) := by
    have z := pv.map keyM
    rw [List.map_map] at z
    rw [← hL]
    exact z.trans pm
  obtain ⟨bs, pb, eb⟩ := perm_pull kf p1 rfl
  have hlen : vs.length = bs.length := by
    have z := congrArg List.length eb
    simpa using z
  have shp : ∀ v ∈ vs, ∃ k, keyIs k v = true := fun v hv => by
    obtain ⟨e, he, q⟩ := List.mem_map.mp (pv.mem_iff.mp hv)
    obtain ⟨⟨k, h1, _⟩, _⟩ := g e he
    rw [← q]
    exact ⟨k, h1⟩
  have each : EachIs (fun v b => keyIs (kf b) v = true) vs bs := each_of_map_eq (α := Nat) hlen fun i u b h1 h2 => by
    obtain ⟨k, hk⟩ := shp u (List.mem_of_getElem? h1)
    have e1 : (vs.map keyM)[i]? = some k := by
      rw [List.getElem?_map, h1]
      exact congrArg some (keyM_is hk)
    rw [eb, List.getElem?_map, h2] at e1
    have e2 : kf b = k := Option.some.inj e1
    rw [e2]
    exact hk
  have hvn : vs.length ≤ sizeLine := by
    have z := pv.length_eq
    rw [List.length_map] at z
    have z2 : es.toList.length = es.size := by simp
    have hb2 : es.size < 4096 := hb
    rw [sizeLine_eq]
    omega
  refine wpAny_bind (wpAny_newList ?_ hvn)
  have hoL : (s1.heap.push (seqObj "list" vs.toArray 0)).get? s1.heap.objs.size = some (seqObj "list" vs.toArray 0) := Heap.get?_push_size _ rfl
  refine wpAny_bind (wpAny_holding (list_sort_data (enc := enc) (bs := bs) (R := fun v b => keyIs (kf b) v = true) hoL each (each.mono fun v b h => ⟨[], hrd b v _ h, List.not_mem_nil⟩) (AllAlike.of hal) (Sortable.others hot) (by rw [← hlen]; exact hvn)
    (fun b _ => by have z := hdp b; show A.units + 1 + 1 + (enc b).depth < cLine; omega) fun out hol eo => ?_))
  obtain ⟨c, hc⟩ := sortedHeap_at (vs := vs) (out := out.toArray) hoL
  refine wpAny_pure ⟨_, rfl, hQ _ s1.heap.objs.size out c bs (fun b u e => ?_) g1 o1 hz hc pb eo⟩
  have q := k1 b u e
  have lt := Heap.lt_size q
  show (sortedHeap (s1.heap.push (seqObj "list" vs.toArray 0)) s1.heap.objs.size vs out.toArray).get? b = some u
  rw [sortedHeap_old (Nat.ne_of_lt lt) (by rw [size_push']; exact Nat.lt_succ_of_lt lt)]
  exact Heap.get?_push_of_some _ q
end

/-- the set at a, as a tracked thing -/
def SetMO (P : Program) (w : World) (a : Addr) (L : List Key) : HO := .ext fun h => SetM P w h a L
theorem setMO_new {P : Program} {w : World} {H : Hp} {h : Heap} {a : Addr} {L : List Key} (R : SetM P w h a L) : ObjOk P w H h a (SetMO P w a L) := by
  have ⟨o, _, _, _, ho, _⟩ := R
  exact ⟨R, ⟨o, ho⟩, fun h1 h2 p k => SetM.at_ p k⟩
def rSetL (K : Frag) (P : Program) (w : World) : List V → Hp → VK → Prop := fun xs H Q => ∃ (a : Addr) (ks : List Key), xs = [.ref a] ∧ SqL K H a (ks.map kV) ∧ ks.length ≤ 1000 ∧ ∀ p, H p = none → Q (.ref p) (upd H p (SetMO P w p (membs ks)))
def rSortSet {β : Type} (P : Program) (w : World) (kf : β → Key) (enc : β → PyData) : List V → Hp → VK → Prop := fun xs H Q => ∃ (a : Addr) (bs0 : List β), xs = [.ref a] ∧ H a = some (SetMO P w a (bs0.map kf)) ∧ bs0.length ≤ 1000 ∧
  ∀ (bs : List β) (p : Addr), bs.Perm bs0 → H p = none → Q (.ref p) (upd H p (.lst ((bs.mergeSort (dataLe false enc)).map fun b => kV (kf b))))
def rLenSetM (P : Program) (w : World) : List V → Hp → VK → Prop := fun xs H Q => ∃ (a : Addr) (L : List Key), xs = [.ref a] ∧ H a = some (SetMO P w a L) ∧ L.length ≤ 1000 ∧ Q (.int (L.length : Nat)) H
section
variable {X : Cx}
theorem vals_keys : ∀ {ks : List Key} {us : List Value}, Vals (ks.map kV) us → ∀ (i : Nat) v, us[i]? = some v → ∃ k, ks[i]? = some k ∧ keyIs k v = true
  | [], _, .nil, i, v, h => by simp at h
  | k :: ks, _, .cons r _, 0, v, h => by
    rw [List.getElem?_cons_zero] at h
    rw [← Option.some.inj h]
    exact ⟨k, rfl, rel_key r⟩
  | k :: ks, _, .cons _ t, i + 1, v, h => by
    rw [List.getElem?_cons_succ] at h
    obtain ⟨k', h1, h2⟩ := vals_keys t i v h
    exact ⟨k', by rw [List.getElem?_cons_succ]; exact h1, h2⟩
theorem cr_setL (hc : X.calm = true) : CallR X (.type "set") (rSetL X.K X.prog X.w) := by
  intro pins s σ H xs us Q I r h
  obtain ⟨a, ks, rfl, ha, hn, q⟩ := h
  rw [Vals.ref1 r]
  obtain ⟨its, rv, hl, hz⟩ := I.list ha
  have e1 : its.length = ks.length := by
    rw [← L2.Vals.length rv, List.length_map]
  refine call_setM ks (I.ok.hd hc) hl.isList (by simpa using e1) (fun i v h => vals_keys rv i v (by simpa using h)) (by unfold scanBound; omega) fun h' tk R kp => ?_
  exact ⟨.ref _, _, I.laid (t' := tk) kp (Nat.le_refl _) (setMO_new R), rfl, q _ (I.hok.fresh (Nat.le_refl _))⟩
theorem cr_lenSetM : CallR X (.builtin "len") (rLenSetM X.prog X.w) := by
  intro pins s σ H xs us Q I r h
  obtain ⟨a, L, rfl, ha, hn, q⟩ := h
  rw [Vals.ref1 r]
  have R : SetM X.prog X.w s.heap a L := (I.hok a _ ha).1
  obtain ⟨o, es, ep, t, ho, hex, hd, _, pm, _, _, hf, _⟩ := R
  have e : es.size = L.length := by
    have z := pm.length_eq
    simpa using z
  refine call_len_set ho hex hd hf (by omega) ⟨.int (L.length : Nat), H, I.tok _, ⟨_, by rw [e]⟩, q⟩
theorem cr_sortSet {β : Type} {kf : β → Key} {enc : β → PyData} (hc : X.calm = true) (hu : X.A.units + 20 < cLine) (hrd : ∀ (b : β) (v : Value) (h : Heap), keyIs (kf b) v = true → Reads h v (enc b) []) (hal : ∀ b b', alike (enc b) (enc b') = true)
    (hot : ∀ b, enc b ≠ .none ∧ ∀ xs, enc b ≠ .tuple xs) (hdp : ∀ b, (enc b).depth ≤ 1) : CallR X (.builtin "sorted") (rSortSet X.prog X.w kf enc) := by
  intro pins s σ H vs us Q I r h
  obtain ⟨a, bs0, rfl, ha, hn, q⟩ := h
  rw [Vals.ref1 r]
  have R : SetM X.prog X.w s.heap a (bs0.map kf) := (I.hok a _ ha).1
  refine sorted_setM R rfl (I.ok.hd hc) hu hrd hal hot hdp fun s' p out c bs kp g o hp hg pb eo => ?_
  have fresh : H p = none := I.hok.fresh hp
  have vo : Vals ((bs.mergeSort (dataLe false enc)).map fun b => kV (kf b)) out := by
    have aux : ∀ {us : List Value} {cs : List β}, EachIs (fun v b => keyIs (kf b) v = true) us cs → Vals (cs.map fun b => kV (kf b)) us := by
      intro us cs e
      induction e with
      | nil => exact .nil
      | cons r1 _ ih => exact .cons (key_rel r1) ih
    exact aux eo
  have hlen : ((bs.mergeSort (dataLe false enc)).map fun b => kV (kf b)).length ≤ sizeLine := by
    rw [List.length_map, List.length_mergeSort, pb.length_eq, sizeLine_eq]
    omega
  have J : Inv X pins σ (upd H p (.lst ((bs.mergeSort (dataLe false enc)).map fun b => kV (kf b)))) { s with heap := s'.heap, gens := s'.gens, drawn := s'.drawn, toks := s'.toks } :=
    I.call (ch := []) (Un.laid kp hp fresh) (I.hok.laid kp hp ⟨hlen, out, c, vo, hg⟩) (by rw [g]; exact I.bare) (fun _ z => nomatch z)
  have e : s' = { s with heap := s'.heap, gens := s'.gens, drawn := s'.drawn, toks := s'.toks } := by
    cases s'
    cases s
    cases o
    rfl
  rw [e]
  exact ⟨.ref p, _, J, rfl, q bs p pb fresh⟩
end
theorem read_int (i : Int) (v : Value) (h : Heap) (e : keyIs (.inl i) v = true) : Reads h v (.int i) [] := by
  obtain ⟨t, rfl⟩ := Value.isInt_shape (k := i) (v := v) e
  exact .int _ _
theorem read_str (x : Str) (v : Value) (h : Heap) (e : keyIs (.inr x) v = true) : Reads h v (.str x) [] := by
  obtain ⟨t, rfl⟩ := Value.isStrOf_shape (x := x) (v := v) e
  exact .str _ _
end BbS
/-! ## part Ops -/
/-! ==, len of own instances; methods and classes called by keywords; sorted of a dict with tuple keys -/
namespace BbS
open PySem PySem.Spec PyProof.Rows L2 PySem.W

/-- an expression that is never reached -/
def tNo : TE := fun _ _ _ => False
theorem pe_no {X : Cx} {e : Expr} : PE X e tNo := ⟨fun _ _ _ _ _ _ h => h.elim⟩

section
variable {X : Cx} {k n : Nat} {f C : Addr} {fd : FuncData} {ps ks : List Str} {sp : Sp}
/-- a == b, both instances of a class with its own == that gives a truth value -/
def rEqOwn (C : Addr) (sp : Sp) : R2 := fun x y H Q => ∃ a b dx dy fs gs, x = .ref a ∧ y = .ref b ∧ H a = some (.ins C dx fs) ∧ H b = some (.ins C dy gs) ∧ sp [.ref a, .ref b] H (fun v H' => ∃ t, v = .bl t ∧ Q v H') E0
theorem op_eqOwn (F : FnOk X.prog X.w X.K X.mg X.base CX0 k f fd ps sp) (hs : findIn X.K (.ref C) "__eq__" = some (some (.ref f))) (hf : isFn X.K (.ref f) = true) (hb : Binds X.K fd ps []) (hr : Room k X.A) : OpR X (compareOp .Eq) (rEqOwn C sp) := by
  intro pins s σ H x y v u Q I rx ry h
  obtain ⟨a, b, dx, dy, fs, gs, rfl, rfl, ha, hb', hsp⟩ := h
  cases rx
  cases ry
  obtain ⟨mA, J, _⟩ := ins_get I.hok ha
  obtain ⟨mB, J', _⟩ := ins_get I.hok hb'
  obtain ⟨od, J, _⟩ := J.look
  obtain ⟨od', J', _⟩ := J'.look
  obtain ⟨m, hF⟩ := I.fr
  show wpAny (model X.prog X.w) X.A (richCompare .Eq (.ref a) (.ref b)) (EP X pins σ Q) X.xe s
  refine cmp_K (op := .Eq) (tb := .ref C) hr.units0 hF I.ok.mod.kin J J'.type (by simp [notFirst]) hs hf ?_
  have hl := F.len _ _ _ _ hsp
  have r2 : Vals [V.ref a, V.ref b] [Value.ref a, Value.ref b] := .cons rfl (.cons rfl .nil)
  refine wpAny_call (codeAny_mono (F.run X.A X.stack s H ⟨[.ref a, .ref b], []⟩ [.ref a, .ref b] [.ref a, .ref b] _ E0 hr I.env0 (by
    have z := hb s [.ref a, .ref b] I.kIn (by simpa using hl)
    simpa using z) r2 hsp) fun r s' hq => ?_)
  cases r with
  | error e => exact (show False from hq).elim
  | ok fl =>
    cases fl with
    | ret w =>
      obtain ⟨z, H', I', rz, ⟨t, ez, q⟩⟩ := I.after hq
      subst ez
      cases rz
      exact ⟨.bl t, H', I', rfl, q⟩
    | next => exact False.elim hq
    | brk => exact False.elim hq
    | cont => exact False.elim hq
/-- len(a), a an instance of a class with its own __len__ -/
def rLenOwn (C : Addr) (sp : Sp) : List V → Hp → VK → Prop := fun xs H Q => ∃ a dx fs, xs = [.ref a] ∧ H a = some (.ins C dx fs) ∧ sp [.ref a] H (fun v H' => ∃ n : Int, v = .int n ∧ 0 ≤ n ∧ n < 2 ^ 62 ∧ Q v H') E0
theorem cr_lenOwn (F : FnOk X.prog X.w X.K X.mg X.base CX0 k f fd ps sp) (hs : findIn X.K (.ref C) "__len__" = some (some (.ref f))) (hf : isFn X.K (.ref f) = true) (hb : Binds X.K fd ps []) (hr : Room (k + 1) X.A) : CallR X (.builtin "len") (rLenOwn C sp) := by
  intro pins s σ H xs us Q I r h
  obtain ⟨a, dx, fs, rfl, ha, hsp⟩ := h
  rw [Vals.ref1 r]
  obtain ⟨mA, J, _⟩ := ins_get I.hok ha
  obtain ⟨od, J, _⟩ := J.look
  obtain ⟨m, hF⟩ := I.fr
  refine len_K hF I.ok.mod.kin J hs hf ?_
  have hl := F.len _ _ _ _ hsp
  have r2 : Vals [V.ref a] [Value.ref a] := .cons rfl .nil
  refine wpAny_call (codeAny_mono (F.run X.A.in1 X.stack s H ⟨[.ref a], []⟩ [.ref a] [.ref a] _ E0 hr.in1 I.env0.in1 (by
    have z := hb s [.ref a] I.kIn (by simpa using hl)
    simpa using z) r2 hsp) fun r s' hq => ?_)
  cases r with
  | error e => exact (show False from hq).elim
  | ok fl =>
    cases fl with
    | ret w =>
      obtain ⟨z, H', I', rz, ⟨n, ez, h0, h1, q⟩⟩ := I.after hq
      subst ez
      obtain ⟨t, rfl⟩ := rz
      exact ⟨⟨h0, by omega⟩, ⟨.int n, H', I'.tok _, ⟨_, rfl⟩, q⟩⟩
    | next => exact False.elim hq
    | brk => exact False.elim hq
    | cont => exact False.elim hq
end

/-- o.m(e, .., k = v, ..) -/
def tMethN (C : Addr) (m : Str) (n mk : Nat) (sp : Sp) (gV : List V → List V → List V) (E : XK) (ta : TE) (t tk : TA) : TE := fun σ H Q => ta σ H fun x H1 => ∃ a dx fs, x = .ref a ∧ H1 a = some (.ins C dx fs) ∧ fs.lookup m = none ∧
  t σ H1 fun vs H2 => tk σ H2 fun zs H3 => vs.length = n ∧ zs.length = mk ∧ sp (gV (x :: vs) zs) H3 Q E
section
variable {X : Cx} {CX : CXT} {k n : Nat} {f C : Addr} {fd : FuncData} {ps ks : List Str} {sp : Sp} {E : XK} {m x : Str} {p apos pos : Pos} {o e : Expr} {es : List Expr} {kws : List Keyword} {ta : TE} {t tk : TA} {g : List Value → List Value → List Value} {gV : List V → List V → List V}
theorem pe_methN {pl : Sem Bool} (he : PE X o ta) (c : Cls X.K C) (hm : Meth X.K C m f) (F : FnOk X.prog X.w X.K X.mg X.base CX k f fd ps sp) (hr : Room k X.A) (hb : KBn X.K fd ps (n + 1) ks g gV) (hx : Passes CX X E) (ha : PA X (e :: es) t) (hkw : PK X kws tk)
    (hall : (backToKw pos (keywordEach kws X.env)).all (·.1.isSome) = true := by rfl) (hks : (backToKw pos (keywordEach kws X.env)).filterMap (·.1) = ks := by rfl) (hst : starEach (e :: es) X.env = (false, eval e X.env) :: starEach es X.env := by rfl)
    (hpl : ((backTo pos (starEach (e :: es) X.env)).any (·.1) || (backToKw pos (keywordEach kws X.env)).any (·.1.isNone)) = false := by rfl)
    (ht : eval (.Call (.Attribute o m apos) (e :: es) kws pos) X.env = (do
      let ov ← eval o X.env
      standAt apos.atName
      let (f, first) ← holding [ov] (getMethod ov m pl)
      callWith pos f first (backTo pos (starEach (e :: es) X.env)) (backToKw pos (keywordEach kws X.env))) := by rfl) :
    PE X (.Call (.Attribute o m apos) (e :: es) kws pos) (tMethN C m n ks.length sp gV E ta t tk) := by
  refine ⟨fun pins s σ H Q I h => ?_⟩
  refine methodCall_KW (pl := pl) (thn (he.run pins s σ H _ I h) fun u s1 ⟨x, H1, I1, rx, a, dx, fs, ex, ea, l, q⟩ => ?_) ht
  subst ex
  obtain rfl : u = Value.ref a := rx
  refine getmeth_ok I1 ea c hm l ?_
  refine callWith_KW (first := [.ref a]) (h₀ := X.base) I.ok.mod.kin hm.kp hall (thn (ha.run pos pins s1 σ H1 _ I1 q) fun us s2 ⟨vs, H2, I2, r, q2⟩ => ?_) hpl hst
  refine thn (hkw.run pos pins s2 σ H2 _ I2 q2) fun ws s3 ⟨zs, H3, I3, rz, l1, l2, q3⟩ => ⟨I3.kIn, ?_⟩
  rw [hks]
  exact run_fnN (us := .ref a :: us) (vs := .ref a :: vs) F hr hb hx I3 (.cons rfl r) rz (congrArg Nat.succ l1) l2 q3
/-- C(k = v, ..) -/
theorem pe_makeN0 (M : Mk X.K C f) (F : FnOk X.prog X.w X.K X.mg X.base CX k f fd ps sp) (hr : Room (k + 1) X.A) (hg : Gl X x) (hm : X.mg x = some (.ref C)) (hb : KBn X.K fd ps 1 ks g gV) (hx : Passes CX X E)
    (hkw : PK X kws tk) (hall : (backToKw pos (keywordEach kws X.env)).all (·.1.isSome) = true := by rfl) (hks : (backToKw pos (keywordEach kws X.env)).filterMap (·.1) = ks := by rfl)
    (hdb : (x == ("__debug__" : Str)) = false := by decide) (hpl : ((backTo pos (starEach [] X.env)).any (·.1) || (backToKw pos (keywordEach kws X.env)).any (·.1.isNone)) = false := by rfl) :
    PE X (.Call (.Name x p) [] kws pos) (tMakeN C 0 ks.length sp gV E tNil tk) := by
  refine ⟨fun pins s σ H Q I h => ?_⟩
  refine wpAny_Call_Name_kw (ld_glob I hg hm ?_ hdb)
  refine callWith_KW0 (h₀ := X.base) I.ok.mod.kin M.kp hall (thn (hkw.run pos pins s σ H _ I h) fun ws s2 ⟨zs, H2, I2, rz, l1, l2, q2⟩ => ⟨I2.kIn, ?_⟩) hpl
  rw [hks]
  exact run_makeN (n := 0) (us := []) (vs := []) M F hr hb hx I2 .nil rz l1 l2 q2
end

/-- a tuple key as data -/
def encK : Key → PyData
  | .inl i => .int i
  | .inr x => .str x
def encT (k : List Key) : PyData := .tuple (k.map encK)
theorem dp_key {K : Frag} {H : Hp} : ∀ k : Key, Dp K H (kV k) (encK k)
  | .inl i => .int i
  | .inr x => .str x
theorem dp_keys {K : Frag} {H : Hp} : ∀ k : List Key, DpAll K H (k.map kV) (k.map encK)
  | [] => .nil
  | k :: ks => .cons (dp_key k) (dp_keys ks)
theorem depth_keys : ∀ k : List Key, PyData.depthAll (k.map encK) = 0
  | [] => rfl
  | .inl i :: ks => by
    show max (PyData.depth (.int i)) (PyData.depthAll (ks.map encK)) = 0
    rw [depth_keys ks]
    rfl
  | .inr x :: ks => by
    show max (PyData.depth (.str x)) (PyData.depthAll (ks.map encK)) = 0
    rw [depth_keys ks]
    rfl
/-- sorted(d), d a dict with tuple keys: the key tuples, in their order -/
def rSortDT : List V → Hp → VK → Prop := fun xs H Q => ∃ (d : Addr) (kvs : List (List Key × V)), xs = [.ref d] ∧ H d = some (.dT kvs) ∧ kvs.length ≤ 1000 ∧ (∀ k ∈ kvs.map (·.1), ∀ k' ∈ kvs.map (·.1), alike (encT k) (encT k') = true) ∧ (∀ k ∈ kvs.map (·.1), k ≠ []) ∧
  ∀ (bs : List (List Key × Addr)) (p : Addr), (bs.map (·.1)) = (kvs.map (·.1)).mergeSort (dataLe false encT) → (∀ b ∈ bs, H b.2 = some (.tup (b.1.map kV))) → H p = none → Q (.ref p) (upd H p (.lst (bs.map fun b => .ref b.2)))

section
variable {X : Cx}
theorem cr_sortDT (hc : X.calm = true) (hu : X.A.units + 20 < cLine) : CallR X (.builtin "sorted") rSortDT := by
  intro pins s σ H vs us Q I r h
  obtain ⟨d, kvs, rfl, hd, hn, hal, hne, q⟩ := h
  rw [Vals.ref1 r]
  obtain ⟨z, hs, ks, pr, o, es, ep, ho, hx, hdt, he, hnd⟩ := (show ObjOk X.prog X.w H s.heap d (.dT kvs) from I.hok d _ hd)
  have l1 : es.size = ks.length := size_of_entries he
  have l2 : kvs.length = ks.length := Paired.length pr
  refine Calls.call_function_entry kind_sorted plain_sorted entry_sorted (args_sorted1 _) ?_
  unfold Builtin.«sorted»
  refine wpAny_bind (m := checkCount "sorted" 1 1 _) (wpAny_pure ?_)
  refine wpAny_bind (kdu_collect (A := X.A.in1) (kdl_raw hs hx hdt) (I.ok.hd hc) ho (by rw [sizeLine_eq]; omega) fun h' tk acc kp it => ?_)
  have ea : acc.toList = ks.map fun x => Value.ref x.2.1 := by
    have hl : acc.toList.length = ks.length := by
      rw [Array.length_toList, it.1]
      exact l1
    apply List.ext_getElem?
    intro j
    rw [List.getElem?_map]
    by_cases hj : j < ks.length
    · obtain ⟨v, hv⟩ : ∃ v, acc.toList[j]? = some v := ⟨_, List.getElem?_eq_getElem (by omega)⟩
      obtain ⟨en, e1, e2⟩ := it.2 j v (by rw [← Array.getElem?_toList]; exact hv)
      have e3 : (es.toList)[j]? = some en := by
        rw [Array.getElem?_toList]
        exact e1
      rw [he, List.getElem?_map] at e3
      obtain ⟨x, hx1, hx2⟩ := Option.map_eq_some_iff.mp e3
      rw [hv, hx1, e2, ← hx2] <;> rfl
    · rw [List.getElem?_eq_none_iff.mpr (by omega), List.getElem?_eq_none_iff.mpr (by omega)] <;> rfl
  have I1 : Inv X pins σ H { s with heap := h', toks := tk } := I.kept kp
  have hal1 : acc.toList.length = ks.length := by rw [ea, List.length_map]
  have hvn : acc.toList.length ≤ sizeLine := by
    rw [hal1, sizeLine_eq]
    omega
  have keys : ks.map (·.1) = kvs.map (·.1) := by
    have aux : ∀ {l : List (List Key × V)} {m : List (List Key × Addr × Value)}, Paired (fun (p : List Key × V) (q : List Key × Addr × Value) => p.1 = q.1 ∧ H q.2.1 = some (.tup (p.1.map kV)) ∧ RelV p.2 q.2.2) l m → m.map (·.1) = l.map (·.1) := by
      intro l m p
      induction p with
      | nil => rfl
      | cons h1 _ ih => rw [List.map_cons, List.map_cons, ih, h1.1]
    exact aux pr
  have tup : ∀ x ∈ ks, H x.2.1 = some (.tup (x.1.map kV)) := by
    have aux : ∀ {l : List (List Key × V)} {m : List (List Key × Addr × Value)}, Paired (fun (p : List Key × V) (q : List Key × Addr × Value) => p.1 = q.1 ∧ H q.2.1 = some (.tup (p.1.map kV)) ∧ RelV p.2 q.2.2) l m → ∀ x ∈ m, H x.2.1 = some (.tup (x.1.map kV)) := by
      intro l m p
      induction p with
      | nil => exact fun x hx => by cases hx
      | cons h1 _ ih =>
        intro x hx
        rcases List.mem_cons.mp hx with z | z
        · rw [z, ← h1.1]
          exact h1.2.1
        · exact ih x z
    exact aux pr
  have km : ∀ x ∈ ks, x.1 ∈ kvs.map (·.1) := fun x hx => by
    rw [← keys]
    exact List.mem_map.mpr ⟨x, hx, rfl⟩
  refine wpAny_bind (wpAny_newList ?_ hvn)
  have hoL : (h'.push (seqObj "list" acc.toList.toArray 0)).get? h'.objs.size = some (seqObj "list" acc.toList.toArray 0) := Heap.get?_push_size _ rfl
  show wpAny _ _ _ _ _ { s with heap := h'.push (seqObj "list" acc.toList.toArray 0), toks := tk }
  have each : EachIs (fun v (x : List Key × Addr × Value) => v = Value.ref x.2.1 ∧ x ∈ ks) acc.toList ks := by
    rw [ea]
    have aux : ∀ (l : List (List Key × Addr × Value)), (∀ x ∈ l, x ∈ ks) → EachIs (fun v (x : List Key × Addr × Value) => v = Value.ref x.2.1 ∧ x ∈ ks) (l.map fun x => Value.ref x.2.1) l := by
      intro l
      induction l with
      | nil => exact fun _ => .nil
      | cons x l ih => exact fun hm => .cons ⟨rfl, hm x List.mem_cons_self⟩ (ih fun y hy => hm y (List.mem_cons_of_mem _ hy))
    exact aux ks fun _ h => h
  have I2 : Inv X pins σ H { s with heap := h'.push (seqObj "list" acc.toList.toArray 0), toks := tk } := I.kept fun b o e => Heap.get?_push_of_some _ (kp b o e)
  refine wpAny_bind (wpAny_holding (list_sort_data (enc := fun x : List Key × Addr × Value => encT x.1) (bs := ks) hoL each (each.mono fun v x hv => ?_) (fun d hd' d2 hd2 => ?_) (.inl fun d hd' => ?_) (by rw [← hal1]; exact hvn) (fun x _ => ?_) fun out hol eo => ?_))
  · obtain ⟨rfl, hx1⟩ := hv
    have hlt : x.2.1 < h'.objs.size := (I1.hok _ _ (tup x hx1)).lt
    obtain ⟨as, rd⟩ := Dp.reads I1 (encT x.1) (.ref x.2.1) (.ref x.2.1) (.tup (.inl (.inl (tup x hx1))) (dp_keys x.1)) rfl
    refine ⟨[], ?_, List.not_mem_nil⟩
    cases rd with
    | tuple h1 h2 h3 h4 =>
      have flat : ∀ (l : List Key) (vs : List Value) (as : List Addr), ReadsAll h' vs (l.map encK) as → as = [] := by
        intro l
        induction l with
        | nil =>
          intro vs as hr
          cases hr
          rfl
        | cons k l ih =>
          intro vs as hr
          cases hr with
          | cons r1 r2 =>
            rw [ih _ _ r2]
            cases k with
            | inl i =>
              cases r1
              rfl
            | inr x =>
              cases r1
              rfl
      have e0 := flat x.1 _ _ h4
      rw [e0] at h4
      exact Reads.tuple (Heap.get?_push_of_some _ h1) h2 h3 (PyProof.Rows.ReadsAll.keeps (fun b o e => Heap.get?_push_of_some _ e) h4)
  · obtain ⟨x, hx1, rfl⟩ := List.mem_map.mp hd'
    obtain ⟨y, hy1, rfl⟩ := List.mem_map.mp hd2
    exact hal _ (km x hx1) _ (km y hy1)
  · obtain ⟨x, hx1, rfl⟩ := List.mem_map.mp hd'
    have hk := hne _ (km x hx1)
    cases e : x.1 with
    | nil => exact absurd e hk
    | cons k r =>
      refine ⟨encK k, r.map encK, ?_⟩
      show encT (k :: r) = _
      rfl
  · show X.A.units + 1 + 1 + (encT x.1).depth < cLine
    have e : (encT x.1).depth = 1 + PyData.depthAll (x.1.map encK) := by
      unfold encT
      first
        | rfl
        | (rw [PyData.depth]; omega)
        | (simp only [PyData.depth]; omega)
    rw [e, depth_keys]
    omega
  obtain ⟨c, hc2⟩ := sortedHeap_at (vs := acc.toList) (out := out.toArray) hoL
  have fresh : H h'.objs.size = none := I1.hok.fresh (Nat.le_refl _)
  have vo : Vals ((ks.mergeSort (dataLe false fun x => encT x.1)).map fun x => V.ref x.2.1) out := by
    have aux : ∀ {us : List Value} {cs : List (List Key × Addr × Value)}, EachIs (fun v (x : List Key × Addr × Value) => v = Value.ref x.2.1 ∧ x ∈ ks) us cs → Vals (cs.map fun x => V.ref x.2.1) us := by
      intro us cs e
      induction e with
      | nil => exact .nil
      | cons r1 _ ih => exact .cons r1.1 ih
    exact aux eo
  have hlen : ((ks.mergeSort (dataLe false fun x => encT x.1)).map fun x => V.ref x.2.1).length ≤ sizeLine := by
    rw [List.length_map, List.length_mergeSort, sizeLine_eq]
    omega
  have kp3 : ∀ b o, h'.get? b = some o → (sortedHeap (h'.push (seqObj "list" acc.toList.toArray 0)) h'.objs.size acc.toList out.toArray).get? b = some o := fun b o q1 => by
    have lt := Heap.lt_size q1
    rw [sortedHeap_old (Nat.ne_of_lt lt) (by rw [size_push']; exact Nat.lt_succ_of_lt lt)]
    exact Heap.get?_push_of_some _ q1
  have fin := q ((ks.mergeSort (dataLe false fun x => encT x.1)).map fun x => (x.1, x.2.1)) h'.objs.size (by
      rw [List.map_map, ← keys]
      exact sort_maps (r := dataLe false fun x : List Key × Addr × Value => encT x.1) (s := dataLe false encT) (f := fun x => x.1) fun a _ b _ => rfl) (fun b hb => by
      obtain ⟨x, hx1, rfl⟩ := List.mem_map.mp hb
      exact tup x (List.mem_mergeSort.mp hx1)) fresh
  rw [List.map_map] at fin
  have fin2 : Q (.ref h'.objs.size) (upd H h'.objs.size (.lst ((ks.mergeSort (dataLe false fun x => encT x.1)).map fun x => V.ref x.2.1))) := fin
  refine wpAny_pure ⟨_, rfl, ⟨.ref h'.objs.size, upd H h'.objs.size (.lst ((ks.mergeSort (dataLe false fun x => encT x.1)).map fun x => V.ref x.2.1)), I1.laid (t' := tk) (o := .lst ((ks.mergeSort (dataLe false fun x => encT x.1)).map fun x => V.ref x.2.1)) kp3 (Nat.le_refl _) ⟨hlen, out, c, vo, hc2⟩, rfl, fin2⟩⟩
end
end BbS
/-! ## part Evb -/
/-! what readings evaluate to, over heaps that grow (tables of code objects may be written) -/
namespace Bb
open PySem PySem.Spec PyProof.Rows L2 LamX BbS

abbrev TT0 := List (Addr × Str)
/-- what grows: all but the tables stays; the tables stay tables -/
def Wd (T : TT0) (H H' : Hp) : Prop := ExtN H H' ∧ (Tabs T H → Tabs T H')
def Nt (o : HO) : Prop := ∀ ps, o ≠ .tbl ps
theorem nt_lst {xs : List V} : Nt (.lst xs) := fun _ z => by cases z
theorem nt_tup {xs : List V} : Nt (.tup xs) := fun _ z => by cases z
theorem nt_dK {xs : List (Key × V)} : Nt (.dK xs) := fun _ z => by cases z
theorem nt_dT {xs : List (List Key × V)} : Nt (.dT xs) := fun _ z => by cases z
theorem nt_ins {C dx : Addr} {fs : List (Str × V)} : Nt (.ins C dx fs) := fun _ z => by cases z
theorem nt_own {x : Addr} : Nt (.own x) := fun _ z => by cases z
theorem nt_frz {o : Obj} {u : HO} : Nt (.frz o u) := fun _ z => by cases z
/-- nothing is known of p -/
def New (H : Hp) (p : Addr) : Prop := ∀ o, H p = some o → ¬ Nt o
section
variable {T : TT0} {H H1 H2 H' : Hp} {a p : Addr} {o : HO} {K : PySem.W.Frag} {xs : List V}
theorem Wd.refl (H : Hp) : Wd T H H := ⟨ExtN.refl H, id⟩
theorem Wd.trans (x : Wd T H H1) (y : Wd T H1 H2) : Wd T H H2 := ⟨x.1.trans y.1, fun t => y.2 (x.2 t)⟩
theorem Wd.ofExt (e : ∀ b o, H b = some o → H' b = some o) : Wd T H H' := ⟨ExtN.of e, fun t => t.ext e⟩
theorem Wd.new (h : H p = none) : Wd T H (upd H p o) := .ofExt fun b u e => by
  rw [upd_ne (ne_of_none e h)]
  exact e
theorem Wd.get (x : Wd T H H') (e : H a = some o) (n : Nt o) : H' a = some o := x.1 a o e n
theorem Wd.lst (x : Wd T H H') (e : H a = some (.lst xs)) : H' a = some (.lst xs) := x.get e nt_lst
theorem Wd.tup (x : Wd T H H') (e : H a = some (.tup xs)) : H' a = some (.tup xs) := x.get e nt_tup
theorem Wd.ins (x : Wd T H H') {C dx : Addr} {fs : List (Str × V)} (e : H a = some (.ins C dx fs)) : H' a = some (.ins C dx fs) := x.get e nt_ins
theorem Wd.dK (x : Wd T H H') {kvs : List (Key × V)} (e : H a = some (.dK kvs)) : H' a = some (.dK kvs) := x.get e nt_dK
theorem Wd.dT (x : Wd T H H') {kvs : List (List Key × V)} (e : H a = some (.dT kvs)) : H' a = some (.dT kvs) := x.get e nt_dT
theorem Wd.sql (x : Wd T H H') (h : SqL K H a xs) : SqL K H' a xs := by
  rcases h with (h | ⟨o, h⟩) | h
  · exact .inl (.inl (x.get h nt_lst))
  · exact .inl (.inr ⟨o, x.get h nt_frz⟩)
  · exact .inr h
theorem Wd.sqt (x : Wd T H H') (h : SqT K H a xs) : SqT K H' a xs := by
  rcases h with (h | ⟨o, h⟩) | h
  · exact .inl (.inl (x.get h nt_tup))
  · exact .inl (.inr ⟨o, x.get h nt_frz⟩)
  · exact .inr h
mutual
theorem Wd.dp (x : Wd T H H') : ∀ {v : V} {d : PyData}, Dp K H v d → Dp K H' v d
  | _, _, .non => .non
  | _, _, .bl b => .bl b
  | _, _, .int i => .int i
  | _, _, .str z => .str z
  | _, _, .lst h1 h2 => .lst (x.sql h1) (x.dpAll h2)
  | _, _, .tup h1 h2 => .tup (x.sqt h1) (x.dpAll h2)
theorem Wd.dpAll (x : Wd T H H') : ∀ {vs : List V} {ds : List PyData}, DpAll K H vs ds → DpAll K H' vs ds
  | _, _, .nil => .nil
  | _, _, .cons h1 h2 => .cons (x.dp h1) (x.dpAll h2)
end
theorem New.back (n : New H' p) (x : Wd T H H') : New H p := fun o e nt => n o (x.get e nt) nt
theorem new_none (h : H p = none) : New H p := fun o e => by
  rw [h] at e
  cases e
theorem New.ne (n : New H p) (e : H a = some o) (nt : Nt o) : a ≠ p := fun z => n o (by rw [← z]; exact e) nt
/-- things that no table and no code object is -/
def Plain : HO → Prop
  | .lst _ | .dK _ | .dT _ | .ins _ _ _ | .own _ => True
  | _ => False
theorem Plain.nt {o : HO} (h : Plain o) : Nt o := fun ps z => by
  rw [z] at h
  exact h
/-- what nobody knows is written -/
theorem Wd.mut {o0 : HO} (x : Wd T H H') (n : New H p) (e : H' p = some o0) (pl : Plain o0) : Wd T H (upd H' p o) := by
  refine ⟨fun b u hb nt => ?_, fun t => ?_⟩
  · rw [upd_ne (n.ne hb nt)]
    exact x.get hb nt
  · intro q hq
    obtain ⟨ps, h1, h2, h3⟩ := x.2 t q hq
    have ne : ∀ {b : Addr} {u : HO}, H' b = some u → ¬ Plain u → b ≠ p := fun {b u} hb np z => by
      rw [z, e] at hb
      cases hb
      exact np pl
    refine ⟨ps, by rw [upd_ne (ne h1 fun z => z)]; exact h1, h2, fun pos cv hc => ?_⟩
    obtain ⟨c, e1, e2⟩ := h3 pos cv hc
    exact ⟨c, e1, by rw [upd_ne (ne e2 fun z => by unfold CodeO at z; exact z)]; exact e2⟩
theorem st_of (h : H a = some (.tup xs)) : SqT K H a xs := .inl (.inl h)
theorem sl_of (h : H a = some (.lst xs)) : SqL K H a xs := .inl (.inl h)
theorem le_line {n : Nat} (h : n ≤ 1000000) : n ≤ sizeLine := Nat.le_trans h (by decide)
theorem lt_line {n : Nat} (h : n < 1000000) : n < sizeLine := Nat.lt_of_lt_of_le h (by decide)
end

/-! ### judgements -/
section
variable (T : TT0)
/-- the value v, the heap grown -/
def Ev (te : TE) (σ : L2.St) (H : Hp) (v : V) : Prop := ∀ H1, Wd T H H1 → ∀ Q : VK, (∀ H2, Wd T H1 H2 → Q v H2) → te σ H1 Q
/-- a value of which Φ -/
def EvO (te : TE) (σ : L2.St) (H : Hp) (Φ : V → Hp → Prop) : Prop := ∀ H1, Wd T H H1 → ∀ Q : VK, (∀ v H2, Wd T H1 H2 → Φ v H2 → Q v H2) → te σ H1 Q
def EvT (tt : TT) (σ : L2.St) (H : Hp) (b : Bool) : Prop := ∀ H1, Wd T H H1 → ∀ Q : Bool → Hp → Prop, (∀ H2, Wd T H1 H2 → Q b H2) → tt σ H1 Q
def EvA (ta : TA) (σ : L2.St) (H : Hp) (vs : List V) : Prop := ∀ H1, Wd T H H1 → ∀ Q : List V → Hp → Prop, (∀ H2, Wd T H1 H2 → Q vs H2) → ta σ H1 Q
/-- an operation, a call by values -/
def RV (r : R2) (x y : V) (H : Hp) (z : V) : Prop := ∀ H1, Wd T H H1 → ∀ Q : VK, (∀ H2, Wd T H1 H2 → Q z H2) → r x y H1 Q
def RVO (r : R2) (x y : V) (H : Hp) (Φ : V → Hp → Prop) : Prop := ∀ H1, Wd T H H1 → ∀ Q : VK, (∀ v H2, Wd T H1 H2 → Φ v H2 → Q v H2) → r x y H1 Q
def RC (r : List V → Hp → VK → Prop) (vs : List V) (H : Hp) (z : V) : Prop := ∀ H1, Wd T H H1 → ∀ Q : VK, (∀ H2, Wd T H1 H2 → Q z H2) → r vs H1 Q
def RCO (r : List V → Hp → VK → Prop) (vs : List V) (H : Hp) (Φ : V → Hp → Prop) : Prop := ∀ H1, Wd T H H1 → ∀ Q : VK, (∀ v H2, Wd T H1 H2 → Φ v H2 → Q v H2) → r vs H1 Q
/-- what a def hands back -/
def RetV (v : V) (H : Hp) (Q : VK) : Prop := ∀ H2, Wd T H H2 → Q v H2
def RetO (Φ : V → Hp → Prop) (H : Hp) (Q : VK) : Prop := ∀ v H2, Wd T H H2 → Φ v H2 → Q v H2
def Gv (sp : Sp) (vs : List V) (H : Hp) (v : V) : Prop := ∀ H1, Wd T H H1 → ∀ Q, RetV T v H1 Q → sp vs H1 Q E0
def GvO (sp : Sp) (vs : List V) (H : Hp) (Φ : V → Hp → Prop) : Prop := ∀ H1, Wd T H H1 → ∀ Q, RetO T Φ H1 Q → sp vs H1 Q E0
end
/-- a new tuple, a new list -/
def NTup (H : Hp) (xs : List V) : V → Hp → Prop := fun v H2 => ∃ p, v = .ref p ∧ New H p ∧ H2 p = some (.tup xs)
def NLst (H : Hp) (xs : List V) : V → Hp → Prop := fun v H2 => ∃ p, v = .ref p ∧ New H p ∧ H2 p = some (.lst xs)

section
variable {T : TT0} {K : PySem.W.Frag} {σ : L2.St} {H H' : Hp} {ta tb tc te tx : TE} {t u : TT} {x y z v w : V} {r r' : R2} {Φ Ψ Θ : V → Hp → Prop} {ts tr : TA} {vs ws xs : List V} {a p : Addr}
theorem RetV.go {Q : VK} (k : RetV T v H Q) (e : Wd T H H') : Q v H' := k H' e
theorem RetV.mono {Q : VK} (k : RetV T v H Q) (e : Wd T H H') : RetV T v H' Q := fun H2 e2 => k H2 (e.trans e2)
theorem RetO.mono {Q : VK} (k : RetO T Φ H Q) (e : Wd T H H') : RetO T Φ H' Q := fun v H2 e2 => k v H2 (e.trans e2)
theorem Ev.mono (h : Ev T te σ H v) (e : Wd T H H') : Ev T te σ H' v := fun H1 e1 => h H1 (e.trans e1)
theorem EvO.mono (h : EvO T te σ H Φ) (e : Wd T H H') : EvO T te σ H' Φ := fun H1 e1 => h H1 (e.trans e1)
theorem EvT.mono {b : Bool} (h : EvT T t σ H b) (e : Wd T H H') : EvT T t σ H' b := fun H1 e1 => h H1 (e.trans e1)
theorem EvA.mono (h : EvA T ts σ H vs) (e : Wd T H H') : EvA T ts σ H' vs := fun H1 e1 => h H1 (e.trans e1)
theorem EvO.imp (h : EvO T te σ H Φ) (k : ∀ v H', Wd T H H' → Φ v H' → Ψ v H') : EvO T te σ H Ψ := fun H1 e1 Q q => h H1 e1 Q fun v H2 e2 f => q v H2 e2 (k v H2 (e1.trans e2) f)
theorem Ev.eo (h : Ev T te σ H v) : EvO T te σ H fun x _ => x = v := fun H1 e Q q => h H1 e Q fun H2 e2 => q v H2 e2 rfl
theorem Ev.is (h : Ev T te σ H v) (e : v = w) : Ev T te σ H w := e ▸ h
theorem EvT.is {b c : Bool} (h : EvT T t σ H b) (e : b = c) : EvT T t σ H c := e ▸ h
/-- evaluated, then what a continuation asks -/
theorem EvO.bind (h : EvO T te σ H Φ) {Q : VK} (k : ∀ v H2, Wd T H H2 → Φ v H2 → Q v H2) : te σ H Q := h H (.refl H) Q k
theorem Ev.bind (h : Ev T te σ H v) {Q : VK} (k : ∀ H2, Wd T H H2 → Q v H2) : te σ H Q := h H (.refl H) Q k
theorem ev_var {i : Nat} (h : σ[i]? = some (some v)) : Ev T (tVar i) σ H v := fun H1 _ _ q => ⟨v, h, q H1 (.refl H1)⟩
theorem ev_c : Ev T (tC v) σ H v := fun H1 _ _ q => q H1 (.refl H1)
theorem ev_op (ha : Ev T ta σ H x) (hb : Ev T tb σ H y) (hr : RV T r x y H z) : Ev T (tOp r ta tb) σ H z := fun H1 e Q q =>
  ha H1 e _ fun H2 e2 => hb H2 (e.trans e2) _ fun H3 e3 => hr H3 ((e.trans e2).trans e3) Q fun H4 e4 => q H4 ((e2.trans e3).trans e4)
theorem eo_op (ha : Ev T ta σ H x) (hb : Ev T tb σ H y) (hr : RVO T r x y H Φ) : EvO T (tOp r ta tb) σ H Φ := fun H1 e Q q =>
  ha H1 e _ fun H2 e2 => hb H2 (e.trans e2) _ fun H3 e3 => hr H3 ((e.trans e2).trans e3) Q fun v H4 e4 => q v H4 ((e2.trans e3).trans e4)
/-- both sides by what is known of them -/
theorem eo_op2 (ha : EvO T ta σ H Φ) (hb : ∀ x H1, Wd T H H1 → Φ x H1 → EvO T tb σ H1 fun y H2 => RVO T r x y H2 Θ) : EvO T (tOp r ta tb) σ H Θ := fun H1 e Q q =>
  ha H1 e _ fun x H2 e2 fx => hb x H2 (e.trans e2) fx H2 (.refl H2) _ fun y H3 e3 hr => hr H3 (.refl H3) Q fun v H4 e4 => q v H4 ((e2.trans e3).trans e4)
theorem ev_op2 (ha : EvO T ta σ H Φ) (hb : ∀ x H1, Wd T H H1 → Φ x H1 → EvO T tb σ H1 fun y H2 => RV T r x y H2 z) : Ev T (tOp r ta tb) σ H z := fun H1 e Q q =>
  ha H1 e _ fun x H2 e2 fx => hb x H2 (e.trans e2) fx H2 (.refl H2) _ fun y H3 e3 hr => hr H3 (.refl H3) Q fun H4 e4 => q H4 ((e2.trans e3).trans e4)
theorem ev_un {r : V → Hp → VK → Prop} (ha : Ev T ta σ H x) (hr : ∀ H1, Wd T H H1 → ∀ Q : VK, Q z H1 → r x H1 Q) : Ev T (tUn r ta) σ H z := fun H1 e Q q => ha H1 e _ fun H2 e2 => hr H2 (e.trans e2) Q (q H2 e2)
theorem ev_neg {i : Int} (ha : Ev T ta σ H (.int i)) : Ev T (tUn (rU fun i => .int (-i)) ta) σ H (.int (-i)) := ev_un ha fun H1 _ Q q => ⟨i, rfl, q⟩
theorem ev_chain {b c : Bool} (ha : Ev T ta σ H x) (hb : Ev T tb σ H y) (hr : RV T r x y H (.bl b)) (hc : b = true → Ev T tc σ H z) (hr' : b = true → RV T r' y z H (.bl c)) : Ev T (tChain r r' ta tb tc) σ H (.bl (b && c)) := fun H1 e Q q =>
  ha H1 e _ fun H2 e2 => hb H2 (e.trans e2) _ fun H3 e3 => hr H3 ((e.trans e2).trans e3) _ fun H4 e4 => ⟨b, rfl, by
    have e5 := (e2.trans e3).trans e4
    cases b with
    | true =>
      show tc σ H4 _
      exact hc rfl H4 (e.trans e5) _ fun H5 e6 => hr' rfl H5 ((e.trans e5).trans e6) Q fun H6 e7 => q H6 ((e5.trans e6).trans e7)
    | false =>
      show Q (.bl false) H4
      exact q H4 e5⟩
theorem rv_now (h : ∀ H1, Wd T H H1 → ∀ Q : VK, Q z H1 → r x y H1 Q) : RV T r x y H z := fun H1 e Q q => h H1 e Q (q H1 (.refl H1))
theorem rv_i0 {g : Int → Int → V} {i j : Int} : RV T (rI0 g) (.int i) (.int j) H (g i j) := rv_now fun _ _ _ q => ⟨i, j, rfl, rfl, q⟩
theorem rv_i {C : Int → Int → Prop} {g : Int → Int → V} {i j : Int} (hc : C i j) : RV T (rI C g) (.int i) (.int j) H (g i j) := rv_now fun _ _ _ q => ⟨i, j, rfl, rfl, hc, q⟩
theorem rv_eq (h : scal x y = true) : RV T rEq x y H (.bl (decide (x = y))) := rv_now fun _ _ _ q => ⟨h, q⟩
theorem rv_ne (h : scal x y = true) : RV T rNe x y H (.bl (!decide (x = y))) := rv_now fun _ _ _ q => ⟨h, q⟩
theorem rv_isn : RV T (fun x y H Q => y = .non ∧ Q (.bl (decide (x = .non))) H) x .non H (.bl (decide (x = .non))) := rv_now fun _ _ _ q => ⟨rfl, q⟩
theorem rv_notn : RV T (fun x y H Q => y = .non ∧ Q (.bl (!decide (x = .non))) H) x .non H (.bl (!decide (x = .non))) := rv_now fun _ _ _ q => ⟨rfl, q⟩
theorem rv_ixl {xs : List V} {i : Int} (h : SqL K H p xs) (ha : atI xs i = some v) : RV T (rIxL K) (.ref p) (.int i) H v := rv_now fun _ e _ q => ⟨p, xs, i, v, rfl, rfl, e.sql h, ha, q⟩
theorem rv_ixt {xs : List V} {i : Int} (h : SqT K H p xs) (ha : atI xs i = some v) : RV T (rIxT K) (.ref p) (.int i) H v := rv_now fun _ e _ q => ⟨p, xs, i, v, rfl, rfl, e.sqt h, ha, q⟩
theorem rv_inT {neg : Bool} (h : SqT K H p xs) (hx : flatV x = true) (ha : xs.all flatV = true) : RV T (rIn K neg) x (.ref p) H (.bl (if neg then !inV x xs else inV x xs)) := rv_now fun _ e _ q => ⟨p, xs, rfl, .inr (e.sqt h), hx, ha, q⟩
theorem rv_inL {neg : Bool} (h : SqL K H p xs) (hx : flatV x = true) (ha : xs.all flatV = true) : RV T (rIn K neg) x (.ref p) H (.bl (if neg then !inV x xs else inV x xs)) := rv_now fun _ e _ q => ⟨p, xs, rfl, .inl (e.sql h), hx, ha, q⟩
theorem rv_eqd {d e : PyData} (hd : Dp K H x d) (he : Dp K H y e) (s1 : SeqAt.shaped d = true) (s2 : SeqAt.shaped e = true) : RV T (rEqD K) x y H (.bl (PyData.eqv d e)) := rv_now fun _ w _ q => ⟨d, e, w.dp hd, w.dp he, s1, s2, q⟩
theorem rv_ned {d e : PyData} (hd : Dp K H x d) (he : Dp K H y e) (s1 : SeqAt.shaped d = true) (s2 : SeqAt.shaped e = true) : RV T (rNeD K) x y H (.bl (!PyData.eqv d e)) := rv_now fun _ w _ q => ⟨d, e, w.dp hd, w.dp he, s1, s2, q⟩
theorem rv_lts {i j : Str} : RV T (fun x y H Q => ∃ i j, x = .str i ∧ y = .str j ∧ Q (.bl (decide (i.cps.toList < j.cps.toList))) H) (.str i) (.str j) H (.bl (decide (i.cps.toList < j.cps.toList))) := rv_now fun _ _ _ q => ⟨i, j, rfl, rfl, q⟩
theorem rv_les {i j : Str} : RV T (fun x y H Q => ∃ i j, x = .str i ∧ y = .str j ∧ Q (.bl (!decide (j.cps.toList < i.cps.toList))) H) (.str i) (.str j) H (.bl (!decide (j.cps.toList < i.cps.toList))) := rv_now fun _ _ _ q => ⟨i, j, rfl, rfl, q⟩
/-! tests -/
theorem et_test {b : Bool} (h : Ev T te σ H (.bl b)) : EvT T (tTest te) σ H b := fun H1 e _ q => h H1 e _ fun H2 e2 => ⟨b, rfl, q H2 e2⟩
theorem et_b {b : Bool} (h : Ev T te σ H (.bl b)) : EvT T (tB te) σ H b := fun H1 e _ q => h H1 e _ fun H2 e2 => ⟨b, rfl, q H2 e2⟩
theorem et_and {b c : Bool} (h1 : EvT T t σ H b) (h2 : b = true → EvT T u σ H c) : EvT T (tAnd t u) σ H (b && c) := fun H1 e Q q => h1 H1 e _ fun H2 e2 => by
  cases b with
  | true =>
    show u σ H2 Q
    exact h2 rfl H2 (e.trans e2) Q fun H3 e3 => q H3 (e2.trans e3)
  | false =>
    show Q false H2
    exact q H2 e2
theorem et_or {b c : Bool} (h1 : EvT T t σ H b) (h2 : b = false → EvT T u σ H c) : EvT T (tOr t u) σ H (b || c) := fun H1 e Q q => h1 H1 e _ fun H2 e2 => by
  cases b with
  | true =>
    show Q true H2
    exact q H2 e2
  | false =>
    show u σ H2 Q
    exact h2 rfl H2 (e.trans e2) Q fun H3 e3 => q H3 (e2.trans e3)
theorem et_not {b : Bool} (h : EvT T t σ H b) : EvT T (tNot t) σ H (!b) := fun H1 e _ q => h H1 e _ fun H2 e2 => q H2 e2
theorem et_yes : EvT T tYes σ H true := fun H1 _ _ q => q H1 (.refl H1)
theorem ev_andV {b c : Bool} (h1 : Ev T ta σ H (.bl b)) (h2 : b = true → Ev T tb σ H (.bl c)) : Ev T (tAndV ta tb) σ H (.bl (b && c)) := fun H1 e Q q => h1 H1 e _ fun H2 e2 => ⟨b, rfl, by
  cases b with
  | true =>
    show tb σ H2 Q
    exact h2 rfl H2 (e.trans e2) Q fun H3 e3 => q H3 (e2.trans e3)
  | false =>
    show Q (.bl false) H2
    exact q H2 e2⟩
theorem ev_orV {b c : Bool} (h1 : Ev T ta σ H (.bl b)) (h2 : b = false → Ev T tb σ H (.bl c)) : Ev T (tOrV ta tb) σ H (.bl (b || c)) := fun H1 e Q q => h1 H1 e _ fun H2 e2 => ⟨b, rfl, by
  cases b with
  | true =>
    show Q (.bl true) H2
    exact q H2 e2
  | false =>
    show tb σ H2 Q
    exact h2 rfl H2 (e.trans e2) Q fun H3 e3 => q H3 (e2.trans e3)⟩
theorem ev_notV {b : Bool} (h : Ev T ta σ H (.bl b)) : Ev T (tNotV ta) σ H (.bl (!b)) := fun H1 e _ q => h H1 e _ fun H2 e2 => ⟨b, rfl, q H2 e2⟩
theorem ev_if {b : Bool} (h : EvT T t σ H b) (h1 : b = true → Ev T ta σ H v) (h2 : b = false → Ev T tb σ H v) : Ev T (tIf t ta tb) σ H v := fun H1 e Q q => h H1 e _ fun H2 e2 => by
  cases b with
  | true =>
    show ta σ H2 Q
    exact h1 rfl H2 (e.trans e2) Q fun H3 e3 => q H3 (e2.trans e3)
  | false =>
    show tb σ H2 Q
    exact h2 rfl H2 (e.trans e2) Q fun H3 e3 => q H3 (e2.trans e3)
theorem eo_if {b : Bool} (h : EvT T t σ H b) (h1 : b = true → EvO T ta σ H Φ) (h2 : b = false → EvO T tb σ H Φ) : EvO T (tIf t ta tb) σ H Φ := fun H1 e Q q => h H1 e _ fun H2 e2 => by
  cases b with
  | true =>
    show ta σ H2 Q
    exact h1 rfl H2 (e.trans e2) Q fun v H3 e3 => q v H3 (e2.trans e3)
  | false =>
    show tb σ H2 Q
    exact h2 rfl H2 (e.trans e2) Q fun v H3 e3 => q v H3 (e2.trans e3)
/-! arguments, calls, fields -/
theorem ea_nil : EvA T tNil σ H [] := fun H1 _ _ q => q H1 (.refl H1)
theorem ea_cons (h : Ev T te σ H x) (hr : EvA T tr σ H vs) : EvA T (tCons te tr) σ H (x :: vs) := fun H1 e _ q => h H1 e _ fun H2 e2 => hr H2 (e.trans e2) _ fun H3 e3 => q H3 (e2.trans e3)
theorem ea1 (h : Ev T te σ H x) : EvA T (tCons te tNil) σ H [x] := ea_cons h ea_nil
theorem ea2 (h : Ev T te σ H x) (h2 : Ev T ta σ H y) : EvA T (tCons te (tCons ta tNil)) σ H [x, y] := ea_cons h (ea1 h2)
theorem ea3 (h : Ev T te σ H x) (h2 : Ev T ta σ H y) (h3 : Ev T tb σ H z) : EvA T (tCons te (tCons ta (tCons tb tNil))) σ H [x, y, z] := ea_cons h (ea2 h2 h3)
theorem ev_fld {C dx : Addr} {fs : List (Str × V)} {f : Str} (h : Ev T te σ H (.ref a)) (hp : H a = some (.ins C dx fs)) (c : Cls K C) (n : NoAttr K C f) (l : fs.lookup f = some v) : Ev T (tFld K te f) σ H v := fun H1 e _ q =>
  h H1 e _ fun H2 e2 => ⟨a, C, dx, fs, v, rfl, (e.trans e2).ins hp, c, n, l, q H2 e2⟩
theorem ev_call {sp : Sp} {ds : List V} (h : EvA T ts σ H vs) (g : Gv T sp (vs ++ ds) H v) : Ev T (tCall sp ds E0 ts) σ H v := fun H1 e Q q => h H1 e _ fun H2 e2 => g H2 (e.trans e2) Q fun H3 e3 => q H3 (e2.trans e3)
theorem eo_call {sp : Sp} {ds : List V} (h : EvA T ts σ H vs) (g : GvO T sp (vs ++ ds) H Φ) : EvO T (tCall sp ds E0 ts) σ H Φ := fun H1 e Q q => h H1 e _ fun H2 e2 => g H2 (e.trans e2) Q fun v H3 e3 => q v H3 (e2.trans e3)
theorem ev_meth {C dx : Addr} {fs : List (Str × V)} {m : Str} {sp : Sp} {ds : List V} (h : Ev T te σ H (.ref a)) (hp : H a = some (.ins C dx fs)) (l : fs.lookup m = none) (hs : EvA T ts σ H vs) (g : Gv T sp (.ref a :: (vs ++ ds)) H v) :
    Ev T (tMeth C m sp ds E0 te ts) σ H v := fun H1 e Q q => h H1 e _ fun H2 e2 => ⟨a, dx, fs, rfl, (e.trans e2).ins hp, l, hs H2 (e.trans e2) _ fun H3 e3 => g H3 ((e.trans e2).trans e3) Q fun H4 e4 => q H4 ((e2.trans e3).trans e4)⟩
theorem eo_meth {C dx : Addr} {fs : List (Str × V)} {m : Str} {sp : Sp} {ds : List V} (h : Ev T te σ H (.ref a)) (hp : H a = some (.ins C dx fs)) (l : fs.lookup m = none) (hs : EvA T ts σ H vs) (g : GvO T sp (.ref a :: (vs ++ ds)) H Φ) :
    EvO T (tMeth C m sp ds E0 te ts) σ H Φ := fun H1 e Q q => h H1 e _ fun H2 e2 => ⟨a, dx, fs, rfl, (e.trans e2).ins hp, l, hs H2 (e.trans e2) _ fun H3 e3 => g H3 ((e.trans e2).trans e3) Q fun v H4 e4 => q v H4 ((e2.trans e3).trans e4)⟩
theorem ev_cb {r : List V → Hp → VK → Prop} (h : EvA T ts σ H vs) (g : RC T r vs H v) : Ev T (tCB r ts) σ H v := fun H1 e Q q => h H1 e _ fun H2 e2 => g H2 (e.trans e2) Q fun H3 e3 => q H3 (e2.trans e3)
theorem eo_cb {r : List V → Hp → VK → Prop} (h : EvA T ts σ H vs) (g : RCO T r vs H Φ) : EvO T (tCB r ts) σ H Φ := fun H1 e Q q => h H1 e _ fun H2 e2 => g H2 (e.trans e2) Q fun v H3 e3 => q v H3 (e2.trans e3)
/-- a built-in of one argument that was made on the way -/
theorem ev_cb1 {r : List V → Hp → VK → Prop} (h : EvO T te σ H Φ) (g : ∀ x H1, Wd T H H1 → Φ x H1 → RC T r [x] H1 v) : Ev T (tCB r (tCons te tNil)) σ H v := fun H1 e Q q => h H1 e _ fun x H2 e2 f => g x H2 (e.trans e2) f H2 (.refl H2) Q fun H3 e3 => q H3 (e2.trans e3)
theorem eo_cb1 {r : List V → Hp → VK → Prop} (h : EvO T te σ H Φ) (g : ∀ x H1, Wd T H H1 → Φ x H1 → RCO T r [x] H1 Ψ) : EvO T (tCB r (tCons te tNil)) σ H Ψ := fun H1 e Q q => h H1 e _ fun x H2 e2 f => g x H2 (e.trans e2) f H2 (.refl H2) Q fun v H3 e3 => q v H3 (e2.trans e3)
theorem rc_now {r : List V → Hp → VK → Prop} (h : ∀ H1, Wd T H H1 → ∀ Q : VK, Q z H1 → r vs H1 Q) : RC T r vs H z := fun H1 e Q q => h H1 e Q (q H1 (.refl H1))
theorem rc_all {bs : List Bool} (h : SqL K H a (bs.map V.bl)) : RC T (rAll K) [.ref a] H (.bl (bs.all id)) := rc_now fun _ e _ q => ⟨a, bs, rfl, e.sql h, q⟩
theorem rc_any {bs : List Bool} (h : SqL K H a (bs.map V.bl)) : RC T (rAny K) [.ref a] H (.bl (bs.any id)) := rc_now fun _ e _ q => ⟨a, bs, rfl, e.sql h, q⟩
theorem eo_tup (h : EvA T ts σ H vs) (hl : vs.length ≤ 1000000) : EvO T (tTup ts) σ H (NTup H vs) := fun H1 e _ q => h H1 e _ fun H2 e2 => ⟨le_line hl, fun p hp => q _ _ (e2.trans (.new hp)) ⟨p, rfl, (new_none hp).back (e.trans e2), upd_same⟩⟩
theorem eo_lst (h : EvA T ts σ H vs) (hl : vs.length ≤ 1000000) : EvO T (tLst ts) σ H (NLst H vs) := fun H1 e _ q => h H1 e _ fun H2 e2 => ⟨le_line hl, fun p hp => q _ _ (e2.trans (.new hp)) ⟨p, rfl, (new_none hp).back (e.trans e2), upd_same⟩⟩
theorem ev_dgetK {kvs : List (Key × V)} {k : Key} (h : Ev T ta σ H (.ref a)) (hk : Ev T tb σ H (kV k)) (hd : H a = some (.dK kvs)) (hv : valV kvs k = some v) : Ev T (tDGet ta tb) σ H v := fun H1 e _ q =>
  h H1 e _ fun H2 e2 => hk H2 (e.trans e2) _ fun H3 e3 => ⟨a, v, rfl, by have z := DGet.k (k := k) (((e.trans e2).trans e3).dK hd); rw [hv] at z; exact z, q H3 (e2.trans e3)⟩
theorem ev_dgetT {kvs : List (List Key × V)} {k : List Key} (h : Ev T ta σ H (.ref a)) (hk : Ev T tb σ H (.ref p)) (hd : H a = some (.dT kvs)) (hp : H p = some (.tup (k.map kV))) (hv : valV kvs k = some v) : Ev T (tDGet ta tb) σ H v := fun H1 e _ q =>
  h H1 e _ fun H2 e2 => hk H2 (e.trans e2) _ fun H3 e3 => ⟨a, v, rfl, by have z := DGet.t (k := k) (((e.trans e2).trans e3).dT hd) (((e.trans e2).trans e3).tup hp); rw [hv] at z; exact z, q H3 (e2.trans e3)⟩
end

/-! ### statements -/
section
variable {T : TT0} {K : PySem.W.Frag} {σ : L2.St} {H H' : Hp} {ta tb tc te tx : TE} {t u : TT} {x y z v w : V} {Φ Ψ : V → Hp → Prop} {ts tr : TA} {vs ws xs : List V} {a p : Addr} {D : Ends} {tu tw tz : TS} {g : TG}
theorem q_ (h : tu { D with nx := tz D } σ H) : tSeq tu tz D σ H := h
theorem s_asg {i : Nat} (h : Ev T te σ H v) (k : ∀ H1, Wd T H H1 → D.nx (σ.set i (some v)) H1) : tAsg te (gName i) D σ H := h.bind k
theorem s_asgO {i : Nat} (h : EvO T te σ H Φ) (k : ∀ v H1, Wd T H H1 → Φ v H1 → D.nx (σ.set i (some v)) H1) : tAsg te (gName i) D σ H := h.bind k
theorem s_asgG (h : EvO T te σ H Φ) (k : ∀ v H1, Wd T H H1 → Φ v H1 → g v σ H1 D.nx) : tAsg te g D σ H := h.bind k
theorem s_ret (h : Ev T te σ H v) (k : ∀ H1, Wd T H H1 → D.rt v H1) : tRet te D σ H := h.bind k
theorem s_retO (h : EvO T te σ H Φ) (k : ∀ v H1, Wd T H H1 → Φ v H1 → D.rt v H1) : tRet te D σ H := h.bind k
theorem s_drop (h : EvO T te σ H Φ) (k : ∀ v H1, Wd T H H1 → Φ v H1 → D.nx σ H1) : tDrop te D σ H := h.bind k
theorem s_dropV (h : Ev T te σ H v) (k : ∀ H1, Wd T H H1 → D.nx σ H1) : tDrop te D σ H := h.bind k
theorem s_if {b : Bool} (h : EvT T t σ H b) (h1 : b = true → ∀ H1, Wd T H H1 → tu D σ H1) (h2 : b = false → ∀ H1, Wd T H H1 → tw D σ H1) : tIfS t tu tw D σ H := h H (.refl H) _ fun H1 e => by
  cases b with
  | true =>
    show tu D σ H1
    exact h1 rfl H1 e
  | false =>
    show tw D σ H1
    exact h2 rfl H1 e
theorem s_when {b : Bool} (h : EvT T t σ H b) (h1 : b = true → ∀ H1, Wd T H H1 → tu D σ H1) (h2 : b = false → ∀ H1, Wd T H H1 → D.nx σ H1) : tIfS t tu tNext D σ H := s_if h h1 h2
/-- an if that is not taken (a refusal) -/
theorem s_skip (h : EvT T t σ H false) (k : ∀ H1, Wd T H H1 → D.nx σ H1) : tIfS t tu tNext D σ H := s_if h (fun z => by cases z) fun _ => k
theorem s_par {i j : Nat} (h : EvA T ts σ H [v, w]) (k : ∀ H1, Wd T H H1 → D.nx ((σ.set i (some v)).set j (some w)) H1) : tPar i j ts D σ H := h H (.refl H) _ fun H1 e => ⟨v, w, rfl, k H1 e⟩
theorem g_tup2 {i j : Nat} {Q : L2.St → Hp → Prop} (h : SqT K H a [x, y]) (k : Q ((σ.set i (some x)).set j (some y)) H) : gTup K 2 (gCons (gName i) (gCons (gName j) gNil)) (.ref a) σ H Q := ⟨a, _, rfl, h, rfl, x, [y], rfl, y, [], rfl, rfl, k⟩
theorem g_tup3 {i j l : Nat} {Q : L2.St → Hp → Prop} (h : SqT K H a [x, y, z]) (k : Q (((σ.set i (some x)).set j (some y)).set l (some z)) H) : gTup K 3 (gCons (gName i) (gCons (gName j) (gCons (gName l) gNil))) (.ref a) σ H Q := ⟨a, _, rfl, h, rfl, x, _, rfl, y, _, rfl, z, _, rfl, rfl, k⟩
theorem g_tup4 {i j l m : Nat} {Q : L2.St → Hp → Prop} (h : SqT K H a [x, y, z, w]) (k : Q ((((σ.set i (some x)).set j (some y)).set l (some z)).set m (some w)) H) : gTup K 4 (gCons (gName i) (gCons (gName j) (gCons (gName l) (gCons (gName m) gNil)))) (.ref a) σ H Q :=
  ⟨a, _, rfl, h, rfl, x, _, rfl, y, _, rfl, z, _, rfl, w, _, rfl, rfl, k⟩
/-- for over a tuple, a list: the invariant beside the heap's growth -/
theorem s_forT {tl : TE} (h : Ev T tl σ H (.ref a)) (hx : SqT K H a xs) (Pv : Nat → L2.St → Hp → Prop) (h0 : ∀ H1, Wd T H H1 → Pv 0 σ H1)
    (hs : ∀ i x σ' H', xs[i]? = some x → Wd T H H' → Pv i σ' H' → g x σ' H' fun σ2 H2 => tu { D with nx := fun σ'' H'' => Wd T H H'' ∧ Pv (i + 1) σ'' H'', ct := fun σ'' H'' => Wd T H H'' ∧ Pv (i + 1) σ'' H'', bk := D.nx } σ2 H2)
    (hd : ∀ σ' H', Wd T H H' → Pv xs.length σ' H' → D.nx σ' H') : tFor (iTup K tl) g tu D σ H := h.bind fun H1 e => ⟨a, rfl, ⟨xs, e.sqt hx⟩, for_tup (xs := xs) (fun i σ' H' => Wd T H H' ∧ Pv i σ' H') ⟨e, h0 H1 e⟩ (fun i σ' H' _ p => p.1.sqt hx)
      (fun i x σ' H' hi p => hs i x σ' H' hi p.1 p.2) fun σ' H' p => hd σ' H' p.1 p.2⟩
theorem s_forL {tl : TE} (h : Ev T tl σ H (.ref a)) (hx : SqL K H a xs) (Pv : Nat → L2.St → Hp → Prop) (h0 : ∀ H1, Wd T H H1 → Pv 0 σ H1)
    (hs : ∀ i x σ' H', xs[i]? = some x → Wd T H H' → Pv i σ' H' → g x σ' H' fun σ2 H2 => tu { D with nx := fun σ'' H'' => Wd T H H'' ∧ Pv (i + 1) σ'' H'', ct := fun σ'' H'' => Wd T H H'' ∧ Pv (i + 1) σ'' H'', bk := D.nx } σ2 H2)
    (hd : ∀ σ' H', Wd T H H' → Pv xs.length σ' H' → D.nx σ' H') : tFor (iList K tl) g tu D σ H := h.bind fun H1 e => ⟨a, rfl, ⟨xs, e.sql hx⟩, for_list (xs := xs) (fun i σ' H' => Wd T H H' ∧ Pv i σ' H') ⟨e, h0 H1 e⟩ (fun i σ' H' _ p => p.1.sql hx)
      (fun i x σ' H' hi p => hs i x σ' H' hi p.1 p.2) fun σ' H' p => hd σ' H' p.1 p.2⟩
/-- over a list that was made on the way -/
theorem s_forLO {tl : TE} (h : EvO T tl σ H Φ) (hx : ∀ v H1, Wd T H H1 → Φ v H1 → ∃ a xs, v = .ref a ∧ SqL K H1 a xs ∧ ∃ Pv : Nat → L2.St → Hp → Prop, Pv 0 σ H1 ∧
      (∀ i x σ' H', xs[i]? = some x → Wd T H1 H' → Pv i σ' H' → g x σ' H' fun σ2 H2 => tu { D with nx := fun σ'' H'' => Wd T H1 H'' ∧ Pv (i + 1) σ'' H'', ct := fun σ'' H'' => Wd T H1 H'' ∧ Pv (i + 1) σ'' H'', bk := D.nx } σ2 H2) ∧
      ∀ σ' H', Wd T H1 H' → Pv xs.length σ' H' → D.nx σ' H') : tFor (iList K tl) g tu D σ H := h.bind fun v H1 e f => by
  obtain ⟨a, xs, rfl, hl, Pv, h0, hs, hd⟩ := hx v H1 e f
  exact ⟨a, rfl, ⟨xs, hl⟩, for_list (xs := xs) (fun i σ' H' => Wd T H1 H' ∧ Pv i σ' H') ⟨.refl H1, h0⟩ (fun i σ' H' _ p => p.1.sql hl) (fun i x σ' H' hi p => hs i x σ' H' hi p.1 p.2) fun σ' H' p => hd σ' H' p.1 p.2⟩
/-- l.append(e), l known to nobody -/
theorem s_app {l : Addr} (hl : H l = some (.lst xs)) (ha : Ev T ta σ H (.ref l)) (h : EvO T te σ H Φ) (hz : xs.length < 1000000) (k : ∀ v H1, Wd T H H1 → Φ v H1 → D.nx σ (upd H1 l (.lst (xs ++ [v])))) :
    tDrop (tBM K "list" rAppend ta (tCons te tNil)) D σ H := ha H (.refl H) _ fun H1 e1 => ⟨.inl ⟨rfl, xs, sl_of (e1.lst hl)⟩, h H1 e1 _ fun v H2 e2 f => ⟨l, xs, v, rfl, rfl, (e1.trans e2).lst hl, lt_line hz, k v H2 (e1.trans e2) f⟩⟩
end

/-! ### comprehensions -/
section
variable {T : TT0} {K : PySem.W.Frag} {σ : L2.St} {H H' : Hp} {te : TE} {tt : TT} {g : TG} {vs : List Nat} {J : It} {n : Nat} {G : Hp → Prop} {Y : Nat → Hp → V → Hp → Prop}
/-- over anything that is walked: L the items, iv the i-th turn's slots, f the test, Φ what an element is -/
theorem lc_gen {α : Type} {L : List α} {H1 : Hp} {Dl : Addr} {Qd : Hp → Prop} {f : α → Bool} {Φ : α → V → Hp → Prop} (w : Walk J L.length G Y) (hH : Wd T H H1) (hD : H1 Dl = none) (hG : ∀ H', Wd T H H' → G H') (hn : L.length ≤ 100000)
    (mono : ∀ a v H' H'', (∀ b xs, H' b = some (.tup xs) → H'' b = some (.tup xs)) → Φ a v H' → Φ a v H'')
    (hs : ∀ (i : Nat) (a : α) (x : V) (H' H'' : Hp), L[i]? = some a → Wd T H H' → Y i H' x H'' → Wd T H' H'' ∧ ∀ Q : L2.St → Hp → Prop, (∀ σ2 H2, Wd T H'' H2 → wipe σ2 vs = wipe σ vs → EvT T tt σ2 H2 (f a) → (f a = true → EvO T te σ2 H2 (Φ a)) → Q σ2 H2) → g x (wipe σ vs) H'' Q)
    (hd : ∀ H' ys, Wd T H H' → New H Dl → H' Dl = some (.lst ys) → Paired (fun a y => Φ a y H') (L.filter f) ys → Qd H') :
    ∃ W : Nat → Nat → Hp → Prop, (∃ m, W 0 m (upd H1 Dl (.lst []))) ∧ ∀ i m H, W i m H → (J.stop i H ∧ Qd H) ∨ (J.go i H ∧ ∃ Nx : Hp → Prop, (∀ H', Nx H' → ∃ m', m' < m ∧ W (i + 1) m' H') ∧ ∀ x H', J.yld i H x H' → g x (wipe σ vs) H' fun σ2 H2 => wipe σ2 vs = wipe σ vs ∧ tt σ2 H2 fun b H3 =>
        if b = true then te σ2 H3 fun y H4 => ∃ acc, H4 Dl = some (.lst acc) ∧ acc.length < sizeLine ∧ Nx (upd H4 Dl (.lst (acc ++ [y]))) else Nx H3) := by
  have nD : New H Dl := (new_none hD).back hH
  have pl : ∀ {l m : List α} {ys : List V} {H' : Hp}, Paired (fun a y => Φ a y H') l ys → ys.length ≤ l.length := fun p => by rw [← Paired.length p]; exact Nat.le_refl _
  have upT : ∀ {l : List α} {ys : List V} {H' H'' : Hp}, (∀ b xs, H' b = some (.tup xs) → H'' b = some (.tup xs)) → Paired (fun a y => Φ a y H') l ys → Paired (fun a y => Φ a y H'') l ys := fun e p => Paired.mapP p fun a y z => mono a y _ _ e z
  have up : ∀ {l : List α} {ys : List V} {H' H'' : Hp}, Wd T H' H'' → Paired (fun a y => Φ a y H') l ys → Paired (fun a y => Φ a y H'') l ys := fun e p => upT (fun b xs h => e.tup h) p
  have app : ∀ {l m : List α} {ys zs : List V} {H' : Hp}, Paired (fun a y => Φ a y H') l ys → Paired (fun a y => Φ a y H') m zs → Paired (fun a y => Φ a y H') (l ++ m) (ys ++ zs) := fun {l m ys zs H'} p q => by
    induction p with
    | nil => exact q
    | cons h _ ih => exact .cons h ih
  refine lc_it w (fun i H' => Wd T H H' ∧ ∃ ys, H' Dl = some (.lst ys) ∧ Paired (fun a y => Φ a y H') ((L.take i).filter f) ys) ⟨hH.trans (.new hD), [], upd_same, .nil⟩ (fun i H' _ p => hG H' p.1) (fun i x H' H'' hi p y => ?_) fun H' p => ?_
  · obtain ⟨e, ys, hys, hp⟩ := p
    obtain ⟨a, ha⟩ : ∃ a, L[i]? = some a := ⟨_, List.getElem?_eq_getElem hi⟩
    obtain ⟨e1, hg⟩ := hs i a x H' H'' ha e y
    refine hg _ fun σ2 H2 e2 hw ht he => ⟨hw, ?_⟩
    have e12 := e1.trans e2
    have tk : L.take (i + 1) = L.take i ++ [a] := by rw [List.take_add_one, ha]; rfl
    have ln : ys.length ≤ L.length := by
      have z1 := pl (m := L) hp
      have z2 := List.length_filter_le f (L.take i)
      rw [List.length_take] at z2
      omega
    refine ht H2 (.refl H2) _ fun H3 e3 => ?_
    cases hf : f a with
    | true =>
      show te σ2 H3 _
      refine he hf H3 e3 _ fun v H4 e4 fv => ?_
      have e5 := (e12.trans e3).trans e4
      have e5' := e5
      have z := e5.lst hys
      have kt : ∀ b xs, H4 b = some (.tup xs) → upd H4 Dl (.lst (ys ++ [v])) b = some (.tup xs) := fun b xs h => by
        rw [upd_ne (ne_of h z (by intro q; cases q))]
        exact h
      refine ⟨ys, z, lt_line (by omega), (e.trans e5).mut nD z trivial, ys ++ [v], upd_same, ?_⟩
      rw [tk, List.filter_append]
      have fa : [a].filter f = [a] := by simp [hf]
      rw [fa]
      exact upT kt (app (up e5' hp) (.cons fv .nil))
    | false =>
      show Wd T H H3 ∧ _
      refine ⟨(e.trans e12).trans e3, ys, (e12.trans e3).lst hys, ?_⟩
      rw [tk, List.filter_append]
      have fa : [a].filter f = [] := by simp [hf]
      rw [fa, List.append_nil]
      exact up (e12.trans e3) hp
  · obtain ⟨e, ys, hys, hp⟩ := p
    rw [List.take_length] at hp
    exact hd H' ys e nD hys hp

/-- items as slots: one name -/
def sl1 (σ : L2.St) (vs : List Nat) (j : Nat) (x : V) : L2.St := (wipe σ vs).set j (some x)
/-- elements that are values -/
theorem paired_eq {α : Type} {e : α → V} : ∀ {l : List α} {ys : List V}, Paired (fun a y => y = e a) l ys → ys = l.map e
  | _, _, .nil => rfl
  | _, _, .cons h p => by rw [List.map_cons, paired_eq p, h]
/-- [e for x in l if t], l a list, x a name, elements that are values -/
theorem lc_list {α : Type} {L : List α} {iv : α → V} {f : α → Bool} {ev : α → V} {tl : TE} {a : Addr} {j : Nat} (h : Ev T tl σ H (.ref a)) (hx : SqL K H a (L.map iv)) (hn : L.length ≤ 100000) (hw : ∀ x, wipe (sl1 σ vs j x) vs = wipe σ vs)
    (ht : ∀ b ∈ L, ∀ H1, Wd T H H1 → EvT T tt (sl1 σ vs j (iv b)) H1 (f b)) (he : ∀ b ∈ L, f b = true → ∀ H1, Wd T H H1 → Ev T te (sl1 σ vs j (iv b)) H1 (ev b)) : EvO T (tLc (iList K tl) (gName j) tt te vs) σ H (NLst H ((L.filter f).map ev)) := fun H0 e0 Q q =>
  h H0 e0 _ fun H1 e1 => ⟨a, rfl, ⟨_, (e0.trans e1).sql hx⟩, fun Dl hD => lc_gen (T := T) (Φ := fun b y _ => y = ev b) (L := L) (f := f) (w := by have z := walk_list (K := K) (a := a) (xs := L.map iv); rw [List.length_map] at z; exact z) (H := H1) (.refl H1) hD (fun H' e => ((e0.trans e1).trans e).sql hx) hn
    (fun _ _ _ _ _ z => z) (fun i b x H' H'' hb e y => by
      obtain ⟨rfl, hx'⟩ := y
      rw [List.getElem?_map, hb] at hx'
      obtain rfl : iv b = x := Option.some.inj hx'
      have mb := List.mem_of_getElem? hb
      exact ⟨.refl _, fun Q k => k _ _ (.refl _) (hw _) (ht b mb _ ((e0.trans e1).trans e)) fun z => (he b mb z _ ((e0.trans e1).trans e)).eo⟩) fun H' ys e nD hy hp => by
        rw [paired_eq hp] at hy
        exact q _ _ (e1.trans e) ⟨Dl, rfl, nD.back (e0.trans e1), hy⟩⟩
/-- the same over a tuple -/
theorem lc_tupl {α : Type} {L : List α} {iv : α → V} {f : α → Bool} {ev : α → V} {tl : TE} {a : Addr} {j : Nat} (h : Ev T tl σ H (.ref a)) (hx : SqT K H a (L.map iv)) (hn : L.length ≤ 100000) (hw : ∀ x, wipe (sl1 σ vs j x) vs = wipe σ vs)
    (ht : ∀ b ∈ L, ∀ H1, Wd T H H1 → EvT T tt (sl1 σ vs j (iv b)) H1 (f b)) (he : ∀ b ∈ L, f b = true → ∀ H1, Wd T H H1 → Ev T te (sl1 σ vs j (iv b)) H1 (ev b)) : EvO T (tLc (iTup K tl) (gName j) tt te vs) σ H (NLst H ((L.filter f).map ev)) := fun H0 e0 Q q =>
  h H0 e0 _ fun H1 e1 => ⟨a, rfl, ⟨_, (e0.trans e1).sqt hx⟩, fun Dl hD => lc_gen (T := T) (Φ := fun b y _ => y = ev b) (L := L) (f := f) (w := by have z := walk_tup (K := K) (a := a) (xs := L.map iv); rw [List.length_map] at z; exact z) (H := H1) (.refl H1) hD (fun H' e => ((e0.trans e1).trans e).sqt hx) hn
    (fun _ _ _ _ _ z => z) (fun i b x H' H'' hb e y => by
      obtain ⟨rfl, hx'⟩ := y
      rw [List.getElem?_map, hb] at hx'
      obtain rfl : iv b = x := Option.some.inj hx'
      have mb := List.mem_of_getElem? hb
      exact ⟨.refl _, fun Q k => k _ _ (.refl _) (hw _) (ht b mb _ ((e0.trans e1).trans e)) fun z => (he b mb z _ ((e0.trans e1).trans e)).eo⟩) fun H' ys e nD hy hp => by
        rw [paired_eq hp] at hy
        exact q _ _ (e1.trans e) ⟨Dl, rfl, nD.back (e0.trans e1), hy⟩⟩
/-- over a list made on the way -/
theorem lc_listO {α : Type} {L : List α} {iv : α → V} {f : α → Bool} {ev : α → V} {tl : TE} {j : Nat} {Φ : V → Hp → Prop} (h : EvO T tl σ H Φ) (hx : ∀ v H1, Wd T H H1 → Φ v H1 → ∃ a, v = .ref a ∧ SqL K H1 a (L.map iv)) (hn : L.length ≤ 100000) (hw : ∀ x, wipe (sl1 σ vs j x) vs = wipe σ vs)
    (ht : ∀ b ∈ L, ∀ H1, Wd T H H1 → EvT T tt (sl1 σ vs j (iv b)) H1 (f b)) (he : ∀ b ∈ L, f b = true → ∀ H1, Wd T H H1 → Ev T te (sl1 σ vs j (iv b)) H1 (ev b)) : EvO T (tLc (iList K tl) (gName j) tt te vs) σ H (NLst H ((L.filter f).map ev)) := fun H0 e0 Q q =>
  h H0 e0 _ fun v H1 e1 fv => by
    obtain ⟨a, rfl, ha⟩ := hx v H1 (e0.trans e1) fv
    refine ⟨a, rfl, ⟨_, ha⟩, fun Dl hD => lc_gen (T := T) (Φ := fun b y _ => y = ev b) (L := L) (f := f) (w := by have z := walk_list (K := K) (a := a) (xs := L.map iv); rw [List.length_map] at z; exact z) (H := H1) (.refl H1) hD (fun H' e => e.sql ha) hn
      (fun _ _ _ _ _ z => z) (fun i b x H' H'' hb e y => ?_) fun H' ys e nD hy hp => ?_⟩
    · obtain ⟨rfl, hx'⟩ := y
      rw [List.getElem?_map, hb] at hx'
      obtain rfl : iv b = x := Option.some.inj hx'
      have mb := List.mem_of_getElem? hb
      exact ⟨.refl _, fun Q k => k _ _ (.refl _) (hw _) (ht b mb _ ((e0.trans e1).trans e)) fun z => (he b mb z _ ((e0.trans e1).trans e)).eo⟩
    · rw [paired_eq hp] at hy
      exact q _ _ (e1.trans e) ⟨Dl, rfl, nD.back (e0.trans e1), hy⟩
/-- over range(n) -/
theorem lc_rng {n : Nat} {f : Nat → Bool} {ev : Nat → V} {ta : TA} {j : Nat} (h : EvA T ta σ H [.int (n : Int)]) (hn : n ≤ 100000) (hw : ∀ x, wipe (sl1 σ vs j x) vs = wipe σ vs)
    (ht : ∀ b : Nat, b < n → ∀ H1, Wd T H H1 → EvT T tt (sl1 σ vs j (.int (b : Int))) H1 (f b)) (he : ∀ b : Nat, b < n → f b = true → ∀ H1, Wd T H H1 → Ev T te (sl1 σ vs j (.int (b : Int))) H1 (ev b)) :
    EvO T (tLc (iRng1 ta) (gName j) tt te vs) σ H (NLst H (((List.range n).filter f).map ev)) := fun H0 e0 Q q =>
  h H0 e0 _ fun H1 e1 => ⟨(n : Int), rfl, by omega, by omega, fun Dl hD => lc_gen (T := T) (Φ := fun b y _ => y = ev b) (L := List.range n) (f := f) (w := by have z := walk_range (lo := 0) (n := n); rw [List.length_range]; exact z) (H := H1) (.refl H1) hD (fun _ _ => trivial) (by rw [List.length_range]; exact hn)
    (fun _ _ _ _ _ z => z) (fun i b x H' H'' hb e y => by
      obtain ⟨rfl, rfl⟩ := y
      have hi : i < n := by
        have z := (List.getElem?_eq_some_iff.mp hb).1
        rw [List.length_range] at z
        exact z
      obtain rfl : i = b := by
        rw [List.getElem?_range hi] at hb
        exact Option.some.inj hb
      have e3 : (0 : Int) + ((i : Nat) : Int) = (i : Int) := Int.zero_add _
      dsimp only
      rw [e3]
      exact ⟨.refl _, fun Q k => k _ _ (.refl _) (hw _) (ht i hi _ ((e0.trans e1).trans e)) fun z => (he i hi z _ ((e0.trans e1).trans e)).eo⟩) fun H' ys e nD hy hp => by
        rw [paired_eq hp] at hy
        exact q _ _ (e1.trans e) ⟨Dl, rfl, nD.back (e0.trans e1), hy⟩⟩
/-- the signs of a text -/
theorem lc_str {z : Str} {f : Nat → Bool} {ev : Nat → V} {te0 : TE} {j : Nat} (h : Ev T te0 σ H (.str z)) (hn : z.cps.size ≤ 100000) (hw : ∀ x, wipe (sl1 σ vs j x) vs = wipe σ vs)
    (ht : ∀ c ∈ z.cps.toList, ∀ H1, Wd T H H1 → EvT T tt (sl1 σ vs j (.str ⟨#[c]⟩)) H1 (f c)) (he : ∀ c ∈ z.cps.toList, f c = true → ∀ H1, Wd T H H1 → Ev T te (sl1 σ vs j (.str ⟨#[c]⟩)) H1 (ev c)) :
    EvO T (tLc (iStr te0) (gName j) tt te vs) σ H (NLst H ((z.cps.toList.filter f).map ev)) := fun H0 e0 Q q =>
  h H0 e0 _ fun H1 e1 => ⟨z, rfl, fun Dl hD => lc_gen (T := T) (Φ := fun b y _ => y = ev b) (L := z.cps.toList) (f := f) (w := by have w := walk_str (z := z); rw [Array.length_toList]; exact w) (H := H1) (.refl H1) hD (fun _ _ => trivial) (by rw [Array.length_toList]; exact hn)
    (fun _ _ _ _ _ z => z) (fun i b x H' H'' hb e y => by
      obtain ⟨rfl, c, hc, rfl⟩ := y
      rw [Array.getElem?_toList, hc] at hb
      obtain rfl : c = b := Option.some.inj hb
      have mb : c ∈ z.cps.toList := List.mem_of_getElem? (by rw [Array.getElem?_toList]; exact hc)
      exact ⟨.refl _, fun Q k => k _ _ (.refl _) (hw _) (ht c mb _ ((e0.trans e1).trans e)) fun z => (he c mb z _ ((e0.trans e1).trans e)).eo⟩) fun H' ys e nD hy hp => by
        rw [paired_eq hp] at hy
        exact q _ _ (e1.trans e) ⟨Dl, rfl, nD.back (e0.trans e1), hy⟩⟩
end
end Bb
/-! ## part Kx -/
namespace Bb
open PySem PySem.Spec PyProof.Rows L2 LamX BbS
abbrev cRules (K : PySem.W.Frag) : Addr := He.ga K "Rules"
abbrev cDeed (K : PySem.W.Frag) : Addr := He.ga K "Deed"
abbrev cPerson (K : PySem.W.Frag) : Addr := He.ga K "Person"
abbrev cBook (K : PySem.W.Frag) : Addr := He.ga K "Book"
/-- a def as it stands -/
abbrev Def (K : PySem.W.Frag) (d : He.DefD) (fd : FuncData) : Prop := FunD K d.name d.qual d.params d.body d.scope (d.dvs K) (d.kws K) (He.fAd K d.at_) fd
structure Say (K : PySem.W.Frag) (mg : Str → Option Value) : Prop where
  g__law_all : mg "_law_all" = some (.ref (He.ga K "_law_all"))
  g__law_bests : mg "_law_bests" = some (.ref (He.ga K "_law_bests"))
  g__law_cell : mg "_law_cell" = some (.ref (He.ga K "_law_cell"))
  g__law_club : mg "_law_club" = some (.ref (He.ga K "_law_club"))
  g__law_deed : mg "_law_deed" = some (.ref (He.ga K "_law_deed"))
  g__law_draw : mg "_law_draw" = some (.ref (He.ga K "_law_draw"))
  g__law_made : mg "_law_made" = some (.ref (He.ga K "_law_made"))
  g__law_mixed : mg "_law_mixed" = some (.ref (He.ga K "_law_mixed"))
  g__law_names : mg "_law_names" = some (.ref (He.ga K "_law_names"))
  g__law_paper : mg "_law_paper" = some (.ref (He.ga K "_law_paper"))
  g__law_pen : mg "_law_pen" = some (.ref (He.ga K "_law_pen"))
  g__law_row : mg "_law_row" = some (.ref (He.ga K "_law_row"))
  g__law_rules : mg "_law_rules" = some (.ref (He.ga K "_law_rules"))
  g__law_some_best : mg "_law_some_best" = some (.ref (He.ga K "_law_some_best"))
  g__law_tell : mg "_law_tell" = some (.ref (He.ga K "_law_tell"))
  g__law_told_so : mg "_law_told_so" = some (.ref (He.ga K "_law_told_so"))
  g_are_events : mg "are_events" = some (.ref (He.ga K "are_events"))
  g_are_limits : mg "are_limits" = some (.ref (He.ga K "are_limits"))
  g_beats : mg "beats" = some (.ref (He.ga K "beats"))
  g_is_day : mg "is_day" = some (.ref (He.ga K "is_day"))
  g_is_event : mg "is_event" = some (.ref (He.ga K "is_event"))
  g_is_from : mg "is_from" = some (.ref (He.ga K "is_from"))
  g_is_mark : mg "is_mark" = some (.ref (He.ga K "is_mark"))
  g_is_name : mg "is_name" = some (.ref (He.ga K "is_name"))
  g_is_team : mg "is_team" = some (.ref (He.ga K "is_team"))
  g_is_way : mg "is_way" = some (.ref (He.ga K "is_way"))
  g_is_whole : mg "is_whole" = some (.ref (He.ga K "is_whole"))
  g_is_wind : mg "is_wind" = some (.ref (He.ga K "is_wind"))
  g_known_day : mg "known_day" = some (.ref (He.ga K "known_day"))
  g_law : mg "law" = some (.ref (He.ga K "law"))
  g_rises : mg "rises" = some (.ref (He.ga K "rises"))
  g_Rules : mg "Rules" = some (.ref (He.ga K "Rules"))
  g_Deed : mg "Deed" = some (.ref (He.ga K "Deed"))
  g_Person : mg "Person" = some (.ref (He.ga K "Person"))
  g_Book : mg "Book" = some (.ref (He.ga K "Book"))
  z_len : mg "len" = none
  z_isinstance : mg "isinstance" = none
  z_int : mg "int" = none
  z_str : mg "str" = none
  z_bool : mg "bool" = none
  z_tuple : mg "tuple" = none
  z_list : mg "list" = none
  z_all : mg "all" = none
  z_any : mg "any" = none
  z_set : mg "set" = none
  z_sorted : mg "sorted" = none
  z_range : mg "range" = none
  z_zip : mg "zip" = none
  z_dict : mg "dict" = none
  z_min : mg "min" = none
  z_KeyError : mg "KeyError" = none
  i_FIRST_DAY : ∃ t, mg "FIRST_DAY" = some (.int (-40000) t)
  i_LAST_DAY : ∃ t, mg "LAST_DAY" = some (.int (40000) t)
  i_LAST_MARK : ∃ t, mg "LAST_MARK" = some (.int (1000000) t)
  i_MOST_SIGNS : ∃ t, mg "MOST_SIGNS" = some (.int (8) t)
  i_MOST_LIMITS : ∃ t, mg "MOST_LIMITS" = some (.int (4) t)
  i_MOST_LIMIT : ∃ t, mg "MOST_LIMIT" = some (.int (99) t)
  i_MOST_WIND : ∃ t, mg "MOST_WIND" = some (.int (99) t)
  i_LAST_HOUR : ∃ t, mg "LAST_HOUR" = some (.int (23) t)
  i_YEAR : ∃ t, mg "YEAR" = some (.int (365) t)
  i_MOST_EVENTS : ∃ t, mg "MOST_EVENTS" = some (.int (4) t)
  i_MOST_DEEDS : ∃ t, mg "MOST_DEEDS" = some (.int (100) t)
  c_Rules : Cls K (cRules K)
  k_Rules : Mk K (cRules K) (He.ma K (cRules K) "__init__")
  n_Rules_limits : NoAttr K (cRules K) "limits"
  n_Rules_up : NoAttr K (cRules K) "up"
  n_Rules_wind : NoAttr K (cRules K) "wind"
  n_Rules_shares : NoAttr K (cRules K) "shares"
  c_Deed : Cls K (cDeed K)
  k_Deed : Mk K (cDeed K) (He.ma K (cDeed K) "__init__")
  n_Deed_name : NoAttr K (cDeed K) "name"
  n_Deed_event : NoAttr K (cDeed K) "event"
  n_Deed_mark : NoAttr K (cDeed K) "mark"
  n_Deed_day : NoAttr K (cDeed K) "day"
  n_Deed_hour : NoAttr K (cDeed K) "hour"
  n_Deed_wind : NoAttr K (cDeed K) "wind"
  n_Deed_course : NoAttr K (cDeed K) "course"
  c_Person : Cls K (cPerson K)
  k_Person : Mk K (cPerson K) (He.ma K (cPerson K) "__init__")
  n_Person_name : NoAttr K (cPerson K) "name"
  n_Person_born : NoAttr K (cPerson K) "born"
  n_Person_group : NoAttr K (cPerson K) "group"
  n_Person_team : NoAttr K (cPerson K) "team"
  c_Book : Cls K (cBook K)
  k_Book : Mk K (cBook K) (He.ma K (cBook K) "__init__")
  n_Book_events : NoAttr K (cBook K) "events"
  n_Book_rules : NoAttr K (cBook K) "rules"
  n_Book_people : NoAttr K (cBook K) "people"
  n_Book_told : NoAttr K (cBook K) "told"
  n_Book_papers : NoAttr K (cBook K) "papers"
  n_Book_past : NoAttr K (cBook K) "past"
  m_Rules_len : Meth K (cRules K) "__len__" (He.ma K (cRules K) "__len__")
  m_Rules_classes_in : Meth K (cRules K) "classes_in" (He.ma K (cRules K) "classes_in")
  m_Deed_eq : Meth K (cDeed K) "__eq__" (He.ma K (cDeed K) "__eq__")
  m_Deed_row : Meth K (cDeed K) "row" (He.ma K (cDeed K) "row")
  m_Deed_time : Meth K (cDeed K) "time" (He.ma K (cDeed K) "time")
  m_Person_age_at : Meth K (cPerson K) "age_at" (He.ma K (cPerson K) "age_at")
  m_Book_len : Meth K (cBook K) "__len__" (He.ma K (cBook K) "__len__")
  m_Book_keep : Meth K (cBook K) "keep" (He.ma K (cBook K) "keep")
  m_Book_enrol : Meth K (cBook K) "enrol" (He.ma K (cBook K) "enrol")
  m_Book_event_of : Meth K (cBook K) "event_of" (He.ma K (cBook K) "event_of")
  m_Book_person_of : Meth K (cBook K) "person_of" (He.ma K (cBook K) "person_of")
  m_Book_need_told : Meth K (cBook K) "need_told" (He.ma K (cBook K) "need_told")
  m_Book_tell : Meth K (cBook K) "tell" (He.ma K (cBook K) "tell")
  m_Book_need_number : Meth K (cBook K) "need_number" (He.ma K (cBook K) "need_number")
  m_Book_paper : Meth K (cBook K) "paper" (He.ma K (cBook K) "paper")
  m_Book_strike : Meth K (cBook K) "strike" (He.ma K (cBook K) "strike")
  m_Book_restore : Meth K (cBook K) "restore" (He.ma K (cBook K) "restore")
  m_Book_measure : Meth K (cBook K) "measure" (He.ma K (cBook K) "measure")
  m_Book_uphold : Meth K (cBook K) "uphold" (He.ma K (cBook K) "uphold")
  m_Book_papers_by : Meth K (cBook K) "papers_by" (He.ma K (cBook K) "papers_by")
  m_Book_word_of : Meth K (cBook K) "word_of" (He.ma K (cBook K) "word_of")
  m_Book_state : Meth K (cBook K) "state" (He.ma K (cBook K) "state")
  m_Book_need_best : Meth K (cBook K) "need_best" (He.ma K (cBook K) "need_best")
  m_Book_counts : Meth K (cBook K) "counts" (He.ma K (cBook K) "counts")
  m_Book_runners : Meth K (cBook K) "runners" (He.ma K (cBook K) "runners")
  m_Book_walk : Meth K (cBook K) "walk" (He.ma K (cBook K) "walk")
  m_Book_joins : Meth K (cBook K) "joins" (He.ma K (cBook K) "joins")
  m_Book_stints : Meth K (cBook K) "stints" (He.ma K (cBook K) "stints")
  m_Book_held_on : Meth K (cBook K) "held_on" (He.ma K (cBook K) "held_on")
  m_Book_holders : Meth K (cBook K) "holders" (He.ma K (cBook K) "holders")
  f_is_whole : ∃ fd, Def K dis_whole fd
  f_is_from : ∃ fd, Def K dis_from fd
  f_rises : ∃ fd, Def K drises fd
  f_is_name : ∃ fd, Def K dis_name fd
  f_is_day : ∃ fd, Def K dis_day fd
  f_is_way : ∃ fd, Def K dis_way fd
  f_is_mark : ∃ fd, Def K dis_mark fd
  f_is_event : ∃ fd, Def K dis_event fd
  f_beats : ∃ fd, Def K dbeats fd
  f_are_limits : ∃ fd, Def K dare_limits fd
  f_is_wind : ∃ fd, Def K dis_wind fd
  f_Rules_init : ∃ fd, Def K dRules_init fd
  f_Rules_len : ∃ fd, Def K dRules_len fd
  f_Rules_classes_in : ∃ fd, Def K dRules_classes_in fd
  f_Deed_init : ∃ fd, Def K dDeed_init fd
  f_Deed_eq : ∃ fd, Def K dDeed_eq fd
  f_Deed_row : ∃ fd, Def K dDeed_row fd
  f_Deed_time : ∃ fd, Def K dDeed_time fd
  f_is_team : ∃ fd, Def K dis_team fd
  f_Person_init : ∃ fd, Def K dPerson_init fd
  f_Person_age_at : ∃ fd, Def K dPerson_age_at fd
  f_are_events : ∃ fd, Def K dare_events fd
  f_known_day : ∃ fd, Def K dknown_day fd
  f_Book_init : ∃ fd, Def K dBook_init fd
  f_Book_len : ∃ fd, Def K dBook_len fd
  f_Book_keep : ∃ fd, Def K dBook_keep fd
  f_Book_enrol : ∃ fd, Def K dBook_enrol fd
  f_Book_event_of : ∃ fd, Def K dBook_event_of fd
  f_Book_person_of : ∃ fd, Def K dBook_person_of fd
  f_Book_need_told : ∃ fd, Def K dBook_need_told fd
  f_Book_tell : ∃ fd, Def K dBook_tell fd
  f_Book_need_number : ∃ fd, Def K dBook_need_number fd
  f_Book_paper : ∃ fd, Def K dBook_paper fd
  f_Book_strike : ∃ fd, Def K dBook_strike fd
  f_Book_restore : ∃ fd, Def K dBook_restore fd
  f_Book_measure : ∃ fd, Def K dBook_measure fd
  f_Book_uphold : ∃ fd, Def K dBook_uphold fd
  f_Book_papers_by : ∃ fd, Def K dBook_papers_by fd
  f_Book_word_of : ∃ fd, Def K dBook_word_of fd
  f_Book_state : ∃ fd, Def K dBook_state fd
  f_Book_need_best : ∃ fd, Def K dBook_need_best fd
  f_Book_counts : ∃ fd, Def K dBook_counts fd
  f_Book_runners : ∃ fd, Def K dBook_runners fd
  f_Book_walk : ∃ fd, Def K dBook_walk fd
  f_Book_joins : ∃ fd, Def K dBook_joins fd
  f_Book_stints : ∃ fd, Def K dBook_stints fd
  f_Book_held_on : ∃ fd, Def K dBook_held_on fd
  f_Book_holders : ∃ fd, Def K dBook_holders fd
  f_L_cell : ∃ fd, Def K dL_cell fd
  f_L_pen : ∃ fd, Def K dL_pen fd
  f_L_draw : ∃ fd, Def K dL_draw fd
  f_L_rules : ∃ fd, Def K dL_rules fd
  f_L_names : ∃ fd, Def K dL_names fd
  f_L_club : ∃ fd, Def K dL_club fd
  f_L_made : ∃ fd, Def K dL_made fd
  f_L_row : ∃ fd, Def K dL_row fd
  f_L_deed : ∃ fd, Def K dL_deed fd
  f_L_paper : ∃ fd, Def K dL_paper fd
  f_L_tell : ∃ fd, Def K dL_tell fd
  f_L_bests : ∃ fd, Def K dL_bests fd
  f_L_some_best : ∃ fd, Def K dL_some_best fd
  f_L_mixed : ∃ fd, Def K dL_mixed fd
  f_L_told_so : ∃ fd, Def K dL_told_so fd
  f_L_all : ∃ fd, Def K dL_all fd
  f__law : ∃ fd, Def K d_law fd
  q_Deed : C8.InsC K (cDeed K)
  q_Person : C8.InsC K (cPerson K)
  q_Rules : C8.InsC K (cRules K)
  g_WAYS : mg "WAYS" = some (.ref (He.ga K "WAYS"))
  ways : ∀ H : Hp, SqT K H (He.ga K "WAYS") [.str "less", .str "more"]
/-- a def keeps its promise -/
def Fn (P : Program) (w : World) (K : PySem.W.Frag) (mg : Str → Option Value) (base : Heap) (d : He.DefD) (k : Nat) (ps : List Str) (sp : Sp) : Prop := ∃ fd, Def K d fd ∧ FnOk P w K mg base CX0 k (He.fAd K d.at_) fd ps sp
/-- one of the fields' names is the asked one -/
theorem look_hit {f : Str} {v : V} {r : List (Str × V)} : (((f, v) :: r) : List (Str × V)).lookup f = some v := by simp [List.lookup]
theorem look_miss {f g : Str} {v : V} {r : List (Str × V)} (h : decide (f = g) = false) : (((g, v) :: r) : List (Str × V)).lookup f = r.lookup f := by
  have e : (f == g) = false := by simpa using h
  rw [List.lookup, e]
section
variable {K : PySem.W.Frag} {x qual : Str} {params : Arguments} {body : List Stmt} {scope : Scope} {dvs : List V} {f : Addr} {fd : FuncData} {ps : List Str}
/-- called by keywords where there are no defaults -/
theorem kb_none (F : FunD K x qual params body scope [] [] f fd) (n : Nat) (ks : List Str)
    (h : ∀ (kV doc pm : Value) (an : Option Addr) (cdv ct : Value) (us ws : List Value), us.length = n → ws.length = ks.length → bindArgs (PySem.W.fnOf x qual params body scope .none kV doc pm an cdv ct) ⟨us, ks.zip ws⟩ = pure (ps.zip (us ++ ws))) :
    KBn K fd ps n ks (fun us ws => us ++ ws) (fun vs zs => vs ++ zs) := by
  obtain ⟨oc, od, dV, kV, doc, pm, an, cdv, ct, osl, rfl, lk, hcd, hD, hK⟩ := F.ex
  rcases hD with ⟨_, rfl⟩ | ⟨e, _⟩
  · exact ⟨fun s us ws X l1 l2 => .of_eq (h kV doc pm an cdv ct us ws l1 l2), fun r1 r2 => r1.append r2⟩
  · exact absurd rfl e
/-- called by place with all values, though there are defaults -/
theorem bp_all (F : FunD K x qual params body scope dvs [] f fd) (hd : dvs ≠ [])
    (h : ∀ (T : Addr) (kV doc pm : Value) (an : Option Addr) (cdv ct : Value) (us its : List Value), us.length = ps.length → its.length = dvs.length →
      ∃ k, bindArgs (PySem.W.fnOf x qual params body scope (.ref T) kV doc pm an cdv ct) ⟨us, []⟩ = seqItems? (.ref T) >>= k ∧ k (some its.toArray) = pure (ps.zip us)) : Binds K fd ps [] := by
  obtain ⟨ds, r, b⟩ := F.binds1 (ps := ps) ps.length dvs.length hd (by omega) (fun T kV doc pm an cdv ct us its h1 h2 => by
    obtain ⟨k, e1, e2⟩ := h T kV doc pm an cdv ct us its h1 h2
    exact ⟨k, e1, by rw [List.drop_of_length_le (Nat.le_of_eq h2), List.append_nil]; exact e2⟩)
  rw [List.drop_length] at r
  cases r
  exact b
end
theorem b_is_whole {K : PySem.W.Frag} {fd : FuncData} (F : Def K dis_whole fd) : Binds K fd ["thing"] [] := FunD.bindsN F fun _ _ _ _ _ _ us hl => match us, hl with | [_], _ => rfl
theorem b_is_from {K : PySem.W.Frag} {fd : FuncData} (F : Def K dis_from fd) : Binds K fd ["thing", "least", "most"] [] := FunD.bindsN F fun _ _ _ _ _ _ us hl => match us, hl with | [_, _, _], _ => rfl
theorem b_rises {K : PySem.W.Frag} {fd : FuncData} (F : Def K drises fd) : Binds K fd ["row"] [] := FunD.bindsN F fun _ _ _ _ _ _ us hl => match us, hl with | [_], _ => rfl
theorem b_is_name {K : PySem.W.Frag} {fd : FuncData} (F : Def K dis_name fd) : Binds K fd ["thing"] [] := FunD.bindsN F fun _ _ _ _ _ _ us hl => match us, hl with | [_], _ => rfl
theorem b_is_day {K : PySem.W.Frag} {fd : FuncData} (F : Def K dis_day fd) : Binds K fd ["thing"] [] := FunD.bindsN F fun _ _ _ _ _ _ us hl => match us, hl with | [_], _ => rfl
theorem b_is_way {K : PySem.W.Frag} {fd : FuncData} (F : Def K dis_way fd) : Binds K fd ["thing"] [] := FunD.bindsN F fun _ _ _ _ _ _ us hl => match us, hl with | [_], _ => rfl
theorem b_is_mark {K : PySem.W.Frag} {fd : FuncData} (F : Def K dis_mark fd) : Binds K fd ["thing"] [] := FunD.bindsN F fun _ _ _ _ _ _ us hl => match us, hl with | [_], _ => rfl
theorem b_is_event {K : PySem.W.Frag} {fd : FuncData} (F : Def K dis_event fd) : Binds K fd ["thing"] [] := FunD.bindsN F fun _ _ _ _ _ _ us hl => match us, hl with | [_], _ => rfl
theorem b_beats {K : PySem.W.Frag} {fd : FuncData} (F : Def K dbeats fd) : Binds K fd ["one", "other", "way"] [] := FunD.bindsN F fun _ _ _ _ _ _ us hl => match us, hl with | [_, _, _], _ => rfl
theorem b_are_limits {K : PySem.W.Frag} {fd : FuncData} (F : Def K dare_limits fd) : Binds K fd ["thing"] [] := FunD.bindsN F fun _ _ _ _ _ _ us hl => match us, hl with | [_], _ => rfl
theorem b_is_wind {K : PySem.W.Frag} {fd : FuncData} (F : Def K dis_wind fd) : Binds K fd ["thing"] [] := FunD.bindsN F fun _ _ _ _ _ _ us hl => match us, hl with | [_], _ => rfl
theorem b_Rules_len {K : PySem.W.Frag} {fd : FuncData} (F : Def K dRules_len fd) : Binds K fd ["self"] [] := FunD.bindsN F fun _ _ _ _ _ _ us hl => match us, hl with | [_], _ => rfl
theorem b_Rules_classes_in {K : PySem.W.Frag} {fd : FuncData} (F : Def K dRules_classes_in fd) : Binds K fd ["self", "age"] [] := FunD.bindsN F fun _ _ _ _ _ _ us hl => match us, hl with | [_, _], _ => rfl
theorem b_Deed_eq {K : PySem.W.Frag} {fd : FuncData} (F : Def K dDeed_eq fd) : Binds K fd ["self", "other"] [] := FunD.bindsN F fun _ _ _ _ _ _ us hl => match us, hl with | [_, _], _ => rfl
theorem b_Deed_row {K : PySem.W.Frag} {fd : FuncData} (F : Def K dDeed_row fd) : Binds K fd ["self"] [] := FunD.bindsN F fun _ _ _ _ _ _ us hl => match us, hl with | [_], _ => rfl
theorem b_Deed_time {K : PySem.W.Frag} {fd : FuncData} (F : Def K dDeed_time fd) : Binds K fd ["self"] [] := FunD.bindsN F fun _ _ _ _ _ _ us hl => match us, hl with | [_], _ => rfl
theorem b_is_team {K : PySem.W.Frag} {fd : FuncData} (F : Def K dis_team fd) : Binds K fd ["thing"] [] := FunD.bindsN F fun _ _ _ _ _ _ us hl => match us, hl with | [_], _ => rfl
theorem b_Person_age_at {K : PySem.W.Frag} {fd : FuncData} (F : Def K dPerson_age_at fd) : Binds K fd ["self", "day"] [] := FunD.bindsN F fun _ _ _ _ _ _ us hl => match us, hl with | [_, _], _ => rfl
theorem b_are_events {K : PySem.W.Frag} {fd : FuncData} (F : Def K dare_events fd) : Binds K fd ["thing"] [] := FunD.bindsN F fun _ _ _ _ _ _ us hl => match us, hl with | [_], _ => rfl
theorem b_known_day {K : PySem.W.Frag} {fd : FuncData} (F : Def K dknown_day fd) : Binds K fd ["known"] [] := FunD.bindsN F fun _ _ _ _ _ _ us hl => match us, hl with | [_], _ => rfl
theorem b_Book_len {K : PySem.W.Frag} {fd : FuncData} (F : Def K dBook_len fd) : Binds K fd ["self"] [] := FunD.bindsN F fun _ _ _ _ _ _ us hl => match us, hl with | [_], _ => rfl
theorem b_Book_keep {K : PySem.W.Frag} {fd : FuncData} (F : Def K dBook_keep fd) : Binds K fd ["self"] [] := FunD.bindsN F fun _ _ _ _ _ _ us hl => match us, hl with | [_], _ => rfl
theorem b_Book_enrol {K : PySem.W.Frag} {fd : FuncData} (F : Def K dBook_enrol fd) : Binds K fd ["self", "person"] [] := FunD.bindsN F fun _ _ _ _ _ _ us hl => match us, hl with | [_, _], _ => rfl
theorem b_Book_event_of {K : PySem.W.Frag} {fd : FuncData} (F : Def K dBook_event_of fd) : Binds K fd ["self", "name"] [] := FunD.bindsN F fun _ _ _ _ _ _ us hl => match us, hl with | [_, _], _ => rfl
theorem b_Book_person_of {K : PySem.W.Frag} {fd : FuncData} (F : Def K dBook_person_of fd) : Binds K fd ["self", "name"] [] := FunD.bindsN F fun _ _ _ _ _ _ us hl => match us, hl with | [_, _], _ => rfl
theorem b_Book_need_told {K : PySem.W.Frag} {fd : FuncData} (F : Def K dBook_need_told fd) : Binds K fd ["self", "deed", "known"] [] := FunD.bindsN F fun _ _ _ _ _ _ us hl => match us, hl with | [_, _, _], _ => rfl
theorem b_Book_need_number {K : PySem.W.Frag} {fd : FuncData} (F : Def K dBook_need_number fd) : Binds K fd ["self", "number"] [] := FunD.bindsN F fun _ _ _ _ _ _ us hl => match us, hl with | [_, _], _ => rfl
theorem b_Book_paper {K : PySem.W.Frag} {fd : FuncData} (F : Def K dBook_paper fd) : Binds K fd ["self", "row"] [] := FunD.bindsN F fun _ _ _ _ _ _ us hl => match us, hl with | [_, _], _ => rfl
theorem b_Book_strike {K : PySem.W.Frag} {fd : FuncData} (F : Def K dBook_strike fd) : Binds K fd ["self", "number", "known"] [] := FunD.bindsN F fun _ _ _ _ _ _ us hl => match us, hl with | [_, _, _], _ => rfl
theorem b_Book_restore {K : PySem.W.Frag} {fd : FuncData} (F : Def K dBook_restore fd) : Binds K fd ["self", "number", "known"] [] := FunD.bindsN F fun _ _ _ _ _ _ us hl => match us, hl with | [_, _, _], _ => rfl
theorem b_Book_measure {K : PySem.W.Frag} {fd : FuncData} (F : Def K dBook_measure fd) : Binds K fd ["self", "course", "since", "till", "known"] [] := FunD.bindsN F fun _ _ _ _ _ _ us hl => match us, hl with | [_, _, _, _, _], _ => rfl
theorem b_Book_uphold {K : PySem.W.Frag} {fd : FuncData} (F : Def K dBook_uphold fd) : Binds K fd ["self", "course", "known"] [] := FunD.bindsN F fun _ _ _ _ _ _ us hl => match us, hl with | [_, _, _], _ => rfl
theorem b_Book_papers_by {K : PySem.W.Frag} {fd : FuncData} (F : Def K dBook_papers_by fd) : Binds K fd ["self", "known"] [] := FunD.bindsN F fun _ _ _ _ _ _ us hl => match us, hl with | [_, _], _ => rfl
theorem b_Book_word_of {K : PySem.W.Frag} {fd : FuncData} (F : Def K dBook_word_of fd) : Binds K fd ["self", "number", "known"] [] := FunD.bindsN F fun _ _ _ _ _ _ us hl => match us, hl with | [_, _, _], _ => rfl
theorem b_Book_need_best {K : PySem.W.Frag} {fd : FuncData} (F : Def K dBook_need_best fd) : Binds K fd ["self", "event", "group", "place"] [] := FunD.bindsN F fun _ _ _ _ _ _ us hl => match us, hl with | [_, _, _, _], _ => rfl
theorem b_Book_counts {K : PySem.W.Frag} {fd : FuncData} (F : Def K dBook_counts fd) : Binds K fd ["self", "number", "best"] [] := FunD.bindsN F fun _ _ _ _ _ _ us hl => match us, hl with | [_, _, _], _ => rfl
theorem b_Book_runners {K : PySem.W.Frag} {fd : FuncData} (F : Def K dBook_runners fd) : Binds K fd ["self", "best", "known"] [] := FunD.bindsN F fun _ _ _ _ _ _ us hl => match us, hl with | [_, _, _], _ => rfl
theorem b_Book_walk {K : PySem.W.Frag} {fd : FuncData} (F : Def K dBook_walk fd) : Binds K fd ["self", "best", "known"] [] := FunD.bindsN F fun _ _ _ _ _ _ us hl => match us, hl with | [_, _, _], _ => rfl
theorem b_Book_joins {K : PySem.W.Frag} {fd : FuncData} (F : Def K dBook_joins fd) : Binds K fd ["self", "deed", "held"] [] := FunD.bindsN F fun _ _ _ _ _ _ us hl => match us, hl with | [_, _, _], _ => rfl
theorem b_Book_held_on {K : PySem.W.Frag} {fd : FuncData} (F : Def K dBook_held_on fd) : Binds K fd ["self", "best", "day", "known"] [] := FunD.bindsN F fun _ _ _ _ _ _ us hl => match us, hl with | [_, _, _, _], _ => rfl
theorem b_L_cell {K : PySem.W.Frag} {fd : FuncData} (F : Def K dL_cell fd) : Binds K fd ["_law_script", "_law_k"] [] := FunD.bindsN F fun _ _ _ _ _ _ us hl => match us, hl with | [_, _], _ => rfl
theorem b_L_pen {K : PySem.W.Frag} {fd : FuncData} (F : Def K dL_pen fd) : Binds K fd ["_law_cell_here"] [] := FunD.bindsN F fun _ _ _ _ _ _ us hl => match us, hl with | [_], _ => rfl
theorem b_L_draw {K : PySem.W.Frag} {fd : FuncData} (F : Def K dL_draw fd) : Binds K fd ["_law_pen_here", "_law_many"] [] := FunD.bindsN F fun _ _ _ _ _ _ us hl => match us, hl with | [_, _], _ => rfl
theorem b_L_rules {K : PySem.W.Frag} {fd : FuncData} (F : Def K dL_rules fd) : Binds K fd ["_law_pen_here"] [] := FunD.bindsN F fun _ _ _ _ _ _ us hl => match us, hl with | [_], _ => rfl
theorem b_L_names {K : PySem.W.Frag} {fd : FuncData} (F : Def K dL_names fd) : Binds K fd [] [] := FunD.bindsN F fun _ _ _ _ _ _ us hl => match us, hl with | [], _ => rfl
theorem b_L_club {K : PySem.W.Frag} {fd : FuncData} (F : Def K dL_club fd) : Binds K fd ["_law_pen_here"] [] := FunD.bindsN F fun _ _ _ _ _ _ us hl => match us, hl with | [_], _ => rfl
theorem b_L_made {K : PySem.W.Frag} {fd : FuncData} (F : Def K dL_made fd) : Binds K fd ["_law_club_here"] [] := FunD.bindsN F fun _ _ _ _ _ _ us hl => match us, hl with | [_], _ => rfl
theorem b_L_row {K : PySem.W.Frag} {fd : FuncData} (F : Def K dL_row fd) : Binds K fd ["_law_pen_here", "_law_club_here"] [] := FunD.bindsN F fun _ _ _ _ _ _ us hl => match us, hl with | [_, _], _ => rfl
theorem b_L_deed {K : PySem.W.Frag} {fd : FuncData} (F : Def K dL_deed fd) : Binds K fd ["_law_row_here"] [] := FunD.bindsN F fun _ _ _ _ _ _ us hl => match us, hl with | [_], _ => rfl
theorem b_L_paper {K : PySem.W.Frag} {fd : FuncData} (F : Def K dL_paper fd) : Binds K fd ["_law_pen_here", "_law_club_here"] [] := FunD.bindsN F fun _ _ _ _ _ _ us hl => match us, hl with | [_, _], _ => rfl
theorem b_L_tell {K : PySem.W.Frag} {fd : FuncData} (F : Def K dL_tell fd) : Binds K fd ["_law_book", "_law_paper_here"] [] := FunD.bindsN F fun _ _ _ _ _ _ us hl => match us, hl with | [_, _], _ => rfl
theorem b_L_bests {K : PySem.W.Frag} {fd : FuncData} (F : Def K dL_bests fd) : Binds K fd ["_law_club_here"] [] := FunD.bindsN F fun _ _ _ _ _ _ us hl => match us, hl with | [_], _ => rfl
theorem b_L_some_best {K : PySem.W.Frag} {fd : FuncData} (F : Def K dL_some_best fd) : Binds K fd ["_law_pen_here", "_law_club_here"] [] := FunD.bindsN F fun _ _ _ _ _ _ us hl => match us, hl with | [_, _], _ => rfl
theorem b_L_mixed {K : PySem.W.Frag} {fd : FuncData} (F : Def K dL_mixed fd) : Binds K fd ["_law_pen_here", "_law_things"] [] := FunD.bindsN F fun _ _ _ _ _ _ us hl => match us, hl with | [_, _], _ => rfl
theorem b_L_told_so {K : PySem.W.Frag} {fd : FuncData} (F : Def K dL_told_so fd) : Binds K fd ["_law_pen_here", "_law_club_here", "_law_rows", "_law_papers"] [] := FunD.bindsN F fun _ _ _ _ _ _ us hl => match us, hl with | [_, _, _, _], _ => rfl
theorem b_L_all {K : PySem.W.Frag} {fd : FuncData} (F : Def K dL_all fd) : Binds K fd ["_law_book", "_law_numbers", "_law_bests_here", "_law_days"] [] := FunD.bindsN F fun _ _ _ _ _ _ us hl => match us, hl with | [_, _, _, _], _ => rfl
theorem b__law {K : PySem.W.Frag} {fd : FuncData} (F : Def K d_law fd) : Binds K fd ["_law_script"] [] := FunD.bindsN F fun _ _ _ _ _ _ us hl => match us, hl with | [_], _ => rfl
theorem kb_Rules_init {K : PySem.W.Frag} {fd : FuncData} (F : Def K dRules_init fd) : ∃ its : List Value, KBn K fd ["self", "limits", "up", "wind", "shares"] 1 ["limits", "up", "wind", "shares"] (fun us ws => us ++ (ws ++ its.drop 4)) (fun vs zs => vs ++ (zs ++ (dRules_init.dvs K).drop 4)) := by
  refine FunD.kbindsD F 1 ["limits", "up", "wind", "shares"] (fun us its ws => us ++ (ws ++ its.drop 4)) (by intro z; cases z) (fun r1 r2 r3 => r1.append (r3.append (r2.drop 4))) fun _ _ _ _ _ _ _ us its ws h1 h2 h3 => ?_
  match us, its, ws, h1, h2, h3 with
  | [_], [_, _, _, _], [_, _, _, _], _, _, _ => exact ⟨_, rfl, rfl⟩
theorem kb_Deed_init {K : PySem.W.Frag} {fd : FuncData} (F : Def K dDeed_init fd) : ∃ its : List Value, KBn K fd ["self", "name", "event", "mark", "day", "hour", "wind", "course"] 5 ["hour", "wind", "course"] (fun us ws => us ++ (ws ++ its.drop 3)) (fun vs zs => vs ++ (zs ++ (dDeed_init.dvs K).drop 3)) := by
  refine FunD.kbindsD F 5 ["hour", "wind", "course"] (fun us its ws => us ++ (ws ++ its.drop 3)) (by intro z; cases z) (fun r1 r2 r3 => r1.append (r3.append (r2.drop 3))) fun _ _ _ _ _ _ _ us its ws h1 h2 h3 => ?_
  match us, its, ws, h1, h2, h3 with
  | [_, _, _, _, _], [_, _, _], [_, _, _], _, _, _ => exact ⟨_, rfl, rfl⟩
theorem kb_Person_init {K : PySem.W.Frag} {fd : FuncData} (F : Def K dPerson_init fd) : ∃ its : List Value, KBn K fd ["self", "name", "born", "group", "team"] 3 ["group", "team"] (fun us ws => us ++ (ws ++ its.drop 2)) (fun vs zs => vs ++ (zs ++ (dPerson_init.dvs K).drop 2)) := by
  refine FunD.kbindsD F 3 ["group", "team"] (fun us its ws => us ++ (ws ++ its.drop 2)) (by intro z; cases z) (fun r1 r2 r3 => r1.append (r3.append (r2.drop 2))) fun _ _ _ _ _ _ _ us its ws h1 h2 h3 => ?_
  match us, its, ws, h1, h2, h3 with
  | [_, _, _], [_, _], [_, _], _, _, _ => exact ⟨_, rfl, rfl⟩
theorem kb_Book_init {K : PySem.W.Frag} {fd : FuncData} (F : Def K dBook_init fd) : ∃ its : List Value, KBn K fd ["self", "events", "rules"] 2 ["rules"] (fun us ws => us ++ (ws ++ its.drop 1)) (fun vs zs => vs ++ (zs ++ (dBook_init.dvs K).drop 1)) := by
  refine FunD.kbindsD F 2 ["rules"] (fun us its ws => us ++ (ws ++ its.drop 1)) (by intro z; cases z) (fun r1 r2 r3 => r1.append (r3.append (r2.drop 1))) fun _ _ _ _ _ _ _ us its ws h1 h2 h3 => ?_
  match us, its, ws, h1, h2, h3 with
  | [_, _], [_], [_], _, _, _ => exact ⟨_, rfl, rfl⟩
theorem kb_Book_tell {K : PySem.W.Frag} {fd : FuncData} (F : Def K dBook_tell fd) : ∃ its : List Value, KBn K fd ["self", "deed", "known"] 2 ["known"] (fun us ws => us ++ (ws ++ its.drop 1)) (fun vs zs => vs ++ (zs ++ (dBook_tell.dvs K).drop 1)) := by
  refine FunD.kbindsD F 2 ["known"] (fun us its ws => us ++ (ws ++ its.drop 1)) (by intro z; cases z) (fun r1 r2 r3 => r1.append (r3.append (r2.drop 1))) fun _ _ _ _ _ _ _ us its ws h1 h2 h3 => ?_
  match us, its, ws, h1, h2, h3 with
  | [_, _], [_], [_], _, _, _ => exact ⟨_, rfl, rfl⟩
theorem kb_Book_stints {K : PySem.W.Frag} {fd : FuncData} (F : Def K dBook_stints fd) : ∃ its : List Value, KBn K fd ["self", "event", "group", "place", "known"] 2 ["group", "place", "known"] (fun us ws => us ++ (ws ++ its.drop 3)) (fun vs zs => vs ++ (zs ++ (dBook_stints.dvs K).drop 3)) := by
  refine FunD.kbindsD F 2 ["group", "place", "known"] (fun us its ws => us ++ (ws ++ its.drop 3)) (by intro z; cases z) (fun r1 r2 r3 => r1.append (r3.append (r2.drop 3))) fun _ _ _ _ _ _ _ us its ws h1 h2 h3 => ?_
  match us, its, ws, h1, h2, h3 with
  | [_, _], [_, _, _], [_, _, _], _, _, _ => exact ⟨_, rfl, rfl⟩
theorem kb_Book_holders {K : PySem.W.Frag} {fd : FuncData} (F : Def K dBook_holders fd) : ∃ its : List Value, KBn K fd ["self", "event", "group", "place", "day", "known"] 2 ["group", "place", "day"] (fun us ws => us ++ (ws ++ its.drop 3)) (fun vs zs => vs ++ (zs ++ (dBook_holders.dvs K).drop 3)) := by
  refine FunD.kbindsD F 2 ["group", "place", "day"] (fun us its ws => us ++ (ws ++ its.drop 3)) (by intro z; cases z) (fun r1 r2 r3 => r1.append (r3.append (r2.drop 3))) fun _ _ _ _ _ _ _ us its ws h1 h2 h3 => ?_
  match us, its, ws, h1, h2, h3 with
  | [_, _], [_, _, _, _], [_, _, _], _, _, _ => exact ⟨_, rfl, rfl⟩
theorem kb_Book_restore {K : PySem.W.Frag} {fd : FuncData} (F : Def K dBook_restore fd) : KBn K fd ["self", "number", "known"] 2 ["known"] (fun us ws => us ++ ws) (fun vs zs => vs ++ zs) := kb_none F 2 ["known"] fun _ _ _ _ _ _ us ws h1 h2 => match us, ws, h1, h2 with | [_, _], [_], _, _ => rfl
theorem kb_Book_measure {K : PySem.W.Frag} {fd : FuncData} (F : Def K dBook_measure fd) : KBn K fd ["self", "course", "since", "till", "known"] 3 ["till", "known"] (fun us ws => us ++ ws) (fun vs zs => vs ++ zs) := kb_none F 3 ["till", "known"] fun _ _ _ _ _ _ us ws h1 h2 => match us, ws, h1, h2 with | [_, _, _], [_, _], _, _ => rfl
theorem b_Book_state {K : PySem.W.Frag} {fd : FuncData} (F : Def K dBook_state fd) : Binds K fd ["self", "number", "known"] [] := bp_all F (by intro z; cases z) fun _ _ _ _ _ _ _ us its h1 h2 => match us, its, h1, h2 with | [_, _, _], [_], _, _ => ⟨_, rfl, rfl⟩
end Bb
/-! ## part Tm -/
namespace Bb
open PySem PySem.Spec PyProof.Rows L2 LamX BbS NdefX
theorem hu20 {A : Around} {k : Nat} (hr : Room k A) : A.units + 20 < cLine := by have := hr.un; omega
theorem hu65 {A : Around} {k : Nat} (hr : Room k A) : A.units + 65 < cLine := by have := hr.un; omega
theorem srt_int {X : Cx} {P : Program} {w : World} (hp : X.prog = P) (hw : X.w = w) (hc : X.calm = true) (hu : X.A.units + 20 < cLine) : CallR X (.builtin "sorted") (rSortSet P w Sum.inl PyData.int) := by
  subst hp hw
  exact cr_sortSet hc hu read_int (fun _ _ => rfl) (fun _ => ⟨fun z => (by cases z), fun _ z => (by cases z)⟩) (fun _ => Nat.zero_le 1)
theorem srt_str {X : Cx} {P : Program} {w : World} (hp : X.prog = P) (hw : X.w = w) (hc : X.calm = true) (hu : X.A.units + 20 < cLine) : CallR X (.builtin "sorted") (rSortSet P w Sum.inr PyData.str) := by
  subst hp hw
  exact cr_sortSet hc hu read_str (fun _ _ => rfl) (fun _ => ⟨fun z => (by cases z), fun _ z => (by cases z)⟩) (fun _ => Nat.zero_le 1)
section
variable {X : Cx} {P : Program} {w : World} {K : PySem.W.Frag}
theorem cr_setLK (hp : X.prog = P) (hw : X.w = w) (hK : X.K = K) (hc : X.calm = true) : CallR X (.type "set") (rSetL K P w) := by
  subst hp hw hK
  exact cr_setL hc
theorem cr_lenSetMK (hp : X.prog = P) (hw : X.w = w) : CallR X (.builtin "len") (rLenSetM P w) := by
  subst hp hw
  exact cr_lenSetM
theorem ix_listK (h : X.K = K := by rfl) : IxR X (rIxL K) := h ▸ ix_list
theorem ix_tupK (h : X.K = K := by rfl) : IxR X (rIxT K) := h ▸ ix_tup
theorem op_catAK (h : X.K = K := by rfl) : OpR X (binaryOp .Add) (rCatA K) := h ▸ op_catA
theorem op_eqDK (hu : X.A.units + 64 < cLine) (h : X.K = K := by rfl) : OpR X (compareOp .Eq) (rEqD K) := h ▸ op_eqD hu
theorem op_neDK (hu : X.A.units + 64 < cLine) (h : X.K = K := by rfl) : OpR X (compareOp .NotEq) (rNeD K) := h ▸ op_neD hu
theorem op_inK (h : X.K = K := by rfl) : OpR X (compareOp .In) (rIn K false) := h ▸ op_in_seq
theorem op_notInK (h : X.K = K := by rfl) : OpR X (compareOp .NotIn) (rIn K true) := h ▸ op_notIn_seq
theorem op_notInDK (hu : X.A.units + 65 < cLine) (h : X.K = K := by rfl) : OpR X (compareOp .NotIn) (rNotInD K) := h ▸ op_notInD hu
theorem sl_tupAK (h : X.K = K := by rfl) : SlR X (rSlA K) := h ▸ sl_tupA
theorem call_isiK (h : X.K = K := by rfl) : CallR X (.builtin "isinstance") (rIsi K) := h ▸ call_isi
theorem call_lenqK (h : X.K = K := by rfl) : CallR X (.builtin "len") (fun xs H Q => ∃ p ys, xs = [.ref p] ∧ (SqL K H p ys ∨ SqT K H p ys) ∧ Q (.int ys.length) H) := h ▸ call_len_seq
theorem call_lenK (h : X.K = K := by rfl) : CallR X (.builtin "len") (fun xs H Q => ∃ x n, xs = [x] ∧ LenV K x H n ∧ Q (.int n) H) := h ▸ call_len
theorem cr_allK (hc : X.calm = true) (h : X.K = K := by rfl) : CallR X (.builtin "all") (rAll K) := h ▸ cr_all hc
theorem cr_anyK (hc : X.calm = true) (h : X.K = K := by rfl) : CallR X (.builtin "any") (rAny K) := h ▸ cr_any hc
theorem call_tupleK (h : X.K = K := by rfl) : CallR X (.type "tuple") (fun xs H Q => ∃ p ys, xs = [.ref p] ∧ ((SqL K H p ys ∧ ∀ l, H l = none → Q (.ref l) (upd H l (.tup ys))) ∨ (SqT K H p ys ∧ Q (.ref p) H))) := h ▸ call_tuple_of
theorem call_listK (h : X.K = K := by rfl) : CallR X (.type "list") (fun xs H Q => ∃ p ys, xs = [.ref p] ∧ (SqL K H p ys ∨ SqT K H p ys) ∧ ∀ l, H l = none → Q (.ref l) (upd H l (.lst ys))) := h ▸ call_list_of
theorem cr_sortedSK (h : X.K = K := by rfl) : CallR X (.builtin "sorted") (rSortedS K) := h ▸ cr_sortedS
theorem pe_fldK {o : Expr} {to : TE} {f : Str} {pos : Pos} (ho : PE X o to) (hb : attributeBase o f X.env (eval o X.env) = eval o X.env := by rfl) (h : X.K = K := by rfl) : PE X (.Attribute o f pos) (tFld K to f) := h ▸ pe_fld ho hb
theorem pi_listK {tg l : Expr} {tl : TE} (hl : PE X l tl) (h : X.K = K := by rfl) : PI X tg l (iList K tl) := h ▸ pi_list hl
theorem pi_tupK {tg l : Expr} {tl : TE} (hl : PE X l tl) (h : X.K = K := by rfl) : PI X tg l (iTup K tl) := h ▸ pi_tup hl
theorem pi_zipAK {e e2 : Expr} {ta : TA} {p pos tpos : Pos} {elts : List Expr} {kk : Nat} (hg : Gl X "zip") (hm : X.mg "zip" = none) (ha : PA X [e, e2] ta)
    (hs : starEach [e, e2] X.env = (false, eval e X.env) :: starEach [e2] X.env := by rfl) (hpl : (backTo pos (starEach [e2] X.env)).any (·.1) = false := by rfl) (h : X.K = K := by rfl) :
    PI X (.Tuple elts kk tpos) (.Call (.Name "zip" p) [e, e2] [] pos) (RZ.iZipA K ta) := h ▸ RZ.pi_zipA hg hm ha hs hpl
theorem pg_tupK {es : List Expr} {k : Nat} {t : TGs} {n : Nat} {pos : Pos} (hc : X.calm = true) (ht : PGs X es t)
    (hn : (assignEach es X.env).length = n := by rfl) (hst : (assignEach es X.env).findIdx? (·.1) = none := by rfl) (h : X.K = K := by rfl) : PG X (.Tuple es k pos) (gTup K n t) := h ▸ pg_tup hc ht hn hst
theorem pe_bmK {o e : Expr} {es : List Expr} {to : TE} {t : TA} {name : Str} {apos cpos : Pos} {T id : String} {r : V → List V → Hp → VK → Prop} (pa : PlainAttrs T) (slot : Slot T name id) (hty : typeOf (.builtin id) = pure (.type "method_descriptor")) (hm : MtR X id r) (ho : PE X o to) (ha : PA X (e :: es) t)
    (hbase : attributeBase o name X.env (eval o X.env) = eval o X.env := by rfl)
    (hfew : ((backTo cpos (starEach (e :: es) X.env)).all (fun x => !x.1) && (backToKw cpos (keywordEach [] X.env)).all (fun x => x.1.isSome)
      && decide ((e :: es).length + ([] : List Keyword).length + (if ([] : List Keyword).isEmpty then 0 else 1) < 30)) = true := by rfl)
    (hline : (apos.endLine == cpos.line) = true := by rfl) (hs : starEach (e :: es) X.env = (false, eval e X.env) :: starEach es X.env := by rfl) (hplain : (backTo cpos (starEach es X.env)).any (·.1) = false := by rfl)
    (h : X.K = K := by rfl) : PE X (.Call (.Attribute o name apos) (e :: es) [] cpos) (tBM K T r to t) := h ▸ pe_bm pa slot hty hm ho ha hbase hfew hline hs hplain
end
abbrev cC (K : PySem.W.Frag) (m : Str) : Addr := (He.cT K ("Book", some m)).1
abbrev cP (K : PySem.W.Frag) (m : Str) : Addr := (He.cT K ("Book", some m)).2
def TTk (K : PySem.W.Frag) : List (Addr × Str) := [(cP K "papers_by", "Book.papers_by.<locals>.<lambda>"), (cP K "runners", "Book.runners.<locals>.<lambda>")]
theorem tt_papers_by (K : PySem.W.Frag) : (cP K "papers_by", ("Book.papers_by.<locals>.<lambda>" : Str)) ∈ TTk K := List.mem_cons_self
theorem tt_runners (K : PySem.W.Frag) : (cP K "runners", ("Book.runners.<locals>.<lambda>" : Str)) ∈ TTk K := List.mem_cons_of_mem _ List.mem_cons_self
theorem tt_papers_by' (K : PySem.W.Frag) (hd : cP K "papers_by" ≠ cP K "runners") : ∀ p ∈ TTk K, p.1 = cP K "papers_by" → p.2 = "Book.papers_by.<locals>.<lambda>" := fun p hp e => by
  rcases List.mem_cons.mp hp with z | hp
  · rw [z]
  · rcases List.mem_cons.mp hp with z | hp
    · rw [z] at e
      exact absurd e.symm hd
    · cases hp
theorem tt_runners' (K : PySem.W.Frag) (hd : cP K "papers_by" ≠ cP K "runners") : ∀ p ∈ TTk K, p.1 = cP K "runners" → p.2 = "Book.runners.<locals>.<lambda>" := fun p hp e => by
  rcases List.mem_cons.mp hp with z | hp
  · rw [z] at e
    exact absurd e hd
  · rcases List.mem_cons.mp hp with z | hp
    · rw [z]
    · cases hp
theorem hfree_of {X : Cx} {scope sc : Scope} (h : X.env.scope = sc) (hd : ∀ y ∈ scope.names, y.2 = .free → sc.names.lookup y.1 = some .cell ∨ sc.names.lookup y.1 = some .free) : ∀ y ∈ scope.names, y.2 = .free → X.env.scope.names.lookup y.1 = some .cell ∨ X.env.scope.names.lookup y.1 = some .free := h ▸ hd
theorem pe_sortLamK {X : Cx} {K : PySem.W.Frag} {T : List (Addr × Str)} {c P : Addr} {e : Expr} {te tb : TE} {params : Arguments} {body : Expr} {scope : Scope} {N ps fr : List Str} {js : List Nat} {k : Nat} {p pos lpos kpos : Pos} {q0 : Str}
    (hg : Gl X "sorted") (hm : X.mg "sorted" = none) (TB : TabB X.base X.mg c P) (hK : X.K = K) (hcode : X.env.code = .ref c) (hq : X.env.qual ++ "<lambda>" = q0) (hmT : (P, q0) ∈ T) (hu : ∀ p ∈ T, p.1 = P → p.2 = q0) (hr : Room (k + 3) X.A)
    (hdef : defaultsOf params X.env = ([], [])) (S : NScope N ps fr scope) (hp1 : ps.length = 1) (hfree : ∀ y ∈ scope.names, y.2 = .free → X.env.scope.names.lookup y.1 = some .cell ∨ X.env.scope.names.lookup y.1 = some .free)
    (hfr : ∀ y ∈ fr, (y, NameKind.free) ∈ scope.names) (hjs : js.map (fun j => X.N[j]?) = fr.map some)
    (hb : ∀ (q : Str) (cl : List (Str × Addr)) (pm cv ctv : Value) (us : List Value), us.length = ps.length → bindArgs (PySem.W.kla_fn "<lambda>" q params body scope cl pm cv ctv) ⟨us, []⟩ = pure (ps.zip us))
    (he : PE X e te)
    (hbody : ∀ (A : Around) (outer : List Env) (s : Shared) (H : Hp) (q : Str) (cl : List (Str × Addr)) (f c' : Addr), Room k (A.deeper (envF ⟨"<lambda>", q, params, [], scope, cl, c'⟩ f s.heap.objs.size)) → PE (ncx CX0 X.prog X.w X.K X.mg X.base N ⟨"<lambda>", q, params, [], scope, cl, c'⟩ f A outer s H E0) body tb)
    (h1 : backTo pos (starEach [e] X.env) = (false, eval e X.env) :: backTo pos (starEach [] X.env) := by rfl) (h2 : (backTo pos (starEach [e] X.env)).any (·.1) = false := by rfl) (h0 : starEach [e] X.env = (false, eval e X.env) :: starEach [] X.env := by rfl) :
    PE X (.Call (.Name "sorted" p) [e] [⟨some "key", .Lambda params body scope lpos, kpos⟩] pos) (tSortLam T K te tb N js) := by
  subst hK hq
  exact pe_sortLam hg hm TB hcode hmT hu hr hdef S hp1 hfree hfr hjs hb he hbody h1 h2 h0
abbrev scIn_L_all : Scope := ⟨.function, [(".0", .local), ("_law_row_here", .cell), ("_law_book", .cell), ("_law_days", .cell), ("_law_numbers", .cell)], false, false, []⟩
section
variable {P : Program} {w : World} {K : PySem.W.Frag} {mg : Str → Option Value} {base : Heap}
abbrev N_is_whole : List Str := ["thing"]
theorem sc_is_whole : FnScope N_is_whole ["thing"] (defScope sis_whole) := ⟨rfl, rfl, rfl, by decide +kernel, rfl, by decide +kernel, by decide +kernel⟩
noncomputable def tm_is_whole (S : Say K mg)  (f : Addr) (cdv : Value) (A : Around) (outer : List Env) (s : Shared) (H : Hp) (E : XK) (hr : Room 0 (A.deeper (envOfC dis_whole.qual (defScope sis_whole) s.heap.objs.size f cdv)))  : { t : TS // PSs (cxOf CX0 P w K mg base N_is_whole dis_whole.qual (defScope sis_whole) f cdv A outer s H E) (defBody sis_whole) t } :=
  ⟨_, PSs.nox (by exact (pss_one (ps_ret (pe_and (pe_callB (call_isiK (K := K)) (by rfl) S.z_isinstance (by decide +kernel) (pa_cons (pv 0) (pa_cons (pe_bltn (v := .ty "int") (by rfl) S.z_int PyProof.Rows.boot_int rfl) pa_nil))) (pe_one (pe_not (pe_callB (call_isiK (K := K)) (by rfl) S.z_isinstance (by decide +kernel) (pa_cons (pv 0) (pa_cons (pe_bltn (v := .ty "bool") (by rfl) S.z_bool PyProof.Rows.boot_bool rfl) pa_nil)))))))))⟩
abbrev N_is_from : List Str := ["thing", "least", "most"]
theorem sc_is_from : FnScope N_is_from ["thing", "least", "most"] (defScope sis_from) := ⟨rfl, rfl, rfl, by decide +kernel, rfl, by decide +kernel, by decide +kernel⟩
noncomputable def tm_is_from (S : Say K mg) {sp_is_whole : Sp} {fd_is_whole : FuncData} (F_is_whole : Def K dis_whole fd_is_whole) (O_is_whole : FnOk P w K mg base CX0 1 (He.fAd K dis_whole.at_) fd_is_whole ["thing"] sp_is_whole) (f : Addr) (cdv : Value) (A : Around) (outer : List Env) (s : Shared) (H : Hp) (E : XK) (hr : Room 1 (A.deeper (envOfC dis_from.qual (defScope sis_from) s.heap.objs.size f cdv)))  : { t : TS // PSs (cxOf CX0 P w K mg base N_is_from dis_from.qual (defScope sis_from) f cdv A outer s H E) (defBody sis_from) t } :=
  ⟨_, PSs.nox (by exact (pss_one (ps_ret (pe_and (pe_call O_is_whole (hr.mono (by decide)) rfl S.g_is_whole F_is_whole.kp (b_is_whole F_is_whole) .nil pass0 (pa_cons (pv 0) pa_nil)) (pe_one (pe_chain op_le op_le (pv 1) (pv 0) (pv 2)))))))⟩
abbrev N_rises : List Str := ["row", "one", "other"]
theorem sc_rises : FnScope N_rises ["row"] (defScope srises) := ⟨rfl, rfl, rfl, by decide +kernel, rfl, by decide +kernel, by decide +kernel⟩
noncomputable def tm_rises (S : Say K mg)  (f : Addr) (cdv : Value) (A : Around) (outer : List Env) (s : Shared) (H : Hp) (E : XK) (hr : Room 0 (A.deeper (envOfC drises.qual (defScope srises) s.heap.objs.size f cdv)))  : { t : TS // PSs (cxOf CX0 P w K mg base N_rises drises.qual (defScope srises) f cdv A outer s H E) (defBody srises) t } :=
  ⟨_, PSs.nox (by exact (pss_one (ps_ret (pe_callB (cr_allK (K := K) rfl) (by rfl) S.z_all (by decide +kernel) (pa_cons (pe_lc (own := [("one", 1), ("other", 2)]) (g := (gTup K 2 (gCons (gName 1) (gCons (gName 2) gNil)))) (by rfl) sc_rises.nd (pi_zipAK (K := K) (by rfl) S.z_zip (pa_cons (pv 0) (pa_cons (pe_slice (sl_tupAK (K := K)) (pv 0) (po_some pe_int) po_none) pa_nil))) (blkOk_by (own := [("one", 1), ("other", 2)]) (N := N_rises) (sc := (defScope srises)) (by decide +kernel)) (fun _ _ _ _ _ => (pg_tupK (K := K) rfl (pgs_cons (pg_name (i := 1) sc_rises.nd rfl (Or.inl rfl)) (pgs_cons (pg_name (i := 2) sc_rises.nd rfl (Or.inl rfl)) pgs_nil)))) (fun _ _ _ _ _ => pts_nil) (fun _ _ _ _ _ => (pe_cmpR op_lt (pv 1) (pv 2) (nomark _)))) pa_nil)))))⟩
abbrev N_is_name : List Str := ["thing", "sign"]
theorem sc_is_name : FnScope N_is_name ["thing"] (defScope sis_name) := ⟨rfl, rfl, rfl, by decide +kernel, rfl, by decide +kernel, by decide +kernel⟩
noncomputable def tm_is_name (S : Say K mg)  (f : Addr) (cdv : Value) (A : Around) (outer : List Env) (s : Shared) (H : Hp) (E : XK) (hr : Room 0 (A.deeper (envOfC dis_name.qual (defScope sis_name) s.heap.objs.size f cdv)))  : { t : TS // PSs (cxOf CX0 P w K mg base N_is_name dis_name.qual (defScope sis_name) f cdv A outer s H E) (defBody sis_name) t } :=
  ⟨_, PSs.nox (by exact (pss_cons (ps_if (PW.pt (pw_or (pt_not (pt_val (pe_callB (call_isiK (K := K)) (by rfl) S.z_isinstance (by decide +kernel) (pa_cons (pv 0) (pa_cons (pe_bltn (v := .ty "str") (by rfl) S.z_str PyProof.Rows.boot_str rfl) pa_nil))))) (pw_or1 (pt_not (pt_chain op_le op_le pe_int (pe_callB (call_lenK (K := K)) (by rfl) S.z_len (by decide +kernel) (pa_cons (pv 0) pa_nil)) (pe_glob (v := .int (8)) rfl (S.i_MOST_SIGNS).choose_spec ⟨_, rfl⟩)))))) (pss_one (ps_ret pe_bl)) pss_nil) (pss_one (ps_ret (pe_callB (cr_allK (K := K) rfl) (by rfl) S.z_all (by decide +kernel) (pa_cons (pe_lc (own := [("sign", 1)]) (g := (gName 1)) (by rfl) sc_is_name.nd (pi_str (pv 0)) (blkOk_by (own := [("sign", 1)]) (N := N_is_name) (sc := (defScope sis_name)) (by decide +kernel)) (fun _ _ _ _ _ => (pg_name (i := 1) sc_is_name.nd rfl (Or.inl rfl))) (fun _ _ _ _ _ => pts_nil) (fun _ _ _ _ _ => (pe_chain op_le_str op_le_str pe_str (pv 1) pe_str))) pa_nil))))))⟩
abbrev N_is_day : List Str := ["thing"]
theorem sc_is_day : FnScope N_is_day ["thing"] (defScope sis_day) := ⟨rfl, rfl, rfl, by decide +kernel, rfl, by decide +kernel, by decide +kernel⟩
noncomputable def tm_is_day (S : Say K mg) {sp_is_from : Sp} {fd_is_from : FuncData} (F_is_from : Def K dis_from fd_is_from) (O_is_from : FnOk P w K mg base CX0 2 (He.fAd K dis_from.at_) fd_is_from ["thing", "least", "most"] sp_is_from) (f : Addr) (cdv : Value) (A : Around) (outer : List Env) (s : Shared) (H : Hp) (E : XK) (hr : Room 2 (A.deeper (envOfC dis_day.qual (defScope sis_day) s.heap.objs.size f cdv)))  : { t : TS // PSs (cxOf CX0 P w K mg base N_is_day dis_day.qual (defScope sis_day) f cdv A outer s H E) (defBody sis_day) t } :=
  ⟨_, PSs.nox (by exact (pss_one (ps_ret (pe_call O_is_from (hr.mono (by decide)) rfl S.g_is_from F_is_from.kp (b_is_from F_is_from) .nil pass0 (pa_cons (pv 0) (pa_cons (pe_glob (v := .int (-40000)) rfl (S.i_FIRST_DAY).choose_spec ⟨_, rfl⟩) (pa_cons (pe_glob (v := .int (40000)) rfl (S.i_LAST_DAY).choose_spec ⟨_, rfl⟩) pa_nil)))))))⟩
abbrev N_is_way : List Str := ["thing"]
theorem sc_is_way : FnScope N_is_way ["thing"] (defScope sis_way) := ⟨rfl, rfl, rfl, by decide +kernel, rfl, by decide +kernel, by decide +kernel⟩
noncomputable def tm_is_way (S : Say K mg)  (f : Addr) (cdv : Value) (A : Around) (outer : List Env) (s : Shared) (H : Hp) (E : XK) (hr : Room 0 (A.deeper (envOfC dis_way.qual (defScope sis_way) s.heap.objs.size f cdv)))  : { t : TS // PSs (cxOf CX0 P w K mg base N_is_way dis_way.qual (defScope sis_way) f cdv A outer s H E) (defBody sis_way) t } :=
  ⟨_, PSs.nox (by exact (pss_one (ps_ret (pe_and (pe_callB (call_isiK (K := K)) (by rfl) S.z_isinstance (by decide +kernel) (pa_cons (pv 0) (pa_cons (pe_bltn (v := .ty "str") (by rfl) S.z_str PyProof.Rows.boot_str rfl) pa_nil))) (pe_one (pe_cmpR (op_inK (K := K)) (pv 0) (pe_glob (v := .ref (He.ga K "WAYS")) rfl S.g_WAYS rfl) (by rfl)))))))⟩
abbrev N_is_mark : List Str := ["thing"]
theorem sc_is_mark : FnScope N_is_mark ["thing"] (defScope sis_mark) := ⟨rfl, rfl, rfl, by decide +kernel, rfl, by decide +kernel, by decide +kernel⟩
noncomputable def tm_is_mark (S : Say K mg) {sp_is_from : Sp} {fd_is_from : FuncData} (F_is_from : Def K dis_from fd_is_from) (O_is_from : FnOk P w K mg base CX0 2 (He.fAd K dis_from.at_) fd_is_from ["thing", "least", "most"] sp_is_from) (f : Addr) (cdv : Value) (A : Around) (outer : List Env) (s : Shared) (H : Hp) (E : XK) (hr : Room 2 (A.deeper (envOfC dis_mark.qual (defScope sis_mark) s.heap.objs.size f cdv)))  : { t : TS // PSs (cxOf CX0 P w K mg base N_is_mark dis_mark.qual (defScope sis_mark) f cdv A outer s H E) (defBody sis_mark) t } :=
  ⟨_, PSs.nox (by exact (pss_one (ps_ret (pe_call O_is_from (hr.mono (by decide)) rfl S.g_is_from F_is_from.kp (b_is_from F_is_from) .nil pass0 (pa_cons (pv 0) (pa_cons pe_int (pa_cons (pe_glob (v := .int (1000000)) rfl (S.i_LAST_MARK).choose_spec ⟨_, rfl⟩) pa_nil)))))))⟩
abbrev N_is_event : List Str := ["thing"]
theorem sc_is_event : FnScope N_is_event ["thing"] (defScope sis_event) := ⟨rfl, rfl, rfl, by decide +kernel, rfl, by decide +kernel, by decide +kernel⟩
noncomputable def tm_is_event (S : Say K mg) {sp_is_name : Sp} {fd_is_name : FuncData} (F_is_name : Def K dis_name fd_is_name) (O_is_name : FnOk P w K mg base CX0 1 (He.fAd K dis_name.at_) fd_is_name ["thing"] sp_is_name) {sp_is_way : Sp} {fd_is_way : FuncData} (F_is_way : Def K dis_way fd_is_way) (O_is_way : FnOk P w K mg base CX0 1 (He.fAd K dis_way.at_) fd_is_way ["thing"] sp_is_way) (f : Addr) (cdv : Value) (A : Around) (outer : List Env) (s : Shared) (H : Hp) (E : XK) (hr : Room 1 (A.deeper (envOfC dis_event.qual (defScope sis_event) s.heap.objs.size f cdv)))  : { t : TS // PSs (cxOf CX0 P w K mg base N_is_event dis_event.qual (defScope sis_event) f cdv A outer s H E) (defBody sis_event) t } :=
  ⟨_, PSs.nox (by exact (pss_cons (ps_if (PW.pt (pw_or (pt_not (pt_val (pe_callB (call_isiK (K := K)) (by rfl) S.z_isinstance (by decide +kernel) (pa_cons (pv 0) (pa_cons (pe_bltn (v := .ty "tuple") (by rfl) S.z_tuple PyProof.Rows.boot_tuple rfl) pa_nil))))) (pw_or1 (pt_cmpR op_ne (pe_callB (call_lenqK (K := K)) (by rfl) S.z_len (by decide +kernel) (pa_cons (pv 0) pa_nil)) pe_int (nomark _))))) (pss_one (ps_ret pe_bl)) pss_nil) (pss_one (ps_ret (pe_and (pe_call O_is_name (hr.mono (by decide)) rfl S.g_is_name F_is_name.kp (b_is_name F_is_name) .nil pass0 (pa_cons (pe_ix (ix_tupK (K := K)) (pv 0) pe_int (fun _ _ => rfl)) pa_nil)) (pe_and (pe_call O_is_way (hr.mono (by decide)) rfl S.g_is_way F_is_way.kp (b_is_way F_is_way) .nil pass0 (pa_cons (pe_ix (ix_tupK (K := K)) (pv 0) pe_int (fun _ _ => rfl)) pa_nil)) (pe_one (pe_callB (call_isiK (K := K)) (by rfl) S.z_isinstance (by decide +kernel) (pa_cons (pe_ix (ix_tupK (K := K)) (pv 0) pe_int (fun _ _ => rfl)) (pa_cons (pe_bltn (v := .ty "bool") (by rfl) S.z_bool PyProof.Rows.boot_bool rfl) pa_nil))))))))))⟩
abbrev N_beats : List Str := ["one", "other", "way"]
theorem sc_beats : FnScope N_beats ["one", "other", "way"] (defScope sbeats) := ⟨rfl, rfl, rfl, by decide +kernel, rfl, by decide +kernel, by decide +kernel⟩
noncomputable def tm_beats (S : Say K mg)  (f : Addr) (cdv : Value) (A : Around) (outer : List Env) (s : Shared) (H : Hp) (E : XK) (hr : Room 0 (A.deeper (envOfC dbeats.qual (defScope sbeats) s.heap.objs.size f cdv)))  : { t : TS // PSs (cxOf CX0 P w K mg base N_beats dbeats.qual (defScope sbeats) f cdv A outer s H E) (defBody sbeats) t } :=
  ⟨_, PSs.nox (by exact (pss_one (ps_ret (pe_ifExp (pt_cmpR op_eq (pv 2) pe_str (nomark _)) (pe_cmpR op_lt (pv 0) (pv 1) (nomark _)) (pe_cmpR op_gt (pv 0) (pv 1) (nomark _))))))⟩
abbrev N_are_limits : List Str := ["thing", "one"]
theorem sc_are_limits : FnScope N_are_limits ["thing"] (defScope sare_limits) := ⟨rfl, rfl, rfl, by decide +kernel, rfl, by decide +kernel, by decide +kernel⟩
noncomputable def tm_are_limits (S : Say K mg) {sp_is_from : Sp} {fd_is_from : FuncData} (F_is_from : Def K dis_from fd_is_from) (O_is_from : FnOk P w K mg base CX0 2 (He.fAd K dis_from.at_) fd_is_from ["thing", "least", "most"] sp_is_from) {sp_rises : Sp} {fd_rises : FuncData} (F_rises : Def K drises fd_rises) (O_rises : FnOk P w K mg base CX0 1 (He.fAd K drises.at_) fd_rises ["row"] sp_rises) (f : Addr) (cdv : Value) (A : Around) (outer : List Env) (s : Shared) (H : Hp) (E : XK) (hr : Room 2 (A.deeper (envOfC dare_limits.qual (defScope sare_limits) s.heap.objs.size f cdv)))  : { t : TS // PSs (cxOf CX0 P w K mg base N_are_limits dare_limits.qual (defScope sare_limits) f cdv A outer s H E) (defBody sare_limits) t } :=
  ⟨_, PSs.nox (by exact (pss_cons (ps_if (PW.pt (pw_or (pt_not (pt_val (pe_callB (call_isiK (K := K)) (by rfl) S.z_isinstance (by decide +kernel) (pa_cons (pv 0) (pa_cons (pe_bltn (v := .ty "tuple") (by rfl) S.z_tuple PyProof.Rows.boot_tuple rfl) pa_nil))))) (pw_or1 (pt_cmpR op_gt (pe_callB (call_lenqK (K := K)) (by rfl) S.z_len (by decide +kernel) (pa_cons (pv 0) pa_nil)) (pe_glob (v := .int (4)) rfl (S.i_MOST_LIMITS).choose_spec ⟨_, rfl⟩) (nomark _))))) (pss_one (ps_ret pe_bl)) pss_nil) (pss_one (ps_ret (pe_and (pe_callB (cr_allK (K := K) rfl) (by rfl) S.z_all (by decide +kernel) (pa_cons (pe_lc (own := [("one", 1)]) (g := (gName 1)) (by rfl) sc_are_limits.nd (pi_tupK (K := K) (pv 0)) (blkOk_by (own := [("one", 1)]) (N := N_are_limits) (sc := (defScope sare_limits)) (by decide +kernel)) (fun _ _ _ _ _ => (pg_name (i := 1) sc_are_limits.nd rfl (Or.inl rfl))) (fun _ _ _ _ _ => pts_nil) (fun _ _ _ _ _ => (pe_call O_is_from (hr.mono (by decide)) rfl S.g_is_from F_is_from.kp (b_is_from F_is_from) .nil pass0 (pa_cons (pv 1) (pa_cons pe_int (pa_cons (pe_glob (v := .int (99)) rfl (S.i_MOST_LIMIT).choose_spec ⟨_, rfl⟩) pa_nil)))))) pa_nil)) (pe_one (pe_call O_rises (hr.mono (by decide)) rfl S.g_rises F_rises.kp (b_rises F_rises) .nil pass0 (pa_cons (pv 0) pa_nil))))))))⟩
abbrev N_is_wind : List Str := ["thing"]
theorem sc_is_wind : FnScope N_is_wind ["thing"] (defScope sis_wind) := ⟨rfl, rfl, rfl, by decide +kernel, rfl, by decide +kernel, by decide +kernel⟩
noncomputable def tm_is_wind (S : Say K mg) {sp_is_from : Sp} {fd_is_from : FuncData} (F_is_from : Def K dis_from fd_is_from) (O_is_from : FnOk P w K mg base CX0 2 (He.fAd K dis_from.at_) fd_is_from ["thing", "least", "most"] sp_is_from) (f : Addr) (cdv : Value) (A : Around) (outer : List Env) (s : Shared) (H : Hp) (E : XK) (hr : Room 2 (A.deeper (envOfC dis_wind.qual (defScope sis_wind) s.heap.objs.size f cdv)))  : { t : TS // PSs (cxOf CX0 P w K mg base N_is_wind dis_wind.qual (defScope sis_wind) f cdv A outer s H E) (defBody sis_wind) t } :=
  ⟨_, PSs.nox (by exact (pss_one (ps_ret (pe_call O_is_from (hr.mono (by decide)) rfl S.g_is_from F_is_from.kp (b_is_from F_is_from) .nil pass0 (pa_cons (pv 0) (pa_cons (pe_op op_sub pe_int (pe_glob (v := .int (99)) rfl (S.i_MOST_WIND).choose_spec ⟨_, rfl⟩)) (pa_cons (pe_glob (v := .int (99)) rfl (S.i_MOST_WIND).choose_spec ⟨_, rfl⟩) pa_nil)))))))⟩
abbrev N_Rules_init : List Str := ["self", "limits", "up", "wind", "shares", "row"]
theorem sc_Rules_init : FnScope N_Rules_init ["self", "limits", "up", "wind", "shares"] (defScope sRules_init) := ⟨rfl, rfl, rfl, by decide +kernel, rfl, by decide +kernel, by decide +kernel⟩
noncomputable def tm_Rules_init (S : Say K mg) {sp_are_limits : Sp} {fd_are_limits : FuncData} (F_are_limits : Def K dare_limits fd_are_limits) (O_are_limits : FnOk P w K mg base CX0 3 (He.fAd K dare_limits.at_) fd_are_limits ["thing"] sp_are_limits) {sp_is_wind : Sp} {fd_is_wind : FuncData} (F_is_wind : Def K dis_wind fd_is_wind) (O_is_wind : FnOk P w K mg base CX0 3 (He.fAd K dis_wind.at_) fd_is_wind ["thing"] sp_is_wind) (f : Addr) (cdv : Value) (A : Around) (outer : List Env) (s : Shared) (H : Hp) (E : XK) (hr : Room 3 (A.deeper (envOfC dRules_init.qual (defScope sRules_init) s.heap.objs.size f cdv)))  : { t : TS // PSs (cxOf CX0 P w K mg base N_Rules_init dRules_init.qual (defScope sRules_init) f cdv A outer s H E) (defBody sRules_init) t } :=
  ⟨_, PSs.nox (by exact (pss_cons (ps_set (i := 5) sc_Rules_init.nd rfl (Or.inl rfl) (pe_ifExp (pt_cmpR op_isN (pv 1) pe_non (nomark _)) (pe_tup pa_nil) (pv 1))) (pss_cons (ps_if (PW.pt (pw_or (pt_not (pt_val (pe_call O_are_limits (hr.mono (by decide)) rfl S.g_are_limits F_are_limits.kp (b_are_limits F_are_limits) .nil pass0 (pa_cons (pv 5) pa_nil)))) (pw_or (pt_not (pt_val (pe_callB (call_isiK (K := K)) (by rfl) S.z_isinstance (by decide +kernel) (pa_cons (pv 2) (pa_cons (pe_bltn (v := .ty "bool") (by rfl) S.z_bool PyProof.Rows.boot_bool rfl) pa_nil))))) (pw_or (pt_not (pt_val (pe_call O_is_wind (hr.mono (by decide)) rfl S.g_is_wind F_is_wind.kp (b_is_wind F_is_wind) .nil pass0 (pa_cons (pv 3) pa_nil)))) (pw_or1 (pt_not (pt_val (pe_callB (call_isiK (K := K)) (by rfl) S.z_isinstance (by decide +kernel) (pa_cons (pv 4) (pa_cons (pe_bltn (v := .ty "bool") (by rfl) S.z_bool PyProof.Rows.boot_bool rfl) pa_nil)))))))))) (pss_one ps_never) pss_nil) (pss_cons (ps_fld (pv 0) (pv 5) rfl) (pss_cons (ps_fld (pv 0) (pv 2) rfl) (pss_cons (ps_fld (pv 0) (pv 3) rfl) (pss_one (ps_fld (pv 0) (pv 4) rfl))))))))⟩
abbrev N_Rules_len : List Str := ["self"]
theorem sc_Rules_len : FnScope N_Rules_len ["self"] (defScope sRules_len) := ⟨rfl, rfl, rfl, by decide +kernel, rfl, by decide +kernel, by decide +kernel⟩
noncomputable def tm_Rules_len (S : Say K mg)  (f : Addr) (cdv : Value) (A : Around) (outer : List Env) (s : Shared) (H : Hp) (E : XK) (hr : Room 0 (A.deeper (envOfC dRules_len.qual (defScope sRules_len) s.heap.objs.size f cdv)))  : { t : TS // PSs (cxOf CX0 P w K mg base N_Rules_len dRules_len.qual (defScope sRules_len) f cdv A outer s H E) (defBody sRules_len) t } :=
  ⟨_, PSs.nox (by exact (pss_one (ps_ret (pe_callB (call_lenqK (K := K)) (by rfl) S.z_len (by decide +kernel) (pa_cons (pe_op (op_catAK (K := K)) (pe_fldK (K := K) (pv 0) rfl) (pe_tup (pa_cons pe_int pa_nil))) pa_nil)))))⟩
abbrev N_Rules_classes_in : List Str := ["self", "age", "first", "limit"]
theorem sc_Rules_classes_in : FnScope N_Rules_classes_in ["self", "age"] (defScope sRules_classes_in) := ⟨rfl, rfl, rfl, by decide +kernel, rfl, by decide +kernel, by decide +kernel⟩
noncomputable def tm_Rules_classes_in (S : Say K mg)  (f : Addr) (cdv : Value) (A : Around) (outer : List Env) (s : Shared) (H : Hp) (E : XK) (hr : Room 0 (A.deeper (envOfC dRules_classes_in.qual (defScope sRules_classes_in) s.heap.objs.size f cdv)))  : { t : TS // PSs (cxOf CX0 P w K mg base N_Rules_classes_in dRules_classes_in.qual (defScope sRules_classes_in) f cdv A outer s H E) (defBody sRules_classes_in) t } :=
  ⟨_, PSs.nox (by exact (pss_cons (ps_set (i := 2) sc_Rules_classes_in.nd rfl (Or.inl rfl) (pe_callB (call_lenqK (K := K)) (by rfl) S.z_len (by decide +kernel) (pa_cons (pe_lc (own := [("limit", 3)]) (g := (gName 3)) (by rfl) sc_Rules_classes_in.nd (pi_tupK (K := K) (pe_fldK (K := K) (pv 0) rfl)) (blkOk_by (own := [("limit", 3)]) (N := N_Rules_classes_in) (sc := (defScope sRules_classes_in)) (by decide +kernel)) (fun _ _ _ _ _ => (pg_name (i := 3) sc_Rules_classes_in.nd rfl (Or.inl rfl))) (fun _ _ _ _ _ => (pts_one (pt_cmpR op_le (pv 3) (pv 1) (nomark _)))) (fun _ _ _ _ _ => (pv 3))) pa_nil))) (pss_one (ps_ret (pe_ifExp (pt_val (pe_fldK (K := K) (pv 0) rfl)) (pe_listRg rfl (by rfl) S.z_list (prg_2 (by rfl) S.z_range (pv 2) (pe_op op_add (pe_callB (call_lenqK (K := K)) (by rfl) S.z_len (by decide +kernel) (pa_cons (pe_fldK (K := K) (pv 0) rfl) pa_nil)) pe_int))) (pe_lst (pa_cons (pv 2) pa_nil)))))))⟩
abbrev N_Deed_init : List Str := ["self", "name", "event", "mark", "day", "hour", "wind", "course"]
theorem sc_Deed_init : FnScope N_Deed_init ["self", "name", "event", "mark", "day", "hour", "wind", "course"] (defScope sDeed_init) := ⟨rfl, rfl, rfl, by decide +kernel, rfl, by decide +kernel, by decide +kernel⟩
noncomputable def tm_Deed_init (S : Say K mg) {sp_is_from : Sp} {fd_is_from : FuncData} (F_is_from : Def K dis_from fd_is_from) (O_is_from : FnOk P w K mg base CX0 2 (He.fAd K dis_from.at_) fd_is_from ["thing", "least", "most"] sp_is_from) {sp_is_name : Sp} {fd_is_name : FuncData} (F_is_name : Def K dis_name fd_is_name) (O_is_name : FnOk P w K mg base CX0 1 (He.fAd K dis_name.at_) fd_is_name ["thing"] sp_is_name) {sp_is_day : Sp} {fd_is_day : FuncData} (F_is_day : Def K dis_day fd_is_day) (O_is_day : FnOk P w K mg base CX0 3 (He.fAd K dis_day.at_) fd_is_day ["thing"] sp_is_day) {sp_is_mark : Sp} {fd_is_mark : FuncData} (F_is_mark : Def K dis_mark fd_is_mark) (O_is_mark : FnOk P w K mg base CX0 3 (He.fAd K dis_mark.at_) fd_is_mark ["thing"] sp_is_mark) {sp_is_wind : Sp} {fd_is_wind : FuncData} (F_is_wind : Def K dis_wind fd_is_wind) (O_is_wind : FnOk P w K mg base CX0 3 (He.fAd K dis_wind.at_) fd_is_wind ["thing"] sp_is_wind) (f : Addr) (cdv : Value) (A : Around) (outer : List Env) (s : Shared) (H : Hp) (E : XK) (hr : Room 3 (A.deeper (envOfC dDeed_init.qual (defScope sDeed_init) s.heap.objs.size f cdv)))  : { t : TS // PSs (cxOf CX0 P w K mg base N_Deed_init dDeed_init.qual (defScope sDeed_init) f cdv A outer s H E) (defBody sDeed_init) t } :=
  ⟨_, PSs.nox (by exact (pss_cons (ps_if (PW.pt (pw_or (pt_not (pt_val (pe_call O_is_name (hr.mono (by decide)) rfl S.g_is_name F_is_name.kp (b_is_name F_is_name) .nil pass0 (pa_cons (pv 1) pa_nil)))) (pw_or (pt_not (pt_val (pe_call O_is_name (hr.mono (by decide)) rfl S.g_is_name F_is_name.kp (b_is_name F_is_name) .nil pass0 (pa_cons (pv 2) pa_nil)))) (pw_or (pt_not (pt_val (pe_call O_is_mark (hr.mono (by decide)) rfl S.g_is_mark F_is_mark.kp (b_is_mark F_is_mark) .nil pass0 (pa_cons (pv 3) pa_nil)))) (pw_or1 (pt_not (pt_val (pe_call O_is_day (hr.mono (by decide)) rfl S.g_is_day F_is_day.kp (b_is_day F_is_day) .nil pass0 (pa_cons (pv 4) pa_nil))))))))) (pss_one ps_never) pss_nil) (pss_cons (ps_if (PW.pt (pw_or (pt_not (pt_val (pe_call O_is_from (hr.mono (by decide)) rfl S.g_is_from F_is_from.kp (b_is_from F_is_from) .nil pass0 (pa_cons (pv 5) (pa_cons pe_int (pa_cons (pe_glob (v := .int (23)) rfl (S.i_LAST_HOUR).choose_spec ⟨_, rfl⟩) pa_nil)))))) (pw_or (pt_not (pt_val (pe_call O_is_wind (hr.mono (by decide)) rfl S.g_is_wind F_is_wind.kp (b_is_wind F_is_wind) .nil pass0 (pa_cons (pv 6) pa_nil)))) (pw_or1 (pt_not (pt_val (pe_call O_is_name (hr.mono (by decide)) rfl S.g_is_name F_is_name.kp (b_is_name F_is_name) .nil pass0 (pa_cons (pv 7) pa_nil)))))))) (pss_one ps_never) pss_nil) (pss_cons (ps_fld (pv 0) (pv 1) rfl) (pss_cons (ps_fld (pv 0) (pv 2) rfl) (pss_cons (ps_fld (pv 0) (pv 3) rfl) (pss_cons (ps_fld (pv 0) (pv 4) rfl) (pss_cons (ps_fld (pv 0) (pv 5) rfl) (pss_cons (ps_fld (pv 0) (pv 6) rfl) (pss_one (ps_fld (pv 0) (pv 7) rfl)))))))))))⟩
abbrev N_Deed_eq : List Str := ["self", "other"]
theorem sc_Deed_eq : FnScope N_Deed_eq ["self", "other"] (defScope sDeed_eq) := ⟨rfl, rfl, rfl, by decide +kernel, rfl, by decide +kernel, by decide +kernel⟩
noncomputable def tm_Deed_eq (S : Say K mg) {sp_Deed_row : Sp} {fd_Deed_row : FuncData} (F_Deed_row : Def K dDeed_row fd_Deed_row) (O_Deed_row : FnOk P w K mg base CX0 1 (He.fAd K dDeed_row.at_) fd_Deed_row ["self"] sp_Deed_row) (f : Addr) (cdv : Value) (A : Around) (outer : List Env) (s : Shared) (H : Hp) (E : XK) (hr : Room 1 (A.deeper (envOfC dDeed_eq.qual (defScope sDeed_eq) s.heap.objs.size f cdv)))  : { t : TS // PSs (cxOf CX0 P w K mg base N_Deed_eq dDeed_eq.qual (defScope sDeed_eq) f cdv A outer s H E) (defBody sDeed_eq) t } :=
  ⟨_, PSs.nox (by exact (pss_one (ps_ret (pe_and (pe_callB (C8.call_isC S.q_Deed) (by rfl) S.z_isinstance (by decide +kernel) (pa_cons (pv 1) (pa_cons (pe_glob (v := .ref (He.ga K "Deed")) rfl S.g_Deed rfl) pa_nil))) (pe_one (pe_cmpR (op_eqDK (K := K) hr.units) (pe_meth0 (pv 0) S.c_Deed S.m_Deed_row O_Deed_row (hr.mono (by decide)) (b_Deed_row F_Deed_row) .nil pass0) (pe_meth0 (pv 1) S.c_Deed S.m_Deed_row O_Deed_row (hr.mono (by decide)) (b_Deed_row F_Deed_row) .nil pass0) (nomark _)))))))⟩
abbrev N_Deed_row : List Str := ["self"]
theorem sc_Deed_row : FnScope N_Deed_row ["self"] (defScope sDeed_row) := ⟨rfl, rfl, rfl, by decide +kernel, rfl, by decide +kernel, by decide +kernel⟩
noncomputable def tm_Deed_row (S : Say K mg)  (f : Addr) (cdv : Value) (A : Around) (outer : List Env) (s : Shared) (H : Hp) (E : XK) (hr : Room 0 (A.deeper (envOfC dDeed_row.qual (defScope sDeed_row) s.heap.objs.size f cdv)))  : { t : TS // PSs (cxOf CX0 P w K mg base N_Deed_row dDeed_row.qual (defScope sDeed_row) f cdv A outer s H E) (defBody sDeed_row) t } :=
  ⟨_, PSs.nox (by exact (pss_one (ps_ret (pe_tup (pa_cons (pe_fldK (K := K) (pv 0) rfl) (pa_cons (pe_fldK (K := K) (pv 0) rfl) (pa_cons (pe_fldK (K := K) (pv 0) rfl) (pa_cons (pe_fldK (K := K) (pv 0) rfl) (pa_cons (pe_fldK (K := K) (pv 0) rfl) (pa_cons (pe_fldK (K := K) (pv 0) rfl) (pa_cons (pe_fldK (K := K) (pv 0) rfl) pa_nil)))))))))))⟩
abbrev N_Deed_time : List Str := ["self"]
theorem sc_Deed_time : FnScope N_Deed_time ["self"] (defScope sDeed_time) := ⟨rfl, rfl, rfl, by decide +kernel, rfl, by decide +kernel, by decide +kernel⟩
noncomputable def tm_Deed_time (S : Say K mg)  (f : Addr) (cdv : Value) (A : Around) (outer : List Env) (s : Shared) (H : Hp) (E : XK) (hr : Room 0 (A.deeper (envOfC dDeed_time.qual (defScope sDeed_time) s.heap.objs.size f cdv)))  : { t : TS // PSs (cxOf CX0 P w K mg base N_Deed_time dDeed_time.qual (defScope sDeed_time) f cdv A outer s H E) (defBody sDeed_time) t } :=
  ⟨_, PSs.nox (by exact (pss_one (ps_ret (pe_tup (pa_cons (pe_fldK (K := K) (pv 0) rfl) (pa_cons (pe_fldK (K := K) (pv 0) rfl) pa_nil))))))⟩
abbrev N_is_team : List Str := ["thing"]
theorem sc_is_team : FnScope N_is_team ["thing"] (defScope sis_team) := ⟨rfl, rfl, rfl, by decide +kernel, rfl, by decide +kernel, by decide +kernel⟩
noncomputable def tm_is_team (S : Say K mg) {sp_is_name : Sp} {fd_is_name : FuncData} (F_is_name : Def K dis_name fd_is_name) (O_is_name : FnOk P w K mg base CX0 1 (He.fAd K dis_name.at_) fd_is_name ["thing"] sp_is_name) (f : Addr) (cdv : Value) (A : Around) (outer : List Env) (s : Shared) (H : Hp) (E : XK) (hr : Room 1 (A.deeper (envOfC dis_team.qual (defScope sis_team) s.heap.objs.size f cdv)))  : { t : TS // PSs (cxOf CX0 P w K mg base N_is_team dis_team.qual (defScope sis_team) f cdv A outer s H E) (defBody sis_team) t } :=
  ⟨_, PSs.nox (by exact (pss_one (ps_ret (pe_and (pe_callB (call_isiK (K := K)) (by rfl) S.z_isinstance (by decide +kernel) (pa_cons (pv 0) (pa_cons (pe_bltn (v := .ty "str") (by rfl) S.z_str PyProof.Rows.boot_str rfl) pa_nil))) (pe_one (pe_or (pe_cmpR op_eq (pv 0) pe_str (nomark _)) (pe_one (pe_call O_is_name (hr.mono (by decide)) rfl S.g_is_name F_is_name.kp (b_is_name F_is_name) .nil pass0 (pa_cons (pv 0) pa_nil)))))))))⟩
abbrev N_Person_init : List Str := ["self", "name", "born", "group", "team"]
theorem sc_Person_init : FnScope N_Person_init ["self", "name", "born", "group", "team"] (defScope sPerson_init) := ⟨rfl, rfl, rfl, by decide +kernel, rfl, by decide +kernel, by decide +kernel⟩
noncomputable def tm_Person_init (S : Say K mg) {sp_is_name : Sp} {fd_is_name : FuncData} (F_is_name : Def K dis_name fd_is_name) (O_is_name : FnOk P w K mg base CX0 1 (He.fAd K dis_name.at_) fd_is_name ["thing"] sp_is_name) {sp_is_day : Sp} {fd_is_day : FuncData} (F_is_day : Def K dis_day fd_is_day) (O_is_day : FnOk P w K mg base CX0 3 (He.fAd K dis_day.at_) fd_is_day ["thing"] sp_is_day) {sp_is_team : Sp} {fd_is_team : FuncData} (F_is_team : Def K dis_team fd_is_team) (O_is_team : FnOk P w K mg base CX0 2 (He.fAd K dis_team.at_) fd_is_team ["thing"] sp_is_team) (f : Addr) (cdv : Value) (A : Around) (outer : List Env) (s : Shared) (H : Hp) (E : XK) (hr : Room 3 (A.deeper (envOfC dPerson_init.qual (defScope sPerson_init) s.heap.objs.size f cdv)))  : { t : TS // PSs (cxOf CX0 P w K mg base N_Person_init dPerson_init.qual (defScope sPerson_init) f cdv A outer s H E) (defBody sPerson_init) t } :=
  ⟨_, PSs.nox (by exact (pss_cons (ps_if (PW.pt (pw_or (pt_not (pt_val (pe_call O_is_name (hr.mono (by decide)) rfl S.g_is_name F_is_name.kp (b_is_name F_is_name) .nil pass0 (pa_cons (pv 1) pa_nil)))) (pw_or (pt_not (pt_val (pe_call O_is_day (hr.mono (by decide)) rfl S.g_is_day F_is_day.kp (b_is_day F_is_day) .nil pass0 (pa_cons (pv 2) pa_nil)))) (pw_or (pt_not (pt_val (pe_call O_is_name (hr.mono (by decide)) rfl S.g_is_name F_is_name.kp (b_is_name F_is_name) .nil pass0 (pa_cons (pv 3) pa_nil)))) (pw_or1 (pt_not (pt_val (pe_call O_is_team (hr.mono (by decide)) rfl S.g_is_team F_is_team.kp (b_is_team F_is_team) .nil pass0 (pa_cons (pv 4) pa_nil))))))))) (pss_one ps_never) pss_nil) (pss_cons (ps_fld (pv 0) (pv 1) rfl) (pss_cons (ps_fld (pv 0) (pv 2) rfl) (pss_cons (ps_fld (pv 0) (pv 3) rfl) (pss_one (ps_fld (pv 0) (pv 4) rfl)))))))⟩
abbrev N_Person_age_at : List Str := ["self", "day"]
theorem sc_Person_age_at : FnScope N_Person_age_at ["self", "day"] (defScope sPerson_age_at) := ⟨rfl, rfl, rfl, by decide +kernel, rfl, by decide +kernel, by decide +kernel⟩
noncomputable def tm_Person_age_at (S : Say K mg)  (f : Addr) (cdv : Value) (A : Around) (outer : List Env) (s : Shared) (H : Hp) (E : XK) (hr : Room 0 (A.deeper (envOfC dPerson_age_at.qual (defScope sPerson_age_at) s.heap.objs.size f cdv)))  : { t : TS // PSs (cxOf CX0 P w K mg base N_Person_age_at dPerson_age_at.qual (defScope sPerson_age_at) f cdv A outer s H E) (defBody sPerson_age_at) t } :=
  ⟨_, PSs.nox (by exact (pss_one (ps_ret (pe_op op_fdivW (pe_op op_sub (pv 1) (pe_fldK (K := K) (pv 0) rfl)) (pe_glob (v := .int (365)) rfl (S.i_YEAR).choose_spec ⟨_, rfl⟩)))))⟩
abbrev N_are_events : List Str := ["thing", "one"]
theorem sc_are_events : FnScope N_are_events ["thing"] (defScope sare_events) := ⟨rfl, rfl, rfl, by decide +kernel, rfl, by decide +kernel, by decide +kernel⟩
noncomputable def tm_are_events (S : Say K mg) {sp_is_event : Sp} {fd_is_event : FuncData} (F_is_event : Def K dis_event fd_is_event) (O_is_event : FnOk P w K mg base CX0 2 (He.fAd K dis_event.at_) fd_is_event ["thing"] sp_is_event) (f : Addr) (cdv : Value) (A : Around) (outer : List Env) (s : Shared) (H : Hp) (E : XK) (hr : Room 2 (A.deeper (envOfC dare_events.qual (defScope sare_events) s.heap.objs.size f cdv)))  : { t : TS // PSs (cxOf CX0 P w K mg base N_are_events dare_events.qual (defScope sare_events) f cdv A outer s H E) (defBody sare_events) t } :=
  ⟨_, PSs.nox (by exact (pss_cons (ps_if (PW.pt (pw_or (pt_not (pt_val (pe_callB (call_isiK (K := K)) (by rfl) S.z_isinstance (by decide +kernel) (pa_cons (pv 0) (pa_cons (pe_bltn (v := .ty "tuple") (by rfl) S.z_tuple PyProof.Rows.boot_tuple rfl) pa_nil))))) (pw_or (pt_not (pt_chain op_le op_le pe_int (pe_callB (call_lenqK (K := K)) (by rfl) S.z_len (by decide +kernel) (pa_cons (pv 0) pa_nil)) (pe_glob (v := .int (4)) rfl (S.i_MOST_EVENTS).choose_spec ⟨_, rfl⟩))) (pw_or1 (pt_not (pt_val (pe_callB (cr_allK (K := K) rfl) (by rfl) S.z_all (by decide +kernel) (pa_cons (pe_lc (own := [("one", 1)]) (g := (gName 1)) (by rfl) sc_are_events.nd (pi_tupK (K := K) (pv 0)) (blkOk_by (own := [("one", 1)]) (N := N_are_events) (sc := (defScope sare_events)) (by decide +kernel)) (fun _ _ _ _ _ => (pg_name (i := 1) sc_are_events.nd rfl (Or.inl rfl))) (fun _ _ _ _ _ => pts_nil) (fun _ _ _ _ _ => (pe_call O_is_event (hr.mono (by decide)) rfl S.g_is_event F_is_event.kp (b_is_event F_is_event) .nil pass0 (pa_cons (pv 1) pa_nil)))) pa_nil)))))))) (pss_one (ps_ret pe_bl)) pss_nil) (pss_one (ps_ret (pe_cmpR op_eq (pe_callB (cr_lenSetMK (P := P) (w := w) rfl rfl) (by rfl) S.z_len (by decide +kernel) (pa_cons (pe_callTy (cr_setLK (P := P) (w := w) (K := K) rfl rfl rfl rfl) (by rfl) S.z_set (by decide +kernel) (pa_cons (pe_lc (own := [("one", 1)]) (g := (gName 1)) (by rfl) sc_are_events.nd (pi_tupK (K := K) (pv 0)) (blkOk_by (own := [("one", 1)]) (N := N_are_events) (sc := (defScope sare_events)) (by decide +kernel)) (fun _ _ _ _ _ => (pg_name (i := 1) sc_are_events.nd rfl (Or.inl rfl))) (fun _ _ _ _ _ => pts_nil) (fun _ _ _ _ _ => (pe_ix (ix_tupK (K := K)) (pv 1) pe_int (fun _ _ => rfl)))) pa_nil)) pa_nil)) (pe_callB (call_lenqK (K := K)) (by rfl) S.z_len (by decide +kernel) (pa_cons (pv 0) pa_nil)) (nomark _))))))⟩
abbrev N_known_day : List Str := ["known"]
theorem sc_known_day : FnScope N_known_day ["known"] (defScope sknown_day) := ⟨rfl, rfl, rfl, by decide +kernel, rfl, by decide +kernel, by decide +kernel⟩
noncomputable def tm_known_day (S : Say K mg) {sp_is_day : Sp} {fd_is_day : FuncData} (F_is_day : Def K dis_day fd_is_day) (O_is_day : FnOk P w K mg base CX0 3 (He.fAd K dis_day.at_) fd_is_day ["thing"] sp_is_day) (f : Addr) (cdv : Value) (A : Around) (outer : List Env) (s : Shared) (H : Hp) (E : XK) (hr : Room 3 (A.deeper (envOfC dknown_day.qual (defScope sknown_day) s.heap.objs.size f cdv)))  : { t : TS // PSs (cxOf CX0 P w K mg base N_known_day dknown_day.qual (defScope sknown_day) f cdv A outer s H E) (defBody sknown_day) t } :=
  ⟨_, PSs.nox (by exact (pss_cons (ps_if (PW.pt (pw_and (pt_cmpR op_notN (pv 0) pe_non (nomark _)) (pw_and1 (pt_not (pt_val (pe_call O_is_day (hr.mono (by decide)) rfl S.g_is_day F_is_day.kp (b_is_day F_is_day) .nil pass0 (pa_cons (pv 0) pa_nil))))))) (pss_one ps_never) pss_nil) (pss_one (ps_ret (pe_ifExp (pt_cmpR op_isN (pv 0) pe_non (nomark _)) (pe_glob (v := .int (40000)) rfl (S.i_LAST_DAY).choose_spec ⟨_, rfl⟩) (pv 0))))))⟩
abbrev N_Book_init : List Str := ["self", "events", "rules"]
theorem sc_Book_init : FnScope N_Book_init ["self", "events", "rules"] (defScope sBook_init) := ⟨rfl, rfl, rfl, by decide +kernel, rfl, by decide +kernel, by decide +kernel⟩
noncomputable def tm_Book_init (S : Say K mg) {sp_are_events : Sp} {fd_are_events : FuncData} (F_are_events : Def K dare_events fd_are_events) (O_are_events : FnOk P w K mg base CX0 3 (He.fAd K dare_events.at_) fd_are_events ["thing"] sp_are_events) (f : Addr) (cdv : Value) (A : Around) (outer : List Env) (s : Shared) (H : Hp) (E : XK) (hr : Room 3 (A.deeper (envOfC dBook_init.qual (defScope sBook_init) s.heap.objs.size f cdv)))  : { t : TS // PSs (cxOf CX0 P w K mg base N_Book_init dBook_init.qual (defScope sBook_init) f cdv A outer s H E) (defBody sBook_init) t } :=
  ⟨_, PSs.nox (by exact (pss_cons (ps_if (pt_not (pt_val (pe_call O_are_events (hr.mono (by decide)) rfl S.g_are_events F_are_events.kp (b_are_events F_are_events) .nil pass0 (pa_cons (pv 1) pa_nil)))) (pss_one ps_never) pss_nil) (pss_cons (ps_if (PW.pt (pw_and (pt_cmpR op_notN (pv 2) pe_non (nomark _)) (pw_and1 (pt_not (pt_val (pe_callB (C8.call_isC S.q_Rules) (by rfl) S.z_isinstance (by decide +kernel) (pa_cons (pv 2) (pa_cons (pe_glob (v := .ref (He.ga K "Rules")) rfl S.g_Rules rfl) pa_nil)))))))) (pss_one ps_never) pss_nil) (pss_cons (ps_fld (pv 0) (pv 1) rfl) (pss_cons (ps_fld (pv 0) (pe_ifExp (pt_cmpR op_isN (pv 2) pe_non (nomark _)) pe_no (pv 2)) rfl) (pss_cons (ps_fld (pv 0) pe_dnewK rfl) (pss_cons (ps_fld (pv 0) (pe_tup pa_nil) rfl) (pss_cons (ps_fld (pv 0) (pe_tup pa_nil) rfl) (pss_one (ps_fld (pv 0) (pe_tup pa_nil) rfl))))))))))⟩
abbrev N_Book_len : List Str := ["self"]
theorem sc_Book_len : FnScope N_Book_len ["self"] (defScope sBook_len) := ⟨rfl, rfl, rfl, by decide +kernel, rfl, by decide +kernel, by decide +kernel⟩
noncomputable def tm_Book_len (S : Say K mg)  (f : Addr) (cdv : Value) (A : Around) (outer : List Env) (s : Shared) (H : Hp) (E : XK) (hr : Room 0 (A.deeper (envOfC dBook_len.qual (defScope sBook_len) s.heap.objs.size f cdv)))  : { t : TS // PSs (cxOf CX0 P w K mg base N_Book_len dBook_len.qual (defScope sBook_len) f cdv A outer s H E) (defBody sBook_len) t } :=
  ⟨_, PSs.nox (by exact (pss_one (ps_ret (pe_callB (call_lenqK (K := K)) (by rfl) S.z_len (by decide +kernel) (pa_cons (pe_fldK (K := K) (pv 0) rfl) pa_nil)))))⟩
abbrev N_Book_keep : List Str := ["self"]
theorem sc_Book_keep : FnScope N_Book_keep ["self"] (defScope sBook_keep) := ⟨rfl, rfl, rfl, by decide +kernel, rfl, by decide +kernel, by decide +kernel⟩
noncomputable def tm_Book_keep (S : Say K mg)  (f : Addr) (cdv : Value) (A : Around) (outer : List Env) (s : Shared) (H : Hp) (E : XK) (hr : Room 0 (A.deeper (envOfC dBook_keep.qual (defScope sBook_keep) s.heap.objs.size f cdv)))  : { t : TS // PSs (cxOf CX0 P w K mg base N_Book_keep dBook_keep.qual (defScope sBook_keep) f cdv A outer s H E) (defBody sBook_keep) t } :=
  ⟨_, PSs.nox (by exact (pss_one (ps_fld (pv 0) (pe_op (op_catAK (K := K)) (pe_fldK (K := K) (pv 0) rfl) (pe_tup (pa_cons (pe_tup (pa_cons (pe_callTy (call_dictD) (by rfl) S.z_dict (by decide +kernel) (pa_cons (pe_fldK (K := K) (pv 0) rfl) pa_nil)) (pa_cons (pe_fldK (K := K) (pv 0) rfl) (pa_cons (pe_fldK (K := K) (pv 0) rfl) pa_nil)))) pa_nil))) rfl)))⟩
abbrev N_Book_enrol : List Str := ["self", "person", "there"]
theorem sc_Book_enrol : FnScope N_Book_enrol ["self", "person"] (defScope sBook_enrol) := ⟨rfl, rfl, rfl, by decide +kernel, rfl, by decide +kernel, by decide +kernel⟩
noncomputable def tm_Book_enrol (S : Say K mg) {sp_Book_keep : Sp} {fd_Book_keep : FuncData} (F_Book_keep : Def K dBook_keep fd_Book_keep) (O_Book_keep : FnOk P w K mg base CX0 1 (He.fAd K dBook_keep.at_) fd_Book_keep ["self"] sp_Book_keep) (f : Addr) (cdv : Value) (A : Around) (outer : List Env) (s : Shared) (H : Hp) (E : XK) (hr : Room 1 (A.deeper (envOfC dBook_enrol.qual (defScope sBook_enrol) s.heap.objs.size f cdv)))  : { t : TS // PSs (cxOf CX0 P w K mg base N_Book_enrol dBook_enrol.qual (defScope sBook_enrol) f cdv A outer s H E) (defBody sBook_enrol) t } :=
  ⟨_, PSs.nox (by exact (pss_cons (ps_if (pt_not (pt_val (pe_callB (C8.call_isC S.q_Person) (by rfl) S.z_isinstance (by decide +kernel) (pa_cons (pv 1) (pa_cons (pe_glob (v := .ref (He.ga K "Person")) rfl S.g_Person rfl) pa_nil))))) (pss_one ps_never) pss_nil) (pss_cons (ps_set (i := 2) sc_Book_enrol.nd rfl (Or.inl rfl) (pe_dget1 (hu_of hr) (pe_fldK (K := K) (pv 0) rfl) (pe_fldK (K := K) (pv 1) rfl) ⟨rfl, rfl, rfl, rfl⟩)) (pss_cons (ps_if (pt_cmpR op_notN (pv 2) pe_non (nomark _)) (pss_cons ps_never (pss_one ps_never)) pss_nil) (pss_cons (ps_expr (pe_meth0 (pv 0) S.c_Book S.m_Book_keep O_Book_keep (hr.mono (by decide)) (b_Book_keep F_Book_keep) .nil pass0)) (pss_one (ps_dput (hu_of hr) (pe_fldK (K := K) (pv 0) rfl) (pe_fldK (K := K) (pv 1) rfl) (pv 1) rfl)))))))⟩
abbrev N_Book_event_of : List Str := ["self", "name", "event"]
theorem sc_Book_event_of : FnScope N_Book_event_of ["self", "name"] (defScope sBook_event_of) := ⟨rfl, rfl, rfl, by decide +kernel, rfl, by decide +kernel, by decide +kernel⟩
noncomputable def tm_Book_event_of (S : Say K mg) {sp_is_name : Sp} {fd_is_name : FuncData} (F_is_name : Def K dis_name fd_is_name) (O_is_name : FnOk P w K mg base CX0 1 (He.fAd K dis_name.at_) fd_is_name ["thing"] sp_is_name) (f : Addr) (cdv : Value) (A : Around) (outer : List Env) (s : Shared) (H : Hp) (E : XK) (hr : Room 1 (A.deeper (envOfC dBook_event_of.qual (defScope sBook_event_of) s.heap.objs.size f cdv)))  : { t : TS // PSs (cxOf CX0 P w K mg base N_Book_event_of dBook_event_of.qual (defScope sBook_event_of) f cdv A outer s H E) (defBody sBook_event_of) t } :=
  ⟨_, PSs.nox (by exact (pss_cons (ps_if (pt_val (pe_call O_is_name (hr.mono (by decide)) rfl S.g_is_name F_is_name.kp (b_is_name F_is_name) .nil pass0 (pa_cons (pv 1) pa_nil))) (pss_one (ps_for PassesOwn.never rfl (pi_tupK (K := K) (pe_fldK (K := K) (pv 0) rfl)) (pg_name (i := 2) sc_Book_event_of.nd rfl (Or.inl rfl)) (pss_one (ps_if (pt_cmpR op_eq (pe_ix (ix_tupK (K := K)) (pv 2) pe_int (fun _ _ => rfl)) (pv 1) (nomark _)) (pss_one (ps_ret (pv 2))) pss_nil)))) pss_nil) (pss_one ps_never)))⟩
abbrev N_Book_person_of : List Str := ["self", "name", "e"]
theorem sc_Book_person_of : FnScope N_Book_person_of ["self", "name"] (defScope sBook_person_of) := ⟨rfl, rfl, rfl, by decide +kernel, rfl, by decide +kernel, by decide +kernel⟩
noncomputable def tm_Book_person_of (S : Say K mg)  (f : Addr) (cdv : Value) (A : Around) (outer : List Env) (s : Shared) (H : Hp) (E : XK) (hr : Room 0 (A.deeper (envOfC dBook_person_of.qual (defScope sBook_person_of) s.heap.objs.size f cdv)))  : { t : TS // PSs (cxOf CX0 P w K mg base N_Book_person_of dBook_person_of.qual (defScope sBook_person_of) f cdv A outer s H E) (defBody sBook_person_of) t } :=
  ⟨_, PSs.nox (by exact (pss_one (ps_try_thru0 (pss_one (ps_ret (pe_dget (hu_of hr) (pe_fldK (K := K) (pv 0) rfl) (pv 1) (fun _ _ => rfl)))))))⟩
abbrev N_Book_need_told : List Str := ["self", "deed", "known", "day", "person", "one", "since"]
theorem sc_Book_need_told : FnScope N_Book_need_told ["self", "deed", "known"] (defScope sBook_need_told) := ⟨rfl, rfl, rfl, by decide +kernel, rfl, by decide +kernel, by decide +kernel⟩
noncomputable def tm_Book_need_told (S : Say K mg) {sp_is_day : Sp} {fd_is_day : FuncData} (F_is_day : Def K dis_day fd_is_day) (O_is_day : FnOk P w K mg base CX0 3 (He.fAd K dis_day.at_) fd_is_day ["thing"] sp_is_day) {sp_Deed_eq : Sp} {fd_Deed_eq : FuncData} (F_Deed_eq : Def K dDeed_eq fd_Deed_eq) (O_Deed_eq : FnOk P w K mg base CX0 2 (He.fAd K dDeed_eq.at_) fd_Deed_eq ["self", "other"] sp_Deed_eq) {sp_Book_event_of : Sp} {fd_Book_event_of : FuncData} (F_Book_event_of : Def K dBook_event_of fd_Book_event_of) (O_Book_event_of : FnOk P w K mg base CX0 2 (He.fAd K dBook_event_of.at_) fd_Book_event_of ["self", "name"] sp_Book_event_of) {sp_Book_person_of : Sp} {fd_Book_person_of : FuncData} (F_Book_person_of : Def K dBook_person_of fd_Book_person_of) (O_Book_person_of : FnOk P w K mg base CX0 1 (He.fAd K dBook_person_of.at_) fd_Book_person_of ["self", "name"] sp_Book_person_of) (f : Addr) (cdv : Value) (A : Around) (outer : List Env) (s : Shared) (H : Hp) (E : XK) (hr : Room 3 (A.deeper (envOfC dBook_need_told.qual (defScope sBook_need_told) s.heap.objs.size f cdv)))  : { t : TS // PSs (cxOf CX0 P w K mg base N_Book_need_told dBook_need_told.qual (defScope sBook_need_told) f cdv A outer s H E) (defBody sBook_need_told) t } :=
  ⟨_, PSs.nox (by exact (pss_cons (ps_if (pt_not (pt_val (pe_callB (C8.call_isC S.q_Deed) (by rfl) S.z_isinstance (by decide +kernel) (pa_cons (pv 1) (pa_cons (pe_glob (v := .ref (He.ga K "Deed")) rfl S.g_Deed rfl) pa_nil))))) (pss_one ps_never) pss_nil) (pss_cons (ps_set (i := 3) sc_Book_need_told.nd rfl (Or.inl rfl) (pe_ifExp (pt_cmpR op_isN (pv 2) pe_non (nomark _)) (pe_fldK (K := K) (pv 1) rfl) (pv 2))) (pss_cons (ps_if (PW.pt (pw_or (pt_not (pt_val (pe_call O_is_day (hr.mono (by decide)) rfl S.g_is_day F_is_day.kp (b_is_day F_is_day) .nil pass0 (pa_cons (pv 3) pa_nil)))) (pw_or1 (pt_cmpR op_lt (pv 3) (pe_fldK (K := K) (pv 1) rfl) (nomark _))))) (pss_one ps_never) pss_nil) (pss_cons (ps_set (i := 4) sc_Book_need_told.nd rfl (Or.inl rfl) (pe_meth (pv 0) S.c_Book S.m_Book_person_of O_Book_person_of (hr.mono (by decide)) (b_Book_person_of F_Book_person_of) .nil pass0 (pa_cons (pe_fldK (K := K) (pv 1) rfl) pa_nil))) (pss_cons (ps_expr (pe_meth (pv 0) S.c_Book S.m_Book_event_of O_Book_event_of (hr.mono (by decide)) (b_Book_event_of F_Book_event_of) .nil pass0 (pa_cons (pe_fldK (K := K) (pv 1) rfl) pa_nil))) (pss_cons (ps_if (pt_cmpR op_gt (pe_fldK (K := K) (pv 4) rfl) (pe_fldK (K := K) (pv 1) rfl) (nomark _)) (pss_one ps_never) pss_nil) (pss_cons (ps_if (pt_val (pe_callB (cr_anyK (K := K) rfl) (by rfl) S.z_any (by decide +kernel) (pa_cons (pe_lc (own := [("one", 5), ("since", 6)]) (g := (gTup K 2 (gCons (gName 5) (gCons (gName 6) gNil)))) (by rfl) sc_Book_need_told.nd (pi_tupK (K := K) (pe_fldK (K := K) (pv 0) rfl)) (blkOk_by (own := [("one", 5), ("since", 6)]) (N := N_Book_need_told) (sc := (defScope sBook_need_told)) (by decide +kernel)) (fun _ _ _ _ _ => (pg_tupK (K := K) rfl (pgs_cons (pg_name (i := 5) sc_Book_need_told.nd rfl (Or.inl rfl)) (pgs_cons (pg_name (i := 6) sc_Book_need_told.nd rfl (Or.inl rfl)) pgs_nil)))) (fun _ _ _ _ _ => pts_nil) (fun _ _ _ _ _ => (pe_cmpR (op_eqOwn O_Deed_eq S.m_Deed_eq.at_ S.m_Deed_eq.fn (b_Deed_eq F_Deed_eq) (hr.mono (by decide))) (pv 5) (pv 1) (nomark _)))) pa_nil))) (pss_one ps_never) pss_nil) (pss_one (ps_ret (pv 3)))))))))))⟩
abbrev N_Book_tell : List Str := ["self", "deed", "known", "day"]
theorem sc_Book_tell : FnScope N_Book_tell ["self", "deed", "known"] (defScope sBook_tell) := ⟨rfl, rfl, rfl, by decide +kernel, rfl, by decide +kernel, by decide +kernel⟩
noncomputable def tm_Book_tell (S : Say K mg) {sp_Book_keep : Sp} {fd_Book_keep : FuncData} (F_Book_keep : Def K dBook_keep fd_Book_keep) (O_Book_keep : FnOk P w K mg base CX0 1 (He.fAd K dBook_keep.at_) fd_Book_keep ["self"] sp_Book_keep) {sp_Book_need_told : Sp} {fd_Book_need_told : FuncData} (F_Book_need_told : Def K dBook_need_told fd_Book_need_told) (O_Book_need_told : FnOk P w K mg base CX0 4 (He.fAd K dBook_need_told.at_) fd_Book_need_told ["self", "deed", "known"] sp_Book_need_told) (f : Addr) (cdv : Value) (A : Around) (outer : List Env) (s : Shared) (H : Hp) (E : XK) (hr : Room 4 (A.deeper (envOfC dBook_tell.qual (defScope sBook_tell) s.heap.objs.size f cdv)))  : { t : TS // PSs (cxOf CX0 P w K mg base N_Book_tell dBook_tell.qual (defScope sBook_tell) f cdv A outer s H E) (defBody sBook_tell) t } :=
  ⟨_, PSs.nox (by exact (pss_cons (ps_set (i := 3) sc_Book_tell.nd rfl (Or.inl rfl) (pe_meth (pv 0) S.c_Book S.m_Book_need_told O_Book_need_told (hr.mono (by decide)) (b_Book_need_told F_Book_need_told) .nil pass0 (pa_cons (pv 1) (pa_cons (pv 2) pa_nil)))) (pss_cons (ps_if (pt_cmpR op_eq (pe_callB (call_lenqK (K := K)) (by rfl) S.z_len (by decide +kernel) (pa_cons (pe_fldK (K := K) (pv 0) rfl) pa_nil)) (pe_glob (v := .int (100)) rfl (S.i_MOST_DEEDS).choose_spec ⟨_, rfl⟩) (nomark _)) (pss_one ps_never) pss_nil) (pss_cons (ps_expr (pe_meth0 (pv 0) S.c_Book S.m_Book_keep O_Book_keep (hr.mono (by decide)) (b_Book_keep F_Book_keep) .nil pass0)) (pss_cons (ps_fld (pv 0) (pe_op (op_catAK (K := K)) (pe_fldK (K := K) (pv 0) rfl) (pe_tup (pa_cons (pe_tup (pa_cons (pv 1) (pa_cons (pv 3) pa_nil))) pa_nil))) rfl) (pss_one (ps_ret (pe_op op_sub (pe_callB (call_lenqK (K := K)) (by rfl) S.z_len (by decide +kernel) (pa_cons (pe_fldK (K := K) (pv 0) rfl) pa_nil)) pe_int))))))))⟩
abbrev N_Book_need_number : List Str := ["self", "number"]
theorem sc_Book_need_number : FnScope N_Book_need_number ["self", "number"] (defScope sBook_need_number) := ⟨rfl, rfl, rfl, by decide +kernel, rfl, by decide +kernel, by decide +kernel⟩
noncomputable def tm_Book_need_number (S : Say K mg) {sp_is_from : Sp} {fd_is_from : FuncData} (F_is_from : Def K dis_from fd_is_from) (O_is_from : FnOk P w K mg base CX0 2 (He.fAd K dis_from.at_) fd_is_from ["thing", "least", "most"] sp_is_from) (f : Addr) (cdv : Value) (A : Around) (outer : List Env) (s : Shared) (H : Hp) (E : XK) (hr : Room 2 (A.deeper (envOfC dBook_need_number.qual (defScope sBook_need_number) s.heap.objs.size f cdv)))  : { t : TS // PSs (cxOf CX0 P w K mg base N_Book_need_number dBook_need_number.qual (defScope sBook_need_number) f cdv A outer s H E) (defBody sBook_need_number) t } :=
  ⟨_, PSs.nox (by exact (pss_one (ps_if (pt_not (pt_val (pe_call O_is_from (hr.mono (by decide)) rfl S.g_is_from F_is_from.kp (b_is_from F_is_from) .nil pass0 (pa_cons (pv 1) (pa_cons pe_int (pa_cons (pe_op op_sub (pe_callB (call_lenqK (K := K)) (by rfl) S.z_len (by decide +kernel) (pa_cons (pe_fldK (K := K) (pv 0) rfl) pa_nil)) pe_int) pa_nil)))))) (pss_one ps_never) pss_nil)))⟩
abbrev N_Book_paper : List Str := ["self", "row"]
theorem sc_Book_paper : FnScope N_Book_paper ["self", "row"] (defScope sBook_paper) := ⟨rfl, rfl, rfl, by decide +kernel, rfl, by decide +kernel, by decide +kernel⟩
noncomputable def tm_Book_paper (S : Say K mg) {sp_is_day : Sp} {fd_is_day : FuncData} (F_is_day : Def K dis_day fd_is_day) (O_is_day : FnOk P w K mg base CX0 3 (He.fAd K dis_day.at_) fd_is_day ["thing"] sp_is_day) {sp_Book_keep : Sp} {fd_Book_keep : FuncData} (F_Book_keep : Def K dBook_keep fd_Book_keep) (O_Book_keep : FnOk P w K mg base CX0 1 (He.fAd K dBook_keep.at_) fd_Book_keep ["self"] sp_Book_keep) (f : Addr) (cdv : Value) (A : Around) (outer : List Env) (s : Shared) (H : Hp) (E : XK) (hr : Room 3 (A.deeper (envOfC dBook_paper.qual (defScope sBook_paper) s.heap.objs.size f cdv)))  : { t : TS // PSs (cxOf CX0 P w K mg base N_Book_paper dBook_paper.qual (defScope sBook_paper) f cdv A outer s H E) (defBody sBook_paper) t } :=
  ⟨_, PSs.nox (by exact (pss_cons (ps_if (pt_not (pt_val (pe_call O_is_day (hr.mono (by decide)) rfl S.g_is_day F_is_day.kp (b_is_day F_is_day) .nil pass0 (pa_cons (pe_ix (ix_tupK (K := K)) (pv 1) (pe_un un_neg pe_int) (fun _ _ => rfl)) pa_nil)))) (pss_one ps_never) pss_nil) (pss_cons (ps_expr (pe_meth0 (pv 0) S.c_Book S.m_Book_keep O_Book_keep (hr.mono (by decide)) (b_Book_keep F_Book_keep) .nil pass0)) (pss_one (ps_fld (pv 0) (pe_op (op_catAK (K := K)) (pe_fldK (K := K) (pv 0) rfl) (pe_tup (pa_cons (pv 1) pa_nil))) rfl)))))⟩
abbrev N_Book_strike : List Str := ["self", "number", "known"]
theorem sc_Book_strike : FnScope N_Book_strike ["self", "number", "known"] (defScope sBook_strike) := ⟨rfl, rfl, rfl, by decide +kernel, rfl, by decide +kernel, by decide +kernel⟩
noncomputable def tm_Book_strike (S : Say K mg) {sp_Book_need_number : Sp} {fd_Book_need_number : FuncData} (F_Book_need_number : Def K dBook_need_number fd_Book_need_number) (O_Book_need_number : FnOk P w K mg base CX0 3 (He.fAd K dBook_need_number.at_) fd_Book_need_number ["self", "number"] sp_Book_need_number) {sp_Book_paper : Sp} {fd_Book_paper : FuncData} (F_Book_paper : Def K dBook_paper fd_Book_paper) (O_Book_paper : FnOk P w K mg base CX0 4 (He.fAd K dBook_paper.at_) fd_Book_paper ["self", "row"] sp_Book_paper) (f : Addr) (cdv : Value) (A : Around) (outer : List Env) (s : Shared) (H : Hp) (E : XK) (hr : Room 4 (A.deeper (envOfC dBook_strike.qual (defScope sBook_strike) s.heap.objs.size f cdv)))  : { t : TS // PSs (cxOf CX0 P w K mg base N_Book_strike dBook_strike.qual (defScope sBook_strike) f cdv A outer s H E) (defBody sBook_strike) t } :=
  ⟨_, PSs.nox (by exact (pss_cons (ps_expr (pe_meth (pv 0) S.c_Book S.m_Book_need_number O_Book_need_number (hr.mono (by decide)) (b_Book_need_number F_Book_need_number) .nil pass0 (pa_cons (pv 1) pa_nil))) (pss_one (ps_expr (pe_meth (pv 0) S.c_Book S.m_Book_paper O_Book_paper (hr.mono (by decide)) (b_Book_paper F_Book_paper) .nil pass0 (pa_cons (pe_tup (pa_cons pe_str (pa_cons (pv 1) (pa_cons (pv 2) pa_nil)))) pa_nil))))))⟩
abbrev N_Book_restore : List Str := ["self", "number", "known"]
theorem sc_Book_restore : FnScope N_Book_restore ["self", "number", "known"] (defScope sBook_restore) := ⟨rfl, rfl, rfl, by decide +kernel, rfl, by decide +kernel, by decide +kernel⟩
noncomputable def tm_Book_restore (S : Say K mg) {sp_Book_need_number : Sp} {fd_Book_need_number : FuncData} (F_Book_need_number : Def K dBook_need_number fd_Book_need_number) (O_Book_need_number : FnOk P w K mg base CX0 3 (He.fAd K dBook_need_number.at_) fd_Book_need_number ["self", "number"] sp_Book_need_number) {sp_Book_paper : Sp} {fd_Book_paper : FuncData} (F_Book_paper : Def K dBook_paper fd_Book_paper) (O_Book_paper : FnOk P w K mg base CX0 4 (He.fAd K dBook_paper.at_) fd_Book_paper ["self", "row"] sp_Book_paper) (f : Addr) (cdv : Value) (A : Around) (outer : List Env) (s : Shared) (H : Hp) (E : XK) (hr : Room 4 (A.deeper (envOfC dBook_restore.qual (defScope sBook_restore) s.heap.objs.size f cdv)))  : { t : TS // PSs (cxOf CX0 P w K mg base N_Book_restore dBook_restore.qual (defScope sBook_restore) f cdv A outer s H E) (defBody sBook_restore) t } :=
  ⟨_, PSs.nox (by exact (pss_cons (ps_expr (pe_meth (pv 0) S.c_Book S.m_Book_need_number O_Book_need_number (hr.mono (by decide)) (b_Book_need_number F_Book_need_number) .nil pass0 (pa_cons (pv 1) pa_nil))) (pss_one (ps_expr (pe_meth (pv 0) S.c_Book S.m_Book_paper O_Book_paper (hr.mono (by decide)) (b_Book_paper F_Book_paper) .nil pass0 (pa_cons (pe_tup (pa_cons pe_str (pa_cons (pv 1) (pa_cons (pv 2) pa_nil)))) pa_nil))))))⟩
abbrev N_Book_measure : List Str := ["self", "course", "since", "till", "known"]
theorem sc_Book_measure : FnScope N_Book_measure ["self", "course", "since", "till", "known"] (defScope sBook_measure) := ⟨rfl, rfl, rfl, by decide +kernel, rfl, by decide +kernel, by decide +kernel⟩
noncomputable def tm_Book_measure (S : Say K mg) {sp_is_name : Sp} {fd_is_name : FuncData} (F_is_name : Def K dis_name fd_is_name) (O_is_name : FnOk P w K mg base CX0 1 (He.fAd K dis_name.at_) fd_is_name ["thing"] sp_is_name) {sp_is_day : Sp} {fd_is_day : FuncData} (F_is_day : Def K dis_day fd_is_day) (O_is_day : FnOk P w K mg base CX0 3 (He.fAd K dis_day.at_) fd_is_day ["thing"] sp_is_day) {sp_Book_paper : Sp} {fd_Book_paper : FuncData} (F_Book_paper : Def K dBook_paper fd_Book_paper) (O_Book_paper : FnOk P w K mg base CX0 4 (He.fAd K dBook_paper.at_) fd_Book_paper ["self", "row"] sp_Book_paper) (f : Addr) (cdv : Value) (A : Around) (outer : List Env) (s : Shared) (H : Hp) (E : XK) (hr : Room 4 (A.deeper (envOfC dBook_measure.qual (defScope sBook_measure) s.heap.objs.size f cdv)))  : { t : TS // PSs (cxOf CX0 P w K mg base N_Book_measure dBook_measure.qual (defScope sBook_measure) f cdv A outer s H E) (defBody sBook_measure) t } :=
  ⟨_, PSs.nox (by exact (pss_cons (ps_if (pt_not (pt_val (pe_call O_is_name (hr.mono (by decide)) rfl S.g_is_name F_is_name.kp (b_is_name F_is_name) .nil pass0 (pa_cons (pv 1) pa_nil)))) (pss_one ps_never) pss_nil) (pss_cons (ps_if (PW.pt (pw_or (pt_not (pt_val (pe_call O_is_day (hr.mono (by decide)) rfl S.g_is_day F_is_day.kp (b_is_day F_is_day) .nil pass0 (pa_cons (pv 2) pa_nil)))) (pw_or (pt_not (pt_val (pe_call O_is_day (hr.mono (by decide)) rfl S.g_is_day F_is_day.kp (b_is_day F_is_day) .nil pass0 (pa_cons (pv 3) pa_nil)))) (pw_or (pt_not (pt_val (pe_call O_is_day (hr.mono (by decide)) rfl S.g_is_day F_is_day.kp (b_is_day F_is_day) .nil pass0 (pa_cons (pv 4) pa_nil)))) (pw_or1 (pt_cmpR op_lt (pv 3) (pv 2) (nomark _))))))) (pss_one ps_never) pss_nil) (pss_one (ps_expr (pe_meth (pv 0) S.c_Book S.m_Book_paper O_Book_paper (hr.mono (by decide)) (b_Book_paper F_Book_paper) .nil pass0 (pa_cons (pe_tup (pa_cons pe_str (pa_cons (pv 1) (pa_cons (pv 2) (pa_cons (pv 3) (pa_cons (pv 4) pa_nil)))))) pa_nil)))))))⟩
abbrev N_Book_uphold : List Str := ["self", "course", "known"]
theorem sc_Book_uphold : FnScope N_Book_uphold ["self", "course", "known"] (defScope sBook_uphold) := ⟨rfl, rfl, rfl, by decide +kernel, rfl, by decide +kernel, by decide +kernel⟩
noncomputable def tm_Book_uphold (S : Say K mg) {sp_is_name : Sp} {fd_is_name : FuncData} (F_is_name : Def K dis_name fd_is_name) (O_is_name : FnOk P w K mg base CX0 1 (He.fAd K dis_name.at_) fd_is_name ["thing"] sp_is_name) {sp_Book_paper : Sp} {fd_Book_paper : FuncData} (F_Book_paper : Def K dBook_paper fd_Book_paper) (O_Book_paper : FnOk P w K mg base CX0 4 (He.fAd K dBook_paper.at_) fd_Book_paper ["self", "row"] sp_Book_paper) (f : Addr) (cdv : Value) (A : Around) (outer : List Env) (s : Shared) (H : Hp) (E : XK) (hr : Room 4 (A.deeper (envOfC dBook_uphold.qual (defScope sBook_uphold) s.heap.objs.size f cdv)))  : { t : TS // PSs (cxOf CX0 P w K mg base N_Book_uphold dBook_uphold.qual (defScope sBook_uphold) f cdv A outer s H E) (defBody sBook_uphold) t } :=
  ⟨_, PSs.nox (by exact (pss_cons (ps_if (pt_not (pt_val (pe_call O_is_name (hr.mono (by decide)) rfl S.g_is_name F_is_name.kp (b_is_name F_is_name) .nil pass0 (pa_cons (pv 1) pa_nil)))) (pss_one ps_never) pss_nil) (pss_one (ps_expr (pe_meth (pv 0) S.c_Book S.m_Book_paper O_Book_paper (hr.mono (by decide)) (b_Book_paper F_Book_paper) .nil pass0 (pa_cons (pe_tup (pa_cons pe_str (pa_cons (pv 1) (pa_cons (pv 2) pa_nil)))) pa_nil))))))⟩
abbrev N_Book_papers_by : List Str := ["self", "known", "some", "row"]
theorem sc_Book_papers_by : FnScope N_Book_papers_by ["self", "known"] (defScope sBook_papers_by) := ⟨rfl, rfl, rfl, by decide +kernel, rfl, by decide +kernel, by decide +kernel⟩
noncomputable def tm_Book_papers_by (S : Say K mg)  (f : Addr) (cdv : Value) (A : Around) (outer : List Env) (s : Shared) (H : Hp) (E : XK) (hr : Room 3 (A.deeper (envOfC dBook_papers_by.qual (defScope sBook_papers_by) s.heap.objs.size f cdv))) (TB : TabB base mg (cC K "papers_by") (cP K "papers_by")) (hcode : cdv = .ref (cC K "papers_by")) (hd : cP K "papers_by" ≠ cP K "runners") : { t : TS // PSs (cxOf CX0 P w K mg base N_Book_papers_by dBook_papers_by.qual (defScope sBook_papers_by) f cdv A outer s H E) (defBody sBook_papers_by) t } :=
  ⟨_, PSs.nox (by exact (pss_cons (ps_setLc (i := 2) (own := [("row", 3)]) (g := (gName 3)) (by rfl) sc_Book_papers_by.nd rfl rfl (sw_true rfl rfl rfl (by decide +kernel)) (pi_tupK (K := K) (pe_fldK (K := K) (pv 0) rfl)) (blkOk_by (own := [("row", 3)]) (N := N_Book_papers_by) (sc := (defScope sBook_papers_by)) (by decide +kernel)) (fun _ _ _ _ _ => (pg_name (i := 3) sc_Book_papers_by.nd rfl (Or.inl rfl))) (fun _ _ _ _ _ => (pts_one (pt_cmpR op_le (pe_ix (ix_tupK (K := K)) (pv 3) (pe_un un_neg pe_int) (fun _ _ => rfl)) (pv 1) (nomark _)))) (fun _ _ _ _ _ => (pv 3))) (pss_one (ps_ret (pe_sortLamK (K := K) (T := TTk K) (c := cC K "papers_by") (P := cP K "papers_by") (N := ["row"]) (ps := ["row"]) (fr := []) (js := []) (k := 0) (by rfl) S.z_sorted TB rfl hcode (by rfl) (tt_papers_by K) (tt_papers_by' K hd) (hr.mono (by decide)) rfl ⟨rfl, rfl, rfl, by decide +kernel, rfl, by decide +kernel, by decide +kernel, by decide +kernel, by decide +kernel⟩ rfl (hfree_of (sc := defScope sBook_papers_by) rfl (by decide +kernel)) (by decide +kernel) rfl (fun _ _ _ _ _ us hl => match us, hl with | [_], _ => rfl) (pv 2) (fun A outer s H q cl f c' hr' => (pe_ix (ix_tupK (K := K)) (pv 0) (pe_un un_neg pe_int) (fun _ _ => rfl))))))))⟩
abbrev N_Book_word_of : List Str := ["self", "number", "known", "deed", "since", "out", "wrong", "row", "windy"]
theorem sc_Book_word_of : FnScope N_Book_word_of ["self", "number", "known"] (defScope sBook_word_of) := ⟨rfl, rfl, rfl, by decide +kernel, rfl, by decide +kernel, by decide +kernel⟩
noncomputable def tm_Book_word_of (S : Say K mg) {sp_Book_event_of : Sp} {fd_Book_event_of : FuncData} (F_Book_event_of : Def K dBook_event_of fd_Book_event_of) (O_Book_event_of : FnOk P w K mg base CX0 2 (He.fAd K dBook_event_of.at_) fd_Book_event_of ["self", "name"] sp_Book_event_of) {sp_Book_papers_by : Sp} {fd_Book_papers_by : FuncData} (F_Book_papers_by : Def K dBook_papers_by fd_Book_papers_by) (O_Book_papers_by : FnOk P w K mg base CX0 4 (He.fAd K dBook_papers_by.at_) fd_Book_papers_by ["self", "known"] sp_Book_papers_by) (f : Addr) (cdv : Value) (A : Around) (outer : List Env) (s : Shared) (H : Hp) (E : XK) (hr : Room 4 (A.deeper (envOfC dBook_word_of.qual (defScope sBook_word_of) s.heap.objs.size f cdv)))  : { t : TS // PSs (cxOf CX0 P w K mg base N_Book_word_of dBook_word_of.qual (defScope sBook_word_of) f cdv A outer s H E) (defBody sBook_word_of) t } :=
  ⟨_, PSs.nox (by exact (pss_cons (ps_asg (pe_ix (ix_tupK (K := K)) (pe_fldK (K := K) (pv 0) rfl) (pv 1) (fun _ _ => rfl)) (pg_tupK (K := K) rfl (pgs_cons (pg_name (i := 3) sc_Book_word_of.nd rfl (Or.inl rfl)) (pgs_cons (pg_name (i := 4) sc_Book_word_of.nd rfl (Or.inl rfl)) pgs_nil)))) (pss_cons (ps_if (pt_cmpR op_gt (pv 4) (pv 2) (nomark _)) (pss_one (ps_ret pe_str)) pss_nil) (pss_cons (ps_par (i := 5) (j := 6) (by rfl) sc_Book_word_of.nd rfl rfl (by decide) rfl rfl (pa_cons pe_bl (pa_cons (pe_lst pa_nil) pa_nil)) (by rfl)) (pss_cons (ps_for PassesOwn.never rfl (pi_listK (K := K) (pe_meth (pv 0) S.c_Book S.m_Book_papers_by O_Book_papers_by (hr.mono (by decide)) (b_Book_papers_by F_Book_papers_by) .nil pass0 (pa_cons (pv 2) pa_nil))) (pg_name (i := 7) sc_Book_word_of.nd rfl (Or.inl rfl)) (pss_one (ps_if (PW.pt (pw_and (pt_cmpR (op_inK (K := K)) (pe_ix (ix_tupK (K := K)) (pv 7) pe_int (fun _ _ => rfl)) (pe_tup (pa_cons pe_str (pa_cons pe_str pa_nil))) (by rfl)) (pw_and1 (pt_cmpR op_eq (pe_ix (ix_tupK (K := K)) (pv 7) pe_int (fun _ _ => rfl)) (pv 1) (nomark _))))) (pss_one (ps_set (i := 5) sc_Book_word_of.nd rfl (Or.inl rfl) (pe_cmpR op_eq (pe_ix (ix_tupK (K := K)) (pv 7) pe_int (fun _ _ => rfl)) pe_str (nomark _)))) (pss_one (ps_if (PW.pt (pw_and (pt_cmpR op_eq (pe_ix (ix_tupK (K := K)) (pv 7) pe_int (fun _ _ => rfl)) pe_str (nomark _)) (pw_and1 (pt_cmpR op_eq (pe_ix (ix_tupK (K := K)) (pv 7) pe_int (fun _ _ => rfl)) (pe_fldK (K := K) (pv 3) rfl) (nomark _))))) (pss_one (ps_expr (pe_bmK (K := K) PySem.F.plainAttrs_list PySem.F.slot_list_append PySem.F.type_list_append mt_append (pv 6) (pa_cons (pe_chain op_le op_le (pe_ix (ix_tupK (K := K)) (pv 7) pe_int (fun _ _ => rfl)) (pe_fldK (K := K) (pv 3) rfl) (pe_ix (ix_tupK (K := K)) (pv 7) pe_int (fun _ _ => rfl))) pa_nil)))) (pss_one (ps_if (PW.pt (pw_and (pt_cmpR op_eq (pe_ix (ix_tupK (K := K)) (pv 7) pe_int (fun _ _ => rfl)) pe_str (nomark _)) (pw_and1 (pt_cmpR op_eq (pe_ix (ix_tupK (K := K)) (pv 7) pe_int (fun _ _ => rfl)) (pe_fldK (K := K) (pv 3) rfl) (nomark _))))) (pss_one (ps_set (i := 6) sc_Book_word_of.nd rfl (Or.inl rfl) (pe_lst pa_nil))) pss_nil))))))) (pss_cons (ps_if (pt_val (pv 5)) (pss_one (ps_ret pe_str)) pss_nil) (pss_cons (ps_if (pt_val (pe_callB (cr_anyK (K := K) rfl) (by rfl) S.z_any (by decide +kernel) (pa_cons (pv 6) pa_nil))) (pss_one (ps_ret pe_str)) pss_nil) (pss_cons (ps_set (i := 8) sc_Book_word_of.nd rfl (Or.inl rfl) (pe_and (pe_ix (ix_tupK (K := K)) (pe_meth (pv 0) S.c_Book S.m_Book_event_of O_Book_event_of (hr.mono (by decide)) (b_Book_event_of F_Book_event_of) .nil pass0 (pa_cons (pe_fldK (K := K) (pv 3) rfl) pa_nil)) pe_int (fun _ _ => rfl)) (pe_one (pe_cmpR op_gt (pe_fldK (K := K) (pv 3) rfl) (pe_fldK (K := K) (pe_fldK (K := K) (pv 0) rfl) rfl) (nomark _))))) (pss_one (ps_ret (pe_ifExp (pt_val (pv 8)) pe_str pe_str)))))))))))⟩
abbrev N_Book_state : List Str := ["self", "number", "known"]
theorem sc_Book_state : FnScope N_Book_state ["self", "number", "known"] (defScope sBook_state) := ⟨rfl, rfl, rfl, by decide +kernel, rfl, by decide +kernel, by decide +kernel⟩
noncomputable def tm_Book_state (S : Say K mg) {sp_known_day : Sp} {fd_known_day : FuncData} (F_known_day : Def K dknown_day fd_known_day) (O_known_day : FnOk P w K mg base CX0 4 (He.fAd K dknown_day.at_) fd_known_day ["known"] sp_known_day) {sp_Book_need_number : Sp} {fd_Book_need_number : FuncData} (F_Book_need_number : Def K dBook_need_number fd_Book_need_number) (O_Book_need_number : FnOk P w K mg base CX0 3 (He.fAd K dBook_need_number.at_) fd_Book_need_number ["self", "number"] sp_Book_need_number) {sp_Book_word_of : Sp} {fd_Book_word_of : FuncData} (F_Book_word_of : Def K dBook_word_of fd_Book_word_of) (O_Book_word_of : FnOk P w K mg base CX0 5 (He.fAd K dBook_word_of.at_) fd_Book_word_of ["self", "number", "known"] sp_Book_word_of) (f : Addr) (cdv : Value) (A : Around) (outer : List Env) (s : Shared) (H : Hp) (E : XK) (hr : Room 5 (A.deeper (envOfC dBook_state.qual (defScope sBook_state) s.heap.objs.size f cdv)))  : { t : TS // PSs (cxOf CX0 P w K mg base N_Book_state dBook_state.qual (defScope sBook_state) f cdv A outer s H E) (defBody sBook_state) t } :=
  ⟨_, PSs.nox (by exact (pss_cons (ps_expr (pe_meth (pv 0) S.c_Book S.m_Book_need_number O_Book_need_number (hr.mono (by decide)) (b_Book_need_number F_Book_need_number) .nil pass0 (pa_cons (pv 1) pa_nil))) (pss_one (ps_ret (pe_meth (pv 0) S.c_Book S.m_Book_word_of O_Book_word_of (hr.mono (by decide)) (b_Book_word_of F_Book_word_of) .nil pass0 (pa_cons (pv 1) (pa_cons (pe_call O_known_day (hr.mono (by decide)) rfl S.g_known_day F_known_day.kp (b_known_day F_known_day) .nil pass0 (pa_cons (pv 2) pa_nil)) pa_nil)))))))⟩
abbrev N_Book_need_best : List Str := ["self", "event", "group", "place"]
theorem sc_Book_need_best : FnScope N_Book_need_best ["self", "event", "group", "place"] (defScope sBook_need_best) := ⟨rfl, rfl, rfl, by decide +kernel, rfl, by decide +kernel, by decide +kernel⟩
noncomputable def tm_Book_need_best (S : Say K mg) {sp_is_from : Sp} {fd_is_from : FuncData} (F_is_from : Def K dis_from fd_is_from) (O_is_from : FnOk P w K mg base CX0 2 (He.fAd K dis_from.at_) fd_is_from ["thing", "least", "most"] sp_is_from) {sp_is_name : Sp} {fd_is_name : FuncData} (F_is_name : Def K dis_name fd_is_name) (O_is_name : FnOk P w K mg base CX0 1 (He.fAd K dis_name.at_) fd_is_name ["thing"] sp_is_name) {sp_Rules_len : Sp} {fd_Rules_len : FuncData} (F_Rules_len : Def K dRules_len fd_Rules_len) (O_Rules_len : FnOk P w K mg base CX0 1 (He.fAd K dRules_len.at_) fd_Rules_len ["self"] sp_Rules_len) {sp_Book_event_of : Sp} {fd_Book_event_of : FuncData} (F_Book_event_of : Def K dBook_event_of fd_Book_event_of) (O_Book_event_of : FnOk P w K mg base CX0 2 (He.fAd K dBook_event_of.at_) fd_Book_event_of ["self", "name"] sp_Book_event_of) (f : Addr) (cdv : Value) (A : Around) (outer : List Env) (s : Shared) (H : Hp) (E : XK) (hr : Room 2 (A.deeper (envOfC dBook_need_best.qual (defScope sBook_need_best) s.heap.objs.size f cdv)))  : { t : TS // PSs (cxOf CX0 P w K mg base N_Book_need_best dBook_need_best.qual (defScope sBook_need_best) f cdv A outer s H E) (defBody sBook_need_best) t } :=
  ⟨_, PSs.nox (by exact (pss_cons (ps_expr (pe_meth (pv 0) S.c_Book S.m_Book_event_of O_Book_event_of (hr.mono (by decide)) (b_Book_event_of F_Book_event_of) .nil pass0 (pa_cons (pv 1) pa_nil))) (pss_cons (ps_if (PW.pt (pw_and (pt_cmpR op_notN (pv 2) pe_non (nomark _)) (pw_and1 (pt_not (pt_val (pe_call O_is_name (hr.mono (by decide)) rfl S.g_is_name F_is_name.kp (b_is_name F_is_name) .nil pass0 (pa_cons (pv 2) pa_nil))))))) (pss_one ps_never) pss_nil) (pss_cons (ps_if (PW.pt (pw_and (pt_cmpR op_notN (pv 3) pe_non (nomark _)) (pw_and1 (pt_not (pt_val (pe_call O_is_from (hr.mono (by decide)) rfl S.g_is_from F_is_from.kp (b_is_from F_is_from) .nil pass0 (pa_cons (pv 3) (pa_cons pe_int (pa_cons (pe_op op_sub (pe_callB (cr_lenOwn O_Rules_len S.m_Rules_len.at_ S.m_Rules_len.fn (b_Rules_len F_Rules_len) (hr.mono (by decide))) (by rfl) S.z_len (by decide +kernel) (pa_cons (pe_fldK (K := K) (pv 0) rfl) pa_nil)) pe_int) pa_nil))))))))) (pss_one ps_never) pss_nil) (pss_one (ps_ret (pe_ifExp (pt_cmpR op_isN (pv 3) pe_non (nomark _)) (pe_op op_sub (pe_callB (cr_lenOwn O_Rules_len S.m_Rules_len.at_ S.m_Rules_len.fn (b_Rules_len F_Rules_len) (hr.mono (by decide))) (by rfl) S.z_len (by decide +kernel) (pa_cons (pe_fldK (K := K) (pv 0) rfl) pa_nil)) pe_int) (pv 3))))))))⟩
abbrev N_Book_counts : List Str := ["self", "number", "best", "event", "group", "place", "deed", "person"]
theorem sc_Book_counts : FnScope N_Book_counts ["self", "number", "best"] (defScope sBook_counts) := ⟨rfl, rfl, rfl, by decide +kernel, rfl, by decide +kernel, by decide +kernel⟩
noncomputable def tm_Book_counts (S : Say K mg) {sp_Rules_classes_in : Sp} {fd_Rules_classes_in : FuncData} (F_Rules_classes_in : Def K dRules_classes_in fd_Rules_classes_in) (O_Rules_classes_in : FnOk P w K mg base CX0 1 (He.fAd K dRules_classes_in.at_) fd_Rules_classes_in ["self", "age"] sp_Rules_classes_in) {sp_Person_age_at : Sp} {fd_Person_age_at : FuncData} (F_Person_age_at : Def K dPerson_age_at fd_Person_age_at) (O_Person_age_at : FnOk P w K mg base CX0 1 (He.fAd K dPerson_age_at.at_) fd_Person_age_at ["self", "day"] sp_Person_age_at) {sp_Book_person_of : Sp} {fd_Book_person_of : FuncData} (F_Book_person_of : Def K dBook_person_of fd_Book_person_of) (O_Book_person_of : FnOk P w K mg base CX0 1 (He.fAd K dBook_person_of.at_) fd_Book_person_of ["self", "name"] sp_Book_person_of) (f : Addr) (cdv : Value) (A : Around) (outer : List Env) (s : Shared) (H : Hp) (E : XK) (hr : Room 1 (A.deeper (envOfC dBook_counts.qual (defScope sBook_counts) s.heap.objs.size f cdv)))  : { t : TS // PSs (cxOf CX0 P w K mg base N_Book_counts dBook_counts.qual (defScope sBook_counts) f cdv A outer s H E) (defBody sBook_counts) t } :=
  ⟨_, PSs.nox (by exact (pss_cons (ps_asg (pv 2) (pg_tupK (K := K) rfl (pgs_cons (pg_name (i := 3) sc_Book_counts.nd rfl (Or.inl rfl)) (pgs_cons (pg_name (i := 4) sc_Book_counts.nd rfl (Or.inl rfl)) (pgs_cons (pg_name (i := 5) sc_Book_counts.nd rfl (Or.inl rfl)) pgs_nil))))) (pss_cons (ps_set (i := 6) sc_Book_counts.nd rfl (Or.inl rfl) (pe_ix (ix_tupK (K := K)) (pe_ix (ix_tupK (K := K)) (pe_fldK (K := K) (pv 0) rfl) (pv 1) (fun _ _ => rfl)) pe_int (fun _ _ => rfl))) (pss_cons (ps_set (i := 7) sc_Book_counts.nd rfl (Or.inl rfl) (pe_meth (pv 0) S.c_Book S.m_Book_person_of O_Book_person_of (hr.mono (by decide)) (b_Book_person_of F_Book_person_of) .nil pass0 (pa_cons (pe_fldK (K := K) (pv 6) rfl) pa_nil))) (pss_cons (ps_if (PW.pt (pw_or (pt_cmpR op_ne (pe_fldK (K := K) (pv 6) rfl) (pv 3) (nomark _)) (pw_or1 (PW.pt (pw_and (pt_cmpR op_notN (pv 4) pe_non (nomark _)) (pw_and1 (pt_cmpR op_ne (pe_fldK (K := K) (pv 7) rfl) (pv 4) (nomark _)))))))) (pss_one (ps_ret pe_bl)) pss_nil) (pss_one (ps_ret (pe_cmpR (op_inK (K := K)) (pv 5) (pe_meth (pe_fldK (K := K) (pv 0) rfl) S.c_Rules S.m_Rules_classes_in O_Rules_classes_in (hr.mono (by decide)) (b_Rules_classes_in F_Rules_classes_in) .nil pass0 (pa_cons (pe_meth (pv 7) S.c_Person S.m_Person_age_at O_Person_age_at (hr.mono (by decide)) (b_Person_age_at F_Person_age_at) .nil pass0 (pa_cons (pe_fldK (K := K) (pv 6) rfl) pa_nil)) pa_nil)) (by rfl)))))))))⟩
abbrev N_Book_runners : List Str := ["self", "best", "known", "some", "number"]
theorem sc_Book_runners : FnScope N_Book_runners ["self", "best", "known"] (defScope sBook_runners) := ⟨rfl, rfl, rfl, by decide +kernel, rfl, by decide +kernel, by decide +kernel⟩
noncomputable def tm_Book_runners (S : Say K mg) {sp_Deed_time : Sp} {fd_Deed_time : FuncData} (F_Deed_time : Def K dDeed_time fd_Deed_time) (O_Deed_time : FnOk P w K mg base CX0 1 (He.fAd K dDeed_time.at_) fd_Deed_time ["self"] sp_Deed_time) {sp_Book_word_of : Sp} {fd_Book_word_of : FuncData} (F_Book_word_of : Def K dBook_word_of fd_Book_word_of) (O_Book_word_of : FnOk P w K mg base CX0 5 (He.fAd K dBook_word_of.at_) fd_Book_word_of ["self", "number", "known"] sp_Book_word_of) {sp_Book_counts : Sp} {fd_Book_counts : FuncData} (F_Book_counts : Def K dBook_counts fd_Book_counts) (O_Book_counts : FnOk P w K mg base CX0 2 (He.fAd K dBook_counts.at_) fd_Book_counts ["self", "number", "best"] sp_Book_counts) (f : Addr) (cdv : Value) (A : Around) (outer : List Env) (s : Shared) (H : Hp) (E : XK) (hr : Room 5 (A.deeper (envOfC dBook_runners.qual (defScope sBook_runners) s.heap.objs.size f cdv))) (TB : TabB base mg (cC K "runners") (cP K "runners")) (hcode : cdv = .ref (cC K "runners")) (hd : cP K "papers_by" ≠ cP K "runners") : { t : TS // PSs (cxOf CX0 P w K mg base N_Book_runners dBook_runners.qual (defScope sBook_runners) f cdv A outer s H E) (defBody sBook_runners) t } :=
  ⟨_, PSs.nox (by exact (pss_cons (ps_setLc (i := 3) (own := [("number", 4)]) (g := (gName 4)) (by rfl) sc_Book_runners.nd rfl rfl (sw_true rfl rfl rfl (by decide +kernel)) (pi_range1 (by rfl) S.z_range (pa_cons (pe_callB (call_lenqK (K := K)) (by rfl) S.z_len (by decide +kernel) (pa_cons (pe_fldK (K := K) (pv 0) rfl) pa_nil)) pa_nil)) (blkOk_by (own := [("number", 4)]) (N := N_Book_runners) (sc := (defScope sBook_runners)) (by decide +kernel)) (fun _ _ _ _ _ => (pg_name (i := 4) sc_Book_runners.nd rfl (Or.inl rfl))) (fun _ _ _ _ _ => (pts_one (pt_val (pe_meth (pv 0) S.c_Book S.m_Book_counts O_Book_counts (hr.mono (by decide)) (b_Book_counts F_Book_counts) .nil pass0 (pa_cons (pv 4) (pa_cons (pv 1) pa_nil)))))) (fun _ _ _ _ _ => (pv 4))) (pss_cons (ps_setLc (i := 3) (own := [("number", 4)]) (g := (gName 4)) (by rfl) sc_Book_runners.nd rfl rfl (sw_true rfl rfl rfl (by decide +kernel)) (pi_listK (K := K) (pv 3)) (blkOk_by (own := [("number", 4)]) (N := N_Book_runners) (sc := (defScope sBook_runners)) (by decide +kernel)) (fun _ _ _ _ _ => (pg_name (i := 4) sc_Book_runners.nd rfl (Or.inl rfl))) (fun _ _ _ _ _ => (pts_one (pt_cmpR op_eq (pe_meth (pv 0) S.c_Book S.m_Book_word_of O_Book_word_of (hr.mono (by decide)) (b_Book_word_of F_Book_word_of) .nil pass0 (pa_cons (pv 4) (pa_cons (pv 2) pa_nil))) pe_str (nomark _)))) (fun _ _ _ _ _ => (pv 4))) (pss_one (ps_ret (pe_sortLamK (K := K) (T := TTk K) (c := cC K "runners") (P := cP K "runners") (N := ["number", "self"]) (ps := ["number"]) (fr := ["self"]) (js := [0]) (k := 1) (by rfl) S.z_sorted TB rfl hcode (by rfl) (tt_runners K) (tt_runners' K hd) (hr.mono (by decide)) rfl ⟨rfl, rfl, rfl, by decide +kernel, rfl, by decide +kernel, by decide +kernel, by decide +kernel, by decide +kernel⟩ rfl (hfree_of (sc := defScope sBook_runners) rfl (by decide +kernel)) (by decide +kernel) rfl (fun _ _ _ _ _ us hl => match us, hl with | [_], _ => rfl) (pv 3) (fun A outer s H q cl f c' hr' => (pe_op (op_catAK (K := K)) (pe_meth0 (pe_ix (ix_tupK (K := K)) (pe_ix (ix_tupK (K := K)) (pe_fldK (K := K) (pv 1) rfl) (pv 0) (fun _ _ => rfl)) pe_int (fun _ _ => rfl)) S.c_Deed S.m_Deed_time O_Deed_time hr' (b_Deed_time F_Deed_time) .nil pass0) (pe_tup (pa_cons (pv 0) pa_nil))))))))))⟩
abbrev N_Book_walk : List Str := ["self", "best", "known", "way", "rows", "held", "behind", "number", "deed", "at"]
theorem sc_Book_walk : FnScope N_Book_walk ["self", "best", "known"] (defScope sBook_walk) := ⟨rfl, rfl, rfl, by decide +kernel, rfl, by decide +kernel, by decide +kernel⟩
noncomputable def tm_Book_walk (S : Say K mg) {sp_beats : Sp} {fd_beats : FuncData} (F_beats : Def K dbeats fd_beats) (O_beats : FnOk P w K mg base CX0 1 (He.fAd K dbeats.at_) fd_beats ["one", "other", "way"] sp_beats) {sp_Deed_time : Sp} {fd_Deed_time : FuncData} (F_Deed_time : Def K dDeed_time fd_Deed_time) (O_Deed_time : FnOk P w K mg base CX0 1 (He.fAd K dDeed_time.at_) fd_Deed_time ["self"] sp_Deed_time) {sp_Book_event_of : Sp} {fd_Book_event_of : FuncData} (F_Book_event_of : Def K dBook_event_of fd_Book_event_of) (O_Book_event_of : FnOk P w K mg base CX0 2 (He.fAd K dBook_event_of.at_) fd_Book_event_of ["self", "name"] sp_Book_event_of) {sp_Book_runners : Sp} {fd_Book_runners : FuncData} (F_Book_runners : Def K dBook_runners fd_Book_runners) (O_Book_runners : FnOk P w K mg base CX0 6 (He.fAd K dBook_runners.at_) fd_Book_runners ["self", "best", "known"] sp_Book_runners) {sp_Book_joins : Sp} {fd_Book_joins : FuncData} (F_Book_joins : Def K dBook_joins fd_Book_joins) (O_Book_joins : FnOk P w K mg base CX0 1 (He.fAd K dBook_joins.at_) fd_Book_joins ["self", "deed", "held"] sp_Book_joins) (f : Addr) (cdv : Value) (A : Around) (outer : List Env) (s : Shared) (H : Hp) (E : XK) (hr : Room 6 (A.deeper (envOfC dBook_walk.qual (defScope sBook_walk) s.heap.objs.size f cdv)))  : { t : TS // PSs (cxOf CX0 P w K mg base N_Book_walk dBook_walk.qual (defScope sBook_walk) f cdv A outer s H E) (defBody sBook_walk) t } :=
  ⟨_, PSs.nox (by exact (pss_cons (ps_asg (pe_tup (pa_cons (pe_ix (ix_tupK (K := K)) (pe_meth (pv 0) S.c_Book S.m_Book_event_of O_Book_event_of (hr.mono (by decide)) (b_Book_event_of F_Book_event_of) .nil pass0 (pa_cons (pe_ix (ix_tupK (K := K)) (pv 1) pe_int (fun _ _ => rfl)) pa_nil)) pe_int (fun _ _ => rfl)) (pa_cons (pe_lst pa_nil) (pa_cons (pe_lst pa_nil) (pa_cons pe_dnewK pa_nil))))) (pg_tupK (K := K) rfl (pgs_cons (pg_name (i := 3) sc_Book_walk.nd rfl (Or.inl rfl)) (pgs_cons (pg_name (i := 4) sc_Book_walk.nd rfl (Or.inr rfl)) (pgs_cons (pg_name (i := 5) sc_Book_walk.nd rfl (Or.inl rfl)) (pgs_cons (pg_name (i := 6) sc_Book_walk.nd rfl (Or.inl rfl)) pgs_nil)))))) (pss_cons (ps_for PassesOwn.never rfl (pi_listK (K := K) (pe_meth (pv 0) S.c_Book S.m_Book_runners O_Book_runners (hr.mono (by decide)) (b_Book_runners F_Book_runners) .nil pass0 (pa_cons (pv 1) (pa_cons (pv 2) pa_nil)))) (pg_name (i := 7) sc_Book_walk.nd rfl (Or.inl rfl)) (pss_cons (ps_set (i := 8) sc_Book_walk.nd rfl (Or.inl rfl) (pe_ix (ix_tupK (K := K)) (pe_ix (ix_tupK (K := K)) (pe_fldK (K := K) (pv 0) rfl) (pv 7) (fun _ _ => rfl)) pe_int (fun _ _ => rfl))) (pss_cons (ps_if (PW.pt (pw_or (pt_cmpR (op_eqDK (K := K) hr.units) (pv 5) (pe_lst pa_nil) (nomark _)) (pw_or1 (pt_val (pe_call O_beats (hr.mono (by decide)) rfl S.g_beats F_beats.kp (b_beats F_beats) .nil pass0 (pa_cons (pe_fldK (K := K) (pv 8) rfl) (pa_cons (pe_ix (ix_tupK (K := K)) (pe_ix (ix_listK (K := K)) (pv 4) (pe_ix (ix_listK (K := K)) (pv 5) pe_int (fun _ _ => rfl)) (fun _ _ => rfl)) pe_int (fun _ _ => rfl)) (pa_cons (pv 3) pa_nil)))))))) (pss_cons (ps_for PassesOwn.never rfl (pi_listK (K := K) (pv 5)) (pg_name (i := 9) sc_Book_walk.nd rfl (Or.inl rfl)) (pss_one (ps_asg (pe_op (op_catAK (K := K)) (pe_slice (sl_tupAK (K := K)) (pe_ix (ix_listK (K := K)) (pv 4) (pv 9) (fun _ _ => rfl)) po_none (po_some pe_int)) (pe_tup (pa_cons (pe_meth0 (pv 8) S.c_Deed S.m_Deed_time O_Deed_time (hr.mono (by decide)) (b_Deed_time F_Deed_time) .nil pass0) pa_nil))) (pg_sub (pv 4) (pv 9) set_list)))) (pss_one (ps_set (i := 5) sc_Book_walk.nd rfl (Or.inl rfl) (pe_lst pa_nil)))) (pss_one (ps_if (pt_not (pt_val (pe_meth (pv 0) S.c_Book S.m_Book_joins O_Book_joins (hr.mono (by decide)) (b_Book_joins F_Book_joins) .nil pass0 (pa_cons (pv 8) (pa_cons (pe_lc (own := [("at", 9)]) (g := (gName 9)) (by rfl) sc_Book_walk.nd (pi_listK (K := K) (pv 5)) (blkOk_by (own := [("at", 9)]) (N := N_Book_walk) (sc := (defScope sBook_walk)) (by decide +kernel)) (fun _ _ _ _ _ => (pg_name (i := 9) sc_Book_walk.nd rfl (Or.inl rfl))) (fun _ _ _ _ _ => pts_nil) (fun _ _ _ _ _ => (pe_ix (ix_listK (K := K)) (pv 4) (pv 9) (fun _ _ => rfl)))) pa_nil))))) (pss_cons (ps_dput (hu_of hr) (pv 6) (pv 7) (pe_ix (ix_tupK (K := K)) (pe_ix (ix_listK (K := K)) (pv 4) (pe_ix (ix_listK (K := K)) (pv 5) pe_int (fun _ _ => rfl)) (fun _ _ => rfl)) pe_int (fun _ _ => rfl)) rfl) (pss_one ps_continue)) pss_nil))) (pss_cons (ps_expr (pe_bmK (K := K) PySem.F.plainAttrs_list PySem.F.slot_list_append PySem.F.type_list_append mt_append (pv 5) (pa_cons (pe_callB (call_lenqK (K := K)) (by rfl) S.z_len (by decide +kernel) (pa_cons (pv 4) pa_nil)) pa_nil))) (pss_one (ps_expr (pe_bmK (K := K) PySem.F.plainAttrs_list PySem.F.slot_list_append PySem.F.type_list_append mt_append (pv 4) (pa_cons (pe_tup (pa_cons (pv 7) (pa_cons (pe_fldK (K := K) (pv 8) rfl) (pa_cons (pe_fldK (K := K) (pv 8) rfl) (pa_cons (pe_meth0 (pv 8) S.c_Deed S.m_Deed_time O_Deed_time (hr.mono (by decide)) (b_Deed_time F_Deed_time) .nil pass0) (pa_cons pe_non pa_nil)))))) pa_nil)))))))) (pss_one (ps_ret (pe_tup (pa_cons (pv 4) (pa_cons (pv 6) pa_nil))))))))⟩
abbrev N_Book_joins : List Str := ["self", "deed", "held", "row"]
theorem sc_Book_joins : FnScope N_Book_joins ["self", "deed", "held"] (defScope sBook_joins) := ⟨rfl, rfl, rfl, by decide +kernel, rfl, by decide +kernel, by decide +kernel⟩
noncomputable def tm_Book_joins (S : Say K mg)  (f : Addr) (cdv : Value) (A : Around) (outer : List Env) (s : Shared) (H : Hp) (E : XK) (hr : Room 0 (A.deeper (envOfC dBook_joins.qual (defScope sBook_joins) s.heap.objs.size f cdv)))  : { t : TS // PSs (cxOf CX0 P w K mg base N_Book_joins dBook_joins.qual (defScope sBook_joins) f cdv A outer s H E) (defBody sBook_joins) t } :=
  ⟨_, PSs.nox (by exact (pss_cons (ps_if (PW.pt (pw_or (pt_not (pt_val (pe_fldK (K := K) (pe_fldK (K := K) (pv 0) rfl) rfl))) (pw_or1 (pt_cmpR op_ne (pe_fldK (K := K) (pv 1) rfl) (pe_ix (ix_tupK (K := K)) (pe_ix (ix_listK (K := K)) (pv 2) pe_int (fun _ _ => rfl)) pe_int (fun _ _ => rfl)) (nomark _))))) (pss_one (ps_ret pe_bl)) pss_nil) (pss_one (ps_ret (pe_cmpR (op_notInK (K := K)) (pe_fldK (K := K) (pv 1) rfl) (pe_lc (own := [("row", 3)]) (g := (gName 3)) (by rfl) sc_Book_joins.nd (pi_listK (K := K) (pv 2)) (blkOk_by (own := [("row", 3)]) (N := N_Book_joins) (sc := (defScope sBook_joins)) (by decide +kernel)) (fun _ _ _ _ _ => (pg_name (i := 3) sc_Book_joins.nd rfl (Or.inl rfl))) (fun _ _ _ _ _ => pts_nil) (fun _ _ _ _ _ => (pe_ix (ix_tupK (K := K)) (pv 3) pe_int (fun _ _ => rfl)))) (by rfl))))))⟩
abbrev N_Book_stints : List Str := ["self", "event", "group", "place", "known", "best"]
theorem sc_Book_stints : FnScope N_Book_stints ["self", "event", "group", "place", "known"] (defScope sBook_stints) := ⟨rfl, rfl, rfl, by decide +kernel, rfl, by decide +kernel, by decide +kernel⟩
noncomputable def tm_Book_stints (S : Say K mg) {sp_known_day : Sp} {fd_known_day : FuncData} (F_known_day : Def K dknown_day fd_known_day) (O_known_day : FnOk P w K mg base CX0 4 (He.fAd K dknown_day.at_) fd_known_day ["known"] sp_known_day) {sp_Book_need_best : Sp} {fd_Book_need_best : FuncData} (F_Book_need_best : Def K dBook_need_best fd_Book_need_best) (O_Book_need_best : FnOk P w K mg base CX0 3 (He.fAd K dBook_need_best.at_) fd_Book_need_best ["self", "event", "group", "place"] sp_Book_need_best) {sp_Book_walk : Sp} {fd_Book_walk : FuncData} (F_Book_walk : Def K dBook_walk fd_Book_walk) (O_Book_walk : FnOk P w K mg base CX0 7 (He.fAd K dBook_walk.at_) fd_Book_walk ["self", "best", "known"] sp_Book_walk) (f : Addr) (cdv : Value) (A : Around) (outer : List Env) (s : Shared) (H : Hp) (E : XK) (hr : Room 7 (A.deeper (envOfC dBook_stints.qual (defScope sBook_stints) s.heap.objs.size f cdv)))  : { t : TS // PSs (cxOf CX0 P w K mg base N_Book_stints dBook_stints.qual (defScope sBook_stints) f cdv A outer s H E) (defBody sBook_stints) t } :=
  ⟨_, PSs.nox (by exact (pss_cons (ps_set (i := 5) sc_Book_stints.nd rfl (Or.inl rfl) (pe_tup (pa_cons (pv 1) (pa_cons (pv 2) (pa_cons (pe_meth (pv 0) S.c_Book S.m_Book_need_best O_Book_need_best (hr.mono (by decide)) (b_Book_need_best F_Book_need_best) .nil pass0 (pa_cons (pv 1) (pa_cons (pv 2) (pa_cons (pv 3) pa_nil)))) pa_nil))))) (pss_one (ps_ret (pe_ix (ix_tupK (K := K)) (pe_meth (pv 0) S.c_Book S.m_Book_walk O_Book_walk (hr.mono (by decide)) (b_Book_walk F_Book_walk) .nil pass0 (pa_cons (pv 5) (pa_cons (pe_call O_known_day (hr.mono (by decide)) rfl S.g_known_day F_known_day.kp (b_known_day F_known_day) .nil pass0 (pa_cons (pv 4) pa_nil)) pa_nil))) pe_int (fun _ _ => rfl))))))⟩
abbrev N_Book_held_on : List Str := ["self", "best", "day", "known", "rows", "row"]
theorem sc_Book_held_on : FnScope N_Book_held_on ["self", "best", "day", "known"] (defScope sBook_held_on) := ⟨rfl, rfl, rfl, by decide +kernel, rfl, by decide +kernel, by decide +kernel⟩
noncomputable def tm_Book_held_on (S : Say K mg) {sp_Book_walk : Sp} {fd_Book_walk : FuncData} (F_Book_walk : Def K dBook_walk fd_Book_walk) (O_Book_walk : FnOk P w K mg base CX0 7 (He.fAd K dBook_walk.at_) fd_Book_walk ["self", "best", "known"] sp_Book_walk) (f : Addr) (cdv : Value) (A : Around) (outer : List Env) (s : Shared) (H : Hp) (E : XK) (hr : Room 7 (A.deeper (envOfC dBook_held_on.qual (defScope sBook_held_on) s.heap.objs.size f cdv)))  : { t : TS // PSs (cxOf CX0 P w K mg base N_Book_held_on dBook_held_on.qual (defScope sBook_held_on) f cdv A outer s H E) (defBody sBook_held_on) t } :=
  ⟨_, PSs.nox (by exact (pss_cons (ps_setLc (i := 4) (own := [("row", 5)]) (g := (gName 5)) (by rfl) sc_Book_held_on.nd rfl rfl (sw_true rfl rfl rfl (by decide +kernel)) (pi_listK (K := K) (pe_ix (ix_tupK (K := K)) (pe_meth (pv 0) S.c_Book S.m_Book_walk O_Book_walk (hr.mono (by decide)) (b_Book_walk F_Book_walk) .nil pass0 (pa_cons (pv 1) (pa_cons (pv 3) pa_nil))) pe_int (fun _ _ => rfl))) (blkOk_by (own := [("row", 5)]) (N := N_Book_held_on) (sc := (defScope sBook_held_on)) (by decide +kernel)) (fun _ _ _ _ _ => (pg_name (i := 5) sc_Book_held_on.nd rfl (Or.inl rfl))) (fun _ _ _ _ _ => (pts_one (pt_cmpR op_le (pe_ix (ix_tupK (K := K)) (pe_ix (ix_tupK (K := K)) (pv 5) pe_int (fun _ _ => rfl)) pe_int (fun _ _ => rfl)) (pv 2) (nomark _)))) (fun _ _ _ _ _ => (pv 5))) (pss_one (ps_ret (pe_lc (own := [("row", 5)]) (g := (gName 5)) (by rfl) sc_Book_held_on.nd (pi_listK (K := K) (pv 4)) (blkOk_by (own := [("row", 5)]) (N := N_Book_held_on) (sc := (defScope sBook_held_on)) (by decide +kernel)) (fun _ _ _ _ _ => (pg_name (i := 5) sc_Book_held_on.nd rfl (Or.inl rfl))) (fun _ _ _ _ _ => (pts_one (PW.pt (pw_or (pt_cmpR op_isN (pe_ix (ix_tupK (K := K)) (pv 5) pe_int (fun _ _ => rfl)) pe_non (nomark _)) (pw_or1 (pt_cmpR op_gt (pe_ix (ix_tupK (K := K)) (pe_ix (ix_tupK (K := K)) (pv 5) pe_int (fun _ _ => rfl)) pe_int (fun _ _ => rfl)) (pv 2) (nomark _))))))) (fun _ _ _ _ _ => (pv 5)))))))⟩
abbrev N_Book_holders : List Str := ["self", "event", "group", "place", "day", "known", "best", "last", "rows", "row"]
theorem sc_Book_holders : FnScope N_Book_holders ["self", "event", "group", "place", "day", "known"] (defScope sBook_holders) := ⟨rfl, rfl, rfl, by decide +kernel, rfl, by decide +kernel, by decide +kernel⟩
noncomputable def tm_Book_holders (S : Say K mg) {sp_known_day : Sp} {fd_known_day : FuncData} (F_known_day : Def K dknown_day fd_known_day) (O_known_day : FnOk P w K mg base CX0 4 (He.fAd K dknown_day.at_) fd_known_day ["known"] sp_known_day) {sp_Book_need_best : Sp} {fd_Book_need_best : FuncData} (F_Book_need_best : Def K dBook_need_best fd_Book_need_best) (O_Book_need_best : FnOk P w K mg base CX0 3 (He.fAd K dBook_need_best.at_) fd_Book_need_best ["self", "event", "group", "place"] sp_Book_need_best) {sp_Book_held_on : Sp} {fd_Book_held_on : FuncData} (F_Book_held_on : Def K dBook_held_on fd_Book_held_on) (O_Book_held_on : FnOk P w K mg base CX0 8 (He.fAd K dBook_held_on.at_) fd_Book_held_on ["self", "best", "day", "known"] sp_Book_held_on) (f : Addr) (cdv : Value) (A : Around) (outer : List Env) (s : Shared) (H : Hp) (E : XK) (hr : Room 8 (A.deeper (envOfC dBook_holders.qual (defScope sBook_holders) s.heap.objs.size f cdv)))  : { t : TS // PSs (cxOf CX0 P w K mg base N_Book_holders dBook_holders.qual (defScope sBook_holders) f cdv A outer s H E) (defBody sBook_holders) t } :=
  ⟨_, PSs.nox (by exact (pss_cons (ps_set (i := 6) sc_Book_holders.nd rfl (Or.inl rfl) (pe_tup (pa_cons (pv 1) (pa_cons (pv 2) (pa_cons (pe_meth (pv 0) S.c_Book S.m_Book_need_best O_Book_need_best (hr.mono (by decide)) (b_Book_need_best F_Book_need_best) .nil pass0 (pa_cons (pv 1) (pa_cons (pv 2) (pa_cons (pv 3) pa_nil)))) pa_nil))))) (pss_cons (ps_set (i := 7) sc_Book_holders.nd rfl (Or.inl rfl) (pe_call O_known_day (hr.mono (by decide)) rfl S.g_known_day F_known_day.kp (b_known_day F_known_day) .nil pass0 (pa_cons (pv 4) pa_nil))) (pss_cons (ps_set (i := 8) sc_Book_holders.nd rfl (Or.inl rfl) (pe_meth (pv 0) S.c_Book S.m_Book_held_on O_Book_held_on (hr.mono (by decide)) (b_Book_held_on F_Book_held_on) .nil pass0 (pa_cons (pv 6) (pa_cons (pv 7) (pa_cons (pe_call O_known_day (hr.mono (by decide)) rfl S.g_known_day F_known_day.kp (b_known_day F_known_day) .nil pass0 (pa_cons (pv 5) pa_nil)) pa_nil))))) (pss_cons (ps_if (pt_cmpR (op_eqDK (K := K) hr.units) (pv 8) (pe_lst pa_nil) (nomark _)) (pss_one (ps_ret pe_non)) pss_nil) (pss_one (ps_ret (pe_tup (pa_cons (pe_ix (ix_tupK (K := K)) (pe_ix (ix_listK (K := K)) (pv 8) pe_int (fun _ _ => rfl)) pe_int (fun _ _ => rfl)) (pa_cons (pe_callTy (call_tupleK (K := K)) (by rfl) S.z_tuple (by decide +kernel) (pa_cons (pe_callB (cr_sortedSK (K := K)) (by rfl) S.z_sorted (by decide +kernel) (pa_cons (pe_lc (own := [("row", 9)]) (g := (gName 9)) (by rfl) sc_Book_holders.nd (pi_listK (K := K) (pv 8)) (blkOk_by (own := [("row", 9)]) (N := N_Book_holders) (sc := (defScope sBook_holders)) (by decide +kernel)) (fun _ _ _ _ _ => (pg_name (i := 9) sc_Book_holders.nd rfl (Or.inl rfl))) (fun _ _ _ _ _ => pts_nil) (fun _ _ _ _ _ => (pe_ix (ix_tupK (K := K)) (pv 9) pe_int (fun _ _ => rfl)))) pa_nil)) pa_nil)) pa_nil))))))))))⟩
abbrev N_L_cell : List Str := ["_law_script", "_law_k"]
theorem sc_L_cell : FnScope N_L_cell ["_law_script", "_law_k"] (defScope sL_cell) := ⟨rfl, rfl, rfl, by decide +kernel, rfl, by decide +kernel, by decide +kernel⟩
noncomputable def tm_L_cell (S : Say K mg)  (f : Addr) (cdv : Value) (A : Around) (outer : List Env) (s : Shared) (H : Hp) (E : XK) (hr : Room 0 (A.deeper (envOfC dL_cell.qual (defScope sL_cell) s.heap.objs.size f cdv)))  : { t : TS // PSs (cxOf CX0 P w K mg base N_L_cell dL_cell.qual (defScope sL_cell) f cdv A outer s H E) (defBody sL_cell) t } :=
  ⟨_, PSs.nox (by exact (pss_cons (ps_if (pt_cmpR op_lt (pv 1) (pe_callB (call_lenqK (K := K)) (by rfl) S.z_len (by decide +kernel) (pa_cons (pv 0) pa_nil)) (nomark _)) (pss_one (ps_ret (pe_ix (ix_listK (K := K)) (pv 0) (pv 1) (fun _ _ => rfl)))) pss_nil) (pss_one (ps_ret pe_int))))⟩
abbrev N_L_pen : List Str := ["_law_cell_here"]
theorem sc_L_pen : FnScope N_L_pen ["_law_cell_here"] (defScope sL_pen) := ⟨rfl, rfl, rfl, by decide +kernel, rfl, by decide +kernel, by decide +kernel⟩
noncomputable def tm_L_pen (S : Say K mg)  (f : Addr) (cdv : Value) (A : Around) (outer : List Env) (s : Shared) (H : Hp) (E : XK) (hr : Room 0 (A.deeper (envOfC dL_pen.qual (defScope sL_pen) s.heap.objs.size f cdv)))  : { t : TS // PSs (cxOf CX0 P w K mg base N_L_pen dL_pen.qual (defScope sL_pen) f cdv A outer s H E) (defBody sL_pen) t } :=
  ⟨_, PSs.nox (by exact (pss_one (ps_ret (pe_lst (pa_cons (pv 0) (pa_cons (pe_callTy call_int1 (by rfl) S.z_int (by decide +kernel) (pa_cons (pe_cmpR op_ge (pv 0) (pe_op op_pow pe_int pe_int) (nomark _)) pa_nil)) pa_nil))))))⟩
abbrev N_L_draw : List Str := ["_law_pen_here", "_law_many", "_law_digit"]
theorem sc_L_draw : FnScope N_L_draw ["_law_pen_here", "_law_many"] (defScope sL_draw) := ⟨rfl, rfl, rfl, by decide +kernel, rfl, by decide +kernel, by decide +kernel⟩
noncomputable def tm_L_draw (S : Say K mg)  (f : Addr) (cdv : Value) (A : Around) (outer : List Env) (s : Shared) (H : Hp) (E : XK) (hr : Room 0 (A.deeper (envOfC dL_draw.qual (defScope sL_draw) s.heap.objs.size f cdv)))  : { t : TS // PSs (cxOf CX0 P w K mg base N_L_draw dL_draw.qual (defScope sL_draw) f cdv A outer s H E) (defBody sL_draw) t } :=
  ⟨_, PSs.nox (by exact (pss_cons (ps_if (pt_cmpR op_eq (pe_ix (ix_listK (K := K)) (pv 0) pe_int (fun _ _ => rfl)) pe_int (nomark _)) (pss_cons (ps_set (i := 2) sc_L_draw.nd rfl (Or.inl rfl) (pe_op op_mod (pe_ix (ix_listK (K := K)) (pv 0) pe_int (fun _ _ => rfl)) (pv 1))) (pss_cons (ps_asg (pe_op op_fdivW (pe_ix (ix_listK (K := K)) (pv 0) pe_int (fun _ _ => rfl)) (pv 1)) (pg_sub (pv 0) pe_int set_list)) (pss_one (ps_ret (pv 2))))) pss_nil) (pss_cons (ps_asg (pe_op op_mod (pe_op op_add (pe_op op_mulW (pe_op op_mod (pe_ix (ix_listK (K := K)) (pv 0) pe_int (fun _ _ => rfl)) pe_int) pe_int) pe_int) pe_int) (pg_sub (pv 0) pe_int set_list)) (pss_one (ps_ret (pe_op op_mod (pe_op op_fdivW (pe_op op_mod (pe_op op_add (pe_op op_mulW (pe_ix (ix_listK (K := K)) (pv 0) pe_int (fun _ _ => rfl)) (pe_ix (ix_listK (K := K)) (pv 0) pe_int (fun _ _ => rfl))) (pe_op op_mulW pe_int (pe_ix (ix_listK (K := K)) (pv 0) pe_int (fun _ _ => rfl)))) pe_int) pe_int) (pv 1)))))))⟩
abbrev N_L_rules : List Str := ["_law_pen_here", "_law_bounds", "_law_lap"]
theorem sc_L_rules : FnScope N_L_rules ["_law_pen_here"] (defScope sL_rules) := ⟨rfl, rfl, rfl, by decide +kernel, rfl, by decide +kernel, by decide +kernel⟩
noncomputable def tm_L_rules (S : Say K mg) {sp_L_draw : Sp} {fd_L_draw : FuncData} (F_L_draw : Def K dL_draw fd_L_draw) (O_L_draw : FnOk P w K mg base CX0 1 (He.fAd K dL_draw.at_) fd_L_draw ["_law_pen_here", "_law_many"] sp_L_draw) (f : Addr) (cdv : Value) (A : Around) (outer : List Env) (s : Shared) (H : Hp) (E : XK) (hr : Room 1 (A.deeper (envOfC dL_rules.qual (defScope sL_rules) s.heap.objs.size f cdv)))  : { t : TS // PSs (cxOf CX0 P w K mg base N_L_rules dL_rules.qual (defScope sL_rules) f cdv A outer s H E) (defBody sL_rules) t } :=
  ⟨_, PSs.nox (by exact (pss_cons (ps_set (i := 1) sc_L_rules.nd rfl (Or.inl rfl) (pe_callTy (call_tupleK (K := K)) (by rfl) S.z_tuple (by decide +kernel) (pa_cons (pe_callB (srt_int (P := P) (w := w) rfl rfl rfl (hu20 hr)) (by rfl) S.z_sorted (by decide +kernel) (pa_cons (pe_callTy (cr_setLK (P := P) (w := w) (K := K) rfl rfl rfl rfl) (by rfl) S.z_set (by decide +kernel) (pa_cons (pe_lc (own := [("_law_lap", 2)]) (g := (gName 2)) (by rfl) sc_L_rules.nd (pi_range1 (by rfl) S.z_range (pa_cons (pe_call O_L_draw (hr.mono (by decide)) rfl S.g__law_draw F_L_draw.kp (b_L_draw F_L_draw) .nil pass0 (pa_cons (pv 0) (pa_cons pe_int pa_nil))) pa_nil)) (blkOk_by (own := [("_law_lap", 2)]) (N := N_L_rules) (sc := (defScope sL_rules)) (by decide +kernel)) (fun _ _ _ _ _ => (pg_name (i := 2) sc_L_rules.nd rfl (Or.inl rfl))) (fun _ _ _ _ _ => pts_nil) (fun _ _ _ _ _ => (pe_op op_add pe_int (pe_call O_L_draw (hr.mono (by decide)) rfl S.g__law_draw F_L_draw.kp (b_L_draw F_L_draw) .nil pass0 (pa_cons (pv 0) (pa_cons (pe_ix (ix_listK (K := K)) (pe_lst (pa_cons pe_int (pa_cons pe_int pa_nil))) (pe_call O_L_draw (hr.mono (by decide)) rfl S.g__law_draw F_L_draw.kp (b_L_draw F_L_draw) .nil pass0 (pa_cons (pv 0) (pa_cons pe_int pa_nil))) (fun _ _ => rfl)) pa_nil)))))) pa_nil)) pa_nil)) pa_nil))) (pss_one (ps_ret (pe_tup (pa_cons (pe_slice (sl_tupAK (K := K)) (pv 1) po_none (po_some pe_int)) (pa_cons (pe_cmpR op_eq (pe_call O_L_draw (hr.mono (by decide)) rfl S.g__law_draw F_L_draw.kp (b_L_draw F_L_draw) .nil pass0 (pa_cons (pv 0) (pa_cons pe_int pa_nil))) pe_int (nomark _)) (pa_cons (pe_ix (ix_listK (K := K)) (pe_lst (pa_cons pe_int (pa_cons pe_int (pa_cons (pe_un un_neg pe_int) (pa_cons pe_int pa_nil))))) (pe_call O_L_draw (hr.mono (by decide)) rfl S.g__law_draw F_L_draw.kp (b_L_draw F_L_draw) .nil pass0 (pa_cons (pv 0) (pa_cons pe_int pa_nil))) (fun _ _ => rfl)) (pa_cons (pe_cmpR op_eq (pe_call O_L_draw (hr.mono (by decide)) rfl S.g__law_draw F_L_draw.kp (b_L_draw F_L_draw) .nil pass0 (pa_cons (pv 0) (pa_cons pe_int pa_nil))) pe_int (nomark _)) pa_nil)))))))))⟩
abbrev N_L_names : List Str := []
theorem sc_L_names : FnScope N_L_names [] (defScope sL_names) := ⟨rfl, rfl, rfl, by decide +kernel, rfl, by decide +kernel, by decide +kernel⟩
noncomputable def tm_L_names (S : Say K mg)  (f : Addr) (cdv : Value) (A : Around) (outer : List Env) (s : Shared) (H : Hp) (E : XK) (hr : Room 0 (A.deeper (envOfC dL_names.qual (defScope sL_names) s.heap.objs.size f cdv)))  : { t : TS // PSs (cxOf CX0 P w K mg base N_L_names dL_names.qual (defScope sL_names) f cdv A outer s H E) (defBody sL_names) t } :=
  ⟨_, PSs.nox (by exact (pss_one (ps_ret (pe_lst (pa_cons pe_str (pa_cons pe_str (pa_cons pe_str (pa_cons pe_str (pa_cons pe_str (pa_cons pe_str pa_nil))))))))))⟩
abbrev N_L_club : List Str := ["_law_pen_here", "_law_events", "_law_people", "_law_name", "_law_born"]
theorem sc_L_club : FnScope N_L_club ["_law_pen_here"] (defScope sL_club) := ⟨rfl, rfl, rfl, by decide +kernel, rfl, by decide +kernel, by decide +kernel⟩
noncomputable def tm_L_club (S : Say K mg) {sp_L_draw : Sp} {fd_L_draw : FuncData} (F_L_draw : Def K dL_draw fd_L_draw) (O_L_draw : FnOk P w K mg base CX0 1 (He.fAd K dL_draw.at_) fd_L_draw ["_law_pen_here", "_law_many"] sp_L_draw) {sp_L_rules : Sp} {fd_L_rules : FuncData} (F_L_rules : Def K dL_rules fd_L_rules) (O_L_rules : FnOk P w K mg base CX0 2 (He.fAd K dL_rules.at_) fd_L_rules ["_law_pen_here"] sp_L_rules) {sp_L_names : Sp} {fd_L_names : FuncData} (F_L_names : Def K dL_names fd_L_names) (O_L_names : FnOk P w K mg base CX0 1 (He.fAd K dL_names.at_) fd_L_names [] sp_L_names) (f : Addr) (cdv : Value) (A : Around) (outer : List Env) (s : Shared) (H : Hp) (E : XK) (hr : Room 2 (A.deeper (envOfC dL_club.qual (defScope sL_club) s.heap.objs.size f cdv)))  : { t : TS // PSs (cxOf CX0 P w K mg base N_L_club dL_club.qual (defScope sL_club) f cdv A outer s H E) (defBody sL_club) t } :=
  ⟨_, PSs.nox (by exact (pss_cons (ps_set (i := 1) sc_L_club.nd rfl (Or.inl rfl) (pe_slice (sl_tupAK (K := K)) (pe_tup (pa_cons (pe_tup (pa_cons pe_str (pa_cons pe_str (pa_cons pe_bl pa_nil)))) (pa_cons (pe_tup (pa_cons pe_str (pa_cons pe_str (pa_cons pe_bl pa_nil)))) (pa_cons (pe_tup (pa_cons pe_str (pa_cons pe_str (pa_cons pe_bl pa_nil)))) pa_nil)))) po_none (po_some (pe_op op_add pe_int (pe_call O_L_draw (hr.mono (by decide)) rfl S.g__law_draw F_L_draw.kp (b_L_draw F_L_draw) .nil pass0 (pa_cons (pv 0) (pa_cons pe_int pa_nil))))))) (pss_cons (ps_set (i := 2) sc_L_club.nd rfl (Or.inl rfl) pe_dnewK) (pss_cons (ps_for PassesOwn.never rfl (pi_listK (K := K) (pe_call0 O_L_names (hr.mono (by decide)) rfl S.g__law_names F_L_names.kp (b_L_names F_L_names) .nil pass0)) (pg_name (i := 3) sc_L_club.nd rfl (Or.inl rfl)) (pss_cons (ps_set (i := 4) sc_L_club.nd rfl (Or.inl rfl) (pe_op op_sub pe_int (pe_call O_L_draw (hr.mono (by decide)) rfl S.g__law_draw F_L_draw.kp (b_L_draw F_L_draw) .nil pass0 (pa_cons (pv 0) (pa_cons (pe_ix (ix_listK (K := K)) (pe_lst (pa_cons pe_int (pa_cons pe_int (pa_cons pe_int pa_nil)))) (pe_call O_L_draw (hr.mono (by decide)) rfl S.g__law_draw F_L_draw.kp (b_L_draw F_L_draw) .nil pass0 (pa_cons (pv 0) (pa_cons pe_int pa_nil))) (fun _ _ => rfl)) pa_nil))))) (pss_one (ps_dput (hu_of hr) (pv 2) (pv 3) (pe_tup (pa_cons (pv 4) (pa_cons (pe_ix (ix_listK (K := K)) (pe_lst (pa_cons pe_str (pa_cons pe_str (pa_cons pe_str pa_nil)))) (pe_call O_L_draw (hr.mono (by decide)) rfl S.g__law_draw F_L_draw.kp (b_L_draw F_L_draw) .nil pass0 (pa_cons (pv 0) (pa_cons pe_int pa_nil))) (fun _ _ => rfl)) (pa_cons (pe_ix (ix_listK (K := K)) (pe_lst (pa_cons pe_str (pa_cons pe_str pa_nil))) (pe_call O_L_draw (hr.mono (by decide)) rfl S.g__law_draw F_L_draw.kp (b_L_draw F_L_draw) .nil pass0 (pa_cons (pv 0) (pa_cons pe_int pa_nil))) (fun _ _ => rfl)) pa_nil)))) rfl)))) (pss_one (ps_ret (pe_disp (pps_cons pe_str (pv 1) (pps_cons pe_str (pe_call O_L_rules (hr.mono (by decide)) rfl S.g__law_rules F_L_rules.kp (b_L_rules F_L_rules) .nil pass0 (pa_cons (pv 0) pa_nil)) (pps_cons pe_str (pv 2) (pps_cons pe_str (pe_tup pa_nil) (pps_cons pe_str (pe_tup pa_nil) pps_nil))))) (by rfl) (by rfl) (fun z => by cases z) (by decide))))))))⟩
abbrev N_L_made : List Str := ["_law_club_here", "_law_bounds", "_law_upward", "_law_gust", "_law_both", "_law_book", "_law_name", "_law_born", "_law_side", "_law_squad"]
theorem sc_L_made : FnScope N_L_made ["_law_club_here"] (defScope sL_made) := ⟨rfl, rfl, rfl, by decide +kernel, rfl, by decide +kernel, by decide +kernel⟩
noncomputable def tm_L_made (S : Say K mg) {sp_Rules_init : Sp} {fd_Rules_init : FuncData} (F_Rules_init : Def K dRules_init fd_Rules_init) (O_Rules_init : FnOk P w K mg base CX0 4 (He.fAd K dRules_init.at_) fd_Rules_init ["self", "limits", "up", "wind", "shares"] sp_Rules_init) {its_Rules_init : List Value} (KB_Rules_init : KBn K fd_Rules_init ["self", "limits", "up", "wind", "shares"] 1 ["limits", "up", "wind", "shares"] (fun us ws => us ++ (ws ++ its_Rules_init.drop 4)) (fun vs zs => vs ++ (zs ++ (dRules_init.dvs K).drop 4))) {sp_Person_init : Sp} {fd_Person_init : FuncData} (F_Person_init : Def K dPerson_init fd_Person_init) (O_Person_init : FnOk P w K mg base CX0 4 (He.fAd K dPerson_init.at_) fd_Person_init ["self", "name", "born", "group", "team"] sp_Person_init) {its_Person_init : List Value} (KB_Person_init : KBn K fd_Person_init ["self", "name", "born", "group", "team"] 3 ["group", "team"] (fun us ws => us ++ (ws ++ its_Person_init.drop 2)) (fun vs zs => vs ++ (zs ++ (dPerson_init.dvs K).drop 2))) {sp_Book_init : Sp} {fd_Book_init : FuncData} (F_Book_init : Def K dBook_init fd_Book_init) (O_Book_init : FnOk P w K mg base CX0 4 (He.fAd K dBook_init.at_) fd_Book_init ["self", "events", "rules"] sp_Book_init) {its_Book_init : List Value} (KB_Book_init : KBn K fd_Book_init ["self", "events", "rules"] 2 ["rules"] (fun us ws => us ++ (ws ++ its_Book_init.drop 1)) (fun vs zs => vs ++ (zs ++ (dBook_init.dvs K).drop 1))) {sp_Book_enrol : Sp} {fd_Book_enrol : FuncData} (F_Book_enrol : Def K dBook_enrol fd_Book_enrol) (O_Book_enrol : FnOk P w K mg base CX0 2 (He.fAd K dBook_enrol.at_) fd_Book_enrol ["self", "person"] sp_Book_enrol) (f : Addr) (cdv : Value) (A : Around) (outer : List Env) (s : Shared) (H : Hp) (E : XK) (hr : Room 5 (A.deeper (envOfC dL_made.qual (defScope sL_made) s.heap.objs.size f cdv)))  : { t : TS // PSs (cxOf CX0 P w K mg base N_L_made dL_made.qual (defScope sL_made) f cdv A outer s H E) (defBody sL_made) t } :=
  ⟨_, PSs.nox (by exact (pss_cons (ps_asg (pe_dget (hu_of hr) (pv 0) pe_str (fun _ _ => rfl)) (pg_tupK (K := K) rfl (pgs_cons (pg_name (i := 1) sc_L_made.nd rfl (Or.inl rfl)) (pgs_cons (pg_name (i := 2) sc_L_made.nd rfl (Or.inl rfl)) (pgs_cons (pg_name (i := 3) sc_L_made.nd rfl (Or.inl rfl)) (pgs_cons (pg_name (i := 4) sc_L_made.nd rfl (Or.inl rfl)) pgs_nil)))))) (pss_cons (ps_set (i := 5) sc_L_made.nd rfl (Or.inl rfl) (pe_makeN S.k_Book O_Book_init (hr.mono (by decide)) rfl S.g_Book KB_Book_init pass0 (pa_cons (pe_dget (hu_of hr) (pv 0) pe_str (fun _ _ => rfl)) pa_nil) (pk_cons (pe_makeN0 S.k_Rules O_Rules_init (hr.mono (by decide)) rfl S.g_Rules KB_Rules_init pass0 (pk_cons (pv 1) (pk_cons (pv 2) (pk_cons (pv 3) (pk_cons (pv 4) pk_nil))))) pk_nil))) (pss_cons (ps_for PassesOwn.never rfl (pi_listK (K := K) (pe_callB (call_sortedD rfl) (by rfl) S.z_sorted (by decide +kernel) (pa_cons (pe_dget (hu_of hr) (pv 0) pe_str (fun _ _ => rfl)) pa_nil))) (pg_name (i := 6) sc_L_made.nd rfl (Or.inl rfl)) (pss_cons (ps_asg (pe_dget (hu_of hr) (pe_dget (hu_of hr) (pv 0) pe_str (fun _ _ => rfl)) (pv 6) (fun _ _ => rfl)) (pg_tupK (K := K) rfl (pgs_cons (pg_name (i := 7) sc_L_made.nd rfl (Or.inl rfl)) (pgs_cons (pg_name (i := 8) sc_L_made.nd rfl (Or.inl rfl)) (pgs_cons (pg_name (i := 9) sc_L_made.nd rfl (Or.inl rfl)) pgs_nil))))) (pss_one (ps_expr (pe_meth (pv 5) S.c_Book S.m_Book_enrol O_Book_enrol (hr.mono (by decide)) (b_Book_enrol F_Book_enrol) .nil pass0 (pa_cons (pe_makeN S.k_Person O_Person_init (hr.mono (by decide)) rfl S.g_Person KB_Person_init pass0 (pa_cons (pv 6) (pa_cons (pv 7) pa_nil)) (pk_cons (pv 8) (pk_cons (pv 9) pk_nil))) pa_nil)))))) (pss_one (ps_ret (pv 5)))))))⟩
abbrev N_L_row : List Str := ["_law_pen_here", "_law_club_here", "_law_name", "_law_event", "_law_mark", "_law_on_day", "_law_clock", "_law_gust"]
theorem sc_L_row : FnScope N_L_row ["_law_pen_here", "_law_club_here"] (defScope sL_row) := ⟨rfl, rfl, rfl, by decide +kernel, rfl, by decide +kernel, by decide +kernel⟩
noncomputable def tm_L_row (S : Say K mg) {sp_L_draw : Sp} {fd_L_draw : FuncData} (F_L_draw : Def K dL_draw fd_L_draw) (O_L_draw : FnOk P w K mg base CX0 1 (He.fAd K dL_draw.at_) fd_L_draw ["_law_pen_here", "_law_many"] sp_L_draw) {sp_L_names : Sp} {fd_L_names : FuncData} (F_L_names : Def K dL_names fd_L_names) (O_L_names : FnOk P w K mg base CX0 1 (He.fAd K dL_names.at_) fd_L_names [] sp_L_names) (f : Addr) (cdv : Value) (A : Around) (outer : List Env) (s : Shared) (H : Hp) (E : XK) (hr : Room 1 (A.deeper (envOfC dL_row.qual (defScope sL_row) s.heap.objs.size f cdv)))  : { t : TS // PSs (cxOf CX0 P w K mg base N_L_row dL_row.qual (defScope sL_row) f cdv A outer s H E) (defBody sL_row) t } :=
  ⟨_, PSs.nox (by exact (pss_cons (ps_set (i := 2) sc_L_row.nd rfl (Or.inl rfl) (pe_ix (ix_listK (K := K)) (pe_call0 O_L_names (hr.mono (by decide)) rfl S.g__law_names F_L_names.kp (b_L_names F_L_names) .nil pass0) (pe_call O_L_draw (hr.mono (by decide)) rfl S.g__law_draw F_L_draw.kp (b_L_draw F_L_draw) .nil pass0 (pa_cons (pv 0) (pa_cons pe_int pa_nil))) (fun _ _ => rfl))) (pss_cons (ps_set (i := 3) sc_L_row.nd rfl (Or.inl rfl) (pe_ix (ix_tupK (K := K)) (pe_ix (ix_tupK (K := K)) (pe_dget (hu_of hr) (pv 1) pe_str (fun _ _ => rfl)) (pe_call O_L_draw (hr.mono (by decide)) rfl S.g__law_draw F_L_draw.kp (b_L_draw F_L_draw) .nil pass0 (pa_cons (pv 0) (pa_cons (pe_callB (call_lenqK (K := K)) (by rfl) S.z_len (by decide +kernel) (pa_cons (pe_dget (hu_of hr) (pv 1) pe_str (fun _ _ => rfl)) pa_nil)) pa_nil))) (fun _ _ => rfl)) pe_int (fun _ _ => rfl))) (pss_cons (ps_set (i := 4) sc_L_row.nd rfl (Or.inl rfl) (pe_ix (ix_listK (K := K)) (pe_lst (pa_cons (pe_op op_add pe_int (pe_call O_L_draw (hr.mono (by decide)) rfl S.g__law_draw F_L_draw.kp (b_L_draw F_L_draw) .nil pass0 (pa_cons (pv 0) (pa_cons pe_int pa_nil)))) (pa_cons (pe_op op_add pe_int (pe_call O_L_draw (hr.mono (by decide)) rfl S.g__law_draw F_L_draw.kp (b_L_draw F_L_draw) .nil pass0 (pa_cons (pv 0) (pa_cons pe_int pa_nil)))) (pa_cons (pe_op op_add pe_int (pe_call O_L_draw (hr.mono (by decide)) rfl S.g__law_draw F_L_draw.kp (b_L_draw F_L_draw) .nil pass0 (pa_cons (pv 0) (pa_cons (pe_op op_pow pe_int pe_int) pa_nil)))) pa_nil)))) (pe_op op_mod (pe_call O_L_draw (hr.mono (by decide)) rfl S.g__law_draw F_L_draw.kp (b_L_draw F_L_draw) .nil pass0 (pa_cons (pv 0) (pa_cons pe_int pa_nil))) pe_int) (fun _ _ => rfl))) (pss_cons (ps_par (i := 5) (j := 6) (by rfl) sc_L_row.nd rfl rfl (by decide) rfl rfl (pa_cons (pe_ix (ix_listK (K := K)) (pe_lst (pa_cons (pe_call O_L_draw (hr.mono (by decide)) rfl S.g__law_draw F_L_draw.kp (b_L_draw F_L_draw) .nil pass0 (pa_cons (pv 0) (pa_cons pe_int pa_nil))) (pa_cons (pe_call O_L_draw (hr.mono (by decide)) rfl S.g__law_draw F_L_draw.kp (b_L_draw F_L_draw) .nil pass0 (pa_cons (pv 0) (pa_cons pe_int pa_nil))) (pa_cons (pe_call O_L_draw (hr.mono (by decide)) rfl S.g__law_draw F_L_draw.kp (b_L_draw F_L_draw) .nil pass0 (pa_cons (pv 0) (pa_cons pe_int pa_nil))) pa_nil)))) (pe_call O_L_draw (hr.mono (by decide)) rfl S.g__law_draw F_L_draw.kp (b_L_draw F_L_draw) .nil pass0 (pa_cons (pv 0) (pa_cons pe_int pa_nil))) (fun _ _ => rfl)) (pa_cons (pe_call O_L_draw (hr.mono (by decide)) rfl S.g__law_draw F_L_draw.kp (b_L_draw F_L_draw) .nil pass0 (pa_cons (pv 0) (pa_cons pe_int pa_nil))) pa_nil)) (by rfl)) (pss_cons (ps_set (i := 7) sc_L_row.nd rfl (Or.inl rfl) (pe_ix (ix_listK (K := K)) (pe_lst (pa_cons pe_int (pa_cons pe_int (pa_cons pe_int (pa_cons (pe_op op_sub (pe_call O_L_draw (hr.mono (by decide)) rfl S.g__law_draw F_L_draw.kp (b_L_draw F_L_draw) .nil pass0 (pa_cons (pv 0) (pa_cons pe_int pa_nil))) pe_int) pa_nil))))) (pe_call O_L_draw (hr.mono (by decide)) rfl S.g__law_draw F_L_draw.kp (b_L_draw F_L_draw) .nil pass0 (pa_cons (pv 0) (pa_cons pe_int pa_nil))) (fun _ _ => rfl))) (pss_one (ps_ret (pe_tup (pa_cons (pv 2) (pa_cons (pv 3) (pa_cons (pv 4) (pa_cons (pv 5) (pa_cons (pv 6) (pa_cons (pv 7) (pa_cons (pe_ix (ix_listK (K := K)) (pe_lst (pa_cons pe_str (pa_cons pe_str pa_nil))) (pe_call O_L_draw (hr.mono (by decide)) rfl S.g__law_draw F_L_draw.kp (b_L_draw F_L_draw) .nil pass0 (pa_cons (pv 0) (pa_cons pe_int pa_nil))) (fun _ _ => rfl)) pa_nil))))))))))))))))⟩
abbrev N_L_deed : List Str := ["_law_row_here"]
theorem sc_L_deed : FnScope N_L_deed ["_law_row_here"] (defScope sL_deed) := ⟨rfl, rfl, rfl, by decide +kernel, rfl, by decide +kernel, by decide +kernel⟩
noncomputable def tm_L_deed (S : Say K mg) {sp_Deed_init : Sp} {fd_Deed_init : FuncData} (F_Deed_init : Def K dDeed_init fd_Deed_init) (O_Deed_init : FnOk P w K mg base CX0 4 (He.fAd K dDeed_init.at_) fd_Deed_init ["self", "name", "event", "mark", "day", "hour", "wind", "course"] sp_Deed_init) {its_Deed_init : List Value} (KB_Deed_init : KBn K fd_Deed_init ["self", "name", "event", "mark", "day", "hour", "wind", "course"] 5 ["hour", "wind", "course"] (fun us ws => us ++ (ws ++ its_Deed_init.drop 3)) (fun vs zs => vs ++ (zs ++ (dDeed_init.dvs K).drop 3))) (f : Addr) (cdv : Value) (A : Around) (outer : List Env) (s : Shared) (H : Hp) (E : XK) (hr : Room 5 (A.deeper (envOfC dL_deed.qual (defScope sL_deed) s.heap.objs.size f cdv)))  : { t : TS // PSs (cxOf CX0 P w K mg base N_L_deed dL_deed.qual (defScope sL_deed) f cdv A outer s H E) (defBody sL_deed) t } :=
  ⟨_, PSs.nox (by exact (pss_one (ps_ret (pe_makeN S.k_Deed O_Deed_init (hr.mono (by decide)) rfl S.g_Deed KB_Deed_init pass0 (pa_cons (pe_ix (ix_tupK (K := K)) (pv 0) pe_int (fun _ _ => rfl)) (pa_cons (pe_ix (ix_tupK (K := K)) (pv 0) pe_int (fun _ _ => rfl)) (pa_cons (pe_ix (ix_tupK (K := K)) (pv 0) pe_int (fun _ _ => rfl)) (pa_cons (pe_ix (ix_tupK (K := K)) (pv 0) pe_int (fun _ _ => rfl)) pa_nil)))) (pk_cons (pe_ix (ix_tupK (K := K)) (pv 0) pe_int (fun _ _ => rfl)) (pk_cons (pe_ix (ix_tupK (K := K)) (pv 0) pe_int (fun _ _ => rfl)) (pk_cons (pe_ix (ix_tupK (K := K)) (pv 0) pe_int (fun _ _ => rfl)) pk_nil)))))))⟩
abbrev N_L_paper : List Str := ["_law_pen_here", "_law_club_here", "_law_seen", "_law_many", "_law_track", "_law_since", "_law_way"]
theorem sc_L_paper : FnScope N_L_paper ["_law_pen_here", "_law_club_here"] (defScope sL_paper) := ⟨rfl, rfl, rfl, by decide +kernel, rfl, by decide +kernel, by decide +kernel⟩
noncomputable def tm_L_paper (S : Say K mg) {sp_L_draw : Sp} {fd_L_draw : FuncData} (F_L_draw : Def K dL_draw fd_L_draw) (O_L_draw : FnOk P w K mg base CX0 1 (He.fAd K dL_draw.at_) fd_L_draw ["_law_pen_here", "_law_many"] sp_L_draw) (f : Addr) (cdv : Value) (A : Around) (outer : List Env) (s : Shared) (H : Hp) (E : XK) (hr : Room 1 (A.deeper (envOfC dL_paper.qual (defScope sL_paper) s.heap.objs.size f cdv)))  : { t : TS // PSs (cxOf CX0 P w K mg base N_L_paper dL_paper.qual (defScope sL_paper) f cdv A outer s H E) (defBody sL_paper) t } :=
  ⟨_, PSs.nox (by exact (pss_cons (ps_par (i := 2) (j := 3) (by rfl) sc_L_paper.nd rfl rfl (by decide) rfl rfl (pa_cons (pe_ix (ix_listK (K := K)) (pe_lst (pa_cons (pe_call O_L_draw (hr.mono (by decide)) rfl S.g__law_draw F_L_draw.kp (b_L_draw F_L_draw) .nil pass0 (pa_cons (pv 0) (pa_cons pe_int pa_nil))) (pa_cons (pe_call O_L_draw (hr.mono (by decide)) rfl S.g__law_draw F_L_draw.kp (b_L_draw F_L_draw) .nil pass0 (pa_cons (pv 0) (pa_cons pe_int pa_nil))) (pa_cons pe_int pa_nil)))) (pe_call O_L_draw (hr.mono (by decide)) rfl S.g__law_draw F_L_draw.kp (b_L_draw F_L_draw) .nil pass0 (pa_cons (pv 0) (pa_cons pe_int pa_nil))) (fun _ _ => rfl)) (pa_cons (pe_callB (call_lenqK (K := K)) (by rfl) S.z_len (by decide +kernel) (pa_cons (pe_dget (hu_of hr) (pv 1) pe_str (fun _ _ => rfl)) pa_nil)) pa_nil)) (by rfl)) (pss_cons (ps_par (i := 4) (j := 5) (by rfl) sc_L_paper.nd rfl rfl (by decide) rfl rfl (pa_cons (pe_ix (ix_listK (K := K)) (pe_lst (pa_cons pe_str (pa_cons pe_str pa_nil))) (pe_call O_L_draw (hr.mono (by decide)) rfl S.g__law_draw F_L_draw.kp (b_L_draw F_L_draw) .nil pass0 (pa_cons (pv 0) (pa_cons pe_int pa_nil))) (fun _ _ => rfl)) (pa_cons (pe_call O_L_draw (hr.mono (by decide)) rfl S.g__law_draw F_L_draw.kp (b_L_draw F_L_draw) .nil pass0 (pa_cons (pv 0) (pa_cons pe_int pa_nil))) pa_nil)) (by rfl)) (pss_cons (ps_set (i := 6) sc_L_paper.nd rfl (Or.inl rfl) (pe_call O_L_draw (hr.mono (by decide)) rfl S.g__law_draw F_L_draw.kp (b_L_draw F_L_draw) .nil pass0 (pa_cons (pv 0) (pa_cons pe_int pa_nil)))) (pss_cons (ps_if (PW.pt (pw_and (pt_cmpR op_lt (pv 6) pe_int (nomark _)) (pw_and1 (pt_cmpR op_gt (pv 3) pe_int (nomark _))))) (pss_one (ps_ret (pe_tup (pa_cons (pe_ix (ix_listK (K := K)) (pe_lst (pa_cons pe_str (pa_cons pe_str (pa_cons pe_str (pa_cons pe_str pa_nil))))) (pv 6) (fun _ _ => rfl)) (pa_cons (pe_call O_L_draw (hr.mono (by decide)) rfl S.g__law_draw F_L_draw.kp (b_L_draw F_L_draw) .nil pass0 (pa_cons (pv 0) (pa_cons (pv 3) pa_nil))) (pa_cons (pv 2) pa_nil)))))) pss_nil) (pss_cons (ps_if (pt_cmpR op_eq (pv 6) pe_int (nomark _)) (pss_one (ps_ret (pe_tup (pa_cons pe_str (pa_cons (pv 4) (pa_cons (pv 2) pa_nil)))))) pss_nil) (pss_one (ps_ret (pe_tup (pa_cons pe_str (pa_cons (pv 4) (pa_cons (pv 5) (pa_cons (pe_op op_add (pv 5) (pe_call O_L_draw (hr.mono (by decide)) rfl S.g__law_draw F_L_draw.kp (b_L_draw F_L_draw) .nil pass0 (pa_cons (pv 0) (pa_cons pe_int pa_nil)))) (pa_cons (pv 2) pa_nil))))))))))))))⟩
abbrev N_L_tell : List Str := ["_law_book", "_law_paper_here"]
theorem sc_L_tell : FnScope N_L_tell ["_law_book", "_law_paper_here"] (defScope sL_tell) := ⟨rfl, rfl, rfl, by decide +kernel, rfl, by decide +kernel, by decide +kernel⟩
noncomputable def tm_L_tell (S : Say K mg) {sp_Book_strike : Sp} {fd_Book_strike : FuncData} (F_Book_strike : Def K dBook_strike fd_Book_strike) (O_Book_strike : FnOk P w K mg base CX0 5 (He.fAd K dBook_strike.at_) fd_Book_strike ["self", "number", "known"] sp_Book_strike) {sp_Book_restore : Sp} {fd_Book_restore : FuncData} (F_Book_restore : Def K dBook_restore fd_Book_restore) (O_Book_restore : FnOk P w K mg base CX0 5 (He.fAd K dBook_restore.at_) fd_Book_restore ["self", "number", "known"] sp_Book_restore) {sp_Book_measure : Sp} {fd_Book_measure : FuncData} (F_Book_measure : Def K dBook_measure fd_Book_measure) (O_Book_measure : FnOk P w K mg base CX0 5 (He.fAd K dBook_measure.at_) fd_Book_measure ["self", "course", "since", "till", "known"] sp_Book_measure) {sp_Book_uphold : Sp} {fd_Book_uphold : FuncData} (F_Book_uphold : Def K dBook_uphold fd_Book_uphold) (O_Book_uphold : FnOk P w K mg base CX0 5 (He.fAd K dBook_uphold.at_) fd_Book_uphold ["self", "course", "known"] sp_Book_uphold) (f : Addr) (cdv : Value) (A : Around) (outer : List Env) (s : Shared) (H : Hp) (E : XK) (hr : Room 5 (A.deeper (envOfC dL_tell.qual (defScope sL_tell) s.heap.objs.size f cdv)))  : { t : TS // PSs (cxOf CX0 P w K mg base N_L_tell dL_tell.qual (defScope sL_tell) f cdv A outer s H E) (defBody sL_tell) t } :=
  ⟨_, PSs.nox (by exact (pss_cons (ps_if (pt_cmpR op_eq (pe_ix (ix_tupK (K := K)) (pv 1) pe_int (fun _ _ => rfl)) pe_str (nomark _)) (pss_one (ps_ret (pe_meth (pv 0) S.c_Book S.m_Book_strike O_Book_strike (hr.mono (by decide)) (b_Book_strike F_Book_strike) .nil pass0 (pa_cons (pe_ix (ix_tupK (K := K)) (pv 1) pe_int (fun _ _ => rfl)) (pa_cons (pe_ix (ix_tupK (K := K)) (pv 1) pe_int (fun _ _ => rfl)) pa_nil))))) pss_nil) (pss_cons (ps_if (pt_cmpR op_eq (pe_ix (ix_tupK (K := K)) (pv 1) pe_int (fun _ _ => rfl)) pe_str (nomark _)) (pss_one (ps_ret (pe_methN (pv 0) S.c_Book S.m_Book_restore O_Book_restore (hr.mono (by decide)) (kb_Book_restore F_Book_restore) pass0 (pa_cons (pe_ix (ix_tupK (K := K)) (pv 1) pe_int (fun _ _ => rfl)) pa_nil) (pk_cons (pe_ix (ix_tupK (K := K)) (pv 1) pe_int (fun _ _ => rfl)) pk_nil)))) pss_nil) (pss_cons (ps_if (pt_cmpR op_eq (pe_ix (ix_tupK (K := K)) (pv 1) pe_int (fun _ _ => rfl)) pe_str (nomark _)) (pss_one (ps_ret (pe_meth (pv 0) S.c_Book S.m_Book_uphold O_Book_uphold (hr.mono (by decide)) (b_Book_uphold F_Book_uphold) .nil pass0 (pa_cons (pe_ix (ix_tupK (K := K)) (pv 1) pe_int (fun _ _ => rfl)) (pa_cons (pe_ix (ix_tupK (K := K)) (pv 1) pe_int (fun _ _ => rfl)) pa_nil))))) pss_nil) (pss_one (ps_ret (pe_methN (pv 0) S.c_Book S.m_Book_measure O_Book_measure (hr.mono (by decide)) (kb_Book_measure F_Book_measure) pass0 (pa_cons (pe_ix (ix_tupK (K := K)) (pv 1) pe_int (fun _ _ => rfl)) (pa_cons (pe_ix (ix_tupK (K := K)) (pv 1) pe_int (fun _ _ => rfl)) pa_nil)) (pk_cons (pe_ix (ix_tupK (K := K)) (pv 1) pe_int (fun _ _ => rfl)) (pk_cons (pe_ix (ix_tupK (K := K)) (pv 1) pe_int (fun _ _ => rfl)) pk_nil)))))))))⟩
abbrev N_L_bests : List Str := ["_law_club_here", "_law_found", "_law_event", "_law_side", "_law_rank", "_law_person"]
theorem sc_L_bests : FnScope N_L_bests ["_law_club_here"] (defScope sL_bests) := ⟨rfl, rfl, rfl, by decide +kernel, rfl, by decide +kernel, by decide +kernel⟩
noncomputable def tm_L_bests (S : Say K mg)  (f : Addr) (cdv : Value) (A : Around) (outer : List Env) (s : Shared) (H : Hp) (E : XK) (hr : Room 0 (A.deeper (envOfC dL_bests.qual (defScope sL_bests) s.heap.objs.size f cdv)))  : { t : TS // PSs (cxOf CX0 P w K mg base N_L_bests dL_bests.qual (defScope sL_bests) f cdv A outer s H E) (defBody sL_bests) t } :=
  ⟨_, PSs.nox (by exact (pss_cons (ps_set (i := 1) sc_L_bests.nd rfl (Or.inl rfl) (pe_lst pa_nil)) (pss_cons (ps_for PassesOwn.never rfl (pi_tupK (K := K) (pe_dget (hu_of hr) (pv 0) pe_str (fun _ _ => rfl))) (pg_name (i := 2) sc_L_bests.nd rfl (Or.inl rfl)) (pss_one (ps_for PassesOwn.never rfl (pi_listK (K := K) (pe_op op_cat (pe_lst (pa_cons pe_non pa_nil)) (pe_callB (srt_str (P := P) (w := w) rfl rfl rfl (hu20 hr)) (by rfl) S.z_sorted (by decide +kernel) (pa_cons (pe_callTy (cr_setLK (P := P) (w := w) (K := K) rfl rfl rfl rfl) (by rfl) S.z_set (by decide +kernel) (pa_cons (pe_lock (pe_lc (own := [("_law_person", 5)]) (g := (gName 5)) (by rfl) sc_L_bests.nd (pi_values (pe_dget (hu_of hr) (pv 0) pe_str (fun _ _ => rfl))) (blkOk_by (own := [("_law_person", 5)]) (N := N_L_bests) (sc := (defScope sL_bests)) (by decide +kernel)) (fun _ _ _ _ _ => (pg_name (i := 5) sc_L_bests.nd rfl (Or.inl rfl))) (fun _ _ _ _ _ => pts_nil) (fun _ _ _ _ _ => (pe_ix (ix_tupK (K := K)) (pv 5) pe_int (fun _ _ => rfl))))) pa_nil)) pa_nil)))) (pg_name (i := 3) sc_L_bests.nd rfl (Or.inl rfl)) (pss_one (ps_for PassesOwn.never rfl (pi_range1 (by rfl) S.z_range (pa_cons (pe_op op_add (pe_callB (call_lenqK (K := K)) (by rfl) S.z_len (by decide +kernel) (pa_cons (pe_ix (ix_tupK (K := K)) (pe_dget (hu_of hr) (pv 0) pe_str (fun _ _ => rfl)) pe_int (fun _ _ => rfl)) pa_nil)) pe_int) pa_nil)) (pg_name (i := 4) sc_L_bests.nd rfl (Or.inl rfl)) (pss_one (ps_expr (pe_bmK (K := K) PySem.F.plainAttrs_list PySem.F.slot_list_append PySem.F.type_list_append mt_append (pv 1) (pa_cons (pe_tup (pa_cons (pe_ix (ix_tupK (K := K)) (pv 2) pe_int (fun _ _ => rfl)) (pa_cons (pv 3) (pa_cons (pv 4) pa_nil)))) pa_nil))))))))) (pss_one (ps_ret (pv 1))))))⟩
abbrev N_L_some_best : List Str := ["_law_pen_here", "_law_club_here", "_law_bests_here"]
theorem sc_L_some_best : FnScope N_L_some_best ["_law_pen_here", "_law_club_here"] (defScope sL_some_best) := ⟨rfl, rfl, rfl, by decide +kernel, rfl, by decide +kernel, by decide +kernel⟩
noncomputable def tm_L_some_best (S : Say K mg) {sp_L_draw : Sp} {fd_L_draw : FuncData} (F_L_draw : Def K dL_draw fd_L_draw) (O_L_draw : FnOk P w K mg base CX0 1 (He.fAd K dL_draw.at_) fd_L_draw ["_law_pen_here", "_law_many"] sp_L_draw) {sp_L_bests : Sp} {fd_L_bests : FuncData} (F_L_bests : Def K dL_bests fd_L_bests) (O_L_bests : FnOk P w K mg base CX0 1 (He.fAd K dL_bests.at_) fd_L_bests ["_law_club_here"] sp_L_bests) (f : Addr) (cdv : Value) (A : Around) (outer : List Env) (s : Shared) (H : Hp) (E : XK) (hr : Room 1 (A.deeper (envOfC dL_some_best.qual (defScope sL_some_best) s.heap.objs.size f cdv)))  : { t : TS // PSs (cxOf CX0 P w K mg base N_L_some_best dL_some_best.qual (defScope sL_some_best) f cdv A outer s H E) (defBody sL_some_best) t } :=
  ⟨_, PSs.nox (by exact (pss_cons (ps_set (i := 2) sc_L_some_best.nd rfl (Or.inl rfl) (pe_call O_L_bests (hr.mono (by decide)) rfl S.g__law_bests F_L_bests.kp (b_L_bests F_L_bests) .nil pass0 (pa_cons (pv 1) pa_nil))) (pss_one (ps_ret (pe_ix (ix_listK (K := K)) (pv 2) (pe_call O_L_draw (hr.mono (by decide)) rfl S.g__law_draw F_L_draw.kp (b_L_draw F_L_draw) .nil pass0 (pa_cons (pv 0) (pa_cons (pe_callB (call_lenqK (K := K)) (by rfl) S.z_len (by decide +kernel) (pa_cons (pv 2) pa_nil)) pa_nil))) (fun _ _ => rfl))))))⟩
abbrev N_L_mixed : List Str := ["_law_pen_here", "_law_things", "_law_rest", "_law_drawn"]
theorem sc_L_mixed : FnScope N_L_mixed ["_law_pen_here", "_law_things"] (defScope sL_mixed) := ⟨rfl, rfl, rfl, by decide +kernel, rfl, by decide +kernel, by decide +kernel⟩
noncomputable def tm_L_mixed (S : Say K mg) {sp_L_draw : Sp} {fd_L_draw : FuncData} (F_L_draw : Def K dL_draw fd_L_draw) (O_L_draw : FnOk P w K mg base CX0 1 (He.fAd K dL_draw.at_) fd_L_draw ["_law_pen_here", "_law_many"] sp_L_draw) (f : Addr) (cdv : Value) (A : Around) (outer : List Env) (s : Shared) (H : Hp) (E : XK) (hr : Room 1 (A.deeper (envOfC dL_mixed.qual (defScope sL_mixed) s.heap.objs.size f cdv)))  : { t : TS // PSs (cxOf CX0 P w K mg base N_L_mixed dL_mixed.qual (defScope sL_mixed) f cdv A outer s H E) (defBody sL_mixed) t } :=
  ⟨_, PSs.nox (by exact (pss_cons (ps_par (i := 2) (j := 3) (by rfl) sc_L_mixed.nd rfl rfl (by decide) rfl rfl (pa_cons (pe_callTy (call_listK (K := K)) (by rfl) S.z_list (by decide +kernel) (pa_cons (pv 1) pa_nil)) (pa_cons (pe_lst pa_nil) pa_nil)) (by rfl)) (pss_cons (ps_while PassesOwn.never (pt_cmpR (op_neDK (K := K) hr.units) (pv 2) (pe_lst pa_nil) (nomark _)) (pss_one (ps_expr (pe_bmK (K := K) PySem.F.plainAttrs_list PySem.F.slot_list_append PySem.F.type_list_append mt_append (pv 3) (pa_cons (pe_bmK (K := K) PySem.F.plainAttrs_list PySem.F.slot_list_pop PySem.F.type_list_pop mt_popAt (pv 2) (pa_cons (pe_call O_L_draw (hr.mono (by decide)) rfl S.g__law_draw F_L_draw.kp (b_L_draw F_L_draw) .nil pass0 (pa_cons (pv 0) (pa_cons (pe_callB (call_lenqK (K := K)) (by rfl) S.z_len (by decide +kernel) (pa_cons (pv 2) pa_nil)) pa_nil))) pa_nil)) pa_nil))))) (pss_one (ps_ret (pv 3))))))⟩
abbrev N_L_told_so : List Str := ["_law_pen_here", "_law_club_here", "_law_rows", "_law_papers", "_law_book", "_law_numbers", "_law_row_here", "_law_seen", "_law_paper_here"]
theorem sc_L_told_so : FnScope N_L_told_so ["_law_pen_here", "_law_club_here", "_law_rows", "_law_papers"] (defScope sL_told_so) := ⟨rfl, rfl, rfl, by decide +kernel, rfl, by decide +kernel, by decide +kernel⟩
noncomputable def tm_L_told_so (S : Say K mg) {sp_Book_tell : Sp} {fd_Book_tell : FuncData} (F_Book_tell : Def K dBook_tell fd_Book_tell) (O_Book_tell : FnOk P w K mg base CX0 5 (He.fAd K dBook_tell.at_) fd_Book_tell ["self", "deed", "known"] sp_Book_tell) {its_Book_tell : List Value} (KB_Book_tell : KBn K fd_Book_tell ["self", "deed", "known"] 2 ["known"] (fun us ws => us ++ (ws ++ its_Book_tell.drop 1)) (fun vs zs => vs ++ (zs ++ (dBook_tell.dvs K).drop 1))) {sp_L_made : Sp} {fd_L_made : FuncData} (F_L_made : Def K dL_made fd_L_made) (O_L_made : FnOk P w K mg base CX0 6 (He.fAd K dL_made.at_) fd_L_made ["_law_club_here"] sp_L_made) {sp_L_deed : Sp} {fd_L_deed : FuncData} (F_L_deed : Def K dL_deed fd_L_deed) (O_L_deed : FnOk P w K mg base CX0 6 (He.fAd K dL_deed.at_) fd_L_deed ["_law_row_here"] sp_L_deed) {sp_L_tell : Sp} {fd_L_tell : FuncData} (F_L_tell : Def K dL_tell fd_L_tell) (O_L_tell : FnOk P w K mg base CX0 6 (He.fAd K dL_tell.at_) fd_L_tell ["_law_book", "_law_paper_here"] sp_L_tell) {sp_L_mixed : Sp} {fd_L_mixed : FuncData} (F_L_mixed : Def K dL_mixed fd_L_mixed) (O_L_mixed : FnOk P w K mg base CX0 2 (He.fAd K dL_mixed.at_) fd_L_mixed ["_law_pen_here", "_law_things"] sp_L_mixed) (f : Addr) (cdv : Value) (A : Around) (outer : List Env) (s : Shared) (H : Hp) (E : XK) (hr : Room 6 (A.deeper (envOfC dL_told_so.qual (defScope sL_told_so) s.heap.objs.size f cdv)))  : { t : TS // PSs (cxOf CX0 P w K mg base N_L_told_so dL_told_so.qual (defScope sL_told_so) f cdv A outer s H E) (defBody sL_told_so) t } :=
  ⟨_, PSs.nox (by exact (pss_cons (ps_par (i := 4) (j := 5) (by rfl) sc_L_told_so.nd rfl rfl (by decide) rfl rfl (pa_cons (pe_call O_L_made (hr.mono (by decide)) rfl S.g__law_made F_L_made.kp (b_L_made F_L_made) .nil pass0 (pa_cons (pv 1) pa_nil)) (pa_cons pe_dnewT pa_nil)) (by rfl)) (pss_cons (ps_for PassesOwn.never rfl (pi_listK (K := K) (pe_call O_L_mixed (hr.mono (by decide)) rfl S.g__law_mixed F_L_mixed.kp (b_L_mixed F_L_mixed) .nil pass0 (pa_cons (pv 0) (pa_cons (pv 2) pa_nil)))) (pg_tupK (K := K) rfl (pgs_cons (pg_name (i := 6) sc_L_told_so.nd rfl (Or.inl rfl)) (pgs_cons (pg_name (i := 7) sc_L_told_so.nd rfl (Or.inl rfl)) pgs_nil))) (pss_one (ps_dput (hu_of hr) (pv 5) (pv 6) (pe_methN (pv 4) S.c_Book S.m_Book_tell O_Book_tell (hr.mono (by decide)) KB_Book_tell pass0 (pa_cons (pe_call O_L_deed (hr.mono (by decide)) rfl S.g__law_deed F_L_deed.kp (b_L_deed F_L_deed) .nil pass0 (pa_cons (pv 6) pa_nil)) pa_nil) (pk_cons (pv 7) pk_nil)) rfl))) (pss_cons (ps_for PassesOwn.never rfl (pi_listK (K := K) (pe_call O_L_mixed (hr.mono (by decide)) rfl S.g__law_mixed F_L_mixed.kp (b_L_mixed F_L_mixed) .nil pass0 (pa_cons (pv 0) (pa_cons (pv 3) pa_nil)))) (pg_name (i := 8) sc_L_told_so.nd rfl (Or.inl rfl)) (pss_cons (ps_if (pt_cmpR (op_inK (K := K)) (pe_ix (ix_tupK (K := K)) (pv 8) pe_int (fun _ _ => rfl)) (pe_tup (pa_cons pe_str (pa_cons pe_str pa_nil))) (by rfl)) (pss_one (ps_set (i := 8) sc_L_told_so.nd rfl (Or.inl rfl) (pe_tup (pa_cons (pe_ix (ix_tupK (K := K)) (pv 8) pe_int (fun _ _ => rfl)) (pa_cons (pe_dget (hu_of hr) (pv 5) (pe_ix (ix_tupK (K := K)) (pe_ix (ix_listK (K := K)) (pv 2) (pe_ix (ix_tupK (K := K)) (pv 8) pe_int (fun _ _ => rfl)) (fun _ _ => rfl)) pe_int (fun _ _ => rfl)) (fun _ _ => rfl)) (pa_cons (pe_ix (ix_tupK (K := K)) (pv 8) pe_int (fun _ _ => rfl)) pa_nil)))))) pss_nil) (pss_one (ps_expr (pe_call O_L_tell (hr.mono (by decide)) rfl S.g__law_tell F_L_tell.kp (b_L_tell F_L_tell) .nil pass0 (pa_cons (pv 4) (pa_cons (pv 8) pa_nil))))))) (pss_one (ps_ret (pe_tup (pa_cons (pv 4) (pa_cons (pv 5) pa_nil)))))))))⟩
abbrev N_L_all : List Str := ["_law_book", "_law_numbers", "_law_bests_here", "_law_days", "_law_deeds", "_law_row_here", "_law_found", "_law_event", "_law_side", "_law_rank", "_law_seen", "_law_some", "_law_one"]
theorem sc_L_all : FnScope N_L_all ["_law_book", "_law_numbers", "_law_bests_here", "_law_days"] (defScope sL_all) := ⟨rfl, rfl, rfl, by decide +kernel, rfl, by decide +kernel, by decide +kernel⟩
noncomputable def tm_L_all (S : Say K mg) {sp_Book_state : Sp} {fd_Book_state : FuncData} (F_Book_state : Def K dBook_state fd_Book_state) (O_Book_state : FnOk P w K mg base CX0 6 (He.fAd K dBook_state.at_) fd_Book_state ["self", "number", "known"] sp_Book_state) {sp_Book_stints : Sp} {fd_Book_stints : FuncData} (F_Book_stints : Def K dBook_stints fd_Book_stints) (O_Book_stints : FnOk P w K mg base CX0 8 (He.fAd K dBook_stints.at_) fd_Book_stints ["self", "event", "group", "place", "known"] sp_Book_stints) {its_Book_stints : List Value} (KB_Book_stints : KBn K fd_Book_stints ["self", "event", "group", "place", "known"] 2 ["group", "place", "known"] (fun us ws => us ++ (ws ++ its_Book_stints.drop 3)) (fun vs zs => vs ++ (zs ++ (dBook_stints.dvs K).drop 3))) {sp_Book_holders : Sp} {fd_Book_holders : FuncData} (F_Book_holders : Def K dBook_holders fd_Book_holders) (O_Book_holders : FnOk P w K mg base CX0 9 (He.fAd K dBook_holders.at_) fd_Book_holders ["self", "event", "group", "place", "day", "known"] sp_Book_holders) {its_Book_holders : List Value} (KB_Book_holders : KBn K fd_Book_holders ["self", "event", "group", "place", "day", "known"] 2 ["group", "place", "day"] (fun us ws => us ++ (ws ++ its_Book_holders.drop 3)) (fun vs zs => vs ++ (zs ++ (dBook_holders.dvs K).drop 3))) (f : Addr) (cdv : Value) (A : Around) (outer : List Env) (s : Shared) (H : Hp) (E : XK) (hr : Room 9 (A.deeper (envOfC dL_all.qual (defScope sL_all) s.heap.objs.size f cdv)))  : { t : TS // PSs (cxOf CX0 P w K mg base N_L_all dL_all.qual (defScope sL_all) f cdv A outer s H E) (defBody sL_all) t } :=
  ⟨_, PSs.nox (by exact (pss_cons (ps_set (i := 4) sc_L_all.nd rfl (Or.inr rfl) pe_dnewK) (pss_cons (ps_for PassesOwn.never rfl (pi_listK (K := K) (pe_callB (cr_sortDT rfl (hu20 hr)) (by rfl) S.z_sorted (by decide +kernel) (pa_cons (pv 1) pa_nil))) (pg_name (i := 5) sc_L_all.nd rfl (Or.inl rfl)) (pss_one (ps_dput (hu_of hr) (pv 4) (pe_dget (hu_of hr) (pv 1) (pv 5) (fun _ _ => rfl)) (pv 5) rfl))) (pss_cons (ps_set (i := 6) sc_L_all.nd rfl (Or.inl rfl) (pe_lst pa_nil)) (pss_cons (ps_for PassesOwn.never rfl (pi_listK (K := K) (pv 2)) (pg_tupK (K := K) rfl (pgs_cons (pg_name (i := 7) sc_L_all.nd rfl (Or.inl rfl)) (pgs_cons (pg_name (i := 8) sc_L_all.nd rfl (Or.inl rfl)) (pgs_cons (pg_name (i := 9) sc_L_all.nd rfl (Or.inl rfl)) pgs_nil)))) (pss_one (ps_for PassesOwn.never rfl (pi_listK (K := K) (pv 3)) (pg_name (i := 10) sc_L_all.nd rfl (Or.inl rfl)) (pss_cons (ps_set (i := 11) sc_L_all.nd rfl (Or.inl rfl) (pe_methN (pv 0) S.c_Book S.m_Book_stints O_Book_stints (hr.mono (by decide)) KB_Book_stints pass0 (pa_cons (pv 7) pa_nil) (pk_cons (pv 8) (pk_cons (pv 9) (pk_cons (pv 10) pk_nil))))) (pss_cons (ps_expr (pe_bmK (K := K) PySem.F.plainAttrs_list PySem.F.slot_list_append PySem.F.type_list_append mt_append (pv 6) (pa_cons (pe_lc (own := [("_law_one", 12)]) (g := (gName 12)) (by rfl) sc_L_all.nd (pi_listK (K := K) (pv 11)) (blkOk_by (own := [("_law_one", 12)]) (N := N_L_all) (sc := (defScope sL_all)) (by decide +kernel)) (fun _ _ _ _ _ => (pg_name (i := 12) sc_L_all.nd rfl (Or.inl rfl))) (fun _ _ _ _ _ => pts_nil) (fun _ _ _ _ _ => (pe_op (op_catAK (K := K)) (pe_tup (pa_cons (pe_dget (hu_of hr) (pv 4) (pe_ix (ix_tupK (K := K)) (pv 12) pe_int (fun _ _ => rfl)) (fun _ _ => rfl)) pa_nil)) (pe_slice (sl_tupAK (K := K)) (pv 12) (po_some pe_int) po_none)))) pa_nil))) (pss_one (ps_expr (pe_bmK (K := K) PySem.F.plainAttrs_list PySem.F.slot_list_append PySem.F.type_list_append mt_append (pv 6) (pa_cons (pe_methN (pv 0) S.c_Book S.m_Book_holders O_Book_holders (hr.mono (by decide)) KB_Book_holders pass0 (pa_cons (pv 7) pa_nil) (pk_cons (pv 8) (pk_cons (pv 9) (pk_cons (pv 10) pk_nil)))) pa_nil))))))))) (pss_one (ps_ret (pe_op op_cat (pv 6) (pe_lc (own := [("_law_row_here", 5)]) (g := (gName 5)) (by rfl) sc_L_all.nd (pi_listK (K := K) (pe_callB (cr_sortDT rfl (hu20 hr)) (by rfl) S.z_sorted (by decide +kernel) (pa_cons (pv 1) pa_nil))) (blkOk_by (own := [("_law_row_here", 5)]) (N := N_L_all) (sc := (defScope sL_all)) (by decide +kernel)) (fun _ _ _ _ _ => (pg_name (i := 5) sc_L_all.nd rfl (Or.inr rfl))) (fun _ _ _ _ _ => pts_nil) (fun _ _ _ _ _ => (pe_lc (own := [("_law_seen", 10)]) (g := (gName 10)) (by rfl) sc_L_all.nd (pi_listK (K := K) (pv 3)) (blkOk_by (own := [("_law_seen", 10)]) (N := N_L_all) (sc := scIn_L_all) (by decide +kernel)) (fun _ _ _ _ _ => (pg_name (i := 10) sc_L_all.nd rfl (Or.inl rfl))) (fun _ _ _ _ _ => pts_nil) (fun _ _ _ _ _ => (pe_meth (pv 0) S.c_Book S.m_Book_state O_Book_state (hr.mono (by decide)) (b_Book_state F_Book_state) .nil pass0 (pa_cons (pe_dget (hu_of hr) (pv 1) (pv 5) (fun _ _ => rfl)) (pa_cons (pv 10) pa_nil)))))))))))))))⟩
abbrev N__law : List Str := ["_law_script", "_law_pen_here", "_law_club_here", "_law_rows", "_law_papers", "_law_lap", "_law_row_here", "_law_paper_here", "_law_one", "_law_mine", "_law_other", "_law_its", "_law_days", "_law_bests_here", "_law_seen"]
theorem sc__law : FnScope N__law ["_law_script"] (defScope s_law) := ⟨rfl, rfl, rfl, by decide +kernel, rfl, by decide +kernel, by decide +kernel⟩
noncomputable def tm__law (S : Say K mg) {sp_Book_len : Sp} {fd_Book_len : FuncData} (F_Book_len : Def K dBook_len fd_Book_len) (O_Book_len : FnOk P w K mg base CX0 1 (He.fAd K dBook_len.at_) fd_Book_len ["self"] sp_Book_len) {sp_L_cell : Sp} {fd_L_cell : FuncData} (F_L_cell : Def K dL_cell fd_L_cell) (O_L_cell : FnOk P w K mg base CX0 1 (He.fAd K dL_cell.at_) fd_L_cell ["_law_script", "_law_k"] sp_L_cell) {sp_L_pen : Sp} {fd_L_pen : FuncData} (F_L_pen : Def K dL_pen fd_L_pen) (O_L_pen : FnOk P w K mg base CX0 1 (He.fAd K dL_pen.at_) fd_L_pen ["_law_cell_here"] sp_L_pen) {sp_L_draw : Sp} {fd_L_draw : FuncData} (F_L_draw : Def K dL_draw fd_L_draw) (O_L_draw : FnOk P w K mg base CX0 1 (He.fAd K dL_draw.at_) fd_L_draw ["_law_pen_here", "_law_many"] sp_L_draw) {sp_L_club : Sp} {fd_L_club : FuncData} (F_L_club : Def K dL_club fd_L_club) (O_L_club : FnOk P w K mg base CX0 3 (He.fAd K dL_club.at_) fd_L_club ["_law_pen_here"] sp_L_club) {sp_L_row : Sp} {fd_L_row : FuncData} (F_L_row : Def K dL_row fd_L_row) (O_L_row : FnOk P w K mg base CX0 2 (He.fAd K dL_row.at_) fd_L_row ["_law_pen_here", "_law_club_here"] sp_L_row) {sp_L_paper : Sp} {fd_L_paper : FuncData} (F_L_paper : Def K dL_paper fd_L_paper) (O_L_paper : FnOk P w K mg base CX0 2 (He.fAd K dL_paper.at_) fd_L_paper ["_law_pen_here", "_law_club_here"] sp_L_paper) {sp_L_some_best : Sp} {fd_L_some_best : FuncData} (F_L_some_best : Def K dL_some_best fd_L_some_best) (O_L_some_best : FnOk P w K mg base CX0 2 (He.fAd K dL_some_best.at_) fd_L_some_best ["_law_pen_here", "_law_club_here"] sp_L_some_best) {sp_L_told_so : Sp} {fd_L_told_so : FuncData} (F_L_told_so : Def K dL_told_so fd_L_told_so) (O_L_told_so : FnOk P w K mg base CX0 7 (He.fAd K dL_told_so.at_) fd_L_told_so ["_law_pen_here", "_law_club_here", "_law_rows", "_law_papers"] sp_L_told_so) {sp_L_all : Sp} {fd_L_all : FuncData} (F_L_all : Def K dL_all fd_L_all) (O_L_all : FnOk P w K mg base CX0 10 (He.fAd K dL_all.at_) fd_L_all ["_law_book", "_law_numbers", "_law_bests_here", "_law_days"] sp_L_all) (f : Addr) (cdv : Value) (A : Around) (outer : List Env) (s : Shared) (H : Hp) (E : XK) (hr : Room 10 (A.deeper (envOfC d_law.qual (defScope s_law) s.heap.objs.size f cdv)))  : { t : TS // PSs (cxOf CX0 P w K mg base N__law d_law.qual (defScope s_law) f cdv A outer s H E) (defBody s_law) t } :=
  ⟨_, PSs.nox (by exact (pss_cons (ps_set (i := 1) sc__law.nd rfl (Or.inr rfl) (pe_call O_L_pen (hr.mono (by decide)) rfl S.g__law_pen F_L_pen.kp (b_L_pen F_L_pen) .nil pass0 (pa_cons (pe_call O_L_cell (hr.mono (by decide)) rfl S.g__law_cell F_L_cell.kp (b_L_cell F_L_cell) .nil pass0 (pa_cons (pv 0) (pa_cons pe_int pa_nil))) pa_nil))) (pss_cons (ps_asg (pe_tup (pa_cons (pe_call O_L_club (hr.mono (by decide)) rfl S.g__law_club F_L_club.kp (b_L_club F_L_club) .nil pass0 (pa_cons (pv 1) pa_nil)) (pa_cons (pe_lst pa_nil) (pa_cons (pe_lst pa_nil) pa_nil)))) (pg_tupK (K := K) rfl (pgs_cons (pg_name (i := 2) sc__law.nd rfl (Or.inr rfl)) (pgs_cons (pg_name (i := 3) sc__law.nd rfl (Or.inl rfl)) (pgs_cons (pg_name (i := 4) sc__law.nd rfl (Or.inl rfl)) pgs_nil))))) (pss_cons (ps_for PassesOwn.never rfl (pi_range1 (by rfl) S.z_range (pa_cons (pe_call O_L_draw (hr.mono (by decide)) rfl S.g__law_draw F_L_draw.kp (b_L_draw F_L_draw) .nil pass0 (pa_cons (pv 1) (pa_cons pe_int pa_nil))) pa_nil)) (pg_name (i := 5) sc__law.nd rfl (Or.inl rfl)) (pss_cons (ps_set (i := 6) sc__law.nd rfl (Or.inl rfl) (pe_call O_L_row (hr.mono (by decide)) rfl S.g__law_row F_L_row.kp (b_L_row F_L_row) .nil pass0 (pa_cons (pv 1) (pa_cons (pv 2) pa_nil)))) (pss_one (ps_if (pt_cmpR (op_notInDK (K := K) (hu65 hr)) (pe_slice (sl_tupAK (K := K)) (pv 6) (po_some pe_int) (po_some pe_int)) (pe_lc (own := [("_law_one", 8), ("_law_seen", 14)]) (g := (gTup K 2 (gCons (gName 8) (gCons (gName 14) gNil)))) (by rfl) sc__law.nd (pi_listK (K := K) (pv 3)) (blkOk_by (own := [("_law_one", 8), ("_law_seen", 14)]) (N := N__law) (sc := (defScope s_law)) (by decide +kernel)) (fun _ _ _ _ _ => (pg_tupK (K := K) rfl (pgs_cons (pg_name (i := 8) sc__law.nd rfl (Or.inl rfl)) (pgs_cons (pg_name (i := 14) sc__law.nd rfl (Or.inl rfl)) pgs_nil)))) (fun _ _ _ _ _ => pts_nil) (fun _ _ _ _ _ => (pe_slice (sl_tupAK (K := K)) (pv 8) (po_some pe_int) (po_some pe_int)))) (by rfl)) (pss_one (ps_expr (pe_bmK (K := K) PySem.F.plainAttrs_list PySem.F.slot_list_append PySem.F.type_list_append mt_append (pv 3) (pa_cons (pe_tup (pa_cons (pv 6) (pa_cons (pe_callB (call_min2 rfl) (by rfl) S.z_min (by decide +kernel) (pa_cons pe_int (pa_cons (pe_op op_add (pe_ix (ix_tupK (K := K)) (pv 6) pe_int (fun _ _ => rfl)) (pe_call O_L_draw (hr.mono (by decide)) rfl S.g__law_draw F_L_draw.kp (b_L_draw F_L_draw) .nil pass0 (pa_cons (pv 1) (pa_cons pe_int pa_nil)))) pa_nil))) pa_nil))) pa_nil)))) pss_nil)))) (pss_cons (ps_dput (hu_of hr) (pv 2) pe_str (pe_callTy (call_tupleK (K := K)) (by rfl) S.z_tuple (by decide +kernel) (pa_cons (pv 3) pa_nil)) rfl) (pss_cons (ps_for PassesOwn.never rfl (pi_range1 (by rfl) S.z_range (pa_cons (pe_call O_L_draw (hr.mono (by decide)) rfl S.g__law_draw F_L_draw.kp (b_L_draw F_L_draw) .nil pass0 (pa_cons (pv 1) (pa_cons pe_int pa_nil))) pa_nil)) (pg_name (i := 5) sc__law.nd rfl (Or.inl rfl)) (pss_cons (ps_set (i := 7) sc__law.nd rfl (Or.inl rfl) (pe_call O_L_paper (hr.mono (by decide)) rfl S.g__law_paper F_L_paper.kp (b_L_paper F_L_paper) .nil pass0 (pa_cons (pv 1) (pa_cons (pv 2) pa_nil)))) (pss_one (ps_if (pt_cmpR (op_notInK (K := K)) (pe_ix (ix_tupK (K := K)) (pv 7) (pe_un un_neg pe_int) (fun _ _ => rfl)) (pe_lc (own := [("_law_one", 8)]) (g := (gName 8)) (by rfl) sc__law.nd (pi_listK (K := K) (pv 4)) (blkOk_by (own := [("_law_one", 8)]) (N := N__law) (sc := (defScope s_law)) (by decide +kernel)) (fun _ _ _ _ _ => (pg_name (i := 8) sc__law.nd rfl (Or.inl rfl))) (fun _ _ _ _ _ => pts_nil) (fun _ _ _ _ _ => (pe_ix (ix_tupK (K := K)) (pv 8) (pe_un un_neg pe_int) (fun _ _ => rfl)))) (by rfl)) (pss_one (ps_expr (pe_bmK (K := K) PySem.F.plainAttrs_list PySem.F.slot_list_append PySem.F.type_list_append mt_append (pv 4) (pa_cons (pv 7) pa_nil)))) pss_nil)))) (pss_cons (ps_asg (pe_call O_L_told_so (hr.mono (by decide)) rfl S.g__law_told_so F_L_told_so.kp (b_L_told_so F_L_told_so) .nil pass0 (pa_cons (pv 1) (pa_cons (pv 2) (pa_cons (pv 3) (pa_cons (pv 4) pa_nil))))) (pg_tupK (K := K) rfl (pgs_cons (pg_name (i := 8) sc__law.nd rfl (Or.inl rfl)) (pgs_cons (pg_name (i := 9) sc__law.nd rfl (Or.inl rfl)) pgs_nil)))) (pss_cons (ps_asg (pe_call O_L_told_so (hr.mono (by decide)) rfl S.g__law_told_so F_L_told_so.kp (b_L_told_so F_L_told_so) .nil pass0 (pa_cons (pv 1) (pa_cons (pv 2) (pa_cons (pv 3) (pa_cons (pv 4) pa_nil))))) (pg_tupK (K := K) rfl (pgs_cons (pg_name (i := 10) sc__law.nd rfl (Or.inl rfl)) (pgs_cons (pg_name (i := 11) sc__law.nd rfl (Or.inl rfl)) pgs_nil)))) (pss_cons (ps_set (i := 12) sc__law.nd rfl (Or.inl rfl) (pe_lst (pa_cons pe_int (pa_cons (pe_call O_L_draw (hr.mono (by decide)) rfl S.g__law_draw F_L_draw.kp (b_L_draw F_L_draw) .nil pass0 (pa_cons (pv 1) (pa_cons pe_int pa_nil))) (pa_cons (pe_call O_L_draw (hr.mono (by decide)) rfl S.g__law_draw F_L_draw.kp (b_L_draw F_L_draw) .nil pass0 (pa_cons (pv 1) (pa_cons pe_int pa_nil))) pa_nil))))) (pss_cons (ps_setLc (i := 13) (own := [("_law_lap", 5)]) (g := (gName 5)) (by rfl) sc__law.nd rfl rfl (sw_true rfl rfl rfl (by decide +kernel)) (pi_range1 (by rfl) S.z_range (pa_cons pe_int pa_nil)) (blkOk_by (own := [("_law_lap", 5)]) (N := N__law) (sc := (defScope s_law)) (by decide +kernel)) (fun _ _ _ _ _ => (pg_name (i := 5) sc__law.nd rfl (Or.inl rfl))) (fun _ _ _ _ _ => pts_nil) (fun _ _ _ _ _ => (pe_call O_L_some_best (hr.mono (by decide)) rfl S.g__law_some_best F_L_some_best.kp (b_L_some_best F_L_some_best) .nil pass0 (pa_cons (pv 1) (pa_cons (pv 2) pa_nil))))) (pss_cons (ps_if (PW.pt (pw_or (pt_cmpR op_ne (pe_callB (cr_lenOwn O_Book_len S.m_Book_len.at_ S.m_Book_len.fn (b_Book_len F_Book_len) (hr.mono (by decide))) (by rfl) S.z_len (by decide +kernel) (pa_cons (pv 8) pa_nil)) (pe_callB (call_lenqK (K := K)) (by rfl) S.z_len (by decide +kernel) (pa_cons (pv 3) pa_nil)) (nomark _)) (pw_or1 (pt_cmpR op_ne (pe_callB (cr_lenOwn O_Book_len S.m_Book_len.at_ S.m_Book_len.fn (b_Book_len F_Book_len) (hr.mono (by decide))) (by rfl) S.z_len (by decide +kernel) (pa_cons (pv 10) pa_nil)) (pe_callB (call_lenqK (K := K)) (by rfl) S.z_len (by decide +kernel) (pa_cons (pv 3) pa_nil)) (nomark _))))) (pss_one (ps_ret pe_bl)) pss_nil) (pss_one (ps_ret (pe_cmpR (op_eqDK (K := K) hr.units) (pe_call O_L_all (hr.mono (by decide)) rfl S.g__law_all F_L_all.kp (b_L_all F_L_all) .nil pass0 (pa_cons (pv 8) (pa_cons (pv 9) (pa_cons (pv 13) (pa_cons (pv 12) pa_nil))))) (pe_call O_L_all (hr.mono (by decide)) rfl S.g__law_all F_L_all.kp (b_L_all F_L_all) .nil pass0 (pa_cons (pv 10) (pa_cons (pv 11) (pa_cons (pv 13) (pa_cons (pv 12) pa_nil))))) (nomark _)))))))))))))))⟩
end
end Bb
/-! ## part Rd0 -/
/-! promises: shapes and the way from a reading to a promise -/
namespace Bb
open PySem PySem.Spec PyProof.Rows L2 LamX BbS
/-- a def that hands back a value: pre says of the arguments over what is known which -/
def spV (T : TT0) (pre : List V → Hp → V → Prop) : Sp := fun vs H Q _ => ∃ v H0, Wd T H0 H ∧ pre vs H0 v ∧ RetV T v H Q
/-- .. a value of which something holds -/
def spO (T : TT0) (pre : List V → Hp → (V → Hp → Prop) → Prop) : Sp := fun vs H Q _ => ∃ Φ H0, Wd T H0 H ∧ pre vs H0 Φ ∧ RetO T Φ H Q
section
variable {T : TT0} {P : Program} {w : World} {K : PySem.W.Frag} {mg : Str → Option Value} {base : Heap} {H H' : Hp} {vs : List V} {v : V} {Φ : V → Hp → Prop}
theorem gv {pre : List V → Hp → V → Prop} (h : pre vs H v) : Gv T (spV T pre) vs H v := fun H1 e Q q => ⟨v, H, e, h, q⟩
theorem gvO {pre : List V → Hp → (V → Hp → Prop) → Prop} (h : pre vs H Φ) : GvO T (spO T pre) vs H Φ := fun H1 e Q q => ⟨Φ, H, e, h, q⟩
/-- the rule for a def -/
theorem fn_ok {d : He.DefD} {N ps : List Str} {k : Nat} {sp : Sp} (hF : ∃ fd, Def K d fd) (S : FnScope N ps d.scope) (len : ∀ vs H Q E, sp vs H Q E → vs.length = ps.length)
    (hb : ∀ (cdv : Value) (A : Around) (outer : List Env) (s : Shared) (H : Hp) (vs : List V) (Q : VK) (E : XK), Room k (A.deeper (envOfC d.qual d.scope s.heap.objs.size (He.fAd K d.at_) cdv)) → sp vs H Q E →
      ∃ t, PSs (cxOf CX0 P w K mg base N d.qual d.scope (He.fAd K d.at_) cdv A outer s H E) d.body t ∧ t { nx := fun _ H' => Q .non H', rt := Q } (start N vs) H) : Fn P w K mg base d (k + 1) ps sp := by
  obtain ⟨fd, F⟩ := hF
  exact ⟨fd, F, F.ok S len hb⟩
theorem fn_v {d : He.DefD} {N ps : List Str} {k : Nat} {pre : List V → Hp → V → Prop} (hF : ∃ fd, Def K d fd) (S : FnScope N ps d.scope) (len : ∀ vs H v, pre vs H v → vs.length = ps.length)
    (hb : ∀ (cdv : Value) (A : Around) (outer : List Env) (s : Shared) (H : Hp) (vs : List V) (E : XK), Room k (A.deeper (envOfC d.qual d.scope s.heap.objs.size (He.fAd K d.at_) cdv)) →
      ∃ t, PSs (cxOf CX0 P w K mg base N d.qual d.scope (He.fAd K d.at_) cdv A outer s H E) d.body t ∧ ∀ (v : V) (H0 : Hp) (Q : VK), Wd T H0 H → pre vs H0 v → RetV T v H Q → t { nx := fun _ H' => Q .non H', rt := Q } (start N vs) H) : Fn P w K mg base d (k + 1) ps (spV T pre) :=
  fn_ok hF S (fun vs H Q E ⟨v, H0, _, h, _⟩ => len vs H0 v h) fun cdv A outer s H vs Q E hr ⟨v, H0, e, h, q⟩ => by
    obtain ⟨t, h1, h2⟩ := hb cdv A outer s H vs E hr
    exact ⟨t, h1, h2 v H0 Q e h q⟩
theorem fn_o {d : He.DefD} {N ps : List Str} {k : Nat} {pre : List V → Hp → (V → Hp → Prop) → Prop} (hF : ∃ fd, Def K d fd) (S : FnScope N ps d.scope) (len : ∀ vs H v, pre vs H v → vs.length = ps.length)
    (hb : ∀ (cdv : Value) (A : Around) (outer : List Env) (s : Shared) (H : Hp) (vs : List V) (E : XK), Room k (A.deeper (envOfC d.qual d.scope s.heap.objs.size (He.fAd K d.at_) cdv)) →
      ∃ t, PSs (cxOf CX0 P w K mg base N d.qual d.scope (He.fAd K d.at_) cdv A outer s H E) d.body t ∧ ∀ (Φ : V → Hp → Prop) (H0 : Hp) (Q : VK), Wd T H0 H → pre vs H0 Φ → RetO T Φ H Q → t { nx := fun _ H' => Q .non H', rt := Q } (start N vs) H) : Fn P w K mg base d (k + 1) ps (spO T pre) :=
  fn_ok hF S (fun vs H Q E ⟨v, H0, _, h, _⟩ => len vs H0 v h) fun cdv A outer s H vs Q E hr ⟨v, H0, e, h, q⟩ => by
    obtain ⟨t, h1, h2⟩ := hb cdv A outer s H vs E hr
    exact ⟨t, h1, h2 v H0 Q e h q⟩
/-! a few more rules for values -/
def EvAO (T : TT0) (ta : TA) (σ : L2.St) (H : Hp) (Φ : List V → Hp → Prop) : Prop := ∀ H1, Wd T H H1 → ∀ Q : List V → Hp → Prop, (∀ vs H2, Wd T H1 H2 → Φ vs H2 → Q vs H2) → ta σ H1 Q
theorem EvA.eo {ta : TA} {σ : L2.St} (h : EvA T ta σ H vs) : EvAO T ta σ H fun us _ => us = vs := fun H1 e Q q => h H1 e _ fun H2 e2 => q vs H2 e2 rfl
theorem eao_nil {σ : L2.St} : EvAO T tNil σ H fun us _ => us = [] := ea_nil.eo
theorem eao_cons {σ : L2.St} {te : TE} {tr : TA} {Ψ : List V → Hp → Prop} (h : EvO T te σ H Φ) (hr : ∀ v H1, Wd T H H1 → Φ v H1 → EvAO T tr σ H1 fun vs H2 => Ψ (v :: vs) H2) : EvAO T (tCons te tr) σ H Ψ := fun H1 e Q q =>
  h H1 e _ fun v H2 e2 f => hr v H2 (e.trans e2) f H2 (.refl H2) _ fun vs H3 e3 k => q (v :: vs) H3 (e2.trans e3) k
theorem EvAO.imp {σ : L2.St} {ta : TA} {Ψ Ψ' : List V → Hp → Prop} (h : EvAO T ta σ H Ψ) (k : ∀ vs H', Wd T H H' → Ψ vs H' → Ψ' vs H') : EvAO T ta σ H Ψ' := fun H1 e Q q => h H1 e Q fun vs H2 e2 f => q vs H2 e2 (k vs H2 (e.trans e2) f)
theorem rc_isi {x : V} {t : String} {n : String} {b : Bool} (ty : ∀ H1, Wd T H H1 → TyX K H1 x (.type t)) (h : kitB t n = some b) : RC T (rIsi K) [x, .ty n] H (.bl b) :=
  rc_now fun H1 e _ q => ⟨x, .ty n, .type t, .type n, b, rfl, .ty n, ty H1 e, kit_ty h, q⟩
theorem ty_int {H : Hp} {i : Int} : TyX K H (.int i) (.type "int") := .base (.int i)
theorem ty_str {H : Hp} {z : Str} : TyX K H (.str z) (.type "str") := .base (.str z)
theorem ty_bl {H : Hp} {z : Bool} : TyX K H (.bl z) (.type "bool") := .base (.bl z)
theorem rc_isC {a C dx : Addr} {fs : List (Str × V)} (h : H a = some (.ins C dx fs)) : RC T (fun xs H Q => ∃ a dx fs, xs = [V.ref a, V.ref C] ∧ H a = some (.ins C dx fs) ∧ Q (.bl true) H) [.ref a, .ref C] H (.bl true) := rc_now fun H1 e _ q => ⟨a, dx, fs, rfl, e.ins h, q⟩
theorem rc_lenT {a : Addr} {xs : List V} (h : SqT K H a xs) : RC T (fun xs H Q => ∃ p ys, xs = [V.ref p] ∧ (SqL K H p ys ∨ SqT K H p ys) ∧ Q (.int ys.length) H) [.ref a] H (.int (xs.length : Int)) := rc_now fun H1 e _ q => ⟨a, xs, rfl, .inr (e.sqt h), q⟩
theorem rc_lenL {a : Addr} {xs : List V} (h : SqL K H a xs) : RC T (fun xs H Q => ∃ p ys, xs = [V.ref p] ∧ (SqL K H p ys ∨ SqT K H p ys) ∧ Q (.int ys.length) H) [.ref a] H (.int (xs.length : Int)) := rc_now fun H1 e _ q => ⟨a, xs, rfl, .inl (e.sql h), q⟩
theorem rc_lenS {z : Str} (h : z.length ≤ sizeLine) : RC T (fun xs H Q => ∃ x n, xs = [x] ∧ LenV K x H n ∧ Q (.int n) H) [.str z] H (.int (z.length : Int)) := rc_now fun H1 e _ q => ⟨.str z, z.length, rfl, ⟨h, rfl⟩, q⟩
end
end Bb
namespace Bb
open PySem PySem.Spec PyProof.Rows L2 LamX BbS
section
variable {T : TT0} {K : PySem.W.Frag} {σ : L2.St} {H H0 H' : Hp} {ta tb tc te tx : TE} {x y z v w : V} {vs ws xs ys : List V} {a p b : Addr} {D : Ends} {r : R2} {Φ : V → Hp → Prop}
theorem RC.is {r : List V → Hp → VK → Prop} (h : RC T r vs H x) (e : x = y) : RC T r vs H y := e ▸ h
theorem RV.is (h : RV T r v w H x) (e : x = y) : RV T r v w H y := e ▸ h
/-- return e -/
theorem s_rv (h : Ev T te σ H0 x) (e : Wd T H0 H) (q : RetV T v H D.rt) (k : x = v) : tRet te D σ H := by
  subst k
  exact s_ret (h.mono e) q
theorem s_ro (h : EvO T te σ H0 Φ) (e : Wd T H0 H) (q : RetO T Φ H D.rt) : tRet te D σ H := s_retO (h.mono e) q
theorem rv_i0' {g : Int → Int → V} {i j : Int} (e : g i j = z) : RV T (rI0 g) (.int i) (.int j) H z := e ▸ rv_i0
theorem cutV_whole {lo hi : Option Int} (h : HT.sIx xs.length 0 lo = 0 ∧ HT.sIx xs.length xs.length hi = xs.length) : cutV xs lo hi = xs := by
  unfold cutV
  rw [h.1, h.2, List.drop_zero, Nat.sub_zero, List.take_length]
/-- t[lo:hi], t a tuple: some tuple of the items -/
def STup (K : PySem.W.Frag) (xs : List V) : V → Hp → Prop := fun v H2 => ∃ p, v = .ref p ∧ SqT K H2 p xs
/-- t[lo:hi], t one that was made: made, too -/
def MTup (xs : List V) : V → Hp → Prop := fun v H2 => ∃ p, v = .ref p ∧ H2 p = some (.tup xs)
def EvP (T : TT0) (tt : TO) (σ : L2.St) (H : Hp) (o : Option Int) : Prop := ∀ H1, Wd T H H1 → ∀ Q : Option Int → Hp → Prop, (∀ H2, Wd T H1 H2 → Q o H2) → tt σ H1 Q
theorem ep_none : EvP T tNoPart σ H none := fun H1 _ Q q => q H1 (.refl H1)
theorem ep_some {i : Int} (h : Ev T te σ H (.int i)) : EvP T (tPart te) σ H (some i) := fun H1 e Q q => h H1 e _ fun H2 e2 => ⟨i, rfl, q H2 e2⟩
theorem eo_sl {tl th : TO} {lo hi : Option Int} (h : Ev T te σ H (.ref a)) (hl : EvP T tl σ H lo) (hh : EvP T th σ H hi) (hx : SqT K H a xs) : EvO T (tSl (rSlA K) te tl th) σ H (STup K (cutV xs lo hi)) := fun H1 e Q q =>
  h H1 e _ fun H2 e2 => hl H2 (e.trans e2) _ fun H3 e3 => hh H3 ((e.trans e2).trans e3) _ fun H4 e4 => by
    have e5 := (e2.trans e3).trans e4
    refine ⟨a, xs, rfl, (e.trans e5).sqt hx, fun z => ?_, fun _ p hp => ?_⟩
    · exact q _ _ e5 ⟨a, rfl, by rw [cutV_whole z]; exact (e.trans e5).sqt hx⟩
    · exact q _ _ (e5.trans (.new hp)) ⟨p, rfl, .inl (.inl upd_same)⟩
theorem eo_slM {tl th : TO} {lo hi : Option Int} (h : Ev T te σ H (.ref a)) (hl : EvP T tl σ H lo) (hh : EvP T th σ H hi) (hx : H a = some (.tup xs)) : EvO T (tSl (rSlA K) te tl th) σ H (MTup (cutV xs lo hi)) := fun H1 e Q q =>
  h H1 e _ fun H2 e2 => hl H2 (e.trans e2) _ fun H3 e3 => hh H3 ((e.trans e2).trans e3) _ fun H4 e4 => by
    have e5 := (e2.trans e3).trans e4
    refine ⟨a, xs, rfl, st_of ((e.trans e5).tup hx), fun z => ?_, fun _ p hp => ?_⟩
    · exact q _ _ e5 ⟨a, rfl, by rw [cutV_whole z]; exact (e.trans e5).tup hx⟩
    · exact q _ _ (e5.trans (.new hp)) ⟨p, rfl, upd_same⟩
/-- t + u, both made -/
theorem rvo_cat (h1 : H a = some (.tup xs)) (h2 : H b = some (.tup ys)) (hz : xs.length + ys.length ≤ 1000000) : RVO T (rCatA K) (.ref a) (.ref b) H (MTup (xs ++ ys)) := fun H1 e Q q => by
  refine ⟨a, b, xs, ys, rfl, rfl, st_of (e.tup h1), st_of (e.tup h2), le_line hz, fun z => ?_, fun _ z => ?_, fun _ _ p hp => ?_⟩
  · subst z
    exact q _ _ (.refl H1) ⟨b, rfl, e.tup h2⟩
  · subst z
    exact q _ _ (.refl H1) ⟨a, rfl, by rw [List.append_nil]; exact e.tup h1⟩
  · exact q _ _ (.new hp) ⟨p, rfl, upd_same⟩
/-- over zip(t, u): pairs -/
theorem walk_zipT : Walk (RZ.ItzT K a b) (min xs.length ys.length) (fun H => SqT K H a xs ∧ SqT K H b ys) (fun i H v H' => ∃ Z x y, v = .ref Z ∧ H Z = none ∧ H' = upd H Z (.tup [x, y]) ∧ xs[i]? = some x ∧ ys[i]? = some y) :=
  ⟨fun i H hi g => ⟨xs, ys, _, _, g.1, g.2, List.getElem?_eq_getElem (by omega), List.getElem?_eq_getElem (by omega)⟩, fun H g => ⟨xs, ys, g.1, g.2, by omega⟩,
    fun i H x H' hi g ⟨Z, x1, y1, e1, e2, e3, e4, e5⟩ => ⟨Z, x1, y1, e1, e2, e3, e4 xs g.1, e5 ys g.2⟩⟩
def sl2 (σ : L2.St) (vs : List Nat) (i j : Nat) (x y : V) : L2.St := ((wipe σ vs).set i (some x)).set j (some y)
theorem zip_get {l : List V} {m : List V} {i : Nat} {q : V × V} (h : (l.zip m)[i]? = some q) : l[i]? = some q.1 ∧ m[i]? = some q.2 := by
  rw [List.getElem?_zip_eq_some] at h
  exact h
theorem lc_zipT {f : V × V → Bool} {ev : V × V → V} {ta : TA} {i j : Nat} {vs : List Nat} {tt : TT} (h : EvAO T ta σ H fun us H1 => ∃ a b, us = [.ref a, .ref b] ∧ SqT K H1 a xs ∧ SqT K H1 b ys) (hn : (xs.zip ys).length ≤ 100000) (hw : ∀ x y, wipe (sl2 σ vs i j x y) vs = wipe σ vs)
    (ht : ∀ q ∈ xs.zip ys, ∀ H1, Wd T H H1 → EvT T tt (sl2 σ vs i j q.1 q.2) H1 (f q)) (he : ∀ q ∈ xs.zip ys, f q = true → ∀ H1, Wd T H H1 → Ev T te (sl2 σ vs i j q.1 q.2) H1 (ev q)) :
    EvO T (tLc (RZ.iZipA K ta) (gTup K 2 (gCons (gName i) (gCons (gName j) gNil))) tt te vs) σ H (NLst H (((xs.zip ys).filter f).map ev)) := fun H0 e0 Q q =>
  h H0 e0 _ fun us H1 e1 ⟨a, b, eu, ha, hb⟩ => by
    refine ⟨a, b, xs, ys, eu, .inr ⟨ha, hb, fun Dl hD => ?_⟩⟩
    have w := walk_zipT (K := K) (a := a) (b := b) (xs := xs) (ys := ys)
    rw [← List.length_zip] at w
    refine lc_gen (T := T) (Φ := fun q y _ => y = ev q) (L := xs.zip ys) (f := f) w (H := H1) (.refl H1) hD (fun H' e => ⟨e.sqt ha, e.sqt hb⟩) hn (fun _ _ _ _ _ z => z) (fun i' q' x H' H'' hq e y => ?_) fun H' ys' e nD hy hp => ?_
    · obtain ⟨Z, x1, y1, e1', e2', e3', e4', e5'⟩ := y
      subst e1' e3'
      obtain ⟨z1, z2⟩ := zip_get hq
      rw [z1] at e4'
      rw [z2] at e5'
      cases e4'
      cases e5'
      have mb := List.mem_of_getElem? hq
      have e6 : Wd T H' (upd H' Z (.tup [q'.1, q'.2])) := .new e2'
      exact ⟨e6, fun Q k => g_tup2 (st_of upd_same) (k _ _ (.refl _) (hw _ _) (ht q' mb _ (((e0.trans e1).trans e).trans e6)) fun z => (he q' mb z _ (((e0.trans e1).trans e).trans e6)).eo)⟩
    · rw [paired_eq hp] at hy
      exact q _ _ (e1.trans e) ⟨Dl, rfl, nD.back (e0.trans e1), hy⟩
end
end Bb
namespace Bb
open PySem PySem.Spec PyProof.Rows L2 LamX BbS
section
variable {T : TT0} {K : PySem.W.Frag} {σ : L2.St} {H H0 H' : Hp} {ta tb tc te tx : TE} {t u : TT} {x y z v w : V} {Φ Ψ : V → Hp → Prop} {ts tr : TA} {vs ws xs : List V} {a p : Addr} {D : Ends} {tu tw tz : TS} {g : TG}
/-! statements in a row -/
theorem q_asg {i : Nat} (h : Ev T te σ H v) (k : ∀ H1, Wd T H H1 → tz D (σ.set i (some v)) H1) : tSeq (tAsg te (gName i)) tz D σ H := h.bind k
theorem q_asgO {i : Nat} (h : EvO T te σ H Φ) (k : ∀ v H1, Wd T H H1 → Φ v H1 → tz D (σ.set i (some v)) H1) : tSeq (tAsg te (gName i)) tz D σ H := h.bind k
theorem q_asgG (h : EvO T te σ H Φ) (k : ∀ v H1, Wd T H H1 → Φ v H1 → g v σ H1 fun σ2 H2 => tz D σ2 H2) : tSeq (tAsg te g) tz D σ H := h.bind k
theorem q_drop (h : EvO T te σ H Φ) (k : ∀ v H1, Wd T H H1 → Φ v H1 → tz D σ H1) : tSeq (tDrop te) tz D σ H := h.bind k
theorem q_dropV (h : Ev T te σ H v) (k : ∀ H1, Wd T H H1 → tz D σ H1) : tSeq (tDrop te) tz D σ H := h.bind k
theorem q_skip (h : EvT T t σ H false) (k : ∀ H1, Wd T H H1 → tz D σ H1) : tSeq (tIfS t tu tNext) tz D σ H := s_skip (T := T) h k
/-- if t: suite (which goes on, or returns) -/
theorem q_if {b : Bool} (h : EvT T t σ H b) (h1 : b = true → ∀ H1, Wd T H H1 → tu { D with nx := tz D } σ H1) (h2 : b = false → ∀ H1, Wd T H H1 → tz D σ H1) : tSeq (tIfS t tu tNext) tz D σ H := s_when (T := T) h h1 h2
theorem q_if2 {b : Bool} (h : EvT T t σ H b) (h1 : b = true → ∀ H1, Wd T H H1 → tu { D with nx := tz D } σ H1) (h2 : b = false → ∀ H1, Wd T H H1 → tw { D with nx := tz D } σ H1) : tSeq (tIfS t tu tw) tz D σ H := s_if (T := T) h h1 h2
theorem q_par {i j : Nat} (h : EvA T ts σ H [v, w]) (k : ∀ H1, Wd T H H1 → tz D ((σ.set i (some v)).set j (some w)) H1) : tSeq (tPar i j ts) tz D σ H := s_par h k
theorem s_parO {i j : Nat} {Ψ : List V → Hp → Prop} (h : EvAO T ts σ H Ψ) (k : ∀ us H1, Wd T H H1 → Ψ us H1 → ∃ v w, us = [v, w] ∧ D.nx ((σ.set i (some v)).set j (some w)) H1) : tPar i j ts D σ H := h H (.refl H) _ fun us H1 e f => by
  obtain ⟨v, w, eu, q⟩ := k us H1 e f
  exact ⟨v, w, eu, q⟩
theorem q_parO {i j : Nat} {Ψ : List V → Hp → Prop} (h : EvAO T ts σ H Ψ) (k : ∀ us H1, Wd T H H1 → Ψ us H1 → ∃ v w, us = [v, w] ∧ tz D ((σ.set i (some v)).set j (some w)) H1) : tSeq (tPar i j ts) tz D σ H := s_parO h k
end
end Bb
namespace Bb
open PySem PySem.Spec PyProof.Rows L2 LamX BbS
section
variable {T : TT0} {K : PySem.W.Frag} {σ : L2.St} {H H0 H' : Hp} {ta tb tc te tx : TE} {x y z v w : V} {Φ Ψ : V → Hp → Prop} {ts : TA} {vs ws xs ys : List V} {a p : Addr}
theorem NTup.m (h : NTup H xs v H') : MTup xs v H' := by
  obtain ⟨p, rfl, _, hp⟩ := h
  exact ⟨p, rfl, hp⟩
theorem eo_m (h : Ev T te σ H (.ref a)) (ha : H a = some (.tup xs)) : EvO T te σ H (MTup xs) := fun H1 e Q q => h H1 e Q fun H2 e2 => q _ H2 e2 ⟨a, rfl, (e.trans e2).tup ha⟩
theorem eo_tupm (h : EvA T ts σ H vs) (hl : vs.length ≤ 1000000) : EvO T (tTup ts) σ H (MTup vs) := (eo_tup h hl).imp fun _ _ _ h => h.m
theorem eo_cat (ha : EvO T ta σ H (MTup xs)) (hb : ∀ H1, Wd T H H1 → EvO T tb σ H1 (MTup ys)) (hz : xs.length + ys.length ≤ 1000000) : EvO T (tOp (rCatA K) ta tb) σ H (MTup (xs ++ ys)) :=
  eo_op2 ha fun x H1 e1 ⟨p, ep, hp⟩ => (hb H1 e1).imp fun y H2 e2 ⟨q, eq, hq⟩ => by
    subst ep eq
    exact rvo_cat (e2.tup hp) hq hz
end
end Bb
namespace Bb
open PySem PySem.Spec PyProof.Rows L2 LamX BbS
theorem eo_lstRg {T : TT0} {σ : L2.St} {H : Hp} {ta tb : TE} {i j : Int} (ha : Ev T ta σ H (.int i)) (hb : Ev T tb σ H (.int j)) (ok : RgOk i j) : EvO T (tLstRg (tRg2 ta tb)) σ H (NLst H (rgV i j)) := fun H1 e Q q =>
  ha H1 e _ fun H2 e2 => hb H2 (e.trans e2) _ fun H3 e3 => ⟨i, j, rfl, rfl, ok, fun p hp => q _ _ ((e2.trans e3).trans (.new hp)) ⟨p, rfl, (new_none hp).back ((e.trans e2).trans e3), upd_same⟩⟩
end Bb
namespace Bb
open PySem PySem.Spec PyProof.Rows L2 LamX BbS
section
variable {T : TT0} {K : PySem.W.Frag} {σ : L2.St} {H H0 H' : Hp} {ta tb tc te tx : TE} {x y z v w : V} {Φ Ψ : V → Hp → Prop} {ts : TA} {vs : List Nat} {xs ys : List V} {a p : Addr} {tt : TT}
/-- [e for x, y in t if t], t a tuple of pairs that stand -/
theorem lc_tupl2 {α : Type} {L : List α} {ia : α → Addr} {xv yv : α → V} {f : α → Bool} {ev : α → V} {tl : TE} {i j : Nat} (h : Ev T tl σ H (.ref a)) (hx : SqT K H a (L.map fun b => .ref (ia b))) (hit : ∀ b ∈ L, H (ia b) = some (.tup [xv b, yv b])) (hn : L.length ≤ 100000)
    (hw : ∀ x y, wipe (sl2 σ vs i j x y) vs = wipe σ vs) (ht : ∀ b ∈ L, ∀ H1, Wd T H H1 → EvT T tt (sl2 σ vs i j (xv b) (yv b)) H1 (f b)) (he : ∀ b ∈ L, f b = true → ∀ H1, Wd T H H1 → Ev T te (sl2 σ vs i j (xv b) (yv b)) H1 (ev b)) :
    EvO T (tLc (iTup K tl) (gTup K 2 (gCons (gName i) (gCons (gName j) gNil))) tt te vs) σ H (NLst H ((L.filter f).map ev)) := fun H0 e0 Q q =>
  h H0 e0 _ fun H1 e1 => by
    refine ⟨a, rfl, ⟨_, (e0.trans e1).sqt hx⟩, fun Dl hD => ?_⟩
    have w := walk_tup (K := K) (a := a) (xs := L.map fun b => V.ref (ia b))
    rw [List.length_map] at w
    refine lc_gen (T := T) (Φ := fun b y _ => y = ev b) (L := L) (f := f) w (H := H1) (.refl H1) hD (fun H' e => ((e0.trans e1).trans e).sqt hx) hn (fun _ _ _ _ _ z => z) (fun i' b x H' H'' hb e y => ?_) fun H' ys e nD hy hp => ?_
    · obtain ⟨rfl, hx'⟩ := y
      rw [List.getElem?_map, hb] at hx'
      obtain rfl : V.ref (ia b) = x := Option.some.inj hx'
      have mb := List.mem_of_getElem? hb
      have g := (e0.trans e1).trans e
      exact ⟨.refl _, fun Q k => g_tup2 (st_of (g.tup (hit b mb))) (k _ _ (.refl _) (hw _ _) (ht b mb _ g) fun z => (he b mb z _ g).eo)⟩
    · rw [paired_eq hp] at hy
      exact q _ _ (e1.trans e) ⟨Dl, rfl, nD.back (e0.trans e1), hy⟩
/-- over a list of pairs -/
theorem lc_list2 {α : Type} {L : List α} {ia : α → Addr} {xv yv : α → V} {f : α → Bool} {ev : α → V} {tl : TE} {i j : Nat} (h : Ev T tl σ H (.ref a)) (hx : SqL K H a (L.map fun b => .ref (ia b))) (hit : ∀ b ∈ L, H (ia b) = some (.tup [xv b, yv b])) (hn : L.length ≤ 100000)
    (hw : ∀ x y, wipe (sl2 σ vs i j x y) vs = wipe σ vs) (ht : ∀ b ∈ L, ∀ H1, Wd T H H1 → EvT T tt (sl2 σ vs i j (xv b) (yv b)) H1 (f b)) {Φ : α → V → Hp → Prop} (mono : ∀ a v H' H'', (∀ b xs, H' b = some (.tup xs) → H'' b = some (.tup xs)) → Φ a v H' → Φ a v H'') (he : ∀ b ∈ L, f b = true → ∀ H1, Wd T H H1 → EvO T te (sl2 σ vs i j (xv b) (yv b)) H1 (Φ b)) :
    EvO T (tLc (iList K tl) (gTup K 2 (gCons (gName i) (gCons (gName j) gNil))) tt te vs) σ H (fun v H' => ∃ p ys, v = .ref p ∧ New H p ∧ H' p = some (.lst ys) ∧ Paired (fun a y => Φ a y H') (L.filter f) ys) := fun H0 e0 Q q =>
  h H0 e0 _ fun H1 e1 => by
    refine ⟨a, rfl, ⟨_, (e0.trans e1).sql hx⟩, fun Dl hD => ?_⟩
    have w := walk_list (K := K) (a := a) (xs := L.map fun b => V.ref (ia b))
    rw [List.length_map] at w
    refine lc_gen (T := T) (Φ := Φ) (L := L) (f := f) w (H := H1) (.refl H1) hD (fun H' e => ((e0.trans e1).trans e).sql hx) hn mono (fun i' b x H' H'' hb e y => ?_) fun H' ys e nD hy hp => ?_
    · obtain ⟨rfl, hx'⟩ := y
      rw [List.getElem?_map, hb] at hx'
      obtain rfl : V.ref (ia b) = x := Option.some.inj hx'
      have mb := List.mem_of_getElem? hb
      have g := (e0.trans e1).trans e
      exact ⟨.refl _, fun Q k => g_tup2 (st_of (g.tup (hit b mb))) (k _ _ (.refl _) (hw _ _) (ht b mb _ g) fun z => he b mb z _ g)⟩
    · exact q _ _ (e1.trans e) ⟨Dl, ys, rfl, nD.back (e0.trans e1), hy, hp⟩
/-- all but what lies at a is kept -/
def WdM (T : TT0) (a : Addr) (H H' : Hp) : Prop := (∀ b o, H b = some o → b ≠ a → Nt o → H' b = some o) ∧ (Tabs T H → Tabs T H')
theorem WdM.get {o oa : HO} (m : WdM T a H H') (ha : H a = some oa) {b : Addr} (hb : H b = some o) (ne : o ≠ oa) (nt : Nt o) : H' b = some o := m.1 b o hb (fun z => ne (by rw [z, ha] at hb; exact (Option.some.inj hb).symm)) nt
theorem tabs_upd {o0 o : HO} (t : Tabs T H') (e : H' p = some o0) (pl : Plain o0) : Tabs T (upd H' p o) := by
  intro q hq
  obtain ⟨ps, h1, h2, h3⟩ := t q hq
  have ne : ∀ {b : Addr} {u : HO}, H' b = some u → ¬ Plain u → b ≠ p := fun {b u} hb np z => by
    rw [z, e] at hb
    cases hb
    exact np pl
  refine ⟨ps, by rw [upd_ne (ne h1 fun z => z)]; exact h1, h2, fun pos cv hc => ?_⟩
  obtain ⟨c, e1, e2⟩ := h3 pos cv hc
  exact ⟨c, e1, by rw [upd_ne (ne e2 fun z => by unfold CodeO at z; exact z)]; exact e2⟩
theorem Wd.toM {oa o : HO} (x : Wd T H H') (e : H' a = some oa) (pl : Plain oa) : WdM T a H (upd H' a o) := ⟨fun b u hb ne nt => by rw [upd_ne ne]; exact x.get hb nt, fun t => tabs_upd (x.2 t) e pl⟩
theorem Wd.m {G : Hp} (x : Wd T G H) (n : New G a) (m : WdM T a H H') : Wd T G H' := ⟨fun b o hb nt => m.1 b o (x.get hb nt) (n.ne hb nt) nt, fun t => m.2 (x.2 t)⟩
theorem WdM.trans {H1 : Hp} (x : WdM T a H H1) (y : WdM T a H1 H') : WdM T a H H' := ⟨fun b o hb ne nt => y.1 b o (x.1 b o hb ne nt) ne nt, fun t => y.2 (x.2 t)⟩
theorem Wd.wm (x : Wd T H H') : WdM T a H H' := ⟨fun b o hb _ nt => x.get hb nt, x.2⟩
theorem WdM.refl (H : Hp) : WdM T a H H := (Wd.refl H).wm
theorem rv_eqOwn {C dx dy b : Addr} {fs gs : List (Str × V)} {t : Bool} {pre : List V → Hp → V → Prop} (ha : H a = some (.ins C dx fs)) (hb : H b = some (.ins C dy gs)) (h : pre [.ref a, .ref b] H (.bl t)) : RV T (rEqOwn C (spV T pre)) (.ref a) (.ref b) H (.bl t) := fun H1 e Q q =>
  ⟨a, b, dx, dy, fs, gs, rfl, rfl, e.ins ha, e.ins hb, ⟨.bl t, H, e, h, fun H2 e2 => ⟨t, rfl, q H2 e2⟩⟩⟩
end
end Bb
namespace Bb
open PySem PySem.Spec PyProof.Rows L2 LamX BbS
section
variable {T : TT0} {K : PySem.W.Frag} {σ : L2.St} {H H0 H' : Hp} {ta tb tc te tx tl : TE} {x y z v w : V} {Φ Ψ : V → Hp → Prop} {ts : TA} {vs ws xs ys : List V} {a p : Addr} {D : Ends} {tu tz : TS} {g : TG}
/-- for over a list that was made on the way, all that is known in the invariant -/
theorem s_forG (h : EvO T tl σ H Φ) (hx : ∀ v H1, Wd T H H1 → Φ v H1 → ∃ a xs, v = .ref a ∧ ∃ Pv : Nat → L2.St → Hp → Prop, Pv 0 σ H1 ∧ (∀ i σ' H', Pv i σ' H' → SqL K H' a xs) ∧
      (∀ i x σ' H', xs[i]? = some x → Pv i σ' H' → g x σ' H' fun σ2 H2 => tu { D with nx := Pv (i + 1), ct := Pv (i + 1), bk := D.nx } σ2 H2) ∧ ∀ σ' H', Pv xs.length σ' H' → D.nx σ' H') : tFor (iList K tl) g tu D σ H := h.bind fun v H1 e f => by
  obtain ⟨a, xs, rfl, Pv, h0, hl, hs, hd⟩ := hx v H1 e f
  exact ⟨a, rfl, ⟨xs, hl 0 σ H1 h0⟩, for_list (xs := xs) Pv h0 (fun i σ' H' _ p => hl i σ' H' p) (fun i x σ' H' hi p => hs i x σ' H' hi p) fun σ' H' p => hd σ' H' p⟩
theorem q_forG (h : EvO T tl σ H Φ) (hx : ∀ v H1, Wd T H H1 → Φ v H1 → ∃ a xs, v = .ref a ∧ ∃ Pv : Nat → L2.St → Hp → Prop, Pv 0 σ H1 ∧ (∀ i σ' H', Pv i σ' H' → SqL K H' a xs) ∧
      (∀ i x σ' H', xs[i]? = some x → Pv i σ' H' → g x σ' H' fun σ2 H2 => tu { D with nx := Pv (i + 1), ct := Pv (i + 1), bk := tz D } σ2 H2) ∧ ∀ σ' H', Pv xs.length σ' H' → tz D σ' H') : tSeq (tFor (iList K tl) g tu) tz D σ H := s_forG (D := { D with nx := tz D }) h hx
end
end Bb
namespace Bb
open PySem PySem.Spec PyProof.Rows L2 LamX BbS
theorem eo_dnew {T : TT0} {σ : L2.St} {H : Hp} : EvO T tDNewK σ H (fun v H' => ∃ d, v = .ref d ∧ New H d ∧ H' d = some (.dK [])) := fun H5 e5 Q q d hd => q _ _ (.new hd) ⟨d, rfl, (new_none hd).back e5, upd_same⟩
theorem eo_dnewT {T : TT0} {σ : L2.St} {H : Hp} : EvO T tDNewT σ H (fun v H' => ∃ d, v = .ref d ∧ New H d ∧ H' d = some (.dT [])) := fun H5 e5 Q q d hd => q _ _ (.new hd) ⟨d, rfl, (new_none hd).back e5, upd_same⟩
end Bb
namespace Bb
open PySem PySem.Spec PyProof.Rows L2 LamX BbS
section
variable {T : TT0} {K : PySem.W.Frag} {σ : L2.St} {H H0 H' : Hp} {td ty tv : TE} {x y z v w : V} {Φ Ψ : V → Hp → Prop} {a p : Addr} {D : Ends} {tz : TS}
/-- d[k] = v -/
theorem s_dputK {kvs : List (Key × V)} {k : Key} (hv : Ev T tv σ H v) (hd : Ev T td σ H (.ref a)) (hk : Ev T ty σ H (kV k)) (ha : H a = some (.dK kvs)) (hl : kvs.length < 1000000) (q : ∀ H1, Wd T H H1 → D.nx σ (upd H1 a (.dK (putK kvs k v)))) : sDPut td ty tv D σ H :=
  hv H (.refl H) _ fun H1 e1 => hd H1 e1 _ fun H2 e2 => hk H2 (e1.trans e2) _ fun H3 e3 => ⟨a, _, rfl, DPut.k (((e1.trans e2).trans e3).dK ha) (lt_line hl), q H3 ((e1.trans e2).trans e3)⟩
/-- the value made on the way -/
theorem s_dputKO {kvs : List (Key × V)} {k : Key} (hv : EvO T tv σ H Φ) (hd : Ev T td σ H (.ref a)) (hk : Ev T ty σ H (kV k)) (ha : H a = some (.dK kvs)) (hl : kvs.length < 1000000) (q : ∀ v H0 H1, Wd T H H0 → Φ v H0 → Wd T H0 H1 → D.nx σ (upd H1 a (.dK (putK kvs k v)))) : sDPut td ty tv D σ H :=
  hv H (.refl H) _ fun v H1 e1 f => hd H1 e1 _ fun H2 e2 => hk H2 (e1.trans e2) _ fun H3 e3 => ⟨a, _, rfl, DPut.k (((e1.trans e2).trans e3).dK ha) (lt_line hl), q v H1 H3 e1 f (e2.trans e3)⟩
end
theorem putK_le {κ : Type} [DecidableEq κ] {kvs : List (κ × V)} {k : κ} {v : V} : (putK kvs k v).length ≤ kvs.length + 1 := by
  unfold putK
  split
  · rw [List.length_map]
    omega
  · rw [List.length_append, List.length_singleton]
    exact Nat.le_refl _
end Bb
namespace Bb
open PySem PySem.Spec PyProof.Rows L2 LamX BbS
section
variable {T : TT0} {K : PySem.W.Frag} {σ : L2.St} {H H0 H' : Hp} {te : TE} {v : V} {Φ : V → Hp → Prop} {Ψ : List V → Hp → Prop} {a : Addr} {ts : TA} {sp : Sp} {ds : List V}
theorem ev_methA {C dx : Addr} {fs : List (Str × V)} {m : Str} (h : Ev T te σ H (.ref a)) (hp : H a = some (.ins C dx fs)) (l : fs.lookup m = none) (hs : EvAO T ts σ H Ψ) (g : ∀ us H1, Wd T H H1 → Ψ us H1 → Gv T sp (.ref a :: (us ++ ds)) H1 v) :
    Ev T (tMeth C m sp ds E0 te ts) σ H v := fun H1 e Q q => h H1 e _ fun H2 e2 => ⟨a, dx, fs, rfl, (e.trans e2).ins hp, l, hs H2 (e.trans e2) _ fun us H3 e3 f => g us H3 ((e.trans e2).trans e3) f H3 (.refl H3) Q fun H4 e4 => q H4 ((e2.trans e3).trans e4)⟩
theorem eo_methA {C dx : Addr} {fs : List (Str × V)} {m : Str} (h : Ev T te σ H (.ref a)) (hp : H a = some (.ins C dx fs)) (l : fs.lookup m = none) (hs : EvAO T ts σ H Ψ) (g : ∀ us H1, Wd T H H1 → Ψ us H1 → GvO T sp (.ref a :: (us ++ ds)) H1 Φ) :
    EvO T (tMeth C m sp ds E0 te ts) σ H Φ := fun H1 e Q q => h H1 e _ fun H2 e2 => ⟨a, dx, fs, rfl, (e.trans e2).ins hp, l, hs H2 (e.trans e2) _ fun us H3 e3 f => g us H3 ((e.trans e2).trans e3) f H3 (.refl H3) Q fun v H4 e4 => q v H4 ((e2.trans e3).trans e4)⟩
theorem eo_callA (h : EvAO T ts σ H Ψ) (g : ∀ us H1, Wd T H H1 → Ψ us H1 → GvO T sp (us ++ ds) H1 Φ) : EvO T (tCall sp ds E0 ts) σ H Φ := fun H1 e Q q => h H1 e _ fun us H2 e2 f => g us H2 (e.trans e2) f H2 (.refl H2) Q fun v H3 e3 => q v H3 (e2.trans e3)
end
end Bb
/-! ## part Rd1 -/
namespace Bb
open PySem PySem.Spec PyProof.Rows L2 LamX BbS
section
variable {T : TT0} {P : Program} {w : World} {K : PySem.W.Frag} {mg : Str → Option Value} {base : Heap}
def p_is_whole : List V → Hp → V → Prop := fun vs _ v => ∃ i : Int, vs = [.int i] ∧ v = .bl true
theorem fn_is_whole (S : Say K mg) : Fn P w K mg base dis_whole 1 ["thing"] (spV T p_is_whole) := by
  refine fn_v S.f_is_whole sc_is_whole (fun vs H v ⟨i, e, _⟩ => by rw [e]; rfl) fun cdv A outer s H vs E hr => ⟨_, (tm_is_whole S _ cdv A outer s H E hr).2, fun v H0 Q e ⟨i, hv, hr⟩ q => ?_⟩
  subst hv hr
  dsimp only [tm_is_whole]
  exact s_rv (ev_andV (ev_cb (ea2 (ev_var rfl) ev_c) (rc_isi (b := true) (fun _ _ => ty_int) (by decide +kernel))) fun _ => ev_notV (ev_cb (ea2 (ev_var rfl) ev_c) (rc_isi (b := false) (fun _ _ => ty_int) (by decide +kernel)))) e q rfl
def p_is_from : List V → Hp → V → Prop := fun vs _ v => ∃ i lo hi : Int, vs = [.int i, .int lo, .int hi] ∧ lo ≤ i ∧ i ≤ hi ∧ v = .bl true
theorem fn_is_from (S : Say K mg) : Fn P w K mg base dis_from 2 ["thing", "least", "most"] (spV T p_is_from) := by
  obtain ⟨_, F1, O1⟩ := fn_is_whole (T := T) (P := P) (w := w) (base := base) S
  refine fn_v S.f_is_from sc_is_from (fun vs H v ⟨i, _, _, e, _⟩ => by rw [e]; rfl) fun cdv A outer s H vs E hr => ⟨_, (tm_is_from S F1 O1 _ cdv A outer s H E hr).2, fun v H0 Q e ⟨i, lo, hi, hv, h1, h2, hr⟩ q => ?_⟩
  subst hv hr
  dsimp only [tm_is_from]
  exact s_rv (ev_andV (ev_call (ea1 (ev_var rfl)) (gv ⟨i, rfl, rfl⟩)) fun _ => ev_chain (b := decide (lo ≤ i)) (c := decide (i ≤ hi)) (ev_var rfl) (ev_var rfl) rv_i0 (fun _ => ev_var rfl) fun _ => rv_i0) e q (by rw [decide_eq_true h1, decide_eq_true h2]; rfl)
def p_rises (K : PySem.W.Frag) : List V → Hp → V → Prop := fun vs H v => ∃ (a : Addr) (ns : List Int), vs = [.ref a] ∧ SqT K H a (ns.map V.int) ∧ ns.length ≤ 1000 ∧ ns.Pairwise (· < ·) ∧ v = .bl true
theorem cut1 (xs : List V) : cutV xs (some 1) none = xs.drop 1 := by
  unfold cutV
  have e : HT.sIx xs.length 0 (some 1) = min 1 xs.length := HT.sIx_nat _ _ 1
  rw [e, HT.sIx_none]
  cases xs with
  | nil => rfl
  | cons x xs =>
    have e2 : min 1 (x :: xs).length = 1 := by simp
    rw [e2, List.take_of_length_le (by simp)]
theorem pairs_up : ∀ {ns : List Int}, ns.Pairwise (· < ·) → ∀ q ∈ (ns.map V.int).zip ((ns.map V.int).drop 1), ∃ i j : Int, q = (.int i, .int j) ∧ i < j
  | [], _, q, h => by cases h
  | [n], _, q, h => by cases h
  | n :: m :: r, p, q, h => by
    rcases List.mem_cons.mp h with z | z
    · exact ⟨n, m, z, List.rel_of_pairwise_cons p List.mem_cons_self⟩
    · exact pairs_up (ns := m :: r) (List.Pairwise.of_cons p) q z
theorem fn_rises (S : Say K mg) : Fn P w K mg base drises 1 ["row"] (spV T (p_rises K)) := by
  refine fn_v S.f_rises sc_rises (fun vs H v h => by obtain ⟨_, _, rfl, _⟩ := h; rfl) fun cdv A outer s H vs E hr => ⟨_, (tm_rises S _ cdv A outer s H E hr).2, fun v H0 Q e h q => ?_⟩
  obtain ⟨a, ns, rfl, ha, hl, hp, rfl⟩ := h
  dsimp only [tm_rises]
  have up := pairs_up hp
  refine s_rv (ev_cb1 (lc_zipT (T := T) (xs := ns.map V.int) (ys := (ns.map V.int).drop 1) (f := fun _ => true) (ev := fun _ => .bl true) (eao_cons (ev_var rfl).eo fun v H1 e1 hv => eao_cons (eo_sl (ev_var rfl) (ep_some ev_c) ep_none (e1.sqt ha)) fun v2 H2 e2 h2 => ?_) ?_ (fun _ _ => rfl) (fun _ _ _ _ => et_yes) ?_) fun x H1 e1 hx => ?_) e q rfl
  · obtain ⟨p2, rfl, hp2⟩ := h2
    rw [cut1] at hp2
    subst hv
    exact eao_nil.imp fun us H3 e3 hu => by
      subst hu
      exact ⟨a, p2, rfl, ((e1.trans e2).trans e3).sqt ha, e3.sqt hp2⟩
  · rw [List.length_zip, List.length_map]
    omega
  · intro q hq _ H1 e1
    obtain ⟨i, j, rfl, hij⟩ := up q hq
    exact ev_op (ev_var rfl) (ev_var rfl) (rv_i0' (by rw [decide_eq_true hij]))
  · obtain ⟨p, rfl, _, hp⟩ := hx
    refine (rc_all (bs := ((((ns.map V.int).zip ((ns.map V.int).drop 1)).filter fun _ => true).map fun _ => true)) (sl_of (by rw [hp, List.map_map]; rfl))).is (by simp)
def nameB (z : Str) : Bool := decide (1 ≤ z.length) && decide (z.length ≤ 8) && z.cps.toList.all fun c => (!decide ([c] < ("a" : Str).cps.toList)) && (!decide (("z" : Str).cps.toList < [c]))
def p_is_name : List V → Hp → V → Prop := fun vs H v => ∃ z : Str, vs = [.str z] ∧ nameB z = true ∧ v = .bl true
theorem fn_is_name (S : Say K mg) : Fn P w K mg base dis_name 1 ["thing"] (spV T p_is_name) := by
  refine fn_v S.f_is_name sc_is_name (fun vs H v h => by obtain ⟨_, rfl, _⟩ := h; rfl) fun cdv A outer s H vs E hr => ⟨_, (tm_is_name S _ cdv A outer s H E hr).2, fun v H0 Q e h q => ?_⟩
  obtain ⟨z, rfl, hz, rfl⟩ := h
  dsimp only [tm_is_name]
  unfold nameB at hz
  simp only [Bool.and_eq_true, decide_eq_true_eq, List.all_eq_true] at hz
  obtain ⟨⟨h1, h2⟩, h3⟩ := hz
  refine q_skip (T := T) (.is (et_or (et_not (et_b (ev_cb (ea2 (ev_var rfl) ev_c) (rc_isi (b := true) (fun _ _ => ty_str) (by decide +kernel))))) fun _ => et_not (et_test (ev_chain (b := decide ((1 : Int) ≤ z.length)) (c := decide ((z.length : Int) ≤ 8)) ev_c (ev_cb (ea1 (ev_var rfl)) (rc_lenS (le_line (by omega)))) rv_i0 (fun _ => ev_c) fun _ => rv_i0))) (by rw [decide_eq_true (by omega), decide_eq_true (by omega)]; rfl)) fun H1 e1 => ?_
  refine s_rv (ev_cb1 (lc_str (f := fun _ => true) (ev := fun _ => .bl true) (ev_var rfl) (by have : z.cps.size = z.length := rfl; omega) (fun _ => rfl) (fun _ _ _ _ => et_yes) fun c hc _ H2 e2 => ?_) fun x H2 e2 hx => ?_) (.refl H1) (q.mono e1) rfl
  · have k := h3 c hc
    exact (ev_chain (b := true) (c := true) ev_c (ev_var rfl) (.is rv_les (by rw [k.1])) (fun _ => ev_c) fun _ => .is rv_les (by rw [k.2]))
  · obtain ⟨p, rfl, _, hp⟩ := hx
    exact (rc_all (bs := ((z.cps.toList.filter fun _ => true).map fun _ => true)) (sl_of (by rw [hp, List.map_map]; rfl))).is (by simp)
def p_is_day : List V → Hp → V → Prop := fun vs H v => ∃ i : Int, vs = [.int i] ∧ -40000 ≤ i ∧ i ≤ 40000 ∧ v = .bl true
theorem fn_is_day (S : Say K mg) : Fn P w K mg base dis_day 3 ["thing"] (spV T p_is_day) := by
  obtain ⟨_, F1, O1⟩ := fn_is_from (T := T) (P := P) (w := w) (base := base) S
  refine fn_v S.f_is_day sc_is_day (fun vs H v h => by obtain ⟨_, rfl, _⟩ := h; rfl) fun cdv A outer s H vs E hr => ⟨_, (tm_is_day S F1 O1 _ cdv A outer s H E hr).2, fun v H0 Q e h q => ?_⟩
  obtain ⟨i, rfl, h1, h2, rfl⟩ := h
  dsimp only [tm_is_day]
  exact s_rv (ev_call (ea3 (ev_var rfl) ev_c ev_c) (gv ⟨i, _, _, rfl, h1, h2, rfl⟩)) e q rfl
def p_is_mark : List V → Hp → V → Prop := fun vs H v => ∃ i : Int, vs = [.int i] ∧ 1 ≤ i ∧ i ≤ 1000000 ∧ v = .bl true
theorem fn_is_mark (S : Say K mg) : Fn P w K mg base dis_mark 3 ["thing"] (spV T p_is_mark) := by
  obtain ⟨_, F1, O1⟩ := fn_is_from (T := T) (P := P) (w := w) (base := base) S
  refine fn_v S.f_is_mark sc_is_mark (fun vs H v h => by obtain ⟨_, rfl, _⟩ := h; rfl) fun cdv A outer s H vs E hr => ⟨_, (tm_is_mark S F1 O1 _ cdv A outer s H E hr).2, fun v H0 Q e h q => ?_⟩
  obtain ⟨i, rfl, h1, h2, rfl⟩ := h
  dsimp only [tm_is_mark]
  exact s_rv (ev_call (ea3 (ev_var rfl) ev_c ev_c) (gv ⟨i, _, _, rfl, h1, h2, rfl⟩)) e q rfl
def p_is_wind : List V → Hp → V → Prop := fun vs H v => ∃ i : Int, vs = [.int i] ∧ -99 ≤ i ∧ i ≤ 99 ∧ v = .bl true
theorem fn_is_wind (S : Say K mg) : Fn P w K mg base dis_wind 3 ["thing"] (spV T p_is_wind) := by
  obtain ⟨_, F1, O1⟩ := fn_is_from (T := T) (P := P) (w := w) (base := base) S
  refine fn_v S.f_is_wind sc_is_wind (fun vs H v h => by obtain ⟨_, rfl, _⟩ := h; rfl) fun cdv A outer s H vs E hr => ⟨_, (tm_is_wind S F1 O1 _ cdv A outer s H E hr).2, fun v H0 Q e h q => ?_⟩
  obtain ⟨i, rfl, h1, h2, rfl⟩ := h
  dsimp only [tm_is_wind]
  exact s_rv (ev_call (ea3 (ev_var rfl) (ev_op ev_c ev_c (rv_i0' (z := .int (-99)) rfl)) ev_c) (gv ⟨i, _, _, rfl, h1, h2, rfl⟩)) e q rfl
def wayB (z : Str) : Bool := decide (z = ("less" : Str)) || decide (z = ("more" : Str))
def p_is_way : List V → Hp → V → Prop := fun vs H v => ∃ z : Str, vs = [.str z] ∧ wayB z = true ∧ v = .bl true
theorem fn_is_way (S : Say K mg) : Fn P w K mg base dis_way 1 ["thing"] (spV T p_is_way) := by
  refine fn_v S.f_is_way sc_is_way (fun vs H v h => by obtain ⟨_, rfl, _⟩ := h; rfl) fun cdv A outer s H vs E hr => ⟨_, (tm_is_way S _ cdv A outer s H E hr).2, fun v H0 Q e h q => ?_⟩
  obtain ⟨z, rfl, h1, rfl⟩ := h
  dsimp only [tm_is_way]
  refine s_rv (ev_andV (ev_cb (ea2 (ev_var rfl) ev_c) (rc_isi (b := true) (fun _ _ => ty_str) (by decide +kernel))) fun _ => ev_op (ev_var rfl) ev_c (rv_inT (xs := [.str "less", .str "more"]) (S.ways _) rfl rfl)) e q ?_
  unfold wayB at h1
  simp only [Bool.or_eq_true, decide_eq_true_eq] at h1
  rcases h1 with rfl | rfl <;> decide +kernel
def p_beats : List V → Hp → V → Prop := fun vs H v => ∃ (i j : Int) (z : Str), vs = [.int i, .int j, .str z] ∧ v = .bl (if z = ("less" : Str) then decide (i < j) else decide (j < i))
theorem fn_beats (S : Say K mg) : Fn P w K mg base dbeats 1 ["one", "other", "way"] (spV T p_beats) := by
  refine fn_v S.f_beats sc_beats (fun vs H v h => by obtain ⟨_, _, _, rfl, _⟩ := h; rfl) fun cdv A outer s H vs E hr => ⟨_, (tm_beats S _ cdv A outer s H E hr).2, fun v H0 Q e h q => ?_⟩
  obtain ⟨i, j, z, rfl, rfl⟩ := h
  dsimp only [tm_beats]
  refine s_rv (ev_if (b := decide (V.str z = V.str "less")) (et_test (ev_op (ev_var rfl) ev_c (rv_eq rfl))) (fun h => ev_op (ev_var rfl) (ev_var rfl) (rv_i0' ?_)) fun h => ev_op (ev_var rfl) (ev_var rfl) (rv_i0' ?_)) e q rfl
  · have := of_decide_eq_true h
    rw [if_pos (by injection this)]
  · have := of_decide_eq_false h
    rw [if_neg (fun z => this (by rw [z]))]
/-- an event tuple -/
def EvTup (H : Hp) (a : Addr) (x : Str × Str × Bool) : Prop := H a = some (.tup [.str x.1, .str x.2.1, .bl x.2.2])
def p_is_event : List V → Hp → V → Prop := fun vs H v => ∃ (a : Addr) (x : Str × Str × Bool), vs = [.ref a] ∧ EvTup H a x ∧ nameB x.1 = true ∧ wayB x.2.1 = true ∧ v = .bl true
theorem ty_tup {H1 : Hp} {a : Addr} {xs : List V} (h : H1 a = some (.tup xs)) : TyX K H1 (.ref a) (.type "tuple") := .base (.tup h)
theorem fn_is_event (S : Say K mg) : Fn P w K mg base dis_event 2 ["thing"] (spV T p_is_event) := by
  obtain ⟨_, F1, O1⟩ := fn_is_name (T := T) (P := P) (w := w) (base := base) S
  obtain ⟨_, F2, O2⟩ := fn_is_way (T := T) (P := P) (w := w) (base := base) S
  refine fn_v S.f_is_event sc_is_event (fun vs H v h => by obtain ⟨_, _, rfl, _⟩ := h; rfl) fun cdv A outer s H vs E hr => ⟨_, (tm_is_event S F1 O1 F2 O2 _ cdv A outer s H E hr).2, fun v H0 Q e h q => ?_⟩
  obtain ⟨a, ⟨n, wy, b⟩, rfl, ha, h1, h2, rfl⟩ := h
  have ha : H0 a = some (.tup [.str n, .str wy, .bl b]) := ha
  have hA : H a = some (.tup [.str n, .str wy, .bl b]) := e.tup ha
  have st : SqT K H a [.str n, .str wy, .bl b] := st_of hA
  dsimp only [tm_is_event]
  refine q_skip (T := T) (.is (et_or (et_not (et_b (ev_cb (ea2 (ev_var rfl) ev_c) (rc_isi (b := true) (fun H1 e1 => ty_tup (e1.tup hA)) (by decide +kernel))))) fun _ => et_test (ev_op (ev_cb (ea1 (ev_var rfl)) (rc_lenT st)) ev_c (rv_ne rfl))) rfl) fun H1 e1 => ?_
  exact s_rv (ev_andV (ev_call (ea1 (ev_op (ev_var rfl) ev_c (rv_ixt st rfl))) (gv ⟨n, rfl, h1, rfl⟩)) fun _ => ev_andV (ev_call (ea1 (ev_op (ev_var rfl) ev_c (rv_ixt st rfl))) (gv ⟨wy, rfl, h2, rfl⟩)) fun _ => ev_cb (ea2 (ev_op (ev_var rfl) ev_c (rv_ixt st rfl)) ev_c) (rc_isi (b := true) (fun _ _ => ty_bl) (by decide +kernel))) e1 (q.mono e1) rfl
def p_is_team : List V → Hp → V → Prop := fun vs H v => ∃ z : Str, vs = [.str z] ∧ (z = ("" : Str) ∨ nameB z = true) ∧ v = .bl true
theorem fn_is_team (S : Say K mg) : Fn P w K mg base dis_team 2 ["thing"] (spV T p_is_team) := by
  obtain ⟨_, F1, O1⟩ := fn_is_name (T := T) (P := P) (w := w) (base := base) S
  refine fn_v S.f_is_team sc_is_team (fun vs H v h => by obtain ⟨_, rfl, _⟩ := h; rfl) fun cdv A outer s H vs E hr => ⟨_, (tm_is_team S F1 O1 _ cdv A outer s H E hr).2, fun v H0 Q e h q => ?_⟩
  obtain ⟨z, rfl, h1, rfl⟩ := h
  dsimp only [tm_is_team]
  refine s_rv (ev_andV (ev_cb (ea2 (ev_var rfl) ev_c) (rc_isi (b := true) (fun _ _ => ty_str) (by decide +kernel))) fun _ => ev_orV (b := decide (V.str z = V.str "")) (c := true) (ev_op (ev_var rfl) ev_c (rv_eq rfl)) fun h => ev_call (ea1 (ev_var rfl)) (gv ⟨z, rfl, ?_, rfl⟩)) e q (by simp)
  rcases h1 with rfl | h1
  · simp at h
  · exact h1
def p_known_day : List V → Hp → V → Prop := fun vs H v => (vs = [.non] ∧ v = .int 40000) ∨ ∃ i : Int, vs = [.int i] ∧ -40000 ≤ i ∧ i ≤ 40000 ∧ v = .int i
theorem fn_known_day (S : Say K mg) : Fn P w K mg base dknown_day 4 ["known"] (spV T p_known_day) := by
  obtain ⟨_, F1, O1⟩ := fn_is_day (T := T) (P := P) (w := w) (base := base) S
  refine fn_v S.f_known_day sc_known_day (fun vs H v h => by rcases h with ⟨rfl, _⟩ | ⟨_, rfl, _⟩ <;> rfl) fun cdv A outer s H vs E hr => ⟨_, (tm_known_day S F1 O1 _ cdv A outer s H E hr).2, fun v H0 Q e h q => ?_⟩
  dsimp only [tm_known_day]
  rcases h with ⟨rfl, rfl⟩ | ⟨i, rfl, h1, h2, rfl⟩
  · refine q_skip (T := T) (.is (et_and (b := false) (c := false) (et_test (ev_op (ev_var rfl) ev_c rv_notn)) fun h => (by cases h)) rfl) fun H1 e1 => ?_
    exact s_rv (ev_if (b := true) (et_test (ev_op (ev_var rfl) ev_c rv_isn)) (fun _ => ev_c) fun h => (by cases h)) (.refl H1) (q.mono e1) rfl
  · refine q_skip (T := T) (.is (et_and (b := true) (c := false) (et_test (ev_op (ev_var rfl) ev_c rv_notn)) fun h => et_not (et_b (b := true) (ev_call (ea1 (ev_var rfl)) (gv ⟨i, rfl, h1, h2, rfl⟩)))) rfl) fun H1 e1 => ?_
    exact s_rv (ev_if (b := false) (et_test (ev_op (ev_var rfl) ev_c rv_isn)) (fun h => by cases h) fun h => ev_var rfl) (.refl H1) (q.mono e1) rfl
def LimOk (ns : List Int) : Prop := ns.length ≤ 4 ∧ (∀ n ∈ ns, 1 ≤ n ∧ n ≤ 99) ∧ ns.Pairwise (· < ·)
def p_are_limits : List V → Hp → V → Prop := fun vs H v => ∃ (a : Addr) (ns : List Int), vs = [.ref a] ∧ H a = some (.tup (ns.map V.int)) ∧ LimOk ns ∧ v = .bl true
theorem fn_are_limits (S : Say K mg) : Fn P w K mg base dare_limits 3 ["thing"] (spV T p_are_limits) := by
  obtain ⟨_, F1, O1⟩ := fn_is_from (T := T) (P := P) (w := w) (base := base) S
  obtain ⟨_, F2, O2⟩ := fn_rises (T := T) (P := P) (w := w) (base := base) S
  refine fn_v S.f_are_limits sc_are_limits (fun vs H v h => by obtain ⟨_, _, rfl, _⟩ := h; rfl) fun cdv A outer s H vs E hr => ⟨_, (tm_are_limits S F1 O1 F2 O2 _ cdv A outer s H E hr).2, fun v H0 Q e h q => ?_⟩
  obtain ⟨a, ns, rfl, ha, ⟨h1, h2, h3⟩, rfl⟩ := h
  have hA := e.tup ha
  have st : SqT K H a (ns.map V.int) := st_of hA
  dsimp only [tm_are_limits]
  refine q_skip (T := T) (.is (et_or (et_not (et_b (ev_cb (ea2 (ev_var rfl) ev_c) (rc_isi (b := true) (fun H1 e1 => ty_tup (e1.tup hA)) (by decide +kernel))))) fun _ => et_test (ev_op (ev_cb (ea1 (ev_var rfl)) (rc_lenT st)) ev_c rv_i0)) (by rw [decide_eq_false (by rw [List.length_map]; omega)]; rfl)) fun H1 e1 => ?_
  refine s_rv (ev_andV (b := true) (c := true) (ev_cb1 (lc_tupl (f := fun _ => true) (ev := fun _ => .bl true) (ev_var rfl) (e1.sqt st) (by omega) (fun _ => rfl) (fun _ _ _ _ => et_yes) fun n hn _ H2 e2 => ?_) fun x H2 e2 hx => ?_) fun _ => ev_call (ea1 (ev_var rfl)) (gv ⟨a, ns, rfl, e1.sqt st, by omega, h3, rfl⟩)) (.refl H1) (q.mono e1) rfl
  · exact ev_call (ea3 (ev_var rfl) ev_c ev_c) (gv ⟨n, 1, 99, rfl, (h2 n hn).1, (h2 n hn).2, rfl⟩)
  · obtain ⟨p, rfl, _, hp⟩ := hx
    exact (rc_all (bs := ((ns.filter fun _ => true).map fun _ => true)) (sl_of (by rw [hp, List.map_map]; rfl))).is (by simp)
end
end Bb
/-! ## part Rd2 -/
namespace Bb
open PySem PySem.Spec PyProof.Rows L2 LamX BbS
structure Rw where
  name : Str
  event : Str
  mark : Int
  day : Int
  hour : Int
  wind : Int
  course : Str
deriving DecidableEq
def rowV (r : Rw) : List V := [.str r.name, .str r.event, .int r.mark, .int r.day, .int r.hour, .int r.wind, .str r.course]
def rowDs (r : Rw) : List PyData := [.str r.name, .str r.event, .int r.mark, .int r.day, .int r.hour, .int r.wind, .str r.course]
def rowF (r : Rw) : List (Str × V) := [("name", .str r.name), ("event", .str r.event), ("mark", .int r.mark), ("day", .int r.day), ("hour", .int r.hour), ("wind", .int r.wind), ("course", .str r.course)]
structure Trm where
  limits : List Int
  up : Bool
  wind : Int
  shares : Bool
structure Prs where
  born : Int
  group : Str
  team : Str
def trmF (l : Addr) (R : Trm) : List (Str × V) := [("limits", .ref l), ("up", .bl R.up), ("wind", .int R.wind), ("shares", .bl R.shares)]
def prsF (n : Str) (p : Prs) : List (Str × V) := [("name", .str n), ("born", .int p.born), ("group", .str p.group), ("team", .str p.team)]
def DeedAt (K : PySem.W.Frag) (H : Hp) (a : Addr) (r : Rw) : Prop := ∃ dx, H a = some (.ins (cDeed K) dx (rowF r))
def RulesAt (K : PySem.W.Frag) (H : Hp) (a : Addr) (R : Trm) : Prop := ∃ dx l, H a = some (.ins (cRules K) dx (trmF l R)) ∧ H l = some (.tup (R.limits.map V.int))
def PersonAt (K : PySem.W.Frag) (H : Hp) (a : Addr) (n : Str) (p : Prs) : Prop := ∃ dx, H a = some (.ins (cPerson K) dx (prsF n p))
structure RwOk (r : Rw) : Prop where
  n : nameB r.name = true
  e : nameB r.event = true
  m1 : 1 ≤ r.mark
  m2 : r.mark ≤ 1000000
  d1 : 0 ≤ r.day
  d2 : r.day ≤ 40000
  h1 : 0 ≤ r.hour
  h2 : r.hour ≤ 23
  w1 : -99 ≤ r.wind
  w2 : r.wind ≤ 99
  c : nameB r.course = true
  s1 : PyData.strOk r.name = true
  s2 : PyData.strOk r.event = true
  s3 : PyData.strOk r.course = true
section
variable {T : TT0} {P : Program} {w : World} {K : PySem.W.Frag} {mg : Str → Option Value} {base : Heap} {H H0 H' : Hp} {a : Addr} {r : Rw} {R : Trm} {n : Str} {p : Prs}
theorem DeedAt.mono (h : DeedAt K H a r) (e : Wd T H H') : DeedAt K H' a r := by
  obtain ⟨dx, h⟩ := h
  exact ⟨dx, e.ins h⟩
theorem RulesAt.mono (h : RulesAt K H a R) (e : Wd T H H') : RulesAt K H' a R := by
  obtain ⟨dx, l, h, h2⟩ := h
  exact ⟨dx, l, e.ins h, e.tup h2⟩
theorem PersonAt.mono (h : PersonAt K H a n p) (e : Wd T H H') : PersonAt K H' a n p := by
  obtain ⟨dx, h⟩ := h
  exact ⟨dx, e.ins h⟩
theorem put_lt {f : Str} {v : V} {n : Nat} : ∀ {fs : List (Str × V)}, fs.length < n → (putF f v fs).length < n + 1
  | [], _ => by show 1 < n + 1; omega
  | (g, x) :: r, h => by
    have h' : r.length + 1 < n := h
    unfold putF
    split
    · show r.length + 1 < n + 1
      omega
    · have := put_lt (f := f) (v := v) (n := n - 1) (fs := r) (by omega)
      show (putF f v r).length + 1 < n + 1
      omega
theorem z_lt {n : Nat} : ([] : List (Str × V)).length < n + 1 := Nat.zero_lt_succ n
/-! ### __init__ -/
def spInit (T : TT0) (C : Addr) (pre : List V → Hp → List (Str × V) → Prop) : Sp := fun vs H Q _ => ∃ p dx args fs H0, vs = .ref p :: args ∧ H p = some (.ins C dx []) ∧ New H0 p ∧ Wd T H0 H ∧ pre args H0 fs ∧
  ∀ H', Wd T H0 H' → H' p = some (.ins C dx fs) → Q .non H'
section
variable {σ : L2.St} {C dx q : Addr} {fs : List (Str × V)} {tv : TE} {tz : TS} {D : Ends} {i : Nat} {v : V} {f : Str} {Φ : V → Hp → Prop}
theorem i_fld (nw : New H0 q) (e0 : Wd T H0 H) (hp : H q = some (.ins C dx fs)) (hv : Ev T tv σ H0 v) (ho : σ[i]? = some (some (.ref q))) (c : Cls K C) (na : NoAttr K C f) (hl : fs.length < 1000)
    (k : ∀ H1, Wd T H0 H1 → H1 q = some (.ins C dx (putF f v fs)) → D.nx σ H1) : sFld K (tVar i) tv f D σ H := (hv.mono e0).bind fun H1 e1 => ⟨_, ho, q, C, dx, fs, rfl, e1.ins hp, c, na, hl, k _ ((e0.trans e1).mut nw (e1.ins hp) trivial) upd_same⟩
theorem i_fldO (nw : New H0 q) (e0 : Wd T H0 H) (hp : H q = some (.ins C dx fs)) (hv : EvO T tv σ H Φ) (ho : σ[i]? = some (some (.ref q))) (c : Cls K C) (na : NoAttr K C f) (hl : fs.length < 1000)
    (k : ∀ v H1 H2, Wd T H H1 → Φ v H1 → (∀ b, b ≠ q → H2 b = H1 b) → Wd T H0 H2 → H2 q = some (.ins C dx (putF f v fs)) → D.nx σ H2) : sFld K (tVar i) tv f D σ H := hv.bind fun v H1 e1 fv => ⟨_, ho, q, C, dx, fs, rfl, e1.ins hp, c, na, hl, k v H1 _ e1 fv (fun b hb => upd_ne hb) ((e0.trans e1).mut nw (e1.ins hp) trivial) upd_same⟩
theorem q_fld (nw : New H0 q) (e0 : Wd T H0 H) (hp : H q = some (.ins C dx fs)) (hv : Ev T tv σ H0 v) (ho : σ[i]? = some (some (.ref q))) (c : Cls K C) (na : NoAttr K C f) (hl : fs.length < 1000)
    (k : ∀ H1, Wd T H0 H1 → H1 q = some (.ins C dx (putF f v fs)) → tz D σ H1) : tSeq (sFld K (tVar i) tv f) tz D σ H := i_fld (D := { D with nx := tz D }) nw e0 hp hv ho c na hl k
theorem q_fldO (nw : New H0 q) (e0 : Wd T H0 H) (hp : H q = some (.ins C dx fs)) (hv : EvO T tv σ H Φ) (ho : σ[i]? = some (some (.ref q))) (c : Cls K C) (na : NoAttr K C f) (hl : fs.length < 1000)
    (k : ∀ v H1 H2, Wd T H H1 → Φ v H1 → (∀ b, b ≠ q → H2 b = H1 b) → Wd T H0 H2 → H2 q = some (.ins C dx (putF f v fs)) → tz D σ H2) : tSeq (sFld K (tVar i) tv f) tz D σ H := i_fldO (D := { D with nx := tz D }) nw e0 hp hv ho c na hl k
/-- C(e, .., k=..) -/
theorem eo_make {n m : Nat} {gV : List V → List V → List V} {ta tk : TA} {vs zs : List V} {pre : List V → Hp → List (Str × V) → Prop} (ha : EvA T ta σ H vs) (hk : EvA T tk σ H zs) (h1 : vs.length = n) (h2 : zs.length = m) {args : List V} (hg : ∀ x, gV (.ref x :: vs) zs = .ref x :: args)
    (hp : ∀ H1, Wd T H H1 → pre args H1 fs) : EvO T (tMakeN C n m (spInit T C pre) gV E0 ta tk) σ H (fun v H' => ∃ p dx, v = .ref p ∧ New H p ∧ H' p = some (.ins C dx fs)) := fun H1 e1 Q q =>
  ha H1 e1 _ fun H2 e2 => hk H2 (e1.trans e2) _ fun H3 e3 => ⟨h1, h2, fun x dx nx nd ne => by
    have w1 : Wd T H3 (upd (upd H3 dx (.own x)) x (.ins C dx [])) := (Wd.new nd).trans (.new (by rw [upd_ne ne.symm]; exact nx))
    refine ⟨x, dx, args, fs, H3, hg x, upd_same, new_none nx, w1, hp H3 ((e1.trans e2).trans e3), fun H' w2 hx => ⟨rfl, ?_⟩⟩
    exact q _ _ ((e2.trans e3).trans w2) ⟨x, dx, rfl, (new_none nx).back ((e1.trans e2).trans e3), hx⟩⟩
end
def p_Deed_init : List V → Hp → List (Str × V) → Prop := fun args _ fs => ∃ r : Rw, args = rowV r ∧ RwOk r ∧ fs = rowF r
theorem fn_init {C : Addr} {d : He.DefD} {N ps : List Str} {k : Nat} {pre : List V → Hp → List (Str × V) → Prop} (hF : ∃ fd, Def K d fd) (S : FnScope N ps d.scope) (len : ∀ vs H fs, pre vs H fs → vs.length + 1 = ps.length)
    (hb : ∀ (cdv : Value) (A : Around) (outer : List Env) (s : Shared) (H : Hp) (E : XK), Room k (A.deeper (envOfC d.qual d.scope s.heap.objs.size (He.fAd K d.at_) cdv)) →
      ∃ t, PSs (cxOf CX0 P w K mg base N d.qual d.scope (He.fAd K d.at_) cdv A outer s H E) d.body t ∧ ∀ (p dx : Addr) (args : List V) (fs : List (Str × V)) (H0 : Hp) (Q : VK), H p = some (.ins C dx []) → New H0 p → Wd T H0 H → pre args H0 fs →
        (∀ H', Wd T H0 H' → H' p = some (.ins C dx fs) → Q .non H') → t { nx := fun _ H' => Q .non H', rt := Q } (start N (.ref p :: args)) H) : Fn P w K mg base d (k + 1) ps (spInit T C pre) :=
  fn_ok hF S (fun vs H Q E ⟨p, dx, args, fs, H0, e, _, _, _, h, _⟩ => by rw [e, List.length_cons]; exact len _ _ _ h) fun cdv A outer s H vs Q E hr ⟨p, dx, args, fs, H0, e, hp, nw, w0, h, q⟩ => by
    subst e
    obtain ⟨t, h1, h2⟩ := hb cdv A outer s H E hr
    exact ⟨t, h1, h2 p dx args fs H0 Q hp nw w0 h q⟩
theorem fn_Deed_init (S : Say K mg) : Fn P w K mg base dDeed_init 4 ["self", "name", "event", "mark", "day", "hour", "wind", "course"] (spInit T (cDeed K) p_Deed_init) := by
  obtain ⟨_, F1, O1⟩ := fn_is_name (T := T) (P := P) (w := w) (base := base) S
  obtain ⟨_, F2, O2⟩ := fn_is_mark (T := T) (P := P) (w := w) (base := base) S
  obtain ⟨_, F3, O3⟩ := fn_is_day (T := T) (P := P) (w := w) (base := base) S
  obtain ⟨_, F4, O4⟩ := fn_is_from (T := T) (P := P) (w := w) (base := base) S
  obtain ⟨_, F5, O5⟩ := fn_is_wind (T := T) (P := P) (w := w) (base := base) S
  refine fn_init S.f_Deed_init sc_Deed_init (fun vs H v h => by obtain ⟨_, rfl, _⟩ := h; rfl) fun cdv A outer s H E hr => ⟨_, (tm_Deed_init S F4 O4 F1 O1 F3 O3 F2 O2 F5 O5 _ cdv A outer s H E hr).2, fun p dx args fs H0 Q hp nw e h q => ?_⟩
  obtain ⟨r, rfl, ok, rfl⟩ := h
  dsimp only [tm_Deed_init]
  have d1 := ok.d1
  have d2 := ok.d2
  refine q_skip (T := T) (.is (et_or (et_not (et_b (b := true) (ev_call (ea1 (ev_var rfl)) (gv ⟨_, rfl, ok.n, rfl⟩)))) fun _ => et_or (et_not (et_b (b := true) (ev_call (ea1 (ev_var rfl)) (gv ⟨_, rfl, ok.e, rfl⟩)))) fun _ =>
    et_or (et_not (et_b (b := true) (ev_call (ea1 (ev_var rfl)) (gv ⟨_, rfl, ok.m1, ok.m2, rfl⟩)))) fun _ => et_not (et_b (b := true) (ev_call (ea1 (ev_var rfl)) (gv ⟨_, rfl, by omega, ok.d2, rfl⟩)))) rfl) fun H1 e1 => ?_
  have g1 := e.trans e1
  refine q_skip (T := T) (.is (et_or (et_not (et_b (b := true) (ev_call (ea3 (ev_var rfl) ev_c ev_c) (gv ⟨_, _, _, rfl, ok.h1, ok.h2, rfl⟩)))) fun _ => et_or (et_not (et_b (b := true) (ev_call (ea1 (ev_var rfl)) (gv ⟨_, rfl, ok.w1, ok.w2, rfl⟩)))) fun _ =>
    et_not (et_b (b := true) (ev_call (ea1 (ev_var rfl)) (gv ⟨_, rfl, ok.c, rfl⟩)))) rfl) fun H2 e2 => ?_
  have g2 := g1.trans e2
  have hp2 := (e1.trans e2).ins hp
  refine q_fld nw g2 hp2 (ev_var rfl) rfl S.c_Deed S.n_Deed_name (by decide) fun H3 g3 hp3 => ?_
  refine q_fld nw g3 hp3 (ev_var rfl) rfl S.c_Deed S.n_Deed_event (put_lt (z_lt)) fun H4 g4 hp4 => ?_
  refine q_fld nw g4 hp4 (ev_var rfl) rfl S.c_Deed S.n_Deed_mark (put_lt (put_lt (z_lt))) fun H5 g5 hp5 => ?_
  refine q_fld nw g5 hp5 (ev_var rfl) rfl S.c_Deed S.n_Deed_day (put_lt (put_lt (put_lt (z_lt)))) fun H6 g6 hp6 => ?_
  refine q_fld nw g6 hp6 (ev_var rfl) rfl S.c_Deed S.n_Deed_hour (put_lt (put_lt (put_lt (put_lt (z_lt))))) fun H7 g7 hp7 => ?_
  refine q_fld nw g7 hp7 (ev_var rfl) rfl S.c_Deed S.n_Deed_wind (put_lt (put_lt (put_lt (put_lt (put_lt (z_lt)))))) fun H8 g8 hp8 => ?_
  exact i_fld nw g8 hp8 (ev_var rfl) rfl S.c_Deed S.n_Deed_course (put_lt (put_lt (put_lt (put_lt (put_lt (put_lt (z_lt))))))) fun H9 g9 hp9 => q _ g9 (by rw [hp9]; rfl)
def p_Rules_init : List V → Hp → List (Str × V) → Prop := fun args H fs => ∃ (l : Addr) (R : Trm), args = [.ref l, .bl R.up, .int R.wind, .bl R.shares] ∧ H l = some (.tup (R.limits.map V.int)) ∧ LimOk R.limits ∧ -99 ≤ R.wind ∧ R.wind ≤ 99 ∧ fs = trmF l R
theorem fn_Rules_init (S : Say K mg) : Fn P w K mg base dRules_init 4 ["self", "limits", "up", "wind", "shares"] (spInit T (cRules K) p_Rules_init) := by
  obtain ⟨_, F1, O1⟩ := fn_are_limits (T := T) (P := P) (w := w) (base := base) S
  obtain ⟨_, F2, O2⟩ := fn_is_wind (T := T) (P := P) (w := w) (base := base) S
  refine fn_init S.f_Rules_init sc_Rules_init (fun vs H v h => by obtain ⟨_, _, rfl, _⟩ := h; rfl) fun cdv A outer s H E hr => ⟨_, (tm_Rules_init S F1 O1 F2 O2 _ cdv A outer s H E hr).2, fun p dx args fs H0 Q hp nw e h q => ?_⟩
  obtain ⟨l, R, rfl, hl, ok, w1, w2, rfl⟩ := h
  dsimp only [tm_Rules_init]
  refine q_asg (T := T) (ev_if (b := false) (et_test (ev_op (ev_var rfl) ev_c rv_isn)) (fun h => by cases h) fun h => ev_var rfl) fun H1 e1 => ?_
  have g1 := e.trans e1
  refine q_skip (T := T) (.is (et_or (et_not (et_b (b := true) (ev_call (ea1 (ev_var rfl)) (gv ⟨l, R.limits, rfl, g1.tup hl, ok, rfl⟩)))) fun _ => et_or (et_not (et_b (b := true) (ev_cb (ea2 (ev_var rfl) ev_c) (rc_isi (b := true) (fun _ _ => ty_bl) (by decide +kernel))))) fun _ =>
    et_or (et_not (et_b (b := true) (ev_call (ea1 (ev_var rfl)) (gv ⟨_, rfl, w1, w2, rfl⟩)))) fun _ => et_not (et_b (b := true) (ev_cb (ea2 (ev_var rfl) ev_c) (rc_isi (b := true) (fun _ _ => ty_bl) (by decide +kernel))))) rfl) fun H2 e2 => ?_
  have g2 := g1.trans e2
  have hp2 := (e1.trans e2).ins hp
  refine q_fld nw g2 hp2 (ev_var rfl) rfl S.c_Rules S.n_Rules_limits z_lt fun H3 g3 hp3 => ?_
  refine q_fld nw g3 hp3 (ev_var rfl) rfl S.c_Rules S.n_Rules_up (put_lt z_lt) fun H4 g4 hp4 => ?_
  refine q_fld nw g4 hp4 (ev_var rfl) rfl S.c_Rules S.n_Rules_wind (put_lt (put_lt z_lt)) fun H5 g5 hp5 => ?_
  exact i_fld nw g5 hp5 (ev_var rfl) rfl S.c_Rules S.n_Rules_shares (put_lt (put_lt (put_lt z_lt))) fun H9 g9 hp9 => q _ g9 (by rw [hp9]; rfl)
def p_Person_init : List V → Hp → List (Str × V) → Prop := fun args H fs => ∃ (n : Str) (p : Prs), args = [.str n, .int p.born, .str p.group, .str p.team] ∧ nameB n = true ∧ -40000 ≤ p.born ∧ p.born ≤ 40000 ∧ nameB p.group = true ∧ (p.team = ("" : Str) ∨ nameB p.team = true) ∧ fs = prsF n p
theorem fn_Person_init (S : Say K mg) : Fn P w K mg base dPerson_init 4 ["self", "name", "born", "group", "team"] (spInit T (cPerson K) p_Person_init) := by
  obtain ⟨_, F1, O1⟩ := fn_is_name (T := T) (P := P) (w := w) (base := base) S
  obtain ⟨_, F2, O2⟩ := fn_is_day (T := T) (P := P) (w := w) (base := base) S
  obtain ⟨_, F3, O3⟩ := fn_is_team (T := T) (P := P) (w := w) (base := base) S
  refine fn_init S.f_Person_init sc_Person_init (fun vs H v h => by obtain ⟨_, _, rfl, _⟩ := h; rfl) fun cdv A outer s H E hr => ⟨_, (tm_Person_init S F1 O1 F2 O2 F3 O3 _ cdv A outer s H E hr).2, fun p dx args fs H0 Q hp nw e h q => ?_⟩
  obtain ⟨n, r, rfl, h1, h2, h3, h4, h5, rfl⟩ := h
  dsimp only [tm_Person_init]
  refine q_skip (T := T) (.is (et_or (et_not (et_b (b := true) (ev_call (ea1 (ev_var rfl)) (gv ⟨_, rfl, h1, rfl⟩)))) fun _ => et_or (et_not (et_b (b := true) (ev_call (ea1 (ev_var rfl)) (gv ⟨_, rfl, h2, h3, rfl⟩)))) fun _ =>
    et_or (et_not (et_b (b := true) (ev_call (ea1 (ev_var rfl)) (gv ⟨_, rfl, h4, rfl⟩)))) fun _ => et_not (et_b (b := true) (ev_call (ea1 (ev_var rfl)) (gv ⟨_, rfl, h5, rfl⟩)))) rfl) fun H2 e2 => ?_
  have g2 := e.trans e2
  have hp2 := e2.ins hp
  refine q_fld nw g2 hp2 (ev_var rfl) rfl S.c_Person S.n_Person_name z_lt fun H3 g3 hp3 => ?_
  refine q_fld nw g3 hp3 (ev_var rfl) rfl S.c_Person S.n_Person_born (put_lt z_lt) fun H4 g4 hp4 => ?_
  refine q_fld nw g4 hp4 (ev_var rfl) rfl S.c_Person S.n_Person_group (put_lt (put_lt z_lt)) fun H5 g5 hp5 => ?_
  exact i_fld nw g5 hp5 (ev_var rfl) rfl S.c_Person S.n_Person_team (put_lt (put_lt (put_lt z_lt))) fun H9 g9 hp9 => q _ g9 (by rw [hp9]; rfl)
/-! ### small methods -/
/-- o.f -/
theorem ev_f {σ : L2.St} {C dx : Addr} {fs : List (Str × V)} {i : Nat} {f : Str} {v : V} (hi : σ[i]? = some (some (.ref a))) (hp : H a = some (.ins C dx fs)) (c : Cls K C) (n : NoAttr K C f) (l : fs.lookup f = some v) : Ev T (tFld K (tVar i) f) σ H v := ev_fld (ev_var hi) hp c n l
def p_Deed_row (K : PySem.W.Frag) : List V → Hp → (V → Hp → Prop) → Prop := fun vs H Φ => ∃ a r, vs = [.ref a] ∧ DeedAt K H a r ∧ Φ = NTup H (rowV r)
theorem fn_Deed_row (S : Say K mg) : Fn P w K mg base dDeed_row 1 ["self"] (spO T (p_Deed_row K)) := by
  refine fn_o S.f_Deed_row sc_Deed_row (fun vs H v h => by obtain ⟨_, _, rfl, _⟩ := h; rfl) fun cdv A outer s H vs E hr => ⟨_, (tm_Deed_row S _ cdv A outer s H E hr).2, fun Φ H0 Q e h q => ?_⟩
  obtain ⟨a, r, rfl, hd, rfl⟩ := h
  obtain ⟨dx, hd⟩ := hd
  dsimp only [tm_Deed_row]
  exact s_ro (eo_tup (ea_cons (ev_f rfl hd S.c_Deed S.n_Deed_name rfl) (ea_cons (ev_f rfl hd S.c_Deed S.n_Deed_event rfl) (ea_cons (ev_f rfl hd S.c_Deed S.n_Deed_mark rfl) (ea_cons (ev_f rfl hd S.c_Deed S.n_Deed_day rfl)
    (ea3 (ev_f rfl hd S.c_Deed S.n_Deed_hour rfl) (ev_f rfl hd S.c_Deed S.n_Deed_wind rfl) (ev_f rfl hd S.c_Deed S.n_Deed_course rfl)))))) (by simp)) e q
def p_Deed_time (K : PySem.W.Frag) : List V → Hp → (V → Hp → Prop) → Prop := fun vs H Φ => ∃ a r, vs = [.ref a] ∧ DeedAt K H a r ∧ Φ = NTup H [.int r.day, .int r.hour]
theorem fn_Deed_time (S : Say K mg) : Fn P w K mg base dDeed_time 1 ["self"] (spO T (p_Deed_time K)) := by
  refine fn_o S.f_Deed_time sc_Deed_time (fun vs H v h => by obtain ⟨_, _, rfl, _⟩ := h; rfl) fun cdv A outer s H vs E hr => ⟨_, (tm_Deed_time S _ cdv A outer s H E hr).2, fun Φ H0 Q e h q => ?_⟩
  obtain ⟨a, r, rfl, hd, rfl⟩ := h
  obtain ⟨dx, hd⟩ := hd
  dsimp only [tm_Deed_time]
  exact s_ro (eo_tup (ea2 (ev_f rfl hd S.c_Deed S.n_Deed_day rfl) (ev_f rfl hd S.c_Deed S.n_Deed_hour rfl)) (by simp)) e q
def p_Person_age_at (K : PySem.W.Frag) : List V → Hp → V → Prop := fun vs H v => ∃ (a : Addr) (d : Int) (n : Str) (p : Prs), vs = [.ref a, .int d] ∧ PersonAt K H a n p ∧ v = .int ((d - p.born) / 365)
theorem fn_Person_age_at (S : Say K mg) : Fn P w K mg base dPerson_age_at 1 ["self", "day"] (spV T (p_Person_age_at K)) := by
  refine fn_v S.f_Person_age_at sc_Person_age_at (fun vs H v h => by obtain ⟨_, _, _, _, rfl, _⟩ := h; rfl) fun cdv A outer s H vs E hr => ⟨_, (tm_Person_age_at S _ cdv A outer s H E hr).2, fun v H0 Q e h q => ?_⟩
  obtain ⟨a, d, n, r, rfl, hd, rfl⟩ := h
  obtain ⟨dx, hd⟩ := hd
  dsimp only [tm_Person_age_at]
  exact s_rv (ev_op (ev_op (ev_var rfl) (ev_f rfl hd S.c_Person S.n_Person_born rfl) rv_i0) ev_c (rv_i (wide_div (b := 30) (by decide) (by decide) (by decide) (by decide)))) e q rfl
def p_Rules_len (K : PySem.W.Frag) : List V → Hp → V → Prop := fun vs H v => ∃ a R, vs = [.ref a] ∧ RulesAt K H a R ∧ R.limits.length ≤ 4 ∧ v = .int ((R.limits.length : Int) + 1)
theorem fn_Rules_len (S : Say K mg) : Fn P w K mg base dRules_len 1 ["self"] (spV T (p_Rules_len K)) := by
  refine fn_v S.f_Rules_len sc_Rules_len (fun vs H v h => by obtain ⟨_, _, rfl, _⟩ := h; rfl) fun cdv A outer s H vs E hr => ⟨_, (tm_Rules_len S _ cdv A outer s H E hr).2, fun v H0 Q e h q => ?_⟩
  obtain ⟨a, R, rfl, hd, hl, rfl⟩ := h
  obtain ⟨dx, l, hd, hl2⟩ := hd
  dsimp only [tm_Rules_len]
  refine s_rv (ev_cb1 (eo_cat (eo_m (ev_f rfl hd S.c_Rules S.n_Rules_limits rfl) hl2) (fun H1 e1 => eo_tupm (ea1 ev_c) (by simp)) (by simp; omega)) fun x H1 e1 hx => ?_) e q rfl
  obtain ⟨p, rfl, hp⟩ := hx
  exact (rc_lenT (st_of hp)).is (by simp)
/-- the places that are counted at an age -/
def clsV (R : Trm) (age : Int) : List V := if R.up then rgV (R.limits.filter (decide <| · ≤ age)).length (R.limits.length + 1) else [.int (R.limits.filter (decide <| · ≤ age)).length]
def p_classes_in (K : PySem.W.Frag) : List V → Hp → (V → Hp → Prop) → Prop := fun vs H Φ => ∃ a R age, vs = [.ref a, .int age] ∧ RulesAt K H a R ∧ R.limits.length ≤ 4 ∧ Φ = NLst H (clsV R age)
theorem fn_Rules_classes_in (S : Say K mg) : Fn P w K mg base dRules_classes_in 1 ["self", "age"] (spO T (p_classes_in K)) := by
  refine fn_o S.f_Rules_classes_in sc_Rules_classes_in (fun vs H v h => by obtain ⟨_, _, _, rfl, _⟩ := h; rfl) fun cdv A outer s H vs E hr => ⟨_, (tm_Rules_classes_in S _ cdv A outer s H E hr).2, fun Φ H0 Q e h q => ?_⟩
  obtain ⟨a, R, age, rfl, hd, hl, rfl⟩ := h
  obtain ⟨dx, l, hd, hl2⟩ := hd
  dsimp only [tm_Rules_classes_in]
  have fl : (R.limits.filter (decide <| · ≤ age)).length ≤ R.limits.length := List.length_filter_le _ _
  refine q_asg (T := T) (v := .int ((R.limits.filter (decide <| · ≤ age)).length : Int)) (.mono (ev_cb1 (lc_tupl (iv := V.int) (f := fun n => decide (n ≤ age)) (ev := V.int) (ev_f rfl hd S.c_Rules S.n_Rules_limits rfl) (st_of hl2) (by omega) (fun _ => rfl) (fun n hn H1 e1 => et_test (ev_op (ev_var rfl) (ev_var rfl) rv_i0)) fun n hn _ H1 e1 => ev_var rfl) fun x H1 e1 hx => ?_) e) fun H1 e1 => ?_
  · obtain ⟨p, rfl, _, hp⟩ := hx
    exact (rc_lenL (sl_of hp)).is (by simp)
  · have g1 := e.trans e1
    refine s_ro (H0 := H1) (Φ := NLst H0 (clsV R age)) (eo_if (b := R.up) (et_b (ev_f rfl (g1.ins hd) S.c_Rules S.n_Rules_up rfl)) (fun hu => ?_) fun hu => ?_) (.refl H1) (q.mono e1)
    · refine (eo_lstRg (ev_var rfl) (ev_op (ev_cb (ea1 (ev_f rfl (g1.ins hd) S.c_Rules S.n_Rules_limits rfl)) (rc_lenT (st_of (g1.tup hl2)))) ev_c rv_i0) ?_).imp fun v H' e2 hv => ?_
      · rw [List.length_map]
        exact ⟨by omega, by omega, by omega, by omega, le_line (by omega)⟩
      · obtain ⟨p, rfl, nw, hp⟩ := hv
        exact ⟨p, rfl, nw.back g1, by rw [hp]; simp [clsV, hu]⟩
    · refine (eo_lst (ea1 (ev_var rfl)) (by simp)).imp fun v H' e2 hv => ?_
      obtain ⟨p, rfl, nw, hp⟩ := hv
      exact ⟨p, rfl, nw.back g1, by rw [hp]; simp [clsV, hu]⟩
def rowD (r : Rw) : PyData := .tuple (rowDs r)
theorem dp_row {H : Hp} {a : Addr} {r : Rw} (h : H a = some (.tup (rowV r))) : Dp K H (.ref a) (rowD r) := .tup (st_of h) (.cons (.str _) (.cons (.str _) (.cons (.int _) (.cons (.int _) (.cons (.int _) (.cons (.int _) (.cons (.str _) .nil)))))))
theorem shaped_row {r : Rw} (h : RwOk r) : SeqAt.shaped (rowD r) = true := by
  have h1 := h.s1
  have h2 := h.s2
  have h3 := h.s3
  unfold SeqAt.shaped rowD rowDs
  simp [PyData.canLay0, PyData.canLayAll0, PyData.depth, PyData.depthAll, h1, h2, h3]
theorem eqv_row_ne {r q : Rw} (h : r.day ≠ q.day ∨ r.hour ≠ q.hour) : PyData.eqv (rowD r) (rowD q) = false := by
  unfold rowD rowDs
  rcases h with h | h <;> simp [PyData.eqv, PyData.eqvAll, h]
def p_Deed_eq (K : PySem.W.Frag) : List V → Hp → V → Prop := fun vs H v => ∃ a b r q, vs = [.ref a, .ref b] ∧ DeedAt K H a r ∧ DeedAt K H b q ∧ (r.day ≠ q.day ∨ r.hour ≠ q.hour) ∧ RwOk r ∧ RwOk q ∧ v = .bl false
theorem fn_Deed_eq (S : Say K mg) : Fn P w K mg base dDeed_eq 2 ["self", "other"] (spV T (p_Deed_eq K)) := by
  obtain ⟨_, F1, O1⟩ := fn_Deed_row (T := T) (P := P) (w := w) (base := base) S
  refine fn_v S.f_Deed_eq sc_Deed_eq (fun vs H v h => by obtain ⟨_, _, _, _, rfl, _⟩ := h; rfl) fun cdv A outer s H vs E hr => ⟨_, (tm_Deed_eq S F1 O1 _ cdv A outer s H E hr).2, fun v H0 Q e h q => ?_⟩
  obtain ⟨a, b, r, r2, rfl, h1, h2, h3, ok1, ok2, rfl⟩ := h
  obtain ⟨dx, hA⟩ := h1
  obtain ⟨dy, hB⟩ := h2
  dsimp only [tm_Deed_eq]
  refine s_rv (ev_andV (b := true) (c := false) (ev_cb (ea2 (ev_var rfl) ev_c) (rc_isC hB)) fun _ => ev_op2 (eo_meth (ev_var rfl) hA rfl ea_nil (gvO ⟨a, r, rfl, ⟨dx, hA⟩, rfl⟩)) fun x H1 e1 hx => .imp (eo_meth (ev_var rfl) (e1.ins hB) rfl ea_nil (gvO ⟨b, r2, rfl, ⟨dy, e1.ins hB⟩, rfl⟩)) fun y H2 e2 hy => ?_) e q rfl
  obtain ⟨p, rfl, _, hp⟩ := hx
  obtain ⟨p2, rfl, _, hp2⟩ := hy
  exact (rv_eqd (dp_row (e2.tup hp)) (dp_row hp2) (shaped_row ok1) (shaped_row ok2)).is (by rw [eqv_row_ne h3])
end
end Bb
/-! ## part Rd3 -/
/-! the book -/
namespace Bb
open PySem PySem.Spec PyProof.Rows L2 LamX BbS
abbrev Evt := Str × Str × Bool
inductive Pap (α : Type) where
  | out (n : α) (k : Int)
  | inn (n : α) (k : Int)
  | right (c : Str) (k : Int)
  | wrong (c : Str) (s t : Int) (k : Int)
def Pap.known {α : Type} : Pap α → Int
  | .out _ k | .inn _ k | .right _ k | .wrong _ _ _ k => k
def papV : Pap Nat → List V
  | .out n k => [.str "out", .int (n : Int), .int k]
  | .inn n k => [.str "in", .int (n : Int), .int k]
  | .right c k => [.str "right", .str c, .int k]
  | .wrong c s t k => [.str "wrong", .str c, .int s, .int t, .int k]
structure Bk where
  events : List Evt
  terms : Trm
  people : List (Str × Prs)
  told : List (Rw × Int)
  papers : List (Pap Nat)
  past : Nat
  pe : Addr
/-- one told deed as it lies: its row, its known day, the pair's address, the deed's -/
structure Td where
  r : Rw
  k : Int
  t : Addr
  d : Addr
def EvsAt (H : Hp) (ev : Addr) (L : List Evt) : Prop := ∃ E : List (Evt × Addr), E.map (·.1) = L ∧ H ev = some (.tup (E.map fun q => .ref q.2)) ∧ ∀ q ∈ E, EvTup H q.2 q.1
def ToldAt (K : PySem.W.Frag) (H : Hp) (to : Addr) (L : List (Rw × Int)) : Prop := ∃ Z : List Td, Z.map (fun q => (q.r, q.k)) = L ∧ H to = some (.tup (Z.map fun q => .ref q.t)) ∧ ∀ q ∈ Z, H q.t = some (.tup [.ref q.d, .int q.k]) ∧ DeedAt K H q.d q.r
def PapsAt (H : Hp) (pa : Addr) (L : List (Pap Nat)) : Prop := ∃ Z : List (Pap Nat × Addr), Z.map (·.1) = L ∧ H pa = some (.tup (Z.map fun q => .ref q.2)) ∧ ∀ q ∈ Z, H q.2 = some (.tup (papV q.1))
def PplAt (K : PySem.W.Frag) (H : Hp) (pe : Addr) (L : List (Str × Prs)) : Prop := ∃ kvs : List (Key × V), H pe = some (.dK kvs) ∧ kvs.length = L.length ∧ (∀ q ∈ L, ∃ t, valV kvs (Sum.inr q.1) = some (.ref t) ∧ PersonAt K H t q.1 q.2) ∧ ∀ n, n ∉ L.map (·.1) → valV kvs (Sum.inr n) = none
structure Ad where
  dx : Addr
  ev : Addr
  ru : Addr
  pe : Addr
  to : Addr
  pa : Addr
  ps : Addr
def bkF (A : Ad) : List (Str × V) := [("events", .ref A.ev), ("rules", .ref A.ru), ("people", .ref A.pe), ("told", .ref A.to), ("papers", .ref A.pa), ("past", .ref A.ps)]
/-- what lies around the book -/
structure Parts (K : PySem.W.Frag) (H : Hp) (A : Ad) (B : Bk) : Prop where
  pq : A.pe = B.pe
  ev : EvsAt H A.ev B.events
  ru : RulesAt K H A.ru B.terms
  pe : PplAt K H A.pe B.people
  to : ToldAt K H A.to B.told
  pa : PapsAt H A.pa B.papers
  ps : ∃ xs : List V, H A.ps = some (.tup xs) ∧ xs.length = B.past
def BookAt (K : PySem.W.Frag) (H : Hp) (a : Addr) (B : Bk) : Prop := ∃ A : Ad, H a = some (.ins (cBook K) A.dx (bkF A)) ∧ Parts K H A B
section
variable {T : TT0} {P : Program} {w : World} {K : PySem.W.Frag} {mg : Str → Option Value} {base : Heap} {H H0 H' : Hp} {a p : Addr} {A : Ad} {B : Bk}
/-- what is asked of a heap's step so that all parts stay: tuples, dicts, instances of the other classes -/
structure Keeps (K : PySem.W.Frag) (H H' : Hp) : Prop where
  tup : ∀ b xs, H b = some (.tup xs) → H' b = some (.tup xs)
  dK : ∀ b xs, H b = some (.dK xs) → H' b = some (.dK xs)
  de : ∀ b r, DeedAt K H b r → DeedAt K H' b r
  ru : ∀ b r, RulesAt K H b r → RulesAt K H' b r
  pe : ∀ b n r, PersonAt K H b n r → PersonAt K H' b n r
theorem Wd.ke (e : Wd T H H') : Keeps K H H' := ⟨fun _ _ h => e.tup h, fun _ _ h => e.dK h, fun _ _ h => h.mono e, fun _ _ h => h.mono e, fun _ _ _ h => h.mono e⟩
theorem WdM.ke {dx : Addr} (e : WdM T a H H') (h : H a = some (.ins (cBook K) dx (bkF A))) : Keeps K H H' := by
  have gi : ∀ {b C d : Addr} {n : Str} {v : V} {fs : List (Str × V)}, n ≠ ("events" : Str) → H b = some (.ins C d ((n, v) :: fs)) → H' b = some (.ins C d ((n, v) :: fs)) := fun {b C d n v fs} hn hb => e.get h hb (fun z => by
    injection z with _ _ z
    injection z with z _
    injection z with z _
    exact hn z) nt_ins
  have gt : ∀ b xs, H b = some (.tup xs) → H' b = some (.tup xs) := fun b xs hb => e.get h hb (fun z => by cases z) nt_tup
  exact ⟨gt, fun b xs hb => e.get h hb (fun z => by cases z) nt_dK, fun b r ⟨d, hb⟩ => ⟨d, gi (by decide +kernel) hb⟩, fun b r ⟨d, l, hb, hl⟩ => ⟨d, l, gi (by decide +kernel) hb, gt _ _ hl⟩, fun b n r ⟨d, hb⟩ => ⟨d, gi (by decide +kernel) hb⟩⟩
theorem EvsAt.ke {ev : Addr} {L : List Evt} (h : EvsAt H ev L) (e : Keeps K H H') : EvsAt H' ev L := by
  obtain ⟨E, e1, e2, e3⟩ := h
  exact ⟨E, e1, e.tup _ _ e2, fun q hq => e.tup _ _ (e3 q hq)⟩
theorem ToldAt.ke {to : Addr} {L : List (Rw × Int)} (h : ToldAt K H to L) (e : Keeps K H H') : ToldAt K H' to L := by
  obtain ⟨E, e1, e2, e3⟩ := h
  exact ⟨E, e1, e.tup _ _ e2, fun q hq => ⟨e.tup _ _ (e3 q hq).1, e.de _ _ (e3 q hq).2⟩⟩
theorem PapsAt.ke {to : Addr} {L : List (Pap Nat)} (h : PapsAt H to L) (e : Keeps K H H') : PapsAt H' to L := by
  obtain ⟨E, e1, e2, e3⟩ := h
  exact ⟨E, e1, e.tup _ _ e2, fun q hq => e.tup _ _ (e3 q hq)⟩
theorem PplAt.ke {to : Addr} {L : List (Str × Prs)} (h : PplAt K H to L) (e : Keeps K H H') : PplAt K H' to L := by
  obtain ⟨E, e1, e2, e3, e4⟩ := h
  exact ⟨E, e.dK _ _ e1, e2, fun q hq => by
    obtain ⟨t, h1, h2⟩ := e3 q hq
    exact ⟨t, h1, e.pe _ _ _ h2⟩, e4⟩
theorem Parts.ke (h : Parts K H A B) (e : Keeps K H H') : Parts K H' A B := by
  obtain ⟨h0, h1, h2, h3, h4, h5, xs, h6, h7⟩ := h
  exact ⟨h0, h1.ke e, e.ru _ _ h2, h3.ke e, h4.ke e, h5.ke e, xs, e.tup _ _ h6, h7⟩
theorem Parts.mono (h : Parts K H A B) (e : Wd T H H') : Parts K H' A B := h.ke e.ke
theorem BookAt.mono (h : BookAt K H a B) (e : Wd T H H') : BookAt K H' a B := by
  obtain ⟨A, h1, h2⟩ := h
  exact ⟨A, e.ins h1, h2.mono e⟩
theorem map_at {α : Type} {Z : List α} {f : α → V} {i : Nat} {y : V} (hy : (Z.map f)[i]? = some y) : ∃ q0, Z[i]? = some q0 ∧ f q0 = y := by
  rw [List.getElem?_map] at hy
  cases hz : Z[i]? with
  | none => rw [hz] at hy; cases hy
  | some q0 => rw [hz] at hy; exact ⟨q0, rfl, Option.some.inj hy⟩
/-! ### questions -/
def p_Book_len (K : PySem.W.Frag) : List V → Hp → V → Prop := fun vs H v => ∃ a B, vs = [.ref a] ∧ BookAt K H a B ∧ v = .int (B.told.length : Int)
theorem fn_Book_len (S : Say K mg) : Fn P w K mg base dBook_len 1 ["self"] (spV T (p_Book_len K)) := by
  refine fn_v S.f_Book_len sc_Book_len (fun vs H v h => by obtain ⟨_, _, rfl, _⟩ := h; rfl) fun cdv A outer s H vs E hr => ⟨_, (tm_Book_len S _ cdv A outer s H E hr).2, fun v H0 Q e h q => ?_⟩
  obtain ⟨a, B, rfl, ⟨A, hA, pt⟩, rfl⟩ := h
  obtain ⟨Z, z1, z2, z3⟩ := pt.to
  dsimp only [tm_Book_len]
  exact s_rv (ev_cb (ea1 (ev_f rfl hA S.c_Book S.n_Book_told rfl)) (rc_lenT (st_of z2))) e q (by rw [← z1]; simp)
def p_event_of (K : PySem.W.Frag) : List V → Hp → (V → Hp → Prop) → Prop := fun vs H Φ => ∃ a B n x, vs = [.ref a, .str n] ∧ BookAt K H a B ∧ nameB n = true ∧ B.events.find? (fun x => decide (x.1 = n)) = some x ∧ Φ = fun v H2 => ∃ t, v = .ref t ∧ EvTup H2 t x
theorem fn_event_of (S : Say K mg) : Fn P w K mg base dBook_event_of 2 ["self", "name"] (spO T (p_event_of K)) := by
  obtain ⟨_, F1, O1⟩ := fn_is_name (T := T) (P := P) (w := w) (base := base) S
  refine fn_o S.f_Book_event_of sc_Book_event_of (fun vs H v h => by obtain ⟨_, _, _, _, rfl, _⟩ := h; rfl) fun cdv A outer s H vs E hr => ⟨_, (tm_Book_event_of S F1 O1 _ cdv A outer s H E hr).2, fun Φ H0 Q e h q => ?_⟩
  obtain ⟨a, B, n, x, rfl, ⟨A, hA, pt⟩, hn, hx, rfl⟩ := h
  obtain ⟨Z, z1, z2, z3⟩ := pt.ev
  dsimp only [tm_Book_event_of]
  refine q_if (T := T) (b := true) (et_b (ev_call (ea1 (ev_var rfl)) (gv ⟨n, rfl, hn, rfl⟩))) (fun _ H1 e1 => ?_) fun h => (by cases h)
  have g1 := e.trans e1
  have i1 := g1.ins hA
  refine s_forT (T := T) (ev_f rfl i1 S.c_Book S.n_Book_events rfl) (st_of (g1.tup z2)) (fun i σ _ => (∃ u, σ = [some (.ref a), some (.str n), u]) ∧ ∀ j x, j < i → B.events[j]? = some x → x.1 ≠ n) (fun _ _ => ⟨⟨_, rfl⟩, fun j _ hj => absurd hj (Nat.not_lt_zero j)⟩) (fun i y σ H2 hy e2 ⟨⟨u, es⟩, hp⟩ => ?_) fun σ H2 e2 ⟨_, hp⟩ => ?_
  · obtain ⟨q0, hq0, rfl⟩ := map_at hy
    have he := z3 q0 (List.mem_of_getElem? hq0)
    have hE : B.events[i]? = some q0.1 := by rw [← z1, List.getElem?_map, hq0]; rfl
    have t0 : H2 q0.2 = some (.tup [.str q0.1.1, .str q0.1.2.1, .bl q0.1.2.2]) := (g1.trans e2).tup he
    subst es
    refine s_when (T := T) (b := decide (V.str q0.1.1 = V.str n)) (et_test (ev_op (ev_op (ev_var rfl) ev_c (rv_ixt (st_of t0) rfl)) (ev_var rfl) (rv_eq rfl))) (fun h H3 e3 => ?_) fun h H3 e3 => ?_
    · have hh : q0.1.1 = n := by
        have := of_decide_eq_true h
        injection this
      have hxq : x = q0.1 := by
        have h1 : B.events.find? (fun x => decide (x.1 = n)) = some q0.1 := by
          rw [List.find?_eq_some_iff_getElem]
          refine ⟨by simpa using hh, i, (List.getElem?_eq_some_iff.mp hE).1, (List.getElem?_eq_some_iff.mp hE).2, fun j hj => ?_⟩
          have := hp j _ hj (List.getElem?_eq_getElem (by have := (List.getElem?_eq_some_iff.mp hE).1; omega))
          simpa using this
        rw [h1] at hx
        exact (Option.some.inj hx).symm
      refine s_ro (T := T) (H0 := H3) (Ev.eo (ev_var rfl)) (.refl H3) fun v H4 e4 hv => ?_
      subst hv
      exact q _ _ (((e1.trans e2).trans e3).trans e4) ⟨q0.2, rfl, by rw [hxq]; exact (((e2.trans e3).trans e4)).tup (g1.tup he)⟩
    · refine ⟨e2.trans e3, ⟨_, rfl⟩, fun j x hj hx2 => ?_⟩
      rcases Nat.lt_succ_iff_lt_or_eq.mp hj with hj | rfl
      · exact hp j x hj hx2
      · rw [hE] at hx2
        intro z
        rw [← Option.some.inj hx2] at z
        exact absurd (by rw [z]) (of_decide_eq_false h)
  · obtain ⟨i, hi⟩ := List.getElem?_of_mem (List.mem_of_find?_eq_some hx)
    have : i < Z.length := by
      have := (List.getElem?_eq_some_iff.mp hi).1
      rw [← z1] at this
      simpa using this
    exact absurd (by simpa using List.find?_some hx) (hp i x (by rw [List.length_map]; exact this) hi)
def p_person_of (K : PySem.W.Frag) : List V → Hp → (V → Hp → Prop) → Prop := fun vs H Φ => ∃ a B n p, vs = [.ref a, .str n] ∧ BookAt K H a B ∧ (n, p) ∈ B.people ∧ Φ = fun v H2 => ∃ t, v = .ref t ∧ PersonAt K H2 t n p
theorem fn_person_of (S : Say K mg) : Fn P w K mg base dBook_person_of 1 ["self", "name"] (spO T (p_person_of K)) := by
  refine fn_o S.f_Book_person_of sc_Book_person_of (fun vs H v h => by obtain ⟨_, _, _, _, rfl, _⟩ := h; rfl) fun cdv A outer s H vs E hr => ⟨_, (tm_Book_person_of S _ cdv A outer s H E hr).2, fun Φ H0 Q e h q => ?_⟩
  obtain ⟨a, B, n, p, rfl, ⟨A, hA, pt⟩, hp, rfl⟩ := h
  obtain ⟨kvs, k1, k2, k3, k4⟩ := pt.pe
  obtain ⟨t, t1, t2⟩ := k3 _ hp
  dsimp only [tm_Book_person_of]
  exact s_ro (H0 := H0) ((ev_dgetK (k := Sum.inr n) (ev_f rfl hA S.c_Book S.n_Book_people rfl) (ev_var rfl) k1 t1).eo.imp fun v H1 e1 hv => ⟨t, hv, t2.mono e1⟩) e q
def p_need_told (K : PySem.W.Frag) : List V → Hp → V → Prop := fun vs H v => ∃ a d B r k p x, vs = [.ref a, .ref d, .int k] ∧ BookAt K H a B ∧ DeedAt K H d r ∧ RwOk r ∧ r.day ≤ k ∧ k ≤ 40000 ∧ (r.name, p) ∈ B.people ∧ p.born ≤ r.day ∧
  B.events.find? (fun x => decide (x.1 = r.event)) = some x ∧ B.told.length ≤ 1000 ∧ (∀ q ∈ B.told, (q.1.day ≠ r.day ∨ q.1.hour ≠ r.hour) ∧ RwOk q.1) ∧ v = .int k
theorem fn_need_told (S : Say K mg) : Fn P w K mg base dBook_need_told 4 ["self", "deed", "known"] (spV T (p_need_told K)) := by
  obtain ⟨_, F1, O1⟩ := fn_is_day (T := T) (P := P) (w := w) (base := base) S
  obtain ⟨_, F2, O2⟩ := fn_Deed_eq (T := T) (P := P) (w := w) (base := base) S
  obtain ⟨_, F3, O3⟩ := fn_event_of (T := T) (P := P) (w := w) (base := base) S
  obtain ⟨_, F4, O4⟩ := fn_person_of (T := T) (P := P) (w := w) (base := base) S
  refine fn_v S.f_Book_need_told sc_Book_need_told (fun vs H v h => by obtain ⟨_, _, _, _, _, _, _, rfl, _⟩ := h; rfl) fun cdv A outer s H vs E hr => ⟨_, (tm_Book_need_told S F1 O1 F2 O2 F3 O3 F4 O4 _ cdv A outer s H E hr).2, fun v H0 Q e h q => ?_⟩
  obtain ⟨a, d, B, r, k, p, x, rfl, bk, ⟨dx, hd⟩, ok, hk1, hk2, hp, hborn, hx, hlen, hun, rfl⟩ := h
  obtain ⟨A, hA, pt⟩ := bk
  obtain ⟨Z, z1, z2, z3⟩ := pt.to
  have d1 := ok.d1
  dsimp only [tm_Book_need_told]
  refine q_skip (T := T) (.is (et_not (et_b (b := true) (.mono (ev_cb (ea2 (ev_var rfl) ev_c) (rc_isC hd)) e))) rfl) fun H1 e1 => ?_
  have g1 := e.trans e1
  refine q_asg (T := T) (ev_if (b := false) (et_test (ev_op (ev_var rfl) ev_c rv_isn)) (fun h => by cases h) fun h => ev_var rfl) fun H2 e2 => ?_
  have g2 := g1.trans e2
  refine q_skip (T := T) (.is (et_or (et_not (et_b (b := true) (ev_call (ea1 (ev_var rfl)) (gv ⟨_, rfl, by omega, hk2, rfl⟩)))) fun _ => et_test (ev_op (ev_var rfl) (ev_f rfl (g2.ins hd) S.c_Deed S.n_Deed_day rfl) rv_i0)) (by rw [decide_eq_false (by omega)]; rfl)) fun H3 e3 => ?_
  have g3 := g2.trans e3
  refine q_asgO (T := T) (eo_meth (ev_var rfl) (g3.ins hA) rfl (ea1 (ev_f rfl (g3.ins hd) S.c_Deed S.n_Deed_name rfl)) (gvO ⟨a, B, r.name, p, rfl, ⟨A, g3.ins hA, pt.mono g3⟩, hp, rfl⟩)) fun v H4 e4 hv => ?_
  obtain ⟨t, rfl, dt, ht⟩ := hv
  have g4 := g3.trans e4
  refine q_drop (T := T) (eo_meth (ev_var rfl) (g4.ins hA) rfl (ea1 (ev_f rfl (g4.ins hd) S.c_Deed S.n_Deed_event rfl)) (gvO ⟨a, B, r.event, x, rfl, ⟨A, g4.ins hA, pt.mono g4⟩, ok.e, hx, rfl⟩)) fun v H5 e5 hv => ?_
  have g5 := g4.trans e5
  refine q_skip (T := T) (.is (et_test (ev_op (ev_f rfl (e5.ins ht) S.c_Person S.n_Person_born rfl) (ev_f rfl (g5.ins hd) S.c_Deed S.n_Deed_day rfl) rv_i0)) (by rw [decide_eq_false]; omega)) fun H6 e6 => ?_
  have g6 := g5.trans e6
  have zl : Z.length ≤ 1000 := by
    rw [← z1, List.length_map] at hlen
    exact hlen
  refine q_skip (T := T) (.is (et_b (b := false) (ev_cb1 (lc_tupl2 (L := Z) (ia := Td.t) (xv := fun q => .ref q.d) (yv := fun q => .int q.k) (f := fun _ => true) (ev := fun _ => .bl false) (ev_f rfl (g6.ins hA) S.c_Book S.n_Book_told rfl) (st_of (g6.tup z2)) (fun q hq => g6.tup (z3 q hq).1) (by omega) (fun _ _ => rfl) (fun _ _ _ _ => et_yes) fun z hz _ H7 e7 => ?_) fun y H7 e7 hy => ?_)) rfl) fun H8 e8 => ?_
  · obtain ⟨dz, hdz⟩ := (z3 z hz).2
    have hun' := hun (z.r, z.k) (by rw [← z1]; exact List.mem_map.mpr ⟨z, hz, rfl⟩)
    have g7 := g6.trans e7
    exact ev_op (ev_var rfl) (ev_var rfl) (rv_eqOwn (g7.ins hdz) (g7.ins hd) ⟨z.d, d, z.r, r, rfl, ⟨dz, g7.ins hdz⟩, ⟨dx, g7.ins hd⟩, hun'.1, hun'.2, ok, rfl⟩)
  · obtain ⟨pl, rfl, _, hpl⟩ := hy
    exact (rc_any (bs := ((Z.filter fun _ => true).map fun _ => false)) (sl_of (by rw [hpl, List.map_map]; rfl))).is (by simp)
  · exact s_rv (H0 := H8) (ev_var rfl) (.refl H8) (q.mono (((((((e1.trans e2).trans e3).trans e4).trans e5).trans e6).trans e8))) rfl
end
end Bb
/-! ## part Rd4 -/
/-! what changes a book -/
namespace Bb
open PySem PySem.Spec PyProof.Rows L2 LamX BbS
def spM (T : TT0) (K : PySem.W.Frag) (pre : List V → Hp → Addr → Bk → V → Prop) : Sp := fun vs H Q _ => ∃ a B' v, pre vs H a B' v ∧ ∀ H', WdM T a H H' → BookAt K H' a B' → Q v H'
theorem put_past (A : Ad) (p : Addr) : putF "past" (.ref p) (bkF A) = bkF { A with ps := p } := rfl
theorem put_told (A : Ad) (p : Addr) : putF "told" (.ref p) (bkF A) = bkF { A with to := p } := rfl
theorem put_papers (A : Ad) (p : Addr) : putF "papers" (.ref p) (bkF A) = bkF { A with pa := p } := rfl
section
variable {T : TT0} {P : Program} {w : World} {K : PySem.W.Frag} {mg : Str → Option Value} {base : Heap} {H H0 H' : Hp} {a p : Addr} {A : Ad} {B B' : Bk} {σ : L2.St} {tz : TS} {D : Ends} {v : V} {vs ds : List V} {ts : TA} {i : Nat}
theorem fn_m {d : He.DefD} {N ps : List Str} {k : Nat} {pre : List V → Hp → Addr → Bk → V → Prop} (hF : ∃ fd, Def K d fd) (S : FnScope N ps d.scope) (len : ∀ vs H a B v, pre vs H a B v → vs.length = ps.length)
    (hb : ∀ (cdv : Value) (A : Around) (outer : List Env) (s : Shared) (H : Hp) (vs : List V) (E : XK), Room k (A.deeper (envOfC d.qual d.scope s.heap.objs.size (He.fAd K d.at_) cdv)) →
      ∃ t, PSs (cxOf CX0 P w K mg base N d.qual d.scope (He.fAd K d.at_) cdv A outer s H E) d.body t ∧ ∀ (a : Addr) (B' : Bk) (v : V) (Q : VK), pre vs H a B' v → (∀ H', WdM T a H H' → BookAt K H' a B' → Q v H') → t { nx := fun _ H' => Q .non H', rt := Q } (start N vs) H) : Fn P w K mg base d (k + 1) ps (spM T K pre) :=
  fn_ok hF S (fun vs H Q E ⟨a, B', v, h, _⟩ => len vs H _ _ _ h) fun cdv A outer s H vs Q E hr ⟨a, B', v, h, q⟩ => by
    obtain ⟨t, h1, h2⟩ := hb cdv A outer s H vs E hr
    exact ⟨t, h1, h2 a B' v Q h q⟩
section
variable {C dx : Addr} {fs : List (Str × V)} {m : Str} {pre : List V → Hp → Addr → Bk → V → Prop}
theorem e_mut {tk : VK} (ho : σ[i]? = some (some (.ref a))) (hA : H a = some (.ins C dx fs)) (l : fs.lookup m = none) (hs : EvA T ts σ H vs) (h : ∀ H1, Wd T H H1 → pre (.ref a :: (vs ++ ds)) H1 a B' v)
    (k : ∀ H', WdM T a H H' → BookAt K H' a B' → tk v H') : tMeth C m (spM T K pre) ds E0 (tVar i) ts σ H tk := ⟨_, ho, a, dx, fs, rfl, hA, l, hs H (.refl H) _ fun H1 e1 => ⟨a, B', v, h H1 e1, fun H' m' b => k H' (e1.wm.trans m') b⟩⟩
theorem q_mut (ho : σ[i]? = some (some (.ref a))) (hA : H a = some (.ins C dx fs)) (l : fs.lookup m = none) (hs : EvA T ts σ H vs) (h : ∀ H1, Wd T H H1 → pre (.ref a :: (vs ++ ds)) H1 a B' v)
    (k : ∀ H', WdM T a H H' → BookAt K H' a B' → tz D σ H') : tSeq (tDrop (tMeth C m (spM T K pre) ds E0 (tVar i) ts)) tz D σ H := e_mut (tk := fun _ H' => tz D σ H') ho hA l hs h k
theorem s_mut (ho : σ[i]? = some (some (.ref a))) (hA : H a = some (.ins C dx fs)) (l : fs.lookup m = none) (hs : EvA T ts σ H vs) (h : ∀ H1, Wd T H H1 → pre (.ref a :: (vs ++ ds)) H1 a B' v)
    (k : ∀ H', WdM T a H H' → BookAt K H' a B' → D.nx σ H') : tDrop (tMeth C m (spM T K pre) ds E0 (tVar i) ts) D σ H := e_mut (tk := fun _ H' => D.nx σ H') ho hA l hs h k
theorem s_mutO {Ψ : List V → Hp → Prop} (ho : σ[i]? = some (some (.ref a))) (hA : H a = some (.ins C dx fs)) (l : fs.lookup m = none) (hs : EvAO T ts σ H Ψ) (h : ∀ us H1, Wd T H H1 → Ψ us H1 → pre (.ref a :: (us ++ ds)) H1 a B' v)
    (k : ∀ H', WdM T a H H' → BookAt K H' a B' → D.nx σ H') : tDrop (tMeth C m (spM T K pre) ds E0 (tVar i) ts) D σ H := ⟨_, ho, a, dx, fs, rfl, hA, l, hs H (.refl H) _ fun us H1 e1 f => ⟨a, B', v, h us H1 e1 f, fun H' m' b => k H' (e1.wm.trans m') b⟩⟩
theorem m_fld {Φ : V → Hp → Prop} {tv : TE} {f : Str} (hp : H a = some (.ins C dx fs)) (hv : EvO T tv σ H Φ) (ho : σ[i]? = some (some (.ref a))) (c : Cls K C) (na : NoAttr K C f) (hl : fs.length < 1000)
    (k : ∀ v H1, Wd T H H1 → Φ v H1 → WdM T a H (upd H1 a (.ins C dx (putF f v fs))) → D.nx σ (upd H1 a (.ins C dx (putF f v fs)))) : sFld K (tVar i) tv f D σ H := hv.bind fun v H1 e1 fv => ⟨_, ho, a, C, dx, fs, rfl, e1.ins hp, c, na, hl, k v H1 e1 fv (e1.toM (e1.ins hp) trivial)⟩
theorem mq_fld {Φ : V → Hp → Prop} {tv : TE} {f : Str} (hp : H a = some (.ins C dx fs)) (hv : EvO T tv σ H Φ) (ho : σ[i]? = some (some (.ref a))) (c : Cls K C) (na : NoAttr K C f) (hl : fs.length < 1000)
    (k : ∀ v H1, Wd T H H1 → Φ v H1 → WdM T a H (upd H1 a (.ins C dx (putF f v fs))) → tz D σ (upd H1 a (.ins C dx (putF f v fs)))) : tSeq (sFld K (tVar i) tv f) tz D σ H := m_fld (D := { D with nx := tz D }) hp hv ho c na hl k
end
theorem eo_tupA {Ψ : List V → Hp → Prop} (h : EvAO T ts σ H Ψ) (hl : ∀ vs H1, Ψ vs H1 → vs.length ≤ 1000000) : EvO T (tTup ts) σ H (fun v H2 => ∃ vs p H1, v = .ref p ∧ New H p ∧ H2 p = some (.tup vs) ∧ Wd T H1 H2 ∧ Ψ vs H1) := fun H1 e _ q =>
  h H1 e _ fun vs H2 e2 f => ⟨le_line (hl vs H2 f), fun p hp => q _ _ (e2.trans (.new hp)) ⟨vs, p, H2, rfl, (new_none hp).back (e.trans e2), upd_same, .new hp, f⟩⟩
theorem eao1m {te : TE} {xs : List V} (h : EvO T te σ H (MTup xs)) : EvAO T (tCons te tNil) σ H (fun us H' => ∃ p, us = [.ref p] ∧ H' p = some (.tup xs)) := eao_cons h fun v H1 e1 hv => eao_nil.imp fun us H2 e2 hu => by
  subst hu
  obtain ⟨p, rfl, hp⟩ := hv
  exact ⟨p, rfl, e2.tup hp⟩
def p_keep (K : PySem.W.Frag) : List V → Hp → Addr → Bk → V → Prop := fun vs H a B' v => ∃ B, vs = [.ref a] ∧ BookAt K H a B ∧ B.past ≤ 1000 ∧ B' = { B with past := B.past + 1 } ∧ v = .non
theorem fn_keep (S : Say K mg) : Fn P w K mg base dBook_keep 1 ["self"] (spM T K (p_keep K)) := by
  refine fn_m S.f_Book_keep sc_Book_keep (fun vs H a B v h => by obtain ⟨_, rfl, _⟩ := h; rfl) fun cdv A outer s H vs E hr => ⟨_, (tm_Book_keep S _ cdv A outer s H E hr).2, fun a B' v Q h q => ?_⟩
  obtain ⟨B, rfl, ⟨A, hA, pt⟩, hl, rfl, rfl⟩ := h
  obtain ⟨kvs, k1, k2, k3, k4⟩ := pt.pe
  obtain ⟨xs, x1, x2⟩ := pt.ps
  dsimp only [tm_Book_keep]
  refine m_fld (T := T) (Φ := fun v H' => ∃ t, MTup (xs ++ [V.ref t]) v H') hA (eo_op2 (Φ := fun v _ => v = .ref A.ps) (Ev.eo (ev_f rfl hA S.c_Book S.n_Book_past rfl)) fun x H1 e1 hx => (eo_tupA (Ψ := fun us H' => ∃ t, us = [.ref t]) (eao_cons (Φ := fun v H' => ∃ t, v = .ref t) ((eo_tupA (Ψ := fun us _ => us.length = 3) (eao_cons (Φ := fun _ _ => True)
      (eo_cb1 (Ev.eo (ev_f rfl (e1.ins hA) S.c_Book S.n_Book_people rfl)) fun y H2 e2 hy H3 e3 Q q => ?_) fun y H2 e2 _ => (ea2 (ev_f rfl ((e1.trans e2).ins hA) S.c_Book S.n_Book_told rfl) (ev_f rfl ((e1.trans e2).ins hA) S.c_Book S.n_Book_papers rfl)).eo.imp fun us H3 e3 hu => ?_) fun us H' h => ?_).imp fun v H' _ hv => ?_) fun v H2 e2 hv => eao_nil.imp fun us H3 e3 hu => ?_) fun us H' h => ?_).imp fun v H' e' hv => ?_) rfl S.c_Book S.n_Book_past (by show 6 < 1000; decide) fun v H1 e1 hv wm => ?_
  · subst hy
    exact ⟨A.pe, kvs, rfl, .inl (((e1.trans e2).trans e3).dK k1), fun p hp => q _ _ (.new hp) trivial⟩
  · subst hu
    rfl
  · rw [h]; decide
  · obtain ⟨us, p, H4, rfl, _⟩ := hv
    exact ⟨p, rfl⟩
  · subst hu
    obtain ⟨t, rfl⟩ := hv
    exact ⟨t, rfl⟩
  · obtain ⟨t, rfl⟩ := h
    simp
  · obtain ⟨us, p, H4, rfl, _, hp, _, t, rfl⟩ := hv
    subst hx
    exact fun H5 e5 Q q => rvo_cat ((e1.trans e').tup x1) hp (by simp; omega) H5 e5 Q fun v H6 e6 hv => q v H6 e6 ⟨t, hv⟩
  · obtain ⟨t, p, rfl, hp⟩ := hv
    refine q _ wm ⟨{ A with ps := p }, by rw [put_past]; exact upd_same, ?_⟩
    have ke := wm.ke hA
    obtain ⟨h0, h1, h2, h3, h4, h5, _⟩ := pt.ke ke
    exact ⟨h0, h1, h2, h3, h4, h5, _, by rw [upd_ne (ne_of hp (e1.ins hA) (by intro z; cases z))]; exact hp, by simp [x2]⟩
def p_tell (K : PySem.W.Frag) : List V → Hp → Addr → Bk → V → Prop := fun vs H a B' v => ∃ d B r k p x, vs = [.ref a, .ref d, .int k] ∧ BookAt K H a B ∧ DeedAt K H d r ∧ RwOk r ∧ r.day ≤ k ∧ k ≤ 40000 ∧ (r.name, p) ∈ B.people ∧ p.born ≤ r.day ∧
  B.events.find? (fun x => decide (x.1 = r.event)) = some x ∧ B.told.length < 100 ∧ (∀ q ∈ B.told, (q.1.day ≠ r.day ∨ q.1.hour ≠ r.hour) ∧ RwOk q.1) ∧ B.past ≤ 1000 ∧ B' = { B with told := B.told ++ [(r, k)], past := B.past + 1 } ∧ v = .int (B.told.length : Int)
theorem fn_tell (S : Say K mg) : Fn P w K mg base dBook_tell 5 ["self", "deed", "known"] (spM T K (p_tell K)) := by
  obtain ⟨_, F1, O1⟩ := fn_keep (T := T) (P := P) (w := w) (base := base) S
  obtain ⟨_, F2, O2⟩ := fn_need_told (T := T) (P := P) (w := w) (base := base) S
  refine fn_m S.f_Book_tell sc_Book_tell (fun vs H a B v h => by obtain ⟨_, _, _, _, _, _, rfl, _⟩ := h; rfl) fun cdv A outer s H vs E hr => ⟨_, (tm_Book_tell S F1 O1 F2 O2 _ cdv A outer s H E hr).2, fun a B' v Q h q => ?_⟩
  obtain ⟨d, B, r, k, p, x, rfl, ⟨A, hA, pt⟩, hd, ok, hk1, hk2, hp, hb, hx, hl, hun, hpast, rfl, rfl⟩ := h
  obtain ⟨Z, z1, z2, z3⟩ := pt.to
  have zl : Z.length = B.told.length := by rw [← z1, List.length_map]
  dsimp only [tm_Book_tell]
  refine q_asg (T := T) (v := .int k) (ev_meth (ev_var rfl) hA rfl (ea2 (ev_var rfl) (ev_var rfl)) (gv ⟨a, d, B, r, k, p, x, rfl, ⟨A, hA, pt⟩, hd, ok, hk1, hk2, hp, hb, hx, by omega, hun, rfl⟩)) fun H1 e1 => ?_
  refine q_skip (T := T) (.is (et_test (ev_op (ev_cb (ea1 (ev_f rfl (e1.ins hA) S.c_Book S.n_Book_told rfl)) (rc_lenT (st_of (e1.tup z2)))) ev_c (rv_eq rfl))) (by rw [List.length_map]; refine decide_eq_false fun z => ?_; injection z with z; omega)) fun H2 e2 => ?_
  have g2 := e1.trans e2
  refine q_mut (T := T) (B' := { B with past := B.past + 1 }) rfl (g2.ins hA) rfl ea_nil (fun H3 e3 => ⟨B, rfl, ⟨A, (g2.trans e3).ins hA, pt.mono (g2.trans e3)⟩, hpast, rfl, rfl⟩) fun H3 m3 ⟨A3, hA3, pt3⟩ => ?_
  have wm3 : WdM T a H H3 := g2.wm.trans m3
  have hd3 := (wm3.ke hA).de _ _ hd
  obtain ⟨Z3, y1, y2, y3⟩ := pt3.to
  have zl3 : Z3.length = B.told.length := by
    have := congrArg List.length y1
    rw [List.length_map] at this
    exact this
  refine mq_fld (T := T) (Φ := fun v H' => ∃ t, MTup ((Z3.map fun q => V.ref q.t) ++ [V.ref t]) v H' ∧ H' t = some (.tup [.ref d, .int k])) hA3 (eo_op2 (Φ := fun v _ => v = .ref A3.to) (Ev.eo (ev_f rfl hA3 S.c_Book S.n_Book_told rfl)) fun x H4 e4 hx => (eo_tupA (Ψ := fun us H' => ∃ t, us = [.ref t] ∧ H' t = some (.tup [.ref d, .int k])) (eao_cons (eo_tupm (ea2 (ev_var rfl) (ev_var rfl)) (by simp)) fun v H5 e5 hv => eao_nil.imp fun us H6 e6 hu => ?_) fun us H' h => ?_).imp fun v H' e' hv => ?_) rfl S.c_Book S.n_Book_told (by show 6 < 1000; decide) fun v H4 e4 hv wm => ?_
  · subst hu
    obtain ⟨t, rfl, ht⟩ := hv
    exact ⟨t, rfl, e6.tup ht⟩
  · obtain ⟨t, rfl, _⟩ := h
    simp
  · obtain ⟨us, p, H4, rfl, _, hp, ew, t, rfl, ht⟩ := hv
    subst hx
    exact fun H5 e5 Q q => rvo_cat ((e4.trans e').tup y2) hp (by rw [List.length_map]; simp; omega) H5 e5 Q fun v H6 e6 hv => q v H6 e6 ⟨t, hv, ((ew.trans e5).trans e6).tup ht⟩
  · obtain ⟨t, ⟨p, rfl, hp⟩, ht⟩ := hv
    have ke := wm.ke hA3
    obtain ⟨h0, h1, h2, h3, h4, h5, h6⟩ := pt3.ke ke
    have hd4 := ke.de _ _ hd3
    have neP := ne_of hp (e4.ins hA3) (by intro z; cases z)
    have neT := ne_of ht (e4.ins hA3) (by intro z; cases z)
    rw [put_told] at wm hd4 ke h1 h2 h3 h4 h5 h6 ⊢
    have bk : BookAt K (upd H4 a (.ins (cBook K) A3.dx (bkF { A3 with to := p }))) a { B with told := B.told ++ [(r, k)], past := B.past + 1 } := by
      refine ⟨{ A3 with to := p }, upd_same, ⟨h0, h1, h2, h3, ⟨Z3 ++ [⟨r, k, t, d⟩], ?_, ?_, fun q hq => ?_⟩, h5, h6⟩⟩
      · rw [List.map_append, y1]
        rfl
      · rw [upd_ne neP, hp, List.map_append]
        rfl
      · rcases List.mem_append.mp hq with hq | hq
        · exact ⟨ke.tup _ _ (y3 q hq).1, ke.de _ _ (y3 q hq).2⟩
        · rw [List.mem_singleton.mp hq]
          exact ⟨by rw [upd_ne neT]; exact ht, hd4⟩
    refine s_ret (T := T) (v := .int (B.told.length : Int)) (.is (ev_op (ev_cb (ea1 (ev_f rfl (upd_same) S.c_Book S.n_Book_told rfl)) (rc_lenT (xs := (Z3.map fun q => V.ref q.t) ++ [V.ref t]) (st_of (by show upd H4 a _ p = _; rw [upd_ne neP]; exact hp)))) ev_c rv_i0) (by simp [zl3])) fun H5 e5 => q H5 ((wm3.trans wm).trans e5.wm) (bk.mono e5)
theorem papV_last (z : Pap Nat) : atI (papV z) (-1) = some (.int z.known) := by cases z <;> rfl
def p_paper (K : PySem.W.Frag) : List V → Hp → Addr → Bk → V → Prop := fun vs H a B' v => ∃ t B z, vs = [.ref a, .ref t] ∧ BookAt K H a B ∧ H t = some (.tup (papV z)) ∧ 0 ≤ z.known ∧ z.known ≤ 40000 ∧ B.past ≤ 1000 ∧ B.papers.length ≤ 1000 ∧ B' = { B with papers := B.papers ++ [z], past := B.past + 1 } ∧ v = .non
theorem fn_paper (S : Say K mg) : Fn P w K mg base dBook_paper 4 ["self", "row"] (spM T K (p_paper K)) := by
  obtain ⟨_, F1, O1⟩ := fn_is_day (T := T) (P := P) (w := w) (base := base) S
  obtain ⟨_, F2, O2⟩ := fn_keep (T := T) (P := P) (w := w) (base := base) S
  refine fn_m S.f_Book_paper sc_Book_paper (fun vs H a B v h => by obtain ⟨_, _, _, rfl, _⟩ := h; rfl) fun cdv A outer s H vs E hr => ⟨_, (tm_Book_paper S F1 O1 F2 O2 _ cdv A outer s H E hr).2, fun a B' v Q h q => ?_⟩
  obtain ⟨t, B, z, rfl, ⟨A, hA, pt⟩, ht, hk1, hk2, hpast, hl, rfl, rfl⟩ := h
  dsimp only [tm_Book_paper]
  refine q_skip (T := T) (.is (et_not (et_b (b := true) (ev_call (ea1 (ev_op (ev_var rfl) (ev_neg (i := 1) ev_c) (rv_ixt (st_of ht) (papV_last z)))) (gv ⟨z.known, rfl, by omega, hk2, rfl⟩)))) rfl) fun H2 e2 => ?_
  refine q_mut (T := T) (B' := { B with past := B.past + 1 }) rfl (e2.ins hA) rfl ea_nil (fun H3 e3 => ⟨B, rfl, ⟨A, (e2.trans e3).ins hA, pt.mono (e2.trans e3)⟩, hpast, rfl, rfl⟩) fun H3 m3 ⟨A3, hA3, pt3⟩ => ?_
  have wm3 : WdM T a H H3 := e2.wm.trans m3
  have ht3 := (wm3.ke hA).tup _ _ ht
  obtain ⟨Z3, y1, y2, y3⟩ := pt3.pa
  have zl3 : Z3.length = B.papers.length := by
    have := congrArg List.length y1
    rw [List.length_map] at this
    exact this
  refine m_fld (T := T) (Φ := MTup ((Z3.map fun q => V.ref q.2) ++ [V.ref t])) hA3 (eo_cat (eo_m (ev_f rfl hA3 S.c_Book S.n_Book_papers rfl) y2) (fun H4 e4 => eo_tupm (ea1 (ev_var rfl)) (by simp)) (by rw [List.length_map]; simp; omega)) rfl S.c_Book S.n_Book_papers (by show 6 < 1000; decide) fun v H4 e4 hv wm => ?_
  obtain ⟨p, rfl, hp⟩ := hv
  have ke := wm.ke hA3
  obtain ⟨h0, h1, h2, h3, h4, h5, h6⟩ := pt3.ke ke
  have neP := ne_of hp (e4.ins hA3) (by intro z; cases z)
  have ht4 := ke.tup _ _ ht3
  rw [put_papers] at wm ht4 ke h1 h2 h3 h4 h5 h6 ⊢
  refine q _ (wm3.trans wm) ⟨{ A3 with pa := p }, upd_same, ⟨h0, h1, h2, h3, h4, ⟨Z3 ++ [(z, t)], ?_, ?_, fun q hq => ?_⟩, h6⟩⟩
  · rw [List.map_append, y1]
    rfl
  · rw [upd_ne neP, hp, List.map_append]
    rfl
  · rcases List.mem_append.mp hq with hq | hq
    · exact ke.tup _ _ (y3 q hq)
    · rw [List.mem_singleton.mp hq]
      exact ht4
def p_need_number (K : PySem.W.Frag) : List V → Hp → V → Prop := fun vs H v => ∃ (a : Addr) (B : Bk) (n : Nat), vs = [.ref a, .int (n : Int)] ∧ BookAt K H a B ∧ n < B.told.length ∧ v = .non
theorem fn_need_number (S : Say K mg) : Fn P w K mg base dBook_need_number 3 ["self", "number"] (spV T (p_need_number K)) := by
  obtain ⟨_, F1, O1⟩ := fn_is_from (T := T) (P := P) (w := w) (base := base) S
  refine fn_v S.f_Book_need_number sc_Book_need_number (fun vs H v h => by obtain ⟨_, _, _, rfl, _⟩ := h; rfl) fun cdv A outer s H vs E hr => ⟨_, (tm_Book_need_number S F1 O1 _ cdv A outer s H E hr).2, fun v H0 Q e h q => ?_⟩
  obtain ⟨a, B, n, rfl, ⟨A, hA, pt⟩, hn, rfl⟩ := h
  obtain ⟨Z, z1, z2, z3⟩ := pt.to
  have zl : Z.length = B.told.length := by rw [← z1, List.length_map]
  dsimp only [tm_Book_need_number]
  exact s_skip (T := T) (.is (et_not (et_b (b := true) (.mono (ev_call (ea3 (ev_var rfl) ev_c (ev_op (ev_cb (ea1 (ev_f rfl hA S.c_Book S.n_Book_told rfl)) (rc_lenT (st_of z2))) ev_c rv_i0)) (gv ⟨_, _, _, rfl, by omega, by rw [List.length_map]; omega, rfl⟩)) e))) rfl) fun H1 e1 => q H1 e1
def addP (B : Bk) (z : Pap Nat) : Bk := { B with papers := B.papers ++ [z], past := B.past + 1 }
structure PapOk (B : Bk) (z : Pap Nat) : Prop where
  k1 : 0 ≤ z.known
  k2 : z.known ≤ 40000
  pa : B.past ≤ 1000
  len : B.papers.length ≤ 1000
def p_strike (K : PySem.W.Frag) : List V → Hp → Addr → Bk → V → Prop := fun vs H a B' v => ∃ (B : Bk) (n : Nat) (k : Int), vs = [.ref a, .int (n : Int), .int k] ∧ BookAt K H a B ∧ n < B.told.length ∧ PapOk B (.out n k) ∧ B' = addP B (.out n k) ∧ v = .non
theorem fn_strike (S : Say K mg) : Fn P w K mg base dBook_strike 5 ["self", "number", "known"] (spM T K (p_strike K)) := by
  obtain ⟨_, F1, O1⟩ := fn_need_number (T := T) (P := P) (w := w) (base := base) S
  obtain ⟨_, F2, O2⟩ := fn_paper (T := T) (P := P) (w := w) (base := base) S
  refine fn_m S.f_Book_strike sc_Book_strike (fun vs H a B v h => by obtain ⟨_, _, _, rfl, _⟩ := h; rfl) fun cdv A outer s H vs E hr => ⟨_, (tm_Book_strike S F1 O1 F2 O2 _ cdv A outer s H E hr).2, fun a B' v Q h q => ?_⟩
  obtain ⟨B, n, k, rfl, ⟨A, hA, pt⟩, hn, ok, rfl, rfl⟩ := h
  dsimp only [tm_Book_strike]
  refine q_dropV (T := T) (ev_meth (ev_var rfl) hA rfl (ea1 (ev_var rfl)) (gv ⟨a, B, n, rfl, ⟨A, hA, pt⟩, hn, rfl⟩)) fun H1 e1 => ?_
  exact s_mutO (B' := addP B (.out n k)) rfl (e1.ins hA) rfl (eao1m (eo_tupm (ea3 ev_c (ev_var rfl) (ev_var rfl)) (by simp))) (fun us H2 e2 ⟨p, hu, hp⟩ => ⟨p, B, .out n k, by rw [hu]; rfl, ⟨A, (e1.trans e2).ins hA, pt.mono (e1.trans e2)⟩, hp, ok.k1, ok.k2, ok.pa, ok.len, rfl, rfl⟩) fun H' m b => q H' (e1.wm.trans m) b
def p_restore (K : PySem.W.Frag) : List V → Hp → Addr → Bk → V → Prop := fun vs H a B' v => ∃ (B : Bk) (n : Nat) (k : Int), vs = [.ref a, .int (n : Int), .int k] ∧ BookAt K H a B ∧ n < B.told.length ∧ PapOk B (.inn n k) ∧ B' = addP B (.inn n k) ∧ v = .non
theorem fn_restore (S : Say K mg) : Fn P w K mg base dBook_restore 5 ["self", "number", "known"] (spM T K (p_restore K)) := by
  obtain ⟨_, F1, O1⟩ := fn_need_number (T := T) (P := P) (w := w) (base := base) S
  obtain ⟨_, F2, O2⟩ := fn_paper (T := T) (P := P) (w := w) (base := base) S
  refine fn_m S.f_Book_restore sc_Book_restore (fun vs H a B v h => by obtain ⟨_, _, _, rfl, _⟩ := h; rfl) fun cdv A outer s H vs E hr => ⟨_, (tm_Book_restore S F1 O1 F2 O2 _ cdv A outer s H E hr).2, fun a B' v Q h q => ?_⟩
  obtain ⟨B, n, k, rfl, ⟨A, hA, pt⟩, hn, ok, rfl, rfl⟩ := h
  dsimp only [tm_Book_restore]
  refine q_dropV (T := T) (ev_meth (ev_var rfl) hA rfl (ea1 (ev_var rfl)) (gv ⟨a, B, n, rfl, ⟨A, hA, pt⟩, hn, rfl⟩)) fun H1 e1 => ?_
  exact s_mutO (B' := addP B (.inn n k)) rfl (e1.ins hA) rfl (eao1m (eo_tupm (ea3 ev_c (ev_var rfl) (ev_var rfl)) (by simp))) (fun us H2 e2 ⟨p, hu, hp⟩ => ⟨p, B, .inn n k, by rw [hu]; rfl, ⟨A, (e1.trans e2).ins hA, pt.mono (e1.trans e2)⟩, hp, ok.k1, ok.k2, ok.pa, ok.len, rfl, rfl⟩) fun H' m b => q H' (e1.wm.trans m) b
def p_uphold (K : PySem.W.Frag) : List V → Hp → Addr → Bk → V → Prop := fun vs H a B' v => ∃ (B : Bk) (c : Str) (k : Int), vs = [.ref a, .str c, .int k] ∧ BookAt K H a B ∧ nameB c = true ∧ PapOk B (.right c k) ∧ B' = addP B (.right c k) ∧ v = .non
theorem fn_uphold (S : Say K mg) : Fn P w K mg base dBook_uphold 5 ["self", "course", "known"] (spM T K (p_uphold K)) := by
  obtain ⟨_, F1, O1⟩ := fn_is_name (T := T) (P := P) (w := w) (base := base) S
  obtain ⟨_, F2, O2⟩ := fn_paper (T := T) (P := P) (w := w) (base := base) S
  refine fn_m S.f_Book_uphold sc_Book_uphold (fun vs H a B v h => by obtain ⟨_, _, _, rfl, _⟩ := h; rfl) fun cdv A outer s H vs E hr => ⟨_, (tm_Book_uphold S F1 O1 F2 O2 _ cdv A outer s H E hr).2, fun a B' v Q h q => ?_⟩
  obtain ⟨B, n, k, rfl, ⟨A, hA, pt⟩, hn, ok, rfl, rfl⟩ := h
  dsimp only [tm_Book_uphold]
  refine q_skip (T := T) (.is (et_not (et_b (b := true) (ev_call (ea1 (ev_var rfl)) (gv ⟨n, rfl, hn, rfl⟩)))) rfl) fun H1 e1 => ?_
  exact s_mutO (B' := addP B (.right n k)) rfl (e1.ins hA) rfl (eao1m (eo_tupm (ea3 ev_c (ev_var rfl) (ev_var rfl)) (by simp))) (fun us H2 e2 ⟨p, hu, hp⟩ => ⟨p, B, .right n k, by rw [hu]; rfl, ⟨A, (e1.trans e2).ins hA, pt.mono (e1.trans e2)⟩, hp, ok.k1, ok.k2, ok.pa, ok.len, rfl, rfl⟩) fun H' m b => q H' (e1.wm.trans m) b
def p_measure (K : PySem.W.Frag) : List V → Hp → Addr → Bk → V → Prop := fun vs H a B' v => ∃ (B : Bk) (c : Str) (f t k : Int), vs = [.ref a, .str c, .int f, .int t, .int k] ∧ BookAt K H a B ∧ nameB c = true ∧ 0 ≤ f ∧ f ≤ t ∧ t ≤ 40000 ∧ PapOk B (.wrong c f t k) ∧ B' = addP B (.wrong c f t k) ∧ v = .non
theorem fn_measure (S : Say K mg) : Fn P w K mg base dBook_measure 5 ["self", "course", "since", "till", "known"] (spM T K (p_measure K)) := by
  obtain ⟨_, F1, O1⟩ := fn_is_name (T := T) (P := P) (w := w) (base := base) S
  obtain ⟨_, F2, O2⟩ := fn_is_day (T := T) (P := P) (w := w) (base := base) S
  obtain ⟨_, F3, O3⟩ := fn_paper (T := T) (P := P) (w := w) (base := base) S
  refine fn_m S.f_Book_measure sc_Book_measure (fun vs H a B v h => by obtain ⟨_, _, _, _, _, rfl, _⟩ := h; rfl) fun cdv A outer s H vs E hr => ⟨_, (tm_Book_measure S F1 O1 F2 O2 F3 O3 _ cdv A outer s H E hr).2, fun a B' v Q h q => ?_⟩
  obtain ⟨B, n, f, t, k, rfl, ⟨A, hA, pt⟩, hn, h1, h2, h3, ok, rfl, rfl⟩ := h
  have k1 : 0 ≤ k := ok.k1
  have k2 : k ≤ 40000 := ok.k2
  dsimp only [tm_Book_measure]
  refine q_skip (T := T) (.is (et_not (et_b (b := true) (ev_call (ea1 (ev_var rfl)) (gv ⟨n, rfl, hn, rfl⟩)))) rfl) fun H1 e1 => ?_
  refine q_skip (T := T) (.is (et_or (et_not (et_b (b := true) (ev_call (ea1 (ev_var rfl)) (gv ⟨f, rfl, by omega, by omega, rfl⟩)))) fun _ => et_or (et_not (et_b (b := true) (ev_call (ea1 (ev_var rfl)) (gv ⟨t, rfl, by omega, by omega, rfl⟩)))) fun _ =>
    et_or (et_not (et_b (b := true) (ev_call (ea1 (ev_var rfl)) (gv ⟨k, rfl, by omega, by omega, rfl⟩)))) fun _ => et_test (ev_op (ev_var rfl) (ev_var rfl) rv_i0)) (by rw [decide_eq_false (by omega)]; rfl)) fun H2 e2 => ?_
  have g2 := e1.trans e2
  exact s_mutO (B' := addP B (.wrong n f t k)) rfl (g2.ins hA) rfl (eao1m (eo_tupm (ea_cons ev_c (ea_cons (ev_var rfl) (ea3 (ev_var rfl) (ev_var rfl) (ev_var rfl)))) (by simp))) (fun us H2 e2 ⟨p, hu, hp⟩ => ⟨p, B, .wrong n f t k, by rw [hu]; rfl, ⟨A, (g2.trans e2).ins hA, pt.mono (g2.trans e2)⟩, hp, ok.k1, ok.k2, ok.pa, ok.len, rfl, rfl⟩) fun H' m b => q H' (g2.wm.trans m) b
/-- a book whose people's dict may be written, too -/
def WdE (T : TT0) (a pe : Addr) (H H' : Hp) : Prop := (∀ b o, H b = some o → b ≠ a → b ≠ pe → Nt o → H' b = some o) ∧ (Tabs T H → Tabs T H')
def spE (T : TT0) (K : PySem.W.Frag) : Sp := fun vs H Q _ => ∃ a B t n p, vs = [.ref a, .ref t] ∧ BookAt K H a B ∧ PersonAt K H t n p ∧ n ∉ B.people.map (·.1) ∧ B.people.length ≤ 1000 ∧ B.past ≤ 1000 ∧
  ∀ H', WdE T a B.pe H H' → BookAt K H' a { B with people := B.people ++ [(n, p)], past := B.past + 1 } → Q .non H'
theorem valV_app {kvs : List (Key × V)} {k j : Key} {v : V} (h : valV kvs k = none) : valV (putK kvs k v) j = if k = j then some v else valV kvs j := by
  have hn : (kvs.any fun kv => decide (kv.1 = k)) = false := by
    rw [valV_any, h]
    rfl
  unfold putK
  rw [hn]
  simp only [Bool.false_eq_true, if_false]
  unfold valV at h ⊢
  rw [List.find?_append]
  by_cases e : k = j
  · subst e
    have : (kvs.find? fun kv => decide (kv.1 = k)) = none := by
      cases z : kvs.find? fun kv => decide (kv.1 = k) with
      | none => rfl
      | some q => rw [z] at h; cases h
    rw [this]
    simp
  · rw [if_neg e]
    simp [List.find?_cons, e]
theorem putK_len {kvs : List (Key × V)} {k : Key} {v : V} (h : valV kvs k = none) : (putK kvs k v).length = kvs.length + 1 := by
  have hn : (kvs.any fun kv => decide (kv.1 = k)) = false := by
    rw [valV_any, h]
    rfl
  unfold putK
  rw [hn]
  simp
theorem fn_enrol (S : Say K mg) : Fn P w K mg base dBook_enrol 2 ["self", "person"] (spE T K) := by
  obtain ⟨_, F1, O1⟩ := fn_keep (T := T) (P := P) (w := w) (base := base) S
  refine fn_ok S.f_Book_enrol sc_Book_enrol (fun vs H Q E h => by obtain ⟨_, _, _, _, _, rfl, _⟩ := h; rfl) fun cdv A outer s H vs Q E hr h => ⟨_, (tm_Book_enrol S F1 O1 _ cdv A outer s H E hr).2, ?_⟩
  obtain ⟨a, B, t, n, p, rfl, ⟨A, hA, pt⟩, ⟨dt, ht⟩, hn, hl, hpast, q⟩ := h
  obtain ⟨kvs, k1, k2, k3, k4⟩ := pt.pe
  dsimp only [tm_Book_enrol]
  refine q_skip (T := T) (.is (et_not (et_b (b := true) (ev_cb (ea2 (ev_var rfl) ev_c) (rc_isC ht)))) rfl) fun H1 e1 => ?_
  refine q_asg (T := T) (v := .non) (fun H2 e2 Q q => ev_f rfl (e1.ins hA) S.c_Book S.n_Book_people rfl H2 e2 _ fun H3 e3 => ⟨A.pe, rfl, .inl ⟨kvs, .inl (((e1.trans e2).trans e3).dK k1)⟩, ev_f rfl (e1.ins ht) S.c_Person S.n_Person_name rfl H3 (e2.trans e3) _ fun H4 e4 => ⟨none, ?_, q H4 (e3.trans e4)⟩⟩) fun H2 e2 => ?_
  · have z := DGet.k (k := Sum.inr n) ((((e1.trans e2).trans e3).trans e4).dK k1)
    rw [k4 n hn] at z
    exact z
  have g2 := e1.trans e2
  refine q_skip (T := T) (.is (et_test (ev_op (ev_var rfl) ev_c rv_notn)) rfl) fun H3 e3 => ?_
  have g3 := g2.trans e3
  refine q_mut (T := T) (B' := { B with past := B.past + 1 }) rfl (g3.ins hA) rfl ea_nil (fun H4 e4 => ⟨B, rfl, ⟨A, (g3.trans e4).ins hA, pt.mono (g3.trans e4)⟩, hpast, rfl, rfl⟩) fun H4 m4 ⟨A4, hA4, pt4⟩ => ?_
  have wm4 : WdM T a H H4 := g3.wm.trans m4
  obtain ⟨dt4, ht4⟩ := (wm4.ke hA).pe _ _ _ ⟨dt, ht⟩
  obtain ⟨kv4, y1, y2, y3, y4⟩ := pt4.pe
  have hpe : A4.pe = B.pe := pt4.pq
  refine (ev_var rfl : Ev T (tVar 1) _ H4 (.ref t)).bind fun H5 e5 => (ev_f rfl (e5.ins hA4) S.c_Book S.n_Book_people rfl : Ev T _ _ H5 (.ref A4.pe)).bind fun H6 e6 => (ev_f rfl ((e5.trans e6).ins ht4) S.c_Person S.n_Person_name rfl : Ev T _ _ H6 (.str n)).bind fun H7 e7 => ?_
  have g7 := (e5.trans e6).trans e7
  refine ⟨A4.pe, _, rfl, DPut.k (k := Sum.inr n) (g7.dK y1) (lt_line (by rw [y2]; show B.people.length < 1000000; omega)), ?_⟩
  have yn : valV kv4 (Sum.inr n) = none := y4 n hn
  have nk : ∀ {b : Addr} {o : HO}, H4 b = some o → (∀ k, o ≠ .dK k) → Nt o → upd H7 A4.pe (.dK (putK kv4 (Sum.inr n) (.ref t))) b = some o := fun {b o} hb hne nt => by
    rw [upd_ne (ne_of hb y1 (hne _))]
    exact g7.get hb nt
  have nt2 : ∀ b xs, H4 b = some (.tup xs) → upd H7 A4.pe (.dK (putK kv4 (Sum.inr n) (.ref t))) b = some (.tup xs) := fun b xs h => nk h (fun _ z => by cases z) nt_tup
  refine q _ ⟨fun b o hb n1 n2 nt => ?_, fun tb => tabs_upd (g7.2 (wm4.2 tb)) (g7.dK y1) trivial⟩ ⟨A4, nk hA4 (fun _ z => by cases z) nt_ins, ?_⟩
  · have h4 := wm4.1 b o hb n1 nt
    rw [upd_ne (by rw [hpe]; exact n2)]
    exact g7.get h4 nt
  · obtain ⟨h0, ⟨E1, a1, a2, a3⟩, ⟨d5, l5, b1, b2⟩, h3, ⟨Z4, c1, c2, c3⟩, ⟨P5, f1, f2, f3⟩, xs, h6, h7⟩ := pt4
    have nkP : ∀ {b : Addr} {n' : Str} {p' : Prs}, PersonAt K H4 b n' p' → PersonAt K (upd H7 A4.pe (.dK (putK kv4 (Sum.inr n) (.ref t)))) b n' p' := fun ⟨d, h⟩ => ⟨d, nk h (fun _ z => by cases z) nt_ins⟩
    refine ⟨h0, ⟨E1, a1, nt2 _ _ a2, fun q hq => nt2 _ _ (a3 q hq)⟩, ⟨d5, l5, nk b1 (fun _ z => by cases z) nt_ins, nt2 _ _ b2⟩, ⟨_, upd_same, ?_, fun x hx => ?_, fun m hm => ?_⟩, ⟨Z4, c1, nt2 _ _ c2, fun q hq => ⟨nt2 _ _ (c3 q hq).1, ?_⟩⟩, ⟨P5, f1, nt2 _ _ f2, fun q hq => nt2 _ _ (f3 q hq)⟩, xs, nt2 _ _ h6, h7⟩
    · rw [putK_len yn, y2]
      simp
    · rcases List.mem_append.mp hx with hx | hx
      · obtain ⟨tx, w1, w2⟩ := y3 x hx
        refine ⟨tx, ?_, nkP w2⟩
        rw [valV_app yn, if_neg, w1]
        intro z
        injection z with z
        exact hn (by rw [z]; exact List.mem_map.mpr ⟨x, hx, rfl⟩)
      · rw [List.mem_singleton.mp hx]
        exact ⟨t, by rw [valV_app yn, if_pos rfl], nkP ⟨dt4, ht4⟩⟩
    · rw [valV_app yn, if_neg, y4 m]
      · intro z
        exact hm (by rw [List.map_append]; exact List.mem_append_left _ z)
      · intro z
        injection z with z
        exact hm (by rw [List.map_append]; exact List.mem_append_right _ (by rw [z]; exact List.mem_cons_self))
    · obtain ⟨d, h⟩ := (c3 q hq).2
      exact ⟨d, nk h (fun _ z => by cases z) nt_ins⟩
/-! ### events, a new book -/
structure EvsOk (L : List Evt) : Prop where
  l1 : 1 ≤ L.length
  l2 : L.length ≤ 4
  ok : ∀ x ∈ L, nameB x.1 = true ∧ wayB x.2.1 = true
  nd : (L.map (·.1)).Nodup
theorem nt_set {L : List Key} {q : Addr} : Nt (SetMO P w q L) := fun _ z => by unfold SetMO at z; cases z
theorem eo_set {te : TE} {ks : List Key} (h : EvO T te σ H fun v H' => ∃ l, v = .ref l ∧ H' l = some (.lst (ks.map kV))) (hl : ks.length ≤ 1000) : EvO T (tCB (rSetL K P w) (tCons te tNil)) σ H (fun v H' => ∃ l, v = .ref l ∧ New H l ∧ H' l = some (SetMO P w l (membs ks))) := fun H1 e1 Q q =>
  h H1 e1 _ fun v H2 e2 ⟨l, ev, hv⟩ => ⟨l, ks, by rw [ev], sl_of hv, hl, fun p hp => q _ _ (e2.trans (.new hp)) ⟨p, rfl, (new_none hp).back (e1.trans e2), upd_same⟩⟩
theorem rc_lenSet {ks : List Key} {l : Addr} (h : H l = some (SetMO P w l (membs ks))) (hl : ks.length ≤ 1000) : RC T (rLenSetM P w) [.ref l] H (.int ((membs ks).length : Nat)) := rc_now fun H1 e _ q => ⟨l, membs ks, rfl, e.get h nt_set, Nat.le_trans (membs_len ks) hl, q⟩
def p_are_events : List V → Hp → V → Prop := fun vs H v => ∃ a L, vs = [.ref a] ∧ EvsAt H a L ∧ EvsOk L ∧ v = .bl true
theorem fn_are_events (S : Say K mg) : Fn P w K mg base dare_events 3 ["thing"] (spV T p_are_events) := by
  obtain ⟨_, F1, O1⟩ := fn_is_event (T := T) (P := P) (w := w) (base := base) S
  refine fn_v S.f_are_events sc_are_events (fun vs H v h => by obtain ⟨_, _, rfl, _⟩ := h; rfl) fun cdv A outer s H vs E hr => ⟨_, (tm_are_events S F1 O1 _ cdv A outer s H E hr).2, fun v H0 Q e h q => ?_⟩
  obtain ⟨a, L, rfl, ⟨Z, z1, z2, z3⟩, ok, rfl⟩ := h
  have zl : Z.length = L.length := by rw [← z1, List.length_map]
  have l1 := ok.l1
  have l2 := ok.l2
  dsimp only [tm_are_events]
  have st := st_of (K := K) z2
  refine q_skip (T := T) (.is (.mono (et_or (et_not (et_b (b := true) (ev_cb (ea2 (ev_var rfl) ev_c) (rc_isi (b := true) (fun H1 e1 => ty_tup (e1.tup z2)) (by decide +kernel))))) fun _ => et_or (et_not (et_test (b := true) (.is (ev_chain (b := true) (c := true) ev_c (ev_cb (ea1 (ev_var rfl)) (rc_lenT st)) (rv_i0' (by rw [List.length_map, decide_eq_true (by omega)])) (fun _ => ev_c) fun _ => rv_i0' (by rw [List.length_map, decide_eq_true (by omega)])) rfl))) fun _ =>
    et_not (et_b (b := true) (ev_cb1 (lc_tupl (L := Z) (iv := fun q => .ref q.2) (f := fun _ => true) (ev := fun _ => .bl true) (ev_var rfl) st (by omega) (fun _ => rfl) (fun _ _ _ _ => et_yes) fun z hz _ H1 e1 => ?_) fun x H1 e1 hx => ?_))) e) rfl) fun H1 e1 => ?_
  · have hz1 : z.1 ∈ L := by
      rw [← z1]
      exact List.mem_map.mpr ⟨z, hz, rfl⟩
    exact ev_call (ea1 (ev_var rfl)) (gv ⟨z.2, z.1, rfl, e1.tup (z3 z hz), (ok.ok _ hz1).1, (ok.ok _ hz1).2, rfl⟩)
  · obtain ⟨p, rfl, _, hp⟩ := hx
    exact (rc_all (bs := ((Z.filter fun _ => true).map fun _ => true)) (sl_of (by rw [hp, List.map_map]; rfl))).is (by simp)
  · have g1 := e.trans e1
    have kl : (Z.map fun q => (Sum.inr q.1.1 : Key)).length ≤ 1000 := by rw [List.length_map]; omega
    refine s_rv (ev_op (x := .int (Z.length : Int)) (ev_cb1 (eo_set (ks := Z.map fun q => Sum.inr q.1.1) ((lc_tupl (L := Z) (iv := fun q => .ref q.2) (f := fun _ => true) (ev := fun q => .str q.1.1) (ev_var rfl) (g1.sqt st) (by omega) (fun _ => rfl) (fun _ _ _ _ => et_yes) fun z hz _ H2 e2 => ev_op (ev_var rfl) ev_c (rv_ixt (st_of ((g1.trans e2).tup (z3 z hz))) rfl)).imp fun v H2 e2 hv => ?_) kl) fun x H2 e2 hx => ?_) (ev_cb (ea1 (ev_var rfl)) (rc_lenT (g1.sqt st))) (rv_eq rfl)) (.refl H1) (q.mono e1) (by rw [List.length_map]; simp)
    · obtain ⟨p, rfl, _, hp⟩ := hv
      refine ⟨p, rfl, ?_⟩
      rw [hp, List.map_map, List.filter_eq_self.mpr (fun _ _ => rfl)]
      rfl
    · obtain ⟨p, rfl, _, hp⟩ := hx
      refine (rc_lenSet hp kl).is ?_
      rw [membs_nodup, List.length_map]
      have nd := ok.nd
      rw [← z1, List.map_map] at nd
      have : (Z.map fun q => (Sum.inr q.1.1 : Key)) = (Z.map ((·.1) ∘ (·.1))).map Sum.inr := by rw [List.map_map]; rfl
      rw [this]
      exact List.Pairwise.map _ (fun a b h z => h (by injection z)) nd
def spB (T : TT0) (K : PySem.W.Frag) : Sp := fun vs H Q _ => ∃ p dx ev ru L R H0, vs = [.ref p, .ref ev, .ref ru] ∧ H p = some (.ins (cBook K) dx []) ∧ New H0 p ∧ Wd T H0 H ∧ EvsAt H0 ev L ∧ EvsOk L ∧ RulesAt K H0 ru R ∧
  ∀ H' pe, Wd T H0 H' → New H0 pe → BookAt K H' p ⟨L, R, [], [], [], 0, pe⟩ → Q .non H'
theorem fn_Book_init (S : Say K mg) : Fn P w K mg base dBook_init 4 ["self", "events", "rules"] (spB T K) := by
  obtain ⟨_, F1, O1⟩ := fn_are_events (T := T) (P := P) (w := w) (base := base) S
  refine fn_ok S.f_Book_init sc_Book_init (fun vs H Q E h => by obtain ⟨_, _, _, _, _, _, _, rfl, _⟩ := h; rfl) fun cdv A outer s H vs Q E hr h => ⟨_, (tm_Book_init S F1 O1 _ cdv A outer s H E hr).2, ?_⟩
  obtain ⟨p, dx, ev, ru, L, R, H0, rfl, hp, nw, e, hev, ok, hru, q⟩ := h
  dsimp only [tm_Book_init]
  refine q_skip (T := T) (.is (et_not (et_b (b := true) (.mono (ev_call (ea1 (ev_var rfl)) (gv ⟨ev, L, rfl, hev, ok, rfl⟩)) e))) rfl) fun H1 e1 => ?_
  have g1 := e.trans e1
  have hru1 : RulesAt K H1 ru R := hru.mono g1
  obtain ⟨dr, lr, hr1, hr2⟩ := hru1
  refine q_skip (T := T) (.is (et_and (b := true) (c := false) (et_test (ev_op (ev_var rfl) ev_c rv_notn)) fun _ => et_not (et_b (b := true) (ev_cb (ea2 (ev_var rfl) ev_c) (rc_isC hr1)))) rfl) fun H2 e2 => ?_
  have g2 := g1.trans e2
  refine q_fld nw g2 ((e1.trans e2).ins hp) (ev_var rfl) rfl S.c_Book S.n_Book_events z_lt fun H3 g3 hp3 => ?_
  refine q_fld nw g3 hp3 (ev_if (b := false) (et_test (ev_op (ev_var rfl) ev_c rv_isn)) (fun h => by cases h) fun h => ev_var rfl) rfl S.c_Book S.n_Book_rules (put_lt z_lt) fun H4 g4 hp4 => ?_
  refine q_fldO (Φ := fun v H' => ∃ d, v = .ref d ∧ New H4 d ∧ H' d = some (.dK [])) nw g4 hp4 (fun H5 e5 Q q d hd => q _ _ (.new hd) ⟨d, rfl, (new_none hd).back e5, upd_same⟩) rfl S.c_Book S.n_Book_people (put_lt (put_lt z_lt)) fun v H5 H6 e5 hv u6 g6 hp6 => ?_
  obtain ⟨pe, rfl, npe, hpe⟩ := hv
  have hpe6 : H6 pe = some (.dK []) := by rw [u6 pe (ne_of hpe (e5.ins hp4) (by intro z; cases z)), hpe]
  refine q_fldO nw g6 hp6 (eo_tupm ea_nil (by simp)) rfl S.c_Book S.n_Book_told (put_lt (put_lt (put_lt z_lt))) fun v H7 H8 e7 hv u8 g8 hp8 => ?_
  obtain ⟨to, rfl, hto⟩ := hv
  have hto8 : H8 to = some (.tup []) := by rw [u8 to (ne_of hto (e7.ins hp6) (by intro z; cases z)), hto]
  have hpe8 : H8 pe = some (.dK []) := by rw [u8 pe (ne_of (e7.dK hpe6) (e7.ins hp6) (by intro z; cases z)), e7.dK hpe6]
  refine q_fldO nw g8 hp8 (eo_tupm ea_nil (by simp)) rfl S.c_Book S.n_Book_papers (put_lt (put_lt (put_lt (put_lt z_lt)))) fun v H9 H10 e9 hv u10 g10 hp10 => ?_
  obtain ⟨pa, rfl, hpa⟩ := hv
  have hpa10 : H10 pa = some (.tup []) := by rw [u10 pa (ne_of hpa (e9.ins hp8) (by intro z; cases z)), hpa]
  have hto10 : H10 to = some (.tup []) := by rw [u10 to (ne_of (e9.tup hto8) (e9.ins hp8) (by intro z; cases z)), e9.tup hto8]
  have hpe10 : H10 pe = some (.dK []) := by rw [u10 pe (ne_of (e9.dK hpe8) (e9.ins hp8) (by intro z; cases z)), e9.dK hpe8]
  refine i_fldO nw g10 hp10 (eo_tupm ea_nil (by simp)) rfl S.c_Book S.n_Book_past (put_lt (put_lt (put_lt (put_lt (put_lt z_lt))))) fun v H11 H12 e11 hv u12 g12 hp12 => ?_
  obtain ⟨ps, rfl, hps⟩ := hv
  have hps12 : H12 ps = some (.tup []) := by rw [u12 ps (ne_of hps (e11.ins hp10) (by intro z; cases z)), hps]
  have hpa12 : H12 pa = some (.tup []) := by rw [u12 pa (ne_of (e11.tup hpa10) (e11.ins hp10) (by intro z; cases z)), e11.tup hpa10]
  have hto12 : H12 to = some (.tup []) := by rw [u12 to (ne_of (e11.tup hto10) (e11.ins hp10) (by intro z; cases z)), e11.tup hto10]
  have hpe12 : H12 pe = some (.dK []) := by rw [u12 pe (ne_of (e11.dK hpe10) (e11.ins hp10) (by intro z; cases z)), e11.dK hpe10]
  refine q H12 pe g12 (npe.back g4) ⟨⟨dx, ev, ru, pe, to, pa, ps⟩, by rw [hp12]; rfl, rfl, hev.ke (g12.ke (K := K)), hru.mono g12, ⟨[], hpe12, rfl, (fun _ h => by cases h), fun _ _ => rfl⟩, ⟨[], rfl, hto12, (fun _ h => by cases h)⟩, ⟨[], rfl, hpa12, (fun _ h => by cases h)⟩, [], hps12, rfl⟩
end
end Bb
/-! ## part Rd5 -/
/-! what a book answers -/
namespace Bb
open PySem PySem.Spec PyProof.Rows L2 LamX BbS NdefX PySem.W
section
variable {T : TT0} {P : Program} {w : World} {K : PySem.W.Frag} {mg : Str → Option Value} {base : Heap} {H H0 H' : Hp} {a p : Addr} {A : Ad} {B B' : Bk} {σ : L2.St} {tz : TS} {D : Ends} {v : V} {vs ds xs : List V} {ts : TA} {i : Nat}
theorem ext_wd (e : BbS.Ext H H') : Wd T H H' := .ofExt e
theorem eo_sortLam {α : Type} {L : List α} {fv : α → V} {key : α → PyData} {te tb : TE} {N : List Str} {js : List Nat} (h : Ev T te σ H (.ref a)) (ht : Tabs T H) (hx : H a = some (.lst (L.map fv))) (hal : AllAlike (L.map key)) (hs : Sortable (L.map key)) (hd : ∀ x ∈ L, (key x).depth ≤ 8)
    (hb : ∀ x ∈ L, ∀ H', Wd T H H' → tb (startF N [fv x] (js.map (slotAt σ))) H' fun v H'' => BbS.Ext H' H'' ∧ Dp K H'' v (key x)) : EvO T (tSortLam T K te tb N js) σ H (NLst H ((L.mergeSort (dataLe false key)).map fv)) := fun H1 e1 Q q =>
  h H1 e1 _ fun H2 e2 => ⟨(e1.trans e2).2 ht, fun H3 e3 t3 => by
    have g3 : Wd T H2 H3 := ⟨e3, fun _ => t3⟩
    have g := (e1.trans e2).trans g3
    refine ⟨a, L.map fv, L.map key, rfl, sl_of (g.lst hx), by simp, hal, hs, fun d hd' => ?_, fun i y d H' hy hd' e => ?_, fun p H' e hp => ?_⟩
    · obtain ⟨x, hx, rfl⟩ := List.mem_map.mp hd'
      exact hd x hx
    · rw [List.getElem?_map] at hy hd'
      cases z : L[i]? with
      | none => rw [z] at hy; cases hy
      | some x =>
        rw [z] at hy hd'
        obtain rfl : fv x = y := Option.some.inj hy
        obtain rfl : key x = d := Option.some.inj hd'
        exact hb x (List.mem_of_getElem? z) H' (g.trans (ext_wd e))
    · have gp := (e2.trans g3).trans (ext_wd (T := T) e)
      refine q _ _ (gp.trans (.new hp)) ⟨p, rfl, (new_none hp).back (e1.trans gp), ?_⟩
      rw [upd_same, List.zip_map', ← sort_maps (r := dataLe false key) (fun x => (fv x, key x)) (fun _ _ _ _ => rfl), List.map_map]
      rfl⟩
end
/-! ### papers as known -/
def papKey {α : Type} (z : Pap α) : PyData := .int z.known
def papersBy {α : Type} (L : List (Pap α)) (known : Int) : List (Pap α) := (L.filter fun z => decide (z.known ≤ known)).mergeSort (dataLe false papKey)
/-- a list of papers -/
def PapLst (H : Hp) (l : Addr) (L : List (Pap Nat)) : Prop := ∃ Z : List (Pap Nat × Addr), Z.map (·.1) = L ∧ H l = some (.lst (Z.map fun q => .ref q.2)) ∧ ∀ q ∈ Z, H q.2 = some (.tup (papV q.1))
theorem papersBy_map (Z : List (Pap Nat × Addr)) (known : Int) : ((Z.filter fun q => decide (q.1.known ≤ known)).mergeSort (dataLe false fun q => papKey q.1)).map (·.1) = papersBy (Z.map (·.1)) known := by
  unfold papersBy
  rw [sort_maps (r := dataLe false fun q : Pap Nat × Addr => papKey q.1) (s := dataLe false papKey) (fun q : Pap Nat × Addr => q.1) (fun _ _ _ _ => rfl), List.filter_map]
  rfl
section
variable {P : Program} {w : World} {K : PySem.W.Frag} {mg : Str → Option Value} {base : Heap} {H H0 H' : Hp} {a p : Addr} {A : Ad} {B B' : Bk}
def p_papers_by (K : PySem.W.Frag) : List V → Hp → (V → Hp → Prop) → Prop := fun vs H Φ => ∃ a B k, vs = [.ref a, .int k] ∧ BookAt K H a B ∧ B.papers.length ≤ 1000 ∧ Tabs (TTk K) H ∧ Φ = fun v H2 => ∃ l, v = .ref l ∧ New H l ∧ PapLst H2 l (papersBy B.papers k)
/-- a def's code object is known -/
theorem fn_c {d : He.DefD} {N ps : List Str} {k : Nat} {sp : Sp} {m : Str} (hat : d.at_ = (("Book" : Str), some m)) (hF : ∃ fd, Def K d fd) (S : FnScope N ps d.scope) (len : ∀ vs H Q E, sp vs H Q E → vs.length = ps.length)
    (hb : ∀ (cdv : Value) (A : Around) (outer : List Env) (s : Shared) (H : Hp) (vs : List V) (Q : VK) (E : XK), cdv = .ref (cC K m) → Room k (A.deeper (envOfC d.qual d.scope s.heap.objs.size (He.fAd K d.at_) cdv)) → sp vs H Q E →
      ∃ t, PSs (cxOf CX0 P w K mg base N d.qual d.scope (He.fAd K d.at_) cdv A outer s H E) d.body t ∧ t { nx := fun _ H' => Q .non H', rt := Q } (start N vs) H) : Fn P w K mg base d (k + 1) ps sp := by
  obtain ⟨fd, F⟩ := hF
  refine ⟨fd, F, ?_⟩
  obtain ⟨oc, od, dV, kV, doc, pm, an, cdv, ct, osl, rfl, lk, hcd, _, _⟩ := F.ex
  obtain ⟨c, rfl⟩ := He.codeIn_ref hcd
  have e := He.codeOf_eq lk rfl
  rw [hat] at e
  exact fn_of lk hcd S len fun A outer s H vs Q E hr hsp => hb _ A outer s H vs Q E (by rw [← e]; rfl) hr hsp
theorem fn_papers_by (S : Say K mg) (TB : TabB base mg (cC K "papers_by") (cP K "papers_by")) (hd : cP K "papers_by" ≠ cP K "runners") : Fn P w K mg base dBook_papers_by 4 ["self", "known"] (spO (TTk K) (p_papers_by K)) := by
  refine fn_c rfl S.f_Book_papers_by sc_Book_papers_by (fun vs H Q E ⟨Φ, H0, _, h, _⟩ => by obtain ⟨_, _, _, rfl, _⟩ := h; rfl) fun cdv A outer s H vs Q E hc hr ⟨Φ, H0, e, h, q⟩ => ⟨_, (tm_Book_papers_by S _ cdv A outer s H E hr TB hc hd).2, ?_⟩
  obtain ⟨a, B, k, rfl, ⟨A, hA, pt⟩, hl, htb, rfl⟩ := h
  obtain ⟨Z, z1, z2, z3⟩ := pt.pa
  have zl : Z.length = B.papers.length := by rw [← z1, List.length_map]
  dsimp only [tm_Book_papers_by]
  refine q_asgO (T := TTk K) (.mono (lc_tupl (L := Z) (iv := fun q => .ref q.2) (f := fun q => decide (q.1.known ≤ k)) (ev := fun q => .ref q.2) (ev_f rfl hA S.c_Book S.n_Book_papers rfl) (st_of z2) (by omega) (fun _ => rfl) (fun z hz H1 e1 => et_test (ev_op (ev_op (ev_var rfl) (ev_neg (i := 1) ev_c) (rv_ixt (st_of (e1.tup (z3 z hz))) (papV_last z.1))) (ev_var rfl) rv_i0)) fun z hz _ H1 e1 => ev_var rfl) e) fun v H1 e1 hv => ?_
  obtain ⟨l, rfl, _, hl1⟩ := hv
  have g1 := e.trans e1
  refine s_ro (H0 := H1) ((eo_sortLam (K := K) (key := fun q => papKey q.1) (ev_var rfl) (g1.2 htb) hl1 ?_ ?_ ?_ ?_).imp fun v H2 e2 hv => ?_) (.refl H1) (q.mono e1)
  · intro d hd d' hd'
    obtain ⟨x, _, rfl⟩ := List.mem_map.mp hd
    obtain ⟨y, _, rfl⟩ := List.mem_map.mp hd'
    rfl
  · refine .inr fun d hd => ?_
    obtain ⟨x, _, rfl⟩ := List.mem_map.mp hd
    exact ⟨fun z => (by cases z), fun _ z => (by cases z)⟩
  · intro x _
    exact Nat.zero_le 8
  · intro z hz H2 e2
    have hz' := (List.mem_filter.mp hz).1
    exact ⟨_, rfl, ⟨_, rfl, ⟨z.2, papV z.1, -1, .int z.1.known, rfl, rfl, st_of ((g1.trans e2).tup (z3 z hz')), papV_last z.1, fun b o h => h, .int _⟩⟩⟩
  · obtain ⟨l2, rfl, nw, hl2⟩ := hv
    refine ⟨l2, rfl, nw.back g1, _, papersBy_map Z k ▸ (by rw [z1]), hl2, fun q hq => ?_⟩
    exact (g1.trans e2).tup (z3 q (List.mem_filter.mp (List.mem_mergeSort.mp hq)).1)
/-! ### the word of a deed -/
def wordStep {α : Type} [DecidableEq α] (n : α) (r : Rw) (st : Bool × List Bool) : Pap α → Bool × List Bool
  | .out m _ => if m = n then (true, st.2) else st
  | .inn m _ => if m = n then (false, st.2) else st
  | .wrong c s t _ => if c = r.course then (st.1, st.2 ++ [decide (s ≤ r.day) && decide (r.day ≤ t)]) else st
  | .right c _ => if c = r.course then (st.1, []) else st
def verdict (st : Bool × List Bool) (windy : Bool) : Str := if st.1 then "struck" else if st.2.any id then "course" else if windy then "wind" else "good"
def wordP {α : Type} [DecidableEq α] (n : α) (r : Rw) (since known : Int) (windy : Bool) (ps : List (Pap α)) : Str :=
  if known < since then "untold" else verdict ((papersBy ps known).foldl (wordStep n r) (false, [])) windy
def evOf (L : List Evt) (n : Str) : Evt := (L.find? (fun x => decide (x.1 = n))).getD ("", "", false)
def windyB (B : Bk) (r : Rw) : Bool := (evOf B.events r.event).2.2 && decide (B.terms.wind < r.wind)
/-- what is asked of a book whose answers are wanted -/
structure BkOk (B : Bk) : Prop where
  ev : EvsOk B.events
  lim : LimOk B.terms.limits
  told : B.told.length ≤ 60
  papers : B.papers.length ≤ 1000
  rw : ∀ q ∈ B.told, RwOk q.1 ∧ (∃ x, B.events.find? (fun x => decide (x.1 = q.1.event)) = some x) ∧ ∃ p, (q.1.name, p) ∈ B.people
theorem find_evOf {L : List Evt} {n : Str} (h : ∃ x, L.find? (fun x => decide (x.1 = n)) = some x) : L.find? (fun x => decide (x.1 = n)) = some (evOf L n) := by
  obtain ⟨x, h⟩ := h
  rw [evOf, h]
  rfl
theorem told_at {Z : List Td} {L : List (Rw × Int)} (z1 : Z.map (fun q => (q.r, q.k)) = L) {n : Nat} {q : Rw × Int} (h : L[n]? = some q) : ∃ z, Z[n]? = some z ∧ z ∈ Z ∧ z.r = q.1 ∧ z.k = q.2 := by
  rw [← z1, List.getElem?_map] at h
  cases e : Z[n]? with
  | none => rw [e] at h; cases h
  | some z =>
    rw [e] at h
    cases h
    exact ⟨z, rfl, List.mem_of_getElem? e, rfl, rfl⟩
theorem atI_nat' {xs : List V} {n : Nat} {v : V} (h : xs[n]? = some v) : atI xs (n : Int) = some v := atI_nat h
section
variable {T : TT0} {σ : L2.St} {H : Hp} {K : PySem.W.Frag} {p : Addr} {c d : Str} {r : List V}
theorem et_kind {i : Nat} (h7 : σ[i]? = some (some (.ref p))) (hp : H p = some (.tup (.str c :: r))) {b : Bool} (e : inV (.str c) [.str "out", .str "in"] = b) : EvT T (tTest (tOp (rIn K false) (tOp (rIxT K) (tVar i) (tC (.int 0))) (tTup (tCons (tC (.str "out")) (tCons (tC (.str "in")) tNil))))) σ H b :=
  et_test (ev_op2 (Φ := fun v _ => v = .str c) (Ev.eo (ev_op (ev_var h7) ev_c (rv_ixt (st_of hp) (atI_nat' (n := 0) rfl)))) fun x H1 e1 hx => (eo_tupm (ea2 ev_c ev_c) (by simp)).imp fun y H2 e2 hy => by
    subst hx
    obtain ⟨p, rfl, hp⟩ := hy
    exact (rv_inT (neg := false) (st_of hp) rfl rfl).is (by rw [← e]; rfl))
theorem et_eqk {i : Nat} (h7 : σ[i]? = some (some (.ref p))) (hp : H p = some (.tup (.str c :: r))) : EvT T (tTest (tOp rEq (tOp (rIxT K) (tVar i) (tC (.int 0))) (tC (.str d)))) σ H (decide (V.str c = V.str d)) := et_test (ev_op (ev_op (ev_var h7) ev_c (rv_ixt (st_of hp) (atI_nat' (n := 0) rfl))) ev_c (rv_eq rfl))
end
def p_word_of (K : PySem.W.Frag) : List V → Hp → V → Prop := fun vs H v => ∃ a B n k q, vs = [.ref a, .int ((n : Nat) : Int), .int k] ∧ BookAt K H a B ∧ BkOk B ∧ Tabs (TTk K) H ∧ B.told[n]? = some q ∧ v = .str (wordP n q.1 q.2 k (windyB B q.1) B.papers)
theorem fn_word_of (S : Say K mg) (TB : TabB base mg (cC K "papers_by") (cP K "papers_by")) (hd : cP K "papers_by" ≠ cP K "runners") : Fn P w K mg base dBook_word_of 5 ["self", "number", "known"] (spV (TTk K) (p_word_of K)) := by
  obtain ⟨_, F1, O1⟩ := fn_event_of (T := TTk K) (P := P) (w := w) (base := base) S
  obtain ⟨_, F2, O2⟩ := fn_papers_by (P := P) (w := w) (base := base) S TB hd
  refine fn_v S.f_Book_word_of sc_Book_word_of (fun vs H v h => by obtain ⟨_, _, _, _, _, rfl, _⟩ := h; rfl) fun cdv A outer s H vs E hr => ⟨_, (tm_Book_word_of S F1 O1 F2 O2 _ cdv A outer s H E hr).2, fun v H0 Q e h q => ?_⟩
  obtain ⟨a, B, n, k, q0, rfl, ⟨A, hA, pt⟩, ok, htb, hq0, rfl⟩ := h
  obtain ⟨Z, z1, z2, z3⟩ := pt.to
  obtain ⟨z, hz, mz, er, ek⟩ := told_at z1 hq0
  obtain ⟨⟨dd, hdd⟩⟩ : Nonempty (DeedAt K H0 z.d z.r) := ⟨(z3 z mz).2⟩
  dsimp only [tm_Book_word_of]
  refine q_asgG (T := TTk K) (Ev.eo (.mono (ev_op (ev_f rfl hA S.c_Book S.n_Book_told rfl) (ev_var rfl) (rv_ixt (v := .ref z.t) (st_of z2) (atI_nat' (by rw [List.getElem?_map, hz]; rfl)))) e)) fun v H1 e1 hv => ?_
  subst hv
  have g1 := e.trans e1
  refine g_tup2 (st_of (g1.tup (z3 z mz).1)) ?_
  refine q_if (T := TTk K) (b := decide (k < z.k)) (et_test (ev_op (ev_var rfl) (ev_var rfl) rv_i0)) (fun hb H2 e2 => s_rv (ev_c : Ev (TTk K) _ _ H2 _) (.refl H2) (q.mono (e1.trans e2)) ?_) fun hb H2 e2 => ?_
  · unfold wordP
    rw [if_pos (by rw [← ek]; exact of_decide_eq_true hb)]
  have hw : wordP n q0.1 q0.2 k (windyB B q0.1) B.papers = verdict ((papersBy B.papers k).foldl (wordStep n z.r) (false, [])) (windyB B z.r) := by
    unfold wordP
    rw [if_neg (by rw [← ek]; exact of_decide_eq_false hb), er]
  have g2 := g1.trans e2
  refine q_parO (T := TTk K) (Ψ := fun us H5 => ∃ l, us = [.bl false, .ref l] ∧ New H2 l ∧ H5 l = some (.lst [])) (eao_cons (Ev.eo ev_c) fun v H3 e3 hv => eao_cons (eo_lst ea_nil (by simp)) fun u H4 e4 hu => eao_nil.imp fun us H5 e5 hus => ?_) fun us H3 e3 ⟨lw, eu, nlw, hlw⟩ => ⟨_, _, eu, ?_⟩
  · subst hv hus
    obtain ⟨l, rfl, nl, hl⟩ := hu
    exact ⟨l, rfl, nl.back e3, e5.lst hl⟩
  have g3 := g2.trans e3
  refine q_forG (T := TTk K) (eo_meth (ev_var rfl) (g3.ins hA) rfl (ea1 (ev_var rfl)) (gvO ⟨a, B, k, rfl, ⟨A, g3.ins hA, pt.mono g3⟩, ok.papers, g3.2 htb, rfl⟩)) fun v H4 e4 ⟨lp, ev, nlp, Zp, y1, y2, y3⟩ => ⟨lp, Zp.map fun q => V.ref q.2, ev, fun i σ' H' => Wd (TTk K) H2 H' ∧ H' lp = some (.lst (Zp.map fun q => .ref q.2)) ∧ (∀ q ∈ Zp, H' q.2 = some (.tup (papV q.1))) ∧
    ∃ (st : Bool × List Bool) (l : Addr) (u : Option V), σ' = [some (.ref a), some (.int (n : Int)), some (.int k), some (.ref z.d), some (.int z.k), some (.bl st.1), some (.ref l), u, none] ∧ New H2 l ∧ l ≠ lp ∧ H' l = some (.lst (st.2.map V.bl)) ∧ st.2.length ≤ i ∧ st = ((papersBy B.papers k).take i).foldl (wordStep n z.r) (false, []), ?_, ?_, ?_, ?_⟩
  · exact ⟨e3.trans e4, y2, y3, (false, []), lw, none, rfl, nlw, nlp.ne hlw nt_lst, e4.lst hlw, Nat.le_refl _, rfl⟩
  · exact fun i σ' H' h => sl_of h.2.1
  · intro i x σ' H' hx ⟨w1, w2, w3, st, l, u, eσ, nl, nll, hl, hlen, hst⟩
    obtain ⟨qp, hqp, rfl⟩ := map_at hx
    have hL : (papersBy B.papers k)[i]? = some qp.1 := by rw [← y1, List.getElem?_map, hqp]; rfl
    have hrow := w3 qp (List.mem_of_getElem? hqp)
    have hstep : ((papersBy B.papers k).take (i + 1)).foldl (wordStep n z.r) (false, []) = wordStep n z.r st qp.1 := by
      rw [List.take_add_one, hL, hst]
      simp [List.foldl_append]
    subst eσ
    have hil : i < 1000 := by
      have h1 := (List.getElem?_eq_some_iff.mp hL).1
      have h2 : (papersBy B.papers k).length ≤ B.papers.length := by
        unfold papersBy
        rw [List.length_mergeSort]
        exact List.length_filter_le _ _
      have := ok.papers
      omega
    have ex : ∀ {H5 : Hp}, Wd (TTk K) H' H5 → Wd (TTk K) H2 H5 ∧ H5 lp = some (.lst (Zp.map fun q => .ref q.2)) ∧ (∀ q ∈ Zp, H5 q.2 = some (.tup (papV q.1))) ∧ H5 l = some (.lst (st.2.map V.bl)) := fun {H5} e5 => ⟨w1.trans e5, e5.lst w2, fun q hq => e5.tup (w3 q hq), e5.lst hl⟩
    have hd' : ∀ {H5 : Hp}, Wd (TTk K) H2 H5 → H5 z.d = some (.ins (cDeed K) dd (rowF z.r)) := fun e5 => (g2.trans e5).ins hdd
    cases hq : qp.1 with
    | out m kk =>
      rw [hq] at hrow hstep
      have hstep : _ = if m = n then (true, st.2) else st := hstep
      refine s_if (T := TTk K) (b := true && decide (m = n)) (et_and (et_kind (p := qp.2) rfl hrow (by decide +kernel)) fun _ => .is (et_test (ev_op (ev_op (ev_var rfl) ev_c (rv_ixt (v := .int (m : Int)) (st_of hrow) rfl)) (ev_var rfl) (rv_eq rfl))) (decide_eq_decide.mpr ⟨fun z => by injection z with z; omega, fun z => by rw [z]⟩)) (fun hb H5 e5 => ?_) fun hb H5 e5 => ?_
      · have hm : m = n := by simpa using hb
        rw [if_pos hm] at hstep
        refine s_asg (T := TTk K) (ev_op (ev_op (ev_var rfl) ev_c (rv_ixt (st_of (e5.tup hrow)) rfl)) ev_c (rv_eq rfl)) fun H6 e6 => ?_
        obtain ⟨f1, f2, f3, f4⟩ := ex (e5.trans e6)
        exact ⟨f1, f2, f3, (true, st.2), l, _, rfl, nl, nll, f4, by show st.2.length ≤ i + 1; omega, hstep.symm⟩
      · have hm : ¬ m = n := by simpa using hb
        rw [if_neg hm] at hstep
        refine s_if (T := TTk K) (b := false) (et_and (b := false) (c := false) (et_eqk (p := qp.2) rfl (e5.tup hrow)) fun h => (by cases h)) (fun h => by cases h) fun _ H6 e6 => ?_
        refine s_if (T := TTk K) (b := false) (et_and (b := false) (c := false) (et_eqk (p := qp.2) rfl ((e5.trans e6).tup hrow)) fun h => (by cases h)) (fun h => by cases h) fun _ H7 e7 => ?_
        obtain ⟨f1, f2, f3, f4⟩ := ex ((e5.trans e6).trans e7)
        exact ⟨f1, f2, f3, st, l, _, rfl, nl, nll, f4, by omega, hstep.symm⟩
    | inn m kk =>
      rw [hq] at hrow hstep
      have hstep : _ = if m = n then (false, st.2) else st := hstep
      refine s_if (T := TTk K) (b := true && decide (m = n)) (et_and (et_kind (p := qp.2) rfl hrow (by decide +kernel)) fun _ => .is (et_test (ev_op (ev_op (ev_var rfl) ev_c (rv_ixt (v := .int (m : Int)) (st_of hrow) rfl)) (ev_var rfl) (rv_eq rfl))) (decide_eq_decide.mpr ⟨fun z => by injection z with z; omega, fun z => by rw [z]⟩)) (fun hb H5 e5 => ?_) fun hb H5 e5 => ?_
      · have hm : m = n := by simpa using hb
        rw [if_pos hm] at hstep
        refine s_asg (T := TTk K) (ev_op (ev_op (ev_var rfl) ev_c (rv_ixt (st_of (e5.tup hrow)) rfl)) ev_c (rv_eq rfl)) fun H6 e6 => ?_
        obtain ⟨f1, f2, f3, f4⟩ := ex (e5.trans e6)
        exact ⟨f1, f2, f3, (false, st.2), l, _, rfl, nl, nll, f4, by show st.2.length ≤ i + 1; omega, hstep.symm⟩
      · have hm : ¬ m = n := by simpa using hb
        rw [if_neg hm] at hstep
        refine s_if (T := TTk K) (b := false) (et_and (b := false) (c := false) (et_eqk (p := qp.2) rfl (e5.tup hrow)) fun h => (by cases h)) (fun h => by cases h) fun _ H6 e6 => ?_
        refine s_if (T := TTk K) (b := false) (et_and (b := false) (c := false) (et_eqk (p := qp.2) rfl ((e5.trans e6).tup hrow)) fun h => (by cases h)) (fun h => by cases h) fun _ H7 e7 => ?_
        obtain ⟨f1, f2, f3, f4⟩ := ex ((e5.trans e6).trans e7)
        exact ⟨f1, f2, f3, st, l, _, rfl, nl, nll, f4, by omega, hstep.symm⟩
    | wrong c s t kk =>
      rw [hq] at hrow hstep
      have hstep : _ = if c = z.r.course then (st.1, st.2 ++ [decide (s ≤ z.r.day) && decide (z.r.day ≤ t)]) else st := hstep
      refine s_if (T := TTk K) (b := false) (et_and (b := false) (c := false) (et_kind (p := qp.2) rfl hrow (by decide +kernel)) fun h => (by cases h)) (fun h => by cases h) fun _ H5 e5 => ?_
      refine s_if (T := TTk K) (b := true && decide (c = z.r.course)) (et_and (b := true) (et_eqk (p := qp.2) rfl (e5.tup hrow)) fun _ => .is (et_test (ev_op (ev_op (ev_var rfl) ev_c (rv_ixt (v := .str c) (st_of (e5.tup hrow)) rfl)) (ev_f rfl (hd' (w1.trans e5)) S.c_Deed S.n_Deed_course rfl) (rv_eq rfl))) (decide_eq_decide.mpr ⟨fun z => by injection z, fun z => by rw [z]⟩)) (fun hb H6 e6 => ?_) fun hb H6 e6 => ?_
      · have hm : c = z.r.course := by simpa using hb
        rw [if_pos hm] at hstep
        have e7 := e5.trans e6
        refine s_app (T := TTk K) (Φ := fun v _ => v = .bl (decide (s ≤ z.r.day) && decide (z.r.day ≤ t))) (e7.lst hl) (ev_var rfl) (Ev.eo (ev_chain (ev_op (ev_var rfl) ev_c (rv_ixt (v := .int s) (st_of (e7.tup hrow)) rfl)) (ev_f rfl (hd' (w1.trans e7)) S.c_Deed S.n_Deed_day rfl) rv_i0 (fun _ => ev_op (ev_var rfl) ev_c (rv_ixt (v := .int t) (st_of (e7.tup hrow)) rfl)) fun _ => rv_i0)) (by rw [List.length_map]; omega) fun v H8 e8 hv => ?_
        subst hv
        obtain ⟨f1, f2, f3, f4⟩ := ex (e7.trans e8)
        refine ⟨f1.mut nl f4 trivial, by rw [upd_ne nll.symm]; exact f2, fun q hq => by rw [upd_ne (ne_of (f3 q hq) f4 (by intro z; cases z))]; exact f3 q hq, (st.1, st.2 ++ [decide (s ≤ z.r.day) && decide (z.r.day ≤ t)]), l, _, rfl, nl, nll, ?_, ?_, hstep.symm⟩
        · rw [upd_same, List.map_append]
          rfl
        · show (st.2 ++ _).length ≤ i + 1
          rw [List.length_append, List.length_singleton]
          omega
      · have hm : ¬ c = z.r.course := by simpa using hb
        rw [if_neg hm] at hstep
        refine s_if (T := TTk K) (b := false) (et_and (b := false) (c := false) (et_eqk (p := qp.2) rfl ((e5.trans e6).tup hrow)) fun h => (by cases h)) (fun h => by cases h) fun _ H7 e7 => ?_
        obtain ⟨f1, f2, f3, f4⟩ := ex ((e5.trans e6).trans e7)
        exact ⟨f1, f2, f3, st, l, _, rfl, nl, nll, f4, by omega, hstep.symm⟩
    | right c kk =>
      rw [hq] at hrow hstep
      have hstep : _ = if c = z.r.course then (st.1, []) else st := hstep
      refine s_if (T := TTk K) (b := false) (et_and (b := false) (c := false) (et_kind (p := qp.2) rfl hrow (by decide +kernel)) fun h => (by cases h)) (fun h => by cases h) fun _ H5 e5 => ?_
      refine s_if (T := TTk K) (b := false) (et_and (b := false) (c := false) (et_eqk (p := qp.2) rfl (e5.tup hrow)) fun h => (by cases h)) (fun h => by cases h) fun _ H6 e6 => ?_
      have e7 := e5.trans e6
      refine s_if (T := TTk K) (b := true && decide (c = z.r.course)) (et_and (b := true) (et_eqk (p := qp.2) rfl (e7.tup hrow)) fun _ => .is (et_test (ev_op (ev_op (ev_var rfl) ev_c (rv_ixt (v := .str c) (st_of (e7.tup hrow)) rfl)) (ev_f rfl (hd' (w1.trans e7)) S.c_Deed S.n_Deed_course rfl) (rv_eq rfl))) (decide_eq_decide.mpr ⟨fun z => by injection z, fun z => by rw [z]⟩)) (fun hb H8 e8 => ?_) fun hb H8 e8 => ?_
      · have hm : c = z.r.course := by simpa using hb
        rw [if_pos hm] at hstep
        have e9 := e7.trans e8
        refine s_asgO (T := TTk K) (eo_lst ea_nil (by simp)) fun v H10 e10 hv => ?_
        obtain ⟨l2, rfl, nl2, hl2⟩ := hv
        obtain ⟨f1, f2, f3, f4⟩ := ex (e9.trans e10)
        have w8 := w1.trans e9
        exact ⟨f1, f2, f3, (st.1, []), l2, _, rfl, nl2.back w8, (nl2.ne (e9.lst w2) nt_lst).symm, hl2, Nat.zero_le _, hstep.symm⟩
      · have hm : ¬ c = z.r.course := by simpa using hb
        rw [if_neg hm] at hstep
        obtain ⟨f1, f2, f3, f4⟩ := ex (e7.trans e8)
        exact ⟨f1, f2, f3, st, l, _, rfl, nl, nll, f4, by omega, hstep.symm⟩
  · intro σ' H' ⟨w1, w2, w3, st, l, u, eσ, nl, nll, hl, hlen, hst⟩
    have hfin : st = (papersBy B.papers k).foldl (wordStep n z.r) (false, []) := by
      have hl : (Zp.map fun q => V.ref q.2).length = (papersBy B.papers k).length := by rw [← y1, List.length_map, List.length_map]
      rw [hst, hl, List.take_length]
    rw [← hfin] at hw
    subst eσ
    have g5 := g2.trans w1
    have wq : ∀ {H5 : Hp}, Wd (TTk K) H2 H5 → RetV (TTk K) (V.str (wordP n q0.1 q0.2 k (windyB B q0.1) B.papers)) H5 Q := fun e5 => q.mono ((e1.trans e2).trans e5)
    refine q_if (T := TTk K) (b := st.1) (et_b (ev_var rfl)) (fun hb H5 e5 => s_rv (ev_c : Ev (TTk K) _ _ H5 _) (.refl H5) (wq (w1.trans e5)) (by rw [hw, verdict, if_pos hb])) fun hb H5 e5 => ?_
    refine q_if (T := TTk K) (b := st.2.any id) (et_b (ev_cb (ea1 (ev_var rfl)) (rc_any (sl_of (e5.lst hl))))) (fun hb2 H6 e6 => s_rv (ev_c : Ev (TTk K) _ _ H6 _) (.refl H6) (wq ((w1.trans e5).trans e6)) (by rw [hw, verdict, if_neg (by rw [hb]; simp), if_pos hb2])) fun hb2 H6 e6 => ?_
    have g6 := (g5.trans e5).trans e6
    have hr0 := ok.rw q0 (List.mem_of_getElem? hq0)
    rw [← er] at hr0
    obtain ⟨dr, lr, hr1, hr2⟩ := pt.ru
    refine q_asg (T := TTk K) (v := .bl (windyB B z.r)) (ev_andV (ev_op2 (eo_meth (ev_var rfl) (g6.ins hA) rfl (ea1 (ev_f rfl (g6.ins hdd) S.c_Deed S.n_Deed_event rfl)) (gvO ⟨a, B, z.r.event, _, rfl, ⟨A, g6.ins hA, pt.mono g6⟩, hr0.1.e, find_evOf hr0.2.1, rfl⟩)) fun x H7 e7 hx => (Ev.eo ev_c).imp fun y H8 e8 hy => ?_) fun _ => ev_op (ev_f rfl (g6.ins hdd) S.c_Deed S.n_Deed_wind rfl) (ev_fld (ev_f rfl (g6.ins hA) S.c_Book S.n_Book_rules rfl) (g6.ins hr1) S.c_Rules S.n_Rules_wind rfl) rv_i0) fun H7 e7 => ?_
    · obtain ⟨t, rfl, ht⟩ := hx
      subst hy
      exact rv_ixt (st_of (e8.tup ht)) rfl
    · refine s_rv (T := TTk K) (H0 := H7) (ev_if (v := .str (if windyB B z.r then "wind" else "good")) (b := windyB B z.r) (et_b (ev_var rfl)) (fun h => .is ev_c (by rw [if_pos h])) fun h => .is ev_c (by rw [if_neg (by rw [h]; simp)])) (.refl H7) (wq (((w1.trans e5).trans e6).trans e7)) (by rw [hw, verdict, hb, hb2]; rfl)
end
end Bb
/-! ## part Rd6 -/
namespace Bb
open PySem PySem.Spec PyProof.Rows L2 LamX BbS NdefX PySem.W
def optV : Option Str → V
  | none => .non
  | some z => .str z
def prsOf (L : List (Str × Prs)) (n : Str) : Prs := ((L.find? fun q => decide (q.1 = n)).getD ("", ⟨0, "", ""⟩)).2
theorem prsOf_mem {L : List (Str × Prs)} {n : Str} (h : ∃ p, (n, p) ∈ L) : (n, prsOf L n) ∈ L := by
  obtain ⟨p, h⟩ := h
  unfold prsOf
  cases e : L.find? fun q => decide (q.1 = n) with
  | none =>
    have := List.find?_eq_none.mp e _ h
    simp at this
  | some q =>
    have h1 := List.mem_of_find?_eq_some e
    have h2 : q.1 = n := by simpa using List.find?_some e
    rw [← h2]
    exact h1
def countsB (B : Bk) (r : Rw) (ev : Str) (g : Option Str) (pl : Nat) : Bool :=
  !((!decide (r.event = ev)) || (g.isSome && !decide (some (prsOf B.people r.name).group = g))) && inV (.int (pl : Int)) (clsV B.terms ((r.day - (prsOf B.people r.name).born) / 365))
theorem cls_flat (R : Trm) (age : Int) : (clsV R age).all flatV = true := by
  unfold clsV
  split
  · unfold rgV
    rw [List.all_map]
    simp [Function.comp, flatV]
  · rfl
section
variable {T : TT0} {P : Program} {w : World} {K : PySem.W.Frag} {mg : Str → Option Value} {base : Heap} {H H0 H' : Hp} {a p : Addr} {A : Ad} {B B' : Bk}
def p_state (K : PySem.W.Frag) : List V → Hp → V → Prop := fun vs H v => ∃ a B n k q, vs = [.ref a, .int ((n : Nat) : Int), .int k] ∧ BookAt K H a B ∧ BkOk B ∧ Tabs (TTk K) H ∧ B.told[n]? = some q ∧ 0 ≤ k ∧ k ≤ 40000 ∧ v = .str (wordP n q.1 q.2 k (windyB B q.1) B.papers)
theorem fn_state (S : Say K mg) (TB : TabB base mg (cC K "papers_by") (cP K "papers_by")) (hd : cP K "papers_by" ≠ cP K "runners") : Fn P w K mg base dBook_state 6 ["self", "number", "known"] (spV (TTk K) (p_state K)) := by
  obtain ⟨_, F1, O1⟩ := fn_known_day (T := TTk K) (P := P) (w := w) (base := base) S
  obtain ⟨_, F2, O2⟩ := fn_need_number (T := TTk K) (P := P) (w := w) (base := base) S
  obtain ⟨_, F3, O3⟩ := fn_word_of (P := P) (w := w) (base := base) S TB hd
  refine fn_v S.f_Book_state sc_Book_state (fun vs H v h => by obtain ⟨_, _, _, _, _, rfl, _⟩ := h; rfl) fun cdv A outer s H vs E hr => ⟨_, (tm_Book_state S F1 O1 F2 O2 F3 O3 _ cdv A outer s H E hr).2, fun v H0 Q e h q => ?_⟩
  obtain ⟨a, B, n, k, q0, rfl, ⟨A, hA, pt⟩, ok, htb, hq0, k1, k2, rfl⟩ := h
  dsimp only [tm_Book_state]
  refine q_dropV (T := TTk K) (.mono (ev_meth (ev_var rfl) hA rfl (ea1 (ev_var rfl)) (gv ⟨a, B, n, rfl, ⟨A, hA, pt⟩, (List.getElem?_eq_some_iff.mp hq0).1, rfl⟩)) e) fun H1 e1 => ?_
  have g1 := e.trans e1
  exact s_rv (ev_meth (ev_var rfl) (g1.ins hA) rfl (ea2 (ev_var rfl) (ev_call (ea1 (ev_var rfl)) (gv (.inr ⟨k, rfl, by omega, k2, rfl⟩)))) (gv ⟨a, B, n, k, q0, rfl, ⟨A, g1.ins hA, pt.mono g1⟩, ok, g1.2 htb, hq0, rfl⟩)) (.refl H1) (q.mono e1) rfl
theorem rc_lenOwn {C dx : Addr} {fs : List (Str × V)} {pre : List V → Hp → V → Prop} {n : Int} (ha : H a = some (.ins C dx fs)) (h : pre [.ref a] H (.int n)) (h1 : 0 ≤ n) (h2 : n < 2 ^ 62) : RC T (rLenOwn C (spV T pre)) [.ref a] H (.int n) := fun H1 e Q q =>
  ⟨a, dx, fs, rfl, e.ins ha, ⟨.int n, H, e, h, fun H2 e2 => ⟨n, rfl, h1, h2, q H2 e2⟩⟩⟩
structure BestOk (B : Bk) (ev : Str) (g : Option Str) (pl : Nat) : Prop where
  fnd : ∃ x, B.events.find? (fun x => decide (x.1 = ev)) = some x
  en : nameB ev = true
  gn : ∀ z, g = some z → nameB z = true
  pl : pl ≤ B.terms.limits.length
def p_need_best (K : PySem.W.Frag) : List V → Hp → V → Prop := fun vs H v => ∃ a B ev g pl, vs = [.ref a, .str ev, optV g, .int ((pl : Nat) : Int)] ∧ BookAt K H a B ∧ BkOk B ∧ BestOk B ev g pl ∧ v = .int (pl : Int)
theorem fn_need_best (S : Say K mg) : Fn P w K mg base dBook_need_best 3 ["self", "event", "group", "place"] (spV T (p_need_best K)) := by
  obtain ⟨_, F1, O1⟩ := fn_is_from (T := T) (P := P) (w := w) (base := base) S
  obtain ⟨_, F2, O2⟩ := fn_is_name (T := T) (P := P) (w := w) (base := base) S
  obtain ⟨_, F3, O3⟩ := fn_Rules_len (T := T) (P := P) (w := w) (base := base) S
  obtain ⟨_, F4, O4⟩ := fn_event_of (T := T) (P := P) (w := w) (base := base) S
  refine fn_v S.f_Book_need_best sc_Book_need_best (fun vs H v h => by obtain ⟨_, _, _, _, _, rfl, _⟩ := h; rfl) fun cdv A outer s H vs E hr => ⟨_, (tm_Book_need_best S F1 O1 F2 O2 F3 O3 F4 O4 _ cdv A outer s H E hr).2, fun v H0 Q e h q => ?_⟩
  obtain ⟨a, B, ev, g, pl, rfl, ⟨A, hA, pt⟩, ok, bo, rfl⟩ := h
  obtain ⟨dr, lr, hr1, hr2⟩ := pt.ru
  have lm := ok.lim.1
  have hp := bo.pl
  dsimp only [tm_Book_need_best]
  refine q_drop (T := T) (.mono (eo_meth (ev_var rfl) hA rfl (ea1 (ev_var rfl)) (gvO ⟨a, B, ev, _, rfl, ⟨A, hA, pt⟩, bo.en, find_evOf bo.fnd, rfl⟩)) e) fun v H1 e1 _ => ?_
  have g1 := e.trans e1
  have hG : ∀ z, optV g = .str z → nameB z = true := fun z h => bo.gn z (by cases g with | none => cases h | some y => rw [show y = z by injection h])
  refine q_skip (T := T) (.is (et_and (b := !decide (optV g = .non)) (c := false) (et_test (ev_op (ev_var rfl) ev_c rv_notn)) fun h => ?_) (by simp)) fun H2 e2 => ?_
  · cases g with
    | none => simp [optV] at h
    | some z => exact et_not (et_b (b := true) (ev_call (ea1 (ev_var rfl)) (gv ⟨z, rfl, bo.gn z rfl, rfl⟩)))
  have g2 := g1.trans e2
  refine q_skip (T := T) (.is (et_and (b := true) (c := false) (et_test (ev_op (ev_var rfl) ev_c rv_notn)) fun h => et_not (et_b (b := true) (ev_call (ea3 (ev_var rfl) ev_c (ev_op (ev_cb (ea1 (ev_f rfl (g2.ins hA) S.c_Book S.n_Book_rules rfl)) (rc_lenOwn (n := (B.terms.limits.length : Int) + 1) (g2.ins hr1) ⟨_, B.terms, rfl, ⟨dr, lr, g2.ins hr1, g2.tup hr2⟩, lm, rfl⟩ (by omega) (by omega))) ev_c rv_i0)) (gv ⟨_, _, _, rfl, by omega, by omega, rfl⟩)))) rfl) fun H3 e3 => ?_
  exact s_rv (ev_if (b := false) (et_test (ev_op (ev_var rfl) ev_c rv_isn)) (fun h => by cases h) fun _ => ev_var rfl) (.refl H3) (q.mono ((e1.trans e2).trans e3)) rfl
def p_counts (K : PySem.W.Frag) : List V → Hp → V → Prop := fun vs H v => ∃ a B n b ev g pl q, vs = [.ref a, .int ((n : Nat) : Int), .ref b] ∧ BookAt K H a B ∧ BkOk B ∧ B.told[n]? = some q ∧ H b = some (.tup [.str ev, optV g, .int ((pl : Nat) : Int)]) ∧ v = .bl (countsB B q.1 ev g pl)
theorem fn_counts (S : Say K mg) : Fn P w K mg base dBook_counts 2 ["self", "number", "best"] (spV T (p_counts K)) := by
  obtain ⟨_, F1, O1⟩ := fn_Rules_classes_in (T := T) (P := P) (w := w) (base := base) S
  obtain ⟨_, F2, O2⟩ := fn_Person_age_at (T := T) (P := P) (w := w) (base := base) S
  obtain ⟨_, F3, O3⟩ := fn_person_of (T := T) (P := P) (w := w) (base := base) S
  refine fn_v S.f_Book_counts sc_Book_counts (fun vs H v h => by obtain ⟨_, _, _, _, _, _, _, _, rfl, _⟩ := h; rfl) fun cdv A outer s H vs E hr => ⟨_, (tm_Book_counts S F1 O1 F2 O2 F3 O3 _ cdv A outer s H E hr).2, fun v H0 Q e h q => ?_⟩
  obtain ⟨a, B, n, b, ev, g, pl, q0, rfl, ⟨A, hA, pt⟩, ok, hq0, hb, rfl⟩ := h
  obtain ⟨Z, z1, z2, z3⟩ := pt.to
  obtain ⟨z, hz, mz, er, ek⟩ := told_at z1 hq0
  obtain ⟨⟨dd, hdd⟩⟩ : Nonempty (DeedAt K H0 z.d z.r) := ⟨(z3 z mz).2⟩
  have hr0 := ok.rw q0 (List.mem_of_getElem? hq0)
  rw [← er] at hr0 q
  obtain ⟨dr, lr, hr1, hr2⟩ := pt.ru
  dsimp only [tm_Book_counts]
  refine q_asgG (T := T) (Ev.eo (ev_var rfl)) fun v H1 e1 hv => ?_
  subst hv
  have g1 := e.trans e1
  refine g_tup3 (st_of (g1.tup hb)) ?_
  refine q_asg (T := T) (v := .ref z.d) (ev_op (ev_op (ev_f rfl (g1.ins hA) S.c_Book S.n_Book_told rfl) (ev_var rfl) (rv_ixt (v := .ref z.t) (st_of (g1.tup z2)) (atI_nat' (by rw [List.getElem?_map, hz]; rfl)))) ev_c (rv_ixt (st_of (g1.tup (z3 z mz).1)) rfl)) fun H2 e2 => ?_
  have g2 := g1.trans e2
  refine q_asgO (T := T) (eo_meth (ev_var rfl) (g2.ins hA) rfl (ea1 (ev_f rfl (g2.ins hdd) S.c_Deed S.n_Deed_name rfl)) (gvO ⟨a, B, z.r.name, _, rfl, ⟨A, g2.ins hA, pt.mono g2⟩, prsOf_mem hr0.2.2, rfl⟩)) fun v H3 e3 hv => ?_
  obtain ⟨t, rfl, dt, ht⟩ := hv
  have g3 := g2.trans e3
  refine q_if (T := T) (b := (!decide (z.r.event = ev)) || (g.isSome && !decide (some (prsOf B.people z.r.name).group = g))) (et_or (.is (et_test (ev_op (ev_f rfl (g3.ins hdd) S.c_Deed S.n_Deed_event rfl) (ev_var rfl) (rv_ne rfl))) (congrArg not (decide_eq_decide.mpr ⟨fun z => by injection z, fun z => by rw [z]⟩))) fun _ => et_and (.is (et_test (ev_op (ev_var rfl) ev_c rv_notn)) (by cases g <;> rfl)) fun hg => ?_) (fun hb4 H4 e4 => ?_) fun hb4 H4 e4 => ?_
  · cases g with
    | none => cases hg
    | some y => exact .is (et_test (ev_op (ev_f rfl ht S.c_Person S.n_Person_group rfl) (ev_var rfl) (rv_ne rfl))) (congrArg not (decide_eq_decide.mpr ⟨fun z => by injection z with z; rw [z], fun z => by injection z with z; rw [z]; rfl⟩))
  · exact s_rv (ev_c : Ev T _ _ H4 _) (.refl H4) (q.mono (((e1.trans e2).trans e3).trans e4)) (by rw [countsB, hb4]; rfl)
  · have g4 := g3.trans e4
    refine s_rv (T := T) (x := .bl (inV (.int (pl : Int)) (clsV B.terms ((z.r.day - (prsOf B.people z.r.name).born) / 365)))) (ev_op2 (Φ := fun v _ => v = .int (pl : Int)) (Ev.eo (ev_var rfl)) fun x H5 e5 hx => (eo_meth (ev_f rfl ((g4.trans e5).ins hA) S.c_Book S.n_Book_rules rfl) ((g4.trans e5).ins hr1) rfl (ea1 (ev_meth (ev_var rfl) ((e4.trans e5).ins ht) rfl (ea1 (ev_f rfl ((g4.trans e5).ins hdd) S.c_Deed S.n_Deed_day rfl)) (gv ⟨t, z.r.day, z.r.name, _, rfl, ⟨dt, (e4.trans e5).ins ht⟩, rfl⟩))) (gvO ⟨_, B.terms, _, rfl, ⟨dr, lr, (g4.trans e5).ins hr1, (g4.trans e5).tup hr2⟩, ok.lim.1, rfl⟩)).imp fun y H6 e6 hy => ?_) (.refl H4) (q.mono (((e1.trans e2).trans e3).trans e4)) (by rw [countsB, hb4]; simp)
    subst hx
    obtain ⟨l, rfl, _, hl⟩ := hy
    exact rv_inL (neg := false) (sl_of hl) rfl (cls_flat _ _)
end
end Bb
/-! ## part Rd7 -/
namespace Bb
open PySem PySem.Spec PyProof.Rows L2 LamX BbS NdefX PySem.W
def rw0 : Rw := ⟨"", "", 0, 0, 0, 0, ""⟩
def toldAt (B : Bk) (n : Nat) : Rw × Int := B.told.getD n (rw0, 0)
def wordAt (B : Bk) (n : Nat) (k : Int) : Str := wordP n (toldAt B n).1 (toldAt B n).2 k (windyB B (toldAt B n).1) B.papers
def runKey (B : Bk) (n : Nat) : PyData := .tuple [.int (toldAt B n).1.day, .int (toldAt B n).1.hour, .int (n : Int)]
def runnersN (B : Bk) (ev : Str) (g : Option Str) (pl : Nat) (k : Int) : List Nat :=
  (((List.range B.told.length).filter fun n => countsB B (toldAt B n).1 ev g pl).filter fun n => decide (wordAt B n k = "good")).mergeSort (dataLe false (runKey B))
theorem told_lt {B : Bk} {n : Nat} (h : n < B.told.length) : B.told[n]? = some (toldAt B n) := by
  unfold toldAt
  rw [List.getD_eq_getElem?_getD, List.getElem?_eq_getElem h]
  rfl
section
variable {P : Program} {w : World} {K : PySem.W.Frag} {mg : Str → Option Value} {base : Heap} {H H0 H' : Hp} {a p : Addr} {A : Ad} {B B' : Bk}
/-- time() within a sort: no table is touched -/
def spTimeX (K : PySem.W.Frag) : Sp := fun vs H Q _ => ∃ a r, vs = [.ref a] ∧ DeedAt K H a r ∧ ∀ p H', BbS.Ext H H' → H' p = some (.tup [.int r.day, .int r.hour]) → Q (.ref p) H'
theorem fn_timeX (S : Say K mg) : Fn P w K mg base dDeed_time 1 ["self"] (spTimeX K) := by
  refine fn_ok S.f_Deed_time sc_Deed_time (fun vs H Q E h => by obtain ⟨_, _, rfl, _⟩ := h; rfl) fun cdv A outer s H vs Q E hr h => ⟨_, (tm_Deed_time S _ cdv A outer s H E hr).2, ?_⟩
  obtain ⟨a, r, rfl, ⟨dx, hd⟩, q⟩ := h
  dsimp only [tm_Deed_time]
  exact ⟨_, rfl, a, _, dx, _, _, rfl, hd, S.c_Deed, S.n_Deed_day, rfl, _, rfl, a, _, dx, _, _, rfl, hd, S.c_Deed, S.n_Deed_hour, rfl, by show 2 ≤ sizeLine; decide, fun p hp => q p _ (fun b o h => by rw [upd_ne (ne_of_none h hp)]; exact h) upd_same⟩
def p_runners (K : PySem.W.Frag) : List V → Hp → (V → Hp → Prop) → Prop := fun vs H Φ => ∃ a B b ev g pl k, vs = [.ref a, .ref b, .int k] ∧ BookAt K H a B ∧ BkOk B ∧ Tabs (TTk K) H ∧ H b = some (.tup [.str ev, optV g, .int ((pl : Nat) : Int)]) ∧ Φ = NLst H ((runnersN B ev g pl k).map fun n : Nat => V.int (n : Int))
theorem fn_runners (S : Say K mg) (TB : TabB base mg (cC K "papers_by") (cP K "papers_by")) (TB2 : TabB base mg (cC K "runners") (cP K "runners")) (hd : cP K "papers_by" ≠ cP K "runners") : Fn P w K mg base dBook_runners 6 ["self", "best", "known"] (spO (TTk K) (p_runners K)) := by
  obtain ⟨_, F1, O1⟩ := fn_timeX (P := P) (w := w) (base := base) S
  obtain ⟨_, F2, O2⟩ := fn_word_of (P := P) (w := w) (base := base) S TB hd
  obtain ⟨_, F3, O3⟩ := fn_counts (T := TTk K) (P := P) (w := w) (base := base) S
  refine fn_c rfl S.f_Book_runners sc_Book_runners (fun vs H Q E ⟨Φ, H0, _, h, _⟩ => by obtain ⟨_, _, _, _, _, _, _, rfl, _⟩ := h; rfl) fun cdv A outer s H vs Q E hc hr ⟨Φ, H0, e, h, q⟩ => ⟨_, (tm_Book_runners S F1 O1 F2 O2 F3 O3 _ cdv A outer s H E hr TB2 hc hd).2, ?_⟩
  obtain ⟨a, B, b, ev, g, pl, k, rfl, ⟨A, hA, pt⟩, ok, htb, hb, rfl⟩ := h
  obtain ⟨Z, z1, z2, z3⟩ := pt.to
  have zl : Z.length = B.told.length := by rw [← z1, List.length_map]
  have tl := ok.told
  dsimp only [tm_Book_runners]
  refine q_asgO (T := TTk K) (.mono (lc_rng (n := B.told.length) (f := fun n => countsB B (toldAt B n).1 ev g pl) (ev := fun n : Nat => V.int (n : Int)) (ea1 (.is (ev_cb (ea1 (ev_f rfl hA S.c_Book S.n_Book_told rfl)) (rc_lenT (st_of z2))) (by rw [List.length_map, zl]))) (by omega) (fun _ => rfl) (fun n hn H1 e1 => ?_) fun n hn _ H1 e1 => ev_var rfl) e) fun v H1 e1 hv => ?_
  · exact et_b (ev_meth (ev_var rfl) (e1.ins hA) rfl (ea2 (ev_var rfl) (ev_var rfl)) (gv ⟨a, B, n, b, ev, g, pl, _, rfl, ⟨A, e1.ins hA, pt.mono e1⟩, ok, told_lt hn, e1.tup hb, rfl⟩))
  obtain ⟨l1, rfl, _, hl1⟩ := hv
  have g1 := e.trans e1
  refine q_asgO (T := TTk K) (lc_list (L := (List.range B.told.length).filter fun n => countsB B (toldAt B n).1 ev g pl) (iv := fun n : Nat => V.int (n : Int)) (f := fun n => decide (wordAt B n k = "good")) (ev := fun n : Nat => V.int (n : Int)) (ev_var rfl) (sl_of hl1) (Nat.le_trans (List.length_filter_le _ _) (by rw [List.length_range]; omega)) (fun _ => rfl) (fun n hn H2 e2 => ?_) fun n hn _ H2 e2 => ev_var rfl) fun v H2 e2 hv => ?_
  · have hn' : n < B.told.length := List.mem_range.mp (List.mem_filter.mp hn).1
    exact .is (et_test (ev_op (ev_meth (ev_var rfl) ((g1.trans e2).ins hA) rfl (ea2 (ev_var rfl) (ev_var rfl)) (gv ⟨a, B, n, k, _, rfl, ⟨A, (g1.trans e2).ins hA, pt.mono (g1.trans e2)⟩, ok, (g1.trans e2).2 htb, told_lt hn', rfl⟩)) ev_c (rv_eq rfl))) (decide_eq_decide.mpr ⟨fun z => by injection z, fun z => by rw [← z]; rfl⟩)
  obtain ⟨l2, rfl, _, hl2⟩ := hv
  have g2 := g1.trans e2
  have lt : ∀ n ∈ ((List.range B.told.length).filter fun n => countsB B (toldAt B n).1 ev g pl).filter fun n => decide (wordAt B n k = "good"), n < B.told.length := fun n hn => List.mem_range.mp (List.mem_filter.mp (List.mem_filter.mp hn).1).1
  refine s_ro (H0 := H2) ((eo_sortLam (K := K) (key := runKey B) (ev_var rfl) (g2.2 htb) hl2 ?_ ?_ ?_ ?_).imp fun v H3 e3 hv => ?_) (.refl H2) (q.mono (e1.trans e2))
  · intro d hd d' hd'
    obtain ⟨x, _, rfl⟩ := List.mem_map.mp hd
    obtain ⟨y, _, rfl⟩ := List.mem_map.mp hd'
    rfl
  · refine .inl fun d hd => ?_
    obtain ⟨x, _, rfl⟩ := List.mem_map.mp hd
    exact ⟨_, _, rfl⟩
  · intro x _
    show 1 ≤ 8
    decide
  · intro n hn H3 e3
    obtain ⟨z, hz, mz, er, ek⟩ := told_at z1 (told_lt (lt n hn))
    have g3 := g2.trans e3
    have hi := g3.ins hA
    obtain ⟨dd, hdd⟩ := ((z3 z mz).2).mono g3
    refine ⟨_, rfl, a, _, _, _, _, rfl, hi, S.c_Book, S.n_Book_told, rfl, _, rfl, A.to, _, _, .ref z.t, rfl, rfl, st_of (g3.tup z2), atI_nat' (by rw [List.getElem?_map, hz]; rfl), z.t, _, _, .ref z.d, rfl, rfl, st_of (g3.tup (z3 z mz).1), rfl, z.d, dd, _, rfl, hdd, rfl, z.d, z.r, rfl, ⟨dd, hdd⟩, fun p H4 e4 hp => ?_⟩
    refine ⟨_, rfl, by show 1 ≤ sizeLine; decide, fun p2 hp2 => ?_⟩
    have kp : ∀ b o, H4 b = some o → upd H4 p2 (.tup [.int (n : Int)]) b = some o := fun b o h => by rw [upd_ne (ne_of_none h hp2)]; exact h
    refine ⟨p, p2, _, _, rfl, rfl, st_of (kp _ _ hp), st_of upd_same, by show 3 ≤ sizeLine; decide, fun z => (by cases z), fun _ z => (by cases z), fun _ _ p3 hp3 => ⟨fun b o h => ?_, ?_⟩⟩
    · have h1 := kp _ _ (e4 _ _ h)
      rw [upd_ne (ne_of_none h1 hp3)]
      exact h1
    · unfold runKey
      rw [← er]
      exact .tup (st_of upd_same) (.cons (.int _) (.cons (.int _) (.cons (.int _) .nil)))
  · obtain ⟨l3, rfl, nw, hl3⟩ := hv
    exact ⟨l3, rfl, nw.back g2, hl3⟩
end
end Bb
/-! ## part Rd8 -/
namespace Bb
open PySem PySem.Spec PyProof.Rows L2 LamX BbS NdefX PySem.W
/-- a stint -/
structure Stt (α : Type) where
  lab : α
  name : Str
  mark : Int
  time : Int × Int
  brk : Option (Int × Int)
structure Wk (α : Type) where
  rows : List (Stt α)
  held : List Nat
def markAt {α : Type} (rs : List (Stt α)) (i : Nat) : Int := ((rs[i]?).map Stt.mark).getD 0
def beatsB (i j : Int) (z : Str) : Bool := if z = ("less" : Str) then decide (i < j) else decide (j < i)
def joinsB {α : Type} (shares : Bool) (r : Rw) (hs : List (Stt α)) : Bool :=
  !((!shares) || !decide (r.mark = markAt hs 0)) && !inV (.str r.name) (hs.map fun q => .str q.name)
def brkAt {α : Type} (t : Int × Int) (rs : List (Stt α)) (i : Nat) : List (Stt α) := rs.modify i fun q => { q with brk := some t }
def newStt {α : Type} (x : α × Rw) : Stt α := ⟨x.1, x.2.name, x.2.mark, (x.2.day, x.2.hour), none⟩
def picks {α : Type} (s : Wk α) : List (Stt α) := s.held.filterMap fun i => s.rows[i]?
def wstep {α : Type} (way : Str) (shares : Bool) (s : Wk α) (x : α × Rw) : Wk α :=
  if s.held.isEmpty || beatsB x.2.mark (markAt s.rows (s.held.headD 0)) way then ⟨s.held.foldl (brkAt (x.2.day, x.2.hour)) s.rows ++ [newStt x], [s.rows.length]⟩
  else if joinsB shares x.2 (picks s) then ⟨s.rows ++ [newStt x], s.held ++ [s.rows.length]⟩ else s
def BrkAt (H : Hp) (v : V) : Option (Int × Int) → Prop
  | none => v = .non
  | some t => ∃ b, v = .ref b ∧ H b = some (.tup [.int t.1, .int t.2])
def SttAt (H : Hp) (p : Addr) (s : Stt Nat) : Prop := ∃ tm bv, H p = some (.tup [.int (s.lab : Int), .str s.name, .int s.mark, .ref tm, bv]) ∧ H tm = some (.tup [.int s.time.1, .int s.time.2]) ∧ BrkAt H bv s.brk
section
variable {T : TT0} {P : Program} {w : World} {K : PySem.W.Frag} {mg : Str → Option Value} {base : Heap} {H H0 H' : Hp} {a p : Addr} {A : Ad} {B B' : Bk} {s : Stt Nat}
theorem SttAt.kt (h : SttAt H p s) (kt : ∀ b xs, H b = some (.tup xs) → H' b = some (.tup xs)) : SttAt H' p s := by
  obtain ⟨tm, bv, h1, h2, h3⟩ := h
  refine ⟨tm, bv, kt _ _ h1, kt _ _ h2, ?_⟩
  cases e : s.brk with
  | none =>
    rw [e] at h3
    exact h3
  | some t =>
    rw [e] at h3
    obtain ⟨b, e1, e2⟩ := h3
    exact ⟨b, e1, kt _ _ e2⟩
theorem SttAt.mono (h : SttAt H p s) (e : Wd T H H') : SttAt H' p s := h.kt fun _ _ h => e.tup h
def p_joins (K : PySem.W.Frag) : List V → Hp → V → Prop := fun vs H v => ∃ a B d r l, ∃ Z : List (Stt Nat × Addr), vs = [.ref a, .ref d, .ref l] ∧ BookAt K H a B ∧ DeedAt K H d r ∧ H l = some (.lst (Z.map fun q => .ref q.2)) ∧ (∀ q ∈ Z, SttAt H q.2 q.1) ∧ Z ≠ [] ∧ Z.length ≤ 1000 ∧ v = .bl (joinsB B.terms.shares r (Z.map (·.1)))
theorem fn_joins (S : Say K mg) : Fn P w K mg base dBook_joins 1 ["self", "deed", "held"] (spV T (p_joins K)) := by
  refine fn_v S.f_Book_joins sc_Book_joins (fun vs H v h => by obtain ⟨_, _, _, _, _, _, rfl, _⟩ := h; rfl) fun cdv A outer s H vs E hr => ⟨_, (tm_Book_joins S _ cdv A outer s H E hr).2, fun v H0 Q e h q => ?_⟩
  obtain ⟨a, B, d, r, l, Z, rfl, ⟨A, hA, pt⟩, ⟨dd, hdd⟩, hl, hz, hne, hlen, rfl⟩ := h
  obtain ⟨dr, lr, hr1, hr2⟩ := pt.ru
  cases Z with
  | nil => exact absurd rfl hne
  | cons z Z =>
    obtain ⟨tm, bv, t1, t2, t3⟩ := hz z List.mem_cons_self
    dsimp only [tm_Book_joins]
    refine q_if (T := T) (b := (!B.terms.shares) || !decide (r.mark = markAt ((z :: Z).map (·.1)) 0)) (.mono (et_or (et_not (et_b (ev_fld (ev_f rfl hA S.c_Book S.n_Book_rules rfl) hr1 S.c_Rules S.n_Rules_shares rfl))) fun _ => .is (et_test (ev_op (ev_f rfl hdd S.c_Deed S.n_Deed_mark rfl) (ev_op (ev_op (ev_var rfl) ev_c (rv_ixl (v := .ref z.2) (sl_of hl) (atI_nat' (n := 0) rfl))) ev_c (rv_ixt (v := .int z.1.mark) (st_of t1) rfl)) (rv_ne rfl))) (congrArg not (decide_eq_decide.mpr ⟨fun z => by injection z, fun z => by rw [z]; rfl⟩))) e) (fun hb H1 e1 => ?_) fun hb H1 e1 => ?_
    · exact s_rv (ev_c : Ev T _ _ H1 _) (.refl H1) (q.mono e1) (by rw [joinsB, hb]; rfl)
    · have g1 := e.trans e1
      refine s_rv (T := T) (x := .bl (!inV (.str r.name) (((z :: Z).map (·.1)).map fun q => .str q.name))) (ev_op2 (Φ := fun v _ => v = .str r.name) (Ev.eo (ev_f rfl (g1.ins hdd) S.c_Deed S.n_Deed_name rfl)) fun x H2 e2 hx => (lc_list (L := z :: Z) (iv := fun q => .ref q.2) (f := fun _ => true) (ev := fun q => .str q.1.name) (ev_var rfl) (sl_of ((g1.trans e2).lst hl)) (by omega) (fun _ => rfl) (fun _ _ _ _ => et_yes) fun y hy _ H3 e3 => ?_).imp fun y H3 e3 hy => ?_) (.refl H1) (q.mono e1) (by rw [joinsB, hb]; simp)
      · obtain ⟨_, _, u1, _⟩ := hz y hy
        exact ev_op (ev_var rfl) ev_c (rv_ixt (st_of (((g1.trans e2).trans e3).tup u1)) rfl)
      · subst hx
        obtain ⟨p, rfl, _, hp⟩ := hy
        have e4 : ((z :: Z).filter fun _ => true).map (fun q => V.str q.1.name) = ((z :: Z).map (·.1)).map fun q => V.str q.name := by rw [List.filter_eq_self.mpr (fun _ _ => rfl), List.map_map]; rfl
        rw [e4] at hp
        refine (rv_inL (neg := true) (sl_of hp) rfl ?_)
        simp [flatV, Function.comp]
/-! ### the walk -/
/-- the walk's lists as they lie -/
structure WkAt (G H' : Hp) (lr lh db : Addr) (s : Wk Nat) (n : Nat) : Prop where
  nr : New G lr
  nh : New G lh
  nd : New G db
  ne : lr ≠ lh
  rows : ∃ Z : List (Stt Nat × Addr), Z.map (·.1) = s.rows ∧ H' lr = some (.lst (Z.map fun q => .ref q.2)) ∧ ∀ q ∈ Z, SttAt H' q.2 q.1
  held : H' lh = some (.lst (s.held.map fun i : Nat => V.int (i : Int)))
  be : ∃ kvs : List (Key × V), H' db = some (.dK kvs) ∧ kvs.length ≤ n
  lt : ∀ j ∈ s.held, j < s.rows.length
  ln : s.rows.length ≤ n
  hn : s.held.length ≤ n
theorem WkAt.mono {G H1 H2 : Hp} {lr lh db : Addr} {s : Wk Nat} {n : Nat} (h : WkAt G H1 lr lh db s n) (e : Wd T H1 H2) : WkAt G H2 lr lh db s n := by
  obtain ⟨h1, h2, h3, h4, ⟨Z, z1, z2, z3⟩, h5, ⟨kvs, k1, k2⟩, h6, h7, h8⟩ := h
  exact ⟨h1, h2, h3, h4, ⟨Z, z1, e.lst z2, fun q hq => (z3 q hq).mono e⟩, e.lst h5, ⟨kvs, e.dK k1, k2⟩, h6, h7, h8⟩
theorem dpAll_ints {H : Hp} : ∀ ns : List Nat, DpAll K H (ns.map fun i : Nat => V.int (i : Int)) (ns.map fun i : Nat => PyData.int (i : Int))
  | [] => .nil
  | n :: ns => .cons (.int _) (dpAll_ints ns)
theorem lay_ints : ∀ ns : List Nat, PyData.canLayAll0 (ns.map fun i : Nat => PyData.int (i : Int)) = true ∧ PyData.depthAll (ns.map fun i : Nat => PyData.int (i : Int)) = 0
  | [] => ⟨rfl, rfl⟩
  | n :: ns => by
    obtain ⟨h1, h2⟩ := lay_ints ns
    rw [List.map_cons]
    constructor
    · simp [PyData.canLayAll0, PyData.canLay0, h1]
    · simp [PyData.depthAll, PyData.depth, h2]
theorem shaped_ints (ns : List Nat) : SeqAt.shaped (.list (ns.map fun i : Nat => PyData.int (i : Int))) = true := by
  unfold SeqAt.shaped
  simp [PyData.canLay0, PyData.depth, (lay_ints ns).1, (lay_ints ns).2]
theorem tup_upd {H1 : Hp} {l : Addr} {o o' : HO} (hl : H1 l = some o) (hn : ∀ xs, o ≠ .tup xs) : ∀ b xs, H1 b = some (.tup xs) → upd H1 l o' b = some (.tup xs) := fun b xs h => by
  rw [upd_ne (ne_of h hl (fun z => hn _ z.symm))]
  exact h
theorem Stt_rows {lr : Addr} {Z : List (Stt Nat × Addr)} {rs : List (Stt Nat)} (z1 : Z.map (·.1) = rs) {i : Nat} (h : i < rs.length) : ∃ q, Z[i]? = some q ∧ q ∈ Z ∧ rs[i]? = some q.1 := by
  have hl : i < Z.length := by rw [← z1, List.length_map] at h; exact h
  exact ⟨Z[i], List.getElem?_eq_getElem hl, List.getElem_mem hl, by rw [← z1, List.getElem?_map, List.getElem?_eq_getElem hl]; rfl⟩
/-- the slots in the walk's loop -/
abbrev wσ (a b : Addr) (k : Int) (way : Str) (lr lh db : Addr) (u7 u8 u9 : Option V) : L2.St := [some (.ref a), some (.ref b), some (.int k), some (.str way), some (.ref lr), some (.ref lh), some (.ref db), u7, u8, u9]
/-- held.append(len(rows)); rows.append(..) -/
theorem w_app (S : Say K mg) {G : Hp} {a b : Addr} {k : Int} {way : Str} {lr lh db d dd : Addr} {u9 : Option V} {s : Wk Nat} {n : Nat} {r : Rw} {num : Nat} {D : Ends} (wd : Wd T G H') (h : WkAt G H' lr lh db s n) (hd : G d = some (.ins (cDeed K) dd (rowF r))) (hn : n < 1000)
    (q : ∀ H'', Wd T G H'' → (∀ b o, H' b = some o → b ≠ lr → b ≠ lh → b ≠ db → Nt o → H'' b = some o) → WkAt G H'' lr lh db ⟨s.rows ++ [newStt (num, r)], s.held ++ [s.rows.length]⟩ (n + 1) → D.nx (wσ a b k way lr lh db (some (.int (num : Int))) (some (.ref d)) u9) H'') :
    tSeq (tDrop (tBM K "list" rAppend (tVar 5) (tCons (tCB (fun xs H Q => ∃ p ys, xs = [V.ref p] ∧ (SqL K H p ys ∨ SqT K H p ys) ∧ Q (.int ys.length) H) (tCons (tVar 4) tNil)) tNil)))
      (tDrop (tBM K "list" rAppend (tVar 4) (tCons (tTup (tCons (tVar 7) (tCons (tFld K (tVar 8) "name") (tCons (tFld K (tVar 8) "mark") (tCons (tMeth (cDeed K) "time" (spO T (p_Deed_time K)) [] E0 (tVar 8) tNil) (tCons (tC .non) tNil)))))) tNil))) D
      (wσ a b k way lr lh db (some (.int (num : Int))) (some (.ref d)) u9) H' := by
  obtain ⟨h1, h2, h3, h4, ⟨Z, z1, z2, z3⟩, h5, ⟨kvs, k1, k2⟩, h6, h7, h8⟩ := h
  have zl : Z.length = s.rows.length := by rw [← z1, List.length_map]
  refine q_ (s_app (T := T) (Φ := fun v _ => v = .int (s.rows.length : Int)) h5 (ev_var rfl) (Ev.eo (.is (ev_cb (ea1 (ev_var rfl)) (rc_lenL (sl_of z2))) (by rw [List.length_map, zl]))) (by rw [List.length_map]; omega) fun v H2 e2 hv => ?_)
  subst hv
  have hl2 := e2.lst h5
  have w2 : Wd T G (upd H2 lh (.lst ((s.held.map fun i : Nat => V.int (i : Int)) ++ [.int (s.rows.length : Int)]))) := (wd.trans e2).mut h2 hl2 trivial
  have hr2 : upd H2 lh (.lst ((s.held.map fun i : Nat => V.int (i : Int)) ++ [.int (s.rows.length : Int)])) lr = some (.lst (Z.map fun q => .ref q.2)) := by
    rw [upd_ne h4]
    exact e2.lst z2
  have hd2 := w2.ins hd
  refine s_app (T := T) (Φ := fun v H'' => ∃ p, v = .ref p ∧ SttAt H'' p (newStt (num, r))) hr2 (ev_var rfl) ((eo_tupA (Ψ := fun us H'' => ∃ tm, us = [.int (num : Int), .str r.name, .int r.mark, .ref tm, .non] ∧ H'' tm = some (.tup [.int r.day, .int r.hour])) (eao_cons (Ev.eo (ev_var rfl)) fun x1 G1 f1 hx1 => eao_cons (Ev.eo (ev_f rfl (f1.ins hd2) S.c_Deed S.n_Deed_name rfl)) fun x2 G2 f2 hx2 => eao_cons (Ev.eo (ev_f rfl ((f1.trans f2).ins hd2) S.c_Deed S.n_Deed_mark rfl)) fun x3 G3 f3 hx3 =>
    eao_cons (eo_meth (ev_var rfl) (((f1.trans f2).trans f3).ins hd2) rfl ea_nil (gvO ⟨d, r, rfl, ⟨dd, ((f1.trans f2).trans f3).ins hd2⟩, rfl⟩)) fun x4 G4 f4 hx4 => (ea1 ev_c).eo.imp fun us G5 f5 hu => ?_) fun us H'' hu => ?_).imp fun v H'' e' hv => ?_) (by rw [List.length_map]; omega) fun v H3 e3 hv => ?_
  · subst hx1 hx2 hx3 hu
    obtain ⟨tm, rfl, _, htm⟩ := hx4
    exact ⟨tm, rfl, f5.tup htm⟩
  · obtain ⟨tm, rfl, _⟩ := hu
    simp
  · obtain ⟨us, p, H4, rfl, _, hp, ew, tm, rfl, htm⟩ := hv
    exact ⟨p, rfl, tm, .non, hp, ew.tup htm, rfl⟩
  · obtain ⟨p, rfl, hp⟩ := hv
    have hr3 := e3.lst hr2
    have w3 : Wd T G (upd H3 lr (.lst ((Z.map fun q => V.ref q.2) ++ [.ref p]))) := (w2.trans e3).mut h1 hr3 trivial
    have kt : ∀ b xs, H3 b = some (.tup xs) → upd H3 lr (.lst ((Z.map fun q => V.ref q.2) ++ [.ref p])) b = some (.tup xs) := tup_upd hr3 fun _ z => (by cases z)
    have kt2 : ∀ b xs, H2 b = some (.tup xs) → upd H2 lh (.lst ((s.held.map fun i : Nat => V.int (i : Int)) ++ [.int (s.rows.length : Int)])) b = some (.tup xs) := tup_upd hl2 fun _ z => (by cases z)
    refine q _ w3 (fun b o hb n1 n2 n3 nt => ?_) ⟨h1, h2, h3, h4, ⟨Z ++ [(newStt (num, r), p)], ?_, ?_, fun q hq => ?_⟩, ?_, ⟨kvs, ?_, by omega⟩, fun j hj => ?_, ?_, ?_⟩
    · rw [upd_ne n1]
      exact e3.get (by rw [upd_ne n2]; exact e2.get hb nt) nt
    · rw [List.map_append, z1]
      rfl
    · rw [upd_same, List.map_append]
      rfl
    · rcases List.mem_append.mp hq with hq | hq
      · exact ((((z3 q hq).mono e2).kt kt2).mono e3).kt kt
      · rw [List.mem_singleton.mp hq]
        exact hp.kt kt
    · rw [upd_ne h4.symm, List.map_append]
      exact e3.lst upd_same
    · have db1 : upd H2 lh (.lst ((s.held.map fun i : Nat => V.int (i : Int)) ++ [.int (s.rows.length : Int)])) db = some (.dK kvs) := by
        rw [upd_ne (ne_of (e2.dK k1) hl2 (by intro z; cases z))]
        exact e2.dK k1
      rw [upd_ne (ne_of (e3.dK db1) hr3 (by intro z; cases z))]
      exact e3.dK db1
    · rw [List.length_append, List.length_singleton]
      rcases List.mem_append.mp hj with hj | hj
      · have := h6 j hj
        omega
      · rw [List.mem_singleton.mp hj]
        omega
    · rw [List.length_append, List.length_singleton]
      omega
    · rw [List.length_append, List.length_singleton]
      omega
end
end Bb
/-! ## part Rd9 -/
namespace Bb
open PySem PySem.Spec PyProof.Rows L2 LamX BbS NdefX PySem.W
theorem modify_set {α : Type} {f : α → α} : ∀ {l : List α} {i : Nat} {x : α}, l[i]? = some x → l.modify i f = l.set i (f x)
  | [], i, x, h => by simp at h
  | a :: l, 0, x, h => by
    have e : a = x := Option.some.inj h
    subst e
    rfl
  | a :: l, i + 1, x, h => by
    have := modify_set (f := f) (l := l) (i := i) (x := x) h
    simp [List.modify_succ_cons, this]
theorem brk_len {α : Type} (t : Int × Int) : ∀ (hs : List Nat) (rs : List (Stt α)), (hs.foldl (brkAt t) rs).length = rs.length
  | [], _ => rfl
  | h :: hs, rs => by
    rw [List.foldl_cons, brk_len t hs]
    exact List.length_modify _ _ _
theorem ixN_nat {n i : Nat} (h : i < n) : ixN n (i : Int) = some i := by
  unfold ixN
  rw [if_pos (by omega), if_pos (by omega), Int.toNat_natCast]
section
variable {T : TT0} {P : Program} {w : World} {K : PySem.W.Frag} {mg : Str → Option Value} {base : Heap} {H H0 H' : Hp} {a p : Addr} {A : Ad} {B B' : Bk}
/-- for at in held: rows[at] = rows[at][:4] + (deed.time(),); held = [] -/
theorem w_brk (S : Say K mg) {G : Hp} {a b : Addr} {k : Int} {way : Str} {lr lh db d dd : Addr} {u9 : Option V} {s : Wk Nat} {n : Nat} {r : Rw} {num : Nat} {D : Ends} (wd : Wd T G H') (h : WkAt G H' lr lh db s n) (hd : G d = some (.ins (cDeed K) dd (rowF r))) (hn : n < 1000)
    (q : ∀ H'' lh' u9, Wd T G H'' → (∀ b o, H' b = some o → b ≠ lr → Nt o → H'' b = some o) → WkAt G H'' lr lh' db ⟨s.held.foldl (brkAt (r.day, r.hour)) s.rows, []⟩ n → New H' lh' → D.nx (wσ a b k way lr lh' db (some (.int (num : Int))) (some (.ref d)) u9) H'') :
    tSeq (tFor (iList K (tVar 5)) (gName 9) (tAsg (tOp (rCatA K) (tSl (rSlA K) (tOp (rIxL K) (tVar 4) (tVar 9)) tNoPart (tPart (tC (.int 4)))) (tTup (tCons (tMeth (cDeed K) "time" (spO T (p_Deed_time K)) [] E0 (tVar 8) tNil) tNil))) (gSub (tVar 4) (tVar 9) L2.rSetL)))
      (tAsg (tLst tNil) (gName 5)) D (wσ a b k way lr lh db (some (.int (num : Int))) (some (.ref d)) u9) H' := by
  obtain ⟨h1, h2, h3, h4, ⟨Z, z1, z2, z3⟩, h5, ⟨kvs, k1, k2⟩, h6, h7, h8⟩ := h
  have zl : Z.length = s.rows.length := by rw [← z1, List.length_map]
  refine q_forG (T := T) (Ev.eo (ev_var rfl)) fun v H1 e1 hv => ⟨lh, s.held.map fun i : Nat => V.int (i : Int), hv, fun j σ H'' => (∃ u9, σ = wσ a b k way lr lh db (some (.int (num : Int))) (some (.ref d)) u9) ∧ Wd T G H'' ∧ (∀ b o, H' b = some o → b ≠ lr → Nt o → H'' b = some o) ∧
    ∃ Z : List (Stt Nat × Addr), Z.map (·.1) = (s.held.take j).foldl (brkAt (r.day, r.hour)) s.rows ∧ H'' lr = some (.lst (Z.map fun q => .ref q.2)) ∧ ∀ q ∈ Z, SttAt H'' q.2 q.1, ?_, ?_, ?_, ?_⟩
  · exact ⟨⟨_, rfl⟩, wd.trans e1, fun b o hb _ nt => e1.get hb nt, Z, z1, e1.lst z2, fun q hq => (z3 q hq).mono e1⟩
  · intro j σ H'' ⟨_, _, fr, _⟩
    exact sl_of (fr _ _ h5 h4.symm nt_lst)
  · intro j x σ H'' hx ⟨⟨u, es⟩, w1, fr, Z1, y1, y2, y3⟩
    obtain ⟨i, hi, rfl⟩ := map_at hx
    subst es
    have hir : i < s.rows.length := h6 i (List.mem_of_getElem? hi)
    have hl1 : ((s.held.take j).foldl (brkAt (r.day, r.hour)) s.rows).length = s.rows.length := brk_len _ _ _
    obtain ⟨qz, q1, q2, q3⟩ := Stt_rows (lr := lr) y1 (by rw [hl1]; exact hir)
    have zl1 : Z1.length = s.rows.length := by rw [← hl1, ← y1, List.length_map]
    obtain ⟨tm, bv, t1, t2, t3⟩ := y3 qz q2
    have hd1 := w1.ins hd
    refine s_asgG (T := T) (Φ := fun v H3 => ∃ p t, v = .ref p ∧ H3 p = some (.tup [.int (qz.1.lab : Int), .str qz.1.name, .int qz.1.mark, .ref tm, .ref t]) ∧ H3 t = some (.tup [.int r.day, .int r.hour])) (eo_op2 (eo_slM (lo := none) (hi := some 4) (ev_op (ev_var rfl) (ev_var rfl) (rv_ixl (v := .ref qz.2) (sl_of y2) (atI_nat' (by rw [List.getElem?_map, q1]; rfl)))) ep_none (ep_some ev_c) t1) fun x H2 e2 hx => (eo_tupA (Ψ := fun us H3 => ∃ t, us = [.ref t] ∧ H3 t = some (.tup [.int r.day, .int r.hour])) (eao_cons (eo_meth (ev_var rfl) (e2.ins hd1) rfl ea_nil (gvO ⟨d, r, rfl, ⟨dd, e2.ins hd1⟩, rfl⟩)) fun y H3 e3 hy => eao_nil.imp fun us H4 e4 hu => ?_) fun us H4 hu => ?_).imp fun y H3 e3 hy => ?_) fun v H2 e2 hv => ?_
    · subst hu
      obtain ⟨t, rfl, _, ht⟩ := hy
      exact ⟨t, rfl, e4.tup ht⟩
    · obtain ⟨t, rfl, _⟩ := hu
      simp
    · obtain ⟨p1, rfl, hp1⟩ := hx
      obtain ⟨us, p2, H4, rfl, _, hp2, ew, t, rfl, ht⟩ := hy
      exact fun H5 e5 Q q => rvo_cat (e3.tup hp1) hp2 (by show 4 + 1 ≤ 1000000; decide) H5 e5 Q fun v H6 e6 hv => by
        obtain ⟨p, rfl, hp⟩ := hv
        exact q _ H6 e6 ⟨p, t, rfl, hp, ((ew.trans e5).trans e6).tup ht⟩
    · obtain ⟨p, t, rfl, hp, ht⟩ := hv
      have hr2 := e2.lst y2
      refine ⟨_, rfl, _, rfl, lr, _, (i : Int), i, rfl, rfl, hr2, ixN_nat (by rw [List.length_map, zl1]; exact hir), ⟨_, rfl⟩, (w1.trans e2).mut h1 hr2 trivial, fun b o hb n1 nt => ?_, Z1.set i ({ qz.1 with brk := some (r.day, r.hour) }, p), ?_, ?_, fun q hq => ?_⟩
      · rw [upd_ne n1]
        exact e2.get (fr b o hb n1 nt) nt
      · rw [List.take_add_one, hi, Option.toList_some, List.foldl_append, List.foldl_cons, List.foldl_nil, ← y1]
        rw [List.map_set]
        unfold brkAt
        rw [modify_set (by rw [y1]; exact q3)]
      · rw [upd_same, List.map_set]
      · have kt : ∀ b xs, H2 b = some (.tup xs) → upd H2 lr (.lst ((Z1.map fun q => V.ref q.2).set i (.ref p))) b = some (.tup xs) := tup_upd hr2 fun _ z => (by cases z)
        rcases List.mem_or_eq_of_mem_set hq with hq | rfl
        · exact ((y3 q hq).mono e2).kt kt
        · exact ⟨tm, .ref t, kt _ _ hp, kt _ _ (e2.tup t2), t, rfl, kt _ _ ht⟩
  · intro σ H'' ⟨⟨u, es⟩, w1, fr, Z1, y1, y2, y3⟩
    subst es
    rw [List.length_map, List.take_length] at y1
    refine s_asgO (T := T) (eo_lst ea_nil (by simp)) fun v H2 e2 hv => ?_
    obtain ⟨lh', rfl, nl, hl'⟩ := hv
    refine q H2 lh' u (w1.trans e2) (fun b o hb n1 nt => e2.get (fr b o hb n1 nt) nt) ⟨h1, nl.back w1, h3, (nl.ne y2 nt_lst), ⟨Z1, y1, e2.lst y2, fun q hq => (y3 q hq).mono e2⟩, hl', ⟨kvs, e2.dK (fr _ _ k1 (ne_of k1 z2 (by intro z; cases z)) nt_dK), k2⟩, (fun _ h => by cases h), by rw [brk_len]; exact h7, Nat.zero_le _⟩ ?_
    intro o ho nt
    by_cases hb : lh' = lr
    · exact nl _ (hb ▸ y2) nt_lst
    · exact nl o (fr _ _ ho hb nt) nt
def walkP (B : Bk) (ev : Str) (g : Option Str) (pl : Nat) (k : Int) : Wk Nat := ((runnersN B ev g pl k).map fun n => (n, (toldAt B n).1)).foldl (wstep (evOf B.events ev).2.1 B.terms.shares) ⟨[], []⟩
theorem fm_map {β : Type} {Z : List β} {f : β → V} : ∀ {hs : List Nat}, (∀ j ∈ hs, j < Z.length) → (hs.filterMap fun i => Z[i]?).map f = hs.map fun i => ((Z[i]?).map f).getD .non
  | [], _ => rfl
  | i :: r, h => by
    have hi := h i List.mem_cons_self
    have ih := fm_map (Z := Z) (f := f) (hs := r) fun j hj => h j (List.mem_cons_of_mem _ hj)
    rw [List.filterMap_cons, List.getElem?_eq_getElem hi, List.map_cons, List.map_cons, ih, List.getElem?_eq_getElem hi]
    rfl
theorem picks_pos {β : Type} {Z : List β} {hs : List Nat} (h : hs ≠ []) (lt : ∀ j ∈ hs, j < Z.length) : (hs.filterMap fun i => Z[i]?) ≠ [] := by
  cases hs with
  | nil => exact absurd rfl h
  | cons i r =>
    rw [List.filterMap_cons, List.getElem?_eq_getElem (lt i List.mem_cons_self)]
    exact fun z => by cases z
theorem fm_picks {Z : List (Stt Nat × Addr)} {s : Wk Nat} (z1 : Z.map (·.1) = s.rows) : (s.held.filterMap fun i => Z[i]?).map (·.1) = picks s := by
  unfold picks
  rw [List.map_filterMap, ← z1]
  congr 1
  funext i
  rw [List.getElem?_map]
theorem runners_lt {B : Bk} {ev : Str} {g : Option Str} {pl : Nat} {k : Int} {n : Nat} (h : n ∈ runnersN B ev g pl k) : n < B.told.length :=
  List.mem_range.mp (List.mem_filter.mp (List.mem_filter.mp (List.mem_mergeSort.mp h)).1).1
theorem runners_len (B : Bk) (ev : Str) (g : Option Str) (pl : Nat) (k : Int) : (runnersN B ev g pl k).length ≤ B.told.length := by
  unfold runnersN
  rw [List.length_mergeSort]
  refine Nat.le_trans (List.length_filter_le _ _) (Nat.le_trans (List.length_filter_le _ _) ?_)
  rw [List.length_range]
  exact Nat.le_refl _
def p_walk (K : PySem.W.Frag) : List V → Hp → (V → Hp → Prop) → Prop := fun vs H Φ => ∃ a B b ev g pl k, vs = [.ref a, .ref b, .int k] ∧ BookAt K H a B ∧ BkOk B ∧ BestOk B ev g pl ∧ Tabs (TTk K) H ∧ H b = some (.tup [.str ev, optV g, .int ((pl : Nat) : Int)]) ∧
  Φ = fun v H2 => ∃ p lr db, ∃ Z : List (Stt Nat × Addr), v = .ref p ∧ New H lr ∧ H2 p = some (.tup [.ref lr, .ref db]) ∧ Z.map (·.1) = (walkP B ev g pl k).rows ∧ H2 lr = some (.lst (Z.map fun q => .ref q.2)) ∧ ∀ q ∈ Z, SttAt H2 q.2 q.1
theorem fn_walk (S : Say K mg) (TB : TabB base mg (cC K "papers_by") (cP K "papers_by")) (TB2 : TabB base mg (cC K "runners") (cP K "runners")) (hd : cP K "papers_by" ≠ cP K "runners") : Fn P w K mg base dBook_walk 7 ["self", "best", "known"] (spO (TTk K) (p_walk K)) := by
  obtain ⟨_, F1, O1⟩ := fn_beats (T := TTk K) (P := P) (w := w) (base := base) S
  obtain ⟨_, F2, O2⟩ := fn_Deed_time (T := TTk K) (P := P) (w := w) (base := base) S
  obtain ⟨_, F3, O3⟩ := fn_event_of (T := TTk K) (P := P) (w := w) (base := base) S
  obtain ⟨_, F4, O4⟩ := fn_runners (P := P) (w := w) (base := base) S TB TB2 hd
  obtain ⟨_, F5, O5⟩ := fn_joins (T := TTk K) (P := P) (w := w) (base := base) S
  refine fn_o S.f_Book_walk sc_Book_walk (fun vs H v h => by obtain ⟨_, _, _, _, _, _, _, rfl, _⟩ := h; rfl) fun cdv A outer s H vs E hr => ⟨_, (tm_Book_walk S F1 O1 F2 O2 F3 O3 F4 O4 F5 O5 _ cdv A outer s H E hr).2, fun Φ H0 Q e h q => ?_⟩
  obtain ⟨a, B, b, ev, g, pl, k, rfl, ⟨A, hA, pt⟩, ok, bo, htb, hb, rfl⟩ := h
  obtain ⟨Z, z1, z2, z3⟩ := pt.to
  obtain ⟨dr, lr, hr1, hr2⟩ := pt.ru
  dsimp only [tm_Book_walk]
  refine q_asgG (T := TTk K) (Φ := fun v H1 => ∃ p lr lh db, v = .ref p ∧ H1 p = some (.tup [.str (evOf B.events ev).2.1, .ref lr, .ref lh, .ref db]) ∧ New H lr ∧ New H lh ∧ New H db ∧ lr ≠ lh ∧ H1 lr = some (.lst []) ∧ H1 lh = some (.lst []) ∧ H1 db = some (.dK [])) ((eo_tupA (Ψ := fun us H1 => ∃ lr lh db, us = [.str (evOf B.events ev).2.1, .ref lr, .ref lh, .ref db] ∧ New H lr ∧ New H lh ∧ New H db ∧ lr ≠ lh ∧ H1 lr = some (.lst []) ∧ H1 lh = some (.lst []) ∧ H1 db = some (.dK []))
    (eao_cons (Φ := fun v _ => v = .str (evOf B.events ev).2.1) (Ev.eo (.mono (ev_op2 (eo_meth (ev_var rfl) hA rfl (ea1 (ev_op (ev_var rfl) ev_c (rv_ixt (v := .str ev) (st_of hb) rfl))) (gvO ⟨a, B, ev, _, rfl, ⟨A, hA, pt⟩, bo.en, find_evOf bo.fnd, rfl⟩)) fun x H1 e1 hx => (Ev.eo ev_c).imp fun y H2 e2 hy => ?_) e)) fun x H1 e1 hx => eao_cons (eo_lst ea_nil (by simp)) fun y H2 e2 hy => eao_cons (eo_lst ea_nil (by simp)) fun z H3 e3 hz =>
      eao_cons eo_dnew fun u H4 e4 hu => eao_nil.imp fun us H5 e5 hus => ?_) fun us H1 hu => ?_).imp fun v H1 e1 hv => ?_) fun v H1 e1 hv => ?_
  · obtain ⟨t, rfl, ht⟩ := hx
    subst hy
    exact rv_ixt (st_of (e2.tup ht)) rfl
  · subst hx hus
    obtain ⟨l1, rfl, n1, h1⟩ := hy
    obtain ⟨l2, rfl, n2, h2⟩ := hz
    obtain ⟨d, rfl, n3, h3⟩ := hu
    exact ⟨l1, l2, d, rfl, n1.back e1, n2.back (e1.trans e2), n3.back ((e1.trans e2).trans e3), (n2.ne h1 nt_lst), ((e3.trans e4).trans e5).lst h1, (e4.trans e5).lst h2, e5.dK h3⟩
  · obtain ⟨_, _, _, rfl, _⟩ := hu
    simp
  · obtain ⟨us, p, H4, rfl, _, hp, ew, l1, l2, d, rfl, n1, n2, n3, n4, h1, h2, h3⟩ := hv
    exact ⟨p, l1, l2, d, rfl, hp, n1, n2, n3, n4, ew.lst h1, ew.lst h2, ew.dK h3⟩
  obtain ⟨p, l1, l2, db, rfl, hp, n1, n2, n3, n4, h1, h2, h3⟩ := hv
  refine g_tup4 (st_of hp) ?_
  have g1 := e.trans e1
  refine q_forG (T := TTk K) (eo_meth (ev_var rfl) (g1.ins hA) rfl (ea2 (ev_var rfl) (ev_var rfl)) (gvO ⟨a, B, b, ev, g, pl, k, rfl, ⟨A, g1.ins hA, pt.mono g1⟩, ok, g1.2 htb, g1.tup hb, rfl⟩)) fun v H2 e2 ⟨lu, ev', nlu, hlu⟩ => ⟨lu, (runnersN B ev g pl k).map fun n : Nat => V.int (n : Int), ev', fun i σ' H' => Wd (TTk K) H H' ∧ H' lu = some (.lst ((runnersN B ev g pl k).map fun n : Nat => V.int (n : Int))) ∧
    ∃ lh u7 u8 u9, σ' = wσ a b k (evOf B.events ev).2.1 l1 lh db u7 u8 u9 ∧ lu ≠ l1 ∧ lu ≠ lh ∧ WkAt H H' l1 lh db ((((runnersN B ev g pl k).take i).map fun n => (n, (toldAt B n).1)).foldl (wstep (evOf B.events ev).2.1 B.terms.shares) ⟨[], []⟩) i, ?_, ?_, ?_, ?_⟩
  · exact ⟨e1.trans e2, hlu, l2, none, none, none, rfl, (nlu.ne h1 nt_lst).symm, (nlu.ne h2 nt_lst).symm, ⟨n1, n2, n3, n4, ⟨[], rfl, e2.lst h1, (fun _ h => by cases h)⟩, e2.lst h2, ⟨[], e2.dK h3, Nat.le_refl _⟩, (fun _ h => by cases h), Nat.le_refl _, Nat.le_refl _⟩⟩
  · exact fun i σ' H' h => sl_of h.2.1
  · intro i x σ' H' hx ⟨w1, w2, lh, u7, u8, u9, es, nl1, nl2, wk⟩
    obtain ⟨n, hn, rfl⟩ := map_at hx
    subst es
    generalize hs : (((runnersN B ev g pl k).take i).map fun n => (n, (toldAt B n).1)).foldl (wstep (evOf B.events ev).2.1 B.terms.shares) ⟨[], []⟩ = s at wk
    have nlt := runners_lt (List.mem_of_getElem? hn)
    have ilt : i < 100 := by
      have h1 := (List.getElem?_eq_some_iff.mp hn).1
      have h2 := runners_len B ev g pl k
      have := ok.told
      omega
    obtain ⟨z, hz, mz, er, ek⟩ := told_at z1 (told_lt nlt)
    have hstep : (((runnersN B ev g pl k).take (i + 1)).map fun n => (n, (toldAt B n).1)).foldl (wstep (evOf B.events ev).2.1 B.terms.shares) ⟨[], []⟩ = wstep (evOf B.events ev).2.1 B.terms.shares s (n, z.r) := by
      rw [List.take_add_one, hn, Option.toList_some, List.map_append, List.foldl_append, hs, er]
      rfl
    obtain ⟨dd, hdd⟩ := ((z3 z mz).2).mono e
    have g2 := e.trans w1
    refine q_asg (T := TTk K) (v := .ref z.d) (ev_op (ev_op (ev_f rfl (g2.ins hA) S.c_Book S.n_Book_told rfl) (ev_var rfl) (rv_ixt (v := .ref z.t) (st_of (g2.tup z2)) (atI_nat' (by rw [List.getElem?_map, hz]; rfl)))) ev_c (rv_ixt (st_of (g2.tup (z3 z mz).1)) rfl)) fun H3 e3 => ?_
    have wk3 := wk.mono e3
    have g3 := w1.trans e3
    have hlu3 := e3.lst w2
    have hd3 : H3 z.d = some (.ins (cDeed K) dd (rowF z.r)) := g3.ins hdd
    obtain ⟨Zr, y1, y2, y3⟩ := wk3.rows
    have zl : Zr.length = s.rows.length := by rw [← y1, List.length_map]
    refine q_if2 (T := TTk K) (b := s.held.isEmpty || beatsB z.r.mark (markAt s.rows (s.held.headD 0)) (evOf B.events ev).2.1) (et_or (et_test (ev_op2 (Ev.eo (ev_var rfl)) fun x H4 e4 hx => (eo_lst ea_nil (by simp)).imp fun y H5 e5 hy => ?_)) fun hne => et_b ?_) (fun hb H4 e4 => ?_) fun hb H4 e4 => ?_
    · subst hx
      obtain ⟨p, rfl, _, hp⟩ := hy
      refine (rv_eqd (.lst (sl_of ((e4.trans e5).lst wk3.held)) (dpAll_ints s.held)) (.lst (sl_of hp) .nil) (shaped_ints _) rfl).is ?_
      cases s.held <;> rfl
    · cases hh : s.held with
      | nil => rw [hh] at hne; cases hne
      | cons i0 rest =>
        have h0 : i0 < s.rows.length := wk3.lt i0 (by rw [hh]; exact List.mem_cons_self)
        obtain ⟨qz, q1, q2, q3⟩ := Stt_rows (lr := l1) y1 h0
        obtain ⟨tm, bv, t1, t2, t3⟩ := y3 qz q2
        have hheld := wk3.held
        rw [hh] at hheld
        exact ev_call (ea3 (ev_f rfl hd3 S.c_Deed S.n_Deed_mark rfl) (ev_op (z := .int qz.1.mark) (ev_op (ev_var rfl) (ev_op (ev_var rfl) ev_c (rv_ixl (v := .int (i0 : Int)) (sl_of hheld) (atI_nat' (n := 0) rfl))) (rv_ixl (v := .ref qz.2) (sl_of y2) (atI_nat' (by rw [List.getElem?_map, q1]; rfl)))) ev_c (rv_ixt (st_of t1) (atI_nat' (n := 2) rfl))) (ev_var rfl)) (gv ⟨_, _, _, rfl, by show _ = V.bl (beatsB _ _ _); rw [List.headD_cons, markAt, q3]; rfl⟩)
    · have hw : wstep (evOf B.events ev).2.1 B.terms.shares s (n, z.r) = ⟨s.held.foldl (brkAt (z.r.day, z.r.hour)) s.rows ++ [newStt (n, z.r)], [s.rows.length]⟩ := by
        unfold wstep
        rw [if_pos hb]
      refine w_brk (T := TTk K) S (g3.trans e4) (wk3.mono e4) hdd (by omega) fun H5 lh' u9' w5 fr5 wk5 nl5 => ?_
      have hlu5 := fr5 _ _ (e4.lst hlu3) nl1 nt_lst
      refine w_app (T := TTk K) S w5 wk5 hdd (by omega) fun H6 w6 fr6 wk6 => ?_
      have hlu6 := fr6 _ _ hlu5 nl1 (nl5.ne (e4.lst hlu3) nt_lst) (ne_of hlu5 wk5.be.choose_spec.1 (by intro z; cases z)) nt_lst
      rw [brk_len] at wk6
      exact ⟨w6, hlu6, lh', _, _, _, rfl, nl1, nl5.ne (e4.lst hlu3) nt_lst, by rw [hstep, hw]; exact wk6⟩
    · have hb' := hb
      rw [Bool.or_eq_false_iff] at hb'
      have wk4 := wk3.mono e4
      have g4 := g3.trans e4
      have lth : ∀ j ∈ s.held, j < Zr.length := fun j hj => by rw [zl]; exact wk3.lt j hj
      have hne : s.held ≠ [] := fun z => by rw [z] at hb'; cases hb'.1
      have pl := picks_pos hne lth
      refine s_when (T := TTk K) (b := !joinsB B.terms.shares z.r (picks s)) (et_not (et_b (ev_methA (Ψ := fun us H5 => ∃ l, us = [.ref z.d, .ref l] ∧ H5 l = some (.lst ((s.held.filterMap fun i => Zr[i]?).map fun q => V.ref q.2))) (ev_var rfl) ((e.trans g4).ins hA) rfl (eao_cons (Ev.eo (ev_var rfl)) fun x G1 f1 hx => eao_cons (lc_list (T := TTk K) (L := s.held) (iv := fun i : Nat => V.int (i : Int)) (f := fun _ => true) (ev := fun i => ((Zr[i]?).map fun q => V.ref q.2).getD .non) (ev_var rfl) (sl_of (f1.lst wk4.held)) (Nat.le_trans wk4.hn (by omega)) (fun _ => rfl) (fun _ _ _ _ => et_yes) fun j hj _ G2 f2 => ev_op (ev_var rfl) (ev_var rfl) (rv_ixl (sl_of ((f1.trans f2).lst (e4.lst y2))) (atI_nat' (by rw [List.getElem?_map, List.getElem?_eq_getElem (lth j hj)]; rfl)))) fun y G2 f2 hy => eao_nil.imp fun us G3 f3 hu => ?_) fun us H5 e5 ⟨l, hu, hl⟩ => gv ⟨a, B, z.d, z.r, l, s.held.filterMap fun i => Zr[i]?, by rw [hu]; rfl, ⟨A, (e.trans (g4.trans e5)).ins hA, pt.mono (e.trans (g4.trans e5))⟩, ⟨dd, (g4.trans e5).ins hdd⟩, hl, fun q hq => ?_, pl, Nat.le_trans (List.length_filterMap_le _ _) (Nat.le_trans wk4.hn (by omega)), by rw [fm_picks y1]⟩))) (fun hj H5 e5 => ?_) fun hj H5 e5 => ?_
      · subst hx hu
        obtain ⟨l, rfl, _, hl⟩ := hy
        refine ⟨l, rfl, ?_⟩
        rw [fm_map lth, f3.lst hl, List.filter_eq_self.mpr (fun _ _ => rfl)]
      · obtain ⟨i, hi, hq2⟩ := List.mem_filterMap.mp hq
        exact (y3 q (List.mem_of_getElem? hq2)).mono (e4.trans e5)
      · have hj' : joinsB B.terms.shares z.r (picks s) = false := by simpa using hj
        have hw : wstep (evOf B.events ev).2.1 B.terms.shares s (n, z.r) = s := by
          unfold wstep
          rw [if_neg (by rw [hb]; simp), if_neg (by rw [hj']; simp)]
        have wk5 := wk4.mono e5
        obtain ⟨kvs, k1, k2⟩ := wk5.be
        cases hh : s.held with
        | nil => exact absurd hh hne
        | cons i0 rest =>
          have h0 : i0 < s.rows.length := wk3.lt i0 (by rw [hh]; exact List.mem_cons_self)
          obtain ⟨qz, q1, q2, q3⟩ := Stt_rows (lr := l1) y1 h0
          obtain ⟨tm, bv, t1, t2, t3⟩ := y3 qz q2
          have hheld := wk5.held
          rw [hh] at hheld
          have e45 := e4.trans e5
          refine q_ (s_dputK (T := TTk K) (k := Sum.inl (n : Int)) (v := .int (qz.1.lab : Int)) (ev_op (ev_op (ev_var rfl) (ev_op (ev_var rfl) ev_c (rv_ixl (v := .int (i0 : Int)) (sl_of hheld) (atI_nat' (n := 0) rfl))) (rv_ixl (v := .ref qz.2) (sl_of (e45.lst y2)) (atI_nat' (by rw [List.getElem?_map, q1]; rfl)))) ev_c (rv_ixt (st_of (e45.tup t1)) (atI_nat' (n := 0) rfl))) (ev_var rfl) (ev_var rfl) k1 (by omega) fun H6 e6 => ?_)
          have wk6 := wk5.mono e6
          have k6 := e6.dK k1
          have hu6 := (e45.trans e6).lst hlu3
          obtain ⟨a1, a2, a3, a4, ⟨Z6, b1, b2, b3⟩, a5, _, a6, a7, a8⟩ := wk6
          have kt := tup_upd (o' := .dK (putK kvs (Sum.inl (n : Int)) (.int (qz.1.lab : Int)))) k6 fun _ z => (by cases z)
          have nel : ∀ {l : Addr} {xs : List V}, H6 l = some (.lst xs) → upd H6 db (.dK (putK kvs (Sum.inl (n : Int)) (.int (qz.1.lab : Int)))) l = some (.lst xs) := fun {l xs} h => by rw [upd_ne (ne_of h k6 (by intro z; cases z))]; exact h
          exact ⟨((g4.trans e5).trans e6).mut a3 k6 trivial, nel hu6, lh, _, _, _, rfl, nl1, nl2, by rw [hstep, hw]; exact ⟨a1, a2, a3, a4, ⟨Z6, b1, nel b2, fun q hq => (b3 q hq).kt kt⟩, nel a5, ⟨_, upd_same, Nat.le_trans putK_le (by omega)⟩, a6, by omega, by omega⟩⟩
      · have hj' : joinsB B.terms.shares z.r (picks s) = true := by simpa using hj
        have hw : wstep (evOf B.events ev).2.1 B.terms.shares s (n, z.r) = ⟨s.rows ++ [newStt (n, z.r)], s.held ++ [s.rows.length]⟩ := by
          unfold wstep
          rw [if_neg (by rw [hb]; simp), if_pos hj']
        refine w_app (T := TTk K) S (g4.trans e5) (wk4.mono e5) hdd (by omega) fun H6 w6 fr6 wk6 => ?_
        have hu5 := (e4.trans e5).lst hlu3
        have hlu6 := fr6 _ _ hu5 nl1 nl2 (ne_of hu5 (wk4.mono e5).be.choose_spec.1 (by intro z; cases z)) nt_lst
        exact ⟨w6, hlu6, lh, _, _, _, rfl, nl1, nl2, by rw [hstep, hw]; exact wk6⟩
  · intro σ' H' ⟨w1, w2, lh, u7, u8, u9, es, nl1, nl2, wk⟩
    subst es
    rw [List.length_map, List.take_length] at wk
    obtain ⟨Zr, y1, y2, y3⟩ := wk.rows
    obtain ⟨kvs, k1, k2⟩ := wk.be
    refine s_ro (H0 := H') ((eo_tupm (ea2 (ev_var rfl) (ev_var rfl)) (by simp)).imp fun v H2 e2 hv => ?_) (.refl H') (q.mono w1)
    obtain ⟨p, rfl, hp⟩ := hv
    exact ⟨p, l1, db, Zr, rfl, wk.nr.back e, hp, y1, e2.lst y2, fun q hq => (y3 q hq).mono e2⟩
end
end Bb
/-! ## part Rd10 -/
namespace Bb
open PySem PySem.Spec PyProof.Rows L2 LamX BbS NdefX PySem.W
/-! ### texts in order -/
theorem lc_trans : ∀ a b c : List Nat, ltCps b a = false → ltCps c b = false → ltCps c a = false
  | [], _, [], _, _ => rfl
  | [], _, _ :: _, _, _ => rfl
  | _ :: _, [], _, h, _ => by cases h
  | _ :: _, _ :: _, [], _, h => by cases h
  | x :: a, y :: b, z :: c, h1, h2 => by
    have ih := lc_trans a b c
    simp only [ltCps, Bool.or_eq_false_iff, Bool.and_eq_false_iff, decide_eq_false_iff_not, beq_eq_false_iff_ne] at h1 h2 ⊢
    refine ⟨by omega, ?_⟩
    by_cases e : z = x
    · right
      have e1 : y = x := by omega
      have e2 : z = y := by omega
      exact ih (h1.2.resolve_left fun k => k e1) (h2.2.resolve_left fun k => k e2)
    · exact .inl e
theorem lc_anti : ∀ a b : List Nat, ltCps b a = false → ltCps a b = false → a = b
  | [], [], _, _ => rfl
  | [], _ :: _, _, h => by cases h
  | _ :: _, [], h, _ => by cases h
  | x :: a, y :: b, h1, h2 => by
    simp only [ltCps, Bool.or_eq_false_iff, Bool.and_eq_false_iff, decide_eq_false_iff_not, beq_eq_false_iff_ne] at h1 h2
    have e : x = y := by omega
    rw [e, lc_anti a b (h1.2.resolve_left fun k => k e.symm) (h2.2.resolve_left fun k => k e)]
theorem lc_asym : ∀ a b : List Nat, ltCps a b = true → ltCps b a = false
  | [], [], h => by cases h
  | [], _ :: _, _ => rfl
  | _ :: _, [], h => by cases h
  | x :: a, y :: b, h => by
    simp only [ltCps, Bool.or_eq_true, Bool.and_eq_true, decide_eq_true_eq, beq_iff_eq] at h
    simp only [ltCps, Bool.or_eq_false_iff, Bool.and_eq_false_iff, decide_eq_false_iff_not, beq_eq_false_iff_ne]
    rcases h with h | ⟨e, h⟩
    · exact ⟨by omega, .inl (by omega)⟩
    · exact ⟨by omega, .inr (lc_asym a b h)⟩
def leS (a b : Str) : Bool := !ltCps b.cps.toList a.cps.toList
theorem leS_anti {a b : Str} (h1 : leS a b = true) (h2 : leS b a = true) : a = b := by
  unfold leS at h1 h2
  have e := lc_anti a.cps.toList b.cps.toList (by simpa using h1) (by simpa using h2)
  cases a
  cases b
  congr
  exact Array.toList_inj.mp e
theorem leS_trans {a b c : Str} (h1 : leS a b = true) (h2 : leS b c = true) : leS a c = true := by
  unfold leS at h1 h2 ⊢
  rw [lc_trans a.cps.toList b.cps.toList c.cps.toList (by simpa using h1) (by simpa using h2)]
  rfl
theorem leS_total (a b : Str) : (leS a b || leS b a) = true := by
  unfold leS
  cases h : ltCps b.cps.toList a.cps.toList with
  | false => rfl
  | true => rw [lc_asym _ _ h]; rfl
theorem rising_pw : ∀ (x : Str) (l : List Str), risingS x l = true → (x :: l).Pairwise fun a b => leS a b = true
  | _, [], _ => List.pairwise_singleton _ _
  | x, y :: r, h => by
    have h' : (leS x y && risingS y r) = true := h
    rw [Bool.and_eq_true] at h'
    have ih := rising_pw y r h'.2
    refine List.pairwise_cons.mpr ⟨fun z hz => ?_, ih⟩
    rcases List.mem_cons.mp hz with rfl | hz
    · exact h'.1
    · exact leS_trans h'.1 (List.rel_of_pairwise_cons ih hz)
def sortT (l : List Str) : List Str := l.mergeSort leS
theorem sortT_is {ys l : List Str} (hp : ys.Perm l) (hs : sortedS ys = true) : ys = sortT l := by
  refine List.Perm.eq_of_pairwise (le := fun a b => leS a b = true) (fun _ _ _ _ => leS_anti) ?_ (List.pairwise_mergeSort (le := leS) (fun _ _ _ h1 h2 => leS_trans h1 h2) leS_total l) (hp.trans (List.mergeSort_perm l leS).symm)
  cases ys with
  | nil => exact List.Pairwise.nil
  | cons y r => exact rising_pw y r hs
/-! ### stints as data -/
def brkD : Option (Int × Int) → PyData
  | none => .none
  | some t => .tuple [.int t.1, .int t.2]
def sttTail {α : Type} (s : Stt α) : List PyData := [.str s.name, .int s.mark, .tuple [.int s.time.1, .int s.time.2], brkD s.brk]
def sttD (s : Stt Nat) : PyData := .tuple (.int (s.lab : Int) :: sttTail s)
section
variable {T : TT0} {P : Program} {w : World} {K : PySem.W.Frag} {mg : Str → Option Value} {base : Heap} {H H0 H' : Hp} {a p : Addr} {A : Ad} {B B' : Bk} {s : Stt Nat}
theorem brk_dp {v : V} {o : Option (Int × Int)} (h : BrkAt H v o) : Dp K H v (brkD o) := by
  cases o with
  | none =>
    have h : v = .non := h
    rw [h]
    exact .non
  | some t =>
    obtain ⟨b, rfl, hb⟩ := h
    exact .tup (st_of hb) (.cons (.int _) (.cons (.int _) .nil))
theorem stt_dp (h : SttAt H p s) : Dp K H (.ref p) (sttD s) := by
  obtain ⟨tm, bv, h1, h2, h3⟩ := h
  exact .tup (st_of h1) (.cons (.int _) (.cons (.str _) (.cons (.int _) (.cons (.tup (st_of h2) (.cons (.int _) (.cons (.int _) .nil))) (.cons (brk_dp h3) .nil)))))
theorem stts_dp : ∀ {Z : List (Stt Nat × Addr)}, (∀ q ∈ Z, SttAt H q.2 q.1) → DpAll K H (Z.map fun q => .ref q.2) (Z.map fun q => sttD q.1)
  | [], _ => .nil
  | q :: Z, h => .cons (stt_dp (h q List.mem_cons_self)) (stts_dp fun x hx => h x (List.mem_cons_of_mem _ hx))
theorem brk_lay (o : Option (Int × Int)) : PyData.canLay0 (brkD o) = true ∧ (brkD o).depth ≤ 1 := by
  cases o <;> simp [brkD, PyData.canLay0, PyData.canLayAll0, PyData.depth, PyData.depthAll]
theorem stt_lay (h : PyData.strOk s.name = true) : PyData.canLay0 (sttD s) = true ∧ (sttD s).depth ≤ 3 := by
  obtain ⟨h1, h2⟩ := brk_lay s.brk
  constructor
  · simp [sttD, sttTail, PyData.canLay0, PyData.canLayAll0, h, h1]
  · simp only [sttD, sttTail, PyData.depth, PyData.depthAll]
    omega
theorem all_lay {n : Nat} : ∀ {ds : List PyData}, (∀ d ∈ ds, PyData.canLay0 d = true ∧ d.depth ≤ n) → PyData.canLayAll0 ds = true ∧ PyData.depthAll ds ≤ n
  | [], _ => ⟨rfl, Nat.zero_le _⟩
  | d :: ds, h => by
    obtain ⟨h1, h2⟩ := h d List.mem_cons_self
    obtain ⟨h3, h4⟩ := all_lay (ds := ds) fun x hx => h x (List.mem_cons_of_mem _ hx)
    constructor
    · simp [PyData.canLayAll0, h1, h3]
    · simp only [PyData.depthAll]
      omega
theorem shaped_lst {n : Nat} {ds : List PyData} (hn : n ≤ 63) (h : ∀ d ∈ ds, PyData.canLay0 d = true ∧ d.depth ≤ n) : SeqAt.shaped (.list ds) = true := by
  obtain ⟨h1, h2⟩ := all_lay h
  unfold SeqAt.shaped
  rw [Bool.and_eq_true]
  exact ⟨h1, decide_eq_true (by show PyData.depthAll ds + 1 ≤ 64; omega)⟩
/-- a list of stints -/
def SttLst (H : Hp) (v : V) (L : List (Stt Nat)) : Prop := ∃ l, ∃ Z : List (Stt Nat × Addr), v = .ref l ∧ Z.map (·.1) = L ∧ H l = some (.lst (Z.map fun q => .ref q.2)) ∧ ∀ q ∈ Z, SttAt H q.2 q.1
theorem lc_via {σ : L2.St} {tl te : TE} {g : TG} {tt : TT} {vs : List Nat} {Φ Ψ : V → Hp → Prop} (h : EvO T tl σ H Φ) (k : ∀ v H1, Wd T H H1 → Φ v H1 → EvO T (tLc (iList K (tC v)) g tt te vs) σ H1 Ψ) : EvO T (tLc (iList K tl) g tt te vs) σ H Ψ := fun H0 e0 Q q =>
  h H0 e0 _ fun v H1 e1 f => k v H1 (e0.trans e1) f H1 (.refl H1) Q fun v H2 e2 => q v H2 (e1.trans e2)
def p_stints (K : PySem.W.Frag) : List V → Hp → (V → Hp → Prop) → Prop := fun vs H Φ => ∃ a B ev g pl k, vs = [.ref a, .str ev, optV g, .int ((pl : Nat) : Int), .int k] ∧ BookAt K H a B ∧ BkOk B ∧ BestOk B ev g pl ∧ Tabs (TTk K) H ∧ 0 ≤ k ∧ k ≤ 40000 ∧ Φ = fun v H2 => (∀ l, v = .ref l → New H l) ∧ SttLst H2 v (walkP B ev g pl k).rows
theorem fn_stints (S : Say K mg) (TB : TabB base mg (cC K "papers_by") (cP K "papers_by")) (TB2 : TabB base mg (cC K "runners") (cP K "runners")) (hd : cP K "papers_by" ≠ cP K "runners") : Fn P w K mg base dBook_stints 8 ["self", "event", "group", "place", "known"] (spO (TTk K) (p_stints K)) := by
  obtain ⟨_, F1, O1⟩ := fn_known_day (T := TTk K) (P := P) (w := w) (base := base) S
  obtain ⟨_, F2, O2⟩ := fn_need_best (T := TTk K) (P := P) (w := w) (base := base) S
  obtain ⟨_, F3, O3⟩ := fn_walk (P := P) (w := w) (base := base) S TB TB2 hd
  refine fn_o S.f_Book_stints sc_Book_stints (fun vs H v h => by obtain ⟨_, _, _, _, _, _, rfl, _⟩ := h; rfl) fun cdv A outer s H vs E hr => ⟨_, (tm_Book_stints S F1 O1 F2 O2 F3 O3 _ cdv A outer s H E hr).2, fun Φ H0 Q e h q => ?_⟩
  obtain ⟨a, B, ev, g, pl, k, rfl, ⟨A, hA, pt⟩, ok, bo, htb, k1, k2, rfl⟩ := h
  dsimp only [tm_Book_stints]
  refine q_asgO (T := TTk K) (.mono (eo_tupm (ea3 (ev_var rfl) (ev_var rfl) (ev_meth (ev_var rfl) hA rfl (ea3 (ev_var rfl) (ev_var rfl) (ev_var rfl)) (gv ⟨a, B, ev, g, pl, rfl, ⟨A, hA, pt⟩, ok, bo, rfl⟩))) (by simp)) e) fun v H1 e1 hv => ?_
  obtain ⟨b, rfl, hb⟩ := hv
  have g1 := e.trans e1
  refine s_ro (H0 := H1) (eo_op2 (eo_meth (ev_var rfl) (g1.ins hA) rfl (ea2 (ev_var rfl) (ev_call (ea1 (ev_var rfl)) (gv (.inr ⟨k, rfl, by omega, k2, rfl⟩)))) (gvO ⟨a, B, b, ev, g, pl, k, rfl, ⟨A, g1.ins hA, pt.mono g1⟩, ok, bo, g1.2 htb, hb, rfl⟩)) fun x H2 e2 hx => (Ev.eo ev_c).imp fun y H3 e3 hy => ?_) (.refl H1) (q.mono e1)
  obtain ⟨p, lr, db, Z, rfl, nlr, hp, y1, y2, y3⟩ := hx
  subst hy
  exact fun H4 e4 Q q => rv_ixt (v := .ref lr) (st_of (e3.tup hp)) rfl H4 e4 _ fun H5 e5 => q _ H5 e5 ⟨fun l hl => by cases hl; exact nlr.back g1, lr, Z, rfl, y1, ((e3.trans e4).trans e5).lst y2, fun q hq => (y3 q hq).mono ((e3.trans e4).trans e5)⟩
end
/-! ### holders -/
theorem modify_all {α : Type} {P : α → Prop} {f : α → α} (hf : ∀ x, P x → P (f x)) : ∀ {l : List α} {i : Nat}, (∀ x ∈ l, P x) → ∀ x ∈ l.modify i f, P x
  | [], i, _, x, hx => by simp at hx
  | a :: l, 0, h, x, hx => by
    have hx : x ∈ f a :: l := hx
    rcases List.mem_cons.mp hx with rfl | hx
    · exact hf a (h a List.mem_cons_self)
    · exact h x (List.mem_cons_of_mem _ hx)
  | a :: l, i + 1, h, x, hx => by
    rw [List.modify_succ_cons] at hx
    rcases List.mem_cons.mp hx with rfl | hx
    · exact h _ List.mem_cons_self
    · exact modify_all hf (fun y hy => h y (List.mem_cons_of_mem _ hy)) x hx
theorem brk_all {α : Type} {P : Str → Prop} {t : Int × Int} : ∀ {hs : List Nat} {rs : List (Stt α)}, (∀ s ∈ rs, P s.name) → ∀ s ∈ hs.foldl (brkAt t) rs, P s.name
  | [], _, h, s, hs => h s hs
  | i :: r, rs, h, s, hs => brk_all (hs := r) (rs := brkAt t rs i) (fun x hx => modify_all (P := fun x : Stt α => P x.name) (f := fun q => { q with brk := some t }) (fun _ h => h) h x hx) s hs
theorem wstep_all {α : Type} {P : Str → Prop} {way : Str} {sh : Bool} {s : Wk α} {x : α × Rw} (h : ∀ q ∈ s.rows, P q.name) (hx : P x.2.name) : ∀ q ∈ (wstep way sh s x).rows, P q.name := by
  intro q hq
  unfold wstep at hq
  split at hq
  · rcases List.mem_append.mp hq with hq | hq
    · exact brk_all h q hq
    · rw [List.mem_singleton.mp hq]
      exact hx
  · split at hq
    · rcases List.mem_append.mp hq with hq | hq
      · exact h q hq
      · rw [List.mem_singleton.mp hq]
        exact hx
    · exact h q hq
theorem wfold_all {α : Type} {P : Str → Prop} {way : Str} {sh : Bool} : ∀ {xs : List (α × Rw)} {s : Wk α}, (∀ q ∈ s.rows, P q.name) → (∀ x ∈ xs, P x.2.name) → ∀ q ∈ (xs.foldl (wstep way sh) s).rows, P q.name
  | [], _, h, _ => h
  | x :: xs, s, h, hx => wfold_all (xs := xs) (wstep_all h (hx x List.mem_cons_self)) fun y hy => hx y (List.mem_cons_of_mem _ hy)
theorem wstep_len {α : Type} {way : Str} {sh : Bool} {s : Wk α} {x : α × Rw} : (wstep way sh s x).rows.length ≤ s.rows.length + 1 := by
  unfold wstep
  split
  · simp [brk_len]
  · split
    · simp
    · omega
theorem wfold_len {α : Type} {way : Str} {sh : Bool} : ∀ {xs : List (α × Rw)} {s : Wk α}, (xs.foldl (wstep way sh) s).rows.length ≤ s.rows.length + xs.length
  | [], _ => Nat.le_refl _
  | x :: xs, s => by
    have h1 := wfold_len (way := way) (sh := sh) (xs := xs) (s := wstep way sh s x)
    have h2 := wstep_len (way := way) (sh := sh) (s := s) (x := x)
    rw [List.foldl_cons, List.length_cons]
    omega
theorem walk_names {B : Bk} (ok : BkOk B) {ev : Str} {g : Option Str} {pl : Nat} {k : Int} : ∀ q ∈ (walkP B ev g pl k).rows, PyData.strOk q.name = true :=
  wfold_all (P := fun n => PyData.strOk n = true) (fun _ h => by cases h) fun x hx => by
    obtain ⟨n, hn, rfl⟩ := List.mem_map.mp hx
    exact (ok.rw _ (List.mem_of_getElem? (told_lt (runners_lt hn)))).1.s1
theorem walk_len {B : Bk} {ev : Str} {g : Option Str} {pl : Nat} {k : Int} : (walkP B ev g pl k).rows.length ≤ B.told.length := by
  have h := wfold_len (way := (evOf B.events ev).2.1) (sh := B.terms.shares) (xs := (runnersN B ev g pl k).map fun n => (n, (toldAt B n).1)) (s := ⟨[], []⟩)
  have h2 := runners_len B ev g pl k
  rw [List.length_map] at h
  have h : (walkP B ev g pl k).rows.length ≤ 0 + (runnersN B ev g pl k).length := h
  omega
def opn {α : Type} (day : Int) (s : Stt α) : Bool := match s.brk with
  | none => true
  | some t => decide (day < t.1)
def heldOn {α : Type} (rows : List (Stt α)) (day : Int) : List (Stt α) := (rows.filter fun s => decide (s.time.1 ≤ day)).filter (opn day)
def holdD {α : Type} : List (Stt α) → PyData
  | [] => .none
  | s :: r => .tuple [.int s.mark, .tuple ((sortT ((s :: r).map Stt.name)).map PyData.str)]
section
variable {T : TT0} {P : Program} {w : World} {K : PySem.W.Frag} {mg : Str → Option Value} {base : Heap} {H H0 H' : Hp} {a p : Addr} {A : Ad} {B B' : Bk} {s : Stt Nat}
def p_held_on (K : PySem.W.Frag) : List V → Hp → (V → Hp → Prop) → Prop := fun vs H Φ => ∃ a B b ev g pl day k, vs = [.ref a, .ref b, .int day, .int k] ∧ BookAt K H a B ∧ BkOk B ∧ BestOk B ev g pl ∧ Tabs (TTk K) H ∧ H b = some (.tup [.str ev, optV g, .int ((pl : Nat) : Int)]) ∧ Φ = fun v H2 => SttLst H2 v (heldOn (walkP B ev g pl k).rows day)
theorem fn_held_on (S : Say K mg) (TB : TabB base mg (cC K "papers_by") (cP K "papers_by")) (TB2 : TabB base mg (cC K "runners") (cP K "runners")) (hd : cP K "papers_by" ≠ cP K "runners") : Fn P w K mg base dBook_held_on 8 ["self", "best", "day", "known"] (spO (TTk K) (p_held_on K)) := by
  obtain ⟨_, F3, O3⟩ := fn_walk (P := P) (w := w) (base := base) S TB TB2 hd
  refine fn_o S.f_Book_held_on sc_Book_held_on (fun vs H v h => by obtain ⟨_, _, _, _, _, _, _, _, rfl, _⟩ := h; rfl) fun cdv A outer s H vs E hr => ⟨_, (tm_Book_held_on S F3 O3 _ cdv A outer s H E hr).2, fun Φ H0 Q e h q => ?_⟩
  obtain ⟨a, B, b, ev, g, pl, day, k, rfl, ⟨A, hA, pt⟩, ok, bo, htb, hb, rfl⟩ := h
  dsimp only [tm_Book_held_on]
  have wl := walk_len (B := B) (ev := ev) (g := g) (pl := pl) (k := k)
  have tl := ok.told
  refine q_asgO (T := TTk K) (Φ := fun v H2 => SttLst H2 v ((walkP B ev g pl k).rows.filter fun s => decide (s.time.1 ≤ day))) (.mono (lc_via (Φ := fun v H2 => SttLst H2 v (walkP B ev g pl k).rows) (eo_op2 (eo_meth (ev_var rfl) hA rfl (ea2 (ev_var rfl) (ev_var rfl)) (gvO ⟨a, B, b, ev, g, pl, k, rfl, ⟨A, hA, pt⟩, ok, bo, htb, hb, rfl⟩)) fun x H2 e2 hx => (Ev.eo ev_c).imp fun y H3 e3 hy => ?_) fun v H1 e1 hv => ?_) e) fun v H1 e1 hv => ?_
  · obtain ⟨p, lr, db, Z, rfl, nlr, hp, y1, y2, y3⟩ := hx
    subst hy
    exact fun H4 e4 Q q => rv_ixt (v := .ref lr) (st_of (e3.tup hp)) rfl H4 e4 _ fun H5 e5 => q _ H5 e5 ⟨lr, Z, rfl, y1, ((e3.trans e4).trans e5).lst y2, fun q hq => (y3 q hq).mono ((e3.trans e4).trans e5)⟩
  · obtain ⟨l, Z, rfl, y1, y2, y3⟩ := hv
    have zl : Z.length ≤ 60 := by
      have := congrArg List.length y1
      rw [List.length_map] at this
      omega
    refine (lc_list (L := Z) (iv := fun q => .ref q.2) (f := fun q => decide (q.1.time.1 ≤ day)) (ev := fun q => .ref q.2) ev_c (sl_of y2) (by omega) (fun _ => rfl) (fun z hz H3 e3 => ?_) fun z hz _ H3 e3 => ev_var rfl).imp fun v H3 e3 hv => ?_
    · obtain ⟨tm, bv, t1, t2, t3⟩ := y3 z hz
      exact et_test (ev_op (ev_op (ev_op (ev_var rfl) ev_c (rv_ixt (v := .ref tm) (st_of (e3.tup t1)) (atI_nat' (n := 3) rfl))) ev_c (rv_ixt (v := .int z.1.time.1) (st_of (e3.tup t2)) (atI_nat' (n := 0) rfl))) (ev_var rfl) rv_i0)
    · obtain ⟨l2, rfl, _, hl2⟩ := hv
      refine ⟨l2, Z.filter fun q => decide (q.1.time.1 ≤ day), rfl, ?_, hl2, fun q hq => (y3 q (List.mem_filter.mp hq).1).mono e3⟩
      rw [← y1, List.filter_map]
      rfl
  · obtain ⟨l, Z, rfl, y1, y2, y3⟩ := hv
    have zl : Z.length ≤ 60 := by
      have := congrArg List.length y1
      rw [List.length_map] at this
      have := List.length_filter_le (fun s => decide (s.time.1 ≤ day)) (walkP B ev g pl k).rows
      omega
    refine s_ro (H0 := H1) ((lc_list (L := Z) (iv := fun q => .ref q.2) (f := fun q => opn day q.1) (ev := fun q => .ref q.2) (ev_var rfl) (sl_of y2) (by omega) (fun _ => rfl) (fun z hz H3 e3 => ?_) fun z hz _ H3 e3 => ev_var rfl).imp fun v H3 e3 hv => ?_) (.refl H1) (q.mono e1)
    · obtain ⟨tm, bv, t1, t2, t3⟩ := y3 z hz
      unfold opn
      cases hbk : z.1.brk with
      | none =>
        rw [hbk] at t3
        have t3 : bv = .non := t3
        subst t3
        exact .is (et_or (b := true) (c := false) (et_test (ev_op (ev_op (ev_var rfl) ev_c (rv_ixt (v := .non) (st_of (e3.tup t1)) (atI_nat' (n := 4) rfl))) ev_c rv_isn)) fun h => by cases h) rfl
      | some t =>
        rw [hbk] at t3
        obtain ⟨tb, rfl, htb⟩ := t3
        exact .is (et_or (b := false) (et_test (ev_op (ev_op (ev_var rfl) ev_c (rv_ixt (v := .ref tb) (st_of (e3.tup t1)) (atI_nat' (n := 4) rfl))) ev_c rv_isn)) fun _ => et_test (ev_op (ev_op (ev_op (ev_var rfl) ev_c (rv_ixt (v := .ref tb) (st_of (e3.tup t1)) (atI_nat' (n := 4) rfl))) ev_c (rv_ixt (v := .int t.1) (st_of (e3.tup htb)) (atI_nat' (n := 0) rfl))) (ev_var rfl) rv_i0)) (by simp)
    · obtain ⟨l2, rfl, _, hl2⟩ := hv
      refine ⟨l2, Z.filter fun q => opn day q.1, rfl, ?_, hl2, fun q hq => (y3 q (List.mem_filter.mp hq).1).mono e3⟩
      unfold heldOn
      rw [← y1, List.filter_map]
      rfl
theorem heldOn_sub {α : Type} {rows : List (Stt α)} {day : Int} {s : Stt α} (h : s ∈ heldOn rows day) : s ∈ rows := (List.mem_filter.mp (List.mem_filter.mp h).1).1
theorem heldOn_len {α : Type} {rows : List (Stt α)} {day : Int} : (heldOn rows day).length ≤ rows.length := Nat.le_trans (List.length_filter_le _ _) (List.length_filter_le _ _)
theorem dpAll_strs {H : Hp} : ∀ ns : List Str, DpAll K H (ns.map V.str) (ns.map PyData.str)
  | [] => .nil
  | n :: ns => .cons (.str _) (dpAll_strs ns)
theorem eo_sortS {σ : L2.St} {te : TE} {ns : List Str} (h : EvO T te σ H fun v H' => ∃ l, v = .ref l ∧ H' l = some (.lst (ns.map V.str))) (hl : ns.length < 64) : EvO T (tCB (rSortedS K) (tCons te tNil)) σ H (NLst H ((sortT ns).map V.str)) := fun H1 e1 Q q =>
  h H1 e1 _ fun v H2 e2 ⟨l, ev, hv⟩ => ⟨l, ns, by rw [ev], sl_of hv, hl, fun ys p hp hs hn => q _ _ (e2.trans (.new hn)) ⟨p, rfl, (new_none hn).back (e1.trans e2), by rw [upd_same, sortT_is hp hs]⟩⟩
theorem eo_tupof {σ : L2.St} {te : TE} {xs : List V} (h : EvO T te σ H (NLst H xs)) : EvO T (tCB (fun xs H Q => ∃ p ys, xs = [V.ref p] ∧ ((SqL K H p ys ∧ ∀ l, H l = none → Q (.ref l) (upd H l (.tup ys))) ∨ (SqT K H p ys ∧ Q (.ref p) H))) (tCons te tNil)) σ H (MTup xs) := fun H1 e1 Q q =>
  h H1 e1 _ fun v H2 e2 ⟨l, ev, _, hv⟩ => ⟨l, xs, by rw [ev], .inl ⟨sl_of hv, fun p hp => q _ _ (e2.trans (.new hp)) ⟨p, rfl, upd_same⟩⟩⟩
def p_holders (K : PySem.W.Frag) : List V → Hp → (V → Hp → Prop) → Prop := fun vs H Φ => ∃ a B ev g pl day, vs = [.ref a, .str ev, optV g, .int ((pl : Nat) : Int), .int day, .non] ∧ BookAt K H a B ∧ BkOk B ∧ BestOk B ev g pl ∧ Tabs (TTk K) H ∧ 0 ≤ day ∧ day ≤ 40000 ∧ Φ = fun v H2 => Dp K H2 v (holdD (heldOn (walkP B ev g pl 40000).rows day))
theorem fn_holders (S : Say K mg) (TB : TabB base mg (cC K "papers_by") (cP K "papers_by")) (TB2 : TabB base mg (cC K "runners") (cP K "runners")) (hd : cP K "papers_by" ≠ cP K "runners") : Fn P w K mg base dBook_holders 9 ["self", "event", "group", "place", "day", "known"] (spO (TTk K) (p_holders K)) := by
  obtain ⟨_, F1, O1⟩ := fn_known_day (T := TTk K) (P := P) (w := w) (base := base) S
  obtain ⟨_, F2, O2⟩ := fn_need_best (T := TTk K) (P := P) (w := w) (base := base) S
  obtain ⟨_, F3, O3⟩ := fn_held_on (P := P) (w := w) (base := base) S TB TB2 hd
  refine fn_o S.f_Book_holders sc_Book_holders (fun vs H v h => by obtain ⟨_, _, _, _, _, _, rfl, _⟩ := h; rfl) fun cdv A outer s H vs E hr => ⟨_, (tm_Book_holders S F1 O1 F2 O2 F3 O3 _ cdv A outer s H E hr).2, fun Φ H0 Q e h q => ?_⟩
  obtain ⟨a, B, ev, g, pl, day, rfl, ⟨A, hA, pt⟩, ok, bo, htb, k1, k2, rfl⟩ := h
  dsimp only [tm_Book_holders]
  have wl := walk_len (B := B) (ev := ev) (g := g) (pl := pl) (k := 40000)
  have tl := ok.told
  refine q_asgO (T := TTk K) (.mono (eo_tupm (ea3 (ev_var rfl) (ev_var rfl) (ev_meth (ev_var rfl) hA rfl (ea3 (ev_var rfl) (ev_var rfl) (ev_var rfl)) (gv ⟨a, B, ev, g, pl, rfl, ⟨A, hA, pt⟩, ok, bo, rfl⟩))) (by simp)) e) fun v H1 e1 hv => ?_
  obtain ⟨b, rfl, hb⟩ := hv
  have g1 := e.trans e1
  refine q_asg (T := TTk K) (v := .int day) (ev_call (ea1 (ev_var rfl)) (gv (.inr ⟨day, rfl, by omega, k2, rfl⟩))) fun H2 e2 => ?_
  have g2 := g1.trans e2
  refine q_asgO (T := TTk K) (eo_meth (ev_var rfl) (g2.ins hA) rfl (ea3 (ev_var rfl) (ev_var rfl) (ev_call (ea1 (ev_var rfl)) (gv (.inl ⟨rfl, rfl⟩)))) (gvO ⟨a, B, b, ev, g, pl, day, 40000, rfl, ⟨A, g2.ins hA, pt.mono g2⟩, ok, bo, g2.2 htb, e2.tup hb, rfl⟩)) fun v H3 e3 hv => ?_
  obtain ⟨l, Z, rfl, y1, y2, y3⟩ := hv
  have hl := heldOn_len (rows := (walkP B ev g pl 40000).rows) (day := day)
  have zl : Z.length ≤ 60 := by
    have := congrArg List.length y1
    rw [List.length_map] at this
    omega
  have lay : ∀ d ∈ Z.map fun q => sttD q.1, PyData.canLay0 d = true ∧ d.depth ≤ 3 := fun d hd => by
    obtain ⟨z, hz, rfl⟩ := List.mem_map.mp hd
    have hz1 : z.1 ∈ heldOn (walkP B ev g pl 40000).rows day := by
      rw [← y1]
      exact List.mem_map.mpr ⟨z, hz, rfl⟩
    exact stt_lay (walk_names ok z.1 (heldOn_sub hz1))
  refine q_if (T := TTk K) (b := Z.isEmpty) (et_test (ev_op2 (Ev.eo (ev_var rfl)) fun x H4 e4 hx => (eo_lst ea_nil (by simp)).imp fun y H5 e5 hy => ?_)) (fun hb4 H4 e4 => ?_) fun hb4 H4 e4 => ?_
  · subst hx
    obtain ⟨p, rfl, _, hp⟩ := hy
    refine (rv_eqd (.lst (sl_of ((e4.trans e5).lst y2)) (stts_dp fun q hq => (y3 q hq).mono (e4.trans e5))) (.lst (sl_of hp) .nil) (shaped_lst (n := 3) (by decide) lay) rfl).is ?_
    cases Z <;> rfl
  · cases Z with
    | cons z Z => cases hb4
    | nil =>
      refine s_ro (H0 := H4) ((Ev.eo ev_c).imp fun v H5 e5 hv => ?_) (.refl H4) (q.mono (((e1.trans e2).trans e3).trans e4))
      subst hv
      rw [← y1]
      exact .non
  · cases Z with
    | nil => cases hb4
    | cons z Z =>
      obtain ⟨tm, bv, t1, t2, t3⟩ := y3 z List.mem_cons_self
      refine s_ro (H0 := H4) ((eo_tupA (Ψ := fun us H5 => ∃ t, us = [.int z.1.mark, .ref t] ∧ H5 t = some (.tup ((sortT (((z :: Z).map (·.1)).map Stt.name)).map V.str))) (eao_cons (Ev.eo (ev_op (ev_op (ev_var rfl) ev_c (rv_ixl (v := .ref z.2) (sl_of (e4.lst y2)) (atI_nat' (n := 0) rfl))) ev_c (rv_ixt (v := .int z.1.mark) (st_of (e4.tup t1)) (atI_nat' (n := 2) rfl)))) fun x H5 e5 hx => eao_cons (eo_tupof (eo_sortS (ns := ((z :: Z).map (·.1)).map Stt.name) ((lc_list (L := z :: Z) (iv := fun q => .ref q.2) (f := fun _ => true) (ev := fun q => .str q.1.name) (ev_var rfl) (sl_of ((e4.trans e5).lst y2)) (by omega) (fun _ => rfl) (fun _ _ _ _ => et_yes) fun y hy _ H6 e6 => ?_).imp fun v H6 e6 hv => ?_) ?_)) fun y H6 e6 hy => eao_nil.imp fun us H7 e7 hu => ?_) fun us H5 hu => ?_).imp fun v H5 e5 hv => ?_) (.refl H4) (q.mono (((e1.trans e2).trans e3).trans e4))
      · obtain ⟨_, _, u1, _⟩ := y3 y hy
        exact ev_op (ev_var rfl) ev_c (rv_ixt (st_of (((e4.trans e5).trans e6).tup u1)) (atI_nat' (n := 1) rfl))
      · obtain ⟨p, rfl, _, hp⟩ := hv
        exact ⟨p, rfl, by rw [hp, List.filter_eq_self.mpr (fun _ _ => rfl), List.map_map, List.map_map]; rfl⟩
      · rw [List.length_map, List.length_map]
        omega
      · subst hx hu
        obtain ⟨p, rfl, hp⟩ := hy
        exact ⟨p, rfl, e7.tup hp⟩
      · obtain ⟨t, rfl, _⟩ := hu
        simp
      · obtain ⟨us, p, H6, rfl, _, hp, ew, t, rfl, ht⟩ := hv
        have y1' : heldOn (walkP B ev g pl 40000).rows day = z.1 :: Z.map (·.1) := y1.symm
        rw [y1']
        exact .tup (st_of hp) (.cons (.int _) (.cons (.tup (st_of (ew.tup ht)) (dpAll_strs _)) .nil))
end
end Bb
/-! ## part Rd11 -/
/-! draws -/
namespace Bb
open PySem PySem.Spec PyProof.Rows L2 LamX BbS NdefX PySem.W
def PenAt (H : Hp) (pen : Addr) : Prop := ∃ n m : Int, H pen = some (.lst [.int n, .int m]) ∧ 0 ≤ m ∧ m ≤ 1
/-- all but the pen is kept -/
structure Kp (T : TT0) (pen : Addr) (H H' : Hp) : Prop where
  p0 : PenAt H pen
  p1 : PenAt H' pen
  kp : ∀ b o, H b = some o → b ≠ pen → Nt o → H' b = some o
  tb : Tabs T H → Tabs T H'
section
variable {T : TT0} {P : Program} {w : World} {K : PySem.W.Frag} {mg : Str → Option Value} {base : Heap} {H H0 H1 H2 H' : Hp} {a p pen : Addr} {σ : L2.St} {te ta tb : TE} {ts tr : TA} {v x y z : V} {vs us xs : List V} {Φ Ψ Θ : V → Hp → Prop} {r : R2} {D : Ends} {tz tu : TS} {g : TG}
theorem Kp.refl (h : PenAt H pen) : Kp T pen H H := ⟨h, h, fun _ _ e _ _ => e, id⟩
theorem Kp.trans (x : Kp T pen H H1) (y : Kp T pen H1 H2) : Kp T pen H H2 := ⟨x.p0, y.p1, fun b o e n nt => y.kp b o (x.kp b o e n nt) n nt, fun t => y.tb (x.tb t)⟩
theorem Wd.kpen (e : Wd T H H') (h : PenAt H pen) : Kp T pen H H' := by
  refine ⟨h, ?_, fun b o hb _ nt => e.get hb nt, e.2⟩
  obtain ⟨n, m, h1, h2⟩ := h
  exact ⟨n, m, e.lst h1, h2⟩
theorem pen_ne {b : Addr} {o : HO} (h : PenAt H pen) (e : H b = some o) (ne : ∀ n m : Int, o ≠ .lst [.int n, .int m]) : b ≠ pen := by
  obtain ⟨n, m, h1, _⟩ := h
  intro z
  rw [z, h1] at e
  exact ne n m (Option.some.inj e).symm
theorem pen_none {b : Addr} (h : PenAt H pen) (e : H b = none) : b ≠ pen := by
  obtain ⟨n, m, h1, _⟩ := h
  intro z
  rw [z, h1] at e
  cases e
theorem pen_new {b : Addr} (h : PenAt H pen) (e : New H b) : b ≠ pen := by
  obtain ⟨n, m, h1, _⟩ := h
  exact (e.ne h1 nt_lst).symm
theorem Kp.tup (k : Kp T pen H H') (e : H a = some (.tup xs)) : H' a = some (.tup xs) := k.kp a _ e (pen_ne k.p0 e fun _ _ z => by cases z) nt_tup
theorem Kp.dK (k : Kp T pen H H') {kvs : List (Key × V)} (e : H a = some (.dK kvs)) : H' a = some (.dK kvs) := k.kp a _ e (pen_ne k.p0 e fun _ _ z => by cases z) nt_dK
theorem Kp.dT (k : Kp T pen H H') {kvs : List (List Key × V)} (e : H a = some (.dT kvs)) : H' a = some (.dT kvs) := k.kp a _ e (pen_ne k.p0 e fun _ _ z => by cases z) nt_dT
theorem Kp.ins (k : Kp T pen H H') {C dx : Addr} {fs : List (Str × V)} (e : H a = some (.ins C dx fs)) : H' a = some (.ins C dx fs) := k.kp a _ e (pen_ne k.p0 e fun _ _ z => by cases z) nt_ins
theorem Kp.lst (k : Kp T pen H H') (e : H a = some (.lst xs)) (ne : a ≠ pen) : H' a = some (.lst xs) := k.kp a _ e ne nt_lst
def EvD (T : TT0) (pen : Addr) (te : TE) (σ : L2.St) (H : Hp) (Φ : V → Hp → Prop) : Prop := ∀ H1, Kp T pen H H1 → ∀ Q : VK, (∀ v H2, Kp T pen H1 H2 → Φ v H2 → Q v H2) → te σ H1 Q
def EdA (T : TT0) (pen : Addr) (ta : TA) (σ : L2.St) (H : Hp) (Φ : List V → Hp → Prop) : Prop := ∀ H1, Kp T pen H H1 → ∀ Q : List V → Hp → Prop, (∀ v H2, Kp T pen H1 H2 → Φ v H2 → Q v H2) → ta σ H1 Q
/-- what draws nothing -/
theorem ed_of (h : ∀ H1, Kp T pen H H1 → EvO T te σ H1 Φ) : EvD T pen te σ H Φ := fun H1 k Q q => h H1 k H1 (.refl H1) Q fun v H2 e f => q v H2 (e.kpen k.p1) f
theorem ed_ev (h : ∀ H1, Kp T pen H H1 → Ev T te σ H1 v) : EvD T pen te σ H fun x _ => x = v := ed_of fun H1 k => (h H1 k).eo
theorem ed_c : EvD T pen (tC v) σ H fun x _ => x = v := ed_ev fun _ _ => ev_c
theorem ed_var {i : Nat} (h : σ[i]? = some (some v)) : EvD T pen (tVar i) σ H fun x _ => x = v := ed_ev fun _ _ => ev_var h
theorem EvD.imp (h : EvD T pen te σ H Φ) (k : ∀ v H', Kp T pen H H' → Φ v H' → Ψ v H') : EvD T pen te σ H Ψ := fun H1 e Q q => h H1 e Q fun v H2 e2 f => q v H2 e2 (k v H2 (e.trans e2) f)
theorem EvD.mono (h : EvD T pen te σ H Φ) (e : Kp T pen H H') : EvD T pen te σ H' Φ := fun H1 k => h H1 (e.trans k)
theorem ed_op (ha : EvD T pen ta σ H Φ) (hb : ∀ x H1, Kp T pen H H1 → Φ x H1 → EvD T pen tb σ H1 fun y H2 => RVO T r x y H2 Θ) : EvD T pen (tOp r ta tb) σ H Θ := fun H1 e Q q =>
  ha H1 e _ fun x H2 e2 fx => hb x H2 (e.trans e2) fx H2 (.refl e2.p1) _ fun y H3 e3 hr => hr H3 (.refl H3) Q fun v H4 e4 f => q v H4 ((e2.trans e3).trans (e4.kpen e3.p1)) f
theorem eda_nil : EdA T pen tNil σ H fun us _ => us = [] := fun H1 k Q q => q _ _ (.refl k.p1) rfl
theorem eda_cons {Ψ : List V → Hp → Prop} (h : EvD T pen te σ H Φ) (hr : ∀ v H1, Kp T pen H H1 → Φ v H1 → EdA T pen tr σ H1 fun vs H2 => Ψ (v :: vs) H2) : EdA T pen (tCons te tr) σ H Ψ := fun H1 e Q q =>
  h H1 e _ fun v H2 e2 f => hr v H2 (e.trans e2) f H2 (.refl e2.p1) _ fun vs H3 e3 k => q (v :: vs) H3 (e2.trans e3) k
theorem EdA.imp {Ψ Ψ' : List V → Hp → Prop} (h : EdA T pen ts σ H Ψ) (k : ∀ vs H', Kp T pen H H' → Ψ vs H' → Ψ' vs H') : EdA T pen ts σ H Ψ' := fun H1 e Q q => h H1 e Q fun vs H2 e2 f => q vs H2 e2 (k vs H2 (e.trans e2) f)
theorem ed_tup {Ψ : List V → Hp → Prop} (h : EdA T pen ts σ H Ψ) (hl : ∀ vs H1, Ψ vs H1 → vs.length ≤ 1000000) : EvD T pen (tTup ts) σ H (fun v H2 => ∃ vs p H1, v = .ref p ∧ H2 p = some (.tup vs) ∧ Wd T H1 H2 ∧ Ψ vs H1) := fun H1 e _ q =>
  h H1 e _ fun vs H2 e2 f => ⟨le_line (hl vs H2 f), fun p hp => q _ _ (e2.trans (Wd.kpen (.new hp) e2.p1)) ⟨vs, p, H2, rfl, upd_same, .new hp, f⟩⟩
theorem ed_lst {Ψ : List V → Hp → Prop} (h : EdA T pen ts σ H Ψ) (hl : ∀ vs H1, Ψ vs H1 → vs.length ≤ 1000000) : EvD T pen (tLst ts) σ H (fun v H2 => ∃ vs p H1, v = .ref p ∧ p ≠ pen ∧ H2 p = some (.lst vs) ∧ Wd T H1 H2 ∧ Ψ vs H1) := fun H1 e _ q =>
  h H1 e _ fun vs H2 e2 f => ⟨le_line (hl vs H2 f), fun p hp => q _ _ (e2.trans (Wd.kpen (.new hp) e2.p1)) ⟨vs, p, H2, rfl, pen_none e2.p1 hp, upd_same, .new hp, f⟩⟩
/-! ### statements -/
theorem dq_asg {i : Nat} (hp : PenAt H pen) (h : EvD T pen te σ H Φ) (k : ∀ v H1, Kp T pen H H1 → Φ v H1 → tz D (σ.set i (some v)) H1) : tSeq (tAsg te (gName i)) tz D σ H := h H (.refl hp) _ k
theorem dq_asgG (hp : PenAt H pen) (h : EvD T pen te σ H Φ) (k : ∀ v H1, Kp T pen H H1 → Φ v H1 → g v σ H1 fun σ2 H2 => tz D σ2 H2) : tSeq (tAsg te g) tz D σ H := h H (.refl hp) _ k
theorem ds_ret (hp : PenAt H pen) (h : EvD T pen te σ H Φ) (k : ∀ v H1, Kp T pen H H1 → Φ v H1 → D.rt v H1) : tRet te D σ H := h H (.refl hp) _ k
theorem dq_par {i j : Nat} {Ψ : List V → Hp → Prop} (hp : PenAt H pen) (h : EdA T pen ts σ H Ψ) (k : ∀ us H1, Kp T pen H H1 → Ψ us H1 → ∃ v w, us = [v, w] ∧ tz D ((σ.set i (some v)).set j (some w)) H1) : tSeq (tPar i j ts) tz D σ H := h H (.refl hp) _ fun us H1 e f => by
  obtain ⟨v, w, eu, q⟩ := k us H1 e f
  exact ⟨v, w, eu, q⟩
/-! ### the pen -/
/-- a def that draws and hands something back -/
def spD (T : TT0) (pre : List V → Hp → Addr → (V → Hp → Prop) → Prop) : Sp := fun vs H Q _ => ∃ pen Φ, PenAt H pen ∧ pre vs H pen Φ ∧ ∀ v H', Kp T pen H H' → Φ v H' → Q v H'
theorem fn_d {d : He.DefD} {N ps : List Str} {k : Nat} {pre : List V → Hp → Addr → (V → Hp → Prop) → Prop} (hF : ∃ fd, Def K d fd) (S : FnScope N ps d.scope) (len : ∀ vs H p v, pre vs H p v → vs.length = ps.length)
    (hb : ∀ (cdv : Value) (A : Around) (outer : List Env) (s : Shared) (H : Hp) (vs : List V) (E : XK), Room k (A.deeper (envOfC d.qual d.scope s.heap.objs.size (He.fAd K d.at_) cdv)) →
      ∃ t, PSs (cxOf CX0 P w K mg base N d.qual d.scope (He.fAd K d.at_) cdv A outer s H E) d.body t ∧ ∀ (pen : Addr) (Φ : V → Hp → Prop) (Q : VK), PenAt H pen → pre vs H pen Φ → (∀ v H', Kp T pen H H' → Φ v H' → Q v H') → t { nx := fun _ H' => Q .non H', rt := Q } (start N vs) H) : Fn P w K mg base d (k + 1) ps (spD T pre) :=
  fn_ok hF S (fun vs H Q E ⟨p, Φ, _, h, _⟩ => len vs H p Φ h) fun cdv A outer s H vs Q E hr ⟨pen, Φ, hp, h, q⟩ => by
    obtain ⟨t, h1, h2⟩ := hb cdv A outer s H vs E hr
    exact ⟨t, h1, h2 pen Φ Q hp h q⟩
theorem ed_call {pre : List V → Hp → Addr → (V → Hp → Prop) → Prop} {Ψ : List V → Hp → Prop} {ds : List V} (ha : EdA T pen ts σ H Ψ) (h : ∀ us H1, Kp T pen H H1 → Ψ us H1 → pre (us ++ ds) H1 pen Φ) : EvD T pen (tCall (spD T pre) ds E0 ts) σ H Φ := fun H1 k Q q =>
  ha H1 k _ fun us H2 k2 f => ⟨pen, Φ, k2.p1, h us H2 (k.trans k2) f, fun v H' k3 fv => q v H' (k2.trans k3) fv⟩
def drawn (m : Int) : V → Hp → Prop := fun v _ => ∃ k : Int, v = .int k ∧ 0 ≤ k ∧ k < m
def p_draw : List V → Hp → Addr → (V → Hp → Prop) → Prop := fun vs _ pen Φ => ∃ m : Int, vs = [.ref pen, .int m] ∧ 0 < m ∧ m ≤ 2000000 ∧ Φ = drawn m
theorem fn_draw (S : Say K mg) : Fn P w K mg base dL_draw 1 ["_law_pen_here", "_law_many"] (spD T p_draw) := by
  refine fn_d S.f_L_draw sc_L_draw (fun vs H p v h => by obtain ⟨_, rfl, _⟩ := h; rfl) fun cdv A outer s H vs E hr => ⟨_, (tm_L_draw S _ cdv A outer s H E hr).2, fun pen Φ Q hp h q => ?_⟩
  obtain ⟨m, rfl, m1, m2, rfl⟩ := h
  obtain ⟨n, i, hpen, i1, i2⟩ := hp
  dsimp only [tm_L_draw]
  have pw : ∀ {H1 : Hp} {n' : Int}, Wd T H H1 → Kp T pen H (upd H1 pen (.lst [.int n', .int i])) := fun {H1 n'} e => ⟨⟨n, i, hpen, i1, i2⟩, ⟨n', i, upd_same, i1, i2⟩, fun b o hb ne nt => by rw [upd_ne ne]; exact e.get hb nt, fun t => tabs_upd (e.2 t) (e.lst hpen) trivial⟩
  refine q_if (T := T) (b := decide (V.int i = V.int 1)) (et_test (ev_op (ev_op (ev_var rfl) ev_c (rv_ixl (v := .int i) (sl_of hpen) (atI_nat' (n := 1) rfl))) ev_c (rv_eq rfl))) (fun _ H1 e1 => ?_) fun _ H1 e1 => ?_
  · refine q_asg (T := T) (v := .int (n % m)) (ev_op (ev_op (ev_var rfl) ev_c (rv_ixl (v := .int n) (sl_of (e1.lst hpen)) (atI_nat' (n := 0) rfl))) (ev_var rfl) (rv_i m1)) fun H2 e2 => ?_
    have g2 := e1.trans e2
    refine q_asgG (T := T) (Φ := fun v _ => v = .int (n / m)) (Ev.eo (ev_op (ev_op (ev_var rfl) ev_c (rv_ixl (v := .int n) (sl_of (g2.lst hpen)) (atI_nat' (n := 0) rfl))) (ev_var rfl) (rv_i (wide_div (b := 30) m1 (by omega) (by decide) (by decide))))) fun v H3 e3 hv => ?_
    subst hv
    refine ⟨_, rfl, pen, _, 0, 0, rfl, rfl, (g2.trans e3).lst hpen, rfl, ?_⟩
    refine s_ret (T := T) (v := .int (n % m)) (ev_var rfl) fun H4 e4 => q _ H4 ((pw (g2.trans e3)).trans (e4.kpen (pw (g2.trans e3)).p1)) ⟨n % m, rfl, Int.emod_nonneg _ (by omega), Int.emod_lt_of_pos _ m1⟩
  · have h0 : 0 ≤ n % 2147483629 := Int.emod_nonneg _ (by decide)
    have h1 : n % 2147483629 < 2147483629 := Int.emod_lt_of_pos _ (by decide)
    refine q_asgG (T := T) (Φ := fun v _ => v = .int ((n % 2147483629 * 48271 + 11) % 2147483629)) (Ev.eo (ev_op (ev_op (ev_op (ev_op (ev_op (ev_var rfl) ev_c (rv_ixl (v := .int n) (sl_of (e1.lst hpen)) (atI_nat' (n := 0) rfl))) ev_c (rv_i (by decide))) ev_c (rv_i (wide_mul (a := 40) (b := 40) (by omega) (by decide) (by decide) (by decide) (by decide)))) ev_c rv_i0) ev_c (rv_i (by decide)))) fun v H2 e2 hv => ?_
    subst hv
    have g2 := e1.trans e2
    refine ⟨_, rfl, pen, _, 0, 0, rfl, rfl, g2.lst hpen, rfl, ?_⟩
    generalize hx : (n % 2147483629 * 48271 + 11) % 2147483629 = x
    have x0 : 0 ≤ x := by rw [← hx]; exact Int.emod_nonneg _ (by decide)
    have x1 : x < 2147483629 := by rw [← hx]; exact Int.emod_lt_of_pos _ (by decide)
    have hp3 : upd H2 pen (.lst ([V.int n, .int i].set 0 (.int x))) pen = some (.lst [.int x, .int i]) := upd_same
    have rd : ∀ {H4 : Hp}, Wd T (upd H2 pen (.lst ([V.int n, .int i].set 0 (.int x)))) H4 → Ev T (tOp (rIxL K) (tVar 0) (tC (.int 0))) (L2.start N_L_draw [V.ref pen, V.int m]) H4 (.int x) := fun e4 => ev_op (ev_var rfl) ev_c (rv_ixl (sl_of (e4.lst hp3)) (atI_nat' (n := 0) rfl))
    refine s_ret (T := T) (ev_op (ev_op (ev_op (ev_op (ev_op (rd (.refl _)) (rd (.refl _)) (rv_i (wide_mul (a := 40) (b := 40) (by omega) (by omega) (by decide) (by decide) (by decide)))) (ev_op ev_c (rd (.refl _)) (rv_i (wide_mul (a := 40) (b := 40) (by decide) (by omega) (by decide) (by decide) (by decide)))) rv_i0) ev_c (rv_i (by decide))) ev_c (rv_i (wide_div (b := 30) (by decide) (by decide) (by decide) (by decide)))) (ev_var rfl) (rv_i m1)) fun H4 e4 => q _ H4 ((pw g2).trans (e4.kpen (pw g2).p1)) ⟨_, rfl, Int.emod_nonneg _ (by omega), Int.emod_lt_of_pos _ m1⟩
def p_cell (K : PySem.W.Frag) : List V → Hp → V → Prop := fun vs H v => ∃ (a : Addr) (ns : List Int), vs = [.ref a, .int 0] ∧ SqL K H a (ns.map V.int) ∧ v = .int (ns.headD 0)
theorem fn_cell (S : Say K mg) : Fn P w K mg base dL_cell 1 ["_law_script", "_law_k"] (spV T (p_cell K)) := by
  refine fn_v S.f_L_cell sc_L_cell (fun vs H v h => by obtain ⟨_, _, rfl, _⟩ := h; rfl) fun cdv A outer s H vs E hr => ⟨_, (tm_L_cell S _ cdv A outer s H E hr).2, fun v H0 Q e h q => ?_⟩
  obtain ⟨a, ns, rfl, ha, rfl⟩ := h
  dsimp only [tm_L_cell]
  cases ns with
  | nil =>
    refine q_if (T := T) (b := false) (.is (et_test (ev_op (ev_var rfl) (ev_cb (ea1 (ev_var rfl)) (rc_lenL (e.sql ha))) rv_i0)) rfl) (fun h => by cases h) fun _ H1 e1 => ?_
    exact s_rv (ev_c : Ev T _ _ H1 _) (.refl H1) (q.mono e1) rfl
  | cons n ns =>
    refine q_if (T := T) (b := true) (.is (et_test (ev_op (ev_var rfl) (ev_cb (ea1 (ev_var rfl)) (rc_lenL (e.sql ha))) rv_i0)) (by rw [decide_eq_true]; simp)) (fun _ H1 e1 => ?_) fun h => by cases h
    exact s_rv (T := T) (ev_op (ev_var rfl) (ev_var rfl) (rv_ixl (v := .int n) ((e.trans e1).sql ha) (atI_nat' (n := 0) rfl))) (.refl H1) (q.mono e1) rfl
def p_pen : List V → Hp → (V → Hp → Prop) → Prop := fun vs H Φ => ∃ n : Int, vs = [.int n] ∧ Φ = fun v H2 => ∃ pen, v = .ref pen ∧ New H pen ∧ PenAt H2 pen
theorem fn_pen (S : Say K mg) : Fn P w K mg base dL_pen 1 ["_law_cell_here"] (spO T p_pen) := by
  refine fn_o S.f_L_pen sc_L_pen (fun vs H v h => by obtain ⟨_, rfl, _⟩ := h; rfl) fun cdv A outer s H vs E hr => ⟨_, (tm_L_pen S _ cdv A outer s H E hr).2, fun Φ H0 Q e h q => ?_⟩
  obtain ⟨n, rfl, rfl⟩ := h
  dsimp only [tm_L_pen]
  refine s_ro (H0 := H) ((eo_lst (vs := [.int n, .int (if decide ((10 : Int) ^ (18 : Int).toNat ≤ n) then 1 else 0)]) (ea2 (ev_var rfl) (ev_cb (ea1 (ev_op (ev_var rfl) (ev_op ev_c ev_c (rv_i (by refine ⟨by decide, by decide, by decide⟩))) rv_i0)) (rc_now fun H1 e1 Q q => .inr ⟨_, rfl, q⟩))) (by simp)).imp fun v H2 e2 hv => ?_) (.refl H) q
  obtain ⟨p, rfl, nw, hp⟩ := hv
  exact ⟨p, rfl, nw.back e, n, _, hp, by split <;> decide, by split <;> decide⟩
end
end Bb
/-! ## part Rd12 -/
/-! the law's helpers -/
namespace Bb
open PySem PySem.Spec PyProof.Rows L2 LamX BbS NdefX PySem.W
section
variable {T : TT0} {P : Program} {w : World} {K : PySem.W.Frag} {mg : Str → Option Value} {base : Heap} {H H0 H1 H2 H' : Hp} {a p pen : Addr} {σ : L2.St} {te ta tb : TE} {ts tr tk : TA} {v x y z : V} {vs us zs xs ds : List V} {Φ Ψ Θ : V → Hp → Prop} {B B' : Bk} {i : Nat}
def six : List Str := ["ann", "bo", "cy", "dora", "eve", "z"]
def p_names : List V → Hp → (V → Hp → Prop) → Prop := fun vs H Φ => vs = [] ∧ Φ = NLst H (six.map V.str)
theorem fn_names (S : Say K mg) : Fn P w K mg base dL_names 1 [] (spO T p_names) := by
  refine fn_o S.f_L_names sc_L_names (fun vs H v h => by rw [h.1]; rfl) fun cdv A outer s H vs E hr => ⟨_, (tm_L_names S _ cdv A outer s H E hr).2, fun Φ H0 Q e h q => ?_⟩
  obtain ⟨rfl, rfl⟩ := h
  dsimp only [tm_L_names]
  exact s_ro (H0 := H0) (eo_lst (ea_cons ev_c (ea_cons ev_c (ea_cons ev_c (ea3 ev_c ev_c ev_c)))) (by decide)) e q
def p_Ldeed (K : PySem.W.Frag) : List V → Hp → (V → Hp → Prop) → Prop := fun vs H Φ => ∃ t r, vs = [.ref t] ∧ H t = some (.tup (rowV r)) ∧ RwOk r ∧ Φ = fun v H2 => ∃ d dx, v = .ref d ∧ New H d ∧ H2 d = some (.ins (cDeed K) dx (rowF r))
theorem fn_Ldeed (S : Say K mg) : Fn P w K mg base dL_deed 6 ["_law_row_here"] (spO T (p_Ldeed K)) := by
  obtain ⟨_, F1, O1⟩ := fn_Deed_init (T := T) (P := P) (w := w) (base := base) S
  obtain ⟨_, KB1⟩ := kb_Deed_init F1
  refine fn_o S.f_L_deed sc_L_deed (fun vs H v h => by obtain ⟨_, _, rfl, _⟩ := h; rfl) fun cdv A outer s H vs E hr => ⟨_, (tm_L_deed S F1 O1 KB1 _ cdv A outer s H E hr).2, fun Φ H0 Q e h q => ?_⟩
  obtain ⟨t, r, rfl, ht, ok, rfl⟩ := h
  dsimp only [tm_L_deed]
  have rd : ∀ {n : Nat} {v : V}, (rowV r)[n]? = some v → Ev T (tOp (rIxT K) (tVar 0) (tC (.int (n : Int)))) (L2.start N_L_deed [V.ref t]) H0 v := fun hv => ev_op (ev_var rfl) ev_c (rv_ixt (st_of ht) (atI_nat' hv))
  exact s_ro (H0 := H0) (eo_make (args := rowV r) (fs := rowF r) (ea_cons (rd (n := 0) rfl) (ea3 (rd (n := 1) rfl) (rd (n := 2) rfl) (rd (n := 3) rfl))) (ea3 (rd (n := 4) rfl) (rd (n := 5) rfl) (rd (n := 6) rfl)) rfl rfl (fun x => rfl) fun H1 e1 => ⟨r, rfl, ok, rfl⟩) e q
theorem e_mutN {C dx : Addr} {fs : List (Str × V)} {m : Str} {pre : List V → Hp → Addr → Bk → V → Prop} {n mk : Nat} {gV : List V → List V → List V} {tq : VK} (ho : σ[i]? = some (some (.ref a))) (hA : H a = some (.ins C dx fs)) (l : fs.lookup m = none) (hs : EvA T ts σ H vs) (hk : EvA T tk σ H zs) (l1 : vs.length = n) (l2 : zs.length = mk)
    (h : ∀ H1, Wd T H H1 → pre (gV (.ref a :: vs) zs) H1 a B' v) (k : ∀ H', WdM T a H H' → BookAt K H' a B' → tq v H') : tMethN C m n mk (spM T K pre) gV E0 (tVar i) ts tk σ H tq :=
  ⟨_, ho, a, dx, fs, rfl, hA, l, hs H (.refl H) _ fun H1 e1 => hk H1 e1 _ fun H2 e2 => ⟨l1, l2, a, B', v, h H2 (e1.trans e2), fun H' m' b => k H' ((e1.trans e2).wm.trans m') b⟩⟩
structure PapFit (B : Bk) (z : Pap Nat) : Prop where
  ok : PapOk B z
  fit : match z with
    | .out n _ | .inn n _ => n < B.told.length
    | .right c _ => nameB c = true
    | .wrong c f t _ => nameB c = true ∧ 0 ≤ f ∧ f ≤ t ∧ t ≤ 40000
def p_Ltell (K : PySem.W.Frag) : List V → Hp → Addr → Bk → V → Prop := fun vs H a B' v => ∃ t B z, vs = [.ref a, .ref t] ∧ BookAt K H a B ∧ H t = some (.tup (papV z)) ∧ PapFit B z ∧ B' = addP B z ∧ v = .non
theorem fn_Ltell (S : Say K mg) : Fn P w K mg base dL_tell 6 ["_law_book", "_law_paper_here"] (spM T K (p_Ltell K)) := by
  obtain ⟨_, F1, O1⟩ := fn_strike (T := T) (P := P) (w := w) (base := base) S
  obtain ⟨_, F2, O2⟩ := fn_restore (T := T) (P := P) (w := w) (base := base) S
  obtain ⟨_, F3, O3⟩ := fn_measure (T := T) (P := P) (w := w) (base := base) S
  obtain ⟨_, F4, O4⟩ := fn_uphold (T := T) (P := P) (w := w) (base := base) S
  refine fn_m S.f_L_tell sc_L_tell (fun vs H a B v h => by obtain ⟨_, _, _, rfl, _⟩ := h; rfl) fun cdv A outer s H vs E hr => ⟨_, (tm_L_tell S F1 O1 F2 O2 F3 O3 F4 O4 _ cdv A outer s H E hr).2, fun a B' v Q h q => ?_⟩
  obtain ⟨t, B, z, rfl, ⟨A, hA, pt⟩, ht, ok, rfl, rfl⟩ := h
  dsimp only [tm_L_tell]
  have rd : ∀ {n : Nat} {v : V} {H1 : Hp}, Wd T H H1 → (papV z)[n]? = some v → Ev T (tOp (rIxT K) (tVar 1) (tC (.int (n : Int)))) (L2.start N_L_tell [V.ref a, V.ref t]) H1 v := fun e1 hv => ev_op (ev_var rfl) ev_c (rv_ixt (st_of (e1.tup ht)) (atI_nat' hv))
  have ts : ∀ {d : Str} {H1 : Hp} {c : Str}, Wd T H H1 → (papV z)[0]? = some (.str c) → EvT T (tTest (tOp rEq (tOp (rIxT K) (tVar 1) (tC (.int 0))) (tC (.str d)))) (L2.start N_L_tell [V.ref a, V.ref t]) H1 (decide (V.str c = V.str d)) := fun e1 hv => et_test (ev_op (rd (n := 0) e1 hv) ev_c (rv_eq rfl))
  cases z with
  | out n k =>
    refine q_if (T := T) (ts (.refl H) rfl) (fun _ H1 e1 => ?_) fun h => by cases h
    exact e_mut (T := T) rfl (e1.ins hA) rfl (ea2 (rd (n := 1) e1 rfl) (rd (n := 2) e1 rfl)) (fun H2 e2 => ⟨B, n, k, rfl, ⟨A, (e1.trans e2).ins hA, pt.mono (e1.trans e2)⟩, ok.fit, ok.ok, rfl, rfl⟩) fun H' m b => q H' (e1.wm.trans m) b
  | inn n k =>
    refine q_if (T := T) (ts (.refl H) rfl) (fun h => by cases h) fun _ H1 e1 => ?_
    refine q_if (T := T) (ts e1 rfl) (fun _ H2 e2 => ?_) fun h => by cases h
    have g2 := e1.trans e2
    exact e_mutN (T := T) rfl (g2.ins hA) rfl (ea1 (rd (n := 1) g2 rfl)) (ea1 (rd (n := 2) g2 rfl)) rfl rfl (fun H3 e3 => ⟨B, n, k, rfl, ⟨A, (g2.trans e3).ins hA, pt.mono (g2.trans e3)⟩, ok.fit, ok.ok, rfl, rfl⟩) fun H' m b => q H' (g2.wm.trans m) b
  | right c k =>
    refine q_if (T := T) (ts (.refl H) rfl) (fun h => by cases h) fun _ H1 e1 => ?_
    refine q_if (T := T) (ts e1 rfl) (fun h => by cases h) fun _ H2 e2 => ?_
    refine q_if (T := T) (ts (e1.trans e2) rfl) (fun _ H3 e3 => ?_) fun h => by cases h
    have g2 := (e1.trans e2).trans e3
    exact e_mut (T := T) rfl (g2.ins hA) rfl (ea2 (rd (n := 1) g2 rfl) (rd (n := 2) g2 rfl)) (fun H3 e3 => ⟨B, c, k, rfl, ⟨A, (g2.trans e3).ins hA, pt.mono (g2.trans e3)⟩, ok.fit, ok.ok, rfl, rfl⟩) fun H' m b => q H' (g2.wm.trans m) b
  | wrong c f u k =>
    obtain ⟨f1, f2, f3, f4⟩ := ok.fit
    refine q_if (T := T) (ts (.refl H) rfl) (fun h => by cases h) fun _ H1 e1 => ?_
    refine q_if (T := T) (ts e1 rfl) (fun h => by cases h) fun _ H2 e2 => ?_
    refine q_if (T := T) (ts (e1.trans e2) rfl) (fun h => by cases h) fun _ H3 e3 => ?_
    have g2 := (e1.trans e2).trans e3
    exact e_mutN (T := T) rfl (g2.ins hA) rfl (ea2 (rd (n := 1) g2 rfl) (rd (n := 2) g2 rfl)) (ea2 (rd (n := 3) g2 rfl) (rd (n := 4) g2 rfl)) rfl rfl (fun H3 e3 => ⟨B, c, f, u, k, rfl, ⟨A, (g2.trans e3).ins hA, pt.mono (g2.trans e3)⟩, f1, f2, f3, f4, ok.ok, rfl, rfl⟩) fun H' m b => q H' (g2.wm.trans m) b
end
end Bb
/-! ## part Rd13 -/
/-! rules and clubs drawn -/
namespace Bb
open PySem PySem.Spec PyProof.Rows L2 LamX BbS NdefX PySem.W
section
variable {T : TT0} {P : Program} {w : World} {K : PySem.W.Frag} {mg : Str → Option Value} {base : Heap} {H H0 H1 H2 H' : Hp} {a p pen : Addr} {σ : L2.St} {te ta tb : TE} {ts tr tk : TA} {v x y z : V} {vs us zs xs ds : List V} {Φ Ψ Θ : V → Hp → Prop} {B B' : Bk} {i : Nat}
/-- draw(pen, m) -/
theorem ed_draw {m : Int} (h : σ[i]? = some (some (.ref pen))) (hb : EvD T pen tb σ H fun x _ => x = .int m) (m1 : 0 < m) (m2 : m ≤ 2000000) : EvD T pen (tCall (spD T p_draw) [] E0 (tCons (tVar i) (tCons tb tNil))) σ H (drawn m) :=
  ed_call (Ψ := fun us _ => us = [.ref pen, .int m]) (eda_cons (ed_var h) fun x H1 k1 hx => eda_cons (hb.mono k1) fun y H2 k2 hy => eda_nil.imp fun us H3 k3 hu => by rw [hx, hy, hu]) fun us H1 k1 hu => ⟨m, by rw [hu]; rfl, m1, m2, rfl⟩
theorem ed_drawC {m : Int} (h : σ[i]? = some (some (.ref pen))) (m1 : 0 < m) (m2 : m ≤ 2000000) : EvD T pen (tCall (spD T p_draw) [] E0 (tCons (tVar i) (tCons (tC (.int m)) tNil))) σ H (drawn m) := ed_draw h ed_c m1 m2
/-- draw(pen, m), m itself one of some -/
theorem ed_drawG {Pm Pk : Int → Prop} (h : σ[i]? = some (some (.ref pen))) (hb : EvD T pen tb σ H fun x _ => ∃ m : Int, x = .int m ∧ Pm m) (hm : ∀ m, Pm m → 0 < m ∧ m ≤ 2000000 ∧ ∀ k, 0 ≤ k → k < m → Pk k) : EvD T pen (tCall (spD T p_draw) [] E0 (tCons (tVar i) (tCons tb tNil))) σ H fun v _ => ∃ k : Int, v = .int k ∧ Pk k := fun H1 k1 Q q =>
  ed_var h H1 k1 _ fun x H2 k2 hx => hb H2 (k1.trans k2) _ fun y H3 k3 ⟨m, hy, hp⟩ => ⟨pen, drawn m, k3.p1, ⟨m, by rw [hx, hy]; rfl, (hm m hp).1, (hm m hp).2.1, rfl⟩, fun v H4 k4 ⟨k, hv, h1, h2⟩ => q v H4 ((k2.trans k3).trans k4) ⟨k, hv, (hm m hp).2.2 k h1 h2⟩⟩
/-- [a, b, ..][draw] -/
theorem ed_pick {n : Int} {m : Nat} {Pv : V → Prop} (h : EdA T pen ts σ H fun us _ => us.length = m ∧ ∀ u ∈ us, Pv u) (hm : m ≤ 1000000) (hn : n ≤ m) (hb : ∀ H1, Kp T pen H H1 → EvD T pen tb σ H1 (drawn n)) : EvD T pen (tOp (rIxL K) (tLst ts) tb) σ H fun v _ => Pv v :=
  ed_op (ed_lst h fun us _ hu => by rw [hu.1]; exact hm) fun x H1 k1 ⟨us, p, H2, ex, ne, hp, _, hl, hu⟩ => (hb H1 k1).imp fun y H3 k3 ⟨k, ey, k0, kn⟩ => by
    subst ex ey
    obtain ⟨j, rfl⟩ : ∃ j : Nat, k = (j : Int) := ⟨k.toNat, by omega⟩
    have hj : j < us.length := by omega
    exact fun H4 e4 Q q => rv_ixl (v := us[j]) (sl_of (k3.lst hp ne)) (atI_nat' (List.getElem?_eq_getElem hj)) H4 e4 _ fun H5 e5 => q _ H5 e5 (hu _ (List.getElem_mem hj))
theorem eda_cs {Pv : V → Prop} (h : EdA T pen tr σ H fun us _ => us.length = i ∧ ∀ u ∈ us, Pv u) (hv : Pv v) : EdA T pen (tCons (tC v) tr) σ H fun us _ => us.length = i + 1 ∧ ∀ u ∈ us, Pv u :=
  fun H1 k Q q => h H1 k _ fun us H2 k2 hu => q (v :: us) H2 k2 ⟨by rw [List.length_cons, hu.1], fun u hm => by
    rcases List.mem_cons.mp hm with rfl | hm
    · exact hv
    · exact hu.2 u hm⟩
theorem eda_cg {Pv : V → Prop} (he : EvD T pen te σ H fun v _ => Pv v) (h : ∀ H1, Kp T pen H H1 → EdA T pen tr σ H1 fun us _ => us.length = i ∧ ∀ u ∈ us, Pv u) : EdA T pen (tCons te tr) σ H fun us _ => us.length = i + 1 ∧ ∀ u ∈ us, Pv u :=
  eda_cons he fun v H1 k1 hv => (h H1 k1).imp fun us H2 k2 hu => ⟨by rw [List.length_cons, hu.1], fun u hm => by
    rcases List.mem_cons.mp hm with rfl | hm
    · exact hv
    · exact hu.2 u hm⟩
theorem eda_nl {Pv : V → Prop} : EdA T pen tNil σ H fun us _ => us.length = 0 ∧ ∀ u ∈ us, Pv u := eda_nil.imp fun us _ _ hu => by
  subst hu
  exact ⟨rfl, fun u h => by cases h⟩
/-- [e for x in range(n)], e draws -/
theorem lcD_rng {Pk : V → Prop} {j : Nat} {vn : List Nat} {N : Nat} (h : EdA T pen ta' σ H fun us _ => ∃ n : Nat, us = [.int (n : Int)] ∧ n ≤ N) (hN : N ≤ 1000) (hw : ∀ x, wipe (sl1 σ vn j x) vn = wipe σ vn) (he : ∀ (x : V) H1, Kp T pen H H1 → EvD T pen te (sl1 σ vn j x) H1 fun v _ => Pk v) :
    EvD T pen (tLc (iRng1 ta') (gName j) tYes te vn) σ H fun v H2 => ∃ l ys, v = .ref l ∧ l ≠ pen ∧ H2 l = some (.lst ys) ∧ ys.length ≤ N ∧ ∀ y ∈ ys, Pk y := fun H1 k1 Q q =>
  h H1 k1 _ fun us H2 k2 ⟨n, eu, hn⟩ => ⟨(n : Int), eu, by omega, by omega, fun Dl hD => by
    have nD := pen_none k2.p1 hD
    have w := walk_range (lo := 0) (n := n)
    refine lc_it w (fun i H' => Kp T pen H2 H' ∧ ∃ ys, H' Dl = some (.lst ys) ∧ ys.length = i ∧ ∀ y ∈ ys, Pk y) ⟨Wd.kpen (.new hD) k2.p1, [], upd_same, rfl, fun y h => by cases h⟩ (fun _ _ _ _ => trivial) (fun i x H' H'' hi ⟨k3, ys, hys, hl, hy⟩ ⟨eH, ex⟩ => ?_) fun H' ⟨k3, ys, hys, hl, hy⟩ => q _ _ (k2.trans k3) ⟨Dl, ys, rfl, nD, hys, by omega, hy⟩
    subst eH
    refine ⟨hw _, ?_⟩
    show te (sl1 σ vn j x) _ _
    refine he x _ ((k1.trans k2).trans k3) _ (.refl k3.p1) _ fun v H4 k4 hv => ?_
    have hys4 := k4.lst hys nD
    refine ⟨ys, hys4, lt_line (by omega), ⟨k3.p0, ?_, fun b o hb ne nt => ?_, fun t => tabs_upd (k4.tb (k3.tb t)) hys4 trivial⟩, ys ++ [v], upd_same, by rw [List.length_append, hl]; rfl, fun y h => ?_⟩
    · obtain ⟨n', m', p1, p2⟩ := k4.p1
      exact ⟨n', m', by rw [upd_ne nD.symm]; exact p1, p2⟩
    · rw [upd_ne (ne_of_none hb hD)]
      exact k4.kp b o (k3.kp b o hb ne nt) ne nt
    · rcases List.mem_append.mp h with h | h
      · exact hy y h
      · rw [List.mem_singleton.mp h]
        exact hv⟩
theorem ed_cbm {r : List V → Hp → VK → Prop} (h : EvD T pen te σ H Φ) (g : ∀ x H1, Kp T pen H H1 → Φ x H1 → RCO T r [x] H1 Ψ) : EvD T pen (tCB r (tCons te tNil)) σ H Ψ := fun H1 k Q q =>
  h H1 k _ fun x H2 k2 f => g x H2 (k.trans k2) f H2 (.refl H2) Q fun v H3 e3 hv => q v H3 (k2.trans (e3.kpen k2.p1)) hv
theorem foldK_nodup : ∀ (ks L : List Key), L.Nodup → (ks.foldl addK L).Nodup
  | [], _, h => h
  | k :: ks, L, h => by
    refine foldK_nodup ks (addK L k) ?_
    unfold addK
    split
    · exact h
    · rename_i hn
      exact List.nodup_cons.mpr ⟨fun z => hn (hasK_iff.mpr z), h⟩
theorem membs_nd (ks : List Key) : (membs ks).Nodup := foldK_nodup ks [] List.nodup_nil
theorem inl_of : ∀ {L : List Key}, (∀ k ∈ L, ∃ i : Int, k = Sum.inl i) → ∃ bs : List Int, L = bs.map Sum.inl
  | [], _ => ⟨[], rfl⟩
  | k :: L, h => by
    obtain ⟨i, rfl⟩ := h k List.mem_cons_self
    obtain ⟨bs, rfl⟩ := inl_of (L := L) fun x hx => h x (List.mem_cons_of_mem _ hx)
    exact ⟨i :: bs, rfl⟩
theorem ints_of {P : Int → Prop} : ∀ {ys : List V}, (∀ y ∈ ys, ∃ n : Int, y = .int n ∧ P n) → ∃ ks : List Int, ys = ks.map V.int ∧ ∀ n ∈ ks, P n
  | [], _ => ⟨[], rfl, fun _ h => by cases h⟩
  | y :: ys, h => by
    obtain ⟨n, rfl, hn⟩ := h y List.mem_cons_self
    obtain ⟨ks, rfl, hk⟩ := ints_of (ys := ys) fun x hx => h x (List.mem_cons_of_mem _ hx)
    exact ⟨n :: ks, rfl, fun m hm => by
      rcases List.mem_cons.mp hm with rfl | hm
      · exact hn
      · exact hk m hm⟩
theorem dataLe_int {a b : Int} (h : dataLe false PyData.int a b = true) : a ≤ b := by
  simp [dataLe, sortLe, keyToks, PyProof.Rows.lexLt, itemLt] at h
  omega
def TermsAt (H : Hp) (t : Addr) (R : Trm) : Prop := ∃ l, H t = some (.tup [.ref l, .bl R.up, .int R.wind, .bl R.shares]) ∧ H l = some (.tup (R.limits.map V.int))
structure TrmOk (R : Trm) : Prop where
  lim : LimOk R.limits
  w1 : -99 ≤ R.wind
  w2 : R.wind ≤ 99
def p_rules : List V → Hp → Addr → (V → Hp → Prop) → Prop := fun vs _ pen Φ => vs = [.ref pen] ∧ Φ = fun v H2 => ∃ t R, v = .ref t ∧ TermsAt H2 t R ∧ TrmOk R
theorem fn_rules (S : Say K mg) : Fn P w K mg base dL_rules 2 ["_law_pen_here"] (spD T p_rules) := by
  obtain ⟨_, F1, O1⟩ := fn_draw (T := T) (P := P) (w := w) (base := base) S
  refine fn_d S.f_L_rules sc_L_rules (fun vs H p v h => by rw [h.1]; rfl) fun cdv A outer s H vs E hr => ⟨_, (tm_L_rules S F1 O1 _ cdv A outer s H E hr).2, fun pen Φ Q hp h q => ?_⟩
  obtain ⟨rfl, rfl⟩ := h
  dsimp only [tm_L_rules]
  refine dq_asg (Φ := fun v H2 => ∃ l, ∃ ks : List Int, v = .ref l ∧ H2 l = some (.tup (ks.map V.int)) ∧ LimOk ks) hp (ed_cbm (Φ := fun v H2 => ∃ l, ∃ ks : List Int, v = .ref l ∧ H2 l = some (.lst (ks.map V.int)) ∧ ks.length ≤ 4 ∧ (∀ n ∈ ks, 1 ≤ n ∧ n ≤ 99) ∧ ks.Pairwise (· < ·)) (ed_cbm (Φ := fun v H2 => ∃ l, ∃ ks : List Int, v = .ref l ∧ H2 l = some (SetMO P w l (ks.map Sum.inl)) ∧ ks.length ≤ 4 ∧ (∀ n ∈ ks, 1 ≤ n ∧ n ≤ 99) ∧ ks.Nodup) (ed_cbm (Φ := fun v H2 => ∃ l, ∃ ks : List Int, v = .ref l ∧ H2 l = some (.lst (ks.map V.int)) ∧ ks.length ≤ 4 ∧ ∀ n ∈ ks, 1 ≤ n ∧ n ≤ 99)
    ((lcD_rng (N := 4) (Pk := fun v => ∃ n : Int, v = .int n ∧ 1 ≤ n ∧ n ≤ 99) (eda_cons (ed_drawC rfl (by decide) (by decide)) fun x H1 k1 ⟨k, hx, h0, h5⟩ => eda_nil.imp fun us H2 k2 hu => ⟨k.toNat, by rw [hu, hx, Int.toNat_of_nonneg h0], by omega⟩) (by decide) (fun _ => rfl) fun x H1 k1 => ed_op (Θ := fun v _ => ∃ n : Int, v = .int n ∧ 1 ≤ n ∧ n ≤ 99) (ed_c (v := .int 1)) fun y H2 k2 hy =>
      (ed_drawG (Pm := fun m => m = 30 ∨ m = 99) (Pk := fun n => 0 ≤ n ∧ n ≤ 98) rfl ((ed_pick (n := 2) (m := 2) (Pv := fun v => v = .int 30 ∨ v = .int 99) (eda_cs (eda_cs eda_nl (.inr rfl)) (.inl rfl)) (by decide) (by decide) fun H3 k3 => ed_drawC rfl (by decide) (by decide)).imp fun v H3 k3 hv => ?_) fun m hm => ⟨by omega, by omega, fun k h0 h1 => ⟨h0, by omega⟩⟩).imp fun z H3 k3 ⟨n, hz, hn⟩ => ?_).imp fun v H2 k2 ⟨l, ys, ev, ne, hl, hlen, hy⟩ => ?_)
      (fun v H1 k1 ⟨l, ks, ev, hl, hlen, hk⟩ H2 e2 Q q => ⟨l, ks.map Sum.inl, by rw [ev], ?_, ?_, fun pn hpn => q _ _ (.new hpn) ?_⟩)) (fun v H1 k1 ⟨l, ks, ev, hl, hlen, hk, nd⟩ H2 e2 Q q => ⟨l, ks, by rw [ev], e2.get hl nt_set, by omega, fun bs pn pm hpn => q _ _ (.new hpn) ⟨pn, bs.mergeSort (dataLe false PyData.int), rfl, ?_, ?_, fun n hn => hk n (pm.mem_iff.mp (List.mem_mergeSort.mp hn)), ?_⟩⟩))
      (fun v H1 k1 ⟨l, ks, ev, hl, hlen, hk, pw⟩ H2 e2 Q q => ⟨l, _, by rw [ev], .inl ⟨sl_of (e2.lst hl), fun pn hpn => q _ _ (.new hpn) ⟨pn, ks, rfl, upd_same, hlen, hk, pw⟩⟩⟩)) fun v H1 k1 ⟨l, ks, ev, hl, lim⟩ => ?_
  · rcases hv with hv | hv
    · exact ⟨30, hv, .inl rfl⟩
    · exact ⟨99, hv, .inr rfl⟩
  · subst hy hz
    exact fun H4 e4 Q q => rv_i0 H4 e4 _ fun H5 e5 => q _ H5 e5 ⟨1 + n, rfl, by omega, by omega⟩
  · obtain ⟨ks, rfl, hk⟩ := ints_of hy
    rw [List.length_map] at hlen
    exact ⟨l, ks, ev, hl, hlen, hk⟩
  · rw [List.map_map]
    exact sl_of (e2.lst hl)
  · rw [List.length_map]
    omega
  · obtain ⟨bs, hbs⟩ := inl_of (L := membs (ks.map Sum.inl)) fun k hk => by
      obtain ⟨i, _, rfl⟩ := List.mem_map.mp ((membs_mem _ _).mp hk)
      exact ⟨i, rfl⟩
    refine ⟨pn, bs, rfl, by rw [upd_same, hbs], ?_, fun n hn => ?_, ?_⟩
    · have h1 := membs_len (ks.map Sum.inl)
      rw [hbs, List.length_map, List.length_map] at h1
      omega
    · have h1 : (Sum.inl n : Key) ∈ membs (ks.map Sum.inl) := by
        rw [hbs]
        exact List.mem_map.mpr ⟨n, hn, rfl⟩
      obtain ⟨m, hm, e⟩ := List.mem_map.mp ((membs_mem _ _).mp h1)
      cases e
      exact hk n hm
    · have h1 := membs_nd (ks.map Sum.inl)
      rw [hbs] at h1
      exact (List.pairwise_map.mp h1).imp fun h e => h (congrArg _ e)
  · rw [upd_same]
    rfl
  · rw [List.length_mergeSort, pm.length_eq]
    exact hlen
  · have h1 := sort_pairwise (sortLe_total (listOrd itemOrd) false fun b => keyToks (PyData.int b)) bs
    have h2 : (bs.mergeSort (dataLe false PyData.int)).Nodup := ((List.mergeSort_perm bs _).trans pm).nodup_iff.mpr nd
    exact (h1.and h2).imp fun ⟨h3, h4⟩ => by
      have := dataLe_int h3
      omega
  · have hl4 : cutV (ks.map V.int) none (some 4) = ks.map V.int := by
      unfold cutV
      have e1 : HT.sIx (ks.map V.int).length 0 none = 0 := rfl
      have e2 : HT.sIx (ks.map V.int).length (ks.map V.int).length (some 4) = min 4 (ks.map V.int).length := HT.sIx_nat _ _ 4
      have := lim.1
      rw [e1, e2, List.drop_zero, Nat.sub_zero, List.take_of_length_le (by rw [List.length_map]; omega)]
    subst ev
    have tb : ∀ {H3 : Hp}, Kp T pen H1 H3 → EvD T pen (tOp rEq (tCall (spD T p_draw) [] E0 (tCons (tVar 0) (tCons (tC (.int 2)) tNil))) (tC (.int 0))) _ H3 fun v _ => ∃ b : Bool, v = .bl b := fun {H3} k3 => ed_op (ed_drawC (σ := [some (.ref pen), some (.ref l), none]) rfl (by decide) (by decide)) fun x H4 k4 ⟨n, hx, _⟩ => (ed_c (v := .int 0)).imp fun y H5 k5 hy => by
      subst hx hy
      exact fun H6 e6 Q q => rv_eq rfl H6 e6 _ fun H7 e7 => q _ H7 e7 ⟨_, rfl⟩
    refine ds_ret k1.p1 ((ed_tup (Ψ := fun us H2 => ∃ (R : Trm) (l' : Addr), us = [.ref l', .bl R.up, .int R.wind, .bl R.shares] ∧ H2 l' = some (.tup (R.limits.map V.int)) ∧ TrmOk R) (eda_cons (Φ := MTup (ks.map V.int)) (ed_of fun H2 k2 => hl4 ▸ eo_slM (lo := none) (hi := some 4) (ev_var rfl) ep_none (ep_some ev_c) (k2.tup hl)) fun x1 G1 f1 h1 => eda_cons (tb f1) fun x2 G2 f2 h2 => eda_cons (ed_pick (n := 4) (m := 4) (Pv := fun v => ∃ n : Int, v = .int n ∧ -99 ≤ n ∧ n ≤ 99)
      (eda_cs (eda_cs (eda_cg ((ed_ev fun H2 k2 => ev_neg (i := 3) ev_c).imp fun v G k hx => ⟨-3, hx, by decide, by decide⟩) fun G k => eda_cs eda_nl ⟨99, rfl, by decide, by decide⟩) ⟨0, rfl, by decide, by decide⟩) ⟨20, rfl, by decide, by decide⟩) (by decide) (by decide) fun H3 k3 => ed_drawC rfl (by decide) (by decide)) fun x3 G3 f3 h3 => eda_cons (tb ((f1.trans f2).trans f3)) fun x4 G4 f4 h4 => eda_nil.imp fun us G5 f5 hu => ?_) fun us H2 hu => ?_).imp fun v H2 k2 hv => ?_) fun v H2 k2 hv => q v H2 (k1.trans k2) hv
    · subst hu
      obtain ⟨p1, rfl, hp1⟩ := h1
      obtain ⟨b2, rfl⟩ := h2
      obtain ⟨n3, rfl, n31, n32⟩ := h3
      obtain ⟨b4, rfl⟩ := h4
      exact ⟨⟨ks, b2, n3, b4⟩, p1, rfl, (((f2.trans f3).trans f4).trans f5).tup hp1, lim, n31, n32⟩
    · obtain ⟨_, _, rfl, _⟩ := hu
      simp
    · obtain ⟨us, p, H3, rfl, hp, ew, R, l', rfl, hl', ok⟩ := hv
      exact ⟨p, R, rfl, ⟨l', hp, ew.tup hl'⟩, ok⟩
end
end Bb
/-! ## part Rd14 -/
/-! a club drawn -/
namespace Bb
open PySem PySem.Spec PyProof.Rows L2 LamX BbS NdefX PySem.W
structure Clb where
  events : List Evt
  terms : Trm
  people : List (Str × Prs)
  nd : Nat
def PplD (H : Hp) (pe : Addr) (L : List (Str × Prs)) : Prop := ∃ Z : List (Str × Prs × Addr), Z.map (fun q => (q.1, q.2.1)) = L ∧ H pe = some (.dK (Z.map fun q => (Sum.inr q.1, V.ref q.2.2))) ∧ ∀ q ∈ Z, H q.2.2 = some (.tup [.int q.2.1.born, .str q.2.1.group, .str q.2.1.team])
def clKv (ev te pe de pa : Addr) : List (Key × V) := [(Sum.inr "events", .ref ev), (Sum.inr "terms", .ref te), (Sum.inr "people", .ref pe), (Sum.inr "deeds", .ref de), (Sum.inr "papers", .ref pa)]
def ClubAt (H : Hp) (c : Addr) (C : Clb) : Prop := ∃ ev te pe de pa xs, H c = some (.dK (clKv ev te pe de pa)) ∧ EvsAt H ev C.events ∧ TermsAt H te C.terms ∧ PplD H pe C.people ∧ H de = some (.tup xs) ∧ xs.length = C.nd
structure PrsOk (p : Prs) : Prop where
  b1 : -40000 ≤ p.born
  b2 : p.born ≤ 0
  g : nameB p.group = true
  t : p.team = ("" : Str) ∨ nameB p.team = true
structure ClOk (C : Clb) : Prop where
  ev : EvsOk C.events
  es : ∀ x ∈ C.events, PyData.strOk x.1 = true
  tr : TrmOk C.terms
  nm : C.people.map (·.1) = six
  pr : ∀ q ∈ C.people, PrsOk q.2
def evs3 : List Evt := [("run", "less", true), ("put", "more", false), ("leap", "more", true)]
section
variable {T : TT0} {P : Program} {w : World} {K : PySem.W.Frag} {mg : Str → Option Value} {base : Heap} {G H H0 H1 H2 H' : Hp} {a p pen : Addr} {σ : L2.St} {te ta tb : TE} {ts tr tk : TA} {v x y z : V} {vs us zs xs ds : List V} {Φ Ψ Θ : V → Hp → Prop} {B B' : Bk} {i : Nat} {C : Clb}
theorem Kp.mut {o o0 : HO} (k : Kp T pen G H') (n : New G p) (ne : p ≠ pen) (e : H' p = some o0) (pl : Plain o0) : Kp T pen G (upd H' p o) := by
  refine ⟨k.p0, ?_, fun b u hb nb nt => ?_, fun t => tabs_upd (k.tb t) e pl⟩
  · obtain ⟨n1, m1, h1, h2⟩ := k.p1
    exact ⟨n1, m1, by rw [upd_ne ne.symm]; exact h1, h2⟩
  · rw [upd_ne (n.ne hb nt)]
    exact k.kp b u hb nb nt
theorem EvsAt.kt {ev : Addr} {L : List Evt} (h : EvsAt H ev L) (kt : ∀ b xs, H b = some (.tup xs) → H' b = some (.tup xs)) : EvsAt H' ev L := by
  obtain ⟨E, e1, e2, e3⟩ := h
  exact ⟨E, e1, kt _ _ e2, fun q hq => kt _ _ (e3 q hq)⟩
theorem ClubAt.kt {c : Addr} (h : ClubAt H c C) (kt : ∀ b xs, H b = some (.tup xs) → H' b = some (.tup xs)) (kd : ∀ b xs, H b = some (.dK xs) → H' b = some (.dK xs)) : ClubAt H' c C := by
  obtain ⟨ev, te, pe, de, pa, xs, h1, h2, ⟨l, h3, h4⟩, ⟨Z, h5, h6, h7⟩, h8, h9⟩ := h
  exact ⟨ev, te, pe, de, pa, xs, kd _ _ h1, h2.kt kt, ⟨l, kt _ _ h3, kt _ _ h4⟩, ⟨Z, h5, kd _ _ h6, fun q hq => kt _ _ (h7 q hq)⟩, kt _ _ h8, h9⟩
theorem ClubAt.kp {c : Addr} (h : ClubAt H c C) (k : Kp T pen H H') : ClubAt H' c C := h.kt (fun _ _ e => k.tup e) fun _ _ e => k.dK e
theorem ClubAt.mono {c : Addr} (h : ClubAt H c C) (k : Wd T H H') : ClubAt H' c C := h.kt (fun _ _ e => k.tup e) fun _ _ e => k.dK e
/-- t[:n], n drawn -/
theorem ed_slh {Pn : Nat → Prop} {Ψ : List V → Hp → Prop} (h : EvD T pen te σ H fun v H2 => ∃ a xs, v = .ref a ∧ H2 a = some (.tup xs) ∧ Ψ xs H2) (hm : ∀ xs H2 H3, Kp T pen H2 H3 → Ψ xs H2 → Ψ xs H3) (hh : ∀ H1, Kp T pen H H1 → EvD T pen tb σ H1 fun v _ => ∃ n : Nat, v = .int (n : Int) ∧ Pn n) :
    EvD T pen (tSl (rSlA K) te tNoPart (tPart tb)) σ H fun v H2 => ∃ p n xs, v = .ref p ∧ H2 p = some (.tup (xs.take n)) ∧ Pn n ∧ Ψ xs H2 := fun H1 k1 Q q =>
  h H1 k1 _ fun v H2 k2 ⟨a, xs, ev, ha, hΨ⟩ => hh H2 (k1.trans k2) H2 (.refl k2.p1) _ fun u H3 k3 ⟨n, eu, hn⟩ => by
    subst ev eu
    have ec : cutV xs none (some (n : Int)) = xs.take n := by
      unfold cutV
      rw [HT.sIx_nat]
      show (xs.drop 0).take (min n xs.length - 0) = xs.take n
      rw [List.drop_zero, Nat.sub_zero]
      by_cases h : n ≤ xs.length
      · rw [Nat.min_eq_left h]
      · rw [Nat.min_eq_right (by omega), List.take_of_length_le (Nat.le_refl _), List.take_of_length_le (by omega)]
    refine ⟨(n : Int), rfl, a, xs, rfl, st_of (k3.tup ha), fun hw => ?_, fun _ p hp => ?_⟩
    · exact q _ _ (k2.trans k3) ⟨a, n, xs, rfl, by rw [← ec, cutV_whole hw]; exact k3.tup ha, hn, hm _ _ _ k3 hΨ⟩
    · have k4 : Kp T pen H3 (upd H3 p (.tup (cutV xs none (some (n : Int))))) := Wd.kpen (.new hp) k3.p1
      exact q _ _ ((k2.trans k3).trans k4) ⟨p, n, xs, rfl, by rw [upd_same, ec], hn, hm _ _ _ (k3.trans k4) hΨ⟩
def Ev3 (xs : List V) (H : Hp) : Prop := ∃ t1 t2 t3, xs = [.ref t1, .ref t2, .ref t3] ∧ EvTup H t1 ("run", "less", true) ∧ EvTup H t2 ("put", "more", false) ∧ EvTup H t3 ("leap", "more", true)
theorem ev3_at {H : Hp} {p : Addr} {n : Nat} {xs : List V} (h : Ev3 xs H) (hp : H p = some (.tup (xs.take n))) : EvsAt H p (evs3.take n) := by
  obtain ⟨t1, t2, t3, rfl, h1, h2, h3⟩ := h
  refine ⟨[((("run" : Str), ("less" : Str), true), t1), ((("put" : Str), ("more" : Str), false), t2), ((("leap" : Str), ("more" : Str), true), t3)].take n, ?_, ?_, fun q hq => ?_⟩
  · rw [List.map_take]
    rfl
  · rw [hp, List.map_take]
    rfl
  · have hq := List.mem_of_mem_take hq
    rcases List.mem_cons.mp hq with rfl | hq
    · exact h1
    · rcases List.mem_cons.mp hq with rfl | hq
      · exact h2
      · rw [List.mem_singleton.mp hq]
        exact h3
theorem ev3_ok {n : Nat} (h : 1 ≤ n ∧ n ≤ 3) : EvsOk (evs3.take n) ∧ ∀ x ∈ evs3.take n, PyData.strOk x.1 = true := by
  have hn : n = 1 ∨ n = 2 ∨ n = 3 := by omega
  rcases hn with rfl | rfl | rfl
  · exact ⟨⟨by decide, by decide, by decide +kernel, by decide +kernel⟩, by decide +kernel⟩
  · exact ⟨⟨by decide, by decide, by decide +kernel, by decide +kernel⟩, by decide +kernel⟩
  · exact ⟨⟨by decide, by decide, by decide +kernel, by decide +kernel⟩, by decide +kernel⟩
def p_club : List V → Hp → Addr → (V → Hp → Prop) → Prop := fun vs H pen Φ => vs = [.ref pen] ∧ Φ = fun v H2 => ∃ c C, v = .ref c ∧ ClubAt H2 c C ∧ ClOk C ∧ C.nd = 0
theorem fn_club (S : Say K mg) : Fn P w K mg base dL_club 3 ["_law_pen_here"] (spD T p_club) := by
  obtain ⟨_, F1, O1⟩ := fn_draw (T := T) (P := P) (w := w) (base := base) S
  obtain ⟨_, F2, O2⟩ := fn_rules (T := T) (P := P) (w := w) (base := base) S
  obtain ⟨_, F3, O3⟩ := fn_names (T := T) (P := P) (w := w) (base := base) S
  refine fn_d S.f_L_club sc_L_club (fun vs H p v h => by rw [h.1]; rfl) fun cdv A outer s H vs E hr => ⟨_, (tm_L_club S F1 O1 F2 O2 F3 O3 _ cdv A outer s H E hr).2, fun pen Φ Q hp h q => ?_⟩
  obtain ⟨rfl, rfl⟩ := h
  dsimp only [tm_L_club]
  refine dq_asg (Φ := fun v H2 => ∃ ev L, v = .ref ev ∧ EvsAt H2 ev L ∧ EvsOk L ∧ ∀ x ∈ L, PyData.strOk x.1 = true) hp ((ed_slh (T := T) (Ψ := Ev3) (Pn := fun n => 1 ≤ n ∧ n ≤ 3) (ed_of fun H1 k1 => (eo_tupA (Ψ := Ev3) (eao_cons (eo_tupm (ea3 ev_c ev_c ev_c) (by simp)) fun x1 G1 f1 h1 => eao_cons (eo_tupm (ea3 ev_c ev_c ev_c) (by simp)) fun x2 G2 f2 h2 => eao_cons (eo_tupm (ea3 ev_c ev_c ev_c) (by simp)) fun x3 G3 f3 h3 => eao_nil.imp fun us G4 f4 hu => ?_) fun us H2 hu => ?_).imp fun v H2 e2 hv => ?_) (fun xs H2 H3 k hx => ?_) fun H1 k1 => ed_op (ed_c (v := .int 1)) fun x H2 k2 hx => (ed_drawC rfl (by decide) (by decide)).imp fun y H3 k3 ⟨n, hy, n0, n1⟩ => ?_).imp fun v H2 k2 ⟨p, n, xs, ev, hv, hn, h3⟩ => ⟨p, _, ev, ev3_at h3 hv, (ev3_ok hn).1, (ev3_ok hn).2⟩) fun v H1 k1 hv => ?_
  · subst hu
    obtain ⟨p1, rfl, q1⟩ := h1
    obtain ⟨p2, rfl, q2⟩ := h2
    obtain ⟨p3, rfl, q3⟩ := h3
    exact ⟨p1, p2, p3, rfl, ((f2.trans f3).trans f4).tup q1, (f3.trans f4).tup q2, f4.tup q3⟩
  · obtain ⟨_, _, _, rfl, _⟩ := hu
    simp
  · obtain ⟨us, p, H3, rfl, _, hp, ew, t1, t2, t3, rfl, h1, h2, h3⟩ := hv
    exact ⟨p, _, rfl, hp, t1, t2, t3, rfl, ew.tup h1, ew.tup h2, ew.tup h3⟩
  · obtain ⟨t1, t2, t3, rfl, h1, h2, h3⟩ := hx
    exact ⟨t1, t2, t3, rfl, k.tup h1, k.tup h2, k.tup h3⟩
  · subst hx hy
    exact fun H4 e4 Q q => rv_i0 H4 e4 _ fun H5 e5 => q _ H5 e5 ⟨1 + n.toNat, by rw [Int.natCast_add, Int.toNat_of_nonneg n0]; rfl, by omega, by omega⟩
  obtain ⟨ev, L, rfl, hev, eok, estr⟩ := hv
  refine q_asgO (T := T) eo_dnew fun v H2 e2 ⟨pd, ev', npd, hpd⟩ => ?_
  subst ev'
  have k2 := e2.kpen k1.p1
  refine q_forG (T := T) (eo_call ea_nil (gvO ⟨rfl, rfl⟩)) fun v H3 e3 ⟨ls, ev', nls, hls⟩ => ⟨ls, six.map V.str, ev', fun i σ' H' => Kp T pen H1 H' ∧ H' ls = some (.lst (six.map V.str)) ∧ ∃ u3 u4, ∃ Z : List (Str × Prs × Addr), σ' = [some (.ref pen), some (.ref ev), some (.ref pd), u3, u4] ∧ Z.map (·.1) = six.take i ∧ H' pd = some (.dK (Z.map fun q => (Sum.inr q.1, V.ref q.2.2))) ∧
    ∀ q ∈ Z, H' q.2.2 = some (.tup [.int q.2.1.born, .str q.2.1.group, .str q.2.1.team]) ∧ PrsOk q.2.1, ?_, ?_, ?_, ?_⟩
  · exact ⟨k2.trans (e3.kpen k2.p1), hls, none, none, [], rfl, rfl, e3.dK hpd, fun q hq => by cases hq⟩
  · exact fun i σ' H' h => sl_of h.2.1
  · intro i x σ' H' hx ⟨k3, hl3, u3, u4, Z, es, z1, z2, z3⟩
    obtain ⟨n, hn, rfl⟩ := map_at hx
    subst es
    have nls2 := pen_new k2.p1 nls
    refine dq_asg (Φ := fun v _ => ∃ b : Int, v = .int b ∧ -40000 ≤ b ∧ b ≤ 0) k3.p1 (ed_op (ed_c (v := .int 0)) fun x G1 f1 hx => (ed_drawG (Pm := fun m => m = 400 ∨ m = 9000 ∨ m = 30000) (Pk := fun n => 0 ≤ n ∧ n < 30000) rfl ((ed_pick (n := 3) (m := 3) (Pv := fun v => v = .int 400 ∨ v = .int 9000 ∨ v = .int 30000) (eda_cs (eda_cs (eda_cs eda_nl (.inr (.inr rfl))) (.inr (.inl rfl))) (.inl rfl)) (by decide) (by decide) fun H3 k3 => ed_drawC rfl (by decide) (by decide)).imp fun v H3 k3 hv => ?_) fun m hm => ⟨by omega, by omega, fun k h0 h1 => ⟨h0, by omega⟩⟩).imp fun z H3 k3 ⟨n, hz, hn⟩ => ?_) fun v H4 k4 ⟨b, eb, b1, b2⟩ => ?_
    · rcases hv with hv | hv | hv
      · exact ⟨400, hv, .inl rfl⟩
      · exact ⟨9000, hv, .inr (.inl rfl)⟩
      · exact ⟨30000, hv, .inr (.inr rfl)⟩
    · subst hx hz
      exact fun H4 e4 Q q => rv_i0 H4 e4 _ fun H5 e5 => q _ H5 e5 ⟨0 - n, rfl, by omega, by omega⟩
    subst eb
    refine (ed_tup (T := T) (pen := pen) (Ψ := fun us _ => ∃ pr : Prs, us = [.int pr.born, .str pr.group, .str pr.team] ∧ PrsOk pr) (eda_cons (ed_var (v := .int b) rfl) fun x1 G1 f1 h1 => eda_cons (ed_pick (n := 3) (m := 3) (Pv := fun v => ∃ s : Str, v = .str s ∧ nameB s = true) (eda_cs (eda_cs (eda_cs eda_nl ⟨"kin", rfl, by decide +kernel⟩) ⟨"w", rfl, by decide +kernel⟩) ⟨"open", rfl, by decide +kernel⟩) (by decide) (by decide) fun H3 k3 => ed_drawC rfl (by decide) (by decide)) fun x2 G2 f2 h2 =>
      eda_cons (ed_pick (n := 2) (m := 2) (Pv := fun v => ∃ s : Str, v = .str s ∧ (s = ("" : Str) ∨ nameB s = true)) (eda_cs (eda_cs eda_nl ⟨"north", rfl, .inr (by decide +kernel)⟩) ⟨"", rfl, .inl rfl⟩) (by decide) (by decide) fun H3 k3 => ed_drawC rfl (by decide) (by decide)) fun x3 G3 f3 h3 => eda_nil.imp fun us G4 f4 hu => ?_) fun us H2 hu => ?_) H4 (.refl k4.p1) _ fun v H5 k5 ⟨us, p, H6, ev', hp5, ew, pr, eus, pok⟩ => ⟨_, rfl, _, rfl, pd, _, rfl, DPut.k (k := Sum.inr n) ((k4.trans k5).dK z2) (lt_line ?_), ?_⟩
    · subst h1 hu
      obtain ⟨s1, rfl, q1⟩ := h2
      obtain ⟨s2, rfl, q2⟩ := h3
      exact ⟨⟨b, s1, s2⟩, rfl, b1, b2, q1, q2⟩
    · obtain ⟨pr, rfl, _⟩ := hu
      simp
    · have := congrArg List.length z1
      rw [List.length_map, List.length_take] at this
      have h6 : six.length = 6 := rfl
      rw [List.length_map]
      omega
    · subst ev' eus
      have hpd5 := (k4.trans k5).dK z2
      have k35 := (k3.trans k4).trans k5
      have npd' : New H1 pd := npd
      have hne : pd ≠ pen := pen_ne k35.p1 hpd5 fun _ _ z => by cases z
      have vn : valV (Z.map fun q => ((Sum.inr q.1 : Key), V.ref q.2.2)) (Sum.inr n) = none := by
        unfold valV
        rw [Option.map_eq_none_iff, List.find?_eq_none]
        intro y hy
        obtain ⟨q, hq, rfl⟩ := List.mem_map.mp hy
        have h1 : q.1 ∈ six.take i := by
          rw [← z1]
          exact List.mem_map.mpr ⟨q, hq, rfl⟩
        have nd : six.Nodup := by decide +kernel
        simp only [decide_eq_true_eq]
        intro e
        injection e with e
        rw [e] at h1
        obtain ⟨j, hj⟩ := List.getElem?_of_mem h1
        rw [List.getElem?_take] at hj
        split at hj
        · rename_i hji
          have h2 := (List.getElem?_eq_some_iff.mp hj).1
          have h3 := (List.getElem?_eq_some_iff.mp hn).1
          have := (List.getElem?_inj h2 nd).mp (hj.trans hn.symm)
          omega
        · cases hj
      have hk : putK (Z.map fun q => ((Sum.inr q.1 : Key), V.ref q.2.2)) (Sum.inr n) (.ref p) = (Z ++ [(n, pr, p)]).map fun q => ((Sum.inr q.1 : Key), V.ref q.2.2) := by
        have hn' : ((Z.map fun q => ((Sum.inr q.1 : Key), V.ref q.2.2)).any fun kv => decide (kv.1 = Sum.inr n)) = false := by
          rw [valV_any, vn]
          rfl
        unfold putK
        rw [hn', List.map_append]
        rfl
      have kt := tup_upd (o' := .dK (putK (Z.map fun q => ((Sum.inr q.1 : Key), V.ref q.2.2)) (Sum.inr n) (.ref p))) hpd5 fun _ z => (by cases z)
      refine ⟨k35.mut npd' hne hpd5 trivial, ?_, _, _, Z ++ [(n, pr, p)], rfl, ?_, ?_, fun q hq => ?_⟩
      · have h1 := (k4.trans k5).lst hl3 nls2
        rw [upd_ne (ne_of h1 hpd5 (by intro z; cases z))]
        exact h1
      · rw [List.map_append, z1, List.take_add_one, hn]
        rfl
      · rw [upd_same, hk]
      · rcases List.mem_append.mp hq with hq | hq
        · exact ⟨kt _ _ ((k4.trans k5).tup (z3 q hq).1), (z3 q hq).2⟩
        · rw [List.mem_singleton.mp hq]
          exact ⟨kt _ _ hp5, pok⟩
  · intro σ' H' ⟨k3, hl3, u3, u4, Z, es, z1, z2, z3⟩
    subst es
    refine fun c hc => ?_
    have kc : Kp T pen H' (upd H' c (.dK [])) := Wd.kpen (.new hc) k3.p1
    have nc : New H c := fun o ho nt => by
      have hne : c ≠ pen := pen_none k3.p1 hc
      have := (k1.trans k3).kp c o ho hne nt
      rw [hc] at this
      cases this
    refine ⟨_, rfl, (ed_call (T := T) (pre := p_rules) (Ψ := fun us _ => us = [.ref pen]) (eda_cons (ed_var rfl) fun x G1 f1 hx => eda_nil.imp fun us G2 f2 hu => by rw [hx, hu]) fun us G1 f1 hu => ⟨by rw [hu]; rfl, rfl⟩) _ (.refl kc.p1) _ fun v H7 k7 ⟨t, R, ev', ht, hR⟩ => ⟨_, rfl, (by show 0 ≤ sizeLine; decide), fun de hde => ⟨(by show 0 ≤ sizeLine; decide), fun pa hpa => ?_⟩⟩⟩
    subst ev'
    have k8 : Kp T pen H7 (upd H7 de (.tup [])) := Wd.kpen (.new hde) k7.p1
    have k9 : Kp T pen (upd H7 de (.tup [])) (upd (upd H7 de (.tup [])) pa (.tup [])) := Wd.kpen (.new hpa) k8.p1
    have kall := (k7.trans k8).trans k9
    have hc9 : upd (upd H7 de (.tup [])) pa (.tup []) c = some (.dK []) := kall.dK upd_same
    refine ⟨hc9, clKv ev t pd de pa, rfl, by show 5 ≤ 15; decide, ?_⟩
    have em : mergeK [] (clKv ev t pd de pa) = clKv ev t pd de pa := rfl
    rw [em]
    have kcl : Kp T pen H (upd (upd (upd H7 de (.tup [])) pa (.tup [])) c (.dK (clKv ev t pd de pa))) := ((k1.trans k3).trans (kc.trans kall)).mut nc (pen_none k3.p1 hc) hc9 trivial
    have kt := tup_upd (o' := .dK (clKv ev t pd de pa)) hc9 fun _ z => (by cases z)
    refine q _ _ kcl ⟨c, ⟨L, R, Z.map (fun q => (q.1, q.2.1)), 0⟩, rfl, ⟨ev, t, pd, de, pa, [], upd_same, (hev.kt fun b xs h => kt _ _ ((k3.trans (kc.trans kall)).tup h)), ?_, ⟨Z, rfl, ?_, fun q hq => kt _ _ ((kc.trans kall).tup (z3 q hq).1)⟩, kt _ _ (k9.tup upd_same), rfl⟩, ⟨eok, estr, hR, ?_, fun q hq => ?_⟩, rfl⟩
    · obtain ⟨l, h1, h2⟩ := ht
      exact ⟨l, kt _ _ ((k8.trans k9).tup h1), kt _ _ ((k8.trans k9).tup h2)⟩
    · have h1 := (kc.trans kall).dK z2
      have hne : pd ≠ c := fun z => by rw [← z, z2] at hc; cases hc
      rw [upd_ne hne]
      exact h1
    · show (Z.map fun q => (q.1, q.2.1)).map (·.1) = six
      rw [List.map_map]
      have : six.take (List.map V.str six).length = six := by rw [List.length_map, List.take_length]
      rw [← this, ← z1]
      rfl
    · obtain ⟨q', hq', rfl⟩ := List.mem_map.mp hq
      exact (z3 q' hq').2
end
end Bb
/-! ## part Rd15 -/
/-! a book made for a club -/
namespace Bb
open PySem PySem.Spec PyProof.Rows L2 LamX BbS NdefX PySem.W
section
variable {T : TT0} {P : Program} {w : World} {K : PySem.W.Frag} {mg : Str → Option Value} {base : Heap} {G H H0 H1 H2 H' : Hp} {a p pen : Addr} {σ : L2.St} {te ta tb : TE} {ts tr tk : TA} {v x y z : V} {vs us zs xs ds : List V} {Φ Ψ Θ : V → Hp → Prop} {B B' : Bk} {i : Nat} {C : Clb}
theorem sort_six : sortT six = six := (sortT_is (List.Perm.refl six) (by decide +kernel)).symm
theorem valV_at {Z : List (Str × Prs × Addr)} (nd : (Z.map (·.1)).Nodup) {q : Str × Prs × Addr} (h : q ∈ Z) : valV (Z.map fun q => ((Sum.inr q.1 : Key), V.ref q.2.2)) (Sum.inr q.1) = some (.ref q.2.2) := by
  induction Z with
  | nil => cases h
  | cons z Z ih =>
    rw [List.map_cons] at nd
    rw [List.map_cons]
    rcases List.mem_cons.mp h with rfl | h
    · exact valV_pos rfl
    · rw [valV_neg]
      · exact ih (List.nodup_cons.mp nd).2 h
      · intro e
        injection e with e
        exact (List.nodup_cons.mp nd).1 (by rw [e]; exact List.mem_map.mpr ⟨q, h, rfl⟩)
theorem eo_makeB {ta : TA} {n m : Nat} {gV : List V → List V → List V} {vs : List V} {ev : Addr} {L : List Evt} {R : Trm} {Ψ : List V → Hp → Prop} (ha : EvA T ta σ H vs) (hk : EvAO T tk σ H Ψ) (h1 : vs.length = n) (h2 : ∀ zs H1, Ψ zs H1 → zs.length = m ∧ ∃ ru, (∀ x, gV (.ref x :: vs) zs = [.ref x, .ref ev, .ref ru]) ∧ RulesAt K H1 ru R)
    (hev : EvsAt H ev L) (ok : EvsOk L) : EvO T (tMakeN (cBook K) n m (spB T K) gV E0 ta tk) σ H (fun v H' => ∃ a pe, v = .ref a ∧ New H a ∧ New H pe ∧ BookAt K H' a ⟨L, R, [], [], [], 0, pe⟩) := fun H1 e1 Q q =>
  ha H1 e1 _ fun H2 e2 => hk H2 (e1.trans e2) _ fun zs H3 e3 f => ⟨h1, (h2 zs H3 f).1, fun x dx nx nd ne => by
    obtain ⟨_, ru, hg, hr⟩ := h2 zs H3 f
    have w1 : Wd T H3 (upd (upd H3 dx (.own x)) x (.ins (cBook K) dx [])) := (Wd.new nd).trans (.new (by rw [upd_ne ne.symm]; exact nx))
    have g3 := (e1.trans e2).trans e3
    exact ⟨x, dx, ev, ru, L, R, H3, hg x, upd_same, new_none nx, w1, hev.ke (g3.ke (K := K)), ok, hr, fun H' pe w2 npe bk => ⟨rfl, q _ _ ((e2.trans e3).trans w2) ⟨x, pe, rfl, (new_none nx).back g3, npe.back g3, bk⟩⟩⟩⟩
theorem eao1i {Cc : Addr} {fs : List (Str × V)} (h : EvO T te σ H fun v H' => ∃ p dx, v = .ref p ∧ New H p ∧ H' p = some (.ins Cc dx fs)) : EvAO T (tCons te tNil) σ H (fun us H' => ∃ p dx, us = [.ref p] ∧ H' p = some (.ins Cc dx fs)) := eao_cons h fun v H1 e1 ⟨p, dx, hv, _, hp⟩ => eao_nil.imp fun us H2 e2 hu => ⟨p, dx, by rw [hu, hv], e2.ins hp⟩
theorem not_take {L : List Str} (nd : L.Nodup) {i : Nat} {n : Str} (h : L[i]? = some n) : n ∉ L.take i := fun h1 => by
  obtain ⟨j, hj⟩ := List.getElem?_of_mem h1
  rw [List.getElem?_take] at hj
  split at hj
  · have h2 := (List.getElem?_eq_some_iff.mp hj).1
    have := (List.getElem?_inj h2 nd).mp (hj.trans h.symm)
    omega
  · cases hj
def p_made (K : PySem.W.Frag) : List V → Hp → (V → Hp → Prop) → Prop := fun vs H Φ => ∃ c C, vs = [.ref c] ∧ ClubAt H c C ∧ ClOk C ∧ Φ = fun v H2 => ∃ a pe, v = .ref a ∧ New H a ∧ New H pe ∧ BookAt K H2 a ⟨C.events, C.terms, C.people, [], [], 6, pe⟩
theorem fn_made (S : Say K mg) : Fn P w K mg base dL_made 6 ["_law_club_here"] (spO T (p_made K)) := by
  obtain ⟨_, F1, O1⟩ := fn_Rules_init (T := T) (P := P) (w := w) (base := base) S
  obtain ⟨_, KB1⟩ := kb_Rules_init F1
  obtain ⟨_, F2, O2⟩ := fn_Person_init (T := T) (P := P) (w := w) (base := base) S
  obtain ⟨_, KB2⟩ := kb_Person_init F2
  obtain ⟨_, F3, O3⟩ := fn_Book_init (T := T) (P := P) (w := w) (base := base) S
  obtain ⟨_, KB3⟩ := kb_Book_init F3
  obtain ⟨_, F4, O4⟩ := fn_enrol (T := T) (P := P) (w := w) (base := base) S
  refine fn_o S.f_L_made sc_L_made (fun vs H v h => by obtain ⟨_, _, rfl, _⟩ := h; rfl) fun cdv A outer s H vs E hr => ⟨_, (tm_L_made S F1 O1 KB1 F2 O2 KB2 F3 O3 KB3 F4 O4 _ cdv A outer s H E hr).2, fun Φ H0 Q e h q => ?_⟩
  obtain ⟨c, C, rfl, hc, ok, rfl⟩ := h
  obtain ⟨ev, te, pd, de, pa, xs, c1, c2, ⟨l, c3, c4⟩, ⟨Z, c5, c6, c7⟩, c8, c9⟩ := hc
  have zn : Z.map (·.1) = six := by
    have := ok.nm
    rw [← c5, List.map_map] at this
    exact this
  have znd : (Z.map (·.1)).Nodup := by
    rw [zn]
    decide +kernel
  dsimp only [tm_L_made]
  refine q_asgG (T := T) (Φ := fun v _ => v = .ref te) (.mono (Ev.eo (ev_dgetK (k := Sum.inr "terms") (ev_var rfl) ev_c c1 rfl)) e) fun v H1 e1 hv => ?_
  subst hv
  have g1 := e.trans e1
  refine g_tup4 (st_of (g1.tup c3)) ?_
  refine q_asgO (T := T) (eo_makeB (R := C.terms) (L := C.events) (ev := ev) (Ψ := fun us H2 => ∃ ru, us = [.ref ru] ∧ RulesAt K H2 ru C.terms) (ea1 (ev_dgetK (k := Sum.inr "events") (ev_var rfl) ev_c (g1.dK c1) rfl)) (eao_cons (eo_make (args := [.ref l, .bl C.terms.up, .int C.terms.wind, .bl C.terms.shares]) (fs := trmF l C.terms) ea_nil (ea_cons (ev_var rfl) (ea3 (ev_var rfl) (ev_var rfl) (ev_var rfl))) rfl rfl (fun x => rfl) fun H2 e2 => ⟨l, C.terms, rfl, (g1.trans e2).tup c4, ok.tr.lim, ok.tr.w1, ok.tr.w2, rfl⟩) fun x G1 f1 ⟨ru, dr, ex, nr, hru⟩ => eao_nil.imp fun us G2 f2 hu => ?_) rfl (fun zs H2 ⟨ru, ez, hru⟩ => ⟨by rw [ez]; rfl, ru, fun x => by rw [ez]; rfl, hru⟩) (c2.ke (g1.ke (K := K))) ok.ev) fun v H2 e2 ⟨a, pe, ev', na, npe, bk⟩ => ?_
  · subst ex hu
    exact ⟨ru, rfl, dr, l, f2.ins hru, ((g1.trans f1).trans f2).tup c4⟩
  subst ev'
  have g2 := g1.trans e2
  refine q_forG (T := T) (Φ := fun v H3 => ∃ ls, v = .ref ls ∧ H3 ls = some (.lst (six.map V.str))) (fun H3 e3 Q q => ev_dgetK (k := Sum.inr "people") (ev_var rfl) ev_c (g2.dK c1) rfl H3 e3 _ fun H4 e4 => ⟨pd, _, six, rfl, .inl ((g2.trans (e3.trans e4)).dK c6), ?_, by decide, fun ys p hp hs hn => ?_⟩) fun v H3 e3 ⟨ls, ev', hls⟩ => ⟨ls, six.map V.str, ev', fun i σ' H' => Wd T H1 H' ∧ H' ls = some (.lst (six.map V.str)) ∧ ∃ u6 u7 u8 u9, σ' = [some (.ref c), some (.ref l), some (.bl C.terms.up), some (.int C.terms.wind), some (.bl C.terms.shares), some (.ref a), u6, u7, u8, u9] ∧ BookAt K H' a ⟨C.events, C.terms, C.people.take i, [], [], i, pe⟩, ?_, ?_, ?_, ?_⟩
  · rw [List.map_map, ← zn, List.map_map]
    rfl
  · have := sortT_is hp hs
    rw [sort_six] at this
    subst this
    exact q _ _ (e4.trans (.new hn)) ⟨p, rfl, upd_same⟩
  · exact ⟨e2.trans e3, hls, none, none, none, none, rfl, bk.mono e3⟩
  · exact fun i σ' H' h => sl_of h.2.1
  · intro i x σ' H' hx ⟨w1, hl1, u6, u7, u8, u9, es, bk1⟩
    obtain ⟨n, hn, rfl⟩ := map_at hx
    subst es
    have hi : i < Z.length := by
      have h1 := (List.getElem?_eq_some_iff.mp hn).1
      have := congrArg List.length zn
      rw [List.length_map] at this
      omega
    have hzi : Z[i]? = some Z[i] := List.getElem?_eq_getElem hi
    have hz1 : Z[i].1 = n := by
      have h1 : (Z.map (·.1))[i]? = some n := by rw [zn]; exact hn
      rw [List.getElem?_map, hzi] at h1
      exact Option.some.inj h1
    generalize hzz : Z[i] = z at hzi hz1
    have mz : z ∈ Z := List.mem_of_getElem? hzi
    have hpi : C.people[i]? = some (n, z.2.1) := by rw [← c5, List.getElem?_map, hzi, ← hz1]; rfl
    have pok := ok.pr _ (List.mem_of_getElem? hpi)
    have gH := g1.trans w1
    refine q_asgG (T := T) (Φ := fun v _ => v = .ref z.2.2) (Ev.eo (ev_dgetK (k := Sum.inr n) (ev_dgetK (k := Sum.inr "people") (ev_var rfl) ev_c (gH.dK c1) rfl) (ev_var rfl) (gH.dK c6) (by rw [← hz1]; exact valV_at znd mz))) fun v H4 e4 hv => ?_
    subst hv
    have g4 := gH.trans e4
    refine g_tup3 (st_of (g4.tup (c7 z mz))) ?_
    have bk4 := bk1.mono e4
    obtain ⟨Ad4, hA4, pt4⟩ := bk4
    have nn : nameB n = true := by
      have h6 : ∀ m ∈ six, nameB m = true := by decide +kernel
      exact h6 n (List.mem_of_getElem? hn)
    refine ⟨_, rfl, a, _, _, rfl, hA4, rfl, eao1i (eo_make (args := [.str n, .int z.2.1.born, .str z.2.1.group, .str z.2.1.team]) (fs := prsF n z.2.1) (ea2 (ev_var rfl) (ev_var rfl)) (ea2 (ev_var rfl) (ev_var rfl)) rfl rfl (fun x => rfl) fun H2 e2 => ⟨n, z.2.1, rfl, nn, pok.b1, Int.le_trans pok.b2 (by decide), pok.g, pok.t, rfl⟩) H4 (.refl H4) _ fun us H5 e5 ⟨tp, dp, eu, hp5⟩ => ?_⟩
    subst eu
    refine ⟨a, _, tp, n, z.2.1, rfl, (bk1.mono e4).mono e5, ⟨dp, hp5⟩, ?_, ?_, ?_, fun H6 we bk6 => ?_⟩
    · show n ∉ (C.people.take i).map (·.1)
      rw [List.map_take, ok.nm]
      exact not_take (by decide +kernel) hn
    · show (C.people.take i).length ≤ 1000
      have h1 := congrArg List.length ok.nm
      rw [List.length_map] at h1
      have h6 : six.length = 6 := rfl
      rw [List.length_take]
      omega
    · show i ≤ 1000
      have h1 := (List.getElem?_eq_some_iff.mp hn).1
      have h6 : six.length = 6 := rfl
      omega
    · have w5 := (w1.trans e4).trans e5
      have bk5 := (bk1.mono e4).mono e5
      obtain ⟨Ad5, hA5, pt5⟩ := bk5
      obtain ⟨kv5, k51, _⟩ := pt5.pe
      have hpe : Ad5.pe = pe := pt5.pq
      have hl5 := (e4.trans e5).lst hl1
      refine ⟨⟨fun b o hb nt => we.1 b o (w5.get hb nt) (na.ne hb nt) (npe.ne hb nt) nt, fun t => we.2 (w5.2 t)⟩, we.1 _ _ hl5 (ne_of hl5 hA5 (by intro z; cases z)) (by show ls ≠ pe; rw [← hpe]; exact ne_of hl5 k51 (by intro z; cases z)) nt_lst, _, _, _, _, rfl, ?_⟩
      rw [List.take_add_one, hpi]
      exact bk6
  · intro σ' H' ⟨w1, hl1, u6, u7, u8, u9, es, bk1⟩
    subst es
    have h6 : C.people.take (List.map V.str six).length = C.people := by
      have h1 := congrArg List.length ok.nm
      rw [List.length_map] at h1
      rw [List.length_map, ← h1, List.take_length]
    rw [h6] at bk1
    exact s_ro (T := T) (H0 := H') (Φ := fun v H2 => v = .ref a) ((Ev.eo (ev_var rfl))) (.refl H') fun v H2 e2 hv => q _ _ ((e1.trans w1).trans e2) ⟨a, pe, hv, na.back g1, npe.back g1, bk1.mono e2⟩
end
end Bb
/-! ## part Rd16 -/
/-! rows and papers drawn -/
namespace Bb
open PySem PySem.Spec PyProof.Rows L2 LamX BbS NdefX PySem.W
structure RowFit (C : Clb) (r : Rw) : Prop where
  ok : RwOk r
  ev : ∃ x, C.events.find? (fun x => decide (x.1 = r.event)) = some x
  pr : ∃ p, (r.name, p) ∈ C.people
theorem find_of_mem {L : List Evt} {x : Evt} (h : x ∈ L) : ∃ y, L.find? (fun y => decide (y.1 = x.1)) = some y := by
  cases e : L.find? fun y => decide (y.1 = x.1) with
  | some y => exact ⟨y, rfl⟩
  | none =>
    have := List.find?_eq_none.mp e x h
    simp at this
section
variable {T : TT0} {P : Program} {w : World} {K : PySem.W.Frag} {mg : Str → Option Value} {base : Heap} {G H H0 H1 H2 H' : Hp} {a p pen : Addr} {σ : L2.St} {te ta tb : TE} {ts tr tk : TA} {v x y z : V} {vs us zs xs ds : List V} {Φ Ψ Θ : V → Hp → Prop} {B B' : Bk} {i : Nat} {C : Clb}
/-- a whole number of which -/
def intP (Pk : Int → Prop) : V → Hp → Prop := fun v _ => ∃ n : Int, v = .int n ∧ Pk n
theorem ed_addC {c : Int} {Pk Pm : Int → Prop} (h : EvD T pen tb σ H (intP Pk)) (hp : ∀ n, Pk n → Pm (c + n)) : EvD T pen (tOp (rI0 fun i j => .int (i + j)) (tC (.int c)) tb) σ H (intP Pm) := ed_op (ed_c (v := .int c)) fun x H1 k1 hx => (h.mono k1).imp fun y H2 k2 ⟨n, hy, hn⟩ => by
  subst hx hy
  exact fun H4 e4 Q q => rv_i0 H4 e4 _ fun H5 e5 => q _ H5 e5 ⟨c + n, rfl, hp n hn⟩
theorem ed_drawP {m : Int} {Pk : Int → Prop} (h : σ[i]? = some (some (.ref pen))) (m1 : 0 < m) (m2 : m ≤ 2000000) (hp : ∀ n, 0 ≤ n → n < m → Pk n) : EvD T pen (tCall (spD T p_draw) [] E0 (tCons (tVar i) (tCons (tC (.int m)) tNil))) σ H (intP Pk) := (ed_drawC h m1 m2).imp fun v H' k ⟨n, hv, h0, h1⟩ => ⟨n, hv, hp n h0 h1⟩
theorem eda_ci {Pv : V → Prop} {Pk : Int → Prop} (he : EvD T pen te σ H (intP Pk)) (hp : ∀ n, Pk n → Pv (.int n)) (h : ∀ H1, Kp T pen H H1 → EdA T pen tr σ H1 fun us _ => us.length = i ∧ ∀ u ∈ us, Pv u) : EdA T pen (tCons te tr) σ H fun us _ => us.length = i + 1 ∧ ∀ u ∈ us, Pv u := eda_cg (he.imp fun v H' k ⟨n, hv, hn⟩ => by rw [hv]; exact hp n hn) h
theorem ed_modC {m n : Int} (h : EvD T pen ta σ H (drawn n)) (hm : 0 < m) : EvD T pen (tOp (rI (fun _ j => 0 < j) fun i j => .int (i % j)) ta (tC (.int m))) σ H (drawn m) := ed_op h fun x H1 k1 ⟨k, hx, _⟩ => (ed_c (v := .int m)).imp fun y H2 k2 hy => by
  subst hx hy
  exact fun H4 e4 Q q => rv_i (C := fun _ j => 0 < j) (g := fun i j => V.int (i % j)) hm H4 e4 _ fun H5 e5 => q _ H5 e5 ⟨k % m, rfl, Int.emod_nonneg _ (by omega), Int.emod_lt_of_pos _ hm⟩
theorem ed_subC {c : Int} {Pk Pm : Int → Prop} (h : EvD T pen ta σ H (intP Pk)) (hp : ∀ n, Pk n → Pm (n - c)) : EvD T pen (tOp (rI0 fun i j => .int (i - j)) ta (tC (.int c))) σ H (intP Pm) := ed_op h fun x H1 k1 ⟨n, hx, hn⟩ => (ed_c (v := .int c)).imp fun y H2 k2 hy => by
  subst hx hy
  exact fun H4 e4 Q q => rv_i0 H4 e4 _ fun H5 e5 => q _ H5 e5 ⟨n - c, rfl, hp n hn⟩
theorem kk {Pk : Int → Prop} (n : Int) (h : Pk n) : ∃ m : Int, V.int n = .int m ∧ Pk m := ⟨n, rfl, h⟩
theorem rd2 {m : Int} (n : Int) (h0 : 0 ≤ n) (h1 : n < m) : 0 ≤ n ∧ n < m := ⟨h0, h1⟩
def p_row : List V → Hp → Addr → (V → Hp → Prop) → Prop := fun vs H pen Φ => ∃ c C, vs = [.ref pen, .ref c] ∧ ClubAt H c C ∧ ClOk C ∧ Φ = fun v H2 => ∃ t r, v = .ref t ∧ H2 t = some (.tup (rowV r)) ∧ RowFit C r
theorem fn_row (S : Say K mg) : Fn P w K mg base dL_row 2 ["_law_pen_here", "_law_club_here"] (spD T p_row) := by
  obtain ⟨_, F1, O1⟩ := fn_draw (T := T) (P := P) (w := w) (base := base) S
  obtain ⟨_, F2, O2⟩ := fn_names (T := T) (P := P) (w := w) (base := base) S
  refine fn_d S.f_L_row sc_L_row (fun vs H p v h => by obtain ⟨_, _, rfl, _⟩ := h; rfl) fun cdv A outer s H vs E hr => ⟨_, (tm_L_row S F1 O1 F2 O2 _ cdv A outer s H E hr).2, fun pen Φ Q hp h q => ?_⟩
  obtain ⟨c, C, rfl, hc, ok, rfl⟩ := h
  have hcl := hc
  obtain ⟨ev, te, pd, de, pa, xs, c1, ⟨E3, c2a, c2b, c2c⟩, c3, c5, c8, c9⟩ := hc
  have el : E3.length = C.events.length := by rw [← c2a, List.length_map]
  have e1' := ok.ev.l1
  have e2' := ok.ev.l2
  dsimp only [tm_L_row]
  refine dq_asg (Φ := fun v _ => ∃ n : Str, v = .str n ∧ n ∈ six) hp (ed_op (Φ := fun v H1 => ∃ l, v = .ref l ∧ l ≠ pen ∧ H1 l = some (.lst (six.map V.str))) ((ed_of fun H1 k1 => (eo_call ea_nil (gvO (H := H1) ⟨rfl, rfl⟩)).imp (Ψ := fun v H2 => ∃ l, v = .ref l ∧ l ≠ pen ∧ H2 l = some (.lst (six.map V.str))) fun v H2 e2 ⟨l, ev, nl, hl⟩ => ⟨l, ev, pen_new k1.p1 nl, hl⟩)) fun x H1 k1 ⟨l, ex, ne, hl⟩ => (ed_drawC rfl (by decide) (by decide)).imp fun y H2 k2 ⟨n, hy, h0, h6⟩ => ?_) fun v H1 k1 ⟨nm, en, hnm⟩ => ?_
  · subst ex hy
    obtain ⟨j, rfl⟩ : ∃ j : Nat, n = (j : Int) := ⟨n.toNat, by omega⟩
    have hj : j < six.length := by show j < 6; omega
    exact fun H4 e4 Q q => rv_ixl (v := .str six[j]) (sl_of (k2.lst hl ne)) (atI_nat' (by rw [List.getElem?_map, List.getElem?_eq_getElem hj]; rfl)) H4 e4 _ fun H5 e5 => q _ H5 e5 ⟨_, rfl, List.getElem_mem hj⟩
  subst en
  refine dq_asg (Φ := fun v _ => ∃ x : Evt, v = .str x.1 ∧ x ∈ C.events) k1.p1 (ed_op (Φ := fun v H2 => ∃ q ∈ E3, v = .ref q.2 ∧ H2 q.2 = some (.tup [.str q.1.1, .str q.1.2.1, .bl q.1.2.2])) (ed_op (ed_ev (v := .ref ev) fun H2 k2 => ev_dgetK (k := Sum.inr "events") (ev_var rfl) ev_c ((k1.trans k2).dK c1) rfl) fun x H2 k2 hx => (ed_draw (m := (C.events.length : Int)) rfl (ed_ev fun H3 k3 => .is (ev_cb (ea1 (ev_dgetK (k := Sum.inr "events") (ev_var rfl) ev_c (((k1.trans k2).trans k3).dK c1) rfl)) (rc_lenT (st_of (((k1.trans k2).trans k3).tup c2b)))) (by rw [List.length_map, el])) (by omega) (by omega)).imp fun y H3 k3 ⟨n, hy, h0, h6⟩ => ?_) fun x H2 k2 ⟨q3, hq, ex, hx⟩ => (ed_c (v := .int 0)).imp fun y H3 k3 hy => ?_) fun v H2 k2 ⟨xe, en, hxe⟩ => ?_
  · subst hx hy
    obtain ⟨j, rfl⟩ : ∃ j : Nat, n = (j : Int) := ⟨n.toNat, by omega⟩
    have hj : j < E3.length := by omega
    exact fun H4 e4 Q q => rv_ixt (v := .ref E3[j].2) (st_of (((k1.trans k2).trans k3).tup c2b)) (atI_nat' (by rw [List.getElem?_map, List.getElem?_eq_getElem hj]; rfl)) H4 e4 _ fun H5 e5 => q _ H5 e5 ⟨E3[j], List.getElem_mem hj, rfl, (e4.trans e5).tup (((k1.trans k2).trans k3).tup (c2c _ (List.getElem_mem hj)))⟩
  · subst ex hy
    exact fun H4 e4 Q q => rv_ixt (v := .str q3.1.1) (st_of (k3.tup hx)) (atI_nat' (n := 0) rfl) H4 e4 _ fun H5 e5 => q _ H5 e5 ⟨q3.1, rfl, by rw [← c2a]; exact List.mem_map.mpr ⟨q3, hq, rfl⟩⟩
  subst en
  have k12 := k1.trans k2
  refine dq_asg (Φ := intP fun n => 1 ≤ n ∧ n ≤ 1000000) k2.p1 (ed_pick (n := 3) (m := 3) (Pv := fun v => ∃ n : Int, v = .int n ∧ 1 ≤ n ∧ n ≤ 1000000) (eda_ci (i := 2) (ed_addC (ed_drawP (Pk := fun n => 0 ≤ n ∧ n < 4) rfl (by decide) (by decide) rd2) (Pm := fun n => 1 ≤ n ∧ n ≤ 1000000) fun n hn => ⟨by omega, by omega⟩) kk fun G1 f1 => eda_ci (i := 1) (ed_addC (ed_drawP (Pk := fun n => 0 ≤ n ∧ n < 200) rfl (by decide) (by decide) rd2) (Pm := fun n => 1 ≤ n ∧ n ≤ 1000000) fun n hn => ⟨by omega, by omega⟩) kk fun G2 f2 =>
      eda_ci (i := 0) (ed_addC (Pk := fun n => 0 ≤ n ∧ n < 1000000) ((ed_draw (m := 1000000) rfl (ed_ev fun G3 f3 => ev_op ev_c ev_c (rv_i (by refine ⟨by decide, by decide, by decide⟩))) (by decide) (by decide)).imp fun v G3 f3 ⟨n, hv, h0, h1⟩ => ⟨n, hv, h0, h1⟩) (Pm := fun n => 1 ≤ n ∧ n ≤ 1000000) fun n hn => ⟨by omega, by omega⟩) kk fun G3 f3 => eda_nl) (by decide) (by decide) fun H3 k3 => ed_modC (ed_drawC rfl (m := 4) (by decide) (by decide)) (by decide)) fun v H3 k3 ⟨mk, en, mk1, mk2⟩ => ?_
  subst en
  refine dq_par (T := T) (Ψ := fun us _ => ∃ d h : Int, us = [.int d, .int h] ∧ 0 ≤ d ∧ d ≤ 40000 ∧ 0 ≤ h ∧ h ≤ 23) k3.p1 (eda_cons (Φ := intP fun n => 0 ≤ n ∧ n ≤ 40000) (ed_pick (n := 3) (m := 3) (Pv := fun v => ∃ n : Int, v = .int n ∧ 0 ≤ n ∧ n ≤ 40000) (eda_ci (i := 2) (ed_drawP (Pk := fun n => 0 ≤ n ∧ n ≤ 40000) rfl (by decide) (by decide) fun n h0 h1 => ⟨h0, by omega⟩) kk fun G1 f1 => eda_ci (i := 1) (ed_drawP (Pk := fun n => 0 ≤ n ∧ n ≤ 40000) rfl (by decide) (by decide) fun n h0 h1 => ⟨h0, by omega⟩) kk fun G2 f2 =>
      eda_ci (i := 0) (ed_drawP (Pk := fun n => 0 ≤ n ∧ n ≤ 40000) rfl (by decide) (by decide) fun n h0 h1 => ⟨h0, by omega⟩) kk fun G3 f3 => eda_nl) (by decide) (by decide) fun H3 k3 => ed_drawC rfl (by decide) (by decide)) fun x G1 f1 ⟨d, hx, d0, d1⟩ => eda_cons (ed_drawC rfl (m := 3) (by decide) (by decide)) fun y G2 f2 ⟨h, hy, h0, h1⟩ => eda_nil.imp fun us G3 f3 hu => ⟨d, h, by rw [hu, hx, hy], d0, d1, h0, by omega⟩) fun us H4 k4 ⟨d, h, eu, d0, d1, h0, h1⟩ => ⟨_, _, eu, ?_⟩
  refine dq_asg (Φ := intP fun n => -99 ≤ n ∧ n ≤ 99) k4.p1 (ed_pick (n := 4) (m := 4) (Pv := fun v => ∃ n : Int, v = .int n ∧ -99 ≤ n ∧ n ≤ 99) (eda_cs (eda_cs (eda_cs (eda_ci (i := 0) (ed_subC (ed_drawP (Pk := fun n => 0 ≤ n ∧ n < 199) rfl (by decide) (by decide) rd2) (Pm := fun n => -99 ≤ n ∧ n ≤ 99) fun n hn => ⟨by omega, by omega⟩) kk fun G => fun _ => eda_nl) ⟨21, rfl, by decide, by decide⟩) ⟨20, rfl, by decide, by decide⟩) ⟨0, rfl, by decide, by decide⟩) (by decide) (by decide) fun H3 k3 => ed_drawC rfl (by decide) (by decide)) fun v H5 k5 ⟨gu, en, gu1, gu2⟩ => ?_
  subst en
  refine ds_ret k5.p1 ((ed_tup (Ψ := fun us _ => ∃ cs : Str, us = rowV ⟨nm, xe.1, mk, d, h, gu, cs⟩ ∧ nameB cs = true ∧ PyData.strOk cs = true) (eda_cons (ed_var (v := .str nm) rfl) fun x1 G1 f1 h1 => eda_cons (ed_var (v := .str xe.1) rfl) fun x2 G2 f2 h2 => eda_cons (ed_var (v := .int mk) rfl) fun x3 G3 f3 h3 => eda_cons (ed_var (v := .int d) rfl) fun x4 G4 f4 h4 => eda_cons (ed_var (v := .int h) rfl) fun x5 G5 f5 h5 => eda_cons (ed_var (v := .int gu) rfl) fun x6 G6 f6 h6 =>
    eda_cons (ed_pick (n := 2) (m := 2) (Pv := fun v => ∃ s : Str, v = .str s ∧ nameB s = true ∧ PyData.strOk s = true) (eda_cs (eda_cs eda_nl ⟨"moor", rfl, by decide +kernel, by decide +kernel⟩) ⟨"yard", rfl, by decide +kernel, by decide +kernel⟩) (by decide) (by decide) fun H3 k3 => ed_drawC rfl (by decide) (by decide)) fun x7 G7 f7 h7 => eda_nil.imp fun us G8 f8 hu => ?_) fun us H2 hu => ?_).imp fun v H6 k6 hv => hv) fun v H6 k6 ⟨us, t, G1, ev', ht, ew, cs, eus, cs1, cs2⟩ => ?_
  · subst h1 h2 h3 h4 h5 h6 hu
    obtain ⟨s, rfl, s1, s2⟩ := h7
    exact ⟨s, rfl, s1, s2⟩
  · obtain ⟨_, rfl, _⟩ := hu
    show 7 ≤ 1000000
    decide
  · subst eus
    have h6n : ∀ m ∈ six, nameB m = true ∧ PyData.strOk m = true := by decide +kernel
    refine q v H6 ((((k12.trans k3).trans k4).trans k5).trans k6) ⟨t, _, ev', ht, ⟨(h6n nm hnm).1, (ok.ev.ok xe hxe).1, mk1, mk2, d0, d1, h0, h1, gu1, gu2, cs1, (h6n nm hnm).2, ok.es xe hxe, cs2⟩, find_of_mem hxe, ?_⟩
    have : nm ∈ C.people.map (·.1) := by rw [ok.nm]; exact hnm
    obtain ⟨q1, hq1, e1⟩ := List.mem_map.mp this
    exact ⟨q1.2, by rw [← e1]; exact hq1⟩
def PapSt : Pap Nat → Prop
  | .out _ _ | .inn _ _ => True
  | .right c _ | .wrong c _ _ _ => PyData.strOk c = true
/-- a paper over the rows 0 .. nd - 1 -/
structure PapC (nd : Nat) (z : Pap Nat) : Prop where
  k1 : 0 ≤ z.known
  k2 : z.known ≤ 40000
  fit : match z with
    | .out n _ | .inn n _ => n < nd
    | .right c _ => nameB c = true
    | .wrong c f t _ => nameB c = true ∧ 0 ≤ f ∧ f ≤ t ∧ t ≤ 40000
  st : PapSt z
def p_paperD : List V → Hp → Addr → (V → Hp → Prop) → Prop := fun vs H pen Φ => ∃ c C, vs = [.ref pen, .ref c] ∧ ClubAt H c C ∧ C.nd ≤ 1000 ∧ Φ = fun v H2 => ∃ t z, v = .ref t ∧ H2 t = some (.tup (papV z)) ∧ PapC C.nd z
theorem fn_paperD (S : Say K mg) : Fn P w K mg base dL_paper 2 ["_law_pen_here", "_law_club_here"] (spD T p_paperD) := by
  obtain ⟨_, F1, O1⟩ := fn_draw (T := T) (P := P) (w := w) (base := base) S
  refine fn_d S.f_L_paper sc_L_paper (fun vs H p v h => by obtain ⟨_, _, rfl, _⟩ := h; rfl) fun cdv A outer s H vs E hr => ⟨_, (tm_L_paper S F1 O1 _ cdv A outer s H E hr).2, fun pen Φ Q hp h q => ?_⟩
  obtain ⟨c, C, rfl, hc, hnd, rfl⟩ := h
  obtain ⟨ev, te, pd, de, pa, xs, c1, c2, c3, c5, c8, c9⟩ := hc
  dsimp only [tm_L_paper]
  refine dq_par (T := T) (Ψ := fun us _ => ∃ n : Int, us = [.int n, .int (C.nd : Int)] ∧ 0 ≤ n ∧ n ≤ 40000) hp (eda_cons (Φ := intP fun n => 0 ≤ n ∧ n ≤ 40000) (ed_pick (n := 3) (m := 3) (Pv := fun v => ∃ n : Int, v = .int n ∧ 0 ≤ n ∧ n ≤ 40000) (eda_ci (i := 2) (ed_drawP (Pk := fun n => 0 ≤ n ∧ n ≤ 40000) rfl (by decide) (by decide) fun n h0 h1 => ⟨h0, by omega⟩) kk fun G1 f1 => eda_ci (i := 1) (ed_drawP (Pk := fun n => 0 ≤ n ∧ n ≤ 40000) rfl (by decide) (by decide) fun n h0 h1 => ⟨h0, by omega⟩) kk fun G2 f2 => eda_cs eda_nl ⟨40000, rfl, by decide, by decide⟩) (by decide) (by decide) fun H3 k3 => ed_drawC rfl (by decide) (by decide)) fun x G1 f1 ⟨n, hx, n0, n1⟩ =>
    eda_cons (ed_ev (v := .int (C.nd : Int)) fun G2 f2 => .is (ev_cb (ea1 (ev_dgetK (k := Sum.inr "deeds") (ev_var rfl) ev_c ((f1.trans f2).dK c1) rfl)) (rc_lenT (st_of ((f1.trans f2).tup c8)))) (by rw [c9])) fun y G2 f2 hy => eda_nil.imp fun us G3 f3 hu => ⟨n, by rw [hu, hx, hy], n0, n1⟩) fun us H1 k1 ⟨sn, eu, s0, s1⟩ => ⟨_, _, eu, ?_⟩
  refine dq_par (T := T) (Ψ := fun us _ => ∃ (cs : Str) (n : Int), us = [.str cs, .int n] ∧ (nameB cs = true ∧ PyData.strOk cs = true) ∧ 0 ≤ n ∧ n < 9) k1.p1 (eda_cons (ed_pick (n := 2) (m := 2) (Pv := fun v => ∃ s : Str, v = .str s ∧ nameB s = true ∧ PyData.strOk s = true) (eda_cs (eda_cs eda_nl ⟨"moor", rfl, by decide +kernel, by decide +kernel⟩) ⟨"yard", rfl, by decide +kernel, by decide +kernel⟩) (by decide) (by decide) fun H3 k3 => ed_drawC rfl (by decide) (by decide)) fun x G1 f1 ⟨cs, hx, hcs⟩ => eda_cons (ed_drawC rfl (m := 9) (by decide) (by decide)) fun y G2 f2 ⟨n, hy, n0, n1⟩ => eda_nil.imp fun us G3 f3 hu => ⟨cs, n, by rw [hu, hx, hy], hcs, n0, n1⟩) fun us H2 k2 ⟨cs, si, eu, hcs, si0, si1⟩ => ⟨_, _, eu, ?_⟩
  refine dq_asg k2.p1 (ed_drawC rfl (m := 6) (by decide) (by decide)) fun v H3 k3 ⟨wy, ev', w0, w1⟩ => ?_
  subst ev'
  have k123 := (k1.trans k2).trans k3
  refine q_if (T := T) (b := decide (wy < 4) && decide ((0 : Int) < C.nd)) (et_and (et_test (ev_op (ev_var rfl) ev_c rv_i0)) fun _ => et_test (ev_op (ev_var rfl) ev_c rv_i0)) (fun hb H4 e4 => ?_) fun hb H4 e4 => ?_
  · rw [Bool.and_eq_true, decide_eq_true_eq, decide_eq_true_eq] at hb
    have k4 := e4.kpen k3.p1
    refine ds_ret k4.p1 ((ed_tup (Ψ := fun us _ => ∃ z : Pap Nat, us = papV z ∧ PapC C.nd z) (eda_cons (ed_pick (n := 4) (m := 4) (Pv := fun v => v = .str "out" ∨ v = .str "in") (eda_cs (eda_cs (eda_cs (eda_cs eda_nl (.inr rfl)) (.inr rfl)) (.inl rfl)) (.inl rfl)) (by decide) (by decide) fun G f => (ed_var (v := .int wy) rfl).imp fun v G2 f2 hv => ⟨wy, hv, w0, hb.1⟩) fun x G1 f1 hx => eda_cons (ed_draw (m := (C.nd : Int)) rfl (ed_var rfl) hb.2 (by omega)) fun y G2 f2 ⟨n, hy, n0, n1⟩ => eda_cons (ed_var (v := .int sn) rfl) fun z G3 f3 hz => eda_nil.imp fun us G4 f4 hu => ?_) fun us G hu => ?_).imp fun v G f hv => hv) fun v H5 k5 ⟨us, t, G1, ev', ht, ew, z, eus, hz⟩ => q v H5 ((k123.trans k4).trans k5) ⟨t, z, ev', by rw [← eus]; exact ht, hz⟩
    · subst hy hz hu
      obtain ⟨j, rfl⟩ : ∃ j : Nat, n = (j : Int) := ⟨n.toNat, by omega⟩
      rcases hx with rfl | rfl
      · exact ⟨.out j sn, rfl, s0, s1, by show j < C.nd; omega, trivial⟩
      · exact ⟨.inn j sn, rfl, s0, s1, by show j < C.nd; omega, trivial⟩
    · obtain ⟨z, rfl, _⟩ := hu
      cases z <;> simp [papV]
  · have k4 := e4.kpen k3.p1
    refine q_if (T := T) (b := decide (V.int wy = V.int 4)) (et_test (ev_op (ev_var rfl) ev_c (rv_eq rfl))) (fun hb2 H5 e5 => ?_) fun hb2 H5 e5 => ?_
    · exact s_retO (T := T) (eo_tupm (ea3 ev_c (ev_var rfl) (ev_var rfl)) (by simp)) fun v H6 e6 ⟨t, ev', ht⟩ => q v H6 ((k123.trans k4).trans ((e5.trans e6).kpen k4.p1)) ⟨t, .right cs sn, ev', ht, s0, s1, hcs.1, hcs.2⟩
    · have k5 := e5.kpen k4.p1
      refine ds_ret k5.p1 ((ed_tup (Ψ := fun us _ => ∃ z : Pap Nat, us = papV z ∧ PapC C.nd z) (eda_cons (ed_c (v := .str "wrong")) fun x G1 f1 hx => eda_cons (ed_var (v := .str cs) rfl) fun y G2 f2 hy => eda_cons (ed_var (v := .int si) rfl) fun z G3 f3 hz => eda_cons (Φ := intP fun n => si ≤ n ∧ n ≤ 18) (ed_op (ed_var (v := .int si) rfl) fun a Ga fa ha => (ed_drawC rfl (m := 9) (by decide) (by decide)).imp fun b Gb fb ⟨n, hb, n0, n1⟩ => ?_) fun u G4 f4 ⟨n, hu', n0, n1⟩ => eda_cons (ed_var (v := .int sn) rfl) fun s G5 f5 hs => eda_nil.imp fun us G6 f6 hu => ?_) fun us G hu => ?_).imp fun v G f hv => hv) fun v H6 k6 ⟨us, t, G1, ev', ht, ew, z, eus, hz⟩ => q v H6 (((k123.trans k4).trans k5).trans k6) ⟨t, z, ev', by rw [← eus]; exact ht, hz⟩
      · subst ha hb
        exact fun H4 e4 Q q => rv_i0 H4 e4 _ fun H5 e5 => q _ H5 e5 ⟨si + n, rfl, by omega, by omega⟩
      · subst hx hy hz hu' hs hu
        exact ⟨.wrong cs si n sn, rfl, s0, s1, ⟨hcs.1, si0, n0, by omega⟩, hcs.2⟩
      · obtain ⟨z, rfl, _⟩ := hu
        cases z <;> simp [papV]
end
end Bb
/-! ## part Rd17 -/
/-! in a drawn order -/
namespace Bb
open PySem PySem.Spec PyProof.Rows L2 LamX BbS NdefX PySem.W
section
variable {T : TT0} {P : Program} {w : World} {K : PySem.W.Frag} {mg : Str → Option Value} {base : Heap} {G H H0 H1 H2 H' : Hp} {a p pen : Addr} {σ : L2.St} {te ta tb : TE} {ts tr tk : TA} {v x y z : V} {vs us zs xs ds : List V} {Φ Ψ Θ : V → Hp → Prop} {B B' : Bk} {i : Nat} {C : Clb}
theorem dps_of {P : V → PyData → Prop} : ∀ {ys : List V}, (∀ y ∈ ys, ∃ d, P y d) → ∃ ds : List PyData, Paired P ys ds
  | [], _ => ⟨[], .nil⟩
  | y :: ys, h => by
    obtain ⟨d, hd⟩ := h y List.mem_cons_self
    obtain ⟨ds, hds⟩ := dps_of (ys := ys) fun z hz => h z (List.mem_cons_of_mem _ hz)
    exact ⟨d :: ds, .cons hd hds⟩
theorem dps_all {P : V → PyData → Prop} (f : ∀ y d, P y d → Dp K H y d) : ∀ {ys : List V} {ds : List PyData}, Paired P ys ds → DpAll K H ys ds
  | _, _, .nil => .nil
  | _, _, .cons h t => .cons (f _ _ h) (dps_all f t)
theorem paired_mem {α β : Type} {P : α → β → Prop} : ∀ {l : List α} {m : List β}, Paired P l m → ∀ b ∈ m, ∃ a ∈ l, P a b
  | _, _, .nil, _, h => by cases h
  | _, _, .cons h t, b, hb => by
    rcases List.mem_cons.mp hb with rfl | hb
    · exact ⟨_, List.mem_cons_self, h⟩
    · obtain ⟨a, ha, hp⟩ := paired_mem t b hb
      exact ⟨a, List.mem_cons_of_mem _ ha, hp⟩
def ItemOk (K : PySem.W.Frag) (T : TT0) (pen : Addr) (H : Hp) (y : V) (d : PyData) : Prop := (∀ H', Kp T pen H H' → Dp K H' y d) ∧ PyData.canLay0 d = true ∧ d.depth ≤ 3
theorem seq_ix {k n : Nat} (h : k < n) : seqIndex? (k : Int) n = some k := by
  unfold seqIndex?
  have h1 : ¬ ((k : Int) < 0) := by omega
  simp only [h1, if_false]
  rw [if_pos]
  · rw [Int.toNat_natCast]
  · simp
    exact h
theorem erase_perm {α : Type} : ∀ {l : List α} {k : Nat} {y : α}, l[k]? = some y → (y :: l.eraseIdx k).Perm l
  | [], k, y, h => by simp at h
  | a :: l, 0, y, h => by
    have e : a = y := Option.some.inj h
    subst e
    exact List.Perm.refl _
  | a :: l, k + 1, y, h => by
    have ih := erase_perm (l := l) (k := k) (y := y) h
    exact (List.Perm.swap a y _).trans (ih.cons a)
def p_mixed (T : TT0) (K : PySem.W.Frag) : List V → Hp → Addr → (V → Hp → Prop) → Prop := fun vs H pen Φ => ∃ l xs, vs = [.ref pen, .ref l] ∧ H l = some (.lst xs) ∧ l ≠ pen ∧ xs.length ≤ 1000 ∧ (∀ y ∈ xs, ∃ d, ItemOk K T pen H y d) ∧ Φ = fun v H2 => ∃ p ys, v = .ref p ∧ p ≠ pen ∧ H2 p = some (.lst ys) ∧ ys.Perm xs
theorem fn_mixed (S : Say K mg) : Fn P w K mg base dL_mixed 2 ["_law_pen_here", "_law_things"] (spD T (p_mixed T K)) := by
  obtain ⟨_, F1, O1⟩ := fn_draw (T := T) (P := P) (w := w) (base := base) S
  refine fn_d S.f_L_mixed sc_L_mixed (fun vs H p v h => by obtain ⟨_, _, rfl, _⟩ := h; rfl) fun cdv A outer s H vs E hr => ⟨_, (tm_L_mixed S F1 O1 _ cdv A outer s H E hr).2, fun pen Φ Q hp h q => ?_⟩
  obtain ⟨l, xs, rfl, hl, nl, hn, hit, rfl⟩ := h
  dsimp only [tm_L_mixed]
  refine q_parO (T := T) (Ψ := fun us H1 => ∃ lr ld, us = [.ref lr, .ref ld] ∧ New H lr ∧ New H ld ∧ lr ≠ ld ∧ H1 lr = some (.lst xs) ∧ H1 ld = some (.lst [])) (eao_cons (Φ := NLst H xs) (fun H1 e1 Q q => ev_var rfl H1 e1 _ fun H2 e2 => ⟨l, xs, rfl, .inl (sl_of ((e1.trans e2).lst hl)), fun p hp => q _ _ (e2.trans (.new hp)) ⟨p, rfl, (new_none hp).back (e1.trans e2), upd_same⟩⟩) fun v H1 e1 ⟨lr, ev, n1, h1⟩ => eao_cons (eo_lst ea_nil (by simp)) fun u H2 e2 ⟨ld, eu, n2, h2⟩ => eao_nil.imp fun us H3 e3 hu => ⟨lr, ld, by rw [hu, ev, eu], n1, n2.back e1, n2.ne h1 nt_lst, (e2.trans e3).lst h1, e3.lst h2⟩) fun us H1 e1 ⟨lr, ld, eu, n1, n2, nrd, h1, h2⟩ => ⟨_, _, eu, ?_⟩
  have k1 := e1.kpen (pen := pen) hp
  have nlr : lr ≠ pen := pen_new hp n1
  have nld : ld ≠ pen := pen_new hp n2
  refine ⟨fun m σ H' => ∃ rs ds, m = rs.length ∧ σ = [some (.ref pen), some (.ref l), some (.ref lr), some (.ref ld)] ∧ Kp T pen H H' ∧ H' lr = some (.lst rs) ∧ H' ld = some (.lst ds) ∧ (ds ++ rs).Perm xs, ⟨xs.length, xs, [], rfl, rfl, k1, h1, h2, List.Perm.refl _⟩, ?_⟩
  rintro m σ H' ⟨rs, ds, rfl, rfl, k, r1, r2, pm⟩
  have hle : rs.length + ds.length = xs.length := by
    have := pm.length_eq
    rw [List.length_append] at this
    omega
  have sub : ∀ y ∈ rs, ∃ d, ItemOk K T pen H y d := fun y hy => hit y (pm.mem_iff.mp (List.mem_append_right _ hy))
  obtain ⟨dd, hdd⟩ := dps_of sub
  have lay : ∀ d ∈ dd, PyData.canLay0 d = true ∧ d.depth ≤ 3 := fun d hd => by
    obtain ⟨y, _, hy⟩ := paired_mem hdd d hd
    exact hy.2
  refine (et_test (T := T) (b := !rs.isEmpty) (ev_op2 (Ev.eo (ev_var rfl)) fun x H2 e2 hx => (eo_lst ea_nil (by simp)).imp fun y H3 e3 hy => ?_)) H' (.refl H') _ fun H2 e2 => ?_
  · subst hx
    obtain ⟨p, rfl, _, hp3⟩ := hy
    have k3 : Kp T pen H H3 := k.trans ((e2.trans e3).kpen k.p1)
    refine (rv_ned (.lst (sl_of ((e2.trans e3).lst r1)) (dps_all (fun y d hy => hy.1 _ k3) hdd)) (.lst (sl_of hp3) .nil) (shaped_lst (n := 3) (by decide) lay) rfl).is ?_
    cases hdd <;> rfl
  · have k2 := k.trans (e2.kpen k.p1)
    cases hrs : rs with
    | nil =>
      subst hrs
      rw [List.append_nil] at pm
      show tRet (tVar 3) _ _ H2
      exact s_ret (T := T) (ev_var rfl) fun H3 e3 => q _ H3 (k2.trans (e3.kpen k2.p1)) ⟨ld, ds, rfl, nld, (e2.trans e3).lst r2, pm⟩
    | cons r0 rr =>
      rw [← hrs]
      have hpos : 0 < rs.length := by rw [hrs]; exact Nat.zero_lt_succ _
      show if (!rs.isEmpty) = true then _ else _
      rw [if_pos (by rw [hrs]; rfl)]
      refine ⟨fun σ' H' => ∃ m', m' < rs.length ∧ ∃ rs' ds, m' = rs'.length ∧ σ' = [some (.ref pen), some (.ref l), some (.ref lr), some (.ref ld)] ∧ Kp T pen H H' ∧ H' lr = some (.lst rs') ∧ H' ld = some (.lst ds) ∧ (ds ++ rs').Perm xs, fun σ' H' h => h, ?_⟩
      have r1' := e2.lst r1
      have r2' := e2.lst r2
      refine ⟨_, rfl, .inl ⟨rfl, ds, sl_of r2'⟩, _, rfl, .inl ⟨rfl, rs, sl_of r1'⟩, (ed_draw (T := T) (m := (rs.length : Int)) (σ := [some (.ref pen), some (.ref l), some (.ref lr), some (.ref ld)]) (i := 0) rfl (ed_ev fun H3 k3 => ev_cb (ea1 (ev_var rfl)) (rc_lenL (sl_of (k3.lst r1' nlr)))) (by omega) (by omega)) H2 (.refl k2.p1) _ fun v H3 k3 ⟨n, hv, m0, m1⟩ => ?_⟩
      obtain ⟨j, rfl⟩ : ∃ j : Nat, n = (j : Int) := ⟨n.toNat, by omega⟩
      have hj : j < rs.length := by omega
      have r13 := k3.lst r1' nlr
      have r23 := k3.lst r2' nld
      refine ⟨lr, rs, (j : Int), j, rs[j], rfl, by rw [hv], r13, by omega, by omega, seq_ix hj, List.getElem?_eq_getElem hj, ?_⟩
      have r24 : upd H3 lr (.lst (rs.eraseIdx j)) ld = some (.lst ds) := by rw [upd_ne nrd.symm]; exact r23
      have k23 := k2.trans k3
      have k4 := k23.mut (o := .lst (rs.eraseIdx j)) n1 nlr r13 trivial
      refine ⟨ld, ds, _, rfl, rfl, r24, lt_line (by omega), rs.length - 1, by omega, rs.eraseIdx j, ds ++ [rs[j]], ?_, rfl, k4.mut n2 nld r24 trivial, ?_, upd_same, ?_⟩
      · rw [List.length_eraseIdx]
        simp [hj]
      · rw [upd_ne nrd]
        exact upd_same
      · rw [List.append_assoc]
        exact (List.Perm.append_left ds (erase_perm (List.getElem?_eq_getElem hj))).trans pm
end
end Bb
/-! ## part Rd18 -/
/-! all bests of a club -/
namespace Bb
open PySem PySem.Spec PyProof.Rows L2 LamX BbS NdefX PySem.W
section
variable {T : TT0} {P : Program} {w : World} {K : PySem.W.Frag} {mg : Str → Option Value} {base : Heap} {G H H0 H1 H2 H' : Hp} {a p pen : Addr} {σ : L2.St} {te ta tb td tl : TE} {ts tr tk : TA} {v x y z : V} {vs us zs xs ds : List V} {Φ Ψ Θ : V → Hp → Prop} {B B' : Bk} {i : Nat} {C : Clb} {g : TG} {tu tz : TS} {D : Ends}
theorem tabs_updF {o : HO} {od : Obj} {u : HO} (t : Tabs T H') (e : H' p = some (.frz od u)) : Tabs T (upd H' p o) := by
  intro q hq
  obtain ⟨ps, h1, h2, h3⟩ := t q hq
  refine ⟨ps, by rw [upd_ne (ne_of h1 e (by intro z; cases z))]; exact h1, h2, fun pos cv hc => ?_⟩
  obtain ⟨c, e1, e2⟩ := h3 pos cv hc
  exact ⟨c, e1, by rw [upd_ne (ne_of e2 e (by intro z; unfold CodeO at z; cases z))]; exact e2⟩
/-- [e for x in d.values()] -/
theorem eo_vals {α : Type} {L : List α} {ky : α → Key} {iv ev : α → V} {d : Addr} {j : Nat} {vn : List Nat} (hd : H d = some (.dK (L.map fun q => (ky q, iv q)))) (htd : ∀ H1 od, Wd T H H1 → Ev T td σ (upd H1 d (.frz od (.dK (L.map fun q => (ky q, iv q))))) (.ref d)) (hn : L.length ≤ 100000) (hw : ∀ x, wipe (sl1 σ vn j x) vn = wipe σ vn)
    (he : ∀ b ∈ L, ∀ H1 od H2, Wd T H H1 → Wd T (upd H1 d (.frz od (.dK (L.map fun q => (ky q, iv q))))) H2 → Ev T te (sl1 σ vn j (iv b)) H2 (ev b)) : EvO T (tLockE (tLc (iVals td) (gName j) tYes te vn)) σ H (NLst H (L.map ev)) := fun H1 e1 Q q => by
  have hd1 := e1.dK hd
  refine ⟨d, _, hd1, trivial, fun od => ?_⟩
  refine htd H1 od e1 _ (.refl _) _ fun H2 e2 => ⟨d, od, _, rfl, e2.get upd_same nt_frz, fun Dl hD => ?_⟩
  have w := walk_values (d := d) (o := od) (kvs := L.map fun q => (ky q, iv q))
  rw [List.length_map] at w
  refine lc_gen (T := T) (Φ := fun b y _ => y = ev b) (L := L) (f := fun _ => true) w (H := upd H1 d (.frz od (.dK (L.map fun q => (ky q, iv q))))) (H1 := H2) e2 hD (fun H' e => e.get upd_same nt_frz) hn (fun _ _ _ _ _ z => z) (fun i b x H' H'' hb e y => ?_) fun H' ys e nD hy hp => ?_
  · obtain ⟨rfl, k, hx⟩ := y
    rw [List.getElem?_map, hb] at hx
    injection hx with hx
    injection hx with _ hx
    subst hx
    exact ⟨.refl _, fun Q k => k _ _ (.refl _) (hw _) et_yes fun _ => (he b (List.mem_of_getElem? hb) H1 od _ e1 e).eo⟩
  · rw [paired_eq hp, List.filter_eq_self.mpr (fun _ _ => rfl)] at hy
    have hd' : H' d = some (.frz od (.dK (L.map fun q => (ky q, iv q)))) := e.get upd_same nt_frz
    have hne : Dl ≠ d := fun z => by rw [z, hd'] at hy; cases hy
    refine ⟨hd', q _ _ ⟨fun b o hb nt => ?_, fun t => ?_⟩ ⟨Dl, rfl, fun o ho nt => ?_, by rw [upd_ne hne]; exact hy⟩⟩
    · by_cases hbd : b = d
      · subst hbd
        rw [upd_same, ← hd1, hb]
      · rw [upd_ne hbd]
        exact e.get (by rw [upd_ne hbd]; exact hb) nt
    · exact tabs_updF (e.2 (tabs_upd t hd1 trivial)) hd'
    · exact nD o (by rw [upd_ne hne]; exact e1.get ho nt) nt
theorem s_forTG (h : Ev T tl σ H (.ref a)) (Pv : Nat → L2.St → Hp → Prop) (h0 : ∀ H1, Wd T H H1 → Pv 0 σ H1) (hl : ∀ i σ' H', Pv i σ' H' → SqT K H' a xs)
    (hs : ∀ i x σ' H', xs[i]? = some x → Pv i σ' H' → g x σ' H' fun σ2 H2 => tu { D with nx := Pv (i + 1), ct := Pv (i + 1), bk := D.nx } σ2 H2) (hd : ∀ σ' H', Pv xs.length σ' H' → D.nx σ' H') : tFor (iTup K tl) g tu D σ H := h.bind fun H1 e =>
  ⟨a, rfl, ⟨xs, hl 0 σ H1 (h0 H1 e)⟩, for_tup (xs := xs) Pv (h0 H1 e) (fun i σ' H' _ p => hl i σ' H' p) (fun i x σ' H' hi p => hs i x σ' H' hi p) fun σ' H' p => hd σ' H' p⟩
theorem s_forR {n : Nat} (h : EvA T ts σ H [.int (n : Int)]) (hn : n ≤ 100000) (Pv : Nat → L2.St → Hp → Prop) (h0 : ∀ H1, Wd T H H1 → Pv 0 σ H1)
    (hs : ∀ i σ' H', i < n → Pv i σ' H' → g (.int (i : Int)) σ' H' fun σ2 H2 => tu { D with nx := Pv (i + 1), ct := Pv (i + 1), bk := D.nx } σ2 H2) (hd : ∀ σ' H', Pv n σ' H' → D.nx σ' H') : tFor (iRng1 ts) g tu D σ H := h H (.refl H) _ fun H1 e =>
  ⟨(n : Int), rfl, by omega, by omega, for_range (lo := 0) (n := n) Pv (h0 H1 e) (fun i σ' H' hi p => by rw [show (0 : Int) + (i : Int) = (i : Int) from Int.zero_add _]; exact hs i σ' H' hi p) fun σ' H' p => hd σ' H' p⟩
theorem inr_of : ∀ {L : List Key}, (∀ k ∈ L, ∃ i : Str, k = Sum.inr i) → ∃ bs : List Str, L = bs.map Sum.inr
  | [], _ => ⟨[], rfl⟩
  | k :: L, h => by
    obtain ⟨i, rfl⟩ := h k List.mem_cons_self
    obtain ⟨bs, rfl⟩ := inr_of (L := L) fun x hx => h x (List.mem_cons_of_mem _ hx)
    exact ⟨i :: bs, rfl⟩
theorem eo_sortSetS {gs : List Str} (h : EvO T te σ H fun v H' => ∃ l, v = .ref l ∧ New H l ∧ H' l = some (SetMO P w l (membs (gs.map Sum.inr)))) (hl : gs.length ≤ 1000 := by simp; omega) : EvO T (tCB (rSortSet P w Sum.inr PyData.str) (tCons te tNil)) σ H (fun v H2 => ∃ l, ∃ ss : List Str, v = .ref l ∧ New H l ∧ H2 l = some (.lst (ss.map V.str)) ∧ ss.length ≤ gs.length ∧ ∀ s ∈ ss, s ∈ gs) := fun H1 e1 Q q =>
  h H1 e1 _ fun v H2 e2 ⟨l, ev, _, hv⟩ => by
    obtain ⟨bs0, hbs⟩ := inr_of (L := membs (gs.map Sum.inr)) fun k hk => by
      obtain ⟨i, _, rfl⟩ := List.mem_map.mp ((membs_mem _ _).mp hk)
      exact ⟨i, rfl⟩
    rw [hbs] at hv
    have hle : bs0.length ≤ gs.length := by
      have h1 := membs_len (gs.map Sum.inr)
      rw [hbs, List.length_map, List.length_map] at h1
      exact h1
    refine ⟨l, bs0, by rw [ev], hv, by omega, fun bs p pm hp => q _ _ (e2.trans (.new hp)) ⟨p, bs.mergeSort (dataLe false PyData.str), rfl, (new_none hp).back (e1.trans e2), upd_same, ?_, fun s hs => ?_⟩⟩
    · rw [List.length_mergeSort, pm.length_eq]
      exact hle
    · have hs' : s ∈ bs0 := pm.mem_iff.mp (List.mem_mergeSort.mp hs)
      have h1 : (Sum.inr s : Key) ∈ membs (gs.map Sum.inr) := by
        rw [hbs]
        exact List.mem_map.mpr ⟨s, hs', rfl⟩
      obtain ⟨m, hm, e⟩ := List.mem_map.mp ((membs_mem _ _).mp h1)
      cases e
      exact hm
structure BestC (C : Clb) (ev : Str) (g : Option Str) (pl : Nat) : Prop where
  ev : ∃ x ∈ C.events, x.1 = ev
  gn : ∀ z, g = some z → nameB z = true
  pl : pl ≤ C.terms.limits.length
structure Bq where
  ev : Str
  g : Option Str
  pl : Nat
  t : Addr
def bqV (q : Bq) : List V := [.str q.ev, optV q.g, .int (q.pl : Int)]
def FndAt (G H' : Hp) (lf : Addr) (C : Clb) (lo hi : Nat) : Prop := New G lf ∧ ∃ Z : List Bq, H' lf = some (.lst (Z.map fun q => .ref q.t)) ∧ (∀ q ∈ Z, H' q.t = some (.tup (bqV q)) ∧ BestC C q.ev q.g q.pl) ∧ lo ≤ Z.length ∧ Z.length ≤ hi
theorem FndAt.mono {lf : Addr} {lo hi : Nat} (h : FndAt G H1 lf C lo hi) (e : Wd T H1 H2) : FndAt G H2 lf C lo hi := by
  obtain ⟨n, Z, h1, h2, h3⟩ := h
  exact ⟨n, Z, e.lst h1, fun q hq => ⟨e.tup (h2 q hq).1, (h2 q hq).2⟩, h3⟩
def p_bests : List V → Hp → (V → Hp → Prop) → Prop := fun vs H Φ => ∃ c C, vs = [.ref c] ∧ ClubAt H c C ∧ ClOk C ∧ Φ = fun v H2 => ∃ l, v = .ref l ∧ FndAt H H2 l C 1 1000
theorem fn_bests (S : Say K mg) : Fn P w K mg base dL_bests 1 ["_law_club_here"] (spO T p_bests) := by
  refine fn_o S.f_L_bests sc_L_bests (fun vs H v h => by obtain ⟨_, _, rfl, _⟩ := h; rfl) fun cdv A outer s H vs E hr => ⟨_, (tm_L_bests S _ cdv A outer s H E hr).2, fun Φ H0 Q e h q => ?_⟩
  obtain ⟨c, C, rfl, hc, ok, rfl⟩ := h
  have hcl := hc
  obtain ⟨ev, te, pd, de, pa, xs, c1, ⟨E3, c2a, c2b, c2c⟩, ⟨tl, c3, c4⟩, ⟨Zp, c5, c6, c7⟩, c8, c9⟩ := hc
  have el : E3.length = C.events.length := by rw [← c2a, List.length_map]
  have e1' := ok.ev.l1
  have e2' := ok.ev.l2
  have lm := ok.tr.lim.1
  have zp6 : Zp.length = 6 := by
    have h1 := congrArg List.length ok.nm
    rw [List.length_map] at h1
    have h2 := congrArg List.length c5
    rw [List.length_map] at h2
    have h6 : six.length = 6 := rfl
    omega
  dsimp only [tm_L_bests]
  refine q_asgO (T := T) (eo_lst ea_nil (by simp)) fun v H1 e1 ⟨lf, ev', nf, hf⟩ => ?_
  subst ev'
  have g1 := e.trans e1
  refine q_ (s_forTG (T := T) (xs := E3.map fun q => V.ref q.2) (ev_dgetK (k := Sum.inr "events") (ev_var rfl) ev_c (g1.dK c1) rfl) (fun i σ' H' => Wd T H H' ∧ FndAt H H' lf C i (35 * i) ∧ ∃ u2 u3 u4 u5, σ' = [some (.ref c), some (.ref lf), u2, u3, u4, u5]) (fun H2 e2 => ⟨e1.trans e2, ⟨nf, [], e2.lst hf, (fun _ h => by cases h), Nat.le_refl _, Nat.le_refl _⟩, _, _, _, _, rfl⟩) (fun i σ' H' h => st_of ((e.trans h.1).tup c2b)) (fun i x σ' H' hx ⟨w1, fd, u2, u3, u4, u5, es⟩ => ?_) fun σ' H' ⟨w1, fd, u2, u3, u4, u5, es⟩ => ?_)
  · obtain ⟨qe, hqe, rfl⟩ := map_at hx
    subst es
    have mqe := List.mem_of_getElem? hqe
    have i4 : i < 4 := by
      have := (List.getElem?_eq_some_iff.mp hqe).1
      omega
    have gw := e.trans w1
    refine s_forG (T := T) (Φ := fun v H2 => ∃ l, ∃ ss : List Str, v = .ref l ∧ New H' l ∧ H2 l = some (.lst (.non :: ss.map V.str)) ∧ ss.length ≤ 6 ∧ ∀ s ∈ ss, nameB s = true) ?_ fun v H2 e2 ⟨ls, ss, ev', nls, hls, sl, sn⟩ => ⟨ls, .non :: ss.map V.str, ev', fun j σ' H'' => Wd T H H'' ∧ H'' ls = some (.lst (.non :: ss.map V.str)) ∧ FndAt H H'' lf C (i + j) (35 * i + 5 * j) ∧ ∃ u3 u4 u5, σ' = [some (.ref c), some (.ref lf), some (.ref qe.2), u3, u4, u5], ?_, ?_, ?_, ?_⟩
    · refine eo_op2 (eo_lst (ea1 ev_c) (by simp)) fun x H2 e2 ⟨la, ex, nla, hla⟩ => (eo_sortSetS (gs := Zp.map fun q => q.2.1.group) (eo_set (ks := (Zp.map fun q => q.2.1.group).map Sum.inr) ((eo_vals (L := Zp) (ky := fun q => Sum.inr q.1) (iv := fun q => .ref q.2.2) (ev := fun q => .str q.2.1.group) ((gw.trans e2).dK c6) (fun H3 od e3 => ev_dgetK (kvs := clKv ev te pd de pa) (k := Sum.inr "people") (ev_var rfl) ev_c ?_ rfl) (by omega) (fun _ => rfl) fun z hz H3 od H4 e3 e4 => ev_op (ev_var rfl) ev_c (rv_ixt (xs := [.int z.2.1.born, .str z.2.1.group, .str z.2.1.team]) (st_of (e4.tup ?_)) (atI_nat' (n := 1) rfl))).imp fun v H3 e3 ⟨l, ev', _, hl⟩ => ⟨l, ev', by rw [hl, List.map_map, List.map_map]; rfl⟩) (by rw [List.length_map, List.length_map]; omega))).imp fun y H3 e3 ⟨lb, ss, ey, nlb, hlb, h1, h2⟩ => ?_
      · have hcd : H3 c = some (.dK (clKv ev te pd de pa)) := ((gw.trans e2).trans e3).dK c1
        have hpd : H3 pd = some (.dK (Zp.map fun q => (Sum.inr q.1, V.ref q.2.2))) := ((gw.trans e2).trans e3).dK c6
        rw [upd_ne]
        · exact hcd
        · intro z
          rw [z, hpd] at hcd
          have := congrArg (fun o => match o with | some (HO.dK k) => k.length | _ => 0) hcd
          simp [clKv] at this
          omega
      · have hz3 := ((gw.trans e2).trans e3).tup (c7 z hz)
        rw [upd_ne (ne_of hz3 (((gw.trans e2).trans e3).dK c6) (by intro z; cases z))]
        exact hz3
      · subst ex ey
        exact fun H4 e4 Q q => ⟨la, lb, _, _, rfl, rfl, (e3.trans e4).lst hla, e4.lst hlb, le_line (by rw [List.length_map] at h1 ⊢; simp; omega), fun p hp => q _ _ (.new hp) ⟨p, ss, rfl, (new_none hp).back ((e2.trans e3).trans e4), upd_same, by rw [List.length_map] at h1; omega, fun s hs => by
          obtain ⟨zq, hzq, rfl⟩ := List.mem_map.mp (h2 s hs)
          exact (ok.pr (zq.1, zq.2.1) (by rw [← c5]; exact List.mem_map.mpr ⟨zq, hzq, rfl⟩)).g⟩⟩
    · exact ⟨w1.trans e2, hls, fd.mono e2, _, _, _, rfl⟩
    · exact fun j σ' H'' h => sl_of h.2.1
    · intro j x σ' H'' hx ⟨w2, hls2, fd2, u3, u4, u5, es⟩
      subst es
      obtain ⟨gg, rfl, hgg⟩ : ∃ gg : Option Str, x = optV gg ∧ ∀ z, gg = some z → nameB z = true := by
        cases j with
        | zero =>
          obtain rfl : V.non = x := Option.some.inj hx
          exact ⟨none, rfl, fun _ z => by cases z⟩
        | succ j =>
          obtain ⟨s0, hs0, rfl⟩ := map_at (show (ss.map V.str)[j]? = some x from hx)
          exact ⟨some s0, rfl, fun z hz => by cases hz; exact sn s0 (List.mem_of_getElem? hs0)⟩
      have j7 : j < 7 := by
        have := (List.getElem?_eq_some_iff.mp hx).1
        rw [List.length_cons, List.length_map] at this
        omega
      have gw2 := e.trans w2
      refine s_forR (T := T) (n := C.terms.limits.length + 1) (ea1 (ev_op (ev_cb (ea1 (ev_op (ev_dgetK (k := Sum.inr "terms") (ev_var rfl) ev_c (gw2.dK c1) rfl) ev_c (rv_ixt (v := .ref tl) (st_of (gw2.tup c3)) (atI_nat' (n := 0) rfl)))) (rc_lenT (st_of (gw2.tup c4)))) ev_c (rv_i0' (by rw [List.length_map]; rfl)))) (by omega) (fun r σ' H3 => Wd T H H3 ∧ H3 ls = some (.lst (.non :: ss.map V.str)) ∧ FndAt H H3 lf C (i + j + r) (35 * i + 5 * j + r) ∧ ∃ u4 u5, σ' = [some (.ref c), some (.ref lf), some (.ref qe.2), some (optV gg), u4, u5]) (fun H3 e3 => ⟨w2.trans e3, e3.lst hls2, fd2.mono e3, _, _, rfl⟩) (fun r σ' H3 hr ⟨w3, hls3, ⟨nf3, Z3, f1, f2, f3, f4⟩, u4, u5, es⟩ => ?_) fun σ' H3 ⟨w3, hls3, fd3, u4, u5, es⟩ => ?_
      · subst es
        have gw3 := e.trans w3
        refine s_app (T := T) (Φ := MTup [.str qe.1.1, optV gg, .int (r : Int)]) f1 (ev_var rfl) (eo_tupm (ea3 (ev_op (ev_var rfl) ev_c (rv_ixt (st_of (gw3.tup (c2c qe mqe))) (atI_nat' (n := 0) rfl))) (ev_var rfl) (ev_var rfl)) (by simp)) (by rw [List.length_map]; omega) fun v H4 e4 ⟨t, ev', ht⟩ => ?_
        subst ev'
        have f14 := e4.lst f1
        have kt := tup_upd (o' := .lst ((Z3.map fun q => V.ref q.t) ++ [.ref t])) f14 fun _ z => (by cases z)
        refine ⟨(w3.trans e4).mut nf3 f14 trivial, ?_, ⟨nf3, Z3 ++ [⟨qe.1.1, gg, r, t⟩], by rw [upd_same, List.map_append]; rfl, fun q hq => ?_, by rw [List.length_append, List.length_singleton]; omega, by rw [List.length_append, List.length_singleton]; omega⟩, _, _, rfl⟩
        · have hls4 := e4.lst hls3
          have hlf : lf ≠ ls := by
            obtain ⟨_, Z0, f0, _⟩ := fd
            exact nls.ne f0 nt_lst
          rw [upd_ne hlf.symm]
          exact hls4
        · rcases List.mem_append.mp hq with hq | hq
          · exact ⟨kt _ _ (e4.tup (f2 q hq).1), (f2 q hq).2⟩
          · rw [List.mem_singleton.mp hq]
            exact ⟨kt _ _ ht, ⟨qe.1, by rw [← c2a]; exact List.mem_map.mpr ⟨qe, mqe, rfl⟩, rfl⟩, hgg, by show r ≤ _; omega⟩
      · subst es
        obtain ⟨n3, Z3, f1, f2, f3, f4⟩ := fd3
        exact ⟨w3, hls3, ⟨n3, Z3, f1, f2, by omega, by omega⟩, _, _, _, rfl⟩
    · intro σ' H'' ⟨w2, hls2, fd2, u3, u4, u5, es⟩
      subst es
      rw [List.length_cons, List.length_map] at fd2
      obtain ⟨n3, Z3, f1, f2, f3, f4⟩ := fd2
      exact ⟨w2, ⟨n3, Z3, f1, f2, by omega, by omega⟩, _, _, _, _, rfl⟩
  · subst es
    rw [List.length_map, el] at fd
    refine s_ret (T := T) (ev_var rfl) fun H2 e2 => q _ _ ((w1).trans e2) ⟨lf, rfl, ?_⟩
    obtain ⟨n, Z, h1, h2, h3, h4⟩ := fd.mono e2
    exact ⟨n.back e, Z, h1, h2, by omega, by omega⟩
end
end Bb
/-! ## part Rd19 -/
/-! one of the bests; the book told -/
namespace Bb
open PySem PySem.Spec PyProof.Rows L2 LamX BbS NdefX PySem.W
section
variable {T : TT0} {P : Program} {w : World} {K : PySem.W.Frag} {mg : Str → Option Value} {base : Heap} {G H H0 H1 H2 H' : Hp} {a p pen : Addr} {σ : L2.St} {te ta tb td tl : TE} {ts tr tk : TA} {v x y z : V} {vs us zs xs ds : List V} {Φ Ψ Θ : V → Hp → Prop} {B B' : Bk} {i : Nat} {C : Clb} {g : TG} {tu tz : TS} {D : Ends}
def p_some_best : List V → Hp → Addr → (V → Hp → Prop) → Prop := fun vs H pen Φ => ∃ c C, vs = [.ref pen, .ref c] ∧ ClubAt H c C ∧ ClOk C ∧ Φ = fun v H2 => ∃ q : Bq, v = .ref q.t ∧ H2 q.t = some (.tup (bqV q)) ∧ BestC C q.ev q.g q.pl
theorem fn_some_best (S : Say K mg) : Fn P w K mg base dL_some_best 2 ["_law_pen_here", "_law_club_here"] (spD T p_some_best) := by
  obtain ⟨_, F1, O1⟩ := fn_draw (T := T) (P := P) (w := w) (base := base) S
  obtain ⟨_, F2, O2⟩ := fn_bests (T := T) (P := P) (w := w) (base := base) S
  refine fn_d S.f_L_some_best sc_L_some_best (fun vs H p v h => by obtain ⟨_, _, rfl, _⟩ := h; rfl) fun cdv A outer s H vs E hr => ⟨_, (tm_L_some_best S F1 O1 F2 O2 _ cdv A outer s H E hr).2, fun pen Φ Q hp h q => ?_⟩
  obtain ⟨c, C, rfl, hc, ok, rfl⟩ := h
  dsimp only [tm_L_some_best]
  refine q_asgO (T := T) (eo_call (ea1 (ev_var rfl)) (gvO ⟨c, C, rfl, hc, ok, rfl⟩)) fun v H1 e1 ⟨l, ev, nl, Z, z1, z2, z3, z4⟩ => ?_
  subst ev
  have k1 := e1.kpen hp
  have nlp : l ≠ pen := pen_new hp nl
  refine ds_ret k1.p1 (ed_op (Θ := fun v H2 => ∃ q : Bq, v = .ref q.t ∧ H2 q.t = some (.tup (bqV q)) ∧ BestC C q.ev q.g q.pl) (ed_var (v := .ref l) rfl) fun x H2 k2 hx => (ed_draw (m := (Z.length : Int)) rfl (ed_ev fun H3 k3 => .is (ev_cb (ea1 (ev_var rfl)) (rc_lenL (sl_of ((k2.trans k3).lst z1 nlp)))) (by rw [List.length_map])) (by omega) (by omega)).imp fun y H3 k3 ⟨n, hy, h0, h1⟩ => ?_) fun v H2 k2 hv => q v H2 (k1.trans k2) hv
  subst hx hy
  obtain ⟨j, rfl⟩ : ∃ j : Nat, n = (j : Int) := ⟨n.toNat, by omega⟩
  have hj : j < Z.length := by omega
  exact fun H4 e4 Q q => rv_ixl (v := .ref Z[j].t) (sl_of ((k2.trans k3).lst z1 nlp)) (atI_nat' (by rw [List.getElem?_map, List.getElem?_eq_getElem hj]; rfl)) H4 e4 _ fun H5 e5 => q _ H5 e5 ⟨Z[j], rfl, (e4.trans e5).tup ((k2.trans k3).tup (z2 _ (List.getElem_mem hj)).1), (z2 _ (List.getElem_mem hj)).2⟩
/-! ### telling all -/
/-- a row to be told as it lies -/
structure Ri where
  r : Rw
  k : Int
  t : Addr
  p : Addr
def rowK (r : Rw) : List Key := [Sum.inr r.name, Sum.inr r.event, Sum.inl r.mark, Sum.inl r.day, Sum.inl r.hour, Sum.inl r.wind, Sum.inr r.course]
theorem rowK_V (r : Rw) : (rowK r).map kV = rowV r := rfl
theorem rowK_inj {r q : Rw} (h : rowK r = rowK q) : r = q := by
  unfold rowK at h
  simp only [List.cons.injEq, Sum.inr.injEq, Sum.inl.injEq, and_true] at h
  obtain ⟨h1, h2, h3, h4, h5, h6, h7⟩ := h
  cases r
  cases q
  simp_all
def numK (R : List (Rw × Int)) : List (List Key × V) := R.zipIdx.map fun q => (rowK q.1.1, V.int (q.2 : Int))
def numOf (R : List (Rw × Int)) (r : Rw) : Nat := R.findIdx fun q => decide (q.1 = r)
theorem Kp.m {H'' : Hp} (k : Kp T pen H H') (n : New H a) (ne : a ≠ pen) (m : WdM T a H' H'') : Kp T pen H H'' := by
  refine ⟨k.p0, ?_, fun b o hb nb nt => m.1 b o (k.kp b o hb nb nt) (n.ne hb nt) nt, fun t => m.2 (k.tb t)⟩
  obtain ⟨n1, m1, h1, h2⟩ := k.p1
  exact ⟨n1, m1, m.1 _ _ h1 ne.symm nt_lst, h2⟩
theorem Kp.ke (k : Kp T pen H H') : Keeps K H H' := ⟨fun _ _ h => k.tup h, fun _ _ h => k.dK h, fun b r ⟨d, h⟩ => ⟨d, k.ins h⟩, fun b r ⟨d, l, h, h2⟩ => ⟨d, l, k.ins h, k.tup h2⟩, fun b n r ⟨d, h⟩ => ⟨d, k.ins h⟩⟩
theorem BookAt.kp (h : BookAt K H a B) (k : Kp T pen H H') : BookAt K H' a B := by
  obtain ⟨A, h1, h2⟩ := h
  exact ⟨A, k.ins h1, h2.ke k.ke⟩
theorem BookAt.updT {b : Addr} {o : HO} {kvs : List (List Key × V)} (h : BookAt K H a B) (hb : H b = some (.dT kvs)) : BookAt K (upd H b o) a B := by
  have nk : ∀ {c : Addr} {u : HO}, H c = some u → (∀ k, u ≠ .dT k) → upd H b o c = some u := fun hc hn => by
    rw [upd_ne (ne_of hc hb (hn _))]
    exact hc
  obtain ⟨A, h1, h2⟩ := h
  exact ⟨A, nk h1 (fun _ z => by cases z), h2.ke ⟨fun _ _ h => nk h (fun _ z => by cases z), fun _ _ h => nk h (fun _ z => by cases z), fun _ _ ⟨d, h⟩ => ⟨d, nk h (fun _ z => by cases z)⟩, fun _ _ ⟨d, l, h, h2⟩ => ⟨d, l, nk h (fun _ z => by cases z), nk h2 (fun _ z => by cases z)⟩, fun _ _ _ ⟨d, h⟩ => ⟨d, nk h (fun _ z => by cases z)⟩⟩⟩
theorem e_mutNA {C dx : Addr} {fs : List (Str × V)} {m : Str} {pre : List V → Hp → Addr → Bk → V → Prop} {n mk : Nat} {gV : List V → List V → List V} {tq : VK} {Ψ : List V → Hp → Prop} (ho : σ[i]? = some (some (.ref a))) (hA : H a = some (.ins C dx fs)) (l : fs.lookup m = none) (hs : EvAO T ts σ H Ψ) (hk : ∀ H1, Wd T H H1 → EvA T tk σ H1 zs) (l2 : zs.length = mk)
    (h : ∀ us H1, Wd T H H1 → (∃ H0, Wd T H0 H1 ∧ Ψ us H0) → us.length = n ∧ pre (gV (.ref a :: us) zs) H1 a B' v) (k : ∀ H', WdM T a H H' → BookAt K H' a B' → tq v H') : tMethN C m n mk (spM T K pre) gV E0 (tVar i) ts tk σ H tq :=
  ⟨_, ho, a, dx, fs, rfl, hA, l, hs H (.refl H) _ fun us H1 e1 f => hk H1 e1 H1 (.refl H1) _ fun H2 e2 => ⟨(h us H2 (e1.trans e2) ⟨H1, e2, f⟩).1, l2, a, B', v, (h us H2 (e1.trans e2) ⟨H1, e2, f⟩).2, fun H' m' b => k H' ((e1.trans e2).wm.trans m') b⟩⟩
theorem numK_take {R : List (Rw × Int)} {i : Nat} {q : Rw × Int} (h : R[i]? = some q) : numK (R.take (i + 1)) = numK (R.take i) ++ [(rowK q.1, V.int (i : Int))] := by
  have hl := (List.getElem?_eq_some_iff.mp h).1
  unfold numK
  rw [List.take_add_one, h, Option.toList_some, List.zipIdx_append, List.map_append]
  congr 1
  simp [List.length_take, Nat.min_eq_left (Nat.le_of_lt hl)]
theorem valV_numK' {r : Rw} : ∀ (R : List (Rw × Int)) (n : Nat), valV ((R.zipIdx n).map fun q => (rowK q.1.1, V.int (q.2 : Int))) (rowK r) = if numOf R r < R.length then some (.int ((n + numOf R r : Nat) : Int)) else none
  | [], n => rfl
  | q :: R, n => by
    rw [List.zipIdx_cons, List.map_cons]
    unfold numOf
    rw [List.findIdx_cons]
    by_cases e : q.1 = r
    · rw [valV_pos (by rw [e])]
      simp [e]
    · rw [valV_neg (fun z => e (rowK_inj z)), valV_numK' R (n + 1)]
      unfold numOf
      simp only [e, decide_false, cond_false, List.length_cons]
      by_cases h : List.findIdx (fun q => decide (q.1 = r)) R < R.length
      · rw [if_pos h, if_pos (by omega)]
        congr 3
        omega
      · rw [if_neg h, if_neg (by omega)]
theorem valV_numK {R : List (Rw × Int)} {r : Rw} : valV (numK R) (rowK r) = if numOf R r < R.length then some (.int (numOf R r : Int)) else none := by
  have := valV_numK' (r := r) R 0
  rw [Nat.zero_add] at this
  exact this
theorem numOf_lt {R : List (Rw × Int)} {r : Rw} (h : ∃ q ∈ R, q.1 = r) : numOf R r < R.length := List.findIdx_lt_length_of_exists (by
  obtain ⟨q, h1, h2⟩ := h
  exact ⟨q, h1, by simpa using h2⟩)
theorem numOf_no {R : List (Rw × Int)} {r : Rw} (h : ∀ q ∈ R, q.1 ≠ r) : ¬ numOf R r < R.length := fun z => by
  have := List.findIdx_getElem (w := z)
  simp only [decide_eq_true_eq] at this
  exact h _ (List.getElem_mem z) this
/-- rows and papers to be told -/
structure Sheet (C : Clb) (R : List (Rw × Int)) (L : List (Pap Nat)) : Prop where
  fit : ∀ q ∈ R, RowFit C q.1 ∧ q.1.day ≤ q.2 ∧ q.2 ≤ 40000
  un : R.Pairwise fun q q' => q.1.day ≠ q'.1.day ∨ q.1.hour ≠ q'.1.hour
  len : R.length ≤ 50
  pap : ∀ z ∈ L, PapC R.length z
  pun : L.Pairwise fun z z' => z.known ≠ z'.known
  plen : L.length ≤ 50
def Pap.map {α β : Type} (f : α → β) : Pap α → Pap β
  | .out n k => .out (f n) k
  | .inn n k => .inn (f n) k
  | .right c k => .right c k
  | .wrong c s t k => .wrong c s t k
def relab (R R' : List (Rw × Int)) (j : Nat) : Nat := numOf R' (R.getD j (rw0, 0)).1
def RowsAt (H : Hp) (l : Addr) (R : List (Rw × Int)) : Prop := ∃ Z : List Ri, Z.map (fun q => (q.r, q.k)) = R ∧ H l = some (.lst (Z.map fun q => .ref q.p)) ∧ ∀ q ∈ Z, H q.p = some (.tup [.ref q.t, .int q.k]) ∧ H q.t = some (.tup (rowV q.r))
def toldBk (C : Clb) (R' : List (Rw × Int)) (L' : List (Pap Nat)) (past : Nat) (pe : Addr) : Bk := ⟨C.events, C.terms, C.people, R', L', past, pe⟩
theorem dq_for {tl : TE} (hp : PenAt H pen) (h : EvD T pen tl σ H Φ) (hx : ∀ v H1, Kp T pen H H1 → Φ v H1 → ∃ a xs, v = .ref a ∧ ∃ Pv : Nat → L2.St → Hp → Prop, Pv 0 σ H1 ∧ (∀ i σ' H', Pv i σ' H' → SqL K H' a xs) ∧
      (∀ i x σ' H', xs[i]? = some x → Pv i σ' H' → g x σ' H' fun σ2 H2 => tu { D with nx := Pv (i + 1), ct := Pv (i + 1), bk := tz D } σ2 H2) ∧ ∀ σ' H', Pv xs.length σ' H' → tz D σ' H') : tSeq (tFor (iList K tl) g tu) tz D σ H := h H (.refl hp) _ fun v H1 e f => by
  obtain ⟨a, xs, rfl, Pv, h0, hl, hs, hd⟩ := hx v H1 e f
  exact ⟨a, rfl, ⟨xs, hl 0 σ H1 h0⟩, for_list (xs := xs) Pv h0 (fun i σ' H' _ p => hl i σ' H' p) (fun i x σ' H' hi p => hs i x σ' H' hi p) fun σ' H' p => hd σ' H' p⟩
theorem row_lay {r : Rw} (h : RwOk r) (k : Int) : PyData.canLay0 (.tuple [rowD r, .int k]) = true ∧ (PyData.tuple [rowD r, .int k]).depth ≤ 3 := by
  have h1 := h.s1
  have h2 := h.s2
  have h3 := h.s3
  constructor
  · simp [rowD, rowDs, PyData.canLay0, PyData.canLayAll0, h1, h2, h3]
  · simp [rowD, rowDs, PyData.depth, PyData.depthAll]
theorem putK_new {κ : Type} [DecidableEq κ] {kvs : List (κ × V)} {k : κ} {v : V} (h : valV kvs k = none) : putK kvs k v = kvs ++ [(k, v)] := by
  have hn : (kvs.any fun kv => decide (kv.1 = k)) = false := by
    rw [valV_any, h]
    rfl
  unfold putK
  rw [hn]
  rfl
theorem take_last {α : Type} {U : α → α → Prop} {l : List α} (h : l.Pairwise U) {i : Nat} {z : α} (hz : l[i]? = some z) : ∀ a ∈ l.take i, U a z := fun a ha => by
  have h1 : (l.take (i + 1)).Pairwise U := h.sublist (List.take_sublist _ _)
  rw [List.take_add_one, hz, Option.toList_some, List.pairwise_append] at h1
  exact h1.2.2 a ha z List.mem_cons_self
def papD : Pap Nat → PyData
  | .out n k => .tuple [.str "out", .int (n : Int), .int k]
  | .inn n k => .tuple [.str "in", .int (n : Int), .int k]
  | .right c k => .tuple [.str "right", .str c, .int k]
  | .wrong c s t k => .tuple [.str "wrong", .str c, .int s, .int t, .int k]
theorem pap_dp {z : Pap Nat} (h : H p = some (.tup (papV z))) : Dp K H (.ref p) (papD z) := by
  cases z with
  | out n k => exact .tup (st_of h) (.cons (.str _) (.cons (.int _) (.cons (.int _) .nil)))
  | inn n k => exact .tup (st_of h) (.cons (.str _) (.cons (.int _) (.cons (.int _) .nil)))
  | right c k => exact .tup (st_of h) (.cons (.str _) (.cons (.str _) (.cons (.int _) .nil)))
  | wrong c s t k => exact .tup (st_of h) (.cons (.str _) (.cons (.str _) (.cons (.int _) (.cons (.int _) (.cons (.int _) .nil)))))
theorem pap_lay {z : Pap Nat} (h : PapSt z) : PyData.canLay0 (papD z) = true ∧ (papD z).depth ≤ 3 := by
  have s1 : PyData.strOk "out" = true := by decide +kernel
  have s2 : PyData.strOk "in" = true := by decide +kernel
  have s3 : PyData.strOk "right" = true := by decide +kernel
  have s4 : PyData.strOk "wrong" = true := by decide +kernel
  cases z <;> simp_all [PapSt, papD, PyData.canLay0, PyData.canLayAll0, PyData.depth, PyData.depthAll]
def p_told_so (K : PySem.W.Frag) : List V → Hp → Addr → (V → Hp → Prop) → Prop := fun vs H pen Φ => ∃ c C lr lp R L, vs = [.ref pen, .ref c, .ref lr, .ref lp] ∧ ClubAt H c C ∧ ClOk C ∧ Sheet C R L ∧ RowsAt H lr R ∧ lr ≠ pen ∧ PapLst H lp L ∧ lp ≠ pen ∧
  Φ = fun v H2 => ∃ (p a nb : Addr) (R' : List (Rw × Int)) (L' : List (Pap Nat)) (past : Nat) (pe : Addr), v = .ref p ∧ H2 p = some (.tup [.ref a, .ref nb]) ∧ R'.Perm R ∧ L'.Perm L ∧ BookAt K H2 a (toldBk C R' (L'.map (Pap.map (relab R R'))) past pe) ∧ H2 nb = some (.dT (numK R'))
theorem fn_told_so (S : Say K mg) : Fn P w K mg base dL_told_so 7 ["_law_pen_here", "_law_club_here", "_law_rows", "_law_papers"] (spD T (p_told_so K)) := by
  obtain ⟨_, F1, O1⟩ := fn_tell (T := T) (P := P) (w := w) (base := base) S
  obtain ⟨_, KB1⟩ := kb_Book_tell F1
  obtain ⟨_, F2, O2⟩ := fn_made (T := T) (P := P) (w := w) (base := base) S
  obtain ⟨_, F3, O3⟩ := fn_Ldeed (T := T) (P := P) (w := w) (base := base) S
  obtain ⟨_, F4, O4⟩ := fn_Ltell (T := T) (P := P) (w := w) (base := base) S
  obtain ⟨_, F5, O5⟩ := fn_mixed (T := T) (P := P) (w := w) (base := base) S
  refine fn_d S.f_L_told_so sc_L_told_so (fun vs H p v h => by obtain ⟨_, _, _, _, _, _, rfl, _⟩ := h; rfl) fun cdv A outer s H vs E hr => ⟨_, (tm_L_told_so S F1 O1 KB1 F2 O2 F3 O3 F4 O4 F5 O5 _ cdv A outer s H E hr).2, fun pen Φ Q hp h q => ?_⟩
  obtain ⟨c, C, lr, lp, R, L, rfl, hc, ok, sh, ⟨ZR, r1, r2, r3⟩, nlr, ⟨ZL, p1, p2, p3⟩, nlp, rfl⟩ := h
  have zrl : ZR.length = R.length := by rw [← r1, List.length_map]
  dsimp only [tm_L_told_so]
  refine q_parO (T := T) (Ψ := fun us H1 => ∃ a nb pe, us = [.ref a, .ref nb] ∧ New H a ∧ New H nb ∧ BookAt K H1 a (toldBk C [] [] 6 pe) ∧ H1 nb = some (.dT [])) (eao_cons (eo_call (ea1 (ev_var rfl)) (gvO ⟨c, C, rfl, hc, ok, rfl⟩)) fun v H1 e1 ⟨a, pe, ev, na, npe, bk⟩ => eao_cons eo_dnewT fun u H2 e2 ⟨nb, eu, nnb, hnb⟩ => eao_nil.imp fun us H3 e3 hu => ⟨a, nb, pe, by rw [hu, ev, eu], na, nnb.back e1, bk.mono (e2.trans e3), e3.dT hnb⟩) fun us H1 e1 ⟨a, nb, pe, eu, na, nnb, bk, hnb⟩ => ⟨_, _, eu, ?_⟩
  have k1 := e1.kpen (pen := pen) hp
  have nap : a ≠ pen := pen_new hp na
  have nnp : nb ≠ pen := pen_new hp nnb
  have hun : R.Pairwise fun q q' => q.1 ≠ q'.1 := sh.un.imp fun h e => by
    rw [e] at h
    rcases h with h | h <;> exact h rfl
  have usym : ∀ {l : List (Rw × Int)}, l.Perm R → l.Pairwise fun q q' => q.1.day ≠ q'.1.day ∨ q.1.hour ≠ q'.1.hour := fun pm => (pm.pairwise_iff (fun {a b} h => h.imp (fun h e => h e.symm) fun h e => h e.symm)).mpr sh.un
  refine dq_for (T := T) (Φ := fun v H2 => ∃ lm, ∃ Z' : List Ri, v = .ref lm ∧ lm ≠ pen ∧ Z'.Perm ZR ∧ H2 lm = some (.lst (Z'.map fun q => .ref q.p))) k1.p1 ((ed_call (pre := p_mixed T K) (Ψ := fun us _ => us = [.ref pen, .ref lr]) (eda_cons (ed_var (v := .ref pen) rfl) fun x G1 f1 hx => eda_cons (ed_var (v := .ref lr) rfl) fun y G2 f2 hy => eda_nil.imp fun us G3 f3 hu => by rw [hu, hx, hy]) fun us G1 f1 hu => ⟨lr, ZR.map fun q => .ref q.p, by rw [hu]; rfl, (k1.trans f1).lst r2 nlr, nlr, by rw [List.length_map, zrl]; have := sh.len; omega, fun y hy => ?_, rfl⟩).imp fun v H2 k2 ⟨lm, ys, ev, nlm, hlm, pm⟩ => ?_) fun v H2 k2 ⟨lm, Z', ev, nlm, pm, hlm⟩ => ⟨lm, Z'.map fun q => V.ref q.p, ev, fun i σ' H' => Kp T pen H H' ∧ H' lm = some (.lst (Z'.map fun q => .ref q.p)) ∧ (∃ u6 u7 u8, σ' = [some (.ref pen), some (.ref c), some (.ref lr), some (.ref lp), some (.ref a), some (.ref nb), u6, u7, u8]) ∧ BookAt K H' a (toldBk C ((Z'.take i).map fun q => (q.r, q.k)) [] (6 + i) pe) ∧ H' nb = some (.dT (numK ((Z'.take i).map fun q => (q.r, q.k)))), ?_, ?_, ?_, ?_⟩
  · obtain ⟨z, hz, rfl⟩ := List.mem_map.mp hy
    have hzr : (z.r, z.k) ∈ R := by rw [← r1]; exact List.mem_map.mpr ⟨z, hz, rfl⟩
    refine ⟨_, fun H' k' => .tup (st_of (((k1.trans f1).trans k').tup (r3 z hz).1)) (.cons (dp_row (((k1.trans f1).trans k').tup (r3 z hz).2)) (.cons (.int _) .nil)), row_lay (sh.fit _ hzr).1.ok z.k⟩
  · obtain ⟨Z', pz, rfl⟩ := perm_pull _ pm rfl
    exact ⟨lm, Z', ev, nlm, pz, hlm⟩
  · exact ⟨k1.trans k2, hlm, ⟨none, none, none, rfl⟩, bk.kp k2, k2.dT hnb⟩
  · exact fun i σ' H' h => sl_of h.2.1
  · intro i x σ' H' hx ⟨k3, hlm3, ⟨u6, u7, u8, es⟩, bk3, hnb3⟩
    obtain ⟨z, hz, rfl⟩ := map_at hx
    subst es
    have mz : z ∈ ZR := pm.mem_iff.mp (List.mem_of_getElem? hz)
    have hzr : (z.r, z.k) ∈ R := by rw [← r1]; exact List.mem_map.mpr ⟨z, mz, rfl⟩
    have fit := sh.fit _ hzr
    have hRz : (Z'.map fun q => (q.r, q.k))[i]? = some (z.r, z.k) := by rw [List.getElem?_map, hz]; rfl
    have hunl : ∀ q ∈ (Z'.take i).map (fun q => (q.r, q.k)), q.1.day ≠ z.r.day ∨ q.1.hour ≠ z.r.hour := by
      rw [List.map_take]
      exact take_last (usym (by rw [← r1]; exact pm.map _)) hRz
    have fitT : ∀ q ∈ (Z'.take i).map (fun q => (q.r, q.k)), q ∈ R := fun q hq => by
      obtain ⟨y, hy, rfl⟩ := List.mem_map.mp hq
      rw [← r1]
      exact List.mem_map.mpr ⟨y, pm.mem_iff.mp (List.mem_of_mem_take hy), rfl⟩
    have tl : ((Z'.take i).map fun q => (q.r, q.k)).length = i := by
      have := (List.getElem?_eq_some_iff.mp hz).1
      rw [List.length_map, List.length_take]
      omega
    have i50 : i < 50 := by
      have h1 := (List.getElem?_eq_some_iff.mp hz).1
      have h2 := pm.length_eq
      have := sh.len
      omega
    refine g_tup2 (st_of (k3.tup (r3 z mz).1)) ?_
    obtain ⟨A3, hA3, pt3⟩ := id bk3
    obtain ⟨pr, hpr⟩ := fit.1.pr
    have hborn : pr.born ≤ 0 := (ok.pr _ hpr).b2
    have d1 : 0 ≤ z.r.day := fit.1.ok.d1
    have d2 : z.r.day ≤ z.k := fit.2.1
    refine e_mutNA (T := T) (Ψ := fun us H5 => ∃ d dx, us = [.ref d] ∧ H5 d = some (.ins (cDeed K) dx (rowF z.r))) (B' := toldBk C ((Z'.take (i + 1)).map fun q => (q.r, q.k)) [] (6 + (i + 1)) pe) (v := .int (i : Int)) rfl hA3 rfl (eao_cons (eo_call (ea1 (ev_var rfl)) (gvO ⟨z.t, z.r, rfl, k3.tup (r3 z mz).2, fit.1.ok, rfl⟩)) fun v H4 e4 ⟨d, dx, ev', nd, hd⟩ => eao_nil.imp fun us H5 e5 hu => ⟨d, dx, by rw [hu, ev'], e5.ins hd⟩) (fun H4 e4 => ea1 (ev_var rfl)) rfl (fun us H4 e4 ⟨H0', e0, d, dx, eu, hd⟩ => ⟨by rw [eu]; rfl, d, _, z.r, z.k, pr, _, by rw [eu]; rfl, bk3.mono e4, ⟨dx, e0.ins hd⟩, fit.1.ok, fit.2.1, fit.2.2, hpr, by omega, find_evOf fit.1.ev, (show List.length _ < 100 from Nat.lt_of_le_of_lt (Nat.le_of_eq tl) (by omega)), fun q hq => ⟨hunl q hq, (sh.fit q (fitT q hq)).1.ok⟩, by show 6 + i ≤ 1000; omega, ?_, (congrArg (fun n : Nat => V.int (n : Int)) tl).symm⟩) fun H4 m4 bk4 => ?_
    · unfold toldBk
      rw [List.take_add_one, hz, Option.toList_some, List.map_append]
      rfl
    · have ke4 := m4.ke hA3
      have hnb4 := m4.1 _ _ hnb3 (ne_of hnb3 hA3 (by intro z; cases z)) nt_dT
      have hlm4 := m4.1 _ _ hlm3 (ne_of hlm3 hA3 (by intro z; cases z)) nt_lst
      have k4 := k3.m na nap m4
      have vn : valV (numK ((Z'.take i).map fun q => (q.r, q.k))) (rowK z.r) = none := by
        rw [valV_numK, if_neg (numOf_no fun q hq e => ?_)]
        have := hunl q hq
        rw [e] at this
        rcases this with h | h <;> exact h rfl
      refine ⟨_, rfl, _, rfl, nb, _, rfl, DPut.t (k := rowK z.r) hnb4 (ke4.tup _ _ (k3.tup (r3 z mz).2)) (lt_line ?_), k4.mut nnb nnp hnb4 trivial, ?_, ⟨_, _, _, rfl⟩, bk4.updT hnb4, ?_⟩
      · unfold numK
        rw [List.length_map, List.length_zipIdx, tl]
        omega
      · rw [upd_ne (ne_of hlm4 hnb4 (by intro z; cases z))]
        exact hlm4
      · rw [upd_same, putK_new vn, List.map_take, List.map_take, numK_take hRz]
  · intro σ' H' ⟨k3, hlm3, ⟨u6, u7, u8, es⟩, bk3, hnb3⟩
    subst es
    rw [List.length_map, List.take_length] at bk3 hnb3
    generalize hR' : (Z'.map fun q => (q.r, q.k)) = R' at bk3 hnb3
    have pR : R'.Perm R := by
      rw [← hR', ← r1]
      exact pm.map _
    have r1l : R'.length = R.length := pR.length_eq
    refine dq_for (T := T) (Φ := fun v H2 => ∃ lm, ∃ Z' : List (Pap Nat × Addr), v = .ref lm ∧ lm ≠ pen ∧ Z'.Perm ZL ∧ H2 lm = some (.lst (Z'.map fun q => .ref q.2))) k3.p1 ((ed_call (pre := p_mixed T K) (Ψ := fun us _ => us = [.ref pen, .ref lp]) (eda_cons (ed_var (v := .ref pen) rfl) fun x G1 f1 hx => eda_cons (ed_var (v := .ref lp) rfl) fun y G2 f2 hy => eda_nil.imp fun us G3 f3 hu => by rw [hu, hx, hy]) fun us G1 f1 hu => ⟨lp, ZL.map fun q => .ref q.2, by rw [hu]; rfl, (k3.trans f1).lst p2 nlp, nlp, ?_, fun y hy => ?_, rfl⟩).imp fun v H2 k2 ⟨lm, ys, ev, nlm, hlm, pm⟩ => ?_) fun v H2 k2 ⟨lm2, Z2, ev, nlm2, pm2, hlm2⟩ => ⟨lm2, Z2.map fun q => V.ref q.2, ev, fun i σ' H' => Kp T pen H H' ∧ H' lm2 = some (.lst (Z2.map fun q => .ref q.2)) ∧ (∃ u6 u7 u8, σ' = [some (.ref pen), some (.ref c), some (.ref lr), some (.ref lp), some (.ref a), some (.ref nb), u6, u7, u8]) ∧ BookAt K H' a (toldBk C R' ((Z2.take i).map fun q => q.1.map (relab R R')) (6 + Z'.length + i) pe) ∧ H' nb = some (.dT (numK R')), ?_, ?_, ?_, ?_⟩
    · have := congrArg List.length p1
      rw [List.length_map] at this ⊢
      have := sh.plen
      omega
    · obtain ⟨z, hz, rfl⟩ := List.mem_map.mp hy
      have hzL : z.1 ∈ L := by rw [← p1]; exact List.mem_map.mpr ⟨z, hz, rfl⟩
      have hst := (sh.pap _ hzL).st
      refine ⟨papD z.1, fun H' k' => pap_dp (((k3.trans f1).trans k').tup (p3 z hz)), pap_lay hst⟩
    · obtain ⟨Z', pz, rfl⟩ := perm_pull _ pm rfl
      exact ⟨lm, Z', ev, nlm, pz, hlm⟩
    · have hbk := bk3.kp k2
      refine ⟨k3.trans k2, hlm2, ⟨_, _, _, rfl⟩, ?_, k2.dT hnb3⟩
      exact hbk
    · exact fun i σ' H' h => sl_of h.2.1
    · intro i x σ' H3 hx ⟨k4, hlm4, ⟨u6, u7, u8, es⟩, bk4, hnb4⟩
      obtain ⟨zq, hzq, rfl⟩ := map_at hx
      subst es
      have mzq : zq ∈ ZL := pm2.mem_iff.mp (List.mem_of_getElem? hzq)
      have hzL : zq.1 ∈ L := by rw [← p1]; exact List.mem_map.mpr ⟨zq, mzq, rfl⟩
      have hpc := sh.pap _ hzL
      have hrow := k4.tup (p3 zq mzq)
      have i50 : i < 50 := by
        have h1 := (List.getElem?_eq_some_iff.mp hzq).1
        have h2 := pm2.length_eq
        have h3 := congrArg List.length p1
        rw [List.length_map] at h3
        have := sh.plen
        omega
      have z50 : Z'.length ≤ 50 := by
        have h2 := pm.length_eq
        have := sh.len
        omega
      have fin : ∀ {H5 : Hp} {u6 u7 : Option V} {tp : Addr}, Wd T H3 H5 → H5 tp = some (.tup (papV (zq.1.map (relab R R')))) → PapFit (toldBk C R' ((Z2.take i).map fun q => q.1.map (relab R R')) (6 + Z'.length + i) pe) (zq.1.map (relab R R')) →
          tDrop (tCall (spM T K (p_Ltell K)) [] E0 (tCons (tVar 4) (tCons (tVar 8) tNil))) { nx := fun σ' H' => Kp T pen H H' ∧ H' lm2 = some (.lst (Z2.map fun q => .ref q.2)) ∧ (∃ u6 u7 u8, σ' = [some (.ref pen), some (.ref c), some (.ref lr), some (.ref lp), some (.ref a), some (.ref nb), u6, u7, u8]) ∧ BookAt K H' a (toldBk C R' ((Z2.take (i + 1)).map fun q => q.1.map (relab R R')) (6 + Z'.length + (i + 1)) pe) ∧ H' nb = some (.dT (numK R')), rt := Q } [some (.ref pen), some (.ref c), some (.ref lr), some (.ref lp), some (.ref a), some (.ref nb), u6, u7, some (.ref tp)] H5 := fun {H5 u6 u7 tp} e5 htp hfit => by
        obtain ⟨A5, hA5, pt5⟩ := bk4.mono e5
        refine ⟨_, rfl, _, rfl, a, addP (toldBk C R' ((Z2.take i).map fun q => q.1.map (relab R R')) (6 + Z'.length + i) pe) (zq.1.map (relab R R')), .non, ⟨tp, _, _, rfl, ⟨A5, hA5, pt5⟩, htp, hfit, rfl, rfl⟩, fun H6 m6 bk6 => ⟨(k4.trans (e5.kpen k4.p1)).m na nap m6, m6.1 _ _ (e5.lst hlm4) (ne_of (e5.lst hlm4) hA5 (by intro z; cases z)) nt_lst, ⟨_, _, _, rfl⟩, ?_, m6.1 _ _ (e5.dT hnb4) (ne_of (e5.dT hnb4) hA5 (by intro z; cases z)) nt_dT⟩⟩
        have e1 : toldBk C R' ((Z2.take (i + 1)).map fun q => q.1.map (relab R R')) (6 + Z'.length + (i + 1)) pe = addP (toldBk C R' ((Z2.take i).map fun q => q.1.map (relab R R')) (6 + Z'.length + i) pe) (zq.1.map (relab R R')) := by
          unfold toldBk addP
          rw [List.take_add_one, hzq, Option.toList_some, List.map_append]
          rfl
        rw [e1]
        exact bk6
      have ln : ((Z2.take i).map fun q => q.1.map (relab R R')).length ≤ 1000 := by
        rw [List.length_map, List.length_take]
        omega
      have ps : (toldBk C R' ((Z2.take i).map fun q => q.1.map (relab R R')) (6 + Z'.length + i) pe).past ≤ 1000 := by
        show 6 + Z'.length + i ≤ 1000
        omega
      have rl : ∀ {j : Nat}, j < R.length → ∃ zr ∈ ZR, ZR[j]? = some zr ∧ relab R R' j = numOf R' zr.r ∧ numOf R' zr.r < R'.length := fun {j} hj => by
        have hj' : j < ZR.length := by omega
        refine ⟨ZR[j], List.getElem_mem hj', List.getElem?_eq_getElem hj', ?_, numOf_lt ?_⟩
        · unfold relab
          rw [List.getD_eq_getElem?_getD, ← r1, List.getElem?_map, List.getElem?_eq_getElem hj']
          rfl
        · exact ⟨(ZR[j].r, ZR[j].k), pR.mem_iff.mpr (by rw [← r1]; exact List.mem_map.mpr ⟨_, List.getElem_mem hj', rfl⟩), rfl⟩
      cases hz : zq.1 with
      | out j kk =>
        rw [hz] at hrow hpc fin
        obtain ⟨zr, mzr, hzr, e1, e2⟩ := rl hpc.fit
        refine q_if (T := T) (b := true) (et_kind (p := zq.2) rfl hrow (by decide +kernel)) (fun _ H4 e4 => ?_) fun h => by cases h
        refine s_asgO (T := T) (Φ := MTup (papV (.out (relab R R' j) kk))) (eo_tupm (ea3 (ev_op (ev_var rfl) ev_c (rv_ixt (st_of (e4.tup hrow)) (atI_nat' (n := 0) rfl))) (ev_dgetT (k := rowK zr.r) (ev_var rfl) (ev_op (ev_op (ev_var rfl) (ev_op (ev_var rfl) ev_c (rv_ixt (v := .int (j : Int)) (st_of (e4.tup hrow)) (atI_nat' (n := 1) rfl))) (rv_ixl (v := .ref zr.p) (sl_of (e4.lst (k4.lst r2 nlr))) (atI_nat' (by rw [List.getElem?_map, hzr]; rfl)))) ev_c (rv_ixt (v := .ref zr.t) (st_of (e4.tup (k4.tup (r3 zr mzr).1))) (atI_nat' (n := 0) rfl))) (e4.dT hnb4) (e4.tup (k4.tup (r3 zr mzr).2)) (by rw [valV_numK, if_pos e2, ← e1])) (ev_op (ev_var rfl) ev_c (rv_ixt (st_of (e4.tup hrow)) (atI_nat' (n := 2) rfl)))) (by simp [papV])) fun v H5 e5 ⟨tp, ev', htp⟩ => ?_
        subst ev'
        exact fin (e4.trans e5) htp ⟨⟨hpc.k1, hpc.k2, ps, ln⟩, by show relab R R' j < R'.length; rw [e1]; exact e2⟩
      | inn j kk =>
        rw [hz] at hrow hpc fin
        obtain ⟨zr, mzr, hzr, e1, e2⟩ := rl hpc.fit
        refine q_if (T := T) (b := true) (et_kind (p := zq.2) rfl hrow (by decide +kernel)) (fun _ H4 e4 => ?_) fun h => by cases h
        refine s_asgO (T := T) (Φ := MTup (papV (.inn (relab R R' j) kk))) (eo_tupm (ea3 (ev_op (ev_var rfl) ev_c (rv_ixt (st_of (e4.tup hrow)) (atI_nat' (n := 0) rfl))) (ev_dgetT (k := rowK zr.r) (ev_var rfl) (ev_op (ev_op (ev_var rfl) (ev_op (ev_var rfl) ev_c (rv_ixt (v := .int (j : Int)) (st_of (e4.tup hrow)) (atI_nat' (n := 1) rfl))) (rv_ixl (v := .ref zr.p) (sl_of (e4.lst (k4.lst r2 nlr))) (atI_nat' (by rw [List.getElem?_map, hzr]; rfl)))) ev_c (rv_ixt (v := .ref zr.t) (st_of (e4.tup (k4.tup (r3 zr mzr).1))) (atI_nat' (n := 0) rfl))) (e4.dT hnb4) (e4.tup (k4.tup (r3 zr mzr).2)) (by rw [valV_numK, if_pos e2, ← e1])) (ev_op (ev_var rfl) ev_c (rv_ixt (st_of (e4.tup hrow)) (atI_nat' (n := 2) rfl)))) (by simp [papV])) fun v H5 e5 ⟨tp, ev', htp⟩ => ?_
        subst ev'
        exact fin (e4.trans e5) htp ⟨⟨hpc.k1, hpc.k2, ps, ln⟩, by show relab R R' j < R'.length; rw [e1]; exact e2⟩
      | right cs kk =>
        rw [hz] at hrow hpc fin
        refine q_if (T := T) (b := false) (et_kind (p := zq.2) rfl hrow (by decide +kernel)) (fun h => by cases h) fun _ H4 e4 => ?_
        exact fin e4 (e4.tup hrow) ⟨⟨hpc.k1, hpc.k2, ps, ln⟩, hpc.fit⟩
      | wrong cs f t kk =>
        rw [hz] at hrow hpc fin
        refine q_if (T := T) (b := false) (et_kind (p := zq.2) rfl hrow (by decide +kernel)) (fun h => by cases h) fun _ H4 e4 => ?_
        exact fin e4 (e4.tup hrow) ⟨⟨hpc.k1, hpc.k2, ps, ln⟩, hpc.fit⟩
    · intro σ' H3 ⟨k4, hlm4, ⟨u6, u7, u8, es⟩, bk4, hnb4⟩
      subst es
      rw [List.length_map, List.take_length] at bk4
      refine s_retO (T := T) (eo_tupm (ea2 (ev_var rfl) (ev_var rfl)) (by simp)) fun v H5 e5 ⟨p, ev', hp5⟩ => q v H5 (k4.trans (e5.kpen k4.p1)) ⟨p, a, nb, R', Z2.map (·.1), 6 + Z'.length + Z2.length, pe, ev', hp5, pR, by rw [← p1]; exact pm2.map _, ?_, e5.dT hnb4⟩
      rw [List.map_map]
      exact bk4.mono e5
end
end Bb
/-! ## part Rd20 -/
/-! all answers of a book -/
namespace Bb
open PySem PySem.Spec PyProof.Rows L2 LamX BbS NdefX PySem.W
def del (H : Hp) (p : Addr) : Hp := fun b => if b = p then none else H b
theorem del_ne {H : Hp} {p b : Addr} (h : b ≠ p) : del H p b = H b := if_neg h
theorem del_some {H : Hp} {p b : Addr} {o : HO} (h : del H p b = some o) : b ≠ p ∧ H b = some o := by
  unfold del at h
  split at h
  · cases h
  · exact ⟨by assumption, h⟩
mutual
/-- no lists within -/
def noL : PyData → Bool
  | .list _ => false
  | .tuple xs => noLs xs
  | _ => true
def noLs : List PyData → Bool
  | [] => true
  | d :: ds => noL d && noLs ds
end
section
variable {T : TT0} {P : Program} {w : World} {K : PySem.W.Frag} {mg : Str → Option Value} {base : Heap} {G H H0 H1 H2 H' : Hp} {a p pen lf : Addr} {σ : L2.St} {te ta tb td tl : TE} {ts tr tk : TA} {v x y z : V} {vs us zs xs ds : List V} {Φ Ψ Θ : V → Hp → Prop} {B B' : Bk} {i : Nat} {C : Clb} {g : TG} {tu tz : TS} {D : Ends}
mutual
theorem dpT (k : ∀ b xs, SqT K H b xs → SqT K H' b xs) : ∀ {v : V} {d : PyData}, noL d = true → Dp K H v d → Dp K H' v d
  | _, _, _, .non => .non
  | _, _, _, .bl b => .bl b
  | _, _, _, .int i => .int i
  | _, _, _, .str z => .str z
  | _, _, h, .lst _ _ => by cases h
  | _, _, h, .tup h1 h2 => .tup (k _ _ h1) (dpTs k h h2)
theorem dpTs (k : ∀ b xs, SqT K H b xs → SqT K H' b xs) : ∀ {vs : List V} {ds : List PyData}, noLs ds = true → DpAll K H vs ds → DpAll K H' vs ds
  | _, _, _, .nil => .nil
  | _, _, h, .cons h1 h2 => by
    have h : (noL _ && noLs _) = true := h
    rw [Bool.and_eq_true] at h
    exact .cons (dpT k h.1 h1) (dpTs k h.2 h2)
end
theorem sqt_del (hl : H lf = some (.lst xs)) : ∀ b ys, SqT K H b ys → SqT K (del H lf) b ys := fun b ys h => by
  have ne : ∀ {o : HO}, H b = some o → (∀ zs, o ≠ .lst zs) → del H lf b = some o := fun hb hn => by
    rw [del_ne (ne_of hb hl (hn _))]
    exact hb
  rcases h with (h | ⟨o, h⟩) | h
  · exact .inl (.inl (ne h fun _ z => by cases z))
  · exact .inl (.inr ⟨o, ne h fun _ z => by cases z⟩)
  · exact .inr h
theorem wd_del : Wd T (del H lf) H := .ofExt fun b o h => (del_some h).2
theorem pull_keys : ∀ {bs : List (List Key × Addr)} {L : List Rw}, bs.map (·.1) = L.map rowK → ∃ Z : List (Rw × Addr), Z.map (·.1) = L ∧ bs = Z.map fun q => (rowK q.1, q.2)
  | [], [], _ => ⟨[], rfl, rfl⟩
  | [], _ :: _, h => by cases h
  | _ :: _, [], h => by cases h
  | b :: bs, r :: L, h => by
    rw [List.map_cons, List.map_cons] at h
    injection h with h1 h2
    obtain ⟨Z, z1, z2⟩ := pull_keys (bs := bs) (L := L) h2
    exact ⟨(r, b.2) :: Z, by rw [List.map_cons, z1], by rw [List.map_cons, z2, ← h1]⟩
/-- behind a step that keeps all, what stands off lf stands off lf -/
theorem dpAll_off {vs : List V} {dd : List PyData} (h : DpAll K (del H lf) vs dd) (e : ∀ b o, H b = some o → b ≠ lf → Nt o → H' b = some o) : DpAll K (del H' lf) vs dd := by
  have x : Wd [] (del H lf) (del H' lf) := ⟨fun b o hb nt => by
    obtain ⟨n, hb⟩ := del_some hb
    rw [del_ne n]
    exact e b o hb n nt, fun _ => fun p hp => by cases hp⟩
  exact x.dpAll h
theorem eo_sortDT {R : List (Rw × Int)} (h : Ev T te σ H (.ref a)) (hd : H a = some (.dT (numK R))) (hl : R.length ≤ 1000) : EvO T (tCB rSortDT (tCons te tNil)) σ H (fun v H2 => ∃ l, ∃ Z : List (Rw × Addr), v = .ref l ∧ New H l ∧ Z.map (·.1) = (R.map (·.1)).mergeSort (dataLe false rowD) ∧ H2 l = some (.lst (Z.map fun q => .ref q.2)) ∧ ∀ q ∈ Z, H2 q.2 = some (.tup (rowV q.1))) := fun H1 e1 Q q =>
  h H1 e1 _ fun H2 e2 => by
    have km : (numK R).map (·.1) = R.map fun q => rowK q.1 := by
      unfold numK
      rw [List.map_map]
      have : (R.zipIdx.map fun q => rowK q.1.1) = (R.zipIdx.map Prod.fst).map fun q => rowK q.1 := by rw [List.map_map]; rfl
      rw [List.zipIdx_map_fst] at this
      exact this
    have kr : ∀ k ∈ (numK R).map (·.1), ∃ r, k = rowK r := fun k hk => by
      rw [km] at hk
      obtain ⟨q, _, rfl⟩ := List.mem_map.mp hk
      exact ⟨_, rfl⟩
    refine ⟨a, numK R, rfl, (e1.trans e2).dT hd, by unfold numK; rw [List.length_map, List.length_zipIdx]; exact hl, fun k hk k' hk' => ?_, fun k hk => ?_, fun bs p hb ht hp => ?_⟩
    · obtain ⟨r, rfl⟩ := kr k hk
      obtain ⟨r', rfl⟩ := kr k' hk'
      rfl
    · obtain ⟨r, rfl⟩ := kr k hk
      exact fun z => by cases z
    · have hs : ((numK R).map (·.1)).mergeSort (dataLe false encT) = ((R.map (·.1)).mergeSort (dataLe false rowD)).map rowK := by
        rw [km, sort_maps (r := dataLe false rowD) (s := dataLe false encT) rowK (fun _ _ _ _ => rfl), List.map_map]
        rfl
      rw [hs] at hb
      obtain ⟨Z, hz1, hz2⟩ : ∃ Z : List (Rw × Addr), Z.map (·.1) = (R.map (·.1)).mergeSort (dataLe false rowD) ∧ bs = Z.map fun q => (rowK q.1, q.2) := pull_keys hb
      subst hz2
      refine q _ _ (e2.trans (.new hp)) ⟨p, Z, rfl, (new_none hp).back (e1.trans e2), hz1, by rw [upd_same, List.map_map]; rfl, fun z hz => ?_⟩
      have := ht (rowK z.1, z.2) (List.mem_map.mpr ⟨z, hz, rfl⟩)
      rw [upd_ne (ne_of_none this hp)]
      exact this
/-- a list made of things that do not hang on it -/
def OffLst (K : PySem.W.Frag) (H : Hp) (ds : List PyData) : V → Hp → Prop := fun v H2 => ∃ l ys, v = .ref l ∧ New H l ∧ H2 l = some (.lst ys) ∧ DpAll K (del H2 l) ys ds
theorem dpAll_snoc' {vs : List V} {dd : List PyData} {v : V} {d : PyData} : DpAll K H vs dd → Dp K H v d → DpAll K H (vs ++ [v]) (dd ++ [d])
  | .nil, h2 => .cons h2 .nil
  | .cons h h1, h2 => .cons h (dpAll_snoc' h1 h2)
theorem lc_off {α : Type} {L : List α} {iv : α → V} {dv : α → PyData} {tl : TE} {a : Addr} {j : Nat} {vn : List Nat} (h : Ev T tl σ H (.ref a)) (hx : SqL K H a (L.map iv)) (hn : L.length ≤ 100000) (hw : ∀ x, wipe (sl1 σ vn j x) vn = wipe σ vn)
    (he : ∀ b ∈ L, ∀ H1, Wd T H H1 → EvO T te (sl1 σ vn j (iv b)) H1 (fun y H2 => ∀ lf xs, H1 lf = some (.lst xs) → Dp K (del H2 lf) y (dv b))) : EvO T (tLc (iList K tl) (gName j) tYes te vn) σ H (OffLst K H (L.map dv)) := fun H0 e0 Q q =>
  h H0 e0 _ fun H1 e1 => ⟨a, rfl, ⟨_, (e0.trans e1).sql hx⟩, fun Dl hD => by
    have nD : New H1 Dl := new_none hD
    have w := walk_list (K := K) (a := a) (xs := L.map iv)
    rw [List.length_map] at w
    refine lc_it w (fun i H' => Wd T H1 H' ∧ ∃ ys, H' Dl = some (.lst ys) ∧ ys.length = i ∧ DpAll K (del H' Dl) ys ((L.take i).map dv)) ⟨.new hD, [], upd_same, rfl, .nil⟩ (fun i H' _ p => ((e0.trans e1).trans p.1).sql hx) (fun i x H' H'' hi ⟨e, ys, hys, hl, hp⟩ y => ?_) fun H' ⟨e, ys, hys, hl, hp⟩ => ?_
    · obtain ⟨rfl, hx'⟩ := y
      obtain ⟨b, hb, rfl⟩ := map_at hx'
      refine ⟨hw _, ?_⟩
      have g := (e0.trans e1).trans e
      refine he b (List.mem_of_getElem? hb) _ g _ (.refl _) _ fun v H4 e4 hv => ?_
      have hys4 := e4.lst hys
      refine ⟨ys, hys4, lt_line (by omega), (e.trans e4).mut nD hys4 trivial, ys ++ [v], upd_same, by rw [List.length_append, hl]; rfl, ?_⟩
      rw [List.take_add_one, hb, Option.toList_some, List.map_append]
      have hd := hv Dl ys hys
      have off : ∀ b o, H4 b = some o → b ≠ Dl → Nt o → upd H4 Dl (.lst (ys ++ [v])) b = some o := fun b o h n _ => by rw [upd_ne n]; exact h
      have x1 := dpAll_off (dpAll_off hp fun b o h n nt => e4.get h nt) off
      have x2 := dpAll_off (.cons hd .nil) off
      cases x2 with
      | cons x2 _ => exact dpAll_snoc' x1 x2
    · rw [List.take_length] at hp
      exact q _ _ (e1.trans e) ⟨Dl, ys, rfl, nD.back (e0.trans e1), hys, hp⟩⟩
end
end Bb
/-! ## part Rd21 -/
namespace Bb
open PySem PySem.Spec PyProof.Rows L2 LamX BbS NdefX PySem.W
abbrev Bst := Str × Option Str × Nat
def relD (B : Bk) (s : Stt Nat) : PyData := .tuple (rowD (toldAt B s.lab).1 :: sttTail s)
def pairD (B : Bk) (q : Bst) (d : Int) : List PyData := [.list ((walkP B q.1 q.2.1 q.2.2 d).rows.map (relD B)), holdD (heldOn (walkP B q.1 q.2.1 q.2.2 40000).rows d)]
def foundD (B : Bk) (bs : List Bst) (ds : List Int) : List PyData := bs.flatMap fun q => ds.flatMap fun d => pairD B q d
def sortedR (B : Bk) : List Rw := (B.told.map (·.1)).mergeSort (dataLe false rowD)
def stateD (B : Bk) (ds : List Int) : List PyData := (sortedR B).map fun r => .list (ds.map fun d => .str (wordAt B (numOf B.told r) d))
def allD (B : Bk) (bs : List Bst) (ds : List Int) : PyData := .list (foundD B bs ds ++ stateD B ds)
theorem numOf_get {R : List (Rw × Int)} {r : Rw} (h : numOf R r < R.length) : ∃ k, R[numOf R r]? = some (r, k) := by
  have := List.findIdx_getElem (w := h)
  simp only [decide_eq_true_eq] at this
  refine ⟨R[numOf R r].2, ?_⟩
  rw [List.getElem?_eq_getElem h]
  show some R[numOf R r] = some (r, R[numOf R r].2)
  exact congrArg some (Prod.ext this rfl)
theorem numOf_self {R : List (Rw × Int)} (nd : (R.map (·.1)).Nodup) {n : Nat} {q : Rw × Int} (h : R[n]? = some q) : numOf R q.1 = n := by
  have hlt := numOf_lt ⟨q, List.mem_of_getElem? h, rfl⟩
  obtain ⟨k, hk⟩ := numOf_get hlt
  have h1 : (R.map (·.1))[numOf R q.1]? = some q.1 := by rw [List.getElem?_map, hk]; rfl
  have h2 : (R.map (·.1))[n]? = some q.1 := by rw [List.getElem?_map, h]; rfl
  exact (List.getElem?_inj (by rw [List.length_map]; exact hlt) nd).mp (h1.trans h2.symm)
theorem mem_sortedR {B : Bk} {r : Rw} : r ∈ sortedR B ↔ r ∈ B.told.map (·.1) := List.mem_mergeSort
section
variable {P : Program} {w : World} {K : PySem.W.Frag} {mg : Str → Option Value} {base : Heap} {G H H0 H1 H2 H' : Hp} {a p : Addr} {B : Bk}
theorem brk_labs {α : Type} {P : α → Prop} {t : Int × Int} : ∀ {hs : List Nat} {rs : List (Stt α)}, (∀ s ∈ rs, P s.lab) → ∀ s ∈ hs.foldl (brkAt t) rs, P s.lab
  | [], _, h, s, hs => h s hs
  | i :: r, rs, h, s, hs => brk_labs (hs := r) (rs := brkAt t rs i) (fun x hx => modify_all (P := fun x : Stt α => P x.lab) (f := fun q => { q with brk := some t }) (fun _ h => h) h x hx) s hs
theorem wstep_labs {α : Type} {P : α → Prop} {way : Str} {sh : Bool} {s : Wk α} {x : α × Rw} (h : ∀ q ∈ s.rows, P q.lab) (hx : P x.1) : ∀ q ∈ (wstep way sh s x).rows, P q.lab := by
  intro q hq
  unfold wstep at hq
  split at hq
  · rcases List.mem_append.mp hq with hq | hq
    · exact brk_labs h q hq
    · rw [List.mem_singleton.mp hq]
      exact hx
  · split at hq
    · rcases List.mem_append.mp hq with hq | hq
      · exact h q hq
      · rw [List.mem_singleton.mp hq]
        exact hx
    · exact h q hq
theorem wfold_labs {α : Type} {P : α → Prop} {way : Str} {sh : Bool} : ∀ {xs : List (α × Rw)} {s : Wk α}, (∀ q ∈ s.rows, P q.lab) → (∀ x ∈ xs, P x.1) → ∀ q ∈ (xs.foldl (wstep way sh) s).rows, P q.lab
  | [], _, h, _ => h
  | x :: xs, s, h, hx => wfold_labs (xs := xs) (wstep_labs h (hx x List.mem_cons_self)) fun y hy => hx y (List.mem_cons_of_mem _ hy)
theorem walk_labs {ev : Str} {g : Option Str} {pl : Nat} {k : Int} : ∀ q ∈ (walkP B ev g pl k).rows, q.lab < B.told.length :=
  wfold_labs (P := fun n => n < B.told.length) (fun _ h => by cases h) fun x hx => by
    obtain ⟨n, hn, rfl⟩ := List.mem_map.mp hx
    exact runners_lt hn
theorem eo_methN {T : TT0} {σ : L2.St} {te : TE} {ts tk : TA} {sp : Sp} {vs zs : List V} {Φ : V → Hp → Prop} {C dx : Addr} {fs : List (Str × V)} {m : Str} {n mk : Nat} {gV : List V → List V → List V} (h : Ev T te σ H (.ref a)) (hp : H a = some (.ins C dx fs)) (l : fs.lookup m = none) (hs : EvA T ts σ H vs) (hk : EvA T tk σ H zs) (l1 : vs.length = n) (l2 : zs.length = mk) (g : GvO T sp (gV (.ref a :: vs) zs) H Φ) :
    EvO T (tMethN C m n mk sp gV E0 te ts tk) σ H Φ := fun H1 e Q q => h H1 e _ fun H2 e2 => ⟨a, dx, fs, rfl, (e.trans e2).ins hp, l, hs H2 (e.trans e2) _ fun H3 e3 => hk H3 ((e.trans e2).trans e3) _ fun H4 e4 => ⟨l1, l2, g H4 (((e.trans e2).trans e3).trans e4) Q fun v H5 e5 => q v H5 ((((e2.trans e3).trans e4)).trans e5)⟩⟩
theorem noL_strs : ∀ ns : List Str, noLs (ns.map PyData.str) = true
  | [] => rfl
  | n :: ns => noL_strs ns
theorem noL_hold {α : Type} (r : List (Stt α)) : noL (holdD r) = true := by
  cases r with
  | nil => rfl
  | cons s r =>
    show (noL (.int s.mark) && (noLs _ && true)) = true
    rw [noL_strs]
    rfl
theorem noL_rel (B : Bk) (s : Stt Nat) : noL (relD B s) = true := by
  cases h : s.brk <;> simp [relD, rowD, rowDs, sttTail, brkD, noL, noLs, h]
theorem noLs_rel (B : Bk) : ∀ r : List (Stt Nat), noLs (r.map (relD B)) = true
  | [] => rfl
  | s :: r => by
    show (noL (relD B s) && noLs (r.map (relD B))) = true
    rw [noL_rel, noLs_rel B r]
    rfl
theorem sqt_off {lf l2 : Addr} {xs : List V} {o : HO} (hl : H lf = some (.lst xs)) : ∀ b ys, SqT K (del H l2) b ys → SqT K (del (upd H lf o) lf) b ys := fun b ys h => by
  have ne : ∀ {o' : HO}, del H l2 b = some o' → (∀ zs, o' ≠ .lst zs) → del (upd H lf o) lf b = some o' := fun hb hn => by
    have h1 := (del_some hb).2
    have h2 := ne_of h1 hl (hn _)
    rw [del_ne h2, upd_ne h2]
    exact h1
  rcases h with (h | ⟨o', h⟩) | h
  · exact .inl (.inl (ne h fun _ z => by cases z))
  · exact .inl (.inr ⟨o', ne h fun _ z => by cases z⟩)
  · exact .inr h
theorem dpAll_len : ∀ {vs : List V} {dd : List PyData}, DpAll K H vs dd → vs.length = dd.length
  | _, _, .nil => rfl
  | _, _, .cons _ h => congrArg Nat.succ (dpAll_len h)
theorem dpAll_app {vs us : List V} {d1 d2 : List PyData} : DpAll K H vs d1 → DpAll K H us d2 → DpAll K H (vs ++ us) (d1 ++ d2)
  | .nil, h => h
  | .cons h h1, h2 => .cons h (dpAll_app h1 h2)
def bkey (q : Bq) : Bst := (q.ev, q.g, q.pl)
def p_all (K : PySem.W.Frag) : List V → Hp → (V → Hp → Prop) → Prop := fun vs H Φ => ∃ (a nb lb ld : Addr) (B : Bk) (Zb : List Bq) (ds : List Int), vs = [.ref a, .ref nb, .ref lb, .ref ld] ∧ BookAt K H a B ∧ BkOk B ∧ (B.told.map (·.1)).Nodup ∧ H nb = some (.dT (numK B.told)) ∧ H lb = some (.lst (Zb.map fun q => .ref q.t)) ∧
  (∀ q ∈ Zb, H q.t = some (.tup (bqV q)) ∧ BestOk B q.ev q.g q.pl) ∧ Zb.length ≤ 50 ∧ H ld = some (.lst (ds.map V.int)) ∧ (∀ d ∈ ds, 0 ≤ d ∧ d ≤ 40000) ∧ ds.length ≤ 50 ∧ Tabs (TTk K) H ∧ Φ = fun v H2 => Dp K H2 v (allD B (Zb.map bkey) ds)
theorem fn_all (S : Say K mg) (TB : TabB base mg (cC K "papers_by") (cP K "papers_by")) (TB2 : TabB base mg (cC K "runners") (cP K "runners")) (hd : cP K "papers_by" ≠ cP K "runners") : Fn P w K mg base dL_all 10 ["_law_book", "_law_numbers", "_law_bests_here", "_law_days"] (spO (TTk K) (p_all K)) := by
  obtain ⟨_, F1, O1⟩ := fn_state (P := P) (w := w) (base := base) S TB hd
  obtain ⟨_, F2, O2⟩ := fn_stints (P := P) (w := w) (base := base) S TB TB2 hd
  obtain ⟨_, KB2⟩ := kb_Book_stints F2
  obtain ⟨_, F3, O3⟩ := fn_holders (P := P) (w := w) (base := base) S TB TB2 hd
  obtain ⟨_, KB3⟩ := kb_Book_holders F3
  refine fn_o S.f_L_all sc_L_all (fun vs H v h => by obtain ⟨_, _, _, _, _, _, _, rfl, _⟩ := h; rfl) fun cdv A outer s H vs E hr => ⟨_, (tm_L_all S F1 O1 F2 O2 KB2 F3 O3 KB3 _ cdv A outer s H E hr).2, fun Φ H0 Q e h q => ?_⟩
  obtain ⟨a, nb, lb, ld, B, Zb, ds, rfl, bk, ok, nd, hnb, hlb, hzb, zbl, hld, hds, dsl, htb, rfl⟩ := h
  have tl := ok.told
  dsimp only [tm_L_all]
  refine q_asgO (T := TTk K) eo_dnew fun v H1 e1 ⟨dd, ev, ndd, hdd⟩ => ?_
  subst ev
  have g1 := e.trans e1
  refine q_forG (T := TTk K) (eo_sortDT (ev_var rfl) (g1.dT hnb) (by omega)) fun v H2 e2 ⟨ls, Zs, ev, nls, zs1, hls, zs2⟩ => ⟨ls, Zs.map fun q => V.ref q.2, ev, fun i σ' H' => Wd (TTk K) H H' ∧ H' ls = some (.lst (Zs.map fun q => .ref q.2)) ∧ (∀ q ∈ Zs, H' q.2 = some (.tup (rowV q.1))) ∧ ∃ kvs u5, σ' = [some (.ref a), some (.ref nb), some (.ref lb), some (.ref ld), some (.ref dd), u5, none, none, none, none, none, none, none] ∧ H' dd = some (.dK kvs) ∧ kvs.length ≤ i ∧
    ∀ j z, j < i → Zs[j]? = some z → ∃ t, valV kvs (Sum.inl (numOf B.told z.1 : Int)) = some (.ref t) ∧ H' t = some (.tup (rowV z.1)), ?_, ?_, ?_, ?_⟩
  · exact ⟨e1.trans e2, hls, zs2, [], none, rfl, e2.dK hdd, Nat.le_refl _, fun j _ hj => absurd hj (Nat.not_lt_zero j)⟩
  · exact fun i σ' H' h => sl_of h.2.1
  · intro i x σ' H' hx ⟨w1, hls1, zs3, kvs, u5, es, hk1, hk2, hk3⟩
    obtain ⟨z, hz, rfl⟩ := map_at hx
    subst es
    have mz := List.mem_of_getElem? hz
    have zl : Zs.length ≤ 60 := by
      have := congrArg List.length zs1
      rw [List.length_map, List.length_mergeSort, List.length_map] at this
      omega
    have hi := (List.getElem?_eq_some_iff.mp hz).1
    have hzr : z.1 ∈ B.told.map (·.1) := by
      rw [← mem_sortedR, sortedR, ← zs1]
      exact List.mem_map.mpr ⟨z, mz, rfl⟩
    have hlt : numOf B.told z.1 < B.told.length := numOf_lt (by
      obtain ⟨q, h1, h2⟩ := List.mem_map.mp hzr
      exact ⟨q, h1, h2⟩)
    have gw := e.trans w1
    refine s_dputK (T := TTk K) (k := Sum.inl (numOf B.told z.1 : Int)) (v := .ref z.2) (ev_var rfl) (ev_var rfl) (ev_dgetT (k := rowK z.1) (ev_var rfl) (ev_var rfl) (gw.dT hnb) (zs3 z mz) (by rw [valV_numK, if_pos hlt]; rfl)) hk1 (by omega) fun H3 e3 => ?_
    have hk4 := e3.dK hk1
    have kt := tup_upd (o' := .dK (putK kvs (Sum.inl (numOf B.told z.1 : Int)) (.ref z.2))) hk4 fun _ z => (by cases z)
    have hls3 := e3.lst hls1
    refine ⟨(w1.trans e3).mut ndd hk4 trivial, by rw [upd_ne (ne_of hls3 hk4 (by intro z; cases z))]; exact hls3, fun q hq => kt _ _ (e3.tup (zs3 q hq)), _, _, rfl, upd_same, Nat.le_trans putK_le (by omega), fun j y hj hy => ?_⟩
    rw [valV_put]
    by_cases hnum : (Sum.inl (numOf B.told y.1 : Int) : Key) = Sum.inl (numOf B.told z.1 : Int)
    · rw [if_pos hnum]
      refine ⟨z.2, rfl, ?_⟩
      have hyz : y.1 = z.1 := by
        injection hnum with hnum
        have hnum : numOf B.told y.1 = numOf B.told z.1 := by omega
        obtain ⟨k1, h1⟩ := numOf_get hlt
        have hyr : numOf B.told y.1 < B.told.length := by omega
        obtain ⟨k2, h2⟩ := numOf_get hyr
        rw [hnum, h1] at h2
        injection h2 with h2
        injection h2 with h2 _
        exact h2.symm
      rw [hyz]
      exact kt _ _ (e3.tup (zs3 z mz))
    · rw [if_neg hnum]
      rcases Nat.lt_succ_iff_lt_or_eq.mp hj with hj | rfl
      · obtain ⟨t, h1, h2⟩ := hk3 j y hj hy
        exact ⟨t, h1, kt _ _ (e3.tup h2)⟩
      · rw [hz] at hy
        injection hy with hy
        rw [hy] at hnum
        exact absurd rfl hnum
  · intro σ' H' ⟨w1, hls1, zs3, kvs, u5, es, hk1, hk2, hk3⟩
    subst es
    rw [List.length_map] at hk3
    have deeds : ∀ n, n < B.told.length → ∃ t, valV kvs (Sum.inl (n : Int)) = some (.ref t) ∧ H' t = some (.tup (rowV (toldAt B n).1)) := fun n hn => by
      have h1 := told_lt hn
      have h2 : (toldAt B n).1 ∈ sortedR B := mem_sortedR.mpr (List.mem_map.mpr ⟨_, List.mem_of_getElem? h1, rfl⟩)
      rw [sortedR, ← zs1] at h2
      obtain ⟨z, mz, ez⟩ := List.mem_map.mp h2
      obtain ⟨j, hj⟩ := List.getElem?_of_mem mz
      obtain ⟨t, t1, t2⟩ := hk3 j z (List.getElem?_eq_some_iff.mp hj).1 hj
      rw [ez] at t1 t2
      rw [numOf_self nd h1] at t1
      exact ⟨t, t1, t2⟩
    have gw := e.trans w1
    refine q_asgO (T := TTk K) (eo_lst ea_nil (by simp)) fun v H3 e3 ⟨lf, ev, nlf, hlf⟩ => ?_
    subst ev
    have slots : ∀ (u5 u7 u8 u9 u10 u11 u12 : Option V), True := fun _ _ _ _ _ _ _ => trivial
    refine q_forG (T := TTk K) (Ev.eo (ev_var rfl)) fun v H4 e4 hv => ⟨lb, Zb.map fun q => V.ref q.t, hv, fun i σ'' H'' => Wd (TTk K) H' H'' ∧ (∃ u7 u8 u9 u10 u11 u12, σ'' = [some (.ref a), some (.ref nb), some (.ref lb), some (.ref ld), some (.ref dd), u5, some (.ref lf), u7, u8, u9, u10, u11, u12]) ∧ ∃ vs, H'' lf = some (.lst vs) ∧ DpAll K (del H'' lf) vs (foundD B ((Zb.take i).map bkey) ds) ∧ vs.length ≤ 100 * i, ?_, ?_, ?_, ?_⟩
    · exact ⟨e3.trans e4, ⟨_, _, _, _, _, _, rfl⟩, [], e4.lst hlf, .nil, Nat.le_refl _⟩
    · exact fun i σ'' H'' h => sl_of ((gw.trans h.1).lst hlb)
    · intro i x σ'' H5 hx ⟨w5, ⟨u7, u8, u9, u10, u11, u12, es⟩, vs, hv1, hv2, hv3⟩
      obtain ⟨zq, hzq, rfl⟩ := map_at hx
      subst es
      have mzq := List.mem_of_getElem? hzq
      have i50 : i < 50 := by
        have := (List.getElem?_eq_some_iff.mp hzq).1
        omega
      have g5 := gw.trans w5
      refine g_tup3 (st_of (g5.tup (hzb zq mzq).1)) ?_
      refine s_forG (T := TTk K) (Ev.eo (ev_var rfl)) fun v H6 e6 hv => ⟨ld, ds.map V.int, hv, fun j σ'' H'' => Wd (TTk K) H' H'' ∧ (∃ u10 u11 u12, σ'' = [some (.ref a), some (.ref nb), some (.ref lb), some (.ref ld), some (.ref dd), u5, some (.ref lf), some (.str zq.ev), some (optV zq.g), some (.int (zq.pl : Int)), u10, u11, u12]) ∧ ∃ vs, H'' lf = some (.lst vs) ∧ DpAll K (del H'' lf) vs (foundD B ((Zb.take i).map bkey) ds ++ (ds.take j).flatMap fun d => pairD B (bkey zq) d) ∧ vs.length ≤ 100 * i + 2 * j, ?_, ?_, ?_, ?_⟩
      · exact ⟨w5.trans e6, ⟨_, _, _, rfl⟩, vs, e6.lst hv1, by rw [List.take_zero, List.flatMap_nil, List.append_nil]; exact dpAll_off hv2 fun b o h n nt => e6.get h nt, hv3⟩
      · exact fun j σ'' H'' h => sl_of ((gw.trans h.1).lst hld)
      · intro j x σ'' H7 hx ⟨w7, ⟨u10, u11, u12, es⟩, vs7, h71, h72, h73⟩
        obtain ⟨d, hdj, rfl⟩ := map_at hx
        subst es
        have md := List.mem_of_getElem? hdj
        have dok := hds d md
        have j50 : j < 50 := by
          have := (List.getElem?_eq_some_iff.mp hdj).1
          omega
        have g7 := gw.trans w7
        obtain ⟨A7, hA7, pt7⟩ := bk.mono g7
        refine q_asgO (T := TTk K) (eo_methN (ev_var rfl) hA7 rfl (ea1 (ev_var rfl)) (ea3 (ev_var rfl) (ev_var rfl) (ev_var rfl)) rfl rfl (gvO ⟨a, B, zq.ev, zq.g, zq.pl, d, rfl, ⟨A7, hA7, pt7⟩, ok, (hzb zq mzq).2, g7.2 htb, dok.1, dok.2, rfl⟩)) fun v H8 e8 ⟨nl8, l8, Z8, ev8, y1, y2, y3⟩ => ?_
        subst ev8
        have wl := walk_len (B := B) (ev := zq.ev) (g := zq.g) (pl := zq.pl) (k := d)
        have z8 : Z8.length ≤ 60 := by
          have := congrArg List.length y1
          rw [List.length_map] at this
          omega
        have w8 := w7.trans e8
        have g8 := gw.trans w8
        refine q_ (s_app (T := TTk K) (Φ := OffLst K H8 (Z8.map fun q => relD B q.1)) (e8.lst h71) (ev_var rfl) (lc_off (L := Z8) (iv := fun q => .ref q.2) (dv := fun q => relD B q.1) (ev_var rfl) (sl_of y2) (by omega) (fun _ => rfl) fun z hz H9 e9 => ?_) (by omega) fun v H9 e9 ⟨l9, ys9, ev9, nl9, hl9, hd9⟩ => ?_)
        · have hz3 := (y3 z hz).mono e9
          obtain ⟨tm, bv, t1, t2, t3⟩ := hz3
          have zlab : z.1.lab < B.told.length := by
            have h1 : z.1 ∈ (walkP B zq.ev zq.g zq.pl d).rows := by
              rw [← y1]
              exact List.mem_map.mpr ⟨z, hz, rfl⟩
            exact walk_labs z.1 h1
          obtain ⟨t, v1, v2⟩ := deeds z.1.lab zlab
          have w9 := w8.trans e9
          refine (eo_cat (xs := [.ref t]) (ys := [.str z.1.name, .int z.1.mark, .ref tm, bv]) (eo_tupm (ea1 (ev_dgetK (k := Sum.inl (z.1.lab : Int)) (ev_var rfl) (ev_op (ev_var rfl) ev_c (rv_ixt (v := .int (z.1.lab : Int)) (st_of t1) (atI_nat' (n := 0) rfl))) (w9.dK hk1) v1)) (by simp)) (fun H10 e10 => (eo_slM (lo := some 1) (hi := none) (ev_var rfl) (ep_some ev_c) ep_none (e10.tup t1)).imp fun y H11 e11 ⟨p, ep, hp⟩ => ⟨p, ep, by rw [hp, cut1]; rfl⟩) (by simp)).imp fun y H10 e10 hy => ?_
          obtain ⟨p, rfl, hp⟩ := hy
          have hb10 : BrkAt H10 bv z.1.brk := by
            cases hbk : z.1.brk with
            | none => rw [hbk] at t3; exact t3
            | some tt =>
              rw [hbk] at t3
              obtain ⟨bb, b1, b2⟩ := t3
              exact ⟨bb, b1, e10.tup b2⟩
          intro lf' xs' hl'
          refine dpT (sqt_del (e10.lst hl')) (noL_rel B z.1) ?_
          exact .tup (st_of hp) (.cons (dp_row ((w9.trans e10).tup v2)) (.cons (.str _) (.cons (.int _) (.cons (.tup (st_of (e10.tup t2)) (.cons (.int _) (.cons (.int _) .nil))) (.cons (brk_dp hb10) .nil)))))
        · subst ev9
          have hf9 := (e8.trans e9).lst h71
          have nf9 : l9 ≠ lf := (nl9.ne (e8.lst h71) nt_lst).symm
          have hf10 : upd H9 lf (.lst (vs7 ++ [V.ref l9])) lf = some (.lst (vs7 ++ [V.ref l9])) := upd_same
          have w10 : Wd (TTk K) H' (upd H9 lf (.lst (vs7 ++ [V.ref l9]))) := ((w8.trans e9)).mut nlf hf9 trivial
          have hdd9 : DpAll K (del (upd H9 lf (.lst (vs7 ++ [V.ref l9]))) lf) (vs7 ++ [V.ref l9]) ((foundD B ((Zb.take i).map bkey) ds ++ (ds.take j).flatMap fun d => pairD B (bkey zq) d) ++ [.list ((walkP B zq.ev zq.g zq.pl d).rows.map (relD B))]) := by
            refine dpAll_snoc' (dpAll_off (dpAll_off h72 fun b o h n nt => (e8.trans e9).get h nt) fun b o h n _ => by rw [upd_ne n]; exact h) ?_
            have hm : (Z8.map fun q => relD B q.1) = (walkP B zq.ev zq.g zq.pl d).rows.map (relD B) := by rw [← y1, List.map_map]; rfl
            rw [hm] at hd9
            exact .lst (sl_of (by rw [del_ne nf9, upd_ne nf9]; exact hl9)) (dpTs (sqt_off hf9) (noLs_rel B _) hd9)
          have g10 := gw.trans w10
          obtain ⟨A10, hA10, pt10⟩ := bk.mono g10
          refine s_app (T := TTk K) (Φ := fun v H2 => Dp K H2 v (holdD (heldOn (walkP B zq.ev zq.g zq.pl 40000).rows d))) hf10 (ev_var rfl) (eo_methN (ev_var rfl) hA10 rfl (ea1 (ev_var rfl)) (ea3 (ev_var rfl) (ev_var rfl) (ev_var rfl)) rfl rfl (gvO ⟨a, B, zq.ev, zq.g, zq.pl, d, rfl, ⟨A10, hA10, pt10⟩, ok, (hzb zq mzq).2, g10.2 htb, dok.1, dok.2, rfl⟩)) (by rw [List.length_append, List.length_singleton]; omega) fun v H11 e11 hv11 => ?_
          have hf11 := e11.lst hf10
          refine ⟨(w10.trans e11).mut nlf hf11 trivial, ⟨_, _, _, rfl⟩, _, upd_same, ?_, by rw [List.length_append, List.length_append, List.length_singleton, List.length_singleton]; omega⟩
          have hj1 : (ds.take (j + 1)).flatMap (fun d => pairD B (bkey zq) d) = (ds.take j).flatMap (fun d => pairD B (bkey zq) d) ++ pairD B (bkey zq) d := by
            rw [List.take_add_one, hdj, Option.toList_some, List.flatMap_append, List.flatMap_cons, List.flatMap_nil, List.append_nil]
          rw [hj1, ← List.append_assoc]
          show DpAll K _ _ (_ ++ ([PyData.list ((walkP B zq.ev zq.g zq.pl d).rows.map (relD B))] ++ [holdD (heldOn (walkP B zq.ev zq.g zq.pl 40000).rows d)]))
          rw [← List.append_assoc]
          refine dpAll_snoc' (dpAll_off (dpAll_off hdd9 fun b o h n nt => e11.get h nt) fun b o h n _ => by rw [upd_ne n]; exact h) ?_
          have h12 : Dp K (del H11 lf) v (holdD (heldOn (walkP B zq.ev zq.g zq.pl 40000).rows d)) := dpT (sqt_del hf11) (noL_hold _) hv11
          have := dpAll_off (lf := lf) (.cons h12 .nil) (H' := upd H11 lf (.lst (vs7 ++ [V.ref l9] ++ [v]))) fun b o h n _ => by rw [upd_ne n]; exact h
          cases this with
          | cons h _ => exact h
      · intro σ'' H7 ⟨w7, ⟨u10, u11, u12, es⟩, vs7, h71, h72, h73⟩
        rw [List.length_map, List.take_length] at h72
        rw [List.length_map] at h73
        refine ⟨w7, ⟨_, _, _, _, _, _, es⟩, vs7, h71, ?_, by omega⟩
        rw [List.take_add_one, hzq, Option.toList_some, List.map_append, foundD, List.flatMap_append]
        show DpAll K _ _ (_ ++ [bkey zq].flatMap _)
        rw [List.flatMap_cons, List.flatMap_nil, List.append_nil]
        exact h72
    · intro σ'' H5 ⟨w5, ⟨u7, u8, u9, u10, u11, u12, es⟩, vs, hv1, hv2, hv3⟩
      subst es
      rw [List.length_map, List.take_length] at hv2
      rw [List.length_map] at hv3
      have g5 := gw.trans w5
      refine s_ro (T := TTk K) (H0 := H5) (eo_op2 (Φ := fun x _ => x = .ref lf) (Ev.eo (ev_var rfl)) fun x H6 e6 hx => (lc_via (Ψ := fun y H8 => ∃ l ys, y = .ref l ∧ H8 l = some (.lst ys) ∧ DpAll K (del H8 l) ys (stateD B ds)) (eo_sortDT (ev_var rfl) ((g5.trans e6).dT hnb) (by omega)) fun v H7 e7 ⟨l7, Z7, ev7, nl7, s1, s2, s3⟩ => ?_).imp fun y H7 e7 hy => ?_) (.refl H5) (q.mono (w1.trans w5))
      · subst ev7
        have z7 : Z7.length ≤ 60 := by
          have := congrArg List.length s1
          rw [List.length_map, List.length_mergeSort, List.length_map] at this
          omega
        have g7 := (g5.trans e6).trans e7
        refine (lc_off (L := Z7) (iv := fun q => .ref q.2) (dv := fun q => .list (ds.map fun d => .str (wordAt B (numOf B.told q.1) d))) ev_c (sl_of s2) (by omega) (fun _ => rfl) fun z hz H8 e8 => ?_).imp fun y H8 e8 ⟨l8, ys8, ey, nl8, h8, d8⟩ => ⟨l8, ys8, ey, h8, ?_⟩
        · have hzr : z.1 ∈ B.told.map (·.1) := by
            rw [← mem_sortedR, sortedR, ← s1]
            exact List.mem_map.mpr ⟨z, hz, rfl⟩
          have hlt : numOf B.told z.1 < B.told.length := numOf_lt (by
            obtain ⟨q, h1, h2⟩ := List.mem_map.mp hzr
            exact ⟨q, h1, h2⟩)
          have g8 := g7.trans e8
          refine (lc_list (L := ds) (iv := V.int) (f := fun _ => true) (ev := fun d => .str (wordAt B (numOf B.told z.1) d)) (ev_var rfl) (sl_of (g8.lst hld)) (by omega) (fun _ => rfl) (fun _ _ _ _ => et_yes) fun d hdm _ H9 e9 => ?_).imp fun y H9 e9 ⟨p, ey, np, hp⟩ lf' xs' hl' => ?_
          · obtain ⟨A9, hA9, pt9⟩ := bk.mono (g8.trans e9)
            exact ev_meth (ev_var rfl) hA9 rfl (ea2 (ev_dgetT (k := rowK z.1) (ev_var rfl) (ev_var rfl) ((g8.trans e9).dT hnb) ((e8.trans e9).tup (s3 z hz)) (by rw [valV_numK, if_pos hlt])) (ev_var rfl)) (gv ⟨a, B, numOf B.told z.1, d, _, rfl, ⟨A9, hA9, pt9⟩, ok, (g8.trans e9).2 htb, told_lt hlt, (hds d hdm).1, (hds d hdm).2, rfl⟩)
          · subst ey
            have hne : p ≠ lf' := (np.ne hl' nt_lst).symm
            rw [List.filter_eq_self.mpr (fun _ _ => rfl)] at hp
            have hm : (ds.map fun d => V.str (wordAt B (numOf B.told z.1) d)) = (ds.map fun d => wordAt B (numOf B.told z.1) d).map V.str := by rw [List.map_map]; rfl
            have hm2 : (ds.map fun d => PyData.str (wordAt B (numOf B.told z.1) d)) = (ds.map fun d => wordAt B (numOf B.told z.1) d).map PyData.str := by rw [List.map_map]; rfl
            rw [hm2]
            rw [hm] at hp
            exact .lst (sl_of (by rw [del_ne hne]; exact hp)) (dpAll_strs _)
        · have hm : (Z7.map fun q => PyData.list (ds.map fun d => .str (wordAt B (numOf B.told q.1) d))) = stateD B ds := by
            unfold stateD sortedR
            rw [← s1, List.map_map]
            rfl
          rw [← hm]
          exact d8
      · obtain ⟨l8, ys8, rfl, h8, d8⟩ := hy
        subst hx
        have e67 := e6.trans e7
        refine fun H8 e8 Q q => ⟨lf, l8, vs, ys8, rfl, rfl, (e67.trans e8).lst hv1, e8.lst h8, le_line ?_, fun p hp => q _ _ (.new hp) ?_⟩
        · have l1 := dpAll_len hv2
          have l2 := dpAll_len d8
          have l3 : (stateD B ds).length ≤ 60 := by
            unfold stateD sortedR
            rw [List.length_map, List.length_mergeSort, List.length_map]
            exact tl
          omega
        · have k8 : Wd [] H8 (upd H8 p (.lst (vs ++ ys8))) := .new hp
          have x1 : Wd [] (del H5 lf) (upd H8 p (.lst (vs ++ ys8))) := (wd_del.trans ⟨(e67.trans e8).1, fun _ p hp => by cases hp⟩).trans k8
          have x2 : Wd [] (del H7 l8) (upd H8 p (.lst (vs ++ ys8))) := (wd_del.trans ⟨e8.1, fun _ p hp => by cases hp⟩).trans k8
          exact .lst (sl_of upd_same) (dpAll_app (x1.dpAll hv2) (x2.dpAll d8))
end
end Bb
/-! ## part Rd22 -/
/-! the law -/
namespace Bb
open PySem PySem.Spec PyProof.Rows L2 LamX BbS NdefX PySem.W
/-- what is known on the way -/
structure LawSt (T : TT0) (H : Hp) (pen c lr lp : Addr) (C : Clb) (R : List (Rw × Int)) (L : List (Pap Nat)) : Prop where
  pn : PenAt H pen
  tb : Tabs T H
  cl : ClubAt H c C
  ro : RowsAt H lr R
  pa : PapLst H lp L
  n1 : lr ≠ pen
  n2 : lp ≠ pen
  n3 : lr ≠ lp
section
variable {T : TT0} {P : Program} {w : World} {K : PySem.W.Frag} {mg : Str → Option Value} {base : Heap} {G H H0 H1 H2 H' : Hp} {a p pen c lr lp : Addr} {C : Clb} {R : List (Rw × Int)} {L : List (Pap Nat)} {σ : L2.St} {ts : TA} {g : TG} {tu tz : TS} {D : Ends}
theorem RowsAt.kt {l : Addr} (h : RowsAt H l R) (kt : ∀ b xs, H b = some (.tup xs) → H' b = some (.tup xs)) (kl : ∀ xs, H l = some (.lst xs) → H' l = some (.lst xs)) : RowsAt H' l R := by
  obtain ⟨Z, z1, z2, z3⟩ := h
  exact ⟨Z, z1, kl _ z2, fun q hq => ⟨kt _ _ (z3 q hq).1, kt _ _ (z3 q hq).2⟩⟩
theorem PapLst.kt {l : Addr} (h : PapLst H l L) (kt : ∀ b xs, H b = some (.tup xs) → H' b = some (.tup xs)) (kl : ∀ xs, H l = some (.lst xs) → H' l = some (.lst xs)) : PapLst H' l L := by
  obtain ⟨Z, z1, z2, z3⟩ := h
  exact ⟨Z, z1, kl _ z2, fun q hq => kt _ _ (z3 q hq)⟩
theorem LawSt.kp (h : LawSt T H pen c lr lp C R L) (k : Kp T pen H H') : LawSt T H' pen c lr lp C R L :=
  ⟨k.p1, k.tb h.tb, h.cl.kp k, h.ro.kt (fun _ _ e => k.tup e) fun _ e => k.lst e h.n1, h.pa.kt (fun _ _ e => k.tup e) fun _ e => k.lst e h.n2, h.n1, h.n2, h.n3⟩
theorem LawSt.wd (h : LawSt T H pen c lr lp C R L) (e : Wd T H H') : LawSt T H' pen c lr lp C R L := h.kp (e.kpen h.pn)
theorem dq_forR {N : Nat} (hp : PenAt H pen) (h : EdA T pen ts σ H fun us _ => ∃ n : Nat, us = [.int (n : Int)] ∧ n ≤ N) (hN : N ≤ 1000) (Pv : Nat → L2.St → Hp → Prop) (h0 : ∀ H1, Kp T pen H H1 → Pv 0 σ H1)
    (hs : ∀ i σ' H', i < N → Pv i σ' H' → g (.int (i : Int)) σ' H' fun σ2 H2 => tu { D with nx := Pv (i + 1), ct := Pv (i + 1), bk := tz D } σ2 H2) (hd : ∀ n σ' H', n ≤ N → Pv n σ' H' → tz D σ' H') : tSeq (tFor (iRng1 ts) g tu) tz D σ H := h H (.refl hp) _ fun us H1 k ⟨n, eu, hn⟩ =>
  ⟨(n : Int), eu, by omega, by omega, for_range (lo := 0) (n := n) Pv (h0 H1 k) (fun i σ' H' hi p => by rw [show (0 : Int) + (i : Int) = (i : Int) from Int.zero_add _]; exact hs i σ' H' (by omega) p) fun σ' H' p => hd n σ' H' hn p⟩
/-- rows.append -/
theorem LawSt.row (h : LawSt T H pen c lr lp C R L) {r : Rw} {k : Int} {t q : Addr} {xs : List V} (hl : H lr = some (.lst xs)) (hq : H q = some (.tup [.ref t, .int k])) (ht : H t = some (.tup (rowV r))) : LawSt T (upd H lr (.lst (xs ++ [.ref q]))) pen c lr lp C (R ++ [(r, k)]) L := by
  have kt := tup_upd (o' := .lst (xs ++ [.ref q])) hl fun _ z => (by cases z)
  obtain ⟨n1, m1, p1, p2⟩ := h.pn
  obtain ⟨Z, z1, z2, z3⟩ := h.ro
  rw [hl] at z2
  injection z2 with z2
  injection z2 with z2
  subst z2
  refine ⟨⟨n1, m1, by rw [upd_ne h.n1.symm]; exact p1, p2⟩, tabs_upd h.tb hl trivial, h.cl.kt kt fun b xs e => by rw [upd_ne (ne_of e hl (by intro z; cases z))]; exact e, ⟨Z ++ [⟨r, k, t, q⟩], by rw [List.map_append, z1]; rfl, by rw [upd_same, List.map_append]; rfl, fun y hy => ?_⟩, h.pa.kt kt fun xs e => by rw [upd_ne h.n3.symm]; exact e, h.n1, h.n2, h.n3⟩
  rcases List.mem_append.mp hy with hy | hy
  · exact ⟨kt _ _ (z3 y hy).1, kt _ _ (z3 y hy).2⟩
  · rw [List.mem_singleton.mp hy]
    exact ⟨kt _ _ hq, kt _ _ ht⟩
/-- papers.append -/
theorem LawSt.pap (h : LawSt T H pen c lr lp C R L) {z : Pap Nat} {q : Addr} {xs : List V} (hl : H lp = some (.lst xs)) (hq : H q = some (.tup (papV z))) : LawSt T (upd H lp (.lst (xs ++ [.ref q]))) pen c lr lp C R (L ++ [z]) := by
  have kt := tup_upd (o' := .lst (xs ++ [.ref q])) hl fun _ z => (by cases z)
  obtain ⟨n1, m1, p1, p2⟩ := h.pn
  obtain ⟨Z, z1, z2, z3⟩ := h.pa
  rw [hl] at z2
  injection z2 with z2
  injection z2 with z2
  subst z2
  refine ⟨⟨n1, m1, by rw [upd_ne h.n2.symm]; exact p1, p2⟩, tabs_upd h.tb hl trivial, h.cl.kt kt fun b xs e => by rw [upd_ne (ne_of e hl (by intro z; cases z))]; exact e, h.ro.kt kt fun xs e => by rw [upd_ne h.n3]; exact e, ⟨Z ++ [(z, q)], by rw [List.map_append, z1]; rfl, by rw [upd_same, List.map_append]; rfl, fun y hy => ?_⟩, h.n1, h.n2, h.n3⟩
  rcases List.mem_append.mp hy with hy | hy
  · exact kt _ _ (z3 y hy)
  · rw [List.mem_singleton.mp hy]
    exact kt _ _ hq
/-- club['deeds'] = t -/
theorem LawSt.deeds (h : LawSt T H pen c lr lp C R L) (ok : ClOk C) {de : Addr} {xs : List V} (hde : H de = some (.tup xs)) : ∃ kvs, H c = some (.dK kvs) ∧ kvs.length = 5 ∧ LawSt T (upd H c (.dK (putK kvs (Sum.inr "deeds") (.ref de)))) pen c lr lp { C with nd := xs.length } R L := by
  obtain ⟨ev, te, pe, d0, pa, xs0, h1, h2, ⟨l, h3, h4⟩, ⟨Z, h5, h6, h7⟩, h8, h9⟩ := h.cl
  refine ⟨_, h1, rfl, ?_⟩
  have kt := tup_upd (o' := .dK (putK (clKv ev te pe d0 pa) (Sum.inr "deeds") (.ref de))) h1 fun _ z => (by cases z)
  have kl : ∀ {b : Addr} {xs : List V}, H b = some (.lst xs) → upd H c (.dK (putK (clKv ev te pe d0 pa) (Sum.inr "deeds") (.ref de))) b = some (.lst xs) := fun e => by
    rw [upd_ne (ne_of e h1 (by intro z; cases z))]
    exact e
  obtain ⟨n1, m1, p1, p2⟩ := h.pn
  have hpc : pe ≠ c := fun z => by
    rw [z, h1] at h6
    injection h6 with h6
    injection h6 with h6
    have e1 := congrArg List.length h6
    have e2 := congrArg List.length h5
    have e3 := congrArg List.length ok.nm
    rw [List.length_map] at e1 e2 e3
    have e4 : (clKv ev te pe d0 pa).length = 5 := rfl
    have e5 : six.length = 6 := rfl
    omega
  exact ⟨⟨n1, m1, kl p1, p2⟩, tabs_upd h.tb h1 trivial, ⟨ev, te, pe, de, pa, xs, by rw [upd_same]; rfl, h2.kt kt, ⟨l, kt _ _ h3, kt _ _ h4⟩, ⟨Z, h5, by rw [upd_ne hpc]; exact h6, fun q hq => kt _ _ (h7 q hq)⟩, kt _ _ hde, rfl⟩, h.ro.kt kt fun xs e => kl e, h.pa.kt kt fun xs e => kl e, h.n1, h.n2, h.n3⟩
end
end Bb
/-! ## part Rd23 -/
namespace Bb
open PySem PySem.Spec PyProof.Rows L2 LamX BbS NdefX PySem.W
def PlainLaw : Prop := ∀ (C : Clb) (R R1 R2 : List (Rw × Int)) (L L1 L2 : List (Pap Nat)) (p1 p2 : Nat) (e1 e2 : Addr) (bs : List Bst) (ds : List Int), ClOk C → Sheet C R L → R1.Perm R → R2.Perm R → L1.Perm L → L2.Perm L →
  allD (toldBk C R1 (L1.map (Pap.map (relab R R1))) p1 e1) bs ds = allD (toldBk C R2 (L2.map (Pap.map (relab R R2))) p2 e2) bs ds
def RowsOk (C : Clb) (R : List (Rw × Int)) : Prop := (∀ q ∈ R, RowFit C q.1 ∧ q.1.day ≤ q.2 ∧ q.2 ≤ 40000) ∧ R.Pairwise fun q q' => q.1.day ≠ q'.1.day ∨ q.1.hour ≠ q'.1.hour
def timeD (r : Rw) : PyData := .tuple [.int r.day, .int r.hour]
theorem eqv_time (r q : Rw) : PyData.eqv (timeD r) (timeD q) = (decide (r.day = q.day) && decide (r.hour = q.hour)) := by
  simp only [timeD, PyData.eqv, PyData.eqvAll, Bool.and_true]
  rfl
def spLaw (K : PySem.W.Frag) : Sp := fun vs H Q _ => ∃ (a : Addr) (ns : List Int), vs = [.ref a] ∧ SqL K H a (ns.map V.int) ∧ Tabs (TTk K) H ∧ ∀ H', Q (.bl true) H'
section
variable {P : Program} {w : World} {K : PySem.W.Frag} {mg : Str → Option Value} {base : Heap} {G H H0 H1 H2 H' : Hp} {a p pen c lr lp : Addr} {C : Clb} {R : List (Rw × Int)} {L : List (Pap Nat)}
theorem rv_notD {T : TT0} {x y : V} {d : PyData} {ds : List PyData} (hd : Dp K H x d) (he : Dp K H y (.list ds)) (s1 : SeqAt.shaped d = true) (s2 : SeqAt.shaped (.list ds) = true) : RV T (rNotInD K) x y H (.bl (!ds.any fun z => PyData.eqv z d)) := rv_now fun _ w _ q => ⟨d, ds, w.dp hd, w.dp he, s1, s2, q⟩
theorem times_dp : ∀ {Z : List Ri} {ys : List V}, Paired (fun q y => MTup [.int q.r.day, .int q.r.hour] y H) Z ys → DpAll K H ys (Z.map fun q => timeD q.r)
  | _, _, .nil => .nil
  | _, _, .cons ⟨p, e, hp⟩ t => .cons (e ▸ .tup (st_of hp) (.cons (.int _) (.cons (.int _) .nil))) (times_dp t)
theorem inV_no {k : Int} {xs : List V} (h : inV (.int k) xs = false) : V.int k ∉ xs := fun hm => by
  have := List.any_eq_false.mp h (.int k) hm
  exact this (by show (k == k) = true; simp)
theorem rel_lay {B : Bk} (ok : BkOk B) {s : Stt Nat} (hs : PyData.strOk s.name = true) (hl : s.lab < B.told.length) : PyData.canLay0 (relD B s) = true ∧ (relD B s).depth ≤ 3 := by
  have hr := (ok.rw _ (List.mem_of_getElem? (told_lt hl))).1
  have h1 := hr.s1
  have h2 := hr.s2
  have h3 := hr.s3
  obtain ⟨b1, b2⟩ := brk_lay s.brk
  constructor
  · simp [relD, rowD, rowDs, sttTail, PyData.canLay0, PyData.canLayAll0, h1, h2, h3, hs, b1]
  · simp only [relD, rowD, rowDs, sttTail, PyData.depth, PyData.depthAll]
    omega
theorem strs_lay : ∀ {ns : List Str}, (∀ n ∈ ns, PyData.strOk n = true) → PyData.canLayAll0 (ns.map PyData.str) = true ∧ PyData.depthAll (ns.map PyData.str) = 0
  | [], _ => ⟨rfl, rfl⟩
  | n :: ns, h => by
    obtain ⟨h1, h2⟩ := strs_lay (ns := ns) fun x hx => h x (List.mem_cons_of_mem _ hx)
    have h3 := h n List.mem_cons_self
    constructor
    · simp [PyData.canLayAll0, PyData.canLay0, h1, h3]
    · simp [PyData.depthAll, PyData.depth, h2]
theorem hold_lay {r : List (Stt Nat)} (h : ∀ s ∈ r, PyData.strOk s.name = true) : PyData.canLay0 (holdD r) = true ∧ (holdD r).depth ≤ 3 := by
  cases r with
  | nil => exact ⟨rfl, Nat.zero_le _⟩
  | cons s r =>
    obtain ⟨h1, h2⟩ := strs_lay (ns := sortT ((s :: r).map Stt.name)) fun n hn => by
      obtain ⟨q, hq, rfl⟩ := List.mem_map.mp (List.mem_mergeSort.mp hn)
      exact h q hq
    rw [List.map_cons] at h1 h2
    constructor
    · simp [holdD, PyData.canLay0, PyData.canLayAll0, h1]
    · simp [holdD, PyData.depth, PyData.depthAll, h2]
theorem lst_lay {n : Nat} {ds : List PyData} (h : ∀ d ∈ ds, PyData.canLay0 d = true ∧ d.depth ≤ n) : PyData.canLay0 (.list ds) = true ∧ (PyData.list ds).depth ≤ n + 1 := by
  obtain ⟨h1, h2⟩ := all_lay h
  exact ⟨h1, Nat.succ_le_succ h2⟩
theorem word_ok {α : Type} [DecidableEq α] (n : α) (r : Rw) (a b : Int) (w : Bool) (ps : List (Pap α)) : PyData.strOk (wordP n r a b w ps) = true := by
  unfold wordP verdict
  split
  · decide +kernel
  · split
    · decide +kernel
    · split
      · decide +kernel
      · split <;> decide +kernel
theorem shaped_all {B : Bk} (ok : BkOk B) (bs : List Bst) (ds : List Int) : SeqAt.shaped (allD B bs ds) = true := by
  refine shaped_lst (n := 4) (by decide) fun d hd => ?_
  rcases List.mem_append.mp hd with hd | hd
  · obtain ⟨q, _, hd⟩ := List.mem_flatMap.mp hd
    obtain ⟨k, _, hd⟩ := List.mem_flatMap.mp hd
    rcases List.mem_cons.mp hd with rfl | hd
    · refine lst_lay (n := 3) fun d hd => ?_
      obtain ⟨s, hs, rfl⟩ := List.mem_map.mp hd
      exact rel_lay ok (walk_names ok s hs) (walk_labs s hs)
    · rw [List.mem_singleton.mp hd]
      obtain ⟨h1, h2⟩ := hold_lay (r := heldOn (walkP B q.1 q.2.1 q.2.2 40000).rows k) fun s hs => walk_names ok s (heldOn_sub hs)
      exact ⟨h1, by omega⟩
  · obtain ⟨r, _, rfl⟩ := List.mem_map.mp hd
    obtain ⟨h1, h2⟩ := lst_lay (n := 3) (ds := ds.map fun d => PyData.str (wordAt B (numOf B.told r) d)) fun d hd => by
      obtain ⟨k, _, rfl⟩ := List.mem_map.mp hd
      exact ⟨word_ok _ _ _ _ _ _, Nat.zero_le _⟩
    exact ⟨h1, h2⟩
/-- [e for x in range(n)], e draws, what it is hangs on tuples alone -/
theorem lcD_rngH {T : TT0} {σ : L2.St} {te : TE} {ta' : TA} {Pk : V → Hp → Prop} {j : Nat} {vn : List Nat} {N : Nat} (h : EdA T pen ta' σ H fun us _ => ∃ n : Nat, us = [.int (n : Int)] ∧ n ≤ N) (hN : N ≤ 1000) (hw : ∀ x, wipe (sl1 σ vn j x) vn = wipe σ vn)
    (mono : ∀ v H' H'', (∀ b xs, H' b = some (.tup xs) → H'' b = some (.tup xs)) → Pk v H' → Pk v H'') (he : ∀ (x : V) H1, Kp T pen H H1 → EvD T pen te (sl1 σ vn j x) H1 Pk) :
    EvD T pen (tLc (iRng1 ta') (gName j) tYes te vn) σ H fun v H2 => ∃ l ys, v = .ref l ∧ l ≠ pen ∧ H2 l = some (.lst ys) ∧ ys.length ≤ N ∧ ∀ y ∈ ys, Pk y H2 := fun H1 k1 Q q =>
  h H1 k1 _ fun us H2 k2 ⟨n, eu, hn⟩ => ⟨(n : Int), eu, by omega, by omega, fun Dl hD => by
    have nD := pen_none k2.p1 hD
    have w := walk_range (lo := 0) (n := n)
    refine lc_it w (fun i H' => Kp T pen H2 H' ∧ ∃ ys, H' Dl = some (.lst ys) ∧ ys.length = i ∧ ∀ y ∈ ys, Pk y H') ⟨Wd.kpen (.new hD) k2.p1, [], upd_same, rfl, fun y h => by cases h⟩ (fun _ _ _ _ => trivial) (fun i x H' H'' hi ⟨k3, ys, hys, hl, hy⟩ ⟨eH, ex⟩ => ?_) fun H' ⟨k3, ys, hys, hl, hy⟩ => q _ _ (k2.trans k3) ⟨Dl, ys, rfl, nD, hys, by omega, hy⟩
    subst eH
    refine ⟨hw _, ?_⟩
    show te (sl1 σ vn j x) _ _
    refine he x _ ((k1.trans k2).trans k3) _ (.refl k3.p1) _ fun v H4 k4 hv => ?_
    have hys4 := k4.lst hys nD
    have kt := tup_upd (o' := .lst (ys ++ [v])) hys4 fun _ z => (by cases z)
    refine ⟨ys, hys4, lt_line (by omega), ⟨k3.p0, ?_, fun b o hb ne nt => ?_, fun t => tabs_upd (k4.tb (k3.tb t)) hys4 trivial⟩, ys ++ [v], upd_same, by rw [List.length_append, hl]; rfl, fun y h => ?_⟩
    · obtain ⟨n', m', p1, p2⟩ := k4.p1
      exact ⟨n', m', by rw [upd_ne nD.symm]; exact p1, p2⟩
    · rw [upd_ne (ne_of_none hb hD)]
      exact k4.kp b o (k3.kp b o hb ne nt) ne nt
    · rcases List.mem_append.mp h with h | h
      · exact mono _ _ _ kt (mono _ _ _ (fun _ _ h => k4.tup h) (hy y h))
      · rw [List.mem_singleton.mp h]
        exact mono _ _ _ kt hv⟩
theorem bqs_of {C : Clb} : ∀ {ys : List V}, (∀ y ∈ ys, ∃ q : Bq, y = .ref q.t ∧ H q.t = some (.tup (bqV q)) ∧ BestC C q.ev q.g q.pl) → ∃ Z : List Bq, ys = Z.map (fun q => V.ref q.t) ∧ ∀ q ∈ Z, H q.t = some (.tup (bqV q)) ∧ BestC C q.ev q.g q.pl
  | [], _ => ⟨[], rfl, fun _ h => by cases h⟩
  | y :: ys, h => by
    obtain ⟨q, rfl, hq⟩ := h y List.mem_cons_self
    obtain ⟨Z, rfl, hZ⟩ := bqs_of (ys := ys) fun z hz => h z (List.mem_cons_of_mem _ hz)
    exact ⟨q :: Z, rfl, fun x hx => by
      rcases List.mem_cons.mp hx with rfl | hx
      · exact hq
      · exact hZ x hx⟩
theorem ed_cb {T : TT0} {σ : L2.St} {ts : TA} {r : List V → Hp → VK → Prop} {Ψ : List V → Hp → Prop} {Φ : V → Hp → Prop} (h : EdA T pen ts σ H Ψ) (g : ∀ us H1, Kp T pen H H1 → Ψ us H1 → RCO T r us H1 Φ) : EvD T pen (tCB r ts) σ H Φ := fun H1 k Q q =>
  h H1 k _ fun us H2 k2 f => g us H2 (k.trans k2) f H2 (.refl H2) Q fun v H3 e3 hv => q v H3 (k2.trans (e3.kpen k2.p1)) hv
theorem fn_law (PL : PlainLaw) (S : Say K mg) (TB : TabB base mg (cC K "papers_by") (cP K "papers_by")) (TB2 : TabB base mg (cC K "runners") (cP K "runners")) (hd : cP K "papers_by" ≠ cP K "runners") : Fn P w K mg base d_law 11 ["_law_script"] (spLaw K) := by
  obtain ⟨_, F1, O1⟩ := fn_Book_len (T := TTk K) (P := P) (w := w) (base := base) S
  obtain ⟨_, F2, O2⟩ := fn_cell (T := TTk K) (P := P) (w := w) (base := base) S
  obtain ⟨_, F3, O3⟩ := fn_pen (T := TTk K) (P := P) (w := w) (base := base) S
  obtain ⟨_, F4, O4⟩ := fn_draw (T := TTk K) (P := P) (w := w) (base := base) S
  obtain ⟨_, F5, O5⟩ := fn_club (T := TTk K) (P := P) (w := w) (base := base) S
  obtain ⟨_, F6, O6⟩ := fn_row (T := TTk K) (P := P) (w := w) (base := base) S
  obtain ⟨_, F7, O7⟩ := fn_paperD (T := TTk K) (P := P) (w := w) (base := base) S
  obtain ⟨_, F8, O8⟩ := fn_some_best (T := TTk K) (P := P) (w := w) (base := base) S
  obtain ⟨_, F9, O9⟩ := fn_told_so (T := TTk K) (P := P) (w := w) (base := base) S
  obtain ⟨_, F10, O10⟩ := fn_all (P := P) (w := w) (base := base) S TB TB2 hd
  refine fn_ok S.f__law sc__law (fun vs H Q E h => by obtain ⟨_, _, rfl, _⟩ := h; rfl) fun cdv A outer s H vs Q E hr h => ⟨_, (tm__law S F1 O1 F2 O2 F3 O3 F4 O4 F5 O5 F6 O6 F7 O7 F8 O8 F9 O9 F10 O10 _ cdv A outer s H E hr).2, ?_⟩
  obtain ⟨a, ns, rfl, hns, htb, q⟩ := h
  dsimp only [tm__law]
  refine q_asgO (T := TTk K) (eo_call (ea1 (ev_call (ea2 (ev_var rfl) ev_c) (gv ⟨a, ns, rfl, hns, rfl⟩))) (gvO ⟨_, rfl, rfl⟩)) fun v H1 e1 ⟨pen, ev, npen, hpen⟩ => ?_
  subst ev
  have tb1 := e1.2 htb
  refine dq_asgG (T := TTk K) (Φ := fun v H2 => ∃ p c lr lp C, v = .ref p ∧ H2 p = some (.tup [.ref c, .ref lr, .ref lp]) ∧ LawSt (TTk K) H2 pen c lr lp C [] [] ∧ ClOk C ∧ C.nd = 0) hpen ((ed_tup (Ψ := fun us H2 => ∃ c lr lp C, us = [.ref c, .ref lr, .ref lp] ∧ LawSt (TTk K) H2 pen c lr lp C [] [] ∧ ClOk C ∧ C.nd = 0) (eda_cons (ed_call (pre := p_club) (Ψ := fun us _ => us = [.ref pen]) (eda_cons (ed_var (v := .ref pen) rfl) fun x G1 f1 hx => eda_nil.imp fun us G2 f2 hu => by rw [hx, hu]) fun us G1 f1 hu => ⟨by rw [hu]; rfl, rfl⟩) fun x G1 f1 ⟨c, C, hx, hc, ok, nd⟩ =>
    eda_cons (Φ := fun v H2 => ∃ l, v = .ref l ∧ l ≠ pen ∧ H2 l = some (.lst [])) ((ed_lst eda_nil fun us _ hu => by rw [hu]; decide).imp fun v G k ⟨us, p, G2, ev, ne, hp, _, hu⟩ => ⟨p, ev, ne, by rw [hp, hu]⟩) fun y G2 f2 ⟨l1, hy, ne1, hl1⟩ => eda_cons (Φ := fun v H2 => ∃ l, v = .ref l ∧ l ≠ pen ∧ l1 ≠ l ∧ H2 l = some (.lst [])) (fun G3 k3 Q q => ⟨by show 0 ≤ sizeLine; decide, fun p hp => q _ _ (Wd.kpen (.new hp) k3.p1) ⟨p, rfl, pen_none k3.p1 hp, (fun z => by have := k3.lst hl1 ne1; rw [z, hp] at this; cases this), upd_same⟩⟩) fun z G3 f3 ⟨l2, hz, ne2, ne3, hl2⟩ => eda_nil.imp fun us G4 f4 hu => ?_) fun us G hu => ?_).imp fun v H2 k2 ⟨us, p, G, ev, hp, ew, c, lr, lp, C, eus, st, ok, nd⟩ => ⟨p, c, lr, lp, C, ev, by rw [hp, eus], st.wd ew, ok, nd⟩) fun v H2 k2 ⟨p, c, lr, lp, C, ev, hp, st, ok, nd0⟩ => ?_
  · subst hx hy hz hu
    exact ⟨c, l1, l2, C, rfl, ⟨f4.p1, f4.tb (f3.tb (f2.tb (f1.tb tb1))), hc.kp ((f2.trans f3).trans f4), ⟨[], rfl, (f3.trans f4).lst hl1 ne1, (fun _ h => by cases h)⟩, ⟨[], rfl, f4.lst hl2 ne2, (fun _ h => by cases h)⟩, ne1, ne2, ne3⟩, ok, nd⟩
  · obtain ⟨_, _, _, _, rfl, _⟩ := hu
    simp
  subst ev
  refine g_tup3 (st_of hp) ?_
  refine dq_forR (N := 16) st.pn (eda_cons (ed_drawC rfl (by decide) (by decide)) fun x G1 f1 ⟨n, hx, n0, n1⟩ => eda_nil.imp fun us G2 f2 hu => ⟨n.toNat, by rw [hu, hx, Int.toNat_of_nonneg n0], by omega⟩) (by decide) (fun i σ' H' => (∃ u5 u6, σ' = [some (.ref a), some (.ref pen), some (.ref c), some (.ref lr), some (.ref lp), u5, u6, none, none, none, none, none, none, none, none]) ∧ ∃ R, LawSt (TTk K) H' pen c lr lp C R [] ∧ RowsOk C R ∧ R.length ≤ i) (fun H3 k3 => ⟨⟨_, _, rfl⟩, [], st.kp k3, ⟨(fun _ h => by cases h), List.Pairwise.nil⟩, Nat.le_refl _⟩) (fun i σ' H' hi ⟨⟨u5, u6, es⟩, R, st1, rok, rl⟩ => ?_) fun n σ' H' hn ⟨⟨u5, u6, es⟩, R, st1, rok, rl⟩ => ?_
  · subst es
    refine dq_asg (T := TTk K) st1.pn (ed_call (pre := p_row) (Ψ := fun us _ => us = [.ref pen, .ref c]) (eda_cons (ed_var (v := .ref pen) rfl) fun x G1 f1 hx => eda_cons (ed_var (v := .ref c) rfl) fun y G2 f2 hy => eda_nil.imp fun us G3 f3 hu => by rw [hx, hy, hu]) fun us G1 f1 hu => ⟨c, C, by rw [hu]; rfl, (st1.kp f1).cl, ok, rfl⟩) fun v H3 k3 ⟨t, r, ev, ht, fit⟩ => ?_
    subst ev
    have st3 := st1.kp k3
    obtain ⟨Z, z1, z2, z3⟩ := st3.ro
    have zl : Z.length = R.length := by rw [← z1, List.length_map]
    refine s_when (T := TTk K) (b := !R.any fun q => decide (q.1.day = r.day) && decide (q.1.hour = r.hour)) (et_test (ev_op2 (Φ := MTup [.int r.day, .int r.hour]) (eo_slM (lo := some 3) (hi := some 5) (ev_var rfl) (ep_some ev_c) (ep_some ev_c) ht) fun x G1 f1 ⟨px, ex, hx⟩ => (lc_list2 (L := Z) (ev := fun _ => .non) (ia := Ri.p) (xv := fun q => .ref q.t) (yv := fun q => .int q.k) (f := fun _ => true) (Φ := fun q y H => MTup [.int q.r.day, .int q.r.hour] y H) (ev_var rfl) (sl_of (f1.lst z2)) (fun q hq => f1.tup (z3 q hq).1) (by omega) (fun _ _ => rfl) (fun _ _ _ _ => et_yes) (fun q y G G' kt ⟨p, e1, e2⟩ => ⟨p, e1, kt _ _ e2⟩) fun z hz _ G2 f2 => eo_slM (lo := some 3) (hi := some 5) (ev_var rfl) (ep_some ev_c) (ep_some ev_c) ((f1.trans f2).tup (z3 z hz).2)).imp fun y G2 f2 ⟨py, ys, ey, _, hy, pr⟩ => ?_)) (fun hb H4 e4 => ?_) fun hb H4 e4 => ?_
    · rw [List.filter_eq_self.mpr (fun _ _ => rfl)] at pr
      subst ex ey
      refine (rv_notD (d := timeD r) (ds := Z.map fun q => timeD q.r) (.tup (st_of (f2.tup hx)) (.cons (.int _) (.cons (.int _) .nil))) (.lst (sl_of hy) (times_dp pr)) rfl (shaped_lst (n := 3) (by decide) fun d hd => ?_)).is ?_
      · obtain ⟨z, _, rfl⟩ := List.mem_map.mp hd
        exact ⟨rfl, by show 1 ≤ 3; decide⟩
      · congr 2
        rw [← z1, List.any_map, List.any_map]
        congr 1
        funext z
        exact eqv_time _ _
    · have hnot : ∀ q ∈ R, q.1.day ≠ r.day ∨ q.1.hour ≠ r.hour := fun q hq => by
        have h1 : (R.any fun q => decide (q.1.day = r.day) && decide (q.1.hour = r.hour)) = false := by simpa using hb
        have h2 := List.any_eq_false.mp h1 q hq
        by_cases hday : q.1.day = r.day
        · right
          intro hh
          exact h2 (by rw [decide_eq_true hday, decide_eq_true hh]; rfl)
        · exact .inl hday
      have st4 := st3.wd e4
      obtain ⟨Z4, y1, y2, y3⟩ := st4.ro
      have d1 := fit.ok.d1
      have d2 := fit.ok.d2
      refine ⟨_, rfl, .inl ⟨rfl, _, sl_of y2⟩, (ed_tup (T := TTk K) (pen := pen) (Ψ := fun us _ => ∃ kk : Int, us = [.ref t, .int kk] ∧ r.day ≤ kk ∧ kk ≤ 40000) (eda_cons (ed_var (v := .ref t) rfl) fun x1 G1 f1 h1 => eda_cons (ed_cb (Φ := fun v _ => ∃ kk : Int, v = .int kk ∧ r.day ≤ kk ∧ kk ≤ 40000) (Ψ := fun us _ => ∃ n : Int, us = [.int 40000, .int n] ∧ r.day ≤ n) (eda_cons (ed_c (v := .int 40000)) fun x2 G2 f2 h2 => eda_cons (ed_op (Θ := fun v _ => ∃ n : Int, v = .int n ∧ r.day ≤ n) (ed_ev (v := .int r.day) fun G3 f3 => ev_op (ev_var rfl) ev_c (rv_ixt (st_of (((f1.trans f2).trans f3).tup (e4.tup ht))) (atI_nat' (n := 3) rfl))) fun x3 G3 f3 h3 => (ed_drawC rfl (m := 60) (by decide) (by decide)).imp fun y G4 f4 ⟨n, hy, n0, n1⟩ => ?hop) fun x3 G3 f3 ⟨n, h3, hn⟩ => eda_nil.imp fun us G4 f4 hu => ⟨n, by rw [hu, h2, h3], hn⟩) fun us G2 f2 ⟨n, hu, hn⟩ G3 e3 Q q => ⟨40000, n, hu, q _ _ (.refl G3) ?hmin⟩) fun x2 G2 f2 ⟨kk, h2, k1, k2⟩ => eda_nil.imp fun us G3 f3 hu => ⟨kk, by rw [hu, h1, h2], k1, k2⟩) fun us G hu => ?hlen) H4 (.refl st4.pn) _ fun v H5 k5 ⟨us, p, G, ev, hp5, _, kk, eus, kk1, kk2⟩ => ⟨lr, _, v, rfl, rfl, k5.lst y2 st4.n1, lt_line ?hl2, ?hfin⟩⟩
      case hop =>
        subst h3 hy
        exact fun H4 e4 Q q => rv_i0 H4 e4 _ fun H5 e5 => q _ H5 e5 ⟨r.day + n, rfl, by omega⟩
      case hmin =>
        by_cases h : n < 40000
        · exact ⟨n, by rw [if_pos h], hn, by omega⟩
        · exact ⟨40000, by rw [if_neg h], by omega, Int.le_refl _⟩
      case hlen =>
        obtain ⟨_, rfl, _⟩ := hu
        simp
      case hl2 =>
        have := congrArg List.length y1
        rw [List.length_map] at this ⊢
        omega
      case hfin =>
        subst ev eus
        have st5 := st4.kp k5
        refine ⟨⟨_, _, rfl⟩, R ++ [(r, kk)], st5.row (k5.lst y2 st4.n1) hp5 (k5.tup (e4.tup ht)), ⟨fun y hy => ?_, ?_⟩, by rw [List.length_append, List.length_singleton]; omega⟩
        · rcases List.mem_append.mp hy with hy | hy
          · exact rok.1 y hy
          · rw [List.mem_singleton.mp hy]
            exact ⟨fit, kk1, kk2⟩
        · refine List.pairwise_append.mpr ⟨rok.2, List.pairwise_singleton _ _, fun y hy z hz => ?_⟩
          rw [List.mem_singleton.mp hz]
          exact hnot y hy
    · exact ⟨⟨_, _, rfl⟩, R, st3.wd e4, rok, by omega⟩
  · subst es
    obtain ⟨ZR, zr1, zr2, zr3⟩ := st1.ro
    have zrl : ZR.length = R.length := by rw [← zr1, List.length_map]
    obtain ⟨ev, te, pe, d0, pa, xs0, hc0, _⟩ := st1.cl
    refine q_ (s_dputKO (T := TTk K) (k := Sum.inr "deeds") (Φ := MTup (ZR.map fun q => V.ref q.p)) (fun H3 e3 Q q => ev_var rfl H3 e3 _ fun H4 e4 => ⟨lr, _, rfl, .inl ⟨sl_of ((e3.trans e4).lst zr2), fun p hp => q _ _ (e4.trans (.new hp)) ⟨p, rfl, upd_same⟩⟩⟩) (ev_var rfl) ev_c hc0 (by show 5 < 1000000; decide) fun v H3 H4 e3 ⟨de, ev', hde⟩ e4 => ?_)
    subst ev'
    obtain ⟨kvs', hk', _, st4⟩ := (st1.wd (e3.trans e4)).deeds ok (e4.tup hde)
    have hkk : kvs' = clKv ev te pe d0 pa := by
      have := (e3.trans e4).dK hc0
      rw [hk'] at this
      injection this with this
      injection this
    rw [hkk] at st4
    clear hk' hkk
    have hnd : (ZR.map fun q => V.ref q.p).length = R.length := by rw [List.length_map, zrl]
    rw [hnd] at st4
    generalize hH5 : upd H4 c (.dK (putK (clKv ev te pe d0 pa) (Sum.inr "deeds") (.ref de))) = H5 at st4
    have ok5 : ClOk { C with nd := R.length } := ⟨ok.ev, ok.es, ok.tr, ok.nm, ok.pr⟩
    have sh0 : ∀ L, (∀ z ∈ L, PapC R.length z) → L.Pairwise (fun z z' => z.known ≠ z'.known) → L.length ≤ 50 → Sheet { C with nd := R.length } R L := fun L h1 h2 h3 => ⟨fun q hq => ⟨⟨(rok.1 q hq).1.ok, (rok.1 q hq).1.ev, (rok.1 q hq).1.pr⟩, (rok.1 q hq).2⟩, rok.2, by omega, h1, h2, h3⟩
    generalize hC5 : ({ C with nd := R.length } : Clb) = C5 at st4 ok5 sh0
    have hnd5 : C5.nd = R.length := by rw [← hC5]
    refine dq_forR (N := 6) st4.pn (eda_cons (ed_drawC rfl (by decide) (by decide)) fun x G1 f1 ⟨n, hx, n0, n1⟩ => eda_nil.imp fun us G2 f2 hu => ⟨n.toNat, by rw [hu, hx, Int.toNat_of_nonneg n0], by omega⟩) (by decide) (fun i σ' H' => (∃ u5 u6 u7, σ' = [some (.ref a), some (.ref pen), some (.ref c), some (.ref lr), some (.ref lp), u5, u6, u7, none, none, none, none, none, none, none]) ∧ ∃ L, LawSt (TTk K) H' pen c lr lp C5 R L ∧ (∀ z ∈ L, PapC R.length z) ∧ L.Pairwise (fun z z' => z.known ≠ z'.known) ∧ L.length ≤ i) (fun H6 k6 => ⟨⟨_, _, _, rfl⟩, [], st4.kp k6, (fun _ h => by cases h), List.Pairwise.nil, Nat.le_refl _⟩) (fun i σ' H6 hi ⟨⟨u5, u6, u7, es⟩, L, st6, l1, l2, l3⟩ => ?_) fun n σ' H6 hn ⟨⟨u5, u6, u7, es⟩, L, st6, l1, l2, l3⟩ => ?_
    · subst es
      refine dq_asg (T := TTk K) st6.pn (ed_call (pre := p_paperD) (Ψ := fun us _ => us = [.ref pen, .ref c]) (eda_cons (ed_var (v := .ref pen) rfl) fun x G1 f1 hx => eda_cons (ed_var (v := .ref c) rfl) fun y G2 f2 hy => eda_nil.imp fun us G3 f3 hu => by rw [hx, hy, hu]) fun us G1 f1 hu => ⟨c, C5, by rw [hu]; rfl, (st6.kp f1).cl, by rw [hnd5]; omega, rfl⟩) fun v H7 k7 ⟨t, z, ev, ht, fit⟩ => ?_
      subst ev
      rw [hnd5] at fit
      have st7 := st6.kp k7
      obtain ⟨Z, z1, z2, z3⟩ := st7.pa
      have zl : Z.length = L.length := by rw [← z1, List.length_map]
      refine s_when (T := TTk K) (b := !inV (.int z.known) (L.map fun z => V.int z.known)) (et_test (ev_op2 (Φ := fun v _ => v = .int z.known) (Ev.eo (ev_op (ev_var rfl) (ev_neg (i := 1) ev_c) (rv_ixt (st_of ht) (papV_last z)))) fun x G1 f1 hx => (lc_list (L := Z) (iv := fun q => .ref q.2) (f := fun _ => true) (ev := fun q => .int q.1.known) (ev_var rfl) (sl_of (f1.lst z2)) (by omega) (fun _ => rfl) (fun _ _ _ _ => et_yes) fun y hy _ G2 f2 => ev_op (ev_var rfl) (ev_neg (i := 1) ev_c) (rv_ixt (st_of ((f1.trans f2).tup (z3 y hy))) (papV_last y.1))).imp fun y G2 f2 ⟨p, ey, _, hp⟩ => ?_)) (fun hb H8 e8 => ?_) fun hb H8 e8 => ?_
      · subst hx ey
        rw [List.filter_eq_self.mpr (fun _ _ => rfl)] at hp
        have hm : (Z.map fun q => V.int q.1.known) = L.map fun z => V.int z.known := by rw [← z1, List.map_map]; rfl
        rw [hm] at hp
        exact rv_inL (neg := true) (sl_of hp) rfl (by rw [List.all_map]; simp [Function.comp, flatV])
      · have st8 := st7.wd e8
        obtain ⟨Z8, y1, y2, y3⟩ := st8.pa
        have hnot : ∀ y ∈ L, y.known ≠ z.known := fun y hy he => by
          have h1 : inV (.int z.known) (L.map fun z => V.int z.known) = false := by simpa using hb
          exact inV_no h1 (List.mem_map.mpr ⟨y, hy, by rw [he]⟩)
        have y1l : Z8.length = L.length := by rw [← y1, List.length_map]
        refine s_app (T := TTk K) (Φ := fun v _ => v = .ref t) y2 (ev_var rfl) (Ev.eo (ev_var rfl)) (by rw [List.length_map]; omega) fun v H9 e9 hv => ?_
        subst hv
        have st9 := st8.wd e9
        exact ⟨⟨_, _, _, rfl⟩, L ++ [z], st9.pap (e9.lst y2) ((e8.trans e9).tup ht), fun y hy => by
          rcases List.mem_append.mp hy with hy | hy
          · exact l1 y hy
          · rw [List.mem_singleton.mp hy]
            exact fit, List.pairwise_append.mpr ⟨l2, List.pairwise_singleton _ _, fun y hy z' hz' => by rw [List.mem_singleton.mp hz']; exact hnot y hy⟩, by rw [List.length_append, List.length_singleton]; omega⟩
      · exact ⟨⟨_, _, _, rfl⟩, L, st7.wd e8, l1, l2, by omega⟩
    · subst es
      have sh : Sheet C5 R L := sh0 L l1 l2 (by omega)
      have BO : ∀ {R' : List (Rw × Int)} {L' : List (Pap Nat)} {p : Nat} {e : Addr}, R'.Perm R → L'.Perm L → BkOk (toldBk C5 R' (L'.map (Pap.map (relab R R'))) p e) := fun {R' L' p e} pR pL => ⟨ok5.ev, ok5.tr.lim, by show R'.length ≤ 60; rw [pR.length_eq]; have := sh.len; omega, by show (List.map _ L').length ≤ 1000; rw [List.length_map, pL.length_eq]; have := sh.plen; omega, fun q hq => by
        have hf := (sh.fit q (pR.mem_iff.mp hq)).1
        exact ⟨hf.ok, hf.ev, hf.pr⟩⟩
      have ND : ∀ {R' : List (Rw × Int)}, R'.Perm R → (R'.map (·.1)).Nodup := fun {R'} pR => by
        have h1 : R'.Pairwise fun q q' => q.1.day ≠ q'.1.day ∨ q.1.hour ≠ q'.1.hour := (pR.pairwise_iff (fun {a b} h => h.imp (fun h e => h e.symm) fun h e => h e.symm)).mpr sh.un
        exact List.pairwise_map.mpr (h1.imp fun h e => by
          rw [e] at h
          rcases h with h | h <;> exact h rfl)
      refine dq_asgG (T := TTk K) st6.pn (ed_call (pre := p_told_so K) (Ψ := fun us _ => us = [.ref pen, .ref c, .ref lr, .ref lp]) (eda_cons (ed_var (v := .ref pen) rfl) fun x1 G1 f1 h1 => eda_cons (ed_var (v := .ref c) rfl) fun x2 G2 f2 h2 => eda_cons (ed_var (v := .ref lr) rfl) fun x3 G3 f3 h3 => eda_cons (ed_var (v := .ref lp) rfl) fun x4 G4 f4 h4 => eda_nil.imp fun us G5 f5 hu => by rw [h1, h2, h3, h4, hu]) fun us G1 f1 hu => ⟨c, C5, lr, lp, R, L, by rw [hu]; rfl, (st6.kp f1).cl, ok5, sh, (st6.kp f1).ro, st6.n1, (st6.kp f1).pa, st6.n2, rfl⟩) fun v H7 k7 ⟨t1, a1, nb1, R1, L1, ps1, pe1, ev1, ht1, pR1, pL1, bk1, hn1⟩ => ?_
      subst ev1
      refine g_tup2 (st_of ht1) ?_
      have st7 := st6.kp k7
      refine dq_asgG (T := TTk K) st7.pn (ed_call (pre := p_told_so K) (Ψ := fun us _ => us = [.ref pen, .ref c, .ref lr, .ref lp]) (eda_cons (ed_var (v := .ref pen) rfl) fun x1 G1 f1 h1 => eda_cons (ed_var (v := .ref c) rfl) fun x2 G2 f2 h2 => eda_cons (ed_var (v := .ref lr) rfl) fun x3 G3 f3 h3 => eda_cons (ed_var (v := .ref lp) rfl) fun x4 G4 f4 h4 => eda_nil.imp fun us G5 f5 hu => by rw [h1, h2, h3, h4, hu]) fun us G1 f1 hu => ⟨c, C5, lr, lp, R, L, by rw [hu]; rfl, (st7.kp f1).cl, ok5, sh, (st7.kp f1).ro, st6.n1, (st7.kp f1).pa, st6.n2, rfl⟩) fun v H8 k8 ⟨t2, a2, nb2, R2, L2, ps2, pe2, ev2, ht2, pR2, pL2, bk2, hn2⟩ => ?_
      subst ev2
      refine g_tup2 (st_of ht2) ?_
      have st8 := st7.kp k8
      refine dq_asg (T := TTk K) (Φ := fun v H9 => ∃ ld, ∃ ds : List Int, v = .ref ld ∧ ld ≠ pen ∧ H9 ld = some (.lst (ds.map V.int)) ∧ (∀ d ∈ ds, 0 ≤ d ∧ d ≤ 40000) ∧ ds.length ≤ 50) st8.pn ((ed_lst (Ψ := fun us _ => ∃ x y : Int, us = [.int 40000, .int x, .int y] ∧ 0 ≤ x ∧ x < 9 ∧ 0 ≤ y ∧ y < 60) (eda_cons (ed_c (v := .int 40000)) fun x1 G1 f1 h1 => eda_cons (ed_drawC rfl (m := 9) (by decide) (by decide)) fun x2 G2 f2 ⟨n2, h2, p2, q2⟩ => eda_cons (ed_drawC rfl (m := 60) (by decide) (by decide)) fun x3 G3 f3 ⟨n3, h3, p3, q3⟩ => eda_nil.imp fun us G4 f4 hu => ⟨n2, n3, by rw [h1, h2, h3, hu], p2, q2, p3, q3⟩) fun us G hu => ?_).imp fun v H9 k9 ⟨us, p, G, ev, ne, hp9, _, x, y, eus, x0, x1, y0, y1⟩ => ⟨p, [40000, x, y], ev, ne, by rw [hp9, eus]; rfl, fun d hd => ?_, by show 3 ≤ 50; decide⟩) fun v H9 k9 ⟨ld, ds, ev9, nld, hld, hds, dsl⟩ => ?_
      · obtain ⟨_, _, rfl, _⟩ := hu
        simp
      · simp at hd
        rcases hd with rfl | rfl | rfl <;> omega
      subst ev9
      have st9 := st8.kp k9
      refine dq_asg (T := TTk K) st9.pn (lcD_rngH (N := 5) (Pk := fun v H => ∃ q : Bq, v = .ref q.t ∧ H q.t = some (.tup (bqV q)) ∧ BestC C5 q.ev q.g q.pl) (eda_cons (ed_c (v := .int 5)) fun x G1 f1 hx => eda_nil.imp fun us G2 f2 hu => ⟨5, by rw [hx, hu]; rfl, by decide⟩) (by decide) (fun _ => rfl) (fun v G G' kt ⟨q, e1, e2, e3⟩ => ⟨q, e1, kt _ _ e2, e3⟩) fun x G1 f1 => ed_call (pre := p_some_best) (Ψ := fun us _ => us = [.ref pen, .ref c]) (eda_cons (ed_var (v := .ref pen) rfl) fun x G1 f1 hx => eda_cons (ed_var (v := .ref c) rfl) fun y G2 f2 hy => eda_nil.imp fun us G3 f3 hu => by rw [hx, hy, hu]) fun us G2 f2 hu => ⟨c, C5, by rw [hu]; rfl, (st9.kp (f1.trans f2)).cl, ok5, rfl⟩) fun v H10 k10 ⟨lb, ys, ev10, nlb, hlb, hyl, hys⟩ => ?_
      subst ev10
      obtain ⟨Zb, rfl, hZb⟩ := bqs_of hys
      have st10 := st9.kp k10
      have bk1' := bk1.kp ((k8.trans k9).trans k10)
      have bk2' := bk2.kp (k9.trans k10)
      obtain ⟨A1, hA1, pt1⟩ := id bk1'
      obtain ⟨A2, hA2, pt2⟩ := id bk2'
      obtain ⟨Z10, w1, w2, w3⟩ := st10.ro
      have zl10 : Z10.length = R.length := by rw [← w1, List.length_map]
      have shl := sh.len
      have l1' : (toldBk C5 R1 (L1.map (Pap.map (relab R R1))) ps1 pe1).told.length = R.length := pR1.length_eq
      have l2' : (toldBk C5 R2 (L2.map (Pap.map (relab R R2))) ps2 pe2).told.length = R.length := pR2.length_eq
      refine q_skip (T := TTk K) (.is (et_or (b := false) (c := false) (.is (et_test (b := !decide (V.int (R.length : Int) = V.int (R.length : Int))) (ev_op (x := .int (R.length : Int)) (y := .int (R.length : Int)) (ev_cb (ea1 (ev_var rfl)) (rc_lenOwn (pre := p_Book_len K) (n := (R.length : Int)) hA1 ⟨a1, _, rfl, bk1', by rw [l1']⟩ (by omega) (by omega))) (.is (ev_cb (ea1 (ev_var rfl)) (rc_lenL (sl_of w2))) (by rw [List.length_map, zl10])) (rv_ne rfl))) (by simp)) fun _ => .is (et_test (b := !decide (V.int (R.length : Int) = V.int (R.length : Int))) (ev_op (x := .int (R.length : Int)) (y := .int (R.length : Int)) (ev_cb (ea1 (ev_var rfl)) (rc_lenOwn (pre := p_Book_len K) (n := (R.length : Int)) hA2 ⟨a2, _, rfl, bk2', by rw [l2']⟩ (by omega) (by omega))) (.is (ev_cb (ea1 (ev_var rfl)) (rc_lenL (sl_of w2))) (by rw [List.length_map, zl10])) (rv_ne rfl))) (by simp)) rfl) fun H11 e11 => ?_
      have k911 := (k10.trans (e11.kpen k10.p1))
      have best : ∀ {R' : List (Rw × Int)} {L' : List (Pap Nat)} {p : Nat} {e : Addr}, ∀ q ∈ Zb, BestOk (toldBk C5 R' L' p e) q.ev q.g q.pl := fun {R' L' p e} q hq => by
        obtain ⟨⟨x, hx, ex⟩, hg, hp⟩ := (hZb q hq).2
        exact ⟨by rw [← ex]; exact find_of_mem hx, by rw [← ex]; exact (ok5.ev.ok x hx).1, hg, hp⟩
      have hzbl : Zb.length ≤ 50 := by
        rw [List.length_map] at hyl
        omega
      have ldk := (k911).lst hld nld
      have hn1' := (((k8.trans k9).trans k911)).dT hn1
      have hn2' := ((k9.trans k911)).dT hn2
      have tb11 := e11.2 st10.tb
      refine s_retO (T := TTk K) (Φ := fun v _ => v = .bl true) (eo_op2 (Φ := fun v H => Dp K H v (allD (toldBk C5 R1 (L1.map (Pap.map (relab R R1))) ps1 pe1) (Zb.map bkey) ds)) (eo_call (ea_cons (ev_var rfl) (ea3 (ev_var rfl) (ev_var rfl) (ev_var rfl))) (gvO ⟨a1, nb1, lb, ld, _, Zb, ds, rfl, bk1'.mono e11, BO pR1 pL1, ND pR1, hn1', e11.lst hlb, fun q hq => ⟨e11.tup (hZb q hq).1, best q hq⟩, hzbl, ldk, hds, dsl, tb11, rfl⟩)) fun x G1 f1 hx => (eo_call (ea_cons (ev_var rfl) (ea3 (ev_var rfl) (ev_var rfl) (ev_var rfl))) (gvO ⟨a2, nb2, lb, ld, _, Zb, ds, rfl, (bk2'.mono e11).mono f1, BO pR2 pL2, ND pR2, f1.dT hn2', (e11.trans f1).lst hlb, fun q hq => ⟨(e11.trans f1).tup (hZb q hq).1, best q hq⟩, hzbl, f1.lst ldk, hds, dsl, f1.2 tb11, rfl⟩)).imp fun y G2 f2 hy => ?_) fun v H12 e12 hv => by rw [hv]; exact q H12
      have hx2 := f2.dp hx
      rw [PL C5 R R1 R2 L L1 L2 ps1 ps2 pe1 pe2 (Zb.map bkey) ds ok5 sh pR1 pR2 pL1 pL2] at hx2
      exact fun H5 e5 Q q => (rv_eqd hx2 hy (shaped_all (BO pR2 pL2) _ _) (shaped_all (BO pR2 pL2) _ _)) H5 e5 _ fun H6 e6 => q _ H6 e6 (by rw [SeqAt.eqv_refl _ (SeqAt.canLay_of_shaped (shaped_all (BO pR2 pL2) _ _))])
end
end Bb
/-! ## part Rd24 -/
/-! the plain law: two books of the same sheets answer alike -/
namespace Bb
open PySem PySem.Spec PyProof.Rows L2 LamX BbS NdefX PySem.W
theorem dataLe_anti {β : Type} {k : β → PyData} {a b : β} (h1 : dataLe false k a b = true) (h2 : dataLe false k b a = true) : keyToks (k a) = keyToks (k b) := by
  have h1 : (!(listOrd itemOrd).blt (keyToks (k b)) (keyToks (k a))) = true := h1
  have h2 : (!(listOrd itemOrd).blt (keyToks (k a)) (keyToks (k b))) = true := h2
  rw [Bool.not_eq_true'] at h1 h2
  exact (listOrd itemOrd).total _ _ h2 h1
theorem sort_perm {β : Type} {k : β → PyData} {l m : List β} (p : l.Perm m) (inj : ∀ a ∈ l, ∀ b ∈ l, keyToks (k a) = keyToks (k b) → a = b) : l.mergeSort (dataLe false k) = m.mergeSort (dataLe false k) :=
  List.Perm.eq_of_pairwise (le := fun a b => dataLe false k a b = true)
    (fun a b ha hb h1 h2 => inj a (List.mem_mergeSort.mp ha) b (p.mem_iff.mpr (List.mem_mergeSort.mp hb)) (dataLe_anti h1 h2))
    (sort_pairwise (sortLe_total _ false _) _) (sort_pairwise (sortLe_total _ false _) _)
    ((List.mergeSort_perm _ _).trans (p.trans (List.mergeSort_perm _ _).symm))
theorem pw_forall {α : Type} {U : α → α → Prop} (sy : ∀ a b, U a b → U b a) : ∀ {l : List α}, l.Pairwise U → ∀ {a b : α}, a ∈ l → b ∈ l → a ≠ b → U a b
  | [], _, _, _, h, _, _ => absurd h List.not_mem_nil
  | x :: l, h, a, b, ha, hb, ne => by
    obtain ⟨h1, h2⟩ := List.pairwise_cons.mp h
    rcases List.mem_cons.mp ha with ea | ma
    · rcases List.mem_cons.mp hb with eb | mb
      · exact absurd (ea.trans eb.symm) ne
      · rw [ea]
        exact h1 _ mb
    · rcases List.mem_cons.mp hb with eb | mb
      · rw [eb]
        exact sy _ _ (h1 _ ma)
      · exact pw_forall sy h2 ma mb ne
/-! ### papers -/
section
variable {α β : Type}
theorem Pap.known_map (f : α → β) (z : Pap α) : (z.map f).known = z.known := by cases z <;> rfl
theorem papersBy_mapf (f : α → β) (L : List (Pap α)) (k : Int) : papersBy (L.map (Pap.map f)) k = (papersBy L k).map (Pap.map f) := by
  unfold papersBy
  rw [List.filter_map, ← sort_maps (r := dataLe false papKey) (Pap.map f) fun a _ b _ => ?_]
  · congr 1
    congr 1
    congr 1
    funext z
    simp [Function.comp, Pap.known_map]
  · show (!dataLt (papKey b) (papKey a)) = (!dataLt (papKey (b.map f)) (papKey (a.map f)))
    unfold papKey
    rw [Pap.known_map, Pap.known_map]
theorem papersBy_perm {L L' : List (Pap α)} (p : L.Perm L') (h : L.Pairwise fun z z' => z.known ≠ z'.known) (k : Int) : papersBy L k = papersBy L' k := by
  refine sort_perm (p.filter _) fun a ha b hb e => ?_
  have ha := (List.mem_filter.mp ha).1
  have hb := (List.mem_filter.mp hb).1
  have e : a.known = b.known := by
    have : ([.inl a.known] : List (Int ⊕ List Nat)) = [.inl b.known] := e
    injection this with e1
    injection e1
  by_cases ab : a = b
  · exact ab
  · exact absurd e (pw_forall (fun _ _ => Ne.symm) h ha hb ab)
theorem wordStep_map [DecidableEq α] [DecidableEq β] (f : α → β) (n : α) (r : Rw) (st : Bool × List Bool) (z : Pap α) (h : ∀ m k, z = .out m k ∨ z = .inn m k → (f m = f n ↔ m = n)) : wordStep (f n) r st (z.map f) = wordStep n r st z := by
  cases z with
  | out m k =>
    have := h m k (.inl rfl)
    simp only [Pap.map, wordStep, this]
  | inn m k =>
    have := h m k (.inr rfl)
    simp only [Pap.map, wordStep, this]
  | right c k => rfl
  | wrong c s t k => rfl
theorem wordP_map [DecidableEq α] [DecidableEq β] (f : α → β) (n : α) (r : Rw) (a k : Int) (wd : Bool) (L : List (Pap α)) (h : ∀ m k, (Pap.out m k ∈ L ∨ Pap.inn m k ∈ L) → (f m = f n ↔ m = n)) : wordP (f n) r a k wd (L.map (Pap.map f)) = wordP n r a k wd L := by
  unfold wordP
  rw [papersBy_mapf]
  have h' : ∀ m j, (Pap.out m j ∈ papersBy L k ∨ Pap.inn m j ∈ papersBy L k) → (f m = f n ↔ m = n) := fun m j hm => h m j (hm.imp (fun x => (List.mem_filter.mp (List.mem_mergeSort.mp x)).1) fun x => (List.mem_filter.mp (List.mem_mergeSort.mp x)).1)
  have : ∀ (ps : List (Pap α)) (st : Bool × List Bool), (∀ m j, (Pap.out m j ∈ ps ∨ Pap.inn m j ∈ ps) → (f m = f n ↔ m = n)) → (ps.map (Pap.map f)).foldl (wordStep (f n) r) st = ps.foldl (wordStep n r) st := by
    intro ps
    induction ps with
    | nil => exact fun _ _ => rfl
    | cons z ps ih =>
      intro st hs
      rw [List.map_cons, List.foldl_cons, List.foldl_cons, wordStep_map f n r st z fun m k hz => hs m k (hz.imp (fun e => by rw [e]; exact List.mem_cons_self) fun e => by rw [e]; exact List.mem_cons_self)]
      exact ih _ fun m j hm => hs m j (hm.imp (List.mem_cons_of_mem _) (List.mem_cons_of_mem _))
  rw [this _ _ h']
end
/-! ### the walk, of any labels -/
section
variable {α β : Type}
def Stt.map (f : α → β) (s : Stt α) : Stt β := ⟨f s.lab, s.name, s.mark, s.time, s.brk⟩
def Wk.map (f : α → β) (s : Wk α) : Wk β := ⟨s.rows.map (Stt.map f), s.held⟩
theorem markAt_map (f : α → β) (rs : List (Stt α)) (i : Nat) : markAt (rs.map (Stt.map f)) i = markAt rs i := by
  unfold markAt
  rw [List.getElem?_map, Option.map_map]
  rfl
theorem brk_map (f : α → β) (t : Int × Int) (rs : List (Stt α)) (i : Nat) : brkAt t (rs.map (Stt.map f)) i = (brkAt t rs i).map (Stt.map f) := by
  unfold brkAt
  refine List.ext_getElem? fun j => ?_
  simp only [List.getElem?_map, List.getElem?_modify]
  by_cases e : i = j
  · simp only [e, if_true]
    cases rs[j]? <;> rfl
  · simp only [e, if_false]
    cases rs[j]? <;> rfl
theorem brks_map (f : α → β) (t : Int × Int) : ∀ (hs : List Nat) (rs : List (Stt α)), hs.foldl (brkAt t) (rs.map (Stt.map f)) = (hs.foldl (brkAt t) rs).map (Stt.map f)
  | [], _ => rfl
  | h :: hs, rs => by
    rw [List.foldl_cons, List.foldl_cons, brk_map, brks_map f t hs]
theorem picks_map (f : α → β) (s : Wk α) : picks (s.map f) = (picks s).map (Stt.map f) := by
  unfold picks Wk.map
  rw [List.map_filterMap]
  simp only [List.getElem?_map]
theorem joins_map (f : α → β) (sh : Bool) (r : Rw) (hs : List (Stt α)) : joinsB sh r (hs.map (Stt.map f)) = joinsB sh r hs := by
  unfold joinsB
  rw [markAt_map, List.map_map]
  rfl
theorem wstep_map (f : α → β) (way : Str) (sh : Bool) (s : Wk α) (x : α × Rw) : wstep way sh (s.map f) (f x.1, x.2) = (wstep way sh s x).map f := by
  unfold wstep
  rw [picks_map, joins_map]
  have e1 : (s.map f).held = s.held := rfl
  have e2 : (s.map f).rows = s.rows.map (Stt.map f) := rfl
  rw [e1, e2, markAt_map, List.length_map, brks_map]
  split
  · unfold Wk.map
    simp only [List.map_append]
    rfl
  · split
    · unfold Wk.map
      simp only [List.map_append]
      rfl
    · rfl
theorem wfold_map (f : α → β) (way : Str) (sh : Bool) : ∀ (xs : List (α × Rw)) (s : Wk α), (xs.map fun x => (f x.1, x.2)).foldl (wstep way sh) (s.map f) = (xs.foldl (wstep way sh) s).map f
  | [], _ => rfl
  | x :: xs, s => by
    rw [List.map_cons, List.foldl_cons, List.foldl_cons, wstep_map, wfold_map f way sh xs]
theorem held_map (f : α → β) (rs : List (Stt α)) (d : Int) : heldOn (rs.map (Stt.map f)) d = (heldOn rs d).map (Stt.map f) := by
  unfold heldOn
  rw [List.filter_map, List.filter_map]
  rfl
theorem hold_map (f : α → β) (rs : List (Stt α)) : holdD (rs.map (Stt.map f)) = holdD rs := by
  cases rs with
  | nil => rfl
  | cons s r =>
    show PyData.tuple [.int s.mark, .tuple ((sortT ((Stt.map f s :: r.map (Stt.map f)).map Stt.name)).map PyData.str)] = _
    rw [← List.map_cons, List.map_map]
    rfl
end
/-! ### both books as one -/
def relQ (s : Stt Rw) : PyData := .tuple (rowD s.lab :: sttTail s)
def Un (R : List (Rw × Int)) : Prop := R.Pairwise fun q q' => q.1.day ≠ q'.1.day ∨ q.1.hour ≠ q'.1.hour
theorem Un.perm {R R' : List (Rw × Int)} (h : Un R) (p : R.Perm R') : Un R' := List.Pairwise.perm h p fun h => h.imp Ne.symm Ne.symm
theorem Un.eq {R : List (Rw × Int)} (h : Un R) {a b : Rw × Int} (ha : a ∈ R) (hb : b ∈ R) (e1 : a.1.day = b.1.day) (e2 : a.1.hour = b.1.hour) : a = b := by
  by_cases ab : a = b
  · exact ab
  · rcases pw_forall (fun _ _ h => h.imp Ne.symm Ne.symm) h ha hb ab with h | h
    · exact absurd e1 h
    · exact absurd e2 h
theorem Un.nd {R : List (Rw × Int)} (h : Un R) : (R.map (·.1)).Nodup := by
  unfold List.Nodup
  rw [List.pairwise_map]
  exact List.Pairwise.imp (fun h e => h.elim (fun h => h (by rw [e])) fun h => h (by rw [e])) h
def rowAt (R : List (Rw × Int)) (j : Nat) : Rw := (R.getD j (rw0, 0)).1
/-- the word of a told deed, of no book -/
def wordQ (C : Clb) (LQ : List (Pap Rw)) (q : Rw × Int) (k : Int) : Str := wordP q.1 q.1 q.2 k (windyB ⟨C.events, C.terms, C.people, [], [], 0, 0⟩ q.1) LQ
def tmKey (q : Rw × Int) : PyData := .tuple [.int q.1.day, .int q.1.hour]
def runQ (C : Clb) (LQ : List (Pap Rw)) (R : List (Rw × Int)) (ev : Str) (g : Option Str) (pl : Nat) (k : Int) : List (Rw × Int) :=
  ((R.filter fun q => countsB ⟨C.events, C.terms, C.people, [], [], 0, 0⟩ q.1 ev g pl).filter fun q => decide (wordQ C LQ q k = "good")).mergeSort (dataLe false tmKey)
def walkQ (C : Clb) (LQ : List (Pap Rw)) (R : List (Rw × Int)) (ev : Str) (g : Option Str) (pl : Nat) (k : Int) : Wk Rw := ((runQ C LQ R ev g pl k).map fun q => (q.1, q.1)).foldl (wstep (evOf C.events ev).2.1 C.terms.shares) ⟨[], []⟩
def pairQ (C : Clb) (LQ : List (Pap Rw)) (R : List (Rw × Int)) (q : Bst) (d : Int) : List PyData := [.list ((walkQ C LQ R q.1 q.2.1 q.2.2 d).rows.map relQ), holdD (heldOn (walkQ C LQ R q.1 q.2.1 q.2.2 40000).rows d)]
theorem dataLt_tm (a b c d e f : Int) (h : a ≠ d ∨ b ≠ e) : dataLt (.tuple [.int a, .int b, .int c]) (.tuple [.int d, .int e, .int f]) = dataLt (.tuple [.int a, .int b]) (.tuple [.int d, .int e]) := by
  rw [dataLt_tuple, dataLt_tuple, dataLt_cons (by simp [alike]), dataLt_cons (by simp [alike]), dataLt_cons (by simp [alike]), dataLt_cons (by simp [alike]), dataLt_cons (by simp [alike])]
  simp only [PyData.eqv, beq_iff_eq]
  by_cases h1 : a = d
  · have h2 : b ≠ e := h.resolve_left fun z => z h1
    simp only [h1, h2, if_true, if_false]
  · simp only [h1, if_false]
theorem tm_toks {a b c d : Int} (h : keyToks (.tuple [.int a, .int b]) = keyToks (.tuple [.int c, .int d])) : a = c ∧ b = d := by
  simp [keyToks, keyToksAll] at h
  exact h
section
variable {C : Clb} {R R' : List (Rw × Int)} {L L' : List (Pap Nat)} {p : Nat} {e : Addr}
theorem rel_map (f : Nat → Nat) (h : ∀ j, f j = relab R R' j) : True := trivial
theorem relab_map (R R' : List (Rw × Int)) (L : List (Pap Nat)) : L.map (Pap.map (relab R R')) = (L.map (Pap.map (rowAt R))).map (Pap.map (numOf R')) := by
  rw [List.map_map]
  refine List.map_congr_left fun z _ => ?_
  cases z <;> rfl
theorem rowAt_mem {j : Nat} (h : j < R.length) : ∃ q ∈ R, q.1 = rowAt R j := by
  refine ⟨R[j], List.getElem_mem h, ?_⟩
  unfold rowAt
  rw [List.getD_eq_getElem?_getD, List.getElem?_eq_getElem h]
  rfl
theorem numOf_iff (u : Un R') {x y : Rw} (hx : ∃ q ∈ R', q.1 = x) (hy : ∃ q ∈ R', q.1 = y) : numOf R' x = numOf R' y ↔ x = y := by
  refine ⟨fun h => ?_, fun h => by rw [h]⟩
  obtain ⟨k, hk⟩ := numOf_get (numOf_lt hx)
  obtain ⟨k', hk'⟩ := numOf_get (numOf_lt hy)
  rw [h, hk'] at hk
  injection hk with hk
  injection hk with hk _
  exact hk.symm
theorem word_Q (sh : Sheet C R L) (pR : R'.Perm R) (pL : L'.Perm L) {n : Nat} (hn : n < R'.length) (k : Int) :
    wordAt (toldBk C R' (L'.map (Pap.map (relab R R'))) p e) n k = wordQ C (L.map (Pap.map (rowAt R))) (toldAt (toldBk C R' (L'.map (Pap.map (relab R R'))) p e) n) k := by
  have u : Un R' := Un.perm (R := R) sh.un pR.symm
  have hq := told_lt (B := toldBk C R' (L'.map (Pap.map (relab R R'))) p e) hn
  generalize hqq : toldAt (toldBk C R' (L'.map (Pap.map (relab R R'))) p e) n = q at hq
  have hq : R'[n]? = some q := hq
  have hm := List.mem_of_getElem? hq
  have ne := numOf_self u.nd hq
  unfold wordAt wordQ
  rw [hqq]
  show wordP n q.1 q.2 k _ (L'.map (Pap.map (relab R R'))) = _
  conv => lhs; rw [← ne, relab_map]
  rw [wordP_map (numOf R') q.1 q.1 q.2 k _ _ fun m j hm' => ?_]
  · have : papersBy (L'.map (Pap.map (rowAt R))) k = papersBy (L.map (Pap.map (rowAt R))) k := by
      rw [papersBy_mapf, papersBy_mapf, papersBy_perm pL (List.Pairwise.perm sh.pun pL.symm Ne.symm)]
    unfold wordP
    rw [this]
    rfl
  · refine numOf_iff u ?_ ⟨q, hm, rfl⟩
    have key : ∀ j', j' < R.length → ∃ q ∈ R', q.1 = rowAt R j' := fun j' hj => by
      obtain ⟨q, h1, h2⟩ := rowAt_mem hj
      exact ⟨q, pR.mem_iff.mpr h1, h2⟩
    rcases hm' with hm' | hm'
    · obtain ⟨z, hz, ez⟩ := List.mem_map.mp hm'
      have fz := (sh.pap z (pL.mem_iff.mp hz)).fit
      cases z <;> cases ez
      exact key _ fz
    · obtain ⟨z, hz, ez⟩ := List.mem_map.mp hm'
      have fz := (sh.pap z (pL.mem_iff.mp hz)).fit
      cases z <;> cases ez
      exact key _ fz
theorem range_told (B : Bk) : (List.range B.told.length).map (toldAt B) = B.told := by
  refine List.ext_getElem? fun i => ?_
  rw [List.getElem?_map]
  by_cases h : i < B.told.length
  · rw [List.getElem?_range h, told_lt h]
    rfl
  · rw [List.getElem?_eq_none (by rw [List.length_range]; omega), List.getElem?_eq_none (by omega)]
    rfl
theorem run_Q (sh : Sheet C R L) (pR : R'.Perm R) (pL : L'.Perm L) (ev : Str) (g : Option Str) (pl : Nat) (k : Int) :
    (runnersN (toldBk C R' (L'.map (Pap.map (relab R R'))) p e) ev g pl k).map (toldAt (toldBk C R' (L'.map (Pap.map (relab R R'))) p e)) = runQ C (L.map (Pap.map (rowAt R))) R ev g pl k := by
  have u : Un R' := Un.perm (R := R) sh.un pR.symm
  have hw := fun {n : Nat} (hn : n < R'.length) => word_Q (p := p) (e := e) sh pR pL hn k
  generalize hB : toldBk C R' (L'.map (Pap.map (relab R R'))) p e = B at hw ⊢
  have hT : B.told = R' := by rw [← hB]; rfl
  have hE : B.events = C.events := by rw [← hB]; rfl
  have hM : B.terms = C.terms := by rw [← hB]; rfl
  have hP : B.people = C.people := by rw [← hB]; rfl
  unfold runnersN runQ
  rw [sort_maps (s := dataLe false tmKey) (toldAt B) fun a ha b hb => ?_]
  · have e1 : ∀ n, countsB B (toldAt B n).1 ev g pl = countsB ⟨C.events, C.terms, C.people, [], [], 0, 0⟩ (toldAt B n).1 ev g pl := fun n => by
      unfold countsB
      rw [hP, hM]
    have e2 : ((((List.range B.told.length).filter fun n => countsB B (toldAt B n).1 ev g pl).filter fun n => decide (wordAt B n k = "good")).map (toldAt B)) = ((R'.filter fun q => countsB ⟨C.events, C.terms, C.people, [], [], 0, 0⟩ q.1 ev g pl).filter fun q => decide (wordQ C (L.map (Pap.map (rowAt R))) q k = "good")) := by
      rw [List.filter_congr (l := (List.range B.told.length).filter fun n => countsB B (toldAt B n).1 ev g pl) (q := (fun q => decide (wordQ C (L.map (Pap.map (rowAt R))) q k = "good")) ∘ toldAt B) fun n hn => ?_, ← List.filter_map]
      · congr 1
        rw [List.filter_congr (q := (fun q => countsB ⟨C.events, C.terms, C.people, [], [], 0, 0⟩ q.1 ev g pl) ∘ toldAt B) fun n _ => e1 n, ← List.filter_map, range_told, hT]
      · have hn := List.mem_range.mp (List.mem_filter.mp hn).1
        rw [hT] at hn
        show decide (wordAt B n k = "good") = decide (wordQ C _ (toldAt B n) k = "good")
        rw [hw hn]
    rw [e2]
    refine sort_perm ((pR.filter _).filter _) fun a ha b hb h => ?_
    have ha := (List.mem_filter.mp (List.mem_filter.mp ha).1).1
    have hb := (List.mem_filter.mp (List.mem_filter.mp hb).1).1
    obtain ⟨h1, h2⟩ := tm_toks h
    exact u.eq ha hb h1 h2
  · have ha := List.mem_range.mp (List.mem_filter.mp (List.mem_filter.mp ha).1).1
    have hb := List.mem_range.mp (List.mem_filter.mp (List.mem_filter.mp hb).1).1
    show (!dataLt (runKey B b) (runKey B a)) = (!dataLt (tmKey (toldAt B b)) (tmKey (toldAt B a)))
    unfold runKey tmKey
    by_cases ab : a = b
    · subst ab
      have x : dataLt (.tuple [.int (toldAt B a).1.day, .int (toldAt B a).1.hour, .int (a : Int)]) (.tuple [.int (toldAt B a).1.day, .int (toldAt B a).1.hour, .int (a : Int)]) = false := lex_irrefl _
      have y : dataLt (.tuple [.int (toldAt B a).1.day, .int (toldAt B a).1.hour]) (.tuple [.int (toldAt B a).1.day, .int (toldAt B a).1.hour]) = false := lex_irrefl _
      rw [x, y]
    · congr 1
      refine dataLt_tm _ _ _ _ _ _ ?_
      have ga := told_lt ha
      have gb := told_lt hb
      rw [hT] at ga gb
      by_cases d : (toldAt B b).1.day = (toldAt B a).1.day
      · refine .inr fun h => ab ?_
        have := u.eq (List.mem_of_getElem? gb) (List.mem_of_getElem? ga) d h
        rw [← numOf_self u.nd ga, ← numOf_self u.nd gb, this]
      · exact .inl d
theorem walk_Q (sh : Sheet C R L) (pR : R'.Perm R) (pL : L'.Perm L) (ev : Str) (g : Option Str) (pl : Nat) (k : Int) :
    (walkP (toldBk C R' (L'.map (Pap.map (relab R R'))) p e) ev g pl k).map (fun n => (toldAt (toldBk C R' (L'.map (Pap.map (relab R R'))) p e) n).1) = walkQ C (L.map (Pap.map (rowAt R))) R ev g pl k := by
  unfold walkP walkQ
  rw [← wfold_map, ← run_Q (p := p) (e := e) sh pR pL, List.map_map, List.map_map]
  rfl
theorem pair_Q (sh : Sheet C R L) (pR : R'.Perm R) (pL : L'.Perm L) (q : Bst) (d : Int) :
    pairD (toldBk C R' (L'.map (Pap.map (relab R R'))) p e) q d = pairQ C (L.map (Pap.map (rowAt R))) R q d := by
  unfold pairD pairQ
  rw [← walk_Q (p := p) (e := e) sh pR pL, ← walk_Q (p := p) (e := e) sh pR pL]
  unfold Wk.map
  dsimp only
  rw [held_map, hold_map, List.map_map]
  rfl
theorem rows_inj (u : Un R) : ∀ a ∈ R.map (·.1), ∀ b ∈ R.map (·.1), keyToks (rowD a) = keyToks (rowD b) → a = b := fun a ha b hb h => by
  obtain ⟨x, hx, rfl⟩ := List.mem_map.mp ha
  obtain ⟨y, hy, rfl⟩ := List.mem_map.mp hb
  have h : keyToksAll (rowDs x.1) = keyToksAll (rowDs y.1) := h
  simp [rowDs, keyToks, keyToksAll] at h
  rw [u.eq hx hy h.2.2.2.1 h.2.2.2.2.1]
theorem state_Q (sh : Sheet C R L) (pR : R'.Perm R) (pL : L'.Perm L) (ds : List Int) :
    stateD (toldBk C R' (L'.map (Pap.map (relab R R'))) p e) ds = ((R.map (·.1)).mergeSort (dataLe false rowD)).map fun r => .list (ds.map fun d => .str (wordQ C (L.map (Pap.map (rowAt R))) (R.getD (numOf R r) (rw0, 0)) d)) := by
  have u : Un R' := Un.perm (R := R) sh.un pR.symm
  have u0 : Un R := sh.un
  unfold stateD
  have : sortedR (toldBk C R' (L'.map (Pap.map (relab R R'))) p e) = (R.map (·.1)).mergeSort (dataLe false rowD) := sort_perm (pR.map _) (rows_inj u)
  rw [this]
  refine List.map_congr_left fun r hr => ?_
  congr 1
  refine List.map_congr_left fun d _ => ?_
  obtain ⟨q, hq, rfl⟩ := List.mem_map.mp (List.mem_mergeSort.mp hr)
  have hq' := pR.mem_iff.mpr hq
  have l1 : numOf R' q.1 < R'.length := numOf_lt ⟨q, hq', rfl⟩
  have l0 : numOf R q.1 < R.length := numOf_lt ⟨q, hq, rfl⟩
  show PyData.str (wordAt _ (numOf R' q.1) d) = _
  rw [word_Q (p := p) (e := e) sh pR pL l1]
  obtain ⟨k1, h1⟩ := numOf_get l1
  obtain ⟨k0, h0⟩ := numOf_get l0
  have e1 : toldAt (toldBk C R' (L'.map (Pap.map (relab R R'))) p e) (numOf R' q.1) = (q.1, k1) := by
    show R'.getD _ _ = _
    rw [List.getD_eq_getElem?_getD, h1]
    rfl
  have e0 : R.getD (numOf R q.1) (rw0, 0) = (q.1, k0) := by
    rw [List.getD_eq_getElem?_getD, h0]
    rfl
  rw [e1, e0, u0.eq (pR.mem_iff.mp (List.mem_of_getElem? h1)) (List.mem_of_getElem? h0) rfl rfl]
theorem all_Q (sh : Sheet C R L) (pR : R'.Perm R) (pL : L'.Perm L) (bs : List Bst) (ds : List Int) :
    allD (toldBk C R' (L'.map (Pap.map (relab R R'))) p e) bs ds = .list ((bs.flatMap fun q => ds.flatMap fun d => pairQ C (L.map (Pap.map (rowAt R))) R q d) ++ (((R.map (·.1)).mergeSort (dataLe false rowD)).map fun r => .list (ds.map fun d => .str (wordQ C (L.map (Pap.map (rowAt R))) (R.getD (numOf R r) (rw0, 0)) d)))) := by
  unfold allD
  rw [state_Q sh pR pL]
  unfold foundD
  simp only [pair_Q sh pR pL]
end
theorem plain : PlainLaw := fun C R R1 R2 L L1 L2 p1 p2 e1 e2 bs ds ok sh pR1 pR2 pL1 pL2 => by
  rw [all_Q sh pR1 pL1, all_Q sh pR2 pL2]
end Bb
/-! ## part Hk -/
set_option maxHeartbeats 0
/-! the head: what is looked at once the top has run -/
namespace Bb
open PySem PySem.Spec PyProof.Rows L2 HandSHeadRun PySem.W
def nxt (g : Addr → Option Obj) (as : List Addr) : List Addr := as.flatMap fun a => match g a with
  | some o => He.refsD o
  | none => []
def asF (g : Addr → Option Obj) : Nat → List Addr → List Addr
  | 0, l => l
  | n + 1, l => l ++ asF g n (nxt g l)
def fragM (g : Addr → Option Obj) : PySem.W.Frag := He.frT g (asF g 5 [mainGlobals])
/-- an instance's class, as isinstance asks for it -/
def insB (K : PySem.W.Frag) (x : Str) : Bool :=
  He.eqO (findIn K (.ref (He.ga K x)) "__class__") (some (some (.builtin "object.__class__"))) && (He.eqO (specialIn K (.builtin "object.__class__") "__get__") (some (some (.builtin "getset_descriptor.__get__"))) &&
    (decide (takesIn K (.builtin "object.__class__") = some true) && (decide (mroIn K (He.ga K x) (.type "object") = some true) && decide (kitOne K (.ref (He.ga K x)) (.ref (He.ga K x)) = some true))))
theorem insB_ok {K : PySem.W.Frag} {x : Str} (c : Cls K (He.ga K x)) (h : insB K x = true) : C8.InsC K (He.ga K x) := by
  obtain ⟨h1, h⟩ := He.ba h
  obtain ⟨h2, h⟩ := He.ba h
  obtain ⟨h3, h⟩ := He.ba h
  obtain ⟨h4, h5⟩ := He.ba h
  exact ⟨c, He.eqO_ok h1, He.eqO_ok h2, of_decide_eq_true h3, of_decide_eq_true h4, of_decide_eq_true h5⟩
def exM (K : PySem.W.Frag) : Bool := ex K && ((He.Fa.glo "WAYS").ok K && (!decide ((He.cT K ("Book", some "papers_by")).2 = (He.cT K ("Book", some "runners")).2) && (insB K "Deed" && (insB K "Person" && insB K "Rules"))))
def obsM (g : Addr → Option Obj) : He.AlX := (He.obsT fa fn [] (fragM g), exM (fragM g) && He.tabsB g tf (fragM g))
def SaysM (w : World) (h : Heap) : Prop := ∃ K : PySem.W.Frag, K.In h ∧ He.SaysX fa fn [] tf exM w h K
theorem saysM_of {w : World} {h : Heap} (e : obsM h.get? = He.valX fn [] w) : SaysM w h := by
  obtain ⟨e1, e2⟩ := Prod.mk.inj e
  obtain ⟨x1, x2⟩ := He.ba e2
  refine ⟨fragM h.get?, He.frT_in, e1, x1, fun p hp => ?_, fun p hp => ?_, fun p hp => ?_⟩
  all_goals
    obtain ⟨y1, y2⟩ := He.ba (List.all_eq_true.mp x2 p hp)
  · exact y1
  · cases q : h.get? (He.cT (fragM h.get?) p).2 with
    | none => simp only [q] at y2; cases y2
    | some o => simp only [q] at y2; exact He.frT_none q y2
  · cases q : h.get? (He.cT (fragM h.get?) p).2 with
    | none => simp only [q] at y2; cases y2
    | some o => simp only [q] at y2; rw [He.emptyTab_eq y2]
def hkM : PySem.W.Hook where
  α := He.AlX
  obs := fun s => obsM s.heap.get?
  val := fun w => He.valX fn [] w
  says := SaysM
  of := fun _ _ e => saysM_of e
  keeps := fun _ _ _ z k => by
    obtain ⟨K, i, c⟩ := z
    exact ⟨K, Frag.In.keeps i k, c.t, c.more, c.hd, c.out, fun p hp => k _ _ (c.empty p hp)⟩
def obM (s : SharedT) : He.AlX := obsM (HandSHeadRun.getT s)
theorem obM_eq (s : SharedT) : obM s = hkM.obs s.abs := by
  have e : HandSHeadRun.getT s = s.abs.heap.get? := funext (HandSHeadRun.getT_eq s)
  show obsM (HandSHeadRun.getT s) = obsM s.abs.heap.get?
  rw [e]
end Bb
/-! ## part Hr -/
/-! the head: the top's run -/
namespace Bb
open PySem PySem.Spec PyProof.Rows L2 HandSHeadRun PySem.W
abbrev qv : Program := view R.prog [70]
theorem runA (w : World) (os : OsState) : (endF (stepQ (denQ tabQ) R.prog w) 20000 R.prog w os).map (fun s => looksF R.prog (boot_heap w.params) s.abs) = some true := by
  kernel_rfl
theorem runB (w : World) (os : OsState) : (endF (stepQ (denQ tabQ) R.prog w) 20000 R.prog w os).map (fun s => seenQ qv loose (importedModules R.prog.main.body) (fun s => xlAt qv [] s && recOk R.toRowW.records s) s.abs) = some (openGood qv loose) := by
  kernel_rfl
theorem runC (w : World) (os : OsState) : (endF (stepQ (denQ tabQ) R.prog w) 20000 R.prog w os).map obM = some (He.valX fn [] w) := by
  kernel_rfl
theorem run (w : World) : RunEq R qv hkM obM 20000 loose w := fun os => by
  have a := runA w os
  have b := runB w os
  have c := runC w os
  generalize endF (stepQ (denQ tabQ) R.prog w) 20000 R.prog w os = z at a b c ⊢
  cases z with
  | none => cases a
  | some s =>
    have a := Option.some.inj a
    have b := Option.some.inj b
    have c := Option.some.inj c
    exact congrArg some (Prod.ext a (Prod.ext b c))
end Bb
/-! ## part Hs -/
set_option maxHeartbeats 4000000
/-! the end: what the head tells, the law at it -/
namespace Bb
open PySem PySem.Spec PyProof.Rows L2 LamX BbS NdefX PySem.W
abbrev topLaw : DefRec := HandSHeadRun.topDef R.prog 70
section
variable {K : PySem.W.Frag} {mg : Str → Option Value}
theorem say_of {w : World} {h : Heap} (X : K.In h) (G : h.Ns mainGlobals mg) (z : He.SaysX fa fn [] tf exM w h K) : Say K mg ∧ cP K "papers_by" ≠ cP K "runners" := by
  have c := z.t.d
  obtain ⟨wt, h1⟩ := He.ba z.more
  obtain ⟨wg, h2⟩ := He.ba h1
  obtain ⟨ne, h3⟩ := He.ba h2
  obtain ⟨iDeed, h4⟩ := He.ba h3
  obtain ⟨iPerson, iRules⟩ := He.ba h4
  refine ⟨?S, ?N⟩
  case N =>
    rw [Bool.not_eq_true'] at ne
    exact of_decide_eq_false ne
  case S => exact {
    g__law_all := He.glo_ok X G (c.fact 4 (f := .glo "_law_all") rfl)
    g__law_bests := He.glo_ok X G (c.fact 5 (f := .glo "_law_bests") rfl)
    g__law_cell := He.glo_ok X G (c.fact 6 (f := .glo "_law_cell") rfl)
    g__law_club := He.glo_ok X G (c.fact 7 (f := .glo "_law_club") rfl)
    g__law_deed := He.glo_ok X G (c.fact 8 (f := .glo "_law_deed") rfl)
    g__law_draw := He.glo_ok X G (c.fact 9 (f := .glo "_law_draw") rfl)
    g__law_made := He.glo_ok X G (c.fact 10 (f := .glo "_law_made") rfl)
    g__law_mixed := He.glo_ok X G (c.fact 11 (f := .glo "_law_mixed") rfl)
    g__law_names := He.glo_ok X G (c.fact 12 (f := .glo "_law_names") rfl)
    g__law_paper := He.glo_ok X G (c.fact 13 (f := .glo "_law_paper") rfl)
    g__law_pen := He.glo_ok X G (c.fact 14 (f := .glo "_law_pen") rfl)
    g__law_row := He.glo_ok X G (c.fact 15 (f := .glo "_law_row") rfl)
    g__law_rules := He.glo_ok X G (c.fact 16 (f := .glo "_law_rules") rfl)
    g__law_some_best := He.glo_ok X G (c.fact 17 (f := .glo "_law_some_best") rfl)
    g__law_tell := He.glo_ok X G (c.fact 18 (f := .glo "_law_tell") rfl)
    g__law_told_so := He.glo_ok X G (c.fact 19 (f := .glo "_law_told_so") rfl)
    g_are_events := He.glo_ok X G (c.fact 20 (f := .glo "are_events") rfl)
    g_are_limits := He.glo_ok X G (c.fact 21 (f := .glo "are_limits") rfl)
    g_beats := He.glo_ok X G (c.fact 22 (f := .glo "beats") rfl)
    g_is_day := He.glo_ok X G (c.fact 23 (f := .glo "is_day") rfl)
    g_is_event := He.glo_ok X G (c.fact 24 (f := .glo "is_event") rfl)
    g_is_from := He.glo_ok X G (c.fact 25 (f := .glo "is_from") rfl)
    g_is_mark := He.glo_ok X G (c.fact 26 (f := .glo "is_mark") rfl)
    g_is_name := He.glo_ok X G (c.fact 27 (f := .glo "is_name") rfl)
    g_is_team := He.glo_ok X G (c.fact 28 (f := .glo "is_team") rfl)
    g_is_way := He.glo_ok X G (c.fact 29 (f := .glo "is_way") rfl)
    g_is_whole := He.glo_ok X G (c.fact 30 (f := .glo "is_whole") rfl)
    g_is_wind := He.glo_ok X G (c.fact 31 (f := .glo "is_wind") rfl)
    g_known_day := He.glo_ok X G (c.fact 32 (f := .glo "known_day") rfl)
    g_law := He.glo_ok X G (c.fact 33 (f := .glo "law") rfl)
    g_rises := He.glo_ok X G (c.fact 34 (f := .glo "rises") rfl)
    g_Rules := He.glo_ok X G (c.fact 3 (f := .glo "Rules") rfl)
    g_Deed := He.glo_ok X G (c.fact 1 (f := .glo "Deed") rfl)
    g_Person := He.glo_ok X G (c.fact 2 (f := .glo "Person") rfl)
    g_Book := He.glo_ok X G (c.fact 0 (f := .glo "Book") rfl)
    z_len := He.free_ok X G (c.fact 35 (f := .free "len") rfl)
    z_isinstance := He.free_ok X G (c.fact 36 (f := .free "isinstance") rfl)
    z_int := He.free_ok X G (c.fact 37 (f := .free "int") rfl)
    z_str := He.free_ok X G (c.fact 38 (f := .free "str") rfl)
    z_bool := He.free_ok X G (c.fact 39 (f := .free "bool") rfl)
    z_tuple := He.free_ok X G (c.fact 40 (f := .free "tuple") rfl)
    z_list := He.free_ok X G (c.fact 41 (f := .free "list") rfl)
    z_all := He.free_ok X G (c.fact 42 (f := .free "all") rfl)
    z_any := He.free_ok X G (c.fact 43 (f := .free "any") rfl)
    z_set := He.free_ok X G (c.fact 44 (f := .free "set") rfl)
    z_sorted := He.free_ok X G (c.fact 45 (f := .free "sorted") rfl)
    z_range := He.free_ok X G (c.fact 46 (f := .free "range") rfl)
    z_zip := He.free_ok X G (c.fact 47 (f := .free "zip") rfl)
    z_dict := He.free_ok X G (c.fact 48 (f := .free "dict") rfl)
    z_min := He.free_ok X G (c.fact 49 (f := .free "min") rfl)
    z_KeyError := He.free_ok X G (c.fact 50 (f := .free "KeyError") rfl)
    i_FIRST_DAY := He.int_ok X G (c.fact 51 (f := .int "FIRST_DAY" (-40000)) rfl)
    i_LAST_DAY := He.int_ok X G (c.fact 52 (f := .int "LAST_DAY" (40000)) rfl)
    i_LAST_MARK := He.int_ok X G (c.fact 53 (f := .int "LAST_MARK" (1000000)) rfl)
    i_MOST_SIGNS := He.int_ok X G (c.fact 54 (f := .int "MOST_SIGNS" (8)) rfl)
    i_MOST_LIMITS := He.int_ok X G (c.fact 55 (f := .int "MOST_LIMITS" (4)) rfl)
    i_MOST_LIMIT := He.int_ok X G (c.fact 56 (f := .int "MOST_LIMIT" (99)) rfl)
    i_MOST_WIND := He.int_ok X G (c.fact 57 (f := .int "MOST_WIND" (99)) rfl)
    i_LAST_HOUR := He.int_ok X G (c.fact 58 (f := .int "LAST_HOUR" (23)) rfl)
    i_YEAR := He.int_ok X G (c.fact 59 (f := .int "YEAR" (365)) rfl)
    i_MOST_EVENTS := He.int_ok X G (c.fact 60 (f := .int "MOST_EVENTS" (4)) rfl)
    i_MOST_DEEDS := He.int_ok X G (c.fact 61 (f := .int "MOST_DEEDS" (100)) rfl)
    c_Rules := He.cls_ok (c.fact 62 (f := .cls "Rules") rfl)
    k_Rules := He.mkr_ok (c.fact 63 (f := .mkr "Rules") rfl)
    n_Rules_limits := He.noat_ok (c.fact 64 (f := .noat "Rules" "limits") rfl)
    n_Rules_up := He.noat_ok (c.fact 65 (f := .noat "Rules" "up") rfl)
    n_Rules_wind := He.noat_ok (c.fact 66 (f := .noat "Rules" "wind") rfl)
    n_Rules_shares := He.noat_ok (c.fact 67 (f := .noat "Rules" "shares") rfl)
    c_Deed := He.cls_ok (c.fact 68 (f := .cls "Deed") rfl)
    k_Deed := He.mkr_ok (c.fact 69 (f := .mkr "Deed") rfl)
    n_Deed_name := He.noat_ok (c.fact 70 (f := .noat "Deed" "name") rfl)
    n_Deed_event := He.noat_ok (c.fact 71 (f := .noat "Deed" "event") rfl)
    n_Deed_mark := He.noat_ok (c.fact 72 (f := .noat "Deed" "mark") rfl)
    n_Deed_day := He.noat_ok (c.fact 73 (f := .noat "Deed" "day") rfl)
    n_Deed_hour := He.noat_ok (c.fact 74 (f := .noat "Deed" "hour") rfl)
    n_Deed_wind := He.noat_ok (c.fact 75 (f := .noat "Deed" "wind") rfl)
    n_Deed_course := He.noat_ok (c.fact 76 (f := .noat "Deed" "course") rfl)
    c_Person := He.cls_ok (c.fact 77 (f := .cls "Person") rfl)
    k_Person := He.mkr_ok (c.fact 78 (f := .mkr "Person") rfl)
    n_Person_name := He.noat_ok (c.fact 79 (f := .noat "Person" "name") rfl)
    n_Person_born := He.noat_ok (c.fact 80 (f := .noat "Person" "born") rfl)
    n_Person_group := He.noat_ok (c.fact 81 (f := .noat "Person" "group") rfl)
    n_Person_team := He.noat_ok (c.fact 82 (f := .noat "Person" "team") rfl)
    c_Book := He.cls_ok (c.fact 83 (f := .cls "Book") rfl)
    k_Book := He.mkr_ok (c.fact 84 (f := .mkr "Book") rfl)
    n_Book_events := He.noat_ok (c.fact 85 (f := .noat "Book" "events") rfl)
    n_Book_rules := He.noat_ok (c.fact 86 (f := .noat "Book" "rules") rfl)
    n_Book_people := He.noat_ok (c.fact 87 (f := .noat "Book" "people") rfl)
    n_Book_told := He.noat_ok (c.fact 88 (f := .noat "Book" "told") rfl)
    n_Book_papers := He.noat_ok (c.fact 89 (f := .noat "Book" "papers") rfl)
    n_Book_past := He.noat_ok (c.fact 90 (f := .noat "Book" "past") rfl)
    m_Rules_len := He.meth_ok (c.fact 91 (f := .meth "Rules" "__len__") rfl)
    m_Rules_classes_in := He.meth_ok (c.fact 92 (f := .meth "Rules" "classes_in") rfl)
    m_Deed_eq := He.meth_ok (c.fact 93 (f := .meth "Deed" "__eq__") rfl)
    m_Deed_row := He.meth_ok (c.fact 94 (f := .meth "Deed" "row") rfl)
    m_Deed_time := He.meth_ok (c.fact 95 (f := .meth "Deed" "time") rfl)
    m_Person_age_at := He.meth_ok (c.fact 96 (f := .meth "Person" "age_at") rfl)
    m_Book_len := He.meth_ok (c.fact 97 (f := .meth "Book" "__len__") rfl)
    m_Book_keep := He.meth_ok (c.fact 98 (f := .meth "Book" "keep") rfl)
    m_Book_enrol := He.meth_ok (c.fact 99 (f := .meth "Book" "enrol") rfl)
    m_Book_event_of := He.meth_ok (c.fact 100 (f := .meth "Book" "event_of") rfl)
    m_Book_person_of := He.meth_ok (c.fact 101 (f := .meth "Book" "person_of") rfl)
    m_Book_need_told := He.meth_ok (c.fact 102 (f := .meth "Book" "need_told") rfl)
    m_Book_tell := He.meth_ok (c.fact 103 (f := .meth "Book" "tell") rfl)
    m_Book_need_number := He.meth_ok (c.fact 104 (f := .meth "Book" "need_number") rfl)
    m_Book_paper := He.meth_ok (c.fact 105 (f := .meth "Book" "paper") rfl)
    m_Book_strike := He.meth_ok (c.fact 106 (f := .meth "Book" "strike") rfl)
    m_Book_restore := He.meth_ok (c.fact 107 (f := .meth "Book" "restore") rfl)
    m_Book_measure := He.meth_ok (c.fact 108 (f := .meth "Book" "measure") rfl)
    m_Book_uphold := He.meth_ok (c.fact 109 (f := .meth "Book" "uphold") rfl)
    m_Book_papers_by := He.meth_ok (c.fact 110 (f := .meth "Book" "papers_by") rfl)
    m_Book_word_of := He.meth_ok (c.fact 111 (f := .meth "Book" "word_of") rfl)
    m_Book_state := He.meth_ok (c.fact 112 (f := .meth "Book" "state") rfl)
    m_Book_need_best := He.meth_ok (c.fact 113 (f := .meth "Book" "need_best") rfl)
    m_Book_counts := He.meth_ok (c.fact 114 (f := .meth "Book" "counts") rfl)
    m_Book_runners := He.meth_ok (c.fact 115 (f := .meth "Book" "runners") rfl)
    m_Book_walk := He.meth_ok (c.fact 116 (f := .meth "Book" "walk") rfl)
    m_Book_joins := He.meth_ok (c.fact 117 (f := .meth "Book" "joins") rfl)
    m_Book_stints := He.meth_ok (c.fact 118 (f := .meth "Book" "stints") rfl)
    m_Book_held_on := He.meth_ok (c.fact 119 (f := .meth "Book" "held_on") rfl)
    m_Book_holders := He.meth_ok (c.fact 120 (f := .meth "Book" "holders") rfl)
    f_is_whole := c.def_ 0 (d := dis_whole) rfl
    f_is_from := c.def_ 1 (d := dis_from) rfl
    f_rises := c.def_ 2 (d := drises) rfl
    f_is_name := c.def_ 3 (d := dis_name) rfl
    f_is_day := c.def_ 4 (d := dis_day) rfl
    f_is_way := c.def_ 5 (d := dis_way) rfl
    f_is_mark := c.def_ 6 (d := dis_mark) rfl
    f_is_event := c.def_ 7 (d := dis_event) rfl
    f_beats := c.def_ 8 (d := dbeats) rfl
    f_are_limits := c.def_ 9 (d := dare_limits) rfl
    f_is_wind := c.def_ 10 (d := dis_wind) rfl
    f_Rules_init := c.def_ 11 (d := dRules_init) rfl
    f_Rules_len := c.def_ 12 (d := dRules_len) rfl
    f_Rules_classes_in := c.def_ 13 (d := dRules_classes_in) rfl
    f_Deed_init := c.def_ 14 (d := dDeed_init) rfl
    f_Deed_eq := c.def_ 15 (d := dDeed_eq) rfl
    f_Deed_row := c.def_ 16 (d := dDeed_row) rfl
    f_Deed_time := c.def_ 17 (d := dDeed_time) rfl
    f_is_team := c.def_ 18 (d := dis_team) rfl
    f_Person_init := c.def_ 19 (d := dPerson_init) rfl
    f_Person_age_at := c.def_ 20 (d := dPerson_age_at) rfl
    f_are_events := c.def_ 21 (d := dare_events) rfl
    f_known_day := c.def_ 22 (d := dknown_day) rfl
    f_Book_init := c.def_ 23 (d := dBook_init) rfl
    f_Book_len := c.def_ 24 (d := dBook_len) rfl
    f_Book_keep := c.def_ 25 (d := dBook_keep) rfl
    f_Book_enrol := c.def_ 26 (d := dBook_enrol) rfl
    f_Book_event_of := c.def_ 27 (d := dBook_event_of) rfl
    f_Book_person_of := c.def_ 28 (d := dBook_person_of) rfl
    f_Book_need_told := c.def_ 29 (d := dBook_need_told) rfl
    f_Book_tell := c.def_ 30 (d := dBook_tell) rfl
    f_Book_need_number := c.def_ 31 (d := dBook_need_number) rfl
    f_Book_paper := c.def_ 32 (d := dBook_paper) rfl
    f_Book_strike := c.def_ 33 (d := dBook_strike) rfl
    f_Book_restore := c.def_ 34 (d := dBook_restore) rfl
    f_Book_measure := c.def_ 35 (d := dBook_measure) rfl
    f_Book_uphold := c.def_ 36 (d := dBook_uphold) rfl
    f_Book_papers_by := c.def_ 37 (d := dBook_papers_by) rfl
    f_Book_word_of := c.def_ 38 (d := dBook_word_of) rfl
    f_Book_state := c.def_ 39 (d := dBook_state) rfl
    f_Book_need_best := c.def_ 40 (d := dBook_need_best) rfl
    f_Book_counts := c.def_ 41 (d := dBook_counts) rfl
    f_Book_runners := c.def_ 42 (d := dBook_runners) rfl
    f_Book_walk := c.def_ 43 (d := dBook_walk) rfl
    f_Book_joins := c.def_ 44 (d := dBook_joins) rfl
    f_Book_stints := c.def_ 45 (d := dBook_stints) rfl
    f_Book_held_on := c.def_ 46 (d := dBook_held_on) rfl
    f_Book_holders := c.def_ 47 (d := dBook_holders) rfl
    f_L_cell := c.def_ 48 (d := dL_cell) rfl
    f_L_pen := c.def_ 49 (d := dL_pen) rfl
    f_L_draw := c.def_ 50 (d := dL_draw) rfl
    f_L_rules := c.def_ 51 (d := dL_rules) rfl
    f_L_names := c.def_ 52 (d := dL_names) rfl
    f_L_club := c.def_ 53 (d := dL_club) rfl
    f_L_made := c.def_ 54 (d := dL_made) rfl
    f_L_row := c.def_ 55 (d := dL_row) rfl
    f_L_deed := c.def_ 56 (d := dL_deed) rfl
    f_L_paper := c.def_ 57 (d := dL_paper) rfl
    f_L_tell := c.def_ 58 (d := dL_tell) rfl
    f_L_bests := c.def_ 59 (d := dL_bests) rfl
    f_L_some_best := c.def_ 60 (d := dL_some_best) rfl
    f_L_mixed := c.def_ 61 (d := dL_mixed) rfl
    f_L_told_so := c.def_ 62 (d := dL_told_so) rfl
    f_L_all := c.def_ 63 (d := dL_all) rfl
    f__law := c.def_ 64 (d := d_law) rfl
    q_Deed := insB_ok (He.cls_ok (x := "Deed") (c.fact 68 (f := .cls "Deed") rfl)) iDeed
    q_Person := insB_ok (He.cls_ok (x := "Person") (c.fact 77 (f := .cls "Person") rfl)) iPerson
    q_Rules := insB_ok (He.cls_ok (x := "Rules") (c.fact 62 (f := .cls "Rules") rfl)) iRules
    g_WAYS := He.glo_ok X G wg
    ways := fun H => He.tupB_ok wt H
  }
theorem sameF {d : He.DefD} {f f2 : FuncData} (F : Def K d f) (F2 : Def K d f2) : f = f2 := by
  obtain ⟨oc, od, dV, kV, doc, pm, an, cdv, ct, osl, e, lk, _⟩ := F.ex
  obtain ⟨oc2, od2, dV2, kV2, doc2, pm2, an2, cdv2, ct2, osl2, e2, lk2, _⟩ := F2.ex
  have q := Option.some.inj (lk.symm.trans lk2)
  injection q with _ _ q
  injection q
end
theorem law_at (w : World) (mg : Str → Option Value) (f : Addr) (h : Heap) (Y : hkM.says w h) (G : h.Ns mainGlobals mg) (hmg : mg topLaw.name = some (.ref f)) : ∃ K : PySem.W.Frag, K.In h ∧ LawAtS PySem.Challenge.rw_bestsbook_k47_whole_sheets_in_whatever_o w K L2.CX0 11 63 "_law_script" mg f h := by
  obtain ⟨K, X, z⟩ := Y
  obtain ⟨S, ne⟩ := say_of X G z
  refine ⟨K, X, ?_⟩
  have en : topLaw.name = ("law" : Str) := by kernel_rfl
  rw [en] at hmg
  have ef := hmg.symm.trans S.g_law
  have ef2 : f = He.fAd K d_law.at_ := by
    injection ef with ef
    injection ef
  subst ef2
  obtain ⟨fd, F⟩ := S.f__law
  have b := FunD.bindsA (ps := ["_law_script"]) F fun _ _ _ _ _ _ us hl => match us, hl with | [_], _ => rfl
  have m1 : (("Book", some "papers_by") : He.Defn) ∈ tf := List.mem_cons_self
  have m2 : (("Book", some "runners") : He.Defn) ∈ tf := List.mem_cons_of_mem _ List.mem_cons_self
  have a1 : He.cT K ("Book", some "papers_by") ∈ [He.cT K ("Book", some "papers_by"), He.cT K ("Book", some "runners")] := List.mem_cons_self
  have a2 : He.cT K ("Book", some "runners") ∈ [He.cT K ("Book", some "papers_by"), He.cT K ("Book", some "runners")] := List.mem_cons_of_mem _ List.mem_cons_self
  have all : ∀ (p : Addr × Addr), p ∈ [He.cT K ("Book", some "papers_by"), He.cT K ("Book", some "runners")] → ∃ q ∈ tf, p = He.cT K q := by
    intro p hp
    rcases List.mem_cons.mp hp with e | hp
    · exact ⟨_, m1, e⟩
    · rcases List.mem_cons.mp hp with e | hp
      · exact ⟨_, m2, e⟩
      · exact absurd hp List.not_mem_nil
  refine ⟨fd, [He.cT K ("Book", some "papers_by"), He.cT K ("Book", some "runners")], spLaw K, fun p hp => ?_, fun p hp => ?_, fun p hp => ?_, fun s u => b s [u] rfl, fun H a ns _ _ hT hS => ?_, fun base _ _ tb => ?_⟩
  · obtain ⟨q, hq, rfl⟩ := all p hp
    exact z.empty q hq
  · obtain ⟨q, hq, rfl⟩ := all p hp
    exact z.out q hq
  · obtain ⟨q, hq, rfl⟩ := all p hp
    exact PySem.W.codeHd_of_K X (z.hd q hq)
  · refine ⟨a, ns, rfl, hS, fun p hp => ?_, fun _ => rfl⟩
    rcases List.mem_cons.mp hp with e | hp
    · subst e
      exact TabS.nil (hT _ a1)
    · rcases List.mem_cons.mp hp with e | hp
      · subst e
        exact TabS.nil (hT _ a2)
      · exact absurd hp List.not_mem_nil
  · obtain ⟨fd2, F2, O⟩ := fn_law (P := PySem.Challenge.rw_bestsbook_k47_whole_sheets_in_whatever_o.prog) (w := w) (base := base) plain S (tb _ a1) (tb _ a2) ne
    have e := sameF F F2
    subst e
    exact O
end Bb
/-! ## part Fin -/
set_option maxHeartbeats 0
open PySem PySem.W PySem.Calls PyProof.Rows
theorem PySem.Challenge.cw_bestsbook_k47_whole_sheets_in_whatever_o_holds : PySem.Challenge.rw_bestsbook_k47_whole_sheets_in_whatever_o.Holds := by
  w_on; o_law
  refine HandSHeadRun.head_any (r := OpenLaw.row PySem.Challenge.rw_bestsbook_k47_whole_sheets_in_whatever_o) (q := Bb.qv) (H := Bb.hkM) (ob := Bb.obM) (M := 20000) (loose := Bb.loose) (d := HandSHeadRun.topDef (OpenLaw.row PySem.Challenge.rw_bestsbook_k47_whole_sheets_in_whatever_o).prog 70) (kwd := []) Bb.obM_eq
    (by kernel_rfl) (fun s => by kernel_rfl) Bb.run (by kernel_rfl) (by kernel_rfl) (by kernel_rfl) (by rfl) (by first | assumption | decide +kernel) (by decide +kernel) ⟨rfl, rfl, rfl, rfl, rfl, by decide +kernel⟩ ?hw ?hc
  case hw => w_witness2
  case hc =>
    refine LamX.walk_ofTsE (l := PySem.Challenge.rw_bestsbook_k47_whole_sheets_in_whatever_o) (n := 63) (k := 11) (x := "_law_script") (CX := fun _ => L2.CX0) rfl (by decide) (by kernel_rfl) ⟨rfl, by decide, by decide⟩ ?F (fun _ _ _ _ _ z => z)
    intro w mg f h Y G hmg
    exact Bb.law_at w mg f h Y G hmg
