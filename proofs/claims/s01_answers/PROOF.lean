import PyProof.Rows.All
import Wide.All
import OpenK.AllK
import Wide.FinOn
import KE.KStateDown
import KE.OsHead
import KE.OsGo
import HandS.ForSpec
import HandS.ForMost
import HandS.HeadHook4
import HandS.Head4
import HandS.ExcField
import HandS.ExcInit
import HandS.ExcInitHot
import HandS.HotCalls
import HandS.CallRecv
import HandS.Style
import HandS.SortInts
import HandS.Deep
import HandS.TupAny
import HandS.Replace
import HandS.Walk
import HandS.Evl
import HandS.LawCells
import PySem.Challenge.RW_clickchains_s01_answers
set_option Elab.async false
set_option linter.all false
set_option maxRecDepth 100000
set_option maxHeartbeats 4000000
namespace Ck
open PySem PySem.Spec PyProof.Rows L2
abbrev PW : Program := PySem.Challenge.pw_clickchains_s01_answers
def top (i : Nat) : Stmt := PW.main.body.getD i (.Pass ⟨0, 0, 0, 0⟩)
abbrev s_Unreadable_init : Stmt := inClass (top 22) 0
abbrev N_Unreadable_init : List Str := ["self", "reason"]
theorem sc_Unreadable_init : FnScope N_Unreadable_init ["self", "reason"] (defScope s_Unreadable_init) := ⟨rfl, rfl, rfl, by decide +kernel, rfl, by decide +kernel, by decide +kernel⟩
def d_Unreadable_init : He.DefD := ⟨("Unreadable", some "__init__"), "__init__", "Unreadable.__init__", defArgs s_Unreadable_init, defBody s_Unreadable_init, defScope s_Unreadable_init, [], []⟩
abbrev s_need : Stmt := top 23
abbrev N_need : List Str := ["right", "reason"]
theorem sc_need : FnScope N_need ["right", "reason"] (defScope s_need) := ⟨rfl, rfl, rfl, by decide +kernel, rfl, by decide +kernel, by decide +kernel⟩
def d_need : He.DefD := ⟨("need", none), "need", "need", defArgs s_need, defBody s_need, defScope s_need, [], []⟩
abbrev s_codes : Stmt := top 24
abbrev N_codes : List Str := ["word", "sign"]
theorem sc_codes : FnScope N_codes ["word"] (defScope s_codes) := ⟨rfl, rfl, rfl, by decide +kernel, rfl, by decide +kernel, by decide +kernel⟩
def d_codes : He.DefD := ⟨("codes", none), "codes", "codes", defArgs s_codes, defBody s_codes, defScope s_codes, [], []⟩
abbrev s_known_word : Stmt := top 25
abbrev N_known_word : List Str := ["word", "words", "own"]
theorem sc_known_word : FnScope N_known_word ["word", "words"] (defScope s_known_word) := ⟨rfl, rfl, rfl, by decide +kernel, rfl, by decide +kernel, by decide +kernel⟩
def d_known_word : He.DefD := ⟨("known_word", none), "known_word", "known_word", defArgs s_known_word, defBody s_known_word, defScope s_known_word, [], []⟩
abbrev s_is_name : Stmt := top 26
abbrev N_is_name : List Str := ["word", "code"]
theorem sc_is_name : FnScope N_is_name ["word"] (defScope s_is_name) := ⟨rfl, rfl, rfl, by decide +kernel, rfl, by decide +kernel, by decide +kernel⟩
def d_is_name : He.DefD := ⟨("is_name", none), "is_name", "is_name", defArgs s_is_name, defBody s_is_name, defScope s_is_name, [], []⟩
abbrev s_words_of : Stmt := top 27
abbrev N_words_of : List Str := ["line", "found", "word", "code"]
theorem sc_words_of : FnScope N_words_of ["line"] (defScope s_words_of) := ⟨rfl, rfl, rfl, by decide +kernel, rfl, by decide +kernel, by decide +kernel⟩
def d_words_of : He.DefD := ⟨("words_of", none), "words_of", "words_of", defArgs s_words_of, defBody s_words_of, defScope s_words_of, [], []⟩
abbrev s_lines_of : Stmt := top 28
abbrev N_lines_of : List Str := ["octets", "found", "code"]
theorem sc_lines_of : FnScope N_lines_of ["octets"] (defScope s_lines_of) := ⟨rfl, rfl, rfl, by decide +kernel, rfl, by decide +kernel, by decide +kernel⟩
def d_lines_of : He.DefD := ⟨("lines_of", none), "lines_of", "lines_of", defArgs s_lines_of, defBody s_lines_of, defScope s_lines_of, [], []⟩
abbrev s_Page_init : Stmt := inClass (top 29) 0
abbrev N_Page_init : List Str := ["self"]
theorem sc_Page_init : FnScope N_Page_init ["self"] (defScope s_Page_init) := ⟨rfl, rfl, rfl, by decide +kernel, rfl, by decide +kernel, by decide +kernel⟩
def d_Page_init : He.DefD := ⟨("Page", some "__init__"), "__init__", "Page.__init__", defArgs s_Page_init, defBody s_Page_init, defScope s_Page_init, [], []⟩
abbrev s_Page_number : Stmt := inClass (top 29) 1
abbrev N_Page_number : List Str := ["self", "name", "at"]
theorem sc_Page_number : FnScope N_Page_number ["self", "name"] (defScope s_Page_number) := ⟨rfl, rfl, rfl, by decide +kernel, rfl, by decide +kernel, by decide +kernel⟩
def d_Page_number : He.DefD := ⟨("Page", some "number"), "number", "Page.number", defArgs s_Page_number, defBody s_Page_number, defScope s_Page_number, [], []⟩
abbrev s_Page_kind : Stmt := inClass (top 29) 2
abbrev N_Page_kind : List Str := ["self", "item"]
theorem sc_Page_kind : FnScope N_Page_kind ["self", "item"] (defScope s_Page_kind) := ⟨rfl, rfl, rfl, by decide +kernel, rfl, by decide +kernel, by decide +kernel⟩
def d_Page_kind : He.DefD := ⟨("Page", some "kind"), "kind", "Page.kind", defArgs s_Page_kind, defBody s_Page_kind, defScope s_Page_kind, [], []⟩
abbrev s_Page_read_line : Stmt := inClass (top 29) 3
abbrev N_Page_read_line : List Str := ["self", "words", "first"]
theorem sc_Page_read_line : FnScope N_Page_read_line ["self", "words"] (defScope s_Page_read_line) := ⟨rfl, rfl, rfl, by decide +kernel, rfl, by decide +kernel, by decide +kernel⟩
def d_Page_read_line : He.DefD := ⟨("Page", some "read_line"), "read_line", "Page.read_line", defArgs s_Page_read_line, defBody s_Page_read_line, defScope s_Page_read_line, [], []⟩
abbrev s_Page_read_item : Stmt := inClass (top 29) 4
abbrev N_Page_read_item : List Str := ["self", "first", "words", "parent", "kind", "more"]
theorem sc_Page_read_item : FnScope N_Page_read_item ["self", "first", "words"] (defScope s_Page_read_item) := ⟨rfl, rfl, rfl, by decide +kernel, rfl, by decide +kernel, by decide +kernel⟩
def d_Page_read_item : He.DefD := ⟨("Page", some "read_item"), "read_item", "Page.read_item", defArgs s_Page_read_item, defBody s_Page_read_item, defScope s_Page_read_item, [], []⟩
abbrev s_Page_is_group_on : Stmt := inClass (top 29) 5
abbrev N_Page_is_group_on : List Str := ["self", "item", "own"]
theorem sc_Page_is_group_on : FnScope N_Page_is_group_on ["self", "item"] (defScope s_Page_is_group_on) := ⟨rfl, rfl, rfl, by decide +kernel, rfl, by decide +kernel, by decide +kernel⟩
def d_Page_is_group_on : He.DefD := ⟨("Page", some "is_group_on"), "is_group_on", "Page.is_group_on", defArgs s_Page_is_group_on, defBody s_Page_is_group_on, defScope s_Page_is_group_on, [], []⟩
abbrev s_Page_group_of : Stmt := inClass (top 29) 6
abbrev N_Page_group_of : List Str := ["self", "item", "group", "at"]
theorem sc_Page_group_of : FnScope N_Page_group_of ["self", "item"] (defScope s_Page_group_of) := ⟨rfl, rfl, rfl, by decide +kernel, rfl, by decide +kernel, by decide +kernel⟩
def d_Page_group_of : He.DefD := ⟨("Page", some "group_of"), "group_of", "Page.group_of", defArgs s_Page_group_of, defBody s_Page_group_of, defScope s_Page_group_of, [], []⟩
abbrev s_Page_read_mark : Stmt := inClass (top 29) 7
abbrev N_Page_read_mark : List Str := ["self", "first", "words", "item"]
theorem sc_Page_read_mark : FnScope N_Page_read_mark ["self", "first", "words"] (defScope s_Page_read_mark) := ⟨rfl, rfl, rfl, by decide +kernel, rfl, by decide +kernel, by decide +kernel⟩
def d_Page_read_mark : He.DefD := ⟨("Page", some "read_mark"), "read_mark", "Page.read_mark", defArgs s_Page_read_mark, defBody s_Page_read_mark, defScope s_Page_read_mark, [], []⟩
abbrev s_Page_read_listener : Stmt := inClass (top 29) 8
abbrev N_Page_read_listener : List Str := ["self", "first", "words", "item", "way", "action", "target", "clicks", "listener"]
theorem sc_Page_read_listener : FnScope N_Page_read_listener ["self", "first", "words"] (defScope s_Page_read_listener) := ⟨rfl, rfl, rfl, by decide +kernel, rfl, by decide +kernel, by decide +kernel⟩
def d_Page_read_listener : He.DefD := ⟨("Page", some "read_listener"), "read_listener", "Page.read_listener", defArgs s_Page_read_listener, defBody s_Page_read_listener, defScope s_Page_read_listener, [], []⟩
abbrev s_Page_path : Stmt := inClass (top 29) 9
abbrev N_Page_path : List Str := ["self", "item", "found"]
theorem sc_Page_path : FnScope N_Page_path ["self", "item"] (defScope s_Page_path) := ⟨rfl, rfl, rfl, by decide +kernel, rfl, by decide +kernel, by decide +kernel⟩
def d_Page_path : He.DefD := ⟨("Page", some "path"), "path", "Page.path", defArgs s_Page_path, defBody s_Page_path, defScope s_Page_path, [], []⟩
abbrev s_Page_activated : Stmt := inClass (top 29) 10
abbrev N_Page_activated : List Str := ["self", "item", "own"]
theorem sc_Page_activated : FnScope N_Page_activated ["self", "item"] (defScope s_Page_activated) := ⟨rfl, rfl, rfl, by decide +kernel, rfl, by decide +kernel, by decide +kernel⟩
def d_Page_activated : He.DefD := ⟨("Page", some "activated"), "activated", "Page.activated", defArgs s_Page_activated, defBody s_Page_activated, defScope s_Page_activated, [], []⟩
abbrev s_Page_control : Stmt := inClass (top 29) 11
abbrev N_Page_control : List Str := ["self", "item", "named", "own"]
theorem sc_Page_control : FnScope N_Page_control ["self", "item"] (defScope s_Page_control) := ⟨rfl, rfl, rfl, by decide +kernel, rfl, by decide +kernel, by decide +kernel⟩
def d_Page_control : He.DefD := ⟨("Page", some "control"), "control", "Page.control", defArgs s_Page_control, defBody s_Page_control, defScope s_Page_control, [], []⟩
abbrev s_Page_lines : Stmt := inClass (top 29) 12
abbrev N_Page_lines : List Str := ["self", "found", "name", "parent", "kind", "more", "above", "word", "marks", "item", "way", "action", "target", "is_once", "words", "at"]
theorem sc_Page_lines : FnScope N_Page_lines ["self"] (defScope s_Page_lines) := ⟨rfl, rfl, rfl, by decide +kernel, rfl, by decide +kernel, by decide +kernel⟩
def d_Page_lines : He.DefD := ⟨("Page", some "lines"), "lines", "Page.lines", defArgs s_Page_lines, defBody s_Page_lines, defScope s_Page_lines, [], []⟩
abbrev s_read_page : Stmt := top 30
abbrev N_read_page : List Str := ["octets", "page", "faults", "rows", "at", "words", "e"]
theorem sc_read_page : FnScope N_read_page ["octets"] (defScope s_read_page) := ⟨rfl, rfl, rfl, by decide +kernel, rfl, by decide +kernel, by decide +kernel⟩
def d_read_page : He.DefD := ⟨("read_page", none), "read_page", "read_page", defArgs s_read_page, defBody s_read_page, defScope s_read_page, [], []⟩
abbrev s_page_text : Stmt := top 31
abbrev N_page_text : List Str := ["page", "found", "words", "at"]
theorem sc_page_text : FnScope N_page_text ["page"] (defScope s_page_text) := ⟨rfl, rfl, rfl, by decide +kernel, rfl, by decide +kernel, by decide +kernel⟩
def d_page_text : He.DefD := ⟨("page_text", none), "page_text", "page_text", defArgs s_page_text, defBody s_page_text, defScope s_page_text, [], []⟩
abbrev s_State_init : Stmt := inClass (top 39) 0
abbrev N_State_init : List Str := ["self", "page", "on", "disabled", "gone"]
theorem sc_State_init : FnScope N_State_init ["self", "page", "on", "disabled", "gone"] (defScope s_State_init) := ⟨rfl, rfl, rfl, by decide +kernel, rfl, by decide +kernel, by decide +kernel⟩
def d_State_init : He.DefD := ⟨("State", some "__init__"), "__init__", "State.__init__", defArgs s_State_init, defBody s_State_init, defScope s_State_init, [], []⟩
abbrev s_State_copied : Stmt := inClass (top 39) 1
abbrev N_State_copied : List Str := ["self"]
theorem sc_State_copied : FnScope N_State_copied ["self"] (defScope s_State_copied) := ⟨rfl, rfl, rfl, by decide +kernel, rfl, by decide +kernel, by decide +kernel⟩
def d_State_copied : He.DefD := ⟨("State", some "copied"), "copied", "State.copied", defArgs s_State_copied, defBody s_State_copied, defScope s_State_copied, [], []⟩
abbrev s_State_tick : Stmt := inClass (top 39) 2
abbrev N_State_tick : List Str := ["self", "item", "own"]
theorem sc_State_tick : FnScope N_State_tick ["self", "item"] (defScope s_State_tick) := ⟨rfl, rfl, rfl, by decide +kernel, rfl, by decide +kernel, by decide +kernel⟩
def d_State_tick : He.DefD := ⟨("State", some "tick"), "tick", "State.tick", defArgs s_State_tick, defBody s_State_tick, defScope s_State_tick, [], []⟩
abbrev s_State_by_user : Stmt := inClass (top 39) 3
abbrev N_State_by_user : List Str := ["self", "item"]
theorem sc_State_by_user : FnScope N_State_by_user ["self", "item"] (defScope s_State_by_user) := ⟨rfl, rfl, rfl, by decide +kernel, rfl, by decide +kernel, by decide +kernel⟩
def d_State_by_user : He.DefD := ⟨("State", some "by_user"), "by_user", "State.by_user", defArgs s_State_by_user, defBody s_State_by_user, defScope s_State_by_user, [], []⟩
abbrev s_State_by_page : Stmt := inClass (top 39) 4
abbrev N_State_by_page : List Str := ["self", "item"]
theorem sc_State_by_page : FnScope N_State_by_page ["self", "item"] (defScope s_State_by_page) := ⟨rfl, rfl, rfl, by decide +kernel, rfl, by decide +kernel, by decide +kernel⟩
def d_State_by_page : He.DefD := ⟨("State", some "by_page"), "by_page", "State.by_page", defArgs s_State_by_page, defBody s_State_by_page, defScope s_State_by_page, [], []⟩
abbrev s_State_click : Stmt := inClass (top 39) 5
abbrev N_State_click : List Str := ["self", "item", "page", "target", "kind", "before", "is_cancelled", "own"]
theorem sc_State_click : FnScope N_State_click ["self", "item"] (defScope s_State_click) := ⟨rfl, rfl, rfl, by decide +kernel, rfl, by decide +kernel, by decide +kernel⟩
def d_State_click : He.DefD := ⟨("State", some "click"), "click", "State.click", defArgs s_State_click, defBody s_State_click, defScope s_State_click, [], []⟩
abbrev s_State_dispatch : Stmt := inClass (top 39) 6
abbrev N_State_dispatch : List Str := ["self", "item", "path", "is_cancelled", "way", "rows", "own", "words"]
theorem sc_State_dispatch : FnScope N_State_dispatch ["self", "item"] (defScope s_State_dispatch) := ⟨rfl, rfl, rfl, by decide +kernel, rfl, by decide +kernel, by decide +kernel⟩
def d_State_dispatch : He.DefD := ⟨("State", some "dispatch"), "dispatch", "State.dispatch", defArgs s_State_dispatch, defBody s_State_dispatch, defScope s_State_dispatch, [], []⟩
abbrev s_State_heard : Stmt := inClass (top 39) 7
abbrev N_State_heard : List Str := ["self", "item", "way", "found", "listeners", "at", "own", "its_way", "action", "target", "is_once"]
theorem sc_State_heard : FnScope N_State_heard ["self", "item", "way"] (defScope s_State_heard) := ⟨rfl, rfl, rfl, by decide +kernel, rfl, by decide +kernel, by decide +kernel⟩
def d_State_heard : He.DefD := ⟨("State", some "heard"), "heard", "State.heard", defArgs s_State_heard, defBody s_State_heard, defScope s_State_heard, [], []⟩
abbrev s_State_act : Stmt := inClass (top 39) 8
abbrev N_State_act : List Str := ["self", "action", "target"]
theorem sc_State_act : FnScope N_State_act ["self", "action", "target"] (defScope s_State_act) := ⟨rfl, rfl, rfl, by decide +kernel, rfl, by decide +kernel, by decide +kernel⟩
def d_State_act : He.DefD := ⟨("State", some "act"), "act", "State.act", defArgs s_State_act, defBody s_State_act, defScope s_State_act, [], []⟩
abbrev s_State_take_back : Stmt := inClass (top 39) 9
abbrev N_State_take_back : List Str := ["self", "target", "kind", "before"]
theorem sc_State_take_back : FnScope N_State_take_back ["self", "target", "kind", "before"] (defScope s_State_take_back) := ⟨rfl, rfl, rfl, by decide +kernel, rfl, by decide +kernel, by decide +kernel⟩
def d_State_take_back : He.DefD := ⟨("State", some "take_back"), "take_back", "State.take_back", defArgs s_State_take_back, defBody s_State_take_back, defScope s_State_take_back, [], []⟩
abbrev s_State_activate : Stmt := inClass (top 39) 10
abbrev N_State_activate : List Str := ["self", "target", "kind", "control"]
theorem sc_State_activate : FnScope N_State_activate ["self", "target", "kind"] (defScope s_State_activate) := ⟨rfl, rfl, rfl, by decide +kernel, rfl, by decide +kernel, by decide +kernel⟩
def d_State_activate : He.DefD := ⟨("State", some "activate"), "activate", "State.activate", defArgs s_State_activate, defBody s_State_activate, defScope s_State_activate, [], []⟩
abbrev s_first_state : Stmt := top 40
abbrev N_first_state : List Str := ["page"]
theorem sc_first_state : FnScope N_first_state ["page"] (defScope s_first_state) := ⟨rfl, rfl, rfl, by decide +kernel, rfl, by decide +kernel, by decide +kernel⟩
def d_first_state : He.DefD := ⟨("first_state", none), "first_state", "first_state", defArgs s_first_state, defBody s_first_state, defScope s_first_state, [], []⟩
abbrev s_behind : Stmt := top 41
abbrev N_behind : List Str := ["state", "item", "found"]
theorem sc_behind : FnScope N_behind ["state", "item"] (defScope s_behind) := ⟨rfl, rfl, rfl, by decide +kernel, rfl, by decide +kernel, by decide +kernel⟩
def d_behind : He.DefD := ⟨("behind", none), "behind", "behind", defArgs s_behind, defBody s_behind, defScope s_behind, [], []⟩
abbrev s_is_reached : Stmt := top 42
abbrev N_is_reached : List Str := ["state", "goal", "item", "words"]
theorem sc_is_reached : FnScope N_is_reached ["state", "goal", "item"] (defScope s_is_reached) := ⟨rfl, rfl, rfl, by decide +kernel, rfl, by decide +kernel, by decide +kernel⟩
def d_is_reached : He.DefD := ⟨("is_reached", none), "is_reached", "is_reached", defArgs s_is_reached, defBody s_is_reached, defScope s_is_reached, [], []⟩
abbrev s_first_clicks : Stmt := top 43
abbrev N_first_clicks : List Str := ["page", "goal", "item", "rows", "turn", "clicks", "state", "longer", "own"]
theorem sc_first_clicks : FnScope N_first_clicks ["page", "goal", "item"] (defScope s_first_clicks) := ⟨rfl, rfl, rfl, by decide +kernel, rfl, by decide +kernel, by decide +kernel⟩
def d_first_clicks : He.DefD := ⟨("first_clicks", none), "first_clicks", "first_clicks", defArgs s_first_clicks, defBody s_first_clicks, defScope s_first_clicks, [], []⟩
abbrev s_scenarios : Stmt := top 44
abbrev N_scenarios : List Str := ["page", "length", "rows", "turn", "longer", "clicks", "state", "own"]
theorem sc_scenarios : FnScope N_scenarios ["page", "length"] (defScope s_scenarios) := ⟨rfl, rfl, rfl, by decide +kernel, rfl, by decide +kernel, by decide +kernel⟩
def d_scenarios : He.DefD := ⟨("scenarios", none), "scenarios", "scenarios", defArgs s_scenarios, defBody s_scenarios, defScope s_scenarios, [], []⟩
abbrev s_Session_init : Stmt := inClass (top 45) 0
abbrev N_Session_init : List Str := ["self", "page"]
theorem sc_Session_init : FnScope N_Session_init ["self", "page"] (defScope s_Session_init) := ⟨rfl, rfl, rfl, by decide +kernel, rfl, by decide +kernel, by decide +kernel⟩
def d_Session_init : He.DefD := ⟨("Session", some "__init__"), "__init__", "Session.__init__", defArgs s_Session_init, defBody s_Session_init, defScope s_Session_init, [], []⟩
abbrev s_Session_now : Stmt := inClass (top 45) 1
abbrev N_Session_now : List Str := ["self"]
theorem sc_Session_now : FnScope N_Session_now ["self"] (defScope s_Session_now) := ⟨rfl, rfl, rfl, by decide +kernel, rfl, by decide +kernel, by decide +kernel⟩
def d_Session_now : He.DefD := ⟨("Session", some "now"), "now", "Session.now", defArgs s_Session_now, defBody s_Session_now, defScope s_Session_now, [], []⟩
abbrev s_Session_many : Stmt := inClass (top 45) 2
abbrev N_Session_many : List Str := ["self"]
theorem sc_Session_many : FnScope N_Session_many ["self"] (defScope s_Session_many) := ⟨rfl, rfl, rfl, by decide +kernel, rfl, by decide +kernel, by decide +kernel⟩
def d_Session_many : He.DefD := ⟨("Session", some "many"), "many", "Session.many", defArgs s_Session_many, defBody s_Session_many, defScope s_Session_many, [], []⟩
abbrev s_Session_press : Stmt := inClass (top 45) 3
abbrev N_Session_press : List Str := ["self", "item", "found"]
theorem sc_Session_press : FnScope N_Session_press ["self", "item"] (defScope s_Session_press) := ⟨rfl, rfl, rfl, by decide +kernel, rfl, by decide +kernel, by decide +kernel⟩
def d_Session_press : He.DefD := ⟨("Session", some "press"), "press", "Session.press", defArgs s_Session_press, defBody s_Session_press, defScope s_Session_press, [], []⟩
abbrev s_Session_undo : Stmt := inClass (top 45) 4
abbrev N_Session_undo : List Str := ["self"]
theorem sc_Session_undo : FnScope N_Session_undo ["self"] (defScope s_Session_undo) := ⟨rfl, rfl, rfl, by decide +kernel, rfl, by decide +kernel, by decide +kernel⟩
def d_Session_undo : He.DefD := ⟨("Session", some "undo"), "undo", "Session.undo", defArgs s_Session_undo, defBody s_Session_undo, defScope s_Session_undo, [], []⟩
abbrev s_codes_of : Stmt := top 58
abbrev N_codes_of : List Str := ["text", "sign"]
theorem sc_codes_of : FnScope N_codes_of ["text"] (defScope s_codes_of) := ⟨rfl, rfl, rfl, by decide +kernel, rfl, by decide +kernel, by decide +kernel⟩
def d_codes_of : He.DefD := ⟨("codes_of", none), "codes_of", "codes_of", defArgs s_codes_of, defBody s_codes_of, defScope s_codes_of, [], []⟩
abbrev s_integer : Stmt := top 59
abbrev N_integer : List Str := ["number"]
theorem sc_integer : FnScope N_integer ["number"] (defScope s_integer) := ⟨rfl, rfl, rfl, by decide +kernel, rfl, by decide +kernel, by decide +kernel⟩
def d_integer : He.DefD := ⟨("integer", none), "integer", "integer", defArgs s_integer, defBody s_integer, defScope s_integer, [], []⟩
abbrev s_text : Stmt := top 60
abbrev N_text : List Str := ["string"]
theorem sc_text : FnScope N_text ["string"] (defScope s_text) := ⟨rfl, rfl, rfl, by decide +kernel, rfl, by decide +kernel, by decide +kernel⟩
def d_text : He.DefD := ⟨("text", none), "text", "text", defArgs s_text, defBody s_text, defScope s_text, [], []⟩
abbrev s_truth : Stmt := top 61
abbrev N_truth : List Str := ["told"]
theorem sc_truth : FnScope N_truth ["told"] (defScope s_truth) := ⟨rfl, rfl, rfl, by decide +kernel, rfl, by decide +kernel, by decide +kernel⟩
def d_truth : He.DefD := ⟨("truth", none), "truth", "truth", defArgs s_truth, defBody s_truth, defScope s_truth, [], []⟩
abbrev s_listed : Stmt := top 62
abbrev N_listed : List Str := ["rows"]
theorem sc_listed : FnScope N_listed ["rows"] (defScope s_listed) := ⟨rfl, rfl, rfl, by decide +kernel, rfl, by decide +kernel, by decide +kernel⟩
def d_listed : He.DefD := ⟨("listed", none), "listed", "listed", defArgs s_listed, defBody s_listed, defScope s_listed, [], []⟩
abbrev s_integers : Stmt := top 63
abbrev N_integers : List Str := ["rows", "number"]
theorem sc_integers : FnScope N_integers ["rows"] (defScope s_integers) := ⟨rfl, rfl, rfl, by decide +kernel, rfl, by decide +kernel, by decide +kernel⟩
def d_integers : He.DefD := ⟨("integers", none), "integers", "integers", defArgs s_integers, defBody s_integers, defScope s_integers, [], []⟩
abbrev s_record : Stmt := top 64
abbrev N_record : List Str := ["pairs", "name", "value"]
theorem sc_record : FnScope N_record ["pairs"] (defScope s_record) := ⟨rfl, rfl, rfl, by decide +kernel, rfl, by decide +kernel, by decide +kernel⟩
def d_record : He.DefD := ⟨("record", none), "record", "record", defArgs s_record, defBody s_record, defScope s_record, [], []⟩
abbrev s_low_first : Stmt := top 65
abbrev N_low_first : List Str := ["number", "many", "found", "turn"]
theorem sc_low_first : FnScope N_low_first ["number", "many"] (defScope s_low_first) := ⟨rfl, rfl, rfl, by decide +kernel, rfl, by decide +kernel, by decide +kernel⟩
def d_low_first : He.DefD := ⟨("low_first", none), "low_first", "low_first", defArgs s_low_first, defBody s_low_first, defScope s_low_first, [], []⟩
abbrev s_octets_of : Stmt := top 66
abbrev N_octets_of : List Str := ["value", "kind", "found", "part"]
theorem sc_octets_of : FnScope N_octets_of ["value"] (defScope s_octets_of) := ⟨rfl, rfl, rfl, by decide +kernel, rfl, by decide +kernel, by decide +kernel⟩
def d_octets_of : He.DefD := ⟨("octets_of", none), "octets_of", "octets_of", defArgs s_octets_of, defBody s_octets_of, defScope s_octets_of, [], []⟩
abbrev s_Request_init : Stmt := inClass (top 67) 0
abbrev N_Request_init : List Str := ["self", "octets"]
theorem sc_Request_init : FnScope N_Request_init ["self", "octets"] (defScope s_Request_init) := ⟨rfl, rfl, rfl, by decide +kernel, rfl, by decide +kernel, by decide +kernel⟩
def d_Request_init : He.DefD := ⟨("Request", some "__init__"), "__init__", "Request.__init__", defArgs s_Request_init, defBody s_Request_init, defScope s_Request_init, [], []⟩
abbrev s_Request_number : Stmt := inClass (top 67) 1
abbrev N_Request_number : List Str := ["self", "many", "found", "back"]
theorem sc_Request_number : FnScope N_Request_number ["self", "many"] (defScope s_Request_number) := ⟨rfl, rfl, rfl, by decide +kernel, rfl, by decide +kernel, by decide +kernel⟩
def d_Request_number : He.DefD := ⟨("Request", some "number"), "number", "Request.number", defArgs s_Request_number, defBody s_Request_number, defScope s_Request_number, [], []⟩
abbrev s_Request_plain : Stmt := inClass (top 67) 2
abbrev N_Request_plain : List Str := ["self", "many"]
theorem sc_Request_plain : FnScope N_Request_plain ["self"] (defScope s_Request_plain) := ⟨rfl, rfl, rfl, by decide +kernel, rfl, by decide +kernel, by decide +kernel⟩
def d_Request_plain : He.DefD := ⟨("Request", some "plain"), "plain", "Request.plain", defArgs s_Request_plain, defBody s_Request_plain, defScope s_Request_plain, [], []⟩
abbrev s_Request_value : Stmt := inClass (top 67) 3
abbrev N_Request_value : List Str := ["self", "kind", "found", "rows", "turn", "name"]
theorem sc_Request_value : FnScope N_Request_value ["self"] (defScope s_Request_value) := ⟨rfl, rfl, rfl, by decide +kernel, rfl, by decide +kernel, by decide +kernel⟩
def d_Request_value : He.DefD := ⟨("Request", some "value"), "value", "Request.value", defArgs s_Request_value, defBody s_Request_value, defScope s_Request_value, [], []⟩
abbrev s_Request_whole : Stmt := inClass (top 67) 4
abbrev N_Request_whole : List Str := ["self", "door", "turn"]
theorem sc_Request_whole : FnScope N_Request_whole ["self"] (defScope s_Request_whole) := ⟨rfl, rfl, rfl, by decide +kernel, rfl, by decide +kernel, by decide +kernel⟩
def d_Request_whole : He.DefD := ⟨("Request", some "whole"), "whole", "Request.whole", defArgs s_Request_whole, defBody s_Request_whole, defScope s_Request_whole, [], []⟩
abbrev s_Refused_init : Stmt := inClass (top 68) 0
abbrev N_Refused_init : List Str := ["self", "order", "message", "further"]
theorem sc_Refused_init : FnScope N_Refused_init ["self", "order", "message", "further"] (defScope s_Refused_init) := ⟨rfl, rfl, rfl, by decide +kernel, rfl, by decide +kernel, by decide +kernel⟩
def d_Refused_init : He.DefD := ⟨("Refused", some "__init__"), "__init__", "Refused.__init__", defArgs s_Refused_init, defBody s_Refused_init, defScope s_Refused_init, [], []⟩
abbrev s_wrong_kind : Stmt := top 69
abbrev N_wrong_kind : List Str := ["wrong", "message"]
theorem sc_wrong_kind : FnScope N_wrong_kind ["wrong", "message"] (defScope s_wrong_kind) := ⟨rfl, rfl, rfl, by decide +kernel, rfl, by decide +kernel, by decide +kernel⟩
def d_wrong_kind : He.DefD := ⟨("wrong_kind", none), "wrong_kind", "wrong_kind", defArgs s_wrong_kind, defBody s_wrong_kind, defScope s_wrong_kind, [], []⟩
abbrev s_out_of_range : Stmt := top 70
abbrev N_out_of_range : List Str := ["wrong", "message"]
theorem sc_out_of_range : FnScope N_out_of_range ["wrong", "message"] (defScope s_out_of_range) := ⟨rfl, rfl, rfl, by decide +kernel, rfl, by decide +kernel, by decide +kernel⟩
def d_out_of_range : He.DefD := ⟨("out_of_range", none), "out_of_range", "out_of_range", defArgs s_out_of_range, defBody s_out_of_range, defScope s_out_of_range, [], []⟩
abbrev s_named_item : Stmt := top 77
abbrev N_named_item : List Str := ["page", "value"]
theorem sc_named_item : FnScope N_named_item ["page", "value"] (defScope s_named_item) := ⟨rfl, rfl, rfl, by decide +kernel, rfl, by decide +kernel, by decide +kernel⟩
def d_named_item : He.DefD := ⟨("named_item", none), "named_item", "named_item", defArgs s_named_item, defBody s_named_item, defScope s_named_item, [], []⟩
abbrev s_item_of : Stmt := top 78
abbrev N_item_of : List Str := ["page", "value", "found"]
theorem sc_item_of : FnScope N_item_of ["page", "value"] (defScope s_item_of) := ⟨rfl, rfl, rfl, by decide +kernel, rfl, by decide +kernel, by decide +kernel⟩
def d_item_of : He.DefD := ⟨("item_of", none), "item_of", "item_of", defArgs s_item_of, defBody s_item_of, defScope s_item_of, [], []⟩
abbrev s_told_name : Stmt := top 79
abbrev N_told_name : List Str := ["page", "item"]
theorem sc_told_name : FnScope N_told_name ["page", "item"] (defScope s_told_name) := ⟨rfl, rfl, rfl, by decide +kernel, rfl, by decide +kernel, by decide +kernel⟩
def d_told_name : He.DefD := ⟨("told_name", none), "told_name", "told_name", defArgs s_told_name, defBody s_told_name, defScope s_told_name, [], []⟩
abbrev s_told_log : Stmt := top 80
abbrev N_told_log : List Str := ["page", "log", "rows", "word", "number"]
theorem sc_told_log : FnScope N_told_log ["page", "log"] (defScope s_told_log) := ⟨rfl, rfl, rfl, by decide +kernel, rfl, by decide +kernel, by decide +kernel⟩
def d_told_log : He.DefD := ⟨("told_log", none), "told_log", "told_log", defArgs s_told_log, defBody s_told_log, defScope s_told_log, [], []⟩
abbrev s_told_state : Stmt := top 81
abbrev N_told_state : List Str := ["state", "rows", "at", "pairs", "gone", "listener"]
theorem sc_told_state : FnScope N_told_state ["state"] (defScope s_told_state) := ⟨rfl, rfl, rfl, by decide +kernel, rfl, by decide +kernel, by decide +kernel⟩
def d_told_state : He.DefD := ⟨("told_state", none), "told_state", "told_state", defArgs s_told_state, defBody s_told_state, defScope s_told_state, [], []⟩
abbrev s_told_faults : Stmt := top 82
abbrev N_told_faults : List Str := ["faults", "rows", "line", "reason", "message", "pairs"]
theorem sc_told_faults : FnScope N_told_faults ["faults"] (defScope s_told_faults) := ⟨rfl, rfl, rfl, by decide +kernel, rfl, by decide +kernel, by decide +kernel⟩
def d_told_faults : He.DefD := ⟨("told_faults", none), "told_faults", "told_faults", defArgs s_told_faults, defBody s_told_faults, defScope s_told_faults, [], []⟩
abbrev s_told_items : Stmt := top 83
abbrev N_told_items : List Str := ["page", "rows", "item", "pairs"]
theorem sc_told_items : FnScope N_told_items ["page"] (defScope s_told_items) := ⟨rfl, rfl, rfl, by decide +kernel, rfl, by decide +kernel, by decide +kernel⟩
def d_told_items : He.DefD := ⟨("told_items", none), "told_items", "told_items", defArgs s_told_items, defBody s_told_items, defScope s_told_items, [], []⟩
abbrev s_told_first : Stmt := top 84
abbrev N_told_first : List Str := ["page", "given", "goals", "found", "goal", "item"]
theorem sc_told_first : FnScope N_told_first ["page", "given"] (defScope s_told_first) := ⟨rfl, rfl, rfl, by decide +kernel, rfl, by decide +kernel, by decide +kernel⟩
def d_told_first : He.DefD := ⟨("told_first", none), "told_first", "told_first", defArgs s_told_first, defBody s_told_first, defScope s_told_first, [], []⟩
abbrev s_told_simulated : Stmt := top 85
abbrev N_told_simulated : List Str := ["page", "value", "right", "one", "state", "rows"]
theorem sc_told_simulated : FnScope N_told_simulated ["page", "value"] (defScope s_told_simulated) := ⟨rfl, rfl, rfl, by decide +kernel, rfl, by decide +kernel, by decide +kernel⟩
def d_told_simulated : He.DefD := ⟨("told_simulated", none), "told_simulated", "told_simulated", defArgs s_told_simulated, defBody s_told_simulated, defScope s_told_simulated, [], []⟩
abbrev s_told_step : Stmt := top 86
abbrev N_told_step : List Str := ["value", "is_done"]
theorem sc_told_step : FnScope N_told_step ["value", "is_done"] (defScope s_told_step) := ⟨rfl, rfl, rfl, by decide +kernel, rfl, by decide +kernel, by decide +kernel⟩
def d_told_step : He.DefD := ⟨("told_step", none), "told_step", "told_step", defArgs s_told_step, defBody s_told_step, defScope s_told_step, [], []⟩
abbrev s_on_page : Stmt := top 87
abbrev N_on_page : List Str := ["page", "door", "given"]
theorem sc_on_page : FnScope N_on_page ["page", "door", "given"] (defScope s_on_page) := ⟨rfl, rfl, rfl, by decide +kernel, rfl, by decide +kernel, by decide +kernel⟩
def d_on_page : He.DefD := ⟨("on_page", none), "on_page", "on_page", defArgs s_on_page, defBody s_on_page, defScope s_on_page, [], []⟩
abbrev s_Library_init : Stmt := inClass (top 88) 0
abbrev N_Library_init : List Str := ["self"]
theorem sc_Library_init : FnScope N_Library_init ["self"] (defScope s_Library_init) := ⟨rfl, rfl, rfl, by decide +kernel, rfl, by decide +kernel, by decide +kernel⟩
def d_Library_init : He.DefD := ⟨("Library", some "__init__"), "__init__", "Library.__init__", defArgs s_Library_init, defBody s_Library_init, defScope s_Library_init, [], []⟩
abbrev s_Library_create : Stmt := inClass (top 88) 1
abbrev N_Library_create : List Str := ["self", "given", "right", "page", "faults"]
theorem sc_Library_create : FnScope N_Library_create ["self", "given"] (defScope s_Library_create) := ⟨rfl, rfl, rfl, by decide +kernel, rfl, by decide +kernel, by decide +kernel⟩
def d_Library_create : He.DefD := ⟨("Library", some "create"), "create", "Library.create", defArgs s_Library_create, defBody s_Library_create, defScope s_Library_create, [], []⟩
abbrev s_Library_on_rows : Stmt := inClass (top 88) 2
abbrev N_Library_on_rows : List Str := ["self", "door", "given", "slot", "page", "right", "clicks", "state", "names", "item"]
theorem sc_Library_on_rows : FnScope N_Library_on_rows ["self", "door", "given"] (defScope s_Library_on_rows) := ⟨rfl, rfl, rfl, by decide +kernel, rfl, by decide +kernel, by decide +kernel⟩
def d_Library_on_rows : He.DefD := ⟨("Library", some "on_rows"), "on_rows", "Library.on_rows", defArgs s_Library_on_rows, defBody s_Library_on_rows, defScope s_Library_on_rows, [], []⟩
abbrev s_Library_on_session : Stmt := inClass (top 88) 3
abbrev N_Library_on_session : List Str := ["self", "door", "given", "slot", "session", "item"]
theorem sc_Library_on_session : FnScope N_Library_on_session ["self", "door", "given"] (defScope s_Library_on_session) := ⟨rfl, rfl, rfl, by decide +kernel, rfl, by decide +kernel, by decide +kernel⟩
def d_Library_on_session : He.DefD := ⟨("Library", some "on_session"), "on_session", "Library.on_session", defArgs s_Library_on_session, defBody s_Library_on_session, defScope s_Library_on_session, [], []⟩
abbrev s_Library_call : Stmt := inClass (top 88) 4
abbrev N_Library_call : List Str := ["self", "door", "given"]
theorem sc_Library_call : FnScope N_Library_call ["self", "door", "given"] (defScope s_Library_call) := ⟨rfl, rfl, rfl, by decide +kernel, rfl, by decide +kernel, by decide +kernel⟩
def d_Library_call : He.DefD := ⟨("Library", some "call"), "call", "Library.call", defArgs s_Library_call, defBody s_Library_call, defScope s_Library_call, [], []⟩
abbrev s_answered : Stmt := top 89
abbrev N_answered : List Str := ["library", "octets", "door", "given", "e", "message"]
theorem sc_answered : FnScope N_answered ["library", "octets"] (defScope s_answered) := ⟨rfl, rfl, rfl, by decide +kernel, rfl, by decide +kernel, by decide +kernel⟩
def d_answered : He.DefD := ⟨("answered", none), "answered", "answered", defArgs s_answered, defBody s_answered, defScope s_answered, [], []⟩
abbrev s_answers : Stmt := top 90
abbrev N_answers : List Str := ["calls", "library", "found", "at", "many", "answer"]
theorem sc_answers : FnScope N_answers ["calls"] (defScope s_answers) := ⟨rfl, rfl, rfl, by decide +kernel, rfl, by decide +kernel, by decide +kernel⟩
def d_answers : He.DefD := ⟨("answers", none), "answers", "answers", defArgs s_answers, defBody s_answers, defScope s_answers, [], []⟩
/-! ### what the top leaves -/
def fn0 : List He.DefD := [d_Unreadable_init, d_need, d_codes, d_known_word, d_is_name, d_words_of, d_lines_of, d_Page_init, d_Page_number, d_Page_kind, d_Page_read_line, d_Page_read_item, d_Page_is_group_on, d_Page_group_of, d_Page_read_mark, d_Page_read_listener, d_Page_path, d_Page_activated, d_Page_control, d_Page_lines, d_read_page, d_page_text, d_State_init, d_State_copied, d_State_tick, d_State_by_user]
def fn1 : List He.DefD := [d_State_by_page, d_State_click, d_State_dispatch, d_State_heard, d_State_act, d_State_take_back, d_State_activate, d_first_state, d_behind, d_is_reached, d_first_clicks, d_scenarios, d_Session_init, d_Session_now, d_Session_many, d_Session_press, d_Session_undo, d_codes_of, d_integer, d_text, d_truth, d_listed, d_integers, d_record, d_low_first, d_octets_of]
def fn2 : List He.DefD := [d_Request_init, d_Request_number, d_Request_plain, d_Request_value, d_Request_whole, d_Refused_init, d_wrong_kind, d_out_of_range, d_named_item, d_item_of, d_told_name, d_told_log, d_told_state, d_told_faults, d_told_items, d_told_first, d_told_simulated, d_told_step, d_on_page, d_Library_init, d_Library_create, d_Library_on_rows, d_Library_on_session, d_Library_call, d_answered, d_answers]
def fnL : List He.DefD := fn0 ++ (fn1 ++ fn2)
def glA : List Str := ["need", "codes", "known_word", "is_name", "words_of", "lines_of", "read_page", "page_text", "first_state", "behind", "is_reached", "first_clicks", "scenarios", "codes_of", "integer", "text", "truth", "listed", "integers", "record", "low_first", "octets_of", "wrong_kind", "out_of_range", "named_item", "item_of"]
def glB : List Str := ["told_name", "told_log", "told_state", "told_faults", "told_items", "told_first", "told_simulated", "told_step", "on_page", "answered", "answers", "Unreadable", "Page", "State", "Session", "Request", "Refused", "Library"]
def glL : List Str := glA ++ glB
def frL : List Str := ["tuple", "len", "all", "list", "range", "any", "sorted", "str", "ord"]
def giL : List (Str × Int) := [("SMALL_FIRST", 97), ("SMALL_LAST", 122), ("SPACE", 32), ("FEED", 10), ("MOST_NAME", 8), ("MOST_ITEMS", 8), ("MOST_LISTENERS", 8), ("MOST_CLICKS_pages", 3), ("NOBODY", -1), ("INTEGER", 4), ("TEXT", 6), ("LIST", 7), ("RECORD", 8), ("OCTETS", 10), ("WORD", 18446744073709551616), ("HALF", 9223372036854775808), ("MOST_ARGUMENTS", 3), ("MOST_TEXT", 1500), ("MOST_CLICKS_desk", 20), ("MOST_SESSION", 100)]
def gsL : List (Str × Str) := [("PLAIN", "plain"), ("LINK", "link"), ("BUTTON", "button"), ("CHECK", "check"), ("RADIO", "radio"), ("LABEL", "label"), ("CLICK", "click"), ("HEAR", "hear"), ("FOLLOW", "follow"), ("SUBMIT", "submit"), ("CHANGE", "change"), ("CANCEL", "cancel")]
def tpL : List (Str × List He.Dv) := [("KINDS", [.str "plain", .str "link", .str "button", .str "check"]), ("TICKED", [.str "check", .str "radio"]), ("CONTROLS", [.str "button", .str "check", .str "radio"]), ("WAYS", [.str "down", .str "up"]), ("BARE", [.str "prevent", .str "stop", .str "halt"]), ("AIMED", [.str "click", .str "tick", .str "untick", .str "disable", .str "enable"]), ("NOTHING", [.int 0]), ("NULL", [.int 1]), ("FALSE", [.int 2]), ("TRUE", [.int 3]), ("GOALS", [.str "ticked", .str "unticked", .str "disabled", .str "enabled", .str "followed", .str "submitted", .str "changed", .str "cancelled"])]
def clL : List Str := ["Page", "State", "Session", "Request", "Library"]
def naL : List (Str × Str) := [("Unreadable", "reason"), ("Page", "things"), ("Page", "on"), ("Page", "disabled"), ("Page", "listeners"), ("State", "page"), ("State", "on"), ("State", "disabled"), ("State", "gone"), ("State", "log"), ("State", "within"), ("Session", "page"), ("Session", "states"), ("Request", "octets"), ("Request", "at"), ("Refused", "order"), ("Refused", "message"), ("Refused", "further"), ("Library", "pages"), ("Library", "sessions"), ("Library", "rows")]
def meA : List (Str × Str) := [("Page", "number"), ("Page", "kind"), ("Page", "read_line"), ("Page", "read_item"), ("Page", "is_group_on"), ("Page", "group_of"), ("Page", "read_mark"), ("Page", "read_listener"), ("Page", "path"), ("Page", "activated"), ("Page", "control"), ("Page", "lines"), ("State", "copied"), ("State", "tick"), ("State", "by_user"), ("State", "by_page"), ("State", "click")]
def meB : List (Str × Str) := [("State", "dispatch"), ("State", "heard"), ("State", "act"), ("State", "take_back"), ("State", "activate"), ("Session", "now"), ("Session", "many"), ("Session", "press"), ("Session", "undo"), ("Request", "number"), ("Request", "plain"), ("Request", "value"), ("Request", "whole"), ("Library", "create"), ("Library", "on_rows"), ("Library", "on_session"), ("Library", "call")]
def meL : List (Str × Str) := meA ++ meB
def exL : List Str := ["Unreadable", "Refused"]
end Ck
namespace Ck
open PySem PySem.Spec PyProof.Rows L2
open He (ga ma fAd)
/-- an own error class whose __init__ is its own: what is looked at in the written part -/
def oexB (K : PySem.W.Frag) (C : Addr) : Bool := (match K.lookup C with
  | some ⟨.type t, _, .cls ⟨_, _, .ref c :: bm, _, _, true, _, _, _, _, false⟩, sl⟩ => decide (t = "type") && (decide (c = C) && (PySem.HandSPX.refsVE bm && (match sl.toList with
      | [_, _, _, _, some (.builtin nid), _] => decide (nid = "ValueError.__new__")
      | _ => false)))
  | _ => false) && (decide (PySem.W.findIn K (.ref C) "__setattr__" = some (some (.builtin "object.__setattr__"))) && (decide (PySem.W.subIn K (.ref C) (.type "BaseException") = some true) &&
    (decide (PySem.W.typeIn K (.ref C) = some (.type "type")) && PySem.W.keepIn K (.ref C))))
theorem oexB_ok {K : PySem.W.Frag} {C : Addr} (h : oexB K C = true) : OexC K C := by
  obtain ⟨h1, h⟩ := Bool.and_eq_true_iff.mp h
  obtain ⟨h2, h⟩ := Bool.and_eq_true_iff.mp h
  obtain ⟨h3, h⟩ := Bool.and_eq_true_iff.mp h
  obtain ⟨h4, h5⟩ := Bool.and_eq_true_iff.mp h
  refine ⟨?_, of_decide_eq_true h2, of_decide_eq_true h3, of_decide_eq_true h4, h5⟩
  split at h1
  · rename_i t dd nm bs c bm N q sn sub ab col sl e
    obtain ⟨g1, g⟩ := Bool.and_eq_true_iff.mp h1
    obtain ⟨g2, g⟩ := Bool.and_eq_true_iff.mp g
    obtain ⟨g3, g4⟩ := Bool.and_eq_true_iff.mp g
    split at g4
    · rename_i k0 k1 k2 k3 nid k5 es
      have e1 := of_decide_eq_true g1
      have e2 := of_decide_eq_true g2
      have e3 := of_decide_eq_true g4
      subst e1 e2 e3
      have e4 : sl = #[k0, k1, k2, k3, some (.builtin "ValueError.__new__"), k5] := by
        have := congrArg List.toArray es
        simpa using this
      subst e4
      exact ⟨nm, q, N, bs, bm, sn, sub, ab, col, dd, k0, k1, k2, k3, k5, e, g3⟩
    · cases g4
  · cases h1
def initB (K : PySem.W.Frag) (C : Addr) : Bool := decide (PySem.W.findIn K (.ref C) "__init__" = some (some (.ref (ma K C "__init__")))) && decide (PySem.W.typeIn K (.ref (ma K C "__init__")) = some (.type "function"))
def faL : List He.Fa := glL.map He.Fa.glo ++ (frL.map He.Fa.free ++ (giL.map (fun p => He.Fa.int p.1 p.2) ++ (gsL.map (fun p => He.Fa.str p.1 p.2) ++ (clL.map He.Fa.cls ++ (naL.map (fun p => He.Fa.noat p.1 p.2) ++ (meL.map (fun p => He.Fa.meth p.1 p.2) ++ (clL.map He.Fa.mkr ++ exL.map (fun x => He.Fa.exm x x true))))))))
def exK (K : PySem.W.Frag) : Bool := (tpL.all fun p => He.tupB K p.1 p.2) && exL.all fun x => oexB K (ga K x) && (xfB K (ga K x) && initB K (ga K x))
/-- all that the proof asks of the written part -/
structure Txt (K : PySem.W.Frag) (mg : Str → Option Value) : Prop where
  fn : ∀ d ∈ fnL, ∃ fd, FunD K d.name d.qual d.params d.body d.scope (d.dvs K) (d.kws K) (fAd K d.at_) fd
  gl : ∀ x ∈ glL, mg x = some (.ref (ga K x))
  fr : ∀ x ∈ frL, mg x = none
  gi : ∀ p ∈ giL, ∃ t, mg p.1 = some (.int p.2 t)
  gs : ∀ p ∈ gsL, ∃ t, mg p.1 = some (.str p.2 t)
  tp : ∀ p ∈ tpL, mg p.1 = some (.ref (ga K p.1)) ∧ ∀ H, SqT K H (ga K p.1) (p.2.map (He.Dv.v K))
  cl : ∀ x ∈ clL, Cls K (ga K x)
  na : ∀ p ∈ naL, NoAttr K (ga K p.1) p.2
  me : ∀ p ∈ meL, Meth K (ga K p.1) p.2 (ma K (ga K p.1) p.2)
  mkr : ∀ x ∈ clL, Mk K (ga K x) (ma K (ga K x) "__init__")
  ex : ∀ x ∈ exL, OexC K (ga K x) ∧ XfC K (ga K x) ∧ PySem.W.findIn K (.ref (ga K x)) "__init__" = some (some (.ref (ma K (ga K x) "__init__"))) ∧ PySem.W.typeIn K (.ref (ma K (ga K x) "__init__")) = some (.type "function") ∧ PySem.W.exmOne K (.ref (ga K x)) (.ref (ga K x)) = some true
def tpN : List Str := tpL.map (·.1)
theorem txt_of {w : World} {h : Heap} {mg : Str → Option Value} {K : PySem.W.Frag} (X : K.In h) (G : h.Ns mainGlobals mg) (c : He.SaysX (faL ++ tpN.map He.Fa.glo) fnL [] [] exK w h K) : Txt K mg := by
  have fact : ∀ f ∈ faL, f.ok K = true := fun f hf => c.t.d.facts (List.mem_append_left _ hf)
  have tfact : ∀ x ∈ tpN, (He.Fa.glo x).ok K = true := fun x hx => c.t.d.facts (List.mem_append_right _ (List.mem_map_of_mem hx))
  obtain ⟨e1, e2⟩ := Bool.and_eq_true_iff.mp c.more
  have e1 := List.all_eq_true.mp e1
  have e2 := List.all_eq_true.mp e2
  refine ⟨fun d hd => c.t.d.defs hd, fun x hx => He.glo_ok X G (fact _ ?_), fun x hx => He.free_ok X G (fact _ ?_), fun p hp => He.int_ok X G (fact _ ?_), fun p hp => He.str_ok X G (fact _ ?_),
    fun p hp => ⟨He.glo_ok X G (tfact _ (List.mem_map_of_mem hp)), fun H => He.tupB_ok (e1 p hp) H⟩, fun x hx => He.cls_ok (fact _ ?_), fun p hp => He.noat_ok (fact (He.Fa.noat p.1 p.2) ?_), fun p hp => He.meth_ok (fact (He.Fa.meth p.1 p.2) ?_), fun x hx => He.mkr_ok (fact _ ?_), fun x hx => ?_⟩
  · unfold faL; simp only [List.mem_append, List.mem_map]
    exact .inl ⟨x, hx, rfl⟩
  · unfold faL; simp only [List.mem_append, List.mem_map]
    exact .inr (.inl ⟨x, hx, rfl⟩)
  · unfold faL; simp only [List.mem_append, List.mem_map]
    exact .inr (.inr (.inl ⟨p, hp, rfl⟩))
  · unfold faL; simp only [List.mem_append, List.mem_map]
    exact .inr (.inr (.inr (.inl ⟨p, hp, rfl⟩)))
  · unfold faL; simp only [List.mem_append, List.mem_map]
    exact .inr (.inr (.inr (.inr (.inl ⟨x, hx, rfl⟩))))
  · unfold faL; simp only [List.mem_append, List.mem_map]
    exact .inr (.inr (.inr (.inr (.inr (.inl ⟨p, hp, rfl⟩)))))
  · unfold faL; simp only [List.mem_append, List.mem_map]
    exact .inr (.inr (.inr (.inr (.inr (.inr (.inl ⟨p, hp, rfl⟩))))))
  · unfold faL; simp only [List.mem_append, List.mem_map]
    exact .inr (.inr (.inr (.inr (.inr (.inr (.inr (.inl ⟨x, hx, rfl⟩)))))))
  · obtain ⟨q1, q⟩ := Bool.and_eq_true_iff.mp (e2 x hx)
    obtain ⟨q2, q3⟩ := Bool.and_eq_true_iff.mp q
    obtain ⟨q4, q5⟩ := Bool.and_eq_true_iff.mp q3
    refine ⟨oexB_ok q1, xfB_ok q2, of_decide_eq_true q4, of_decide_eq_true q5, He.exm_ok (fact (He.Fa.exm x x true) ?_)⟩
    unfold faL; simp only [List.mem_append, List.mem_map]
    exact .inr (.inr (.inr (.inr (.inr (.inr (.inr (.inr ⟨x, hx, rfl⟩)))))))
end Ck
namespace Ck
open PySem PySem.W PySem.Calls PyProof.Rows
/-! ### the head: one run of the top in the kernel -/
abbrev R : PySem.W.OpenSpec := PySem.Challenge.rw_clickchains_s01_answers
def nm1 : List PySem.Str := glL
def names : List PySem.Str := glL ++ (giL.map (·.1) ++ (gsL.map (·.1) ++ tpL.map (·.1)))
abbrev qv : Program := view R.prog [90]
abbrev hk : PySem.W.Hook := He.hookX 4 (faL ++ tpN.map He.Fa.glo) fnL [] [] exK
def ob (s : PySem.W.SharedT) : He.AlX := He.obsX 4 (faL ++ tpN.map He.Fa.glo) fnL [] [] exK (HandSHeadRun.getT s)
theorem ob_eq (s : PySem.W.SharedT) : ob s = hk.obs s.abs := He.obsX_eq (HandSHeadRun.getT_eq s)
set_option maxHeartbeats 0 in
theorem run (w : World) : HandSHeadRun.RunEqS R qv hk ob 8000 names w := by
  intro os
  kernel_rfl
end Ck
namespace Ck
open PySem PySem.W PySem.Calls PyProof.Rows
/-! ### what the kernel decides about the row -/
theorem said : R.wellSaid = true := by decide +kernel
theorem chains : (chainsOk qv && opensWell R.prog) = true := by decide +kernel
theorem bare : R.prog.bare := ⟨rfl, rfl, rfl, rfl, rfl, by decide +kernel⟩
theorem some_call : ∃ args, R.pre args = true ∧ WData.layableAll args = true := ⟨[.list [.int 0, .int 12, .int 0, .int 0, .int 1, .int 4, .int 0, .int 0, .int 0, .int 0, .int 0, .int 0, .int 0, .int 0]], by decide +kernel, by decide +kernel⟩
end Ck
namespace Ck
open PySem PySem.Spec PyProof.Rows L2
open He (ga ma fAd)
section
variable {K : PySem.W.Frag} {mg : Str → Option Value} (T : Txt K mg)
include T
theorem gl_need : mg "need" = some (.ref (ga K "need")) := T.gl _ (List.mem_of_getElem? (i := 0) rfl)
theorem gl_codes : mg "codes" = some (.ref (ga K "codes")) := T.gl _ (List.mem_of_getElem? (i := 1) rfl)
theorem gl_known_word : mg "known_word" = some (.ref (ga K "known_word")) := T.gl _ (List.mem_of_getElem? (i := 2) rfl)
theorem gl_is_name : mg "is_name" = some (.ref (ga K "is_name")) := T.gl _ (List.mem_of_getElem? (i := 3) rfl)
theorem gl_words_of : mg "words_of" = some (.ref (ga K "words_of")) := T.gl _ (List.mem_of_getElem? (i := 4) rfl)
theorem gl_lines_of : mg "lines_of" = some (.ref (ga K "lines_of")) := T.gl _ (List.mem_of_getElem? (i := 5) rfl)
theorem gl_read_page : mg "read_page" = some (.ref (ga K "read_page")) := T.gl _ (List.mem_of_getElem? (i := 6) rfl)
theorem gl_page_text : mg "page_text" = some (.ref (ga K "page_text")) := T.gl _ (List.mem_of_getElem? (i := 7) rfl)
theorem gl_first_state : mg "first_state" = some (.ref (ga K "first_state")) := T.gl _ (List.mem_of_getElem? (i := 8) rfl)
theorem gl_behind : mg "behind" = some (.ref (ga K "behind")) := T.gl _ (List.mem_of_getElem? (i := 9) rfl)
theorem gl_is_reached : mg "is_reached" = some (.ref (ga K "is_reached")) := T.gl _ (List.mem_of_getElem? (i := 10) rfl)
theorem gl_first_clicks : mg "first_clicks" = some (.ref (ga K "first_clicks")) := T.gl _ (List.mem_of_getElem? (i := 11) rfl)
theorem gl_scenarios : mg "scenarios" = some (.ref (ga K "scenarios")) := T.gl _ (List.mem_of_getElem? (i := 12) rfl)
theorem gl_codes_of : mg "codes_of" = some (.ref (ga K "codes_of")) := T.gl _ (List.mem_of_getElem? (i := 13) rfl)
theorem gl_integer : mg "integer" = some (.ref (ga K "integer")) := T.gl _ (List.mem_of_getElem? (i := 14) rfl)
theorem gl_text : mg "text" = some (.ref (ga K "text")) := T.gl _ (List.mem_of_getElem? (i := 15) rfl)
theorem gl_truth : mg "truth" = some (.ref (ga K "truth")) := T.gl _ (List.mem_of_getElem? (i := 16) rfl)
theorem gl_listed : mg "listed" = some (.ref (ga K "listed")) := T.gl _ (List.mem_of_getElem? (i := 17) rfl)
theorem gl_integers : mg "integers" = some (.ref (ga K "integers")) := T.gl _ (List.mem_of_getElem? (i := 18) rfl)
theorem gl_record : mg "record" = some (.ref (ga K "record")) := T.gl _ (List.mem_of_getElem? (i := 19) rfl)
theorem gl_low_first : mg "low_first" = some (.ref (ga K "low_first")) := T.gl _ (List.mem_of_getElem? (i := 20) rfl)
theorem gl_octets_of : mg "octets_of" = some (.ref (ga K "octets_of")) := T.gl _ (List.mem_of_getElem? (i := 21) rfl)
theorem gl_wrong_kind : mg "wrong_kind" = some (.ref (ga K "wrong_kind")) := T.gl _ (List.mem_of_getElem? (i := 22) rfl)
theorem gl_out_of_range : mg "out_of_range" = some (.ref (ga K "out_of_range")) := T.gl _ (List.mem_of_getElem? (i := 23) rfl)
theorem gl_named_item : mg "named_item" = some (.ref (ga K "named_item")) := T.gl _ (List.mem_of_getElem? (i := 24) rfl)
theorem gl_item_of : mg "item_of" = some (.ref (ga K "item_of")) := T.gl _ (List.mem_of_getElem? (i := 25) rfl)
theorem gl_told_name : mg "told_name" = some (.ref (ga K "told_name")) := T.gl _ (List.mem_of_getElem? (i := 26) rfl)
theorem gl_told_log : mg "told_log" = some (.ref (ga K "told_log")) := T.gl _ (List.mem_of_getElem? (i := 27) rfl)
theorem gl_told_state : mg "told_state" = some (.ref (ga K "told_state")) := T.gl _ (List.mem_of_getElem? (i := 28) rfl)
theorem gl_told_faults : mg "told_faults" = some (.ref (ga K "told_faults")) := T.gl _ (List.mem_of_getElem? (i := 29) rfl)
theorem gl_told_items : mg "told_items" = some (.ref (ga K "told_items")) := T.gl _ (List.mem_of_getElem? (i := 30) rfl)
theorem gl_told_first : mg "told_first" = some (.ref (ga K "told_first")) := T.gl _ (List.mem_of_getElem? (i := 31) rfl)
theorem gl_told_simulated : mg "told_simulated" = some (.ref (ga K "told_simulated")) := T.gl _ (List.mem_of_getElem? (i := 32) rfl)
theorem gl_told_step : mg "told_step" = some (.ref (ga K "told_step")) := T.gl _ (List.mem_of_getElem? (i := 33) rfl)
theorem gl_on_page : mg "on_page" = some (.ref (ga K "on_page")) := T.gl _ (List.mem_of_getElem? (i := 34) rfl)
theorem gl_answered : mg "answered" = some (.ref (ga K "answered")) := T.gl _ (List.mem_of_getElem? (i := 35) rfl)
theorem gl_answers : mg "answers" = some (.ref (ga K "answers")) := T.gl _ (List.mem_of_getElem? (i := 36) rfl)
theorem gl_Unreadable : mg "Unreadable" = some (.ref (ga K "Unreadable")) := T.gl _ (List.mem_of_getElem? (i := 37) rfl)
theorem gl_Page : mg "Page" = some (.ref (ga K "Page")) := T.gl _ (List.mem_of_getElem? (i := 38) rfl)
theorem gl_State : mg "State" = some (.ref (ga K "State")) := T.gl _ (List.mem_of_getElem? (i := 39) rfl)
theorem gl_Session : mg "Session" = some (.ref (ga K "Session")) := T.gl _ (List.mem_of_getElem? (i := 40) rfl)
theorem gl_Request : mg "Request" = some (.ref (ga K "Request")) := T.gl _ (List.mem_of_getElem? (i := 41) rfl)
theorem gl_Refused : mg "Refused" = some (.ref (ga K "Refused")) := T.gl _ (List.mem_of_getElem? (i := 42) rfl)
theorem gl_Library : mg "Library" = some (.ref (ga K "Library")) := T.gl _ (List.mem_of_getElem? (i := 43) rfl)
theorem fr_tuple : mg "tuple" = none := T.fr _ (List.mem_of_getElem? (i := 0) rfl)
theorem fr_len : mg "len" = none := T.fr _ (List.mem_of_getElem? (i := 1) rfl)
theorem fr_all : mg "all" = none := T.fr _ (List.mem_of_getElem? (i := 2) rfl)
theorem fr_list : mg "list" = none := T.fr _ (List.mem_of_getElem? (i := 3) rfl)
theorem fr_range : mg "range" = none := T.fr _ (List.mem_of_getElem? (i := 4) rfl)
theorem fr_any : mg "any" = none := T.fr _ (List.mem_of_getElem? (i := 5) rfl)
theorem fr_sorted : mg "sorted" = none := T.fr _ (List.mem_of_getElem? (i := 6) rfl)
theorem fr_str : mg "str" = none := T.fr _ (List.mem_of_getElem? (i := 7) rfl)
theorem fr_ord : mg "ord" = none := T.fr _ (List.mem_of_getElem? (i := 8) rfl)
theorem gi_SMALL_FIRST : ∃ t, mg "SMALL_FIRST" = some (.int (97) t) := T.gi _ (List.mem_of_getElem? (i := 0) rfl)
theorem gi_SMALL_LAST : ∃ t, mg "SMALL_LAST" = some (.int (122) t) := T.gi _ (List.mem_of_getElem? (i := 1) rfl)
theorem gi_SPACE : ∃ t, mg "SPACE" = some (.int (32) t) := T.gi _ (List.mem_of_getElem? (i := 2) rfl)
theorem gi_FEED : ∃ t, mg "FEED" = some (.int (10) t) := T.gi _ (List.mem_of_getElem? (i := 3) rfl)
theorem gi_MOST_NAME : ∃ t, mg "MOST_NAME" = some (.int (8) t) := T.gi _ (List.mem_of_getElem? (i := 4) rfl)
theorem gi_MOST_ITEMS : ∃ t, mg "MOST_ITEMS" = some (.int (8) t) := T.gi _ (List.mem_of_getElem? (i := 5) rfl)
theorem gi_MOST_LISTENERS : ∃ t, mg "MOST_LISTENERS" = some (.int (8) t) := T.gi _ (List.mem_of_getElem? (i := 6) rfl)
theorem gi_MOST_CLICKS_pages : ∃ t, mg "MOST_CLICKS_pages" = some (.int (3) t) := T.gi _ (List.mem_of_getElem? (i := 7) rfl)
theorem gi_NOBODY : ∃ t, mg "NOBODY" = some (.int (-1) t) := T.gi _ (List.mem_of_getElem? (i := 8) rfl)
theorem gi_INTEGER : ∃ t, mg "INTEGER" = some (.int (4) t) := T.gi _ (List.mem_of_getElem? (i := 9) rfl)
theorem gi_TEXT : ∃ t, mg "TEXT" = some (.int (6) t) := T.gi _ (List.mem_of_getElem? (i := 10) rfl)
theorem gi_LIST : ∃ t, mg "LIST" = some (.int (7) t) := T.gi _ (List.mem_of_getElem? (i := 11) rfl)
theorem gi_RECORD : ∃ t, mg "RECORD" = some (.int (8) t) := T.gi _ (List.mem_of_getElem? (i := 12) rfl)
theorem gi_OCTETS : ∃ t, mg "OCTETS" = some (.int (10) t) := T.gi _ (List.mem_of_getElem? (i := 13) rfl)
theorem gi_WORD : ∃ t, mg "WORD" = some (.int (18446744073709551616) t) := T.gi _ (List.mem_of_getElem? (i := 14) rfl)
theorem gi_HALF : ∃ t, mg "HALF" = some (.int (9223372036854775808) t) := T.gi _ (List.mem_of_getElem? (i := 15) rfl)
theorem gi_MOST_ARGUMENTS : ∃ t, mg "MOST_ARGUMENTS" = some (.int (3) t) := T.gi _ (List.mem_of_getElem? (i := 16) rfl)
theorem gi_MOST_TEXT : ∃ t, mg "MOST_TEXT" = some (.int (1500) t) := T.gi _ (List.mem_of_getElem? (i := 17) rfl)
theorem gi_MOST_CLICKS_desk : ∃ t, mg "MOST_CLICKS_desk" = some (.int (20) t) := T.gi _ (List.mem_of_getElem? (i := 18) rfl)
theorem gi_MOST_SESSION : ∃ t, mg "MOST_SESSION" = some (.int (100) t) := T.gi _ (List.mem_of_getElem? (i := 19) rfl)
theorem gs_PLAIN : ∃ t, mg "PLAIN" = some (.str "plain" t) := T.gs _ (List.mem_of_getElem? (i := 0) rfl)
theorem gs_LINK : ∃ t, mg "LINK" = some (.str "link" t) := T.gs _ (List.mem_of_getElem? (i := 1) rfl)
theorem gs_BUTTON : ∃ t, mg "BUTTON" = some (.str "button" t) := T.gs _ (List.mem_of_getElem? (i := 2) rfl)
theorem gs_CHECK : ∃ t, mg "CHECK" = some (.str "check" t) := T.gs _ (List.mem_of_getElem? (i := 3) rfl)
theorem gs_RADIO : ∃ t, mg "RADIO" = some (.str "radio" t) := T.gs _ (List.mem_of_getElem? (i := 4) rfl)
theorem gs_LABEL : ∃ t, mg "LABEL" = some (.str "label" t) := T.gs _ (List.mem_of_getElem? (i := 5) rfl)
theorem gs_CLICK : ∃ t, mg "CLICK" = some (.str "click" t) := T.gs _ (List.mem_of_getElem? (i := 6) rfl)
theorem gs_HEAR : ∃ t, mg "HEAR" = some (.str "hear" t) := T.gs _ (List.mem_of_getElem? (i := 7) rfl)
theorem gs_FOLLOW : ∃ t, mg "FOLLOW" = some (.str "follow" t) := T.gs _ (List.mem_of_getElem? (i := 8) rfl)
theorem gs_SUBMIT : ∃ t, mg "SUBMIT" = some (.str "submit" t) := T.gs _ (List.mem_of_getElem? (i := 9) rfl)
theorem gs_CHANGE : ∃ t, mg "CHANGE" = some (.str "change" t) := T.gs _ (List.mem_of_getElem? (i := 10) rfl)
theorem gs_CANCEL : ∃ t, mg "CANCEL" = some (.str "cancel" t) := T.gs _ (List.mem_of_getElem? (i := 11) rfl)
theorem tg_KINDS : mg "KINDS" = some (.ref (ga K "KINDS")) := (T.tp _ (List.mem_of_getElem? (i := 0) rfl)).1
theorem tt_KINDS (H : Hp) : SqT K H (ga K "KINDS") [.str "plain", .str "link", .str "button", .str "check"] := (T.tp _ (List.mem_of_getElem? (i := 0) rfl)).2 H
theorem tg_TICKED : mg "TICKED" = some (.ref (ga K "TICKED")) := (T.tp _ (List.mem_of_getElem? (i := 1) rfl)).1
theorem tt_TICKED (H : Hp) : SqT K H (ga K "TICKED") [.str "check", .str "radio"] := (T.tp _ (List.mem_of_getElem? (i := 1) rfl)).2 H
theorem tg_CONTROLS : mg "CONTROLS" = some (.ref (ga K "CONTROLS")) := (T.tp _ (List.mem_of_getElem? (i := 2) rfl)).1
theorem tt_CONTROLS (H : Hp) : SqT K H (ga K "CONTROLS") [.str "button", .str "check", .str "radio"] := (T.tp _ (List.mem_of_getElem? (i := 2) rfl)).2 H
theorem tg_WAYS : mg "WAYS" = some (.ref (ga K "WAYS")) := (T.tp _ (List.mem_of_getElem? (i := 3) rfl)).1
theorem tt_WAYS (H : Hp) : SqT K H (ga K "WAYS") [.str "down", .str "up"] := (T.tp _ (List.mem_of_getElem? (i := 3) rfl)).2 H
theorem tg_BARE : mg "BARE" = some (.ref (ga K "BARE")) := (T.tp _ (List.mem_of_getElem? (i := 4) rfl)).1
theorem tt_BARE (H : Hp) : SqT K H (ga K "BARE") [.str "prevent", .str "stop", .str "halt"] := (T.tp _ (List.mem_of_getElem? (i := 4) rfl)).2 H
theorem tg_AIMED : mg "AIMED" = some (.ref (ga K "AIMED")) := (T.tp _ (List.mem_of_getElem? (i := 5) rfl)).1
theorem tt_AIMED (H : Hp) : SqT K H (ga K "AIMED") [.str "click", .str "tick", .str "untick", .str "disable", .str "enable"] := (T.tp _ (List.mem_of_getElem? (i := 5) rfl)).2 H
theorem tg_NOTHING : mg "NOTHING" = some (.ref (ga K "NOTHING")) := (T.tp _ (List.mem_of_getElem? (i := 6) rfl)).1
theorem tt_NOTHING (H : Hp) : SqT K H (ga K "NOTHING") [.int 0] := (T.tp _ (List.mem_of_getElem? (i := 6) rfl)).2 H
theorem tg_NULL : mg "NULL" = some (.ref (ga K "NULL")) := (T.tp _ (List.mem_of_getElem? (i := 7) rfl)).1
theorem tt_NULL (H : Hp) : SqT K H (ga K "NULL") [.int 1] := (T.tp _ (List.mem_of_getElem? (i := 7) rfl)).2 H
theorem tg_FALSE : mg "FALSE" = some (.ref (ga K "FALSE")) := (T.tp _ (List.mem_of_getElem? (i := 8) rfl)).1
theorem tt_FALSE (H : Hp) : SqT K H (ga K "FALSE") [.int 2] := (T.tp _ (List.mem_of_getElem? (i := 8) rfl)).2 H
theorem tg_TRUE : mg "TRUE" = some (.ref (ga K "TRUE")) := (T.tp _ (List.mem_of_getElem? (i := 9) rfl)).1
theorem tt_TRUE (H : Hp) : SqT K H (ga K "TRUE") [.int 3] := (T.tp _ (List.mem_of_getElem? (i := 9) rfl)).2 H
theorem tg_GOALS : mg "GOALS" = some (.ref (ga K "GOALS")) := (T.tp _ (List.mem_of_getElem? (i := 10) rfl)).1
theorem tt_GOALS (H : Hp) : SqT K H (ga K "GOALS") [.str "ticked", .str "unticked", .str "disabled", .str "enabled", .str "followed", .str "submitted", .str "changed", .str "cancelled"] := (T.tp _ (List.mem_of_getElem? (i := 10) rfl)).2 H
theorem cl_Page : Cls K (ga K "Page") := T.cl _ (List.mem_of_getElem? (i := 0) rfl)
theorem mk_Page : Mk K (ga K "Page") (ma K (ga K "Page") "__init__") := T.mkr _ (List.mem_of_getElem? (i := 0) rfl)
theorem cl_State : Cls K (ga K "State") := T.cl _ (List.mem_of_getElem? (i := 1) rfl)
theorem mk_State : Mk K (ga K "State") (ma K (ga K "State") "__init__") := T.mkr _ (List.mem_of_getElem? (i := 1) rfl)
theorem cl_Session : Cls K (ga K "Session") := T.cl _ (List.mem_of_getElem? (i := 2) rfl)
theorem mk_Session : Mk K (ga K "Session") (ma K (ga K "Session") "__init__") := T.mkr _ (List.mem_of_getElem? (i := 2) rfl)
theorem cl_Request : Cls K (ga K "Request") := T.cl _ (List.mem_of_getElem? (i := 3) rfl)
theorem mk_Request : Mk K (ga K "Request") (ma K (ga K "Request") "__init__") := T.mkr _ (List.mem_of_getElem? (i := 3) rfl)
theorem cl_Library : Cls K (ga K "Library") := T.cl _ (List.mem_of_getElem? (i := 4) rfl)
theorem mk_Library : Mk K (ga K "Library") (ma K (ga K "Library") "__init__") := T.mkr _ (List.mem_of_getElem? (i := 4) rfl)
theorem na_Unreadable_reason : NoAttr K (ga K "Unreadable") "reason" := T.na _ (List.mem_of_getElem? (i := 0) rfl)
theorem na_Page_things : NoAttr K (ga K "Page") "things" := T.na _ (List.mem_of_getElem? (i := 1) rfl)
theorem na_Page_on : NoAttr K (ga K "Page") "on" := T.na _ (List.mem_of_getElem? (i := 2) rfl)
theorem na_Page_disabled : NoAttr K (ga K "Page") "disabled" := T.na _ (List.mem_of_getElem? (i := 3) rfl)
theorem na_Page_listeners : NoAttr K (ga K "Page") "listeners" := T.na _ (List.mem_of_getElem? (i := 4) rfl)
theorem na_State_page : NoAttr K (ga K "State") "page" := T.na _ (List.mem_of_getElem? (i := 5) rfl)
theorem na_State_on : NoAttr K (ga K "State") "on" := T.na _ (List.mem_of_getElem? (i := 6) rfl)
theorem na_State_disabled : NoAttr K (ga K "State") "disabled" := T.na _ (List.mem_of_getElem? (i := 7) rfl)
theorem na_State_gone : NoAttr K (ga K "State") "gone" := T.na _ (List.mem_of_getElem? (i := 8) rfl)
theorem na_State_log : NoAttr K (ga K "State") "log" := T.na _ (List.mem_of_getElem? (i := 9) rfl)
theorem na_State_within : NoAttr K (ga K "State") "within" := T.na _ (List.mem_of_getElem? (i := 10) rfl)
theorem na_Session_page : NoAttr K (ga K "Session") "page" := T.na _ (List.mem_of_getElem? (i := 11) rfl)
theorem na_Session_states : NoAttr K (ga K "Session") "states" := T.na _ (List.mem_of_getElem? (i := 12) rfl)
theorem na_Request_octets : NoAttr K (ga K "Request") "octets" := T.na _ (List.mem_of_getElem? (i := 13) rfl)
theorem na_Request_at : NoAttr K (ga K "Request") "at" := T.na _ (List.mem_of_getElem? (i := 14) rfl)
theorem na_Refused_order : NoAttr K (ga K "Refused") "order" := T.na _ (List.mem_of_getElem? (i := 15) rfl)
theorem na_Refused_message : NoAttr K (ga K "Refused") "message" := T.na _ (List.mem_of_getElem? (i := 16) rfl)
theorem na_Refused_further : NoAttr K (ga K "Refused") "further" := T.na _ (List.mem_of_getElem? (i := 17) rfl)
theorem na_Library_pages : NoAttr K (ga K "Library") "pages" := T.na _ (List.mem_of_getElem? (i := 18) rfl)
theorem na_Library_sessions : NoAttr K (ga K "Library") "sessions" := T.na _ (List.mem_of_getElem? (i := 19) rfl)
theorem na_Library_rows : NoAttr K (ga K "Library") "rows" := T.na _ (List.mem_of_getElem? (i := 20) rfl)
theorem me_Page_number : Meth K (ga K "Page") "number" (ma K (ga K "Page") "number") := T.me _ (List.mem_of_getElem? (i := 0) rfl)
theorem me_Page_kind : Meth K (ga K "Page") "kind" (ma K (ga K "Page") "kind") := T.me _ (List.mem_of_getElem? (i := 1) rfl)
theorem me_Page_read_line : Meth K (ga K "Page") "read_line" (ma K (ga K "Page") "read_line") := T.me _ (List.mem_of_getElem? (i := 2) rfl)
theorem me_Page_read_item : Meth K (ga K "Page") "read_item" (ma K (ga K "Page") "read_item") := T.me _ (List.mem_of_getElem? (i := 3) rfl)
theorem me_Page_is_group_on : Meth K (ga K "Page") "is_group_on" (ma K (ga K "Page") "is_group_on") := T.me _ (List.mem_of_getElem? (i := 4) rfl)
theorem me_Page_group_of : Meth K (ga K "Page") "group_of" (ma K (ga K "Page") "group_of") := T.me _ (List.mem_of_getElem? (i := 5) rfl)
theorem me_Page_read_mark : Meth K (ga K "Page") "read_mark" (ma K (ga K "Page") "read_mark") := T.me _ (List.mem_of_getElem? (i := 6) rfl)
theorem me_Page_read_listener : Meth K (ga K "Page") "read_listener" (ma K (ga K "Page") "read_listener") := T.me _ (List.mem_of_getElem? (i := 7) rfl)
theorem me_Page_path : Meth K (ga K "Page") "path" (ma K (ga K "Page") "path") := T.me _ (List.mem_of_getElem? (i := 8) rfl)
theorem me_Page_activated : Meth K (ga K "Page") "activated" (ma K (ga K "Page") "activated") := T.me _ (List.mem_of_getElem? (i := 9) rfl)
theorem me_Page_control : Meth K (ga K "Page") "control" (ma K (ga K "Page") "control") := T.me _ (List.mem_of_getElem? (i := 10) rfl)
theorem me_Page_lines : Meth K (ga K "Page") "lines" (ma K (ga K "Page") "lines") := T.me _ (List.mem_of_getElem? (i := 11) rfl)
theorem me_State_copied : Meth K (ga K "State") "copied" (ma K (ga K "State") "copied") := T.me _ (List.mem_of_getElem? (i := 12) rfl)
theorem me_State_tick : Meth K (ga K "State") "tick" (ma K (ga K "State") "tick") := T.me _ (List.mem_of_getElem? (i := 13) rfl)
theorem me_State_by_user : Meth K (ga K "State") "by_user" (ma K (ga K "State") "by_user") := T.me _ (List.mem_of_getElem? (i := 14) rfl)
theorem me_State_by_page : Meth K (ga K "State") "by_page" (ma K (ga K "State") "by_page") := T.me _ (List.mem_of_getElem? (i := 15) rfl)
theorem me_State_click : Meth K (ga K "State") "click" (ma K (ga K "State") "click") := T.me _ (List.mem_of_getElem? (i := 16) rfl)
theorem me_State_dispatch : Meth K (ga K "State") "dispatch" (ma K (ga K "State") "dispatch") := T.me _ (List.mem_of_getElem? (i := 17) rfl)
theorem me_State_heard : Meth K (ga K "State") "heard" (ma K (ga K "State") "heard") := T.me _ (List.mem_of_getElem? (i := 18) rfl)
theorem me_State_act : Meth K (ga K "State") "act" (ma K (ga K "State") "act") := T.me _ (List.mem_of_getElem? (i := 19) rfl)
theorem me_State_take_back : Meth K (ga K "State") "take_back" (ma K (ga K "State") "take_back") := T.me _ (List.mem_of_getElem? (i := 20) rfl)
theorem me_State_activate : Meth K (ga K "State") "activate" (ma K (ga K "State") "activate") := T.me _ (List.mem_of_getElem? (i := 21) rfl)
theorem me_Session_now : Meth K (ga K "Session") "now" (ma K (ga K "Session") "now") := T.me _ (List.mem_of_getElem? (i := 22) rfl)
theorem me_Session_many : Meth K (ga K "Session") "many" (ma K (ga K "Session") "many") := T.me _ (List.mem_of_getElem? (i := 23) rfl)
theorem me_Session_press : Meth K (ga K "Session") "press" (ma K (ga K "Session") "press") := T.me _ (List.mem_of_getElem? (i := 24) rfl)
theorem me_Session_undo : Meth K (ga K "Session") "undo" (ma K (ga K "Session") "undo") := T.me _ (List.mem_of_getElem? (i := 25) rfl)
theorem me_Request_number : Meth K (ga K "Request") "number" (ma K (ga K "Request") "number") := T.me _ (List.mem_of_getElem? (i := 26) rfl)
theorem me_Request_plain : Meth K (ga K "Request") "plain" (ma K (ga K "Request") "plain") := T.me _ (List.mem_of_getElem? (i := 27) rfl)
theorem me_Request_value : Meth K (ga K "Request") "value" (ma K (ga K "Request") "value") := T.me _ (List.mem_of_getElem? (i := 28) rfl)
theorem me_Request_whole : Meth K (ga K "Request") "whole" (ma K (ga K "Request") "whole") := T.me _ (List.mem_of_getElem? (i := 29) rfl)
theorem me_Library_create : Meth K (ga K "Library") "create" (ma K (ga K "Library") "create") := T.me _ (List.mem_of_getElem? (i := 30) rfl)
theorem me_Library_on_rows : Meth K (ga K "Library") "on_rows" (ma K (ga K "Library") "on_rows") := T.me _ (List.mem_of_getElem? (i := 31) rfl)
theorem me_Library_on_session : Meth K (ga K "Library") "on_session" (ma K (ga K "Library") "on_session") := T.me _ (List.mem_of_getElem? (i := 32) rfl)
theorem me_Library_call : Meth K (ga K "Library") "call" (ma K (ga K "Library") "call") := T.me _ (List.mem_of_getElem? (i := 33) rfl)
theorem ex_Unreadable : OexC K (ga K "Unreadable") ∧ XfC K (ga K "Unreadable") ∧ PySem.W.findIn K (.ref (ga K "Unreadable")) "__init__" = some (some (.ref (ma K (ga K "Unreadable") "__init__"))) ∧ PySem.W.typeIn K (.ref (ma K (ga K "Unreadable") "__init__")) = some (.type "function") ∧ PySem.W.exmOne K (.ref (ga K "Unreadable")) (.ref (ga K "Unreadable")) = some true := T.ex _ (List.mem_of_getElem? (i := 0) rfl)
theorem ex_Refused : OexC K (ga K "Refused") ∧ XfC K (ga K "Refused") ∧ PySem.W.findIn K (.ref (ga K "Refused")) "__init__" = some (some (.ref (ma K (ga K "Refused") "__init__"))) ∧ PySem.W.typeIn K (.ref (ma K (ga K "Refused") "__init__")) = some (.type "function") ∧ PySem.W.exmOne K (.ref (ga K "Refused")) (.ref (ga K "Refused")) = some true := T.ex _ (List.mem_of_getElem? (i := 1) rfl)
end
/-! ### the fields of the classes, in the order in which __init__ sets them -/
theorem lk_here {k : Str} {v : V} {r : List (Str × V)} : List.lookup k ((k, v) :: r) = some v := by
  have e : (k == k) = true := beq_self_eq_true k
  simp only [List.lookup, e]
theorem lk_past {k g : Str} {v : V} {r : List (Str × V)} (h : (k == g) = false) : List.lookup k ((g, v) :: r) = List.lookup k r := by
  simp only [List.lookup, h]
theorem pf_here {f : Str} {v x : V} {r : List (Str × V)} : putF f v ((f, x) :: r) = (f, v) :: r := if_pos rfl
theorem pf_past {f g : Str} {v x : V} {r : List (Str × V)} (h : ¬ g = f) : putF f v ((g, x) :: r) = (g, x) :: putF f v r := if_neg h
abbrev FPage (v0 v1 v2 v3 : V) : List (Str × V) := [("things", v0), ("on", v1), ("disabled", v2), ("listeners", v3)]
section
variable {v0 v1 v2 v3 y : V}
theorem fl_Page_things : List.lookup ("things" : Str) (FPage v0 v1 v2 v3) = some v0 := lk_here
theorem fp_Page_things : putF ("things" : Str) y (FPage v0 v1 v2 v3) = FPage y v1 v2 v3 := pf_here
theorem fi_Page_things : putF ("things" : Str) y ([] : List (Str × V)) = ([("things", y)] : List (Str × V)) := rfl
theorem fl_Page_on : List.lookup ("on" : Str) (FPage v0 v1 v2 v3) = some v1 := (lk_past (by decide +kernel)).trans (lk_here)
theorem fp_Page_on : putF ("on" : Str) y (FPage v0 v1 v2 v3) = FPage v0 y v2 v3 := (pf_past (by decide +kernel)).trans (congrArg _ (pf_here))
theorem fi_Page_on : putF ("on" : Str) y ([("things", v0)] : List (Str × V)) = ([("things", v0), ("on", y)] : List (Str × V)) := (pf_past (by decide +kernel)).trans (congrArg _ (rfl))
theorem fl_Page_disabled : List.lookup ("disabled" : Str) (FPage v0 v1 v2 v3) = some v2 := (lk_past (by decide +kernel)).trans ((lk_past (by decide +kernel)).trans (lk_here))
theorem fp_Page_disabled : putF ("disabled" : Str) y (FPage v0 v1 v2 v3) = FPage v0 v1 y v3 := (pf_past (by decide +kernel)).trans (congrArg _ ((pf_past (by decide +kernel)).trans (congrArg _ (pf_here))))
theorem fi_Page_disabled : putF ("disabled" : Str) y ([("things", v0), ("on", v1)] : List (Str × V)) = ([("things", v0), ("on", v1), ("disabled", y)] : List (Str × V)) := (pf_past (by decide +kernel)).trans (congrArg _ ((pf_past (by decide +kernel)).trans (congrArg _ (rfl))))
theorem fl_Page_listeners : List.lookup ("listeners" : Str) (FPage v0 v1 v2 v3) = some v3 := (lk_past (by decide +kernel)).trans ((lk_past (by decide +kernel)).trans ((lk_past (by decide +kernel)).trans (lk_here)))
theorem fp_Page_listeners : putF ("listeners" : Str) y (FPage v0 v1 v2 v3) = FPage v0 v1 v2 y := (pf_past (by decide +kernel)).trans (congrArg _ ((pf_past (by decide +kernel)).trans (congrArg _ ((pf_past (by decide +kernel)).trans (congrArg _ (pf_here))))))
theorem fi_Page_listeners : putF ("listeners" : Str) y ([("things", v0), ("on", v1), ("disabled", v2)] : List (Str × V)) = ([("things", v0), ("on", v1), ("disabled", v2), ("listeners", y)] : List (Str × V)) := (pf_past (by decide +kernel)).trans (congrArg _ ((pf_past (by decide +kernel)).trans (congrArg _ ((pf_past (by decide +kernel)).trans (congrArg _ (rfl))))))
theorem fm_Page_number : List.lookup ("number" : Str) (FPage v0 v1 v2 v3) = none := (lk_past (by decide +kernel)).trans ((lk_past (by decide +kernel)).trans ((lk_past (by decide +kernel)).trans ((lk_past (by decide +kernel)).trans (rfl))))
theorem fm_Page_kind : List.lookup ("kind" : Str) (FPage v0 v1 v2 v3) = none := (lk_past (by decide +kernel)).trans ((lk_past (by decide +kernel)).trans ((lk_past (by decide +kernel)).trans ((lk_past (by decide +kernel)).trans (rfl))))
theorem fm_Page_read_line : List.lookup ("read_line" : Str) (FPage v0 v1 v2 v3) = none := (lk_past (by decide +kernel)).trans ((lk_past (by decide +kernel)).trans ((lk_past (by decide +kernel)).trans ((lk_past (by decide +kernel)).trans (rfl))))
theorem fm_Page_read_item : List.lookup ("read_item" : Str) (FPage v0 v1 v2 v3) = none := (lk_past (by decide +kernel)).trans ((lk_past (by decide +kernel)).trans ((lk_past (by decide +kernel)).trans ((lk_past (by decide +kernel)).trans (rfl))))
theorem fm_Page_is_group_on : List.lookup ("is_group_on" : Str) (FPage v0 v1 v2 v3) = none := (lk_past (by decide +kernel)).trans ((lk_past (by decide +kernel)).trans ((lk_past (by decide +kernel)).trans ((lk_past (by decide +kernel)).trans (rfl))))
theorem fm_Page_group_of : List.lookup ("group_of" : Str) (FPage v0 v1 v2 v3) = none := (lk_past (by decide +kernel)).trans ((lk_past (by decide +kernel)).trans ((lk_past (by decide +kernel)).trans ((lk_past (by decide +kernel)).trans (rfl))))
theorem fm_Page_read_mark : List.lookup ("read_mark" : Str) (FPage v0 v1 v2 v3) = none := (lk_past (by decide +kernel)).trans ((lk_past (by decide +kernel)).trans ((lk_past (by decide +kernel)).trans ((lk_past (by decide +kernel)).trans (rfl))))
theorem fm_Page_read_listener : List.lookup ("read_listener" : Str) (FPage v0 v1 v2 v3) = none := (lk_past (by decide +kernel)).trans ((lk_past (by decide +kernel)).trans ((lk_past (by decide +kernel)).trans ((lk_past (by decide +kernel)).trans (rfl))))
theorem fm_Page_path : List.lookup ("path" : Str) (FPage v0 v1 v2 v3) = none := (lk_past (by decide +kernel)).trans ((lk_past (by decide +kernel)).trans ((lk_past (by decide +kernel)).trans ((lk_past (by decide +kernel)).trans (rfl))))
theorem fm_Page_activated : List.lookup ("activated" : Str) (FPage v0 v1 v2 v3) = none := (lk_past (by decide +kernel)).trans ((lk_past (by decide +kernel)).trans ((lk_past (by decide +kernel)).trans ((lk_past (by decide +kernel)).trans (rfl))))
theorem fm_Page_control : List.lookup ("control" : Str) (FPage v0 v1 v2 v3) = none := (lk_past (by decide +kernel)).trans ((lk_past (by decide +kernel)).trans ((lk_past (by decide +kernel)).trans ((lk_past (by decide +kernel)).trans (rfl))))
theorem fm_Page_lines : List.lookup ("lines" : Str) (FPage v0 v1 v2 v3) = none := (lk_past (by decide +kernel)).trans ((lk_past (by decide +kernel)).trans ((lk_past (by decide +kernel)).trans ((lk_past (by decide +kernel)).trans (rfl))))
end
abbrev FState (v0 v1 v2 v3 v4 v5 : V) : List (Str × V) := [("page", v0), ("on", v1), ("disabled", v2), ("gone", v3), ("log", v4), ("within", v5)]
section
variable {v0 v1 v2 v3 v4 v5 y : V}
theorem fl_State_page : List.lookup ("page" : Str) (FState v0 v1 v2 v3 v4 v5) = some v0 := lk_here
theorem fp_State_page : putF ("page" : Str) y (FState v0 v1 v2 v3 v4 v5) = FState y v1 v2 v3 v4 v5 := pf_here
theorem fi_State_page : putF ("page" : Str) y ([] : List (Str × V)) = ([("page", y)] : List (Str × V)) := rfl
theorem fl_State_on : List.lookup ("on" : Str) (FState v0 v1 v2 v3 v4 v5) = some v1 := (lk_past (by decide +kernel)).trans (lk_here)
theorem fp_State_on : putF ("on" : Str) y (FState v0 v1 v2 v3 v4 v5) = FState v0 y v2 v3 v4 v5 := (pf_past (by decide +kernel)).trans (congrArg _ (pf_here))
theorem fi_State_on : putF ("on" : Str) y ([("page", v0)] : List (Str × V)) = ([("page", v0), ("on", y)] : List (Str × V)) := (pf_past (by decide +kernel)).trans (congrArg _ (rfl))
theorem fl_State_disabled : List.lookup ("disabled" : Str) (FState v0 v1 v2 v3 v4 v5) = some v2 := (lk_past (by decide +kernel)).trans ((lk_past (by decide +kernel)).trans (lk_here))
theorem fp_State_disabled : putF ("disabled" : Str) y (FState v0 v1 v2 v3 v4 v5) = FState v0 v1 y v3 v4 v5 := (pf_past (by decide +kernel)).trans (congrArg _ ((pf_past (by decide +kernel)).trans (congrArg _ (pf_here))))
theorem fi_State_disabled : putF ("disabled" : Str) y ([("page", v0), ("on", v1)] : List (Str × V)) = ([("page", v0), ("on", v1), ("disabled", y)] : List (Str × V)) := (pf_past (by decide +kernel)).trans (congrArg _ ((pf_past (by decide +kernel)).trans (congrArg _ (rfl))))
theorem fl_State_gone : List.lookup ("gone" : Str) (FState v0 v1 v2 v3 v4 v5) = some v3 := (lk_past (by decide +kernel)).trans ((lk_past (by decide +kernel)).trans ((lk_past (by decide +kernel)).trans (lk_here)))
theorem fp_State_gone : putF ("gone" : Str) y (FState v0 v1 v2 v3 v4 v5) = FState v0 v1 v2 y v4 v5 := (pf_past (by decide +kernel)).trans (congrArg _ ((pf_past (by decide +kernel)).trans (congrArg _ ((pf_past (by decide +kernel)).trans (congrArg _ (pf_here))))))
theorem fi_State_gone : putF ("gone" : Str) y ([("page", v0), ("on", v1), ("disabled", v2)] : List (Str × V)) = ([("page", v0), ("on", v1), ("disabled", v2), ("gone", y)] : List (Str × V)) := (pf_past (by decide +kernel)).trans (congrArg _ ((pf_past (by decide +kernel)).trans (congrArg _ ((pf_past (by decide +kernel)).trans (congrArg _ (rfl))))))
theorem fl_State_log : List.lookup ("log" : Str) (FState v0 v1 v2 v3 v4 v5) = some v4 := (lk_past (by decide +kernel)).trans ((lk_past (by decide +kernel)).trans ((lk_past (by decide +kernel)).trans ((lk_past (by decide +kernel)).trans (lk_here))))
theorem fp_State_log : putF ("log" : Str) y (FState v0 v1 v2 v3 v4 v5) = FState v0 v1 v2 v3 y v5 := (pf_past (by decide +kernel)).trans (congrArg _ ((pf_past (by decide +kernel)).trans (congrArg _ ((pf_past (by decide +kernel)).trans (congrArg _ ((pf_past (by decide +kernel)).trans (congrArg _ (pf_here))))))))
theorem fi_State_log : putF ("log" : Str) y ([("page", v0), ("on", v1), ("disabled", v2), ("gone", v3)] : List (Str × V)) = ([("page", v0), ("on", v1), ("disabled", v2), ("gone", v3), ("log", y)] : List (Str × V)) := (pf_past (by decide +kernel)).trans (congrArg _ ((pf_past (by decide +kernel)).trans (congrArg _ ((pf_past (by decide +kernel)).trans (congrArg _ ((pf_past (by decide +kernel)).trans (congrArg _ (rfl))))))))
theorem fl_State_within : List.lookup ("within" : Str) (FState v0 v1 v2 v3 v4 v5) = some v5 := (lk_past (by decide +kernel)).trans ((lk_past (by decide +kernel)).trans ((lk_past (by decide +kernel)).trans ((lk_past (by decide +kernel)).trans ((lk_past (by decide +kernel)).trans (lk_here)))))
theorem fp_State_within : putF ("within" : Str) y (FState v0 v1 v2 v3 v4 v5) = FState v0 v1 v2 v3 v4 y := (pf_past (by decide +kernel)).trans (congrArg _ ((pf_past (by decide +kernel)).trans (congrArg _ ((pf_past (by decide +kernel)).trans (congrArg _ ((pf_past (by decide +kernel)).trans (congrArg _ ((pf_past (by decide +kernel)).trans (congrArg _ (pf_here))))))))))
theorem fi_State_within : putF ("within" : Str) y ([("page", v0), ("on", v1), ("disabled", v2), ("gone", v3), ("log", v4)] : List (Str × V)) = ([("page", v0), ("on", v1), ("disabled", v2), ("gone", v3), ("log", v4), ("within", y)] : List (Str × V)) := (pf_past (by decide +kernel)).trans (congrArg _ ((pf_past (by decide +kernel)).trans (congrArg _ ((pf_past (by decide +kernel)).trans (congrArg _ ((pf_past (by decide +kernel)).trans (congrArg _ ((pf_past (by decide +kernel)).trans (congrArg _ (rfl))))))))))
theorem fm_State_copied : List.lookup ("copied" : Str) (FState v0 v1 v2 v3 v4 v5) = none := (lk_past (by decide +kernel)).trans ((lk_past (by decide +kernel)).trans ((lk_past (by decide +kernel)).trans ((lk_past (by decide +kernel)).trans ((lk_past (by decide +kernel)).trans ((lk_past (by decide +kernel)).trans (rfl))))))
theorem fm_State_tick : List.lookup ("tick" : Str) (FState v0 v1 v2 v3 v4 v5) = none := (lk_past (by decide +kernel)).trans ((lk_past (by decide +kernel)).trans ((lk_past (by decide +kernel)).trans ((lk_past (by decide +kernel)).trans ((lk_past (by decide +kernel)).trans ((lk_past (by decide +kernel)).trans (rfl))))))
theorem fm_State_by_user : List.lookup ("by_user" : Str) (FState v0 v1 v2 v3 v4 v5) = none := (lk_past (by decide +kernel)).trans ((lk_past (by decide +kernel)).trans ((lk_past (by decide +kernel)).trans ((lk_past (by decide +kernel)).trans ((lk_past (by decide +kernel)).trans ((lk_past (by decide +kernel)).trans (rfl))))))
theorem fm_State_by_page : List.lookup ("by_page" : Str) (FState v0 v1 v2 v3 v4 v5) = none := (lk_past (by decide +kernel)).trans ((lk_past (by decide +kernel)).trans ((lk_past (by decide +kernel)).trans ((lk_past (by decide +kernel)).trans ((lk_past (by decide +kernel)).trans ((lk_past (by decide +kernel)).trans (rfl))))))
theorem fm_State_click : List.lookup ("click" : Str) (FState v0 v1 v2 v3 v4 v5) = none := (lk_past (by decide +kernel)).trans ((lk_past (by decide +kernel)).trans ((lk_past (by decide +kernel)).trans ((lk_past (by decide +kernel)).trans ((lk_past (by decide +kernel)).trans ((lk_past (by decide +kernel)).trans (rfl))))))
theorem fm_State_dispatch : List.lookup ("dispatch" : Str) (FState v0 v1 v2 v3 v4 v5) = none := (lk_past (by decide +kernel)).trans ((lk_past (by decide +kernel)).trans ((lk_past (by decide +kernel)).trans ((lk_past (by decide +kernel)).trans ((lk_past (by decide +kernel)).trans ((lk_past (by decide +kernel)).trans (rfl))))))
theorem fm_State_heard : List.lookup ("heard" : Str) (FState v0 v1 v2 v3 v4 v5) = none := (lk_past (by decide +kernel)).trans ((lk_past (by decide +kernel)).trans ((lk_past (by decide +kernel)).trans ((lk_past (by decide +kernel)).trans ((lk_past (by decide +kernel)).trans ((lk_past (by decide +kernel)).trans (rfl))))))
theorem fm_State_act : List.lookup ("act" : Str) (FState v0 v1 v2 v3 v4 v5) = none := (lk_past (by decide +kernel)).trans ((lk_past (by decide +kernel)).trans ((lk_past (by decide +kernel)).trans ((lk_past (by decide +kernel)).trans ((lk_past (by decide +kernel)).trans ((lk_past (by decide +kernel)).trans (rfl))))))
theorem fm_State_take_back : List.lookup ("take_back" : Str) (FState v0 v1 v2 v3 v4 v5) = none := (lk_past (by decide +kernel)).trans ((lk_past (by decide +kernel)).trans ((lk_past (by decide +kernel)).trans ((lk_past (by decide +kernel)).trans ((lk_past (by decide +kernel)).trans ((lk_past (by decide +kernel)).trans (rfl))))))
theorem fm_State_activate : List.lookup ("activate" : Str) (FState v0 v1 v2 v3 v4 v5) = none := (lk_past (by decide +kernel)).trans ((lk_past (by decide +kernel)).trans ((lk_past (by decide +kernel)).trans ((lk_past (by decide +kernel)).trans ((lk_past (by decide +kernel)).trans ((lk_past (by decide +kernel)).trans (rfl))))))
end
abbrev FSession (v0 v1 : V) : List (Str × V) := [("page", v0), ("states", v1)]
section
variable {v0 v1 y : V}
theorem fl_Session_page : List.lookup ("page" : Str) (FSession v0 v1) = some v0 := lk_here
theorem fp_Session_page : putF ("page" : Str) y (FSession v0 v1) = FSession y v1 := pf_here
theorem fi_Session_page : putF ("page" : Str) y ([] : List (Str × V)) = ([("page", y)] : List (Str × V)) := rfl
theorem fl_Session_states : List.lookup ("states" : Str) (FSession v0 v1) = some v1 := (lk_past (by decide +kernel)).trans (lk_here)
theorem fp_Session_states : putF ("states" : Str) y (FSession v0 v1) = FSession v0 y := (pf_past (by decide +kernel)).trans (congrArg _ (pf_here))
theorem fi_Session_states : putF ("states" : Str) y ([("page", v0)] : List (Str × V)) = ([("page", v0), ("states", y)] : List (Str × V)) := (pf_past (by decide +kernel)).trans (congrArg _ (rfl))
theorem fm_Session_now : List.lookup ("now" : Str) (FSession v0 v1) = none := (lk_past (by decide +kernel)).trans ((lk_past (by decide +kernel)).trans (rfl))
theorem fm_Session_many : List.lookup ("many" : Str) (FSession v0 v1) = none := (lk_past (by decide +kernel)).trans ((lk_past (by decide +kernel)).trans (rfl))
theorem fm_Session_press : List.lookup ("press" : Str) (FSession v0 v1) = none := (lk_past (by decide +kernel)).trans ((lk_past (by decide +kernel)).trans (rfl))
theorem fm_Session_undo : List.lookup ("undo" : Str) (FSession v0 v1) = none := (lk_past (by decide +kernel)).trans ((lk_past (by decide +kernel)).trans (rfl))
end
abbrev FRequest (v0 v1 : V) : List (Str × V) := [("octets", v0), ("at", v1)]
section
variable {v0 v1 y : V}
theorem fl_Request_octets : List.lookup ("octets" : Str) (FRequest v0 v1) = some v0 := lk_here
theorem fp_Request_octets : putF ("octets" : Str) y (FRequest v0 v1) = FRequest y v1 := pf_here
theorem fi_Request_octets : putF ("octets" : Str) y ([] : List (Str × V)) = ([("octets", y)] : List (Str × V)) := rfl
theorem fl_Request_at : List.lookup ("at" : Str) (FRequest v0 v1) = some v1 := (lk_past (by decide +kernel)).trans (lk_here)
theorem fp_Request_at : putF ("at" : Str) y (FRequest v0 v1) = FRequest v0 y := (pf_past (by decide +kernel)).trans (congrArg _ (pf_here))
theorem fi_Request_at : putF ("at" : Str) y ([("octets", v0)] : List (Str × V)) = ([("octets", v0), ("at", y)] : List (Str × V)) := (pf_past (by decide +kernel)).trans (congrArg _ (rfl))
theorem fm_Request_number : List.lookup ("number" : Str) (FRequest v0 v1) = none := (lk_past (by decide +kernel)).trans ((lk_past (by decide +kernel)).trans (rfl))
theorem fm_Request_plain : List.lookup ("plain" : Str) (FRequest v0 v1) = none := (lk_past (by decide +kernel)).trans ((lk_past (by decide +kernel)).trans (rfl))
theorem fm_Request_value : List.lookup ("value" : Str) (FRequest v0 v1) = none := (lk_past (by decide +kernel)).trans ((lk_past (by decide +kernel)).trans (rfl))
theorem fm_Request_whole : List.lookup ("whole" : Str) (FRequest v0 v1) = none := (lk_past (by decide +kernel)).trans ((lk_past (by decide +kernel)).trans (rfl))
end
abbrev FLibrary (v0 v1 v2 : V) : List (Str × V) := [("pages", v0), ("sessions", v1), ("rows", v2)]
section
variable {v0 v1 v2 y : V}
theorem fl_Library_pages : List.lookup ("pages" : Str) (FLibrary v0 v1 v2) = some v0 := lk_here
theorem fp_Library_pages : putF ("pages" : Str) y (FLibrary v0 v1 v2) = FLibrary y v1 v2 := pf_here
theorem fi_Library_pages : putF ("pages" : Str) y ([] : List (Str × V)) = ([("pages", y)] : List (Str × V)) := rfl
theorem fl_Library_sessions : List.lookup ("sessions" : Str) (FLibrary v0 v1 v2) = some v1 := (lk_past (by decide +kernel)).trans (lk_here)
theorem fp_Library_sessions : putF ("sessions" : Str) y (FLibrary v0 v1 v2) = FLibrary v0 y v2 := (pf_past (by decide +kernel)).trans (congrArg _ (pf_here))
theorem fi_Library_sessions : putF ("sessions" : Str) y ([("pages", v0)] : List (Str × V)) = ([("pages", v0), ("sessions", y)] : List (Str × V)) := (pf_past (by decide +kernel)).trans (congrArg _ (rfl))
theorem fl_Library_rows : List.lookup ("rows" : Str) (FLibrary v0 v1 v2) = some v2 := (lk_past (by decide +kernel)).trans ((lk_past (by decide +kernel)).trans (lk_here))
theorem fp_Library_rows : putF ("rows" : Str) y (FLibrary v0 v1 v2) = FLibrary v0 v1 y := (pf_past (by decide +kernel)).trans (congrArg _ ((pf_past (by decide +kernel)).trans (congrArg _ (pf_here))))
theorem fi_Library_rows : putF ("rows" : Str) y ([("pages", v0), ("sessions", v1)] : List (Str × V)) = ([("pages", v0), ("sessions", v1), ("rows", y)] : List (Str × V)) := (pf_past (by decide +kernel)).trans (congrArg _ ((pf_past (by decide +kernel)).trans (congrArg _ (rfl))))
theorem fm_Library_create : List.lookup ("create" : Str) (FLibrary v0 v1 v2) = none := (lk_past (by decide +kernel)).trans ((lk_past (by decide +kernel)).trans ((lk_past (by decide +kernel)).trans (rfl)))
theorem fm_Library_on_rows : List.lookup ("on_rows" : Str) (FLibrary v0 v1 v2) = none := (lk_past (by decide +kernel)).trans ((lk_past (by decide +kernel)).trans ((lk_past (by decide +kernel)).trans (rfl)))
theorem fm_Library_on_session : List.lookup ("on_session" : Str) (FLibrary v0 v1 v2) = none := (lk_past (by decide +kernel)).trans ((lk_past (by decide +kernel)).trans ((lk_past (by decide +kernel)).trans (rfl)))
theorem fm_Library_call : List.lookup ("call" : Str) (FLibrary v0 v1 v2) = none := (lk_past (by decide +kernel)).trans ((lk_past (by decide +kernel)).trans ((lk_past (by decide +kernel)).trans (rfl)))
end
end Ck
namespace Ck
open PySem PySem.Spec PyProof.Rows L2
open He (ga ma fAd)
/-! ### a def that keeps its promise, by its place in the text -/
structure Has (P : Program) (w : World) (K : PySem.W.Frag) (mg : Str → Option Value) (base : Heap) (CX : CXT) (k : Nat) (at_ : Str × Option Str) (ps : List Str) (sp : Sp) : Prop where
  ex : ∃ fd, FnOk P w K mg base CX k (fAd K at_) fd ps sp ∧ Binds K fd ps []
  kp : PySem.W.keepIn K (.ref (fAd K at_)) = true
section
variable {P : Program} {w : World} {K : PySem.W.Frag} {mg : Str → Option Value} {base : Heap} {CX : CXT} {k : Nat} {at_ : Str × Option Str} {ps N : List Str} {sp sp' : Sp}
theorem Has.mono {j : Nat} (h : Has P w K mg base CX j at_ ps sp) (hj : j ≤ k) : Has P w K mg base CX k at_ ps sp := by
  obtain ⟨⟨fd, F, b⟩, kp⟩ := h
  exact ⟨⟨fd, F.mono hj, b⟩, kp⟩
theorem mk_has {d : He.DefD} (T : Txt K mg) (i : Nat) (hd : fnL[i]? = some d) (e1 : d.dfl = []) (e2 : d.kwd = []) (S : FnScope N ps d.scope)
    (hb : ∀ (kV doc pm : Value) (an : Option Addr) (cdv ct : Value) (us : List Value), us.length = ps.length → bindArgs (PySem.W.fnOf d.name d.qual d.params d.body d.scope .none kV doc pm an cdv ct) ⟨us, []⟩ = pure (ps.zip us))
    (len : ∀ vs H Q E, sp vs H Q E → vs.length = ps.length)
    (hbody : ∀ (cdv : Value) (A : Around) (outer : List Env) (s : Shared) (H : Hp) (vs : List V) (Q : VK) (E : XK), Room k (A.deeper (envOfC d.qual d.scope s.heap.objs.size (fAd K d.at_) cdv)) → sp vs H Q E →
      ∃ t, PSs (cxOf CX P w K mg base N d.qual d.scope (fAd K d.at_) cdv A outer s H E) d.body t ∧ t { nx := fun _ H' => Q .non H', rt := Q } (L2.start N vs) H) :
    Has P w K mg base CX (k + 1) d.at_ ps sp := by
  obtain ⟨fd, F⟩ := T.fn d (List.mem_of_getElem? hd)
  have F' : FunD K d.name d.qual d.params d.body d.scope [] [] (fAd K d.at_) fd := by
    have a : d.dvs K = [] := by unfold He.DefD.dvs; rw [e1]; rfl
    have b : d.kws K = [] := by unfold He.DefD.kws; rw [e2]; rfl
    rw [a, b] at F
    exact F
  exact ⟨⟨fd, F'.ok S len hbody, F'.bindsN hb⟩, F'.kp⟩
end
section
variable {X : Cx} {CX : CXT} {k : Nat} {x m cx : Str} {q pos apos : Pos} {ps : List Str} {sp : Sp} {E : XK} {e o : Expr} {es : List Expr} {t : TA} {to : TE}
theorem pcall (h : Has X.prog X.w X.K X.mg X.base CX k (x, none) ps sp) (hr : Room k X.A) (hg : Gl X x) (hm : X.mg x = some (.ref (ga X.K x))) (hx : Passes CX X E) (ha : PA X (e :: es) t) (hdb : (x == ("__debug__" : Str)) = false := by decide)
    (he : starEach (e :: es) X.env = (false, eval e X.env) :: starEach es X.env := by rfl) (hpl : (backTo pos (starEach es X.env)).any (·.1) = false := by rfl) : PE X (.Call (.Name x q) (e :: es) [] pos) (tCall sp [] E t) := by
  obtain ⟨⟨fd, F, b⟩, kp⟩ := h
  exact pe_call F hr hg hm kp b .nil hx ha hdb he hpl
theorem pmeth {pl : Sem Bool} (he : PE X o to) (c : Cls X.K (ga X.K cx)) (hm : Meth X.K (ga X.K cx) m (ma X.K (ga X.K cx) m)) (h : Has X.prog X.w X.K X.mg X.base CX k (cx, some m) ps sp) (hr : Room k X.A) (hx : Passes CX X E) (ha : PA X (e :: es) t)
    (hst : starEach (e :: es) X.env = (false, eval e X.env) :: starEach es X.env := by rfl) (hpl : (backTo pos (starEach es X.env)).any (·.1) = false := by rfl)
    (ht : eval (.Call (.Attribute o m apos) (e :: es) [] pos) X.env = (do let ov ← eval o X.env; standAt apos.atName; let (f, first) ← holding [ov] (getMethod ov m pl); callWith pos f first (backTo pos (starEach (e :: es) X.env)) (backToKw pos (keywordEach [] X.env))) := by rfl) :
    PE X (.Call (.Attribute o m apos) (e :: es) [] pos) (tMeth (ga X.K cx) m sp [] E to t) := by
  obtain ⟨⟨fd, F, b⟩, kp⟩ := h
  exact pe_meth (pl := pl) he c hm F hr b .nil hx ha hst hpl ht
theorem pmeth0 {pl : Sem Bool} (he : PE X o to) (c : Cls X.K (ga X.K cx)) (hm : Meth X.K (ga X.K cx) m (ma X.K (ga X.K cx) m)) (h : Has X.prog X.w X.K X.mg X.base CX k (cx, some m) ps sp) (hr : Room k X.A) (hx : Passes CX X E)
    (ht : eval (.Call (.Attribute o m apos) [] [] pos) X.env = (do let ov ← eval o X.env; standAt apos.atName; let (f, first) ← holding [ov] (getMethod ov m pl); callWith pos f first (backTo pos (starEach [] X.env)) (backToKw pos (keywordEach [] X.env))) := by rfl) :
    PE X (.Call (.Attribute o m apos) [] [] pos) (tMeth (ga X.K cx) m sp [] E to tNil) := by
  obtain ⟨⟨fd, F, b⟩, kp⟩ := h
  exact pe_meth0 (pl := pl) he c hm F hr b .nil hx ht
theorem pmethB {K' : PySem.W.Frag} (hK : X.K = K') {pl : Sem Bool} (he : PE X o to) (c : Cls K' (ga K' cx)) (hm : Meth K' (ga K' cx) m (ma K' (ga K' cx) m)) (h : Has X.prog X.w K' X.mg X.base CX k (cx, some m) ps sp) (hr : Room k X.A) (hx : Passes CX X E) (ha : PA X (e :: es) t)
    (hst : starEach (e :: es) X.env = (false, eval e X.env) :: starEach es X.env := by rfl) (hpl : (backTo pos (starEach es X.env)).any (·.1) = false := by rfl)
    (ht : eval (.Call (.Attribute o m apos) (e :: es) [] pos) X.env = (do let ov ← eval o X.env; standAt apos.atName; let (f, first) ← holding [ov] (getMethod ov m pl); callWith pos f first (backTo pos (starEach (e :: es) X.env)) (backToKw pos (keywordEach [] X.env))) := by rfl) :
    PE X (.Call (.Attribute o m apos) (e :: es) [] pos) (tMeth (ga K' cx) m sp [] E to t) := by
  subst hK
  exact pmeth (pl := pl) he c hm h hr hx ha hst hpl ht
theorem pmethB0 {K' : PySem.W.Frag} (hK : X.K = K') {pl : Sem Bool} (he : PE X o to) (c : Cls K' (ga K' cx)) (hm : Meth K' (ga K' cx) m (ma K' (ga K' cx) m)) (h : Has X.prog X.w K' X.mg X.base CX k (cx, some m) ps sp) (hr : Room k X.A) (hx : Passes CX X E)
    (ht : eval (.Call (.Attribute o m apos) [] [] pos) X.env = (do let ov ← eval o X.env; standAt apos.atName; let (f, first) ← holding [ov] (getMethod ov m pl); callWith pos f first (backTo pos (starEach [] X.env)) (backToKw pos (keywordEach [] X.env))) := by rfl) :
    PE X (.Call (.Attribute o m apos) [] [] pos) (tMeth (ga K' cx) m sp [] E to tNil) := by
  subst hK
  exact pmeth0 (pl := pl) he c hm h hr hx ht
theorem pmake (h : Has X.prog X.w X.K X.mg X.base CX k (x, some "__init__") ps sp) (M : Mk X.K (ga X.K x) (ma X.K (ga X.K x) "__init__")) (hr : Room (k + 1) X.A) (hg : Gl X x) (hm : X.mg x = some (.ref (ga X.K x))) (hx : Passes CX X E) (ha : PA X (e :: es) t) (hdb : (x == ("__debug__" : Str)) = false := by decide)
    (he : starEach (e :: es) X.env = (false, eval e X.env) :: starEach es X.env := by rfl) (hpl : (backTo pos (starEach es X.env)).any (·.1) = false := by rfl) : PE X (.Call (.Name x q) (e :: es) [] pos) (tMake (ga X.K x) sp [] E t) := by
  obtain ⟨⟨fd, F, b⟩, kp⟩ := h
  exact pe_make M F hr hg hm b .nil hx ha hdb he hpl
theorem pmake0 (h : Has X.prog X.w X.K X.mg X.base CX k (x, some "__init__") ps sp) (M : Mk X.K (ga X.K x) (ma X.K (ga X.K x) "__init__")) (hr : Room (k + 1) X.A) (hg : Gl X x) (hm : X.mg x = some (.ref (ga X.K x))) (hx : Passes CX X E) (hdb : (x == ("__debug__" : Str)) = false := by decide) :
    PE X (.Call (.Name x q) [] [] pos) (tMake (ga X.K x) sp [] E tNil) := by
  obtain ⟨⟨fd, F, b⟩, kp⟩ := h
  exact pe_make0 M F hr hg hm b .nil hx hdb
/-- a constant of the module -/
theorem pgi {i : Int} {g : Str} (h : ∃ t, X.mg g = some (.int i t)) (hg : Gl X g) (hd : (g == ("__debug__" : Str)) = false := by decide) : PE X (.Name g q) (tC (.int i)) := by
  obtain ⟨t, h⟩ := h
  exact pe_glob (v := .int i) hg h ⟨_, rfl⟩ hd
theorem pgs {z g : Str} (h : ∃ t, X.mg g = some (.str z t)) (hg : Gl X g) (hd : (g == ("__debug__" : Str)) = false := by decide) : PE X (.Name g q) (tC (.str z)) := by
  obtain ⟨t, h⟩ := h
  exact pe_glob (v := .str z) hg h ⟨_, rfl⟩ hd
theorem pgr {a : Addr} {g : Str} (h : X.mg g = some (.ref a)) (hg : Gl X g) (hd : (g == ("__debug__" : Str)) = false := by decide) : PE X (.Name g q) (tC (.ref a)) := pe_glob (v := .ref a) hg h rfl hd
end
/-! ### the ghost: what never changes again -/
theorem Same.sqT {K : PySem.W.Frag} {H H' : Hp} {a : Addr} {xs : List V} (e : Same H H') (h : SqT K H a xs) : SqT K H' a xs := by
  rcases h with (h | ⟨o, h⟩) | h
  · exact .inl (.inl (e _ _ h))
  · exact .inl (.inr ⟨o, e _ _ h⟩)
  · exact .inr h
/-- a step from (G, H) to (G', H') that changes the objects at F alone; G is the part that stays for good -/
structure Stp (F : List Addr) (G H G' H' : Hp) : Prop where
  g : Same G G'
  s : Same G' H'
  h : ∀ b o, b ∉ F → H b = some o → H' b = some o
  d : ∀ m, H m ≠ none → G m = none → G' m = none
  t : ∀ m, H m ≠ none → H' m ≠ none
/-- G lies below H | G' comes behind G -/
class Cur (G : outParam Hp) (H : Hp) : Prop where
  s : Same G H
class Dn (G : outParam Hp) (G' : Hp) : Prop where
  s : Same G G'
class Blw (G G' : Hp) : Prop where
  s : Same G G'
instance Blw.refl {G : Hp} : Blw G G := ⟨Same.refl G⟩
instance Blw.step {G0 G G' : Hp} [a : Dn G G'] [b : Blw G0 G] : Blw G0 G' := ⟨b.s.trans a.s⟩
class On (G H : Hp) : Prop where
  s : Same G H
instance On.mk' {G0 G H : Hp} [a : Cur G H] [b : Blw G0 G] : On G0 H := ⟨b.s.trans a.s⟩
/-- a mutable object: it stands in H, out of G -/
structure Mu (G H : Hp) (l : Addr) (o : HO) : Prop where
  h : H l = some o
  g : G l = none
section
variable {F F' : List Addr} {G H G1 H1 G2 H2 G' H' : Hp} {a p l m : Addr} {o u : HO} {K : PySem.W.Frag} {xs : List V}
theorem Stp.refl (s : Same G H) : Stp F G H G H := ⟨Same.refl G, s, fun _ _ _ h => h, fun _ _ h => h, fun _ h => h⟩
theorem Stp.trans (a : Stp F G H G1 H1) (b : Stp F G1 H1 G2 H2) : Stp F G H G2 H2 :=
  ⟨a.g.trans b.g, b.s, fun c o hc h => b.h c o hc (a.h c o hc h), fun m h n => b.d m (a.t m h) (a.d m h n), fun m h => b.t m (a.t m h)⟩
theorem Stp.weak (a : Stp F G H G1 H1) (hs : ∀ b ∈ F, b ∈ F') : Stp F' G H G1 H1 := ⟨a.g, a.s, fun b o hb => a.h b o fun z => hb (hs b z), a.d, a.t⟩
theorem Stp.nil (a : Stp [] G H G1 H1) : Stp F G H G1 H1 := a.weak fun _ h => absurd h List.not_mem_nil
theorem Stp.drop (a : Stp (l :: F) G H G1 H1) (hl : H l = none) : Stp F G H G1 H1 := ⟨a.g, a.s, fun b o hb h => a.h b o (fun z => by
  rcases List.mem_cons.mp z with e | e
  · rw [e, hl] at h; cases h
  · exact hb e) h, a.d, a.t⟩
theorem Stp.same (a : Stp [] G H G1 H1) : Same H H1 := fun b o h => a.h b o List.not_mem_nil h
theorem upd_some {b : Addr} (h : H b ≠ none) : upd H a o b ≠ none := by
  by_cases e : b = a
  · rw [e, upd_same]; intro z; cases z
  · rw [upd_ne e]; exact h
/-- laid for good -/
theorem Stp.lay (s : Same G H) (hp : H p = none) : Stp F G H (upd G p o) (upd H p o) where
  g := fun b u h => by rw [upd_ne (ne_of_none h (s.free hp))]; exact h
  s := fun b u h => by
    by_cases e : b = p
    · rw [e, upd_same] at h ⊢; exact h
    · rw [upd_ne e] at h ⊢; exact s b u h
  h := fun b u _ h => by rw [upd_ne (ne_of_none h hp)]; exact h
  d := fun m h n => by
    rw [upd_ne (fun e => h (by rw [e]; exact hp))]; exact n
  t := fun m h => upd_some h
/-- laid, to be changed yet -/
theorem Stp.layM (s : Same G H) (hp : H p = none) : Stp F G H G (upd H p o) where
  g := Same.refl G
  s := fun b u h => by rw [upd_ne (ne_of_none (s b u h) hp)]; exact s b u h
  h := fun b u _ h => by rw [upd_ne (ne_of_none h hp)]; exact h
  d := fun m h n => n
  t := fun m h => upd_some h
/-- changed -/
theorem Stp.put (s : Same G H) (hg : G l = none) (hF : l ∈ F) : Stp F G H G (upd H l o) where
  g := Same.refl G
  s := fun b u h => by rw [upd_ne (ne_of_none h hg)]; exact s b u h
  h := fun b u hb h => by rw [upd_ne (fun e => hb (by rw [e]; exact hF))]; exact h
  d := fun m h n => n
  t := fun m h => upd_some h
/-- what was laid since the entry is kept for good from now on -/
theorem Stp.keep (a : Stp F G H G1 H1) (hl : H l = none) (h1 : H1 l = some o) : Stp F G H (upd G1 l o) H1 where
  g := fun b u h => by
    have h2 := a.g b u h
    by_cases e : b = l
    · subst e
      rw [upd_same, ← h1]
      exact (a.s b u h2)
    · rw [upd_ne e]; exact h2
  s := fun b u h => by
    by_cases e : b = l
    · subst e; rw [upd_same] at h; rw [h1]; exact h
    · rw [upd_ne e] at h; exact a.s b u h
  h := a.h
  d := fun m h n => by
    rw [upd_ne (fun e => h (by rw [e]; exact hl))]; exact a.d m h n
  t := a.t
theorem Dn.keep (h1 : H1 l = some o) (s : Same G1 H1) : Same G1 (upd G1 l o) := fun b u h => by
  by_cases e : b = l
  · subst e
    rw [upd_same, ← h1]
    exact s b u h
  · rw [upd_ne e]; exact h
theorem Stp.free (a : Stp F G H G1 H1) (h : H1 l = none) : H l = none := by
  cases e : H l with
  | none => rfl
  | some o => exact absurd h (a.t l (by rw [e]; intro z; cases z))
theorem Stp.mu (a : Stp F G H G1 H1) (m : Mu G H l o) (hF : l ∉ F) : Mu G1 H1 l o := ⟨a.h _ _ hF m.h, a.d _ (by rw [m.h]; intro z; cases z) m.g⟩
theorem Mu.lay (hp : H p = none) (s : Same G H) : Mu G (upd H p o) p o := ⟨upd_same, s.free hp⟩
theorem Mu.put (m : Mu G H l u) : Mu G (upd H l o) l o := ⟨upd_same, m.g⟩
theorem Mu.oth (m : Mu G H l u) (h : l ≠ a) : Mu G (upd H a o) l u := ⟨by rw [upd_ne h]; exact m.h, m.g⟩
theorem Mu.ne (m : Mu G H l u) (h : G a = some o) : l ≠ a := fun e => by
  have z := m.g
  rw [e, h] at z
  cases z
theorem Mu.sqL (m : Mu G H l (.lst xs)) : SqL K H l xs := SqL.of m.h
/-- what stands on the ghost stands on what comes behind it, and on the heap above -/
theorem up {b : Addr} [q : Blw G G'] (h : G b = some o) : G' b = some o := q.s _ _ h
theorem upT [q : Blw G G'] (h : SqT K G a xs) : SqT K G' a xs := Same.sqT q.s h
theorem upL [q : Blw G G'] (h : SqL K G a xs) : SqL K G' a xs := q.s.seq h
theorem on {b : Addr} [q : On G H] (h : G b = some o) : H b = some o := q.s _ _ h
theorem onT [q : On G H] (h : SqT K G a xs) : SqT K H a xs := Same.sqT q.s h
theorem onL [q : On G H] (h : SqL K G a xs) : SqL K H a xs := q.s.seq h
end
/-! ### stepping through a reading -/
def fldR (K : PySem.W.Frag) (f : Str) (x : V) (H : Hp) (Q : VK) : Prop := ∃ a C dx fs v, x = .ref a ∧ H a = some (.ins C dx fs) ∧ Cls K C ∧ NoAttr K C f ∧ fs.lookup f = some v ∧ Q v H
def mkTup (xs : List V) (H : Hp) (Q : VK) : Prop := xs.length ≤ sizeLine ∧ ∀ p, H p = none → Q (.ref p) (upd H p (.tup xs))
def mkLst (xs : List V) (H : Hp) (Q : VK) : Prop := xs.length ≤ sizeLine ∧ ∀ p, H p = none → Q (.ref p) (upd H p (.lst xs))
def blR (x : V) (H : Hp) (Q : Bool → Hp → Prop) : Prop := ∃ k, x = .bl k ∧ Q k H
def mthR (C : Addr) (m : Str) (x : V) (H : Hp) (Q : V → Hp → Prop) : Prop := ∃ a dx fs, x = .ref a ∧ H a = some (.ins C dx fs) ∧ fs.lookup m = none ∧ Q x H
section
variable {K : PySem.W.Frag} {σ : L2.St} {H G : Hp} {Q : VK} {i : Nat} {v x y : V} {ta tb te to : TE} {tr t : TA} {r : R2} {f m : Str} {c u : TT} {QT : Bool → Hp → Prop} {D : Ends} {s1 s2 : TS} {sp : Sp} {E : XK} {C : Addr} {xs : List V}
theorem w_var (h : σ[i]? = some (some v)) (k : Q v H) : tVar i σ H Q := ⟨v, h, k⟩
theorem w_c (k : Q v H) : tC v σ H Q := k
theorem w_op (k : ta σ H fun x H1 => tb σ H1 fun y H2 => r x y H2 Q) : tOp r ta tb σ H Q := k
theorem w_un {r1 : V → Hp → VK → Prop} (k : ta σ H fun x H1 => r1 x H1 Q) : tUn r1 ta σ H Q := k
theorem w_fld (k : to σ H fun x H1 => fldR K f x H1 Q) : tFld K to f σ H Q := k
theorem w_tup (k : t σ H fun xs H1 => mkTup xs H1 Q) : tTup t σ H Q := k
theorem w_lst (k : t σ H fun xs H1 => mkLst xs H1 Q) : tLst t σ H Q := k
theorem w_nil {Q : List V → Hp → Prop} (k : Q [] H) : tNil σ H Q := k
theorem w_cons {Q : List V → Hp → Prop} (k : ta σ H fun x H1 => tr σ H1 fun xs H2 => Q (x :: xs) H2) : tCons ta tr σ H Q := k
theorem w_call (k : t σ H fun vs H1 => sp vs H1 Q E) : tCall sp [] E t σ H Q := by
  have e : tCall sp [] E t = fun σ H Q => t σ H fun vs H1 => sp vs H1 Q E := by
    funext σ H Q
    show (t σ H fun vs H1 => sp (vs ++ []) H1 Q E) = _
    simp only [List.append_nil]
  rw [e]; exact k
theorem w_meth (k : to σ H fun x H1 => mthR C m x H1 fun x H1 => t σ H1 fun vs H2 => sp (x :: vs) H2 Q E) : tMeth C m sp [] E to t σ H Q := by
  have e : tMeth C m sp [] E to t = fun σ H Q => to σ H fun x H1 => mthR C m x H1 fun x H1 => t σ H1 fun vs H2 => sp (x :: vs) H2 Q E := by
    funext σ H Q
    show (to σ H fun x H1 => ∃ a dx fs, x = .ref a ∧ H1 a = some (.ins C dx fs) ∧ fs.lookup m = none ∧ t σ H1 fun vs H2 => sp (x :: (vs ++ [])) H2 Q E) = _
    simp only [List.append_nil]
    rfl
  rw [e]; exact k
theorem w_cb {rc : List V → Hp → VK → Prop} (k : t σ H fun vs H1 => rc vs H1 Q) : tCB rc t σ H Q := k
theorem w_if (k : c σ H fun b H1 => if b = true then ta σ H1 Q else tb σ H1 Q) : tIf c ta tb σ H Q := k
theorem w_andV (k : ta σ H fun x H1 => blR x H1 fun c H1 => if c = true then tb σ H1 Q else Q (.bl false) H1) : tAndV ta tb σ H Q := k
theorem w_orV (k : ta σ H fun x H1 => blR x H1 fun c H1 => if c = true then Q (.bl true) H1 else tb σ H1 Q) : tOrV ta tb σ H Q := k
theorem w_notV (k : ta σ H fun x H1 => blR x H1 fun c H1 => Q (.bl (!c)) H1) : tNotV ta σ H Q := k
theorem w_bl {b : Bool} (k : QT b H) : blR (.bl b) H QT := ⟨b, rfl, k⟩
theorem w_tB (k : te σ H fun x H1 => blR x H1 QT) : tB te σ H QT := k
theorem w_tT (k : te σ H fun x H1 => blR x H1 QT) : tTest te σ H QT := k
theorem w_and (k : c σ H fun b H1 => if b = true then u σ H1 QT else QT false H1) : tAnd c u σ H QT := k
theorem w_or (k : c σ H fun b H1 => if b = true then QT true H1 else u σ H1 QT) : tOr c u σ H QT := k
theorem w_not (k : c σ H fun b H1 => QT (!b) H1) : tNot c σ H QT := k
theorem w_i0 {g : Int → Int → V} {i j : Int} (k : Q (g i j) H) : rI0 g (.int i) (.int j) H Q := ⟨i, j, rfl, rfl, k⟩
theorem w_ixL {p : Addr} {i : Int} (h : SqL K H p xs) (ha : atI xs i = some v) (k : Q v H) : rIxL K (.ref p) (.int i) H Q := ⟨p, xs, i, v, rfl, rfl, h, ha, k⟩
theorem w_ixT {p : Addr} {i : Int} (h : SqT K H p xs) (ha : atI xs i = some v) (k : Q v H) : rIxT K (.ref p) (.int i) H Q := ⟨p, xs, i, v, rfl, rfl, h, ha, k⟩
theorem w_eq (hs : scal x y = true) (k : Q (.bl (decide (x = y))) H) : rEq x y H Q := ⟨hs, k⟩
theorem w_ne (hs : scal x y = true) (k : Q (.bl (!decide (x = y))) H) : rNe x y H Q := ⟨hs, k⟩
theorem w_seq (k : s1 { D with nx := s2 D } σ H) : tSeq s1 s2 D σ H := k
theorem w_asg (k : te σ H fun x H1 => D.nx (σ.set i (some x)) H1) : tAsg te (gName i) D σ H := k
theorem w_drop (k : te σ H fun _ H1 => D.nx σ H1) : tDrop te D σ H := k
theorem w_ret (k : te σ H D.rt) : tRet te D σ H := k
theorem w_ifS (k : c σ H fun b H1 => if b = true then s1 D σ H1 else s2 D σ H1) : tIfS c s1 s2 D σ H := k
theorem w_next (k : D.nx σ H) : tNext D σ H := k
theorem w_ite {b : Bool} {A B : Prop} (ht : b = true → A) (hf : b = false → B) : if b = true then A else B := by
  cases b with
  | true => exact iteT (ht rfl)
  | false => exact iteF (hf rfl)
theorem w_tt {A B : Prop} (h : A) : if true = true then A else B := iteT h
theorem w_ff {A B : Prop} (h : B) : if false = true then A else B := iteF h
theorem u_fld {a dx : Addr} {fs : List (Str × V)} (h : H a = some (.ins C dx fs)) (hc : Cls K C) (hn : NoAttr K C f) (hl : fs.lookup f = some v) (k : Q v H) : fldR K f (.ref a) H Q := ⟨a, C, dx, fs, v, rfl, h, hc, hn, hl, k⟩
theorem u_mth {a dx : Addr} {fs : List (Str × V)} (h : H a = some (.ins C dx fs)) (hl : fs.lookup m = none) (k : Q (.ref a) H) : mthR C m (.ref a) H Q := ⟨a, dx, fs, rfl, h, hl, k⟩
/-- a new tuple -/
theorem u_tup [q : Cur G H] (hl : xs.length ≤ sizeLine) (k : ∀ p G' H', Stp [] G H G' H' → Dn G G' → Cur G' H' → G' p = some (.tup xs) → Q (.ref p) H') : mkTup xs H Q :=
  ⟨hl, fun p hp => k p (upd G p (.tup xs)) _ (Stp.lay q.s hp) ⟨(Stp.lay (F := []) (o := .tup xs) q.s hp).g⟩ ⟨(Stp.lay (F := []) (o := .tup xs) q.s hp).s⟩ upd_same⟩
/-- a new list, to be changed yet -/
theorem u_lst [q : Cur G H] (hl : xs.length ≤ sizeLine) (k : ∀ p G' H', Stp [] G H G' H' → Dn G G' → Cur G' H' → H p = none → Mu G' H' p (.lst xs) → Q (.ref p) H') : mkLst xs H Q :=
  ⟨hl, fun p hp => k p G _ (Stp.layM q.s hp) ⟨Same.refl G⟩ ⟨(Stp.layM (F := []) (o := .lst xs) q.s hp).s⟩ hp (Mu.lay hp q.s)⟩
/-- a new list that stays as it is -/
theorem u_lstK [q : Cur G H] (hl : xs.length ≤ sizeLine) (k : ∀ p G' H', Stp [] G H G' H' → Dn G G' → Cur G' H' → G' p = some (.lst xs) → Q (.ref p) H') : mkLst xs H Q :=
  ⟨hl, fun p hp => k p (upd G p (.lst xs)) _ (Stp.lay q.s hp) ⟨(Stp.lay (F := []) (o := .lst xs) q.s hp).g⟩ ⟨(Stp.lay (F := []) (o := .lst xs) q.s hp).s⟩ upd_same⟩
end
end Ck
namespace Ck
open PySem PySem.Spec PyProof.Rows L2
theorem re_e {X : Cx} {e : Expr} {t t' : TE} (h : PE X e t) (q : t = t') : PE X e t' := q ▸ h
theorem re_t {X : Cx} {es : List Expr} {t t' : TT} (h : PTs X es t) (q : t = t') : PTs X es t' := q ▸ h
theorem nox1 {X : Cx} {st : Stmt} {t : TS} (h : PS X.nox st t) : PS X st t := ⟨fun pins s σ H D I hw =>
  wpAny_mono (h.run pins s σ H D (I.wish _) hw) (fun _ _ q => q.unwish) fun _ _ z => False.elim z⟩
end Ck
namespace Ck
open PySem PySem.Spec PyProof.Rows L2
open He (ga ma fAd)
/-! ### built-ins by named readings -/
def rLen (K : PySem.W.Frag) : List V → Hp → VK → Prop := fun xs H Q => ∃ p ys, xs = [.ref p] ∧ (SqL K H p ys ∨ SqT K H p ys) ∧ Q (.int ys.length) H
def rTupOf (K : PySem.W.Frag) : List V → Hp → VK → Prop := fun xs H Q => ∃ p ys, xs = [.ref p] ∧ ((SqL K H p ys ∧ ∀ l, H l = none → Q (.ref l) (upd H l (.tup ys))) ∨ (SqT K H p ys ∧ Q (.ref p) H))
def rLstOf (K : PySem.W.Frag) : List V → Hp → VK → Prop := fun xs H Q => ∃ p ys, xs = [.ref p] ∧ (SqL K H p ys ∨ SqT K H p ys) ∧ ∀ l, H l = none → Q (.ref l) (upd H l (.lst ys))
def rStrI : List V → Hp → VK → Prop := fun xs H Q => ∃ i, xs = [.int i] ∧ i.natAbs.log2 < 1920 ∧ Q (.str (toString i)) H
def rOrd : List V → Hp → VK → Prop := fun xs H Q => ∃ x, xs = [.str x] ∧ x.length = 1 ∧ Q (.int (x.cps.getD 0 0 : Nat)) H
def rIsNon : R2 := fun x y H Q => y = .non ∧ Q (.bl (decide (x = .non))) H
def rSIx : V → List V → Hp → VK → Prop := fun x xs H Q => ∃ a b i rest, x = .str a ∧ xs = [.str b] ∧ Builtin.Str.occurrences a b 0 a.length 1 = i :: rest ∧ Q (.int (i : Nat)) H
section
variable {X : Cx}
theorem c_len : CallR X (.builtin "len") (rLen X.K) := call_len_seq
theorem c_tuple : CallR X (.type "tuple") (rTupOf X.K) := call_tuple_of
theorem c_list : CallR X (.type "list") (rLstOf X.K) := call_list_of
theorem c_str : CallR X (.type "str") rStrI := call_str_int
theorem c_ord : CallR X (.builtin "ord") rOrd := call_ord
theorem o_cats : OpR X (binaryOp .Add) rCatS := op_add_str
theorem o_isN : OpR X (compareOp .Is) rIsNon := op_isN
theorem m_sindex : MtR X "str.index" rSIx := mt_sindex
/-- xs.extend(a tuple) -/
def rExtT (K : PySem.W.Frag) : V → List V → Hp → VK → Prop := fun x vs H Q => ∃ l b xs zs, x = .ref l ∧ vs = [.ref b] ∧ H l = some (.lst xs) ∧ SqT K H b zs ∧ xs.length + zs.length ≤ sizeLine ∧ Q .non (upd H l (.lst (xs ++ zs)))
end
theorem pairApp {α β : Type} {F : α → β → Prop} : ∀ {l1 m1 : List α} {l2 m2 : List β}, Paired F l1 l2 → Paired F m1 m2 → Paired F (l1 ++ m1) (l2 ++ m2)
  | _, _, _, _, .nil, b => b
  | _, _, _, _, .cons r a, b => .cons r (pairApp a b)
/-! ### the rest of the steps -/
def bmR (K : PySem.W.Frag) (T : String) (x : V) (H : Hp) (k : V → Hp → Prop) : Prop := tyV K T x H ∧ k x H
def sfR (K : PySem.W.Frag) (f : Str) (y x : V) (H : Hp) (k : Hp → Prop) : Prop := ∃ a C dx fs, x = .ref a ∧ H a = some (.ins C dx fs) ∧ Cls K C ∧ NoAttr K C f ∧ fs.length < 1000 ∧ k (upd H a (.ins C dx (putF f y fs)))
def mkR (C : Addr) (sp : Sp) (vs : List V) (E : XK) (H : Hp) (Q : VK) : Prop := ∀ x dx, H x = none → H dx = none → dx ≠ x → sp (.ref x :: vs) (upd (upd H dx (.own x)) x (.ins C dx [])) (fun v H3 => v = .non ∧ Q (.ref x) H3) E
def partR (x : V) (H : Hp) (Q : Option Int → Hp → Prop) : Prop := ∃ i, x = .int i ∧ Q (some i) H
def ilR (K : PySem.W.Frag) (x : V) (H : Hp) (R : It → Hp → Prop) : Prop := ∃ a, x = .ref a ∧ (∃ xs, SqL K H a xs) ∧ R (Itl K a) H
def itR (K : PySem.W.Frag) (x : V) (H : Hp) (R : It → Hp → Prop) : Prop := ∃ a, x = .ref a ∧ (∃ xs, SqT K H a xs) ∧ R (Itt K a) H
def irR (vs : List V) (H : Hp) (R : It → Hp → Prop) : Prop := ∃ j : Int, vs = [.int j] ∧ -(2 ^ 62) ≤ j ∧ j < 2 ^ 62 ∧ R (Itr 0 j.toNat) H
def isR (v : V) (H : Hp) (R : It → Hp → Prop) : Prop := ∃ x, v = .str x ∧ R (Its x) H
def gtR (K : PySem.W.Frag) (n : Nat) (v : V) (H : Hp) (k : List V → Prop) : Prop := ∃ a xs, v = .ref a ∧ SqT K H a xs ∧ xs.length = n ∧ k xs
def lcR (J : It) (g : TG) (tt : TT) (te : TE) (vs : List Nat) (σ : L2.St) (H1 : Hp) (Q : VK) : Prop := tLc (fun _ H R => R J H) g tt te vs σ H1 Q
def foR (J : It) (g : TG) (tb : TS) (D : Ends) (σ : L2.St) (H1 : Hp) : Prop := ∃ W : Nat → Nat → L2.St → Hp → Prop, (∃ m, W 0 m σ H1) ∧ ∀ i m σ H, W i m σ H →
  (J.stop i H ∧ D.nx σ H) ∨ (J.go i H ∧ ∃ N : L2.St → Hp → Prop, (∀ σ' H', N σ' H' → ∃ m', m' < m ∧ W (i + 1) m' σ' H') ∧ ∀ x H', J.yld i H x H' → g x σ H' fun σ2 H2 => tb { D with nx := N, ct := N, bk := D.nx } σ2 H2)
section
variable {K : PySem.W.Frag} {σ : L2.St} {H G : Hp} {Q : VK} {i : Nat} {v x y : V} {ta tb te to tv : TE} {tr t : TA} {r : R2} {f m : Str} {c u tt : TT} {QT : Bool → Hp → Prop} {D : Ends} {s1 s2 : TS} {sp : Sp} {E : XK} {C a l b p : Addr} {xs ys zs : List V} {fs : List (Str × V)} {T : String} {g g1 : TG} {gs : TGs} {R : It → Hp → Prop}
theorem w_bm {rm : V → List V → Hp → VK → Prop} (k : to σ H fun x H1 => bmR K T x H1 fun x H1 => t σ H1 fun xs H2 => rm x xs H2 Q) : tBM K T rm to t σ H Q := k
theorem w_sfld (k : tv σ H fun y H1 => to σ H1 fun x H2 => sfR K f y x H2 fun H3 => D.nx σ H3) : sFld K to tv f D σ H := k
theorem w_make (k : t σ H fun vs H1 => mkR C sp vs E H1 Q) : tMake C sp [] E t σ H Q := by
  have e : tMake C sp [] E t = fun σ H Q => t σ H fun vs H1 => mkR C sp vs E H1 Q := by
    funext σ H Q
    unfold tMake mkR
    simp only [List.append_nil]
  rw [e]; exact k
theorem w_sl {rs : V → Option Int → Option Int → Hp → VK → Prop} {tl th : TO} (k : te σ H fun x H1 => tl σ H1 fun l H2 => th σ H2 fun u H3 => rs x l u H3 Q) : tSl rs te tl th σ H Q := k
theorem w_part {Q : Option Int → Hp → Prop} (k : te σ H fun x H1 => partR x H1 Q) : tPart te σ H Q := k
theorem w_pI {Q : Option Int → Hp → Prop} {i : Int} (k : Q (some i) H) : partR (.int i) H Q := ⟨i, rfl, k⟩
theorem w_noP {Q : Option Int → Hp → Prop} (k : Q none H) : tNoPart σ H Q := k
theorem w_sub {rt : TSet} {Qg : L2.St → Hp → Prop} (k : to σ H fun o H1 => te σ H1 fun i H2 => rt o i v H2 fun H3 => Qg σ H3) : gSub to te rt v σ H Qg := k
theorem w_name {Qg : L2.St → Hp → Prop} (k : Qg (σ.set i (some v)) H) : gName i v σ H Qg := k
theorem w_gtup {n : Nat} {Qg : L2.St → Hp → Prop} (k : gtR K n v H fun xs => gs xs σ H Qg) : gTup K n gs v σ H Qg := k
theorem w_gcons {Qg : L2.St → Hp → Prop} (k : g v σ H fun σ' H' => gs xs σ' H' Qg) : gCons g gs (v :: xs) σ H Qg := ⟨v, xs, rfl, k⟩
theorem w_gnil {Qg : L2.St → Hp → Prop} (k : Qg σ H) : gNil [] σ H Qg := ⟨rfl, k⟩
theorem u_gt {n : Nat} {k : List V → Prop} (h : SqT K H a xs) (hn : xs.length = n) (q : k xs) : gtR K n (.ref a) H k := ⟨a, xs, rfl, h, hn, q⟩
theorem w_asgG (k : te σ H fun x H1 => g x σ H1 D.nx) : tAsg te g D σ H := k
theorem w_iL (k : te σ H fun x H1 => ilR K x H1 R) : iList K te σ H R := k
theorem w_iT (k : te σ H fun x H1 => itR K x H1 R) : iTup K te σ H R := k
theorem w_iR (k : t σ H fun vs H1 => irR vs H1 R) : iRng1 t σ H R := k
theorem w_iS (k : te σ H fun x H1 => isR x H1 R) : iStr te σ H R := k
theorem u_iL (h : SqL K H a xs) (k : R (Itl K a) H) : ilR K (.ref a) H R := ⟨a, rfl, ⟨xs, h⟩, k⟩
theorem u_iT (h : SqT K H a xs) (k : R (Itt K a) H) : itR K (.ref a) H R := ⟨a, rfl, ⟨xs, h⟩, k⟩
theorem u_iR {n : Nat} (hn : n ≤ 1000000000) (k : R (Itr 0 n) H) : irR [.int n] H R := ⟨n, rfl, by omega, by omega, k⟩
theorem u_iS {z : Str} (k : R (Its z) H) : isR (.str z) H R := ⟨z, rfl, k⟩
theorem w_lc {wi : TI} {vs : List Nat} (k : wi σ H fun J H1 => lcR J g tt te vs σ H1 Q) : tLc wi g tt te vs σ H Q := k
theorem w_for {wi : TI} (k : wi σ H fun J H1 => foR J g s1 D σ H1) : tFor wi g s1 D σ H := k
theorem u_bmL (h : H l = some (.lst xs)) {k : V → Hp → Prop} (q : k (.ref l) H) : bmR K "list" (.ref l) H k := ⟨.inl ⟨rfl, _, SqL.of h⟩, q⟩
theorem u_bmS {z : Str} {k : V → Hp → Prop} (q : k (.str z) H) : bmR K "str" (.str z) H k := ⟨rfl, q⟩
theorem u_lenL (h : SqL K H p ys) (k : Q (.int ys.length) H) : rLen K [.ref p] H Q := ⟨p, ys, rfl, .inl h, k⟩
theorem u_lenT (h : SqT K H p ys) (k : Q (.int ys.length) H) : rLen K [.ref p] H Q := ⟨p, ys, rfl, .inr h, k⟩
theorem u_ri {Cc : Int → Int → Prop} {gi : Int → Int → V} {i j : Int} (hc : Cc i j) (k : Q (gi i j) H) : rI Cc gi (.int i) (.int j) H Q := ⟨i, j, rfl, rfl, hc, k⟩
/-- the shape of what follows a step -/
abbrev Nxt (F : List Addr) (G H : Hp) (k : Hp → Hp → Prop) : Prop := ∀ G' H', Stp F G H G' H' → Dn G G' → Cur G' H' → k G' H'
theorem Nxt.go {F : List Addr} {G H G' H' : Hp} {k : Hp → Hp → Prop} (q : Nxt F G H k) (st : Stp F G H G' H') : k G' H' := q G' H' st ⟨st.g⟩ ⟨st.s⟩
theorem u_app [q : Cur G H] (m : Mu G H l (.lst xs)) (hz : xs.length < sizeLine) (k : Nxt [l] G H fun G' H' => Mu G' H' l (.lst (xs ++ [v])) → Q .non H') : rAppend (.ref l) [v] H Q :=
  ⟨l, xs, v, rfl, rfl, m.h, hz, k.go (Stp.put q.s m.g (List.mem_singleton.mpr rfl)) m.put⟩
theorem u_ext [q : Cur G H] (m : Mu G H l (.lst xs)) (hb : H b = some (.lst zs)) (hz : xs.length + zs.length ≤ sizeLine) (k : Nxt [l] G H fun G' H' => Mu G' H' l (.lst (xs ++ zs)) → Q .non H') : rExtend (.ref l) [.ref b] H Q :=
  ⟨l, b, xs, zs, rfl, rfl, m.h, hb, hz, k.go (Stp.put q.s m.g (List.mem_singleton.mpr rfl)) m.put⟩
theorem u_extT [q : Cur G H] (m : Mu G H l (.lst xs)) (hb : SqT K H b zs) (hz : xs.length + zs.length ≤ sizeLine) (k : Nxt [l] G H fun G' H' => Mu G' H' l (.lst (xs ++ zs)) → Q .non H') : rExtT K (.ref l) [.ref b] H Q :=
  ⟨l, b, xs, zs, rfl, rfl, m.h, hb, hz, k.go (Stp.put q.s m.g (List.mem_singleton.mpr rfl)) m.put⟩
theorem u_set [q : Cur G H] {i : Int} {j : Nat} {k : Hp → Prop} (m : Mu G H l (.lst xs)) (hj : ixN xs.length i = some j) (kk : Nxt [l] G H fun G' H' => Mu G' H' l (.lst (xs.set j v)) → k H') : rSetL (.ref l) (.int i) v H k :=
  ⟨l, xs, i, j, rfl, rfl, m.h, hj, kk.go (Stp.put q.s m.g (List.mem_singleton.mpr rfl)) m.put⟩
theorem u_sfld [q : Cur G H] {dx : Addr} {k : Hp → Prop} (m : Mu G H a (.ins C dx fs)) (hc : Cls K C) (hn : NoAttr K C f) (hl : fs.length < 1000) (kk : Nxt [a] G H fun G' H' => Mu G' H' a (.ins C dx (putF f y fs)) → k H') : sfR K f y (.ref a) H k :=
  ⟨a, C, dx, fs, rfl, m.h, hc, hn, hl, kk.go (Stp.put q.s m.g (List.mem_singleton.mpr rfl)) m.put⟩
theorem u_make [q : Cur G H] {vs : List V} (k : ∀ x dx, Nxt [] G H fun G' H' => H x = none → Mu G' H' x (.ins C dx []) → sp (.ref x :: vs) H' (fun v H3 => v = .non ∧ Q (.ref x) H3) E) : mkR C sp vs E H Q := fun x dx hx hd hne => by
  have s1 : Stp [] G H G (upd H dx (.own x)) := Stp.layM q.s hd
  have hx1 : upd H dx (.own x) x = none := by rw [upd_ne (Ne.symm hne)]; exact hx
  have s2 : Stp [] G (upd H dx (.own x)) G (upd (upd H dx (.own x)) x (.ins C dx [])) := Stp.layM s1.s hx1
  exact (k x dx).go (s1.trans s2) hx (Mu.lay hx1 s1.s)
theorem u_tupL [q : Cur G H] (h : SqL K H p ys) (hl : ys.length ≤ sizeLine) (k : ∀ p', Nxt [] G H fun G' H' => G' p' = some (.tup ys) → Q (.ref p') H') : rTupOf K [.ref p] H Q :=
  ⟨p, ys, rfl, .inl ⟨h, fun l hl => (k l).go (Stp.lay q.s hl) upd_same⟩⟩
theorem u_tupT (h : SqT K H p ys) (k : Q (.ref p) H) : rTupOf K [.ref p] H Q := ⟨p, ys, rfl, .inr ⟨h, k⟩⟩
theorem u_lstM [q : Cur G H] (h : SqL K H p ys ∨ SqT K H p ys) (k : ∀ p', Nxt [] G H fun G' H' => H p' = none → Mu G' H' p' (.lst ys) → Q (.ref p') H') : rLstOf K [.ref p] H Q :=
  ⟨p, ys, rfl, h, fun l hl => (k l).go (Stp.layM q.s hl) hl (Mu.lay hl q.s)⟩
theorem u_lstF [q : Cur G H] (h : SqL K H p ys ∨ SqT K H p ys) (k : ∀ p', Nxt [] G H fun G' H' => G' p' = some (.lst ys) → Q (.ref p') H') : rLstOf K [.ref p] H Q :=
  ⟨p, ys, rfl, h, fun l hl => (k l).go (Stp.lay q.s hl) upd_same⟩
theorem u_cat [q : Cur G H] (h1 : H a = some (.lst xs)) (h2 : H b = some (.lst ys)) (hl : xs.length + ys.length ≤ sizeLine) (k : ∀ p, Nxt [] G H fun G' H' => G' p = some (.lst (xs ++ ys)) → Q (.ref p) H') : rCat (.ref a) (.ref b) H Q :=
  ⟨a, b, xs, ys, rfl, rfl, h1, h2, hl, fun p hp => (k p).go (Stp.lay q.s hp) upd_same⟩
theorem u_catM [q : Cur G H] (h1 : H a = some (.lst xs)) (h2 : H b = some (.lst ys)) (hl : xs.length + ys.length ≤ sizeLine) (k : ∀ p, Nxt [] G H fun G' H' => H p = none → Mu G' H' p (.lst (xs ++ ys)) → Q (.ref p) H') : rCat (.ref a) (.ref b) H Q :=
  ⟨a, b, xs, ys, rfl, rfl, h1, h2, hl, fun p hp => (k p).go (Stp.layM q.s hp) hp (Mu.lay hp q.s)⟩
theorem u_slL [q : Cur G H] {lo hi : Option Int} (h : SqL K H a xs) (k : ∀ p, Nxt [] G H fun G' H' => G' p = some (.lst (cutV xs lo hi)) → Q (.ref p) H') : rSlL K (.ref a) lo hi H Q :=
  ⟨a, xs, rfl, h, fun p hp => (k p).go (Stp.lay q.s hp) upd_same⟩
theorem u_catS {i j : Str} (hl : i.length + j.length ≤ sizeLine) (k : Q (.str (i ++ j)) H) : rCatS (.str i) (.str j) H Q := ⟨i, j, rfl, rfl, hl, k⟩
theorem u_isN (k : Q (.bl (decide (x = .non))) H) : rIsNon x .non H Q := ⟨rfl, k⟩
theorem u_in {neg : Bool} (h : SqL K H p xs ∨ SqT K H p xs) (hx : flatV x = true) (ha : xs.all flatV = true) (k : Q (.bl (if neg then !inV x xs else inV x xs)) H) : rIn K neg x (.ref p) H Q := ⟨p, xs, rfl, h, hx, ha, k⟩
theorem u_all {bs : List Bool} (h : SqL K H a (bs.map V.bl)) (k : Q (.bl (bs.all id)) H) : rAll K [.ref a] H Q := ⟨a, bs, rfl, h, k⟩
theorem u_any {bs : List Bool} (h : SqL K H a (bs.map V.bl)) (k : Q (.bl (bs.any id)) H) : rAny K [.ref a] H Q := ⟨a, bs, rfl, h, k⟩
/-- loops -/
theorem u_for {J : It} {n : Nat} {Gw : Hp → Prop} {Y : Nat → Hp → V → Hp → Prop} (w : Walk J n Gw Y) (Pv : Nat → L2.St → Hp → Prop) (h0 : Pv 0 σ H) (hG : ∀ i σ H, i ≤ n → Pv i σ H → Gw H)
    (hs : ∀ i x σ H H', i < n → Pv i σ H → Y i H x H' → g x σ H' fun σ2 H2 => s1 { D with nx := Pv (i + 1), ct := Pv (i + 1), bk := D.nx } σ2 H2) (hd : ∀ σ H, Pv n σ H → D.nx σ H) : foR J g s1 D σ H := for_it w Pv h0 hG hs hd
/-- [e for .. in .. if ..]: f tells which turns give something, R what they give -/
theorem u_lc [q : Cur G H] {J : It} {n : Nat} {Gw : Hp → Prop} {Yv : Nat → V → Prop} {Y : Nat → Hp → V → Hp → Prop} {vs : List Nat} (w : Walk J n Gw Y) (hY : ∀ i H x H', Y i H x H' → H' = H ∧ Yv i x) (hGw : ∀ H', Same H H' → Gw H') (hn : n ≤ 1000000)
    (fl : Nat → Bool) (Rr : Nat → V → Hp → Prop) (mono : ∀ i y G1 G2, Same G1 G2 → Rr i y G1 → Rr i y G2)
    (hs : ∀ i x G1 H1 (Qy : V → Hp → Prop) (Qn : Hp → Prop), i < n → Stp [] G H G1 H1 → Dn G G1 → Cur G1 H1 → Yv i x →
      (∀ y G2 H2, Stp [] G1 H1 G2 H2 → fl i = true → Rr i y G2 → Qy y H2) → (∀ G2 H2, Stp [] G1 H1 G2 H2 → fl i = false → Qn H2) →
      g x (wipe σ vs) H1 fun σ2 H2 => wipe σ2 vs = wipe σ vs ∧ tt σ2 H2 fun b H3 => if b = true then te σ2 H3 Qy else Qn H3)
    (k : ∀ p ys, Nxt [] G H fun G' H' => H p = none → Mu G' H' p (.lst ys) → Paired (fun i y => Rr i y G') ((List.range n).filter fl) ys → Q (.ref p) H') : lcR J g tt te vs σ H Q := fun D hD => by
  have plen : ∀ {α β : Type} {Rf : α → β → Prop} {l1 : List α} {l2 : List β}, Paired Rf l1 l2 → l1.length = l2.length := fun h => h.length
  refine lc_it w (fun i H' => ∃ G' acc, Stp [] G H G' H' ∧ Mu G' H' D (.lst acc) ∧ Paired (fun i y => Rr i y G') ((List.range i).filter fl) acc) ?_ (fun i H' _ ⟨G', acc, st, _⟩ => hGw H' st.same) ?_ ?_
  · exact ⟨G, [], Stp.layM q.s hD, Mu.lay hD q.s, .nil⟩
  · rintro i x H1 H1' hi ⟨G1, acc, st, mu, pr⟩ hy
    obtain ⟨rfl, hyv⟩ := hY _ _ _ _ hy
    refine hs i x G1 H1' _ _ hi st ⟨st.g⟩ ⟨st.s⟩ hyv (fun y G2 H2 st2 hf hr => ?_) (fun G2 H2 st2 hf => ?_)
    · have mu2 := st2.mu mu List.not_mem_nil
      refine ⟨acc, mu2.h, ?_, G2, acc ++ [y], ?_, mu2.put, ?_⟩
      · have := plen pr
        have h3 := List.length_filter_le fl (List.range i)
        rw [List.length_range] at h3
        rw [sizeLine_eq]; omega
      · have a := (st.trans st2)
        have b : Stp [D] G2 H2 G2 (upd H2 D (.lst (acc ++ [y]))) := Stp.put st2.s mu2.g (List.mem_singleton.mpr rfl)
        exact (a.nil.trans b).drop hD
      · rw [List.range_succ, List.filter_append, List.filter_cons, if_pos hf]
        refine pairApp ?_ (.cons hr .nil)
        exact Paired.mapP pr fun a b z => mono _ _ _ _ st2.g z
    · have mu2 := st2.mu mu List.not_mem_nil
      refine ⟨G2, acc, st.trans st2, mu2, ?_⟩
      rw [List.range_succ, List.filter_append, List.filter_cons, if_neg (by rw [hf]; decide)]
      show Paired _ (_ ++ []) _
      rw [List.append_nil]
      exact Paired.mapP pr fun a b z => mono _ _ _ _ st2.g z
  · rintro H' ⟨G', acc, st, mu, pr⟩
    exact (k D acc).go st hD mu pr
end
end Ck
namespace Ck
open PySem PySem.Spec PyProof.Rows L2
theorem paired_pt {α β : Type} {R : α → β → Prop} : ∀ {l : List α} {ys : List β}, Paired R l ys → ∀ (i : Nat) (a : α) (y : β), l[i]? = some a → ys[i]? = some y → R a y
  | _, _, .nil, i, a, y, h, _ => by cases i <;> cases h
  | _, _, .cons r t, 0, a, y, h1, h2 => by cases h1; cases h2; exact r
  | _, _, .cons r t, i + 1, a, y, h1, h2 => paired_pt t i a y (by simpa using h1) (by simpa using h2)
section
variable {σ : L2.St} {H G : Hp} {Q : VK} {te : TE} {tt : TT} {g : TG}
/-- [e for .. in ..], no test -/
theorem u_lcA [q : Cur G H] {J : It} {n : Nat} {Gw : Hp → Prop} {Yv : Nat → V → Prop} {Y : Nat → Hp → V → Hp → Prop} {vs : List Nat} (w : Walk J n Gw Y) (hY : ∀ i H x H', Y i H x H' → H' = H ∧ Yv i x) (hGw : ∀ H', Same H H' → Gw H') (hn : n ≤ 1000000)
    (Rr : Nat → V → Hp → Prop) (mono : ∀ i y G1 G2, Same G1 G2 → Rr i y G1 → Rr i y G2)
    (hs : ∀ i x G1 H1 (Qy : V → Hp → Prop), i < n → Stp [] G H G1 H1 → Dn G G1 → Cur G1 H1 → Yv i x → (∀ y G2 H2, Stp [] G1 H1 G2 H2 → Rr i y G2 → Qy y H2) →
      g x (wipe σ vs) H1 fun σ2 H2 => wipe σ2 vs = wipe σ vs ∧ te σ2 H2 Qy)
    (k : ∀ p ys, Nxt [] G H fun G' H' => H p = none → Mu G' H' p (.lst ys) → ys.length = n → (∀ i y, ys[i]? = some y → Rr i y G') → Q (.ref p) H')
    (mg : ∀ x H1 (P P' : L2.St → Hp → Prop), (∀ a b, P a b → P' a b) → g x (wipe σ vs) H1 P → g x (wipe σ vs) H1 P') : lcR J g tYes te vs σ H Q := by
  refine u_lc w hY hGw hn (fun _ => true) Rr mono (fun i x G1 H1 Qy Qn hi st a b hy ky _ => ?_) (fun p ys G1 H1 st a b hp mu pr => ?_)
  · refine mg _ _ _ _ (fun σ2 H2 z => ?_) (hs i x G1 H1 Qy hi st a b hy fun y G2 H2 st2 r => ky y G2 H2 st2 rfl r)
    exact ⟨z.1, iteT (B := Qn H2) z.2⟩
  · rw [List.filter_eq_self.mpr (fun _ _ => rfl)] at pr
    have hl : ys.length = n := by
      have e := pr.length
      rw [List.length_range] at e
      exact e.symm
    refine k p ys G1 H1 st a b hp mu hl fun i y e => ?_
    have hi : i < n := by
      have := (List.getElem?_eq_some_iff.mp e).1
      omega
    exact paired_pt pr i i y (List.getElem?_range hi) e
end
theorem mg_name {j : Nat} {x : V} {σ : L2.St} {H1 : Hp} {P P' : L2.St → Hp → Prop} (h : ∀ a b, P a b → P' a b) (q : gName j x σ H1 P) : gName j x σ H1 P' := h _ _ q
end Ck
theorem hu65 {k : Nat} {A : PySem.Around} (r : L2.Room k A) : A.units + 65 < PySem.cLine := by have := r.un; omega
namespace Ck
open PySem PySem.Spec PyProof.Rows L2
def rvR (K : PySem.W.Frag) (x : V) (H : Hp) (Q : VK) : Prop := ∃ a xs, x = .ref a ∧ SqL K H a xs ∧ ∀ p, H p = none → Q (.ref p) (upd H p (.lst xs.reverse))
def dgR (x y : V) (H : Hp) (Q : VK) : Prop := ∃ a v, x = .ref a ∧ DGet H a y (some v) ∧ Q v H
def dpR (v x y : V) (H : Hp) (k : Hp → Prop) : Prop := ∃ a H4, x = .ref a ∧ DPut H a y v H4 ∧ k H4
section
variable {K : PySem.W.Frag} {σ : L2.St} {H G : Hp} {Q : VK} {r r' : R2} {ta tb tc te td ty tv : TE} {D : Ends} {a b : Addr} {xs ys : List V} {v : V}
theorem w_chain (k : ta σ H fun x H1 => tb σ H1 fun y H2 => r x y H2 fun z H3 => blR z H3 fun c H3 => if c = true then tc σ H3 fun w' H4 => r' y w' H4 Q else Q (.bl false) H3) : tChain r r' ta tb tc σ H Q := k
theorem w_rev (k : te σ H fun x H1 => rvR K x H1 Q) : tRevL K te σ H Q := k
theorem w_dget (k : td σ H fun x H1 => ty σ H1 fun y H2 => dgR x y H2 Q) : tDGet td ty σ H Q := k
theorem w_dput (k : tv σ H fun v H1 => td σ H1 fun x H2 => ty σ H2 fun y H3 => dpR v x y H3 fun H4 => D.nx σ H4) : sDPut td ty tv D σ H := k
theorem u_rev [q : Cur G H] (h : SqL K H a xs) (k : ∀ p, Nxt [] G H fun G' H' => G' p = some (.lst xs.reverse) → Q (.ref p) H') : rvR K (.ref a) H Q :=
  ⟨a, xs, rfl, h, fun p hp => (k p).go (Stp.lay q.s hp) upd_same⟩
theorem u_dget {kvs : List (Key × V)} {i : Key} (h : H a = some (.dK kvs)) (hv : valV kvs i = some v) (k : Q v H) : dgR (.ref a) (kV i) H Q := ⟨a, v, rfl, by rw [← hv]; exact DGet.k h, k⟩
theorem u_dput [q : Cur G H] {kvs : List (Key × V)} {i : Key} {k : Hp → Prop} (m : Mu G H a (.dK kvs)) (hl : kvs.length < sizeLine) (kk : Nxt [a] G H fun G' H' => Mu G' H' a (.dK (putK kvs i v)) → k H') : dpR v (.ref a) (kV i) H k :=
  ⟨a, _, rfl, DPut.k m.h hl, kk.go (Stp.put q.s m.g (List.mem_singleton.mpr rfl)) m.put⟩
theorem u_catA [q : Cur G H] (h1 : SqT K G a xs) (h2 : SqT K G b ys) (hy : ys ≠ []) (hl : xs.length + ys.length ≤ sizeLine) (k : ∀ p, Nxt [] G H fun G' H' => SqT K G' p (xs ++ ys) → Q (.ref p) H') : rCatA K (.ref a) (.ref b) H Q :=
  ⟨a, b, xs, ys, rfl, rfl, Same.sqT q.s h1, Same.sqT q.s h2, hl, fun hx => by
    subst hx
    exact (k b).go (Stp.refl q.s) h2, fun _ h => absurd h hy, fun _ _ p hp => (k p).go (Stp.lay q.s hp) (SqT.of upd_same)⟩
end
end Ck
namespace Ck
open PySem PySem.Spec PyProof.Rows L2 HotX L2H
/-! ### where an exception is handled: signs of a text one by one -/
theorem sign_end {prog : Program} {w : World} {A : Around} {E : Value → Shared → Prop} {s : Shared} {it x1 : Addr} {x : Str} {t : Tok} {i : Nat} {Q : Option Value → Shared → Prop} (hot : HotAt A x1 s.heap) (hne : x1 ≠ it) (st : s.heap.IsStrIter it "str_ascii_iterator" x t i) (hx : x.cps[i]? = none)
    (q : ∀ h', (∀ b o, b ≠ it → s.heap.get? b = some o → h'.get? b = some o) → Q none { s with heap := h' }) : wpAny (model prog w) A (pyNext (.ref it)) Q E s := by
  obtain ⟨oi, gi, ci, di⟩ := id st
  obtain ⟨hA, oe, ve, ge, de, ne⟩ := hot
  unfold pyNext
  refine wpAny_bind (wpAny_attempt (wpAny_callSpecial?_slot (name := Str.ofString "__next__") st.typeIs F.slot_str_ascii_iterator_next (wpAny_call_entry F.slot_str_ascii_iterator_next st.typeIs F.entry_str_ascii_iterator_next ?_ (F.args_str_ascii_iterator_next_1 _))))
  show wpAny _ _ (field (Value.ref it) 0 >>= _) _ _ _
  refine wpAny_bind (wpAny_field gi di (x := Value.str x t) rfl ?_)
  show wpAny _ _ (field (Value.ref it) 1 >>= _) _ _ _
  refine wpAny_bind (wpAny_field gi di (x := Value.int i 0) rfl ?_)
  simp only [hx, Int.toNat_natCast]
  refine wpAny_bind (wpAny_rule (wpAny_bind (wpAny_setField gi di (by simp) (wpAny_bind (wpAny_letGo ?_)))))
  show wpAny _ _ (newExc (Value.type "StopIteration") [] >>= _) _ _ _
  refine wpAny_bind ?_
  simp only [newTuple, newExc]
  refine wpAny_bind (wpAny_newObj_type ?_ (by size_fits))
  refine wpAny_bind (m := firstArgMember _ _) (wpAny_of_eq (a := Value.none) (by first | rfl | (simp only [firstArgMember]; rfl)) ?_)
  refine wpAny_newObj_type ?_ (by size_fits)
  have ge1 := (Heap.get?_update_other s.heap (Obj.mapFields (·.setIfInBounds 0 .none)) hne.symm).trans ge
  have ge2 := fun o1 o2 => Heap.get?_push_of_some o2 (Heap.get?_push_of_some o1 ge1)
  refine raiseNew_hot ⟨hA, oe, ve, ge2 _ _, de, ne⟩ (Nat.ne_of_lt (Heap.lt_size (Heap.get?_push_of_some _ ge1))) (Heap.get?_push_size _ rfl) rfl (by first | (simp; done) | (simp; omega) | (simp only [Array.size_append]; simp; omega)) ?_
  refine wpAny_bind (wpAny_isInstance (b := true) (T := "StopIteration") ⟨_, Heap.get?_update_self _ (Heap.get?_push_size _ rfl) rfl, rfl⟩ isSubtype_stop ?_)
  refine wpAny_pure (q _ fun b o hb e => ?_)
  have e1 := (Heap.get?_update_other s.heap (Obj.mapFields (·.setIfInBounds 0 .none)) hb.symm).trans e
  rw [Heap.get?_update_other _ _ (Nat.ne_of_gt (Heap.lt_size (Heap.get?_push_of_some _ e1)))]
  exact Heap.get?_push_of_some _ (Heap.get?_push_of_some _ e1)
/-- the iteration of an ASCII text -/
def iAsc (te : TE) : TI := fun σ H R => te σ H fun v H1 => ∃ x, v = .str x ∧ x.cps.all (· < 128) = true ∧ R (Its x) H1
section
variable {X : Cx}
/-- [elt for tg in iter], iter an ASCII text, where an exception is handled -/
theorem pe_lcHot {elt tg iter : Expr} {scope : Scope} {own : List (Str × Nat)} {pos : Pos} {ti te : TE} {g : TG} (hc : HotC X) (hN : X.N.Nodup) (hi : PE X iter ti) (ok : BlkOk X.N X.env.scope scope own)
    (hg : ∀ (s : Shared) (H : Hp) (C : Addr) (cl : List (Str × Addr)) (fp : List Addr), PG (X.blk s H scope (compEnvC scope cl C X.env) fp) tg g)
    (he : ∀ (s : Shared) (H : Hp) (C : Addr) (cl : List (Str × Addr)) (fp : List Addr), PE (X.blk s H scope (compEnvC scope cl C X.env) fp) elt te) (hs : ∀ x, foldedSetIterable iter X.env x = pure x := by intro _; rfl) :
    PE X (.ListComp elt [⟨tg, iter, [], 0⟩] scope pos) (tLc (iAsc ti) g tYes te (own.map (·.2))) := by
  obtain ⟨p, ⟨hA, ve, de, ne⟩, hp⟩ := hc
  refine ⟨fun pins s0 σ H Q I0 h0 => ?_⟩
  rw [eval_ListComp]
  have free : ∀ y ∈ scope.names, y.2 = .free → ∃ c, X.env.cells.lookup y.1 = some c := fun y hy e => I0.ok.has _ (ok.free y hy e)
  refine wpAny_comprehension_free (use := none) rfl hs (closure_ok free) ok.kind (fun y hy e => by rw [ok.uniq y hy, e]) (thn (hi.run pins s0 σ H _ I0 h0) fun xv s1 ⟨y, H1, I1, r1, x, ex, asc, q⟩ => ?_)
  subst ex
  obtain ⟨t, rfl⟩ := r1
  refine wpAny_pyIter_ascii asc ?_
  -- the iterator
  generalize hit : s1.heap.objs.size = it
  generalize hs2 : ({ s1 with heap := s1.heap.push { cls := .type "str_ascii_iterator", data := .fields #[.str x t, .int 0 0] } } : Shared) = s2
  have kp1 : ∀ b o, s1.heap.get? b = some o → s2.heap.get? b = some o := fun b o e => by rw [← hs2]; exact Heap.get?_push_of_some _ e
  have I2 : Inv X pins σ H1 s2 := by
    rw [← hs2]
    exact I1.kept (t' := s1.toks) fun b o e => Heap.get?_push_of_some _ e
  have st2 : s2.heap.IsStrIter it "str_ascii_iterator" x t 0 := by
    rw [← hs2, ← hit]
    exact ⟨_, Heap.get?_push_size _ rfl, rfl, rfl⟩
  have fi : FpOk X pins H1 it := I1.fpOk (Nat.le_of_eq hit) (I1.hok.fresh (Nat.le_of_eq hit))
  have ilt : it < s2.heap.objs.size := by
    obtain ⟨o, e, _⟩ := st2
    exact Heap.lt_size e
  refine wpAny_newObj_type (newEnv_comp ?_) (by show 0 ≤ sizeLine; decide)
  -- the new list
  generalize hD : s2.heap.objs.size = D
  have hDn : H1 D = none := I2.hok.fresh (Nat.le_of_eq hD)
  obtain ⟨W, ⟨m0, w0⟩, turn⟩ := q D hDn
  generalize hs3 : ({ s2 with heap := s2.heap.push { cls := .type "list", data := .seq ([] : List Value).toArray } } : Shared) = s3
  have kp2 : ∀ b o, s2.heap.get? b = some o → s3.heap.get? b = some o := fun b o e => by rw [← hs3]; exact Heap.get?_push_of_some _ e
  generalize hH3 : upd H1 D (.lst []) = H3
  rw [hH3] at w0
  have I3 : Inv X pins σ H3 s3 := by
    rw [← hs3, ← hH3]
    refine I2.laid (t' := s2.toks) (fun b o e => Heap.get?_push_of_some _ e) (Nat.le_of_eq hD) ⟨Nat.zero_le _, [], 0, .nil, ?_⟩
    rw [← hD]
    exact Heap.get?_push_size _ rfl
  have ni3 : H3 it = none := by
    rw [← hH3, upd_ne (by rw [← hD]; exact Nat.ne_of_lt ilt)]
    exact fi.1
  have f3 : ∀ b ∈ [it], FpOk X pins H3 b ∧ b < s3.heap.objs.size := fun b hb => by
    rw [List.mem_singleton.mp hb]
    exact ⟨⟨ni3, fi.2⟩, by rw [← hs3]; show it < (s2.heap.push _).objs.size; rw [Heap.size_push]; omega⟩
  have I4 := block_start I3 ok hN f3
  have pg := hg s3 H3 s3.heap.objs.size (cellsFrom (s3.heap.objs.size + 1) scope.names (cloFrom X.env.cells scope.names [])) [it]
  have pe := he s3 H3 s3.heap.objs.size (cellsFrom (s3.heap.objs.size + 1) scope.names (cloFrom X.env.cells scope.names [])) [it]
  show codeAny _ _ (.compStart (.ListComp elt [⟨tg, iter, [], 0⟩] scope pos) 0 (.ref it) (.ref D) (compEnvC scope (cellsFrom (s3.heap.objs.size + 1) scope.names (cloFrom X.env.cells scope.names [])) s3.heap.objs.size X.env)) (compPost (model X.prog X.w) X.A X.xe none (EP X pins σ Q) (.ref D) s3.heap.objs.size) { s3 with heap := pushCells (s3.heap.push { cls := .type "dict", data := .dict #[] }) scope.names }
  generalize hce : compEnvC scope (cellsFrom (s3.heap.objs.size + 1) scope.names (cloFrom X.env.cells scope.names [])) s3.heap.objs.size X.env = ce at I4 pg pe ⊢
  have cL : ce.locals = s3.heap.objs.size := by rw [← hce]; rfl
  generalize hs4 : ({ s3 with heap := pushCells (s3.heap.push { cls := .type "dict", data := .dict #[] }) scope.names } : Shared) = s4 at I4 ⊢
  have kp3 : ∀ b o, s3.heap.get? b = some o → s4.heap.get? b = some o := fun b o e => by rw [← hs4]; exact pushCells_keeps _ _ _ _ (Heap.get?_push_of_some _ e)
  have st4 : s4.heap.IsStrIter it "str_ascii_iterator" x t 0 := by
    obtain ⟨o, e, r⟩ := st2
    exact ⟨o, kp3 _ _ (kp2 _ _ e), r⟩
  -- the exception stays where it is
  have P3 := I3.pin p (List.mem_append_left _ hp)
  have pit : p.1 ≠ it := fi.2.2.2.2.2 p (List.mem_append_left _ hp)
  have I5 : Inv (X.blk s3 H3 scope ce [it]) [p] (wipe σ (own.map (·.2))) H3 s4 := I4.pins_of fun r hr => by
    rw [List.mem_singleton.mp hr]
    exact ⟨kp3 _ _ P3.1, P3.2.1, by show p.1 ≠ ce.locals; rw [cL]; exact Nat.ne_of_lt (Heap.lt_size P3.1), fun hm => (List.mem_cons.mp (I3.stkSub p.1 hm)).elim P3.2.2.1 P3.2.2.2.1, P3.2.2.2.2⟩
  have inside : ∀ {σ' : L2.St} {H' : Hp} {s' : Shared} {pl : List (Addr × Obj)}, Inv (X.blk s3 H3 scope ce [it]) pl σ' H' s' → pl = [p] → H' it = none → FpOk (X.blk s3 H3 scope ce [it]) pl H' it := fun {σ' H' s' pl} I' epl hn =>
    ⟨hn, (I'.ok.exf it (List.mem_singleton.mpr rfl)).1, I'.ok.exfs it (List.mem_singleton.mpr rfl), .inl (List.mem_singleton.mpr rfl), fun y c e => (I'.ok.exf it (List.mem_singleton.mpr rfl)).2 y c e, fun r hr => by
      have hr : r ∈ pl := by simpa using hr
      rw [epl] at hr
      rw [List.mem_singleton.mp hr]
      exact pit⟩
  have loop : codeAny (model X.prog X.w) X.A (.compLoop (.ListComp elt [⟨tg, iter, [], 0⟩] scope pos) 0 (.ref it) (.ref D) ce) (compPost (model X.prog X.w) X.A X.xe none (EP X pins σ Q) (.ref D) s3.heap.objs.size) s4 := by
    refine compLoop_any (fun n s' => ∃ i H', Inv (X.blk s3 H3 scope ce [it]) [p] (wipe σ (own.map (·.2))) H' s' ∧ s'.heap.IsStrIter it "str_ascii_iterator" x t i ∧ H' it = none ∧ W i n H') ?_ m0 ⟨0, H3, I5, st4, ni3, w0⟩
    rintro n s5 ⟨i, H5, J, st5, n5, w5⟩
    have hf := inside J rfl n5
    have pin5 := J.pin p (List.mem_append_right _ (List.mem_singleton.mpr rfl))
    rcases turn i n H5 w5 with ⟨stop, done⟩ | ⟨go, Nx, hNx, step⟩
    · have hot : HotAt X.A p.1 s5.heap := ⟨hA, p.2, ve, pin5.1, de, ne⟩
      have hx : x.cps[i]? = none := Array.getElem?_eq_none stop
      refine sign_end hot pit st5 hx fun h' ke => ?_
      have J2 : Inv (X.blk s3 H3 scope ce [it]) [p] (wipe σ (own.map (·.2))) H5 { s5 with heap := h' } := J.turned (t' := s5.toks) ke hf.1 hf.2.1 hf.2.2.2.1 hf.2.2.2.2.1 hf.2.2.2.2.2
      have B : Inv X pins σ H5 { s5 with heap := h' } := I3.call' (ch := [it]) J2.os J2.base J2.hok J2.bare fun b hb => by
        have z := (f3 b hb).1.2
        exact ⟨z.2.2.1, z.1, z.2.2.2.1, z.2.2.2.2⟩
      have nC : H5 s3.heap.objs.size = none := by
        have z : H5 ce.locals = none := J2.free
        rwa [cL] at z
      obtain ⟨m, hn, _⟩ := J2.loc
      have hn : Heap.Ns h' ce.locals m := hn
      rw [cL] at hn
      obtain ⟨c0, c1, c2, c3, c4, c5⟩ : FpOk X pins H5 s3.heap.objs.size := I3.fpOk (Nat.le_refl _) nC
      exact ⟨m, hn, fun h2 sb => ⟨.ref D, H5, B.turned (t' := s5.toks) (fun b o hb e => (sb.2 b hb).trans e) c0 c1 c3 c4 c5, rfl, done⟩⟩
    · obtain ⟨c, hcx⟩ : ∃ c, x.cps[i]? = some c := ⟨_, Array.getElem?_eq_getElem go⟩
      refine wpAny_pyNext_ascii_item st5 hcx fun h6 st6 sb6 => ?_
      have J6 : Inv (X.blk s3 H3 scope ce [it]) [p] (wipe σ (own.map (·.2))) H5 { s5 with heap := h6, toks := s5.toks + 1 } := J.turned (fun b o hb e => (sb6.2 b hb).trans e) hf.1 hf.2.1 hf.2.2.2.1 hf.2.2.2.2.1 hf.2.2.2.2.2
      obtain ⟨oi, gi, ci, di⟩ := id st6
      refine go_of (s := { s5 with heap := h6, toks := s5.toks + 1 }) gi ci di (by decide) ?_
      -- the iterator stands through the turn
      have hf6 : ∀ b ∈ [it], FpOk (X.blk s3 H3 scope ce [it]) [p] H5 b := fun b hb => by rw [List.mem_singleton.mp hb]; exact hf
      have oi6 : ∀ b ∈ [it], ∃ o, h6.get? b = some o ∧ ∀ v, o.data ≠ .cell v := fun b hb => by
        rw [List.mem_singleton.mp hb]
        exact ⟨oi, gi, fun v z => by rw [di] at z; cases z⟩
      have J7 := J6.pinned hf6 oi6
      refine thnF (pg.run _ _ _ H5 (.str ⟨#[c]⟩) _ _ J7 ⟨s5.toks, rfl⟩ (step (.str ⟨#[c]⟩) H5 ⟨rfl, c, hcx, rfl⟩)) fun _ s8 ⟨σ8, H8, J8, hw, q8⟩ => ?_
      refine wpAny_tests_nil ?_
      unfold tYes at q8
      dsimp only at q8
      rw [if_pos rfl] at q8
      rw [if_pos rfl]
      refine thnF (pe.run _ s8 σ8 H8 _ J8 q8) fun z s9 ⟨yv, H9, J9, r9, acc, hD9, hz9, nx⟩ => ?_
      refine app_ok (X := X.blk s3 H3 scope ce [it]) J9 hD9 hz9 r9 fun s10 J10 => ?_
      obtain ⟨m', hm, w'⟩ := hNx _ nx
      have hl : (wipe σ (own.map (·.2))).length = σ8.length := by rw [← hw, wipe_length]
      have zi := J10.pin (it, oi) (List.mem_append_right _ (List.mem_append_right _ (mem_pinsAt (List.mem_singleton.mpr rfl) gi)))
      refine ⟨m', hm, i + 1, _, (J10.unpinned (pins := [p])).weak hl (fun j v e => ?_), ⟨oi, zi.1, ci, di⟩, zi.2.1, w'⟩
      rw [← hw] at e
      exact (wipe_some e).1
  refine codeAny_compStart_list loop ?_
  exact wpAny_pyIter_striter_ascii st4 loop
end
end Ck
namespace Ck
open PySem PySem.Spec PyProof.Rows L2
open He (ga ma fAd)
/-! ### values as they lie in the heap -/
def octs (u : List UInt8) : List V := u.map fun b => V.int (b.toNat : Int)
def strV (z : Str) : List V := z.cps.toList.map fun c => V.int (c : Nat)
mutual
inductive VA (K : PySem.W.Frag) (G : Hp) : V → RWire.Value → Prop
  | nothing {t : Addr} : SqT K G t [.int 0] → VA K G (.ref t) .nothing
  | null {t : Addr} : SqT K G t [.int 1] → VA K G (.ref t) .null
  | fls {t : Addr} : SqT K G t [.int 2] → VA K G (.ref t) (.bool false)
  | tru {t : Addr} : SqT K G t [.int 3] → VA K G (.ref t) (.bool true)
  | int {t : Addr} {i : Int} : SqT K G t [.int 4, .int i] → VA K G (.ref t) (.int i)
  | text {t q : Addr} {u : List UInt8} : SqT K G t [.int 6, .ref q] → SqT K G q (octs u) → VA K G (.ref t) (.text u)
  | list {t q : Addr} {xs : List V} {l : List RWire.Value} : SqT K G t [.int 7, .ref q] → SqT K G q xs → VAs K G xs l → VA K G (.ref t) (.list l)
  | record {t q : Addr} {xs : List V} {l : List (List UInt8 × RWire.Value)} : SqT K G t [.int 8, .ref q] → SqT K G q xs → VEs K G xs l → VA K G (.ref t) (.record l)
inductive VAs (K : PySem.W.Frag) (G : Hp) : List V → List RWire.Value → Prop
  | nil : VAs K G [] []
  | cons {v : V} {x : RWire.Value} {vs : List V} {l : List RWire.Value} : VA K G v x → VAs K G vs l → VAs K G (v :: vs) (x :: l)
inductive VEs (K : PySem.W.Frag) (G : Hp) : List V → List (List UInt8 × RWire.Value) → Prop
  | nil : VEs K G [] []
  | cons {e n : Addr} {u : List UInt8} {v : V} {x : RWire.Value} {vs : List V} {l : List (List UInt8 × RWire.Value)} : SqT K G e [.ref n, v] → SqT K G n (octs u) → VA K G v x → VEs K G vs l → VEs K G (.ref e :: vs) ((u, x) :: l)
end
section
variable {K : PySem.W.Frag} {G G' : Hp}
mutual
theorem VA.mono (s : Same G G') : ∀ (x : RWire.Value) (v : V), VA K G v x → VA K G' v x
  | .nothing, _, h => by cases h with | nothing h => exact .nothing (Same.sqT s h)
  | .null, _, h => by cases h with | null h => exact .null (Same.sqT s h)
  | .bool _, _, h => by
    cases h with
    | fls h => exact .fls (Same.sqT s h)
    | tru h => exact .tru (Same.sqT s h)
  | .int _, _, h => by cases h with | int h => exact .int (Same.sqT s h)
  | .big _, _, h => by cases h
  | .text _, _, h => by cases h with | text h1 h2 => exact .text (Same.sqT s h1) (Same.sqT s h2)
  | .octets _, _, h => by cases h
  | .wide _, _, h => by cases h
  | .list l, _, h => by cases h with | list h1 h2 h3 => exact .list (Same.sqT s h1) (Same.sqT s h2) (VAs.mono s l _ h3)
  | .record l, _, h => by cases h with | record h1 h2 h3 => exact .record (Same.sqT s h1) (Same.sqT s h2) (VEs.mono s l _ h3)
theorem VAs.mono (s : Same G G') : ∀ (l : List RWire.Value) (vs : List V), VAs K G vs l → VAs K G' vs l
  | [], _, h => by cases h; exact .nil
  | x :: l, _, h => by cases h with | cons h1 h2 => exact .cons (VA.mono s x _ h1) (VAs.mono s l _ h2)
theorem VEs.mono (s : Same G G') : ∀ (l : List (List UInt8 × RWire.Value)) (vs : List V), VEs K G vs l → VEs K G' vs l
  | [], _, h => by cases h; exact .nil
  | (u, x) :: l, _, h => by cases h with | cons h1 h2 h3 h4 => exact .cons (Same.sqT s h1) (Same.sqT s h2) (VA.mono s x _ h3) (VEs.mono s l _ h4)
end
theorem VA.up {x : RWire.Value} {v : V} [q : Blw G G'] (h : VA K G v x) : VA K G' v x := VA.mono q.s x v h
theorem VAs.up {l : List RWire.Value} {vs : List V} [q : Blw G G'] (h : VAs K G vs l) : VAs K G' vs l := VAs.mono q.s l vs h
theorem VAs.app {l m : List RWire.Value} {vs ws : List V} (h : VAs K G vs l) (h2 : VAs K G ws m) : VAs K G (vs ++ ws) (l ++ m) := by
  induction l generalizing vs with
  | nil => cases h; exact h2
  | cons x l ih => cases h with | cons a b => exact .cons a (ih b)
theorem VAs.len {l : List RWire.Value} {vs : List V} (h : VAs K G vs l) : vs.length = l.length := by
  induction l generalizing vs with
  | nil => cases h; rfl
  | cons x l ih => cases h with | cons a b => exact congrArg (· + 1) (ih b)
theorem VEs.len {l : List (List UInt8 × RWire.Value)} {vs : List V} (h : VEs K G vs l) : vs.length = l.length := by
  induction l generalizing vs with
  | nil => cases h; rfl
  | cons x l ih => cases h with | cons a b c d => exact congrArg (· + 1) (ih d)
/-- pairs of a written name and a value -/
inductive PRs (K : PySem.W.Frag) (G : Hp) : List V → List (List UInt8 × RWire.Value) → Prop
  | nil : PRs K G [] []
  | cons {e : Addr} {z : Str} {u : List UInt8} {v : V} {x : RWire.Value} {vs : List V} {l : List (List UInt8 × RWire.Value)} : SqT K G e [.str z, v] → strV z = octs u → VA K G v x → PRs K G vs l → PRs K G (.ref e :: vs) ((u, x) :: l)
theorem PRs.mono (s : Same G G') : ∀ {l : List (List UInt8 × RWire.Value)} {vs : List V}, PRs K G vs l → PRs K G' vs l
  | _, _, .nil => .nil
  | _, _, .cons h1 h2 h3 h4 => .cons (Same.sqT s h1) h2 (VA.mono s _ _ h3) (PRs.mono s h4)
theorem PRs.up {l : List (List UInt8 × RWire.Value)} {vs : List V} [q : Blw G G'] (h : PRs K G vs l) : PRs K G' vs l := PRs.mono q.s h
theorem PRs.app : ∀ {l m : List (List UInt8 × RWire.Value)} {vs ws : List V}, PRs K G vs l → PRs K G ws m → PRs K G (vs ++ ws) (l ++ m)
  | _, _, _, _, .nil, h => h
  | _, _, _, _, .cons h1 h2 h3 h4, h => .cons h1 h2 h3 (PRs.app h4 h)
theorem PRs.len : ∀ {l : List (List UInt8 × RWire.Value)} {vs : List V}, PRs K G vs l → vs.length = l.length
  | _, _, .nil => rfl
  | _, _, .cons _ _ _ h => congrArg (· + 1) h.len
theorem octs_len (u : List UInt8) : (octs u).length = u.length := List.length_map _
theorem octs_app (u v : List UInt8) : octs (u ++ v) = octs u ++ octs v := List.map_append
end
/-! ### promises: values -/
section
variable (K : PySem.W.Frag)
def spInteger : Sp := fun vs H Q _ => vs.length = 1 ∧ ∃ (G : Hp) (i : Int), vs = [.int i] ∧ Same G H ∧ ∀ v, Nxt [] G H fun G' H' => VA K G' v (.int i) → Q v H'
def spTruth : Sp := fun vs H Q _ => vs.length = 1 ∧ ∃ b : Bool, vs = [.bl b] ∧ ∀ v, (∀ G, VA K G v (.bool b)) → Q v H
def spCodesOf : Sp := fun vs H Q _ => vs.length = 1 ∧ ∃ (G : Hp) (z : Str), vs = [.str z] ∧ Same G H ∧ z.cps.size ≤ 100000 ∧ ∀ p, Nxt [] G H fun G' H' => G' p = some (.tup (strV z)) → Q (.ref p) H'
def spText : Sp := fun vs H Q _ => vs.length = 1 ∧ ∃ (G : Hp) (z : Str) (u : List UInt8), vs = [.str z] ∧ Same G H ∧ z.cps.size ≤ 100000 ∧ strV z = octs u ∧ ∀ v, Nxt [] G H fun G' H' => VA K G' v (.text u) → Q v H'
def spListed : Sp := fun vs H Q _ => vs.length = 1 ∧ ∃ (G : Hp) (a : Addr) (xs : List V) (l : List RWire.Value), vs = [.ref a] ∧ Same G H ∧ SqL K H a xs ∧ xs.length ≤ 100000 ∧ VAs K G xs l ∧ ∀ v, Nxt [] G H fun G' H' => VA K G' v (.list l) → Q v H'
def spIntegers : Sp := fun vs H Q _ => vs.length = 1 ∧ ∃ (G : Hp) (a : Addr) (ns : List Int), vs = [.ref a] ∧ Same G H ∧ SqL K H a (ns.map V.int) ∧ ns.length ≤ 100000 ∧ ∀ v, Nxt [] G H fun G' H' => VA K G' v (.list (ns.map .int)) → Q v H'
def spRecord : Sp := fun vs H Q _ => vs.length = 1 ∧ ∃ (G : Hp) (a : Addr) (ps : List V) (l : List (List UInt8 × RWire.Value)), vs = [.ref a] ∧ Same G H ∧ SqL K H a ps ∧ ps.length ≤ 1000 ∧ PRs K G ps l ∧ (∀ e ∈ l, e.1.length ≤ 100000) ∧ ∀ v, Nxt [] G H fun G' H' => VA K G' v (.record l) → Q v H'
end
section
variable {K : PySem.W.Frag} {G H : Hp} {Q : VK} {E : XK}
theorem u_integer [q : Cur G H] {i : Int} (k : ∀ v, Nxt [] G H fun G' H' => VA K G' v (.int i) → Q v H') : spInteger K [.int i] H Q E := ⟨rfl, G, i, rfl, q.s, k⟩
theorem u_truth {b : Bool} (k : ∀ v, (∀ G, VA K G v (.bool b)) → Q v H) : spTruth K [.bl b] H Q E := ⟨rfl, b, rfl, k⟩
theorem u_codesOf [q : Cur G H] {z : Str} (hz : z.cps.size ≤ 100000) (k : ∀ p, Nxt [] G H fun G' H' => G' p = some (.tup (strV z)) → Q (.ref p) H') : spCodesOf [.str z] H Q E := ⟨rfl, G, z, rfl, q.s, hz, k⟩
theorem u_text [q : Cur G H] {z : Str} {u : List UInt8} (hz : z.cps.size ≤ 100000) (hu : strV z = octs u) (k : ∀ v, Nxt [] G H fun G' H' => VA K G' v (.text u) → Q v H') : spText K [.str z] H Q E := ⟨rfl, G, z, u, rfl, q.s, hz, hu, k⟩
theorem u_listed [q : Cur G H] {a : Addr} {xs : List V} {l : List RWire.Value} (h : SqL K H a xs) (hl : xs.length ≤ 100000) (hv : VAs K G xs l) (k : ∀ v, Nxt [] G H fun G' H' => VA K G' v (.list l) → Q v H') : spListed K [.ref a] H Q E := ⟨rfl, G, a, xs, l, rfl, q.s, h, hl, hv, k⟩
theorem u_integers [q : Cur G H] {a : Addr} {ns : List Int} (h : SqL K H a (ns.map V.int)) (hl : ns.length ≤ 100000) (k : ∀ v, Nxt [] G H fun G' H' => VA K G' v (.list (ns.map .int)) → Q v H') : spIntegers K [.ref a] H Q E := ⟨rfl, G, a, ns, rfl, q.s, h, hl, k⟩
theorem u_record [q : Cur G H] {a : Addr} {ps : List V} {l : List (List UInt8 × RWire.Value)} (h : SqL K H a ps) (hl : ps.length ≤ 1000) (hv : PRs K G ps l) (hn : ∀ e ∈ l, e.1.length ≤ 100000) (k : ∀ v, Nxt [] G H fun G' H' => VA K G' v (.record l) → Q v H') : spRecord K [.ref a] H Q E := ⟨rfl, G, a, ps, l, rfl, q.s, h, hl, hv, hn, k⟩
end
end Ck
namespace Ck
open PySem PySem.Spec PyProof.Rows L2
section
variable {K : PySem.W.Frag} {G : Hp}
theorem vas_pt : ∀ (l : List RWire.Value) (ys : List V), ys.length = l.length → (∀ (i : Nat) (y : V) (x : RWire.Value), ys[i]? = some y → l[i]? = some x → VA K G y x) → VAs K G ys l
  | [], ys, h, _ => by
    cases ys with
    | nil => exact .nil
    | cons _ _ => cases h
  | x :: l, ys, h, f => by
    cases ys with
    | nil => cases h
    | cons y ys => exact .cons (f 0 y x rfl rfl) (vas_pt l ys (by simpa using h) fun i y x a b => f (i + 1) y x (by simpa using a) (by simpa using b))
theorem ves_pt : ∀ (l : List (List UInt8 × RWire.Value)) (ys : List V), ys.length = l.length → (∀ (i : Nat) (y : V) (u : List UInt8) (x : RWire.Value), ys[i]? = some y → l[i]? = some (u, x) → ∃ e n v, y = .ref e ∧ SqT K G e [.ref n, v] ∧ SqT K G n (octs u) ∧ VA K G v x) → VEs K G ys l
  | [], ys, h, _ => by
    cases ys with
    | nil => exact .nil
    | cons _ _ => cases h
  | (u, x) :: l, ys, h, f => by
    cases ys with
    | nil => cases h
    | cons y ys =>
      obtain ⟨e, n, v, rfl, h1, h2, h3⟩ := f 0 y u x rfl rfl
      exact .cons h1 h2 h3 (ves_pt l ys (by simpa using h) fun i y u x a b => f (i + 1) y u x (by simpa using a) (by simpa using b))
theorem VAs.at : ∀ {l : List RWire.Value} {ys : List V}, VAs K G ys l → ∀ {i : Nat} {y : V}, ys[i]? = some y → ∃ x, l[i]? = some x ∧ VA K G y x
  | _, _, .nil, i, y, h => by cases i <;> cases h
  | _, _, .cons (x := x) a b, 0, y, h => by cases h; exact ⟨x, rfl, a⟩
  | _, _, .cons a b, i + 1, y, h => by
    obtain ⟨x, e, v⟩ := VAs.at b (i := i) (y := y) (by simpa using h)
    exact ⟨x, by simpa using e, v⟩
theorem VEs.at : ∀ {l : List (List UInt8 × RWire.Value)} {ys : List V}, VEs K G ys l → ∀ {i : Nat} {y : V}, ys[i]? = some y → ∃ e n u v x, y = .ref e ∧ l[i]? = some (u, x) ∧ SqT K G e [.ref n, v] ∧ SqT K G n (octs u) ∧ VA K G v x
  | _, _, .nil, i, y, h => by cases i <;> cases h
  | _, _, .cons (e := e) (n := n) (u := u) (v := v) (x := x) a b c d, 0, y, h => by cases h; exact ⟨e, n, u, v, x, rfl, rfl, a, b, c⟩
  | _, _, .cons a b c d, i + 1, y, h => by
    obtain ⟨e, n, u, v, x, h1, h2, h3⟩ := VEs.at d (i := i) (y := y) (by simpa using h)
    exact ⟨e, n, u, v, x, h1, by simpa using h2, h3⟩
theorem PRs.at : ∀ {l : List (List UInt8 × RWire.Value)} {ys : List V}, PRs K G ys l → ∀ {i : Nat} {y : V}, ys[i]? = some y → ∃ e z u v x, y = .ref e ∧ l[i]? = some (u, x) ∧ SqT K G e [.str z, v] ∧ strV z = octs u ∧ VA K G v x
  | _, _, .nil, i, y, h => by cases i <;> cases h
  | _, _, .cons (e := e) (z := z) (u := u) (v := v) (x := x) a b c d, 0, y, h => by cases h; exact ⟨e, z, u, v, x, rfl, rfl, a, b, c⟩
  | _, _, .cons a b c d, i + 1, y, h => by
    obtain ⟨e, z, u, v, x, h1, h2, h3⟩ := PRs.at d (i := i) (y := y) (by simpa using h)
    exact ⟨e, z, u, v, x, h1, by simpa using h2, h3⟩
end
end Ck
/-- one step of a reading; `walk_at "w"` goes on as far as it can -/
local macro_rules | `(tactic| walk_at "w1") => `(tactic| first
  | with_reducible refine Ck.w_var rfl ?_ | with_reducible refine Ck.w_c ?_ | with_reducible refine Ck.w_op ?_ | with_reducible refine Ck.w_fld ?_ | with_reducible refine Ck.w_cons ?_ | with_reducible refine Ck.w_nil ?_
  | with_reducible refine Ck.w_seq ?_ | with_reducible refine Ck.w_asg ?_ | with_reducible refine Ck.w_drop ?_ | with_reducible refine Ck.w_ret ?_ | with_reducible refine Ck.w_ifS ?_ | with_reducible refine Ck.w_next ?_
  | with_reducible refine Ck.w_i0 ?_ | with_reducible refine Ck.w_tT ?_ | with_reducible refine Ck.w_tB ?_ | with_reducible refine Ck.w_bl ?_ | with_reducible refine Ck.w_eq rfl ?_ | with_reducible refine Ck.w_ne rfl ?_
  | with_reducible refine Ck.w_call ?_ | with_reducible refine Ck.w_meth ?_ | with_reducible refine Ck.w_cb ?_ | with_reducible refine Ck.w_tup ?_ | with_reducible refine Ck.w_lst ?_ | with_reducible refine Ck.w_if ?_
  | with_reducible refine Ck.w_andV ?_ | with_reducible refine Ck.w_orV ?_ | with_reducible refine Ck.w_notV ?_ | with_reducible refine Ck.w_and ?_ | with_reducible refine Ck.w_or ?_ | with_reducible refine Ck.w_not ?_
  | with_reducible refine Ck.w_bm ?_ | with_reducible refine Ck.w_sfld ?_ | with_reducible refine Ck.w_make ?_ | with_reducible refine Ck.w_sl ?_ | with_reducible refine Ck.w_part ?_ | with_reducible refine Ck.w_pI ?_ | with_reducible refine Ck.w_noP ?_
  | with_reducible refine Ck.w_sub ?_ | with_reducible refine Ck.w_name ?_ | with_reducible refine Ck.w_gtup ?_ | with_reducible refine Ck.w_gcons ?_ | with_reducible refine Ck.w_gnil ?_ | with_reducible refine Ck.w_asgG ?_
  | with_reducible refine Ck.w_iL ?_ | with_reducible refine Ck.w_iT ?_ | with_reducible refine Ck.w_iR ?_ | with_reducible refine Ck.w_iS ?_ | with_reducible refine Ck.w_lc ?_ | with_reducible refine Ck.w_for ?_ | with_reducible refine Ck.w_un ?_
  | with_reducible refine Ck.w_xf ?_ | with_reducible refine Ck.w_chain ?_ | with_reducible refine Ck.w_rev ?_ | with_reducible refine Ck.w_dget ?_ | with_reducible refine Ck.w_dput ?_ | with_reducible refine Ck.w_methE ?_ | with_reducible refine Ck.w_mkO ?_ | with_reducible refine Ck.w_ost ?_ | with_reducible refine Ck.w_fAug ?_
  | with_reducible refine Ck.w_tt ?_ | with_reducible refine Ck.w_ff ?_ | (with_reducible refine And.intro rfl ?_))
local macro_rules | `(tactic| walk_at "w") => `(tactic| repeat walk_at "w1")

local macro_rules | `(tactic| walk_at "wk") => `(tactic| first | (dsimp only [L2.Cx.blk]; done) | (dsimp only [L2.Cx.blk]; exact rfl) | exact rfl)
local macro_rules | `(tactic| walk_at "wt") => `(tactic| first | (dsimp only [L2.Cx.tr, L2.Cx.suite]; done) | (dsimp only [L2.Cx.tr, L2.Cx.suite]; exact rfl) | exact rfl)
namespace Ck
open PySem PySem.Spec PyProof.Rows L2
open He (ga ma fAd)
section
variable {P : Program} {w : World} {K : PySem.W.Frag} {mg : Str → Option Value} {base : Heap}
theorem has_integer (T : Txt K mg) : Has P w K mg base CX0 1 ("integer", none) ["number"] (spInteger K) := by
  refine mk_has (d := d_integer) T 44 rfl rfl rfl sc_integer (fun _ _ _ _ _ _ us hl => match us, hl with | [_], _ => rfl) (fun vs H Q E h => h.1) (fun cdv A outer s H vs Q E hr h => ?_)
  refine ⟨_, PSs.nox (pss_one (ps_ret (pe_tup (pa_cons (pgi (gi_INTEGER T) rfl) (pa_cons (pv 0) pa_nil))))), ?_⟩
  obtain ⟨_, G, i, rfl, gs, k⟩ := h
  have : Cur G H := ⟨gs⟩
  walk_at "w"
  refine u_tup (by show 2 ≤ sizeLine; decide) fun p G1 H1 st _ _ hp => ?_
  exact (k _).go st (.int (SqT.of hp))
theorem has_truth (T : Txt K mg) : Has P w K mg base CX0 1 ("truth", none) ["told"] (spTruth K) := by
  refine mk_has (d := d_truth) T 46 rfl rfl rfl sc_truth (fun _ _ _ _ _ _ us hl => match us, hl with | [_], _ => rfl) (fun vs H Q E h => h.1) (fun cdv A outer s H vs Q E hr h => ?_)
  refine ⟨_, PSs.nox (pss_one (ps_ret (pe_ifExp (pt_val (pv 0)) (pgr (tg_TRUE T) rfl) (pgr (tg_FALSE T) rfl)))), ?_⟩
  obtain ⟨_, b, rfl, k⟩ := h
  walk_at "w"
  refine w_ite (fun hb => ?_) (fun hb => ?_)
  · walk_at "w"; subst hb; exact k _ fun G => .tru (tt_TRUE T G)
  · walk_at "w"; subst hb; exact k _ fun G => .fls (tt_FALSE T G)
theorem has_codes_of (T : Txt K mg) : Has P w K mg base CX0 1 ("codes_of", none) ["text"] (spCodesOf) := by
  refine mk_has (d := d_codes_of) T 43 rfl rfl rfl sc_codes_of (fun _ _ _ _ _ _ us hl => match us, hl with | [_], _ => rfl) (fun vs H Q E h => h.1) (fun cdv A outer s H vs Q E hr h => ?_)
  refine ⟨_, PSs.nox (pss_one (ps_ret (pe_callTy c_tuple (by rfl) (fr_tuple T) (by decide +kernel) (pa_cons (pe_lc (own := [("sign", 1)]) (g := gName 1) (tt := tYes) rfl sc_codes_of.nd (pi_str (pv 0)) (blkOk_by (N := N_codes_of) (sc := defScope s_codes_of) (by decide +kernel)) (fun _ _ _ _ _ => (pg_name (i := 1) sc_codes_of.nd rfl (Or.inl rfl))) (fun _ _ _ _ _ => pts_nil) (fun _ _ _ _ _ => (re_e (pe_callB c_ord (by rfl) (fr_ord T) (by decide +kernel) (pa_cons (pv 1) pa_nil)) (by walk_at "wk")))) pa_nil)))), ?_⟩
  obtain ⟨_, G, z, rfl, gs, hz, k⟩ := h
  have : Cur G H := ⟨gs⟩
  walk_at "w"
  refine u_iS ?_
  refine u_lcA (walk_str (z := z)) (Yv := fun i v => ∃ c, z.cps[i]? = some c ∧ v = .str ⟨#[c]⟩) (fun i H x H' h => h) (fun _ _ => trivial) (by omega) (fun i y _ => ∃ c, z.cps[i]? = some c ∧ y = .int (c : Nat)) (fun _ _ _ _ _ h => h) ?_ ?_ (fun _ _ _ _ h q => mg_name h q)
  · rintro i x G1 H1 Qy hi st _ _ ⟨c, hc, rfl⟩ ky
    walk_at "w"
    refine ⟨_, rfl, rfl, ?_⟩
    exact ky _ _ _ (Stp.refl st.s) ⟨c, hc, rfl⟩
  · intro p ys G1 H1 st _ _ hp mu hlen pr
    have e : ys = strV z := by
      unfold strV
      apply List.ext_getElem?
      intro i
      rw [List.getElem?_map]
      cases hy : ys[i]? with
      | some y =>
        obtain ⟨c, hc, e⟩ := pr i y hy
        rw [e, Array.getElem?_toList, hc]; rfl
      | none =>
        have hi := List.getElem?_eq_none_iff.mp hy
        rw [List.getElem?_eq_none (by rw [Array.length_toList]; omega)]; rfl
    subst e
    walk_at "w"
    refine u_tupL mu.sqL (by show _ ≤ sizeLine; unfold strV; simp [sizeLine_eq]; omega) fun p' G2 H2 st2 _ _ hp' => ?_
    exact (k _).go (st.trans st2) hp'
theorem has_text (T : Txt K mg) : Has P w K mg base CX0 2 ("text", none) ["string"] (spText K) := by
  refine mk_has (d := d_text) T 45 rfl rfl rfl sc_text (fun _ _ _ _ _ _ us hl => match us, hl with | [_], _ => rfl) (fun vs H Q E h => h.1) (fun cdv A outer s H vs Q E hr h => ?_)
  refine ⟨_, PSs.nox (pss_one (ps_ret (pe_tup (pa_cons (pgi (gi_TEXT T) rfl) (pa_cons (pcall (has_codes_of T) (hr.mono (by omega)) rfl (gl_codes_of T) pass0 (pa_cons (pv 0) pa_nil)) pa_nil))))), ?_⟩
  obtain ⟨_, G, z, u, rfl, gs, hz, hu, k⟩ := h
  have : Cur G H := ⟨gs⟩
  walk_at "w"
  refine u_codesOf hz fun p G1 H1 st _ _ hp => ?_
  walk_at "w"
  refine u_tup (by show 2 ≤ sizeLine; decide) fun p2 G2 H2 st2 _ _ hp2 => ?_
  exact (k _).go (st.trans st2) (.text (SqT.of hp2) (by rw [← hu]; exact upT (SqT.of hp)))
theorem has_listed (T : Txt K mg) : Has P w K mg base CX0 1 ("listed", none) ["rows"] (spListed K) := by
  refine mk_has (d := d_listed) T 47 rfl rfl rfl sc_listed (fun _ _ _ _ _ _ us hl => match us, hl with | [_], _ => rfl) (fun vs H Q E h => h.1) (fun cdv A outer s H vs Q E hr h => ?_)
  refine ⟨_, PSs.nox (pss_one (ps_ret (pe_tup (pa_cons (pgi (gi_LIST T) rfl) (pa_cons (pe_callTy c_tuple (by rfl) (fr_tuple T) (by decide +kernel) (pa_cons (pv 0) pa_nil)) pa_nil))))), ?_⟩
  obtain ⟨_, G, a, xs, l, rfl, gs, hx, hl, hv, k⟩ := h
  have : Cur G H := ⟨gs⟩
  walk_at "w"
  refine u_tupL hx (by rw [sizeLine_eq]; omega) fun p G1 H1 st _ _ hp => ?_
  walk_at "w"
  refine u_tup (by show 2 ≤ sizeLine; decide) fun p2 G2 H2 st2 _ _ hp2 => ?_
  exact (k _).go (st.trans st2) (.list (SqT.of hp2) (upT (SqT.of hp)) hv.up)
theorem has_integers (T : Txt K mg) : Has P w K mg base CX0 2 ("integers", none) ["rows"] (spIntegers K) := by
  refine mk_has (d := d_integers) T 48 rfl rfl rfl sc_integers (fun _ _ _ _ _ _ us hl => match us, hl with | [_], _ => rfl) (fun vs H Q E h => h.1) (fun cdv A outer s H vs Q E hr h => ?_)
  refine ⟨_, PSs.nox (pss_one (ps_ret (pcall (has_listed T) (hr.mono (by omega)) rfl (gl_listed T) pass0 (pa_cons (pe_lc (own := [("number", 1)]) (g := gName 1) (tt := tYes) rfl sc_integers.nd (pi_list (pv 0)) (blkOk_by (N := N_integers) (sc := defScope s_integers) (by decide +kernel)) (fun _ _ _ _ _ => (pg_name (i := 1) sc_integers.nd rfl (Or.inl rfl))) (fun _ _ _ _ _ => pts_nil) (fun _ _ _ _ _ => (re_e (pcall (has_integer T) (hr.mono (by omega)) rfl (gl_integer T) pass0 (pa_cons (pv 1) pa_nil)) (by walk_at "wk")))) pa_nil)))), ?_⟩
  obtain ⟨_, G, a, ns, rfl, gs, hx, hl, k⟩ := h
  have : Cur G H := ⟨gs⟩
  walk_at "w"
  refine u_iL hx ?_
  refine u_lcA (walk_list (xs := ns.map V.int)) (Yv := fun i v => (ns.map V.int)[i]? = some v) (fun i H x H' h => h) (fun H' s => s.seq hx) (by rw [List.length_map]; omega) (fun i y G => ∃ n, ns[i]? = some n ∧ VA K G y (.int n)) (fun _ _ _ _ s h => by obtain ⟨n, e, h⟩ := h; exact ⟨n, e, VA.mono s _ _ h⟩) ?_ ?_ (fun _ _ _ _ h q => mg_name h q)
  · rintro i x G1 H1 Qy hi st _ _ hx ky
    rw [List.getElem?_map] at hx
    cases e : ns[i]? with
    | none => rw [e] at hx; cases hx
    | some n =>
      rw [e] at hx
      obtain rfl := Option.some.inj hx
      walk_at "w"
      exact u_integer fun v G2 H2 st2 _ _ hv => ky _ _ _ st2 ⟨n, e, hv⟩
  · intro p ys G1 H1 st _ _ hp mu hlen pr
    rw [List.length_map] at hlen
    have e : VAs K G1 ys (ns.map RWire.Value.int) := vas_pt _ _ (by rw [List.length_map]; exact hlen) fun i y x a b => by
      obtain ⟨n, e, h⟩ := pr i y a
      rw [List.getElem?_map, e] at b
      obtain rfl := Option.some.inj b
      exact h
    walk_at "w"
    refine u_listed mu.sqL (by omega) e fun v G2 H2 st2 _ _ hv => ?_
    exact (k _).go (st.trans st2) hv
theorem has_record (T : Txt K mg) : Has P w K mg base CX0 2 ("record", none) ["pairs"] (spRecord K) := by
  refine mk_has (d := d_record) T 49 rfl rfl rfl sc_record (fun _ _ _ _ _ _ us hl => match us, hl with | [_], _ => rfl) (fun vs H Q E h => h.1) (fun cdv A outer s H vs Q E hr h => ?_)
  refine ⟨_, PSs.nox (pss_one (ps_ret (pe_tup (pa_cons (pgi (gi_RECORD T) rfl) (pa_cons (pe_callTy c_tuple (by rfl) (fr_tuple T) (by decide +kernel) (pa_cons (pe_lc (own := [("name", 1), ("value", 2)]) (g := gTup K 2 (gCons (gName 1) (gCons (gName 2) (gNil)))) (tt := tYes) rfl sc_record.nd (pi_list (pv 0)) (blkOk_by (N := N_record) (sc := defScope s_record) (by decide +kernel)) (fun _ _ _ _ _ => (pg_tup rfl (pgs_cons (pg_name (i := 1) sc_record.nd rfl (Or.inl rfl)) (pgs_cons (pg_name (i := 2) sc_record.nd rfl (Or.inl rfl)) pgs_nil)))) (fun _ _ _ _ _ => pts_nil) (fun _ _ _ _ _ => (re_e (pe_tup (pa_cons (pcall (has_codes_of T) (hr.mono (by omega)) rfl (gl_codes_of T) pass0 (pa_cons (pv 1) pa_nil)) (pa_cons (pv 2) pa_nil))) (by walk_at "wk")))) pa_nil)) pa_nil))))), ?_⟩
  obtain ⟨_, G, a, ps, l, rfl, gs, hx, hl, hv, hn, k⟩ := h
  have : Cur G H := ⟨gs⟩
  walk_at "w"
  refine u_iL hx ?_
  refine u_lcA (walk_list (xs := ps)) (Yv := fun i v => ps[i]? = some v) (fun i H x H' h => h) (fun H' s => s.seq hx) (by omega) (fun i y G => ∃ e n v u x, y = .ref e ∧ l[i]? = some (u, x) ∧ SqT K G e [.ref n, v] ∧ SqT K G n (octs u) ∧ VA K G v x)
    (fun _ _ _ _ s h => by obtain ⟨e, n, v, u, x, h1, h2, h3, h4, h5⟩ := h; exact ⟨e, n, v, u, x, h1, h2, Same.sqT s h3, Same.sqT s h4, VA.mono s _ _ h5⟩) ?_ ?_ (fun _ _ _ _ h q => by
      obtain ⟨a, xs, e1, e2, e3, v, r, e4, w, r2, e5, e6, q⟩ := q
      exact ⟨a, xs, e1, e2, e3, v, r, e4, w, r2, e5, e6, h _ _ q⟩)
  · rintro i x G1 H1 Qy hi st _ _ hx ky
    obtain ⟨e, z, u, v, y, rfl, hl2, h1, h2, h3⟩ := hv.at hx
    have h1' : SqT K H1 e [.str z, v] := onT h1
    walk_at "w"
    refine u_gt h1' rfl ?_
    walk_at "w"
    refine u_codesOf ?_ fun p G2 H2 st2 _ _ hp => ?_
    · have := congrArg List.length h2
      have h9 : u.length ≤ 100000 := hn _ (List.mem_of_getElem? hl2)
      unfold strV octs at this
      simp at this
      omega
    walk_at "w"
    refine u_tup (by show 2 ≤ sizeLine; decide) fun p3 G3 H3 st3 _ _ hp3 => ?_
    refine ky _ _ _ (st2.trans st3) ⟨p3, p, v, u, y, rfl, hl2, SqT.of hp3, ?_, VA.mono ((st.g.trans st2.g).trans st3.g) _ _ h3⟩
    rw [← h2]; exact upT (SqT.of hp)
  · intro p ys G1 H1 st _ _ hp mu hlen pr
    have e : VEs K G1 ys l := ves_pt l ys (by rw [hlen]; exact hv.len) fun i y u x a b => by
      obtain ⟨e, n, v, u', x', rfl, hl2, h⟩ := pr i y a
      rw [hl2] at b
      cases b
      exact ⟨e, n, v, rfl, h⟩
    walk_at "w"
    refine u_tupL mu.sqL (by rw [sizeLine_eq]; omega) fun p' G2 H2 st2 _ _ hp' => ?_
    walk_at "w"
    refine u_tup (by show 2 ≤ sizeLine; decide) fun p3 G3 H3 st3 _ _ hp3 => ?_
    exact (k _).go ((st.trans st2).trans st3) (.record (SqT.of hp3) (upT (SqT.of hp')) (VEs.mono (st2.g.trans st3.g) _ _ e))
end
end Ck
namespace Ck
open PySem PySem.Spec PyProof.Rows L2
open He (ga ma fAd)
theorem low_len : ∀ (k n : Nat), (RWire.low k n).length = k
  | 0, _ => rfl
  | k + 1, n => congrArg (· + 1) (low_len k (n / 256))
theorem low_snoc : ∀ (k n : Nat), RWire.low (k + 1) n = RWire.low k n ++ [UInt8.ofNat (n / 256 ^ k)]
  | 0, n => by simp [RWire.low]
  | k + 1, n => by
    show UInt8.ofNat n :: RWire.low (k + 1) (n / 256) = UInt8.ofNat n :: RWire.low k (n / 256) ++ [UInt8.ofNat (n / 256 ^ (k + 1))]
    rw [low_snoc k (n / 256)]
    have e : n / 256 / 256 ^ k = n / 256 ^ (k + 1) := by
      rw [Nat.div_div_eq_div_mul, Nat.pow_succ, Nat.mul_comm]
    rw [e]; rfl
theorem u8_of (n : Nat) : ((UInt8.ofNat n).toNat : Int) = (n : Int) % 256 := by
  rw [UInt8.toNat_ofNat']
  omega
theorem octs_cons (b : UInt8) (u : List UInt8) : octs (b :: u) = V.int (b.toNat : Int) :: octs u := rfl
theorem wm_snoc : ∀ (l : List RWire.Value) (i : Nat) (x : RWire.Value), l[i]? = some x → RWire.writeMany (l.take (i + 1)) = RWire.writeMany (l.take i) ++ RWire.write x
  | [], i, x, h => by simp at h
  | a :: l, 0, x, h => by
    cases h
    show RWire.write a ++ RWire.writeMany (l.take 0) = _
    rw [List.take_zero]
    show RWire.write a ++ [] = [] ++ RWire.write a
    simp
  | a :: l, i + 1, x, h => by
    show RWire.write a ++ RWire.writeMany (l.take (i + 1)) = RWire.write a ++ RWire.writeMany (l.take i) ++ RWire.write x
    rw [wm_snoc l i x (by simpa using h), List.append_assoc]
theorem we_snoc : ∀ (l : List (List UInt8 × RWire.Value)) (i : Nat) (u : List UInt8) (x : RWire.Value), l[i]? = some (u, x) → RWire.writeEntries (l.take (i + 1)) = RWire.writeEntries (l.take i) ++ (RWire.writeText u ++ RWire.write x)
  | [], i, u, x, h => by simp at h
  | a :: l, 0, u, x, h => by
    cases h
    show RWire.writeText u ++ (RWire.write x ++ RWire.writeEntries (l.take 0)) = _
    rw [List.take_zero]
    show RWire.writeText u ++ (RWire.write x ++ []) = [] ++ _
    simp
  | a :: l, i + 1, u, x, h => by
    show RWire.writeText a.1 ++ (RWire.write a.2 ++ RWire.writeEntries (l.take (i + 1))) = RWire.writeText a.1 ++ (RWire.write a.2 ++ RWire.writeEntries (l.take i)) ++ _
    rw [we_snoc l i u x (by simpa using h)]
    simp [List.append_assoc]
theorem wm_le : ∀ (l : List RWire.Value) (i : Nat), (RWire.writeMany (l.take i)).length ≤ (RWire.writeMany l).length
  | [], i => by simp
  | a :: l, 0 => by rw [List.take_zero]; exact Nat.zero_le _
  | a :: l, i + 1 => by
    show (RWire.write a ++ RWire.writeMany (l.take i)).length ≤ (RWire.write a ++ RWire.writeMany l).length
    rw [List.length_append, List.length_append]
    have := wm_le l i
    omega
theorem we_le : ∀ (l : List (List UInt8 × RWire.Value)) (i : Nat), (RWire.writeEntries (l.take i)).length ≤ (RWire.writeEntries l).length
  | [], i => by simp
  | a :: l, 0 => by rw [List.take_zero]; exact Nat.zero_le _
  | a :: l, i + 1 => by
    show (RWire.writeText a.1 ++ (RWire.write a.2 ++ RWire.writeEntries (l.take i))).length ≤ (RWire.writeText a.1 ++ (RWire.write a.2 ++ RWire.writeEntries l)).length
    simp only [List.length_append]
    have := we_le l i
    omega
theorem dm_mem : ∀ (l : List RWire.Value) (i : Nat) (x : RWire.Value), l[i]? = some x → RWire.depth x ≤ RWire.depthMany l
  | [], i, x, h => by simp at h
  | a :: l, 0, x, h => by cases h; exact Nat.le_max_left _ _
  | a :: l, i + 1, x, h => Nat.le_trans (dm_mem l i x (by simpa using h)) (Nat.le_max_right _ _)
theorem de_mem : ∀ (l : List (List UInt8 × RWire.Value)) (i : Nat) (u : List UInt8) (x : RWire.Value), l[i]? = some (u, x) → RWire.depth x ≤ RWire.depthEntries l
  | [], i, u, x, h => by simp at h
  | a :: l, 0, u, x, h => by cases h; exact Nat.le_max_left _ _
  | a :: l, i + 1, u, x, h => Nat.le_trans (de_mem l i u x (by simpa using h)) (Nat.le_max_right _ _)
theorem fm_mem : ∀ (l : List RWire.Value) (i : Nat) (x : RWire.Value), RWire.fineMany l = true → l[i]? = some x → RWire.fine x = true
  | [], i, x, _, h => by simp at h
  | a :: l, 0, x, f, h => by cases h; exact (Bool.and_eq_true_iff.mp f).1
  | a :: l, i + 1, x, f, h => fm_mem l i x (Bool.and_eq_true_iff.mp f).2 (by simpa using h)
theorem fe_mem : ∀ (l : List (List UInt8 × RWire.Value)) (i : Nat) (u : List UInt8) (x : RWire.Value), RWire.fineEntries l = true → l[i]? = some (u, x) → RWire.fine x = true
  | [], i, u, x, _, h => by simp at h
  | a :: l, 0, u, x, f, h => by cases h; exact (Bool.and_eq_true_iff.mp (Bool.and_eq_true_iff.mp f).2).1
  | a :: l, i + 1, u, x, f, h => fe_mem l i u x (Bool.and_eq_true_iff.mp (Bool.and_eq_true_iff.mp f).2).2 (by simpa using h)
theorem depth_pos : ∀ x : RWire.Value, 1 ≤ RWire.depth x
  | .nothing => Nat.le_refl _
  | .null => Nat.le_refl _
  | .bool _ => Nat.le_refl _
  | .int _ => Nat.le_refl _
  | .big _ => Nat.le_refl _
  | .text _ => Nat.le_refl _
  | .octets _ => Nat.le_refl _
  | .wide _ => Nat.le_refl _
  | .list l => Nat.le_add_left _ _
  | .record l => Nat.le_add_left _ _
def spLow : Sp := fun vs H Q _ => vs.length = 2 ∧ ∃ (G : Hp) (n k : Nat), vs = [.int n, .int k] ∧ Same G H ∧ k ≤ 8 ∧ ∀ p, Nxt [] G H fun G' H' => G' p = some (.lst (octs (RWire.low k n))) → Q (.ref p) H'
/-- a value to be handed out: page_text gives a text whose octets are a list -/
def VO (K : PySem.W.Frag) (G : Hp) (v : V) (x : RWire.Value) : Prop := VA K G v x ∨ ∃ (t q : Addr) (u : List UInt8), v = .ref t ∧ x = .text u ∧ SqT K G t [.int 6, .ref q] ∧ SqL K G q (octs u)
theorem VO.mono {K : PySem.W.Frag} {G G' : Hp} {v : V} {x : RWire.Value} (s : Same G G') (h : VO K G v x) : VO K G' v x := by
  rcases h with h | ⟨t, q, u, h1, h2, h3, h4⟩
  · exact .inl (VA.mono s _ _ h)
  · exact .inr ⟨t, q, u, h1, h2, Same.sqT s h3, s.seq h4⟩
def spOct (K : PySem.W.Frag) (d : Nat) : Sp := fun vs H Q _ => vs.length = 1 ∧ ∃ (G : Hp) (v : V) (x : RWire.Value), vs = [v] ∧ Same G H ∧ VO K G v x ∧ RWire.depth x ≤ d ∧ RWire.fine x = true ∧ (RWire.write x).length ≤ 1000000 ∧
  ∀ p, Nxt [] G H fun G' H' => G' p = some (.lst (octs (RWire.write x))) → Q (.ref p) H'
section
variable {K : PySem.W.Frag} {G H : Hp} {Q : VK} {E : XK}
theorem u_low [q : Cur G H] {n k : Nat} (hk : k ≤ 8) (kk : ∀ p, Nxt [] G H fun G' H' => G' p = some (.lst (octs (RWire.low k n))) → Q (.ref p) H') : spLow [.int n, .int k] H Q E := ⟨rfl, G, n, k, rfl, q.s, hk, kk⟩
theorem u_oct [q : Cur G H] {d : Nat} {v : V} {x : RWire.Value} (h : VA K G v x) (hd : RWire.depth x ≤ d) (hf : RWire.fine x = true) (hl : (RWire.write x).length ≤ 1000000) (kk : ∀ p, Nxt [] G H fun G' H' => G' p = some (.lst (octs (RWire.write x))) → Q (.ref p) H') : spOct K d [v] H Q E :=
  ⟨rfl, G, v, x, rfl, q.s, .inl h, hd, hf, hl, kk⟩
theorem u_octO [q : Cur G H] {d : Nat} {v : V} {x : RWire.Value} (h : VO K G v x) (hd : RWire.depth x ≤ d) (hf : RWire.fine x = true) (hl : (RWire.write x).length ≤ 1000000) (kk : ∀ p, Nxt [] G H fun G' H' => G' p = some (.lst (octs (RWire.write x))) → Q (.ref p) H') : spOct K d [v] H Q E :=
  ⟨rfl, G, v, x, rfl, q.s, h, hd, hf, hl, kk⟩
end
theorem lst_le {n : Nat} (h : n ≤ 1000000) : n ≤ sizeLine := Nat.le_trans h (by decide)
theorem fine_int {i : Int} (h : RWire.fine (.int i) = true) : i.natAbs ≤ 9007199254740991 := Nat.le_of_ble_eq_true h
theorem wInt_pos {n : Nat} (h : n ≤ 9007199254740991) : RWire.writeInt (n : Int) = RWire.low 8 n := by
  unfold RWire.writeInt RWire.wordMost
  have e : ((n : Int) % 18446744073709551616).toNat = n := by omega
  rw [e]
theorem wInt_neg {i : Int} (h : i.natAbs ≤ 9007199254740991) (hn : i < 0) : RWire.writeInt i = RWire.low 8 (i + 18446744073709551616).toNat := by
  unfold RWire.writeInt RWire.wordMost
  have e : (i % 18446744073709551616).toNat = (i + 18446744073709551616).toNat := by omega
  rw [e]
end Ck
namespace Ck
open PySem PySem.Spec PyProof.Rows L2
open He (ga ma fAd)
section
variable {P : Program} {w : World} {K : PySem.W.Frag} {mg : Str → Option Value} {base : Heap}
theorem has_low_first (T : Txt K mg) : Has P w K mg base CX0 1 ("low_first", none) ["number", "many"] spLow := by
  refine mk_has (d := d_low_first) T 50 rfl rfl rfl sc_low_first (fun _ _ _ _ _ _ us hl => match us, hl with | [_, _], _ => rfl) (fun vs H Q E h => h.1) (fun cdv A outer s H vs Q E hr h => ?_)
  refine ⟨_, PSs.nox (pss_cons (ps_set (i := 2) sc_low_first.nd rfl (Or.inl rfl) (pe_lst pa_nil))
 (pss_cons (ps_for PassesOwn.never rfl (pi_range1 (by rfl) (fr_range T) (pa_cons (pv 1) pa_nil)) (pg_name (i := 3) sc_low_first.nd rfl (Or.inl rfl)) (pss_cons (ps_expr (pe_bm PySem.F.plainAttrs_list PySem.F.slot_list_append PySem.F.type_list_append mt_append (pv 2) (pa_cons (pe_op op_mod (pv 0) pe_int) pa_nil)))
 (pss_one (ps_set (i := 0) sc_low_first.nd rfl (Or.inl rfl) (pe_op op_fdiv (pv 0) pe_int)))))
 (pss_one (ps_ret (pv 2))))), ?_⟩
  obtain ⟨_, G, n, k, rfl, gs, hk, kk⟩ := h
  have : Cur G H := ⟨gs⟩
  walk_at "w"
  refine u_lst (Nat.zero_le _) fun p G0 H0 st0 _ _ hp mu0 => ?_
  walk_at "w"
  refine u_iR (by omega) ?_
  refine u_for (walk_range (n := k)) (fun i σ H' => ∃ G' v, σ = [some (.int (n / 256 ^ i : Nat)), some (.int k), some (.ref p), v] ∧ Stp [] G H G' H' ∧ Mu G' H' p (.lst (octs (RWire.low i n)))) ?_ (fun _ _ _ _ _ => trivial) ?_ ?_
  · exact ⟨G0, none, by simp [L2.start, List.replicate], st0, mu0⟩
  · rintro i x σ H1 H1' hi ⟨G1, v, rfl, st, mu⟩ ⟨rfl, rfl⟩
    have : Cur G1 H1' := ⟨st.s⟩
    walk_at "w"
    refine u_bmL mu.h ?_
    walk_at "w"
    refine u_ri (by show (0 : Int) < 256; decide) ?_
    walk_at "w"
    refine u_app mu (by rw [octs_len, low_len, sizeLine_eq]; omega) fun G2 H2 st2 _ _ mu2 => ?_
    walk_at "w"
    refine u_ri ⟨by decide, by decide⟩ ?_
    refine ⟨G2, some (.int (0 + (i : Int))), ?_, (st.nil.trans st2).drop hp, ?_⟩
    · show [some (V.int (((n / 256 ^ i : Nat) : Int) / 256)), _, _, _] = _
      have e : ((n / 256 ^ i : Nat) : Int) / 256 = ((n / 256 ^ (i + 1) : Nat) : Int) := by
        rw [Nat.pow_succ, ← Nat.div_div_eq_div_mul]; omega
      rw [e]
    · rw [low_snoc, octs_app]
      have e : octs [UInt8.ofNat (n / 256 ^ i)] = [V.int (((n / 256 ^ i : Nat) : Int) % 256)] := by
        show [V.int _] = _
        rw [u8_of]
      rw [e]
      exact mu2
  · rintro σ H1 ⟨G1, v, rfl, st, mu⟩
    walk_at "w"
    exact (kk p).go (st.keep hp mu.h) upd_same

theorem has_octets_of (T : Txt K mg) : ∀ d : Nat, Has P w K mg base CX0 (d + 2) ("octets_of", none) ["value"] (spOct K d)
  | 0 => by
    refine mk_has (d := d_octets_of) T 51 rfl rfl rfl sc_octets_of (fun _ _ _ _ _ _ us hl => match us, hl with | [_], _ => rfl) (fun vs H Q E h => h.1) (fun cdv A outer s H vs Q E hr h => ?_)
    obtain ⟨_, G, v, x, rfl, gs, hv, hd, _⟩ := h
    exact absurd (depth_pos x) (by omega)
  | d + 1 => by
    have IH := has_octets_of T d
    refine mk_has (d := d_octets_of) T 51 rfl rfl rfl sc_octets_of (fun _ _ _ _ _ _ us hl => match us, hl with | [_], _ => rfl) (fun vs H Q E h => h.1) (fun cdv A outer s H vs Q E hr h => ?_)
    refine ⟨_, PSs.nox (pss_cons (ps_set (i := 1) sc_octets_of.nd rfl (Or.inl rfl) (pe_ix ix_tup (pv 0) pe_int (fun _ _ => rfl)))
   (pss_cons (ps_if (pt_cmpR op_eq (pv 1) (pgi (gi_INTEGER T) rfl) (nomark _)) (pss_one (ps_ret (pe_op op_cat (pe_lst (pa_cons (pv 1) pa_nil)) (pcall (has_low_first T) (hr.mono (by omega)) rfl (gl_low_first T) pass0 (pa_cons (pe_ifExp (pt_cmpR op_ge (pe_ix ix_tup (pv 0) pe_int (fun _ _ => rfl)) pe_int (nomark _)) (pe_ix ix_tup (pv 0) pe_int (fun _ _ => rfl)) (pe_op op_add (pe_ix ix_tup (pv 0) pe_int (fun _ _ => rfl)) (pgi (gi_WORD T) rfl))) (pa_cons pe_int pa_nil)))))) pss_nil)
   (pss_cons (ps_if (pt_cmpR op_eq (pv 1) (pgi (gi_TEXT T) rfl) (nomark _)) (pss_one (ps_ret (pe_op op_cat (pe_op op_cat (pe_lst (pa_cons (pv 1) pa_nil)) (pcall (has_low_first T) (hr.mono (by omega)) rfl (gl_low_first T) pass0 (pa_cons (pe_callB c_len (by rfl) (fr_len T) PySem.boot_len (pa_cons (pe_ix ix_tup (pv 0) pe_int (fun _ _ => rfl)) pa_nil)) (pa_cons pe_int pa_nil)))) (pe_callTy c_list (by rfl) (fr_list T) (by decide +kernel) (pa_cons (pe_ix ix_tup (pv 0) pe_int (fun _ _ => rfl)) pa_nil))))) pss_nil)
   (pss_cons (ps_if (pt_cmpR op_lt (pv 1) (pgi (gi_INTEGER T) rfl) (nomark _)) (pss_one (ps_ret (pe_lst (pa_cons (pv 1) pa_nil)))) pss_nil)
   (pss_cons (ps_set (i := 2) sc_octets_of.nd rfl (Or.inl rfl) (pe_op op_cat (pe_lst (pa_cons (pv 1) pa_nil)) (pcall (has_low_first T) (hr.mono (by omega)) rfl (gl_low_first T) pass0 (pa_cons (pe_callB c_len (by rfl) (fr_len T) PySem.boot_len (pa_cons (pe_ix ix_tup (pv 0) pe_int (fun _ _ => rfl)) pa_nil)) (pa_cons pe_int pa_nil)))))
   (pss_cons (ps_for PassesOwn.never rfl (pi_tup (pe_ix ix_tup (pv 0) pe_int (fun _ _ => rfl))) (pg_name (i := 3) sc_octets_of.nd rfl (Or.inl rfl)) (pss_one (ps_if (pt_cmpR op_eq (pv 1) (pgi (gi_RECORD T) rfl) (nomark _)) (pss_one (ps_expr (pe_bm PySem.F.plainAttrs_list PySem.F.slot_list_extend PySem.F.type_list_extend mt_extend (pv 2) (pa_cons (pe_op op_cat (pe_op op_cat (pcall (has_low_first T) (hr.mono (by omega)) rfl (gl_low_first T) pass0 (pa_cons (pe_callB c_len (by rfl) (fr_len T) PySem.boot_len (pa_cons (pe_ix ix_tup (pv 3) pe_int (fun _ _ => rfl)) pa_nil)) (pa_cons pe_int pa_nil))) (pe_callTy c_list (by rfl) (fr_list T) (by decide +kernel) (pa_cons (pe_ix ix_tup (pv 3) pe_int (fun _ _ => rfl)) pa_nil))) (pcall IH (hr.mono (by omega)) rfl (gl_octets_of T) pass0 (pa_cons (pe_ix ix_tup (pv 3) pe_int (fun _ _ => rfl)) pa_nil))) pa_nil)))) (pss_one (ps_expr (pe_bm PySem.F.plainAttrs_list PySem.F.slot_list_extend PySem.F.type_list_extend mt_extend (pv 2) (pa_cons (pcall IH (hr.mono (by omega)) rfl (gl_octets_of T) pass0 (pa_cons (pv 3) pa_nil)) pa_nil)))))))
   (pss_one (ps_ret (pv 2))))))))), ?_⟩
  
    obtain ⟨_, G, v, x, rfl, gs, hv, hd, hf, hl, kk⟩ := h
    have : Cur G H := ⟨gs⟩
    rcases hv with hv | ⟨t, q, u, rfl, rfl, ht, hq⟩
    rotate_left
    · have hl2 : 1 + (4 + u.length) ≤ 1000000 := by
        have e : (RWire.write (.text u)).length = 1 + (4 + u.length) := by
          show (6 :: (RWire.low 4 u.length ++ u)).length = _
          rw [List.length_cons, List.length_append, low_len]; omega
        omega
      walk_at "w"
      refine w_ixT (onT ht) rfl ?_
      walk_at "w"
      refine iteF ?_
      walk_at "w"
      refine iteT ?_
      walk_at "w"
      refine u_lstK (by show 1 ≤ sizeLine; decide) fun p1 G1 H1 st1 _ _ hp1 => ?_
      walk_at "w"
      refine w_ixT (onT ht) rfl ?_
      walk_at "w"
      refine u_lenL (onL hq) ?_
      rw [octs_len]
      walk_at "w"
      refine u_low (k := 4) (by omega) fun p2 G2 H2 st2 _ _ hp2 => ?_
      refine u_cat (on hp1) (on hp2) (by rw [octs_len, low_len]; show 1 + 4 ≤ sizeLine; decide) fun p3 G3 H3 st3 _ _ hp3 => ?_
      walk_at "w"
      refine w_ixT (onT ht) rfl ?_
      walk_at "w"
      refine u_lstF (.inl (onL hq)) fun p4 G4 H4 st4 _ _ hp4 => ?_
      refine u_cat (on hp3) (on hp4) (by rw [List.length_append, octs_len, octs_len, low_len]; exact lst_le (by show 1 + 4 + _ ≤ _; omega)) fun p5 G5 H5 st5 _ _ hp5 => ?_
      refine (kk p5).go ((((st1.trans st2).trans st3).trans st4).trans st5) ?_
      rw [hp5]
      show _ = some (HO.lst (octs (6 :: (RWire.low 4 u.length ++ u))))
      rw [octs_cons, octs_app]
      rfl
    cases hv with
    | nothing ht =>
      walk_at "w"
      refine w_ixT (onT ht) rfl ?_
      walk_at "w"
      refine iteF ?_
      walk_at "w"
      refine iteF ?_
      walk_at "w"
      refine iteT ?_
      walk_at "w"
      exact u_lstK (by show 1 ≤ sizeLine; decide) fun p G1 H1 st _ _ hp => (kk p).go st hp
    | null ht =>
      walk_at "w"
      refine w_ixT (onT ht) rfl ?_
      walk_at "w"
      refine iteF ?_
      walk_at "w"
      refine iteF ?_
      walk_at "w"
      refine iteT ?_
      walk_at "w"
      exact u_lstK (by show 1 ≤ sizeLine; decide) fun p G1 H1 st _ _ hp => (kk p).go st hp
    | fls ht =>
      walk_at "w"
      refine w_ixT (onT ht) rfl ?_
      walk_at "w"
      refine iteF ?_
      walk_at "w"
      refine iteF ?_
      walk_at "w"
      refine iteT ?_
      walk_at "w"
      exact u_lstK (by show 1 ≤ sizeLine; decide) fun p G1 H1 st _ _ hp => (kk p).go st hp
    | tru ht =>
      walk_at "w"
      refine w_ixT (onT ht) rfl ?_
      walk_at "w"
      refine iteF ?_
      walk_at "w"
      refine iteF ?_
      walk_at "w"
      refine iteT ?_
      walk_at "w"
      exact u_lstK (by show 1 ≤ sizeLine; decide) fun p G1 H1 st _ _ hp => (kk p).go st hp
    | @int t i ht =>
      have hb := fine_int hf
      walk_at "w"
      refine w_ixT (onT ht) rfl ?_
      walk_at "w"
      refine iteT ?_
      walk_at "w"
      refine u_lstK (by show 1 ≤ sizeLine; decide) fun p1 G1 H1 st1 _ _ hp1 => ?_
      walk_at "w"
      refine w_ixT (onT ht) rfl ?_
      walk_at "w"
      refine w_ite (fun hc => ?_) (fun hc => ?_)
      · have hc := of_decide_eq_true hc
        obtain ⟨n, rfl⟩ : ∃ n : Nat, i = n := ⟨i.toNat, by omega⟩
        walk_at "w"
        refine w_ixT (onT ht) rfl ?_
        walk_at "w"
        refine u_low (k := 8) (by omega) fun p2 G2 H2 st2 _ _ hp2 => ?_
        refine u_cat (on hp1) (on hp2) (by rw [octs_len, low_len]; show 1 + 8 ≤ sizeLine; decide) fun p3 G3 H3 st3 _ _ hp3 => ?_
        refine (kk p3).go ((st1.trans st2).trans st3) ?_
        rw [hp3]
        show _ = some (HO.lst (octs (4 :: RWire.writeInt (n : Int))))
        rw [wInt_pos (by omega)]
        rfl
      · have hc := of_decide_eq_false hc
        walk_at "w"
        refine w_ixT (onT ht) rfl ?_
        walk_at "w"
        have e : i + 18446744073709551616 = (((i + 18446744073709551616).toNat : Nat) : Int) := by omega
        rw [e]
        refine u_low (k := 8) (by omega) fun p2 G2 H2 st2 _ _ hp2 => ?_
        refine u_cat (on hp1) (on hp2) (by rw [octs_len, low_len]; show 1 + 8 ≤ sizeLine; decide) fun p3 G3 H3 st3 _ _ hp3 => ?_
        refine (kk p3).go ((st1.trans st2).trans st3) ?_
        rw [hp3]
        show _ = some (HO.lst (octs (4 :: RWire.writeInt i)))
        rw [wInt_neg hb (by omega)]
        rfl
    | @text t q u ht hq =>
      have hl2 : 1 + (4 + u.length) ≤ 1000000 := by
        have e : (RWire.write (.text u)).length = 1 + (4 + u.length) := by
          show (6 :: (RWire.low 4 u.length ++ u)).length = _
          rw [List.length_cons, List.length_append, low_len]; omega
        omega
      walk_at "w"
      refine w_ixT (onT ht) rfl ?_
      walk_at "w"
      refine iteF ?_
      walk_at "w"
      refine iteT ?_
      walk_at "w"
      refine u_lstK (by show 1 ≤ sizeLine; decide) fun p1 G1 H1 st1 _ _ hp1 => ?_
      walk_at "w"
      refine w_ixT (onT ht) rfl ?_
      walk_at "w"
      refine u_lenT (onT hq) ?_
      rw [octs_len]
      walk_at "w"
      refine u_low (k := 4) (by omega) fun p2 G2 H2 st2 _ _ hp2 => ?_
      refine u_cat (on hp1) (on hp2) (by rw [octs_len, low_len]; show 1 + 4 ≤ sizeLine; decide) fun p3 G3 H3 st3 _ _ hp3 => ?_
      walk_at "w"
      refine w_ixT (onT ht) rfl ?_
      walk_at "w"
      refine u_lstF (.inr (onT hq)) fun p4 G4 H4 st4 _ _ hp4 => ?_
      refine u_cat (on hp3) (on hp4) (by rw [List.length_append, octs_len, octs_len, low_len]; exact lst_le (by show 1 + 4 + _ ≤ _; omega)) fun p5 G5 H5 st5 _ _ hp5 => ?_
      refine (kk p5).go ((((st1.trans st2).trans st3).trans st4).trans st5) ?_
      rw [hp5]
      show _ = some (HO.lst (octs (6 :: (RWire.low 4 u.length ++ u))))
      rw [octs_cons, octs_app]
      rfl
    | @list t q xs l ht hq hv =>
      have hlen := hv.len
      have hw : (RWire.write (.list l)).length = 1 + (4 + (RWire.writeMany l).length) := by
        show (7 :: (RWire.low 4 l.length ++ RWire.writeMany l)).length = _
        rw [List.length_cons, List.length_append, low_len]; omega
      walk_at "w"
      refine w_ixT (onT ht) rfl ?_
      walk_at "w"
      refine iteF ?_
      walk_at "w"
      refine iteF ?_
      walk_at "w"
      refine iteF ?_
      walk_at "w"
      refine u_lstK (by show 1 ≤ sizeLine; decide) fun p1 G1 H1 st1 _ _ hp1 => ?_
      walk_at "w"
      refine w_ixT (onT ht) rfl ?_
      walk_at "w"
      refine u_lenT (onT hq) ?_
      rw [hlen]
      walk_at "w"
      refine u_low (k := 4) (by omega) fun p2 G2 H2 st2 _ _ hp2 => ?_
      refine u_catM (on hp1) (on hp2) (by rw [octs_len, low_len]; show 1 + 4 ≤ sizeLine; decide) fun p3 G3 H3 st3 _ _ hn3 mu3 => ?_
      have hn : H p3 = none := (st1.trans st2).free hn3
      walk_at "w"
      refine w_ixT (onT ht) rfl ?_
      walk_at "w"
      refine u_iT (onT hq) ?_
      refine u_for (walk_tup (xs := xs)) (fun i σ H' => ∃ G' v, σ = [some (.ref t), some (.int 7), some (.ref p3), v] ∧ Stp [] G H G' H' ∧ Mu G' H' p3 (.lst (octs (7 :: (RWire.low 4 l.length ++ RWire.writeMany (l.take i)))))) ?_ (fun i σ H' _ ⟨G', v, _, st, _⟩ => Same.sqT st.same (onT hq)) ?_ ?_
      · refine ⟨G3, none, by simp [L2.start, List.replicate], (st1.trans st2).trans st3, ?_⟩
        have e : octs (7 :: (RWire.low 4 l.length ++ RWire.writeMany (l.take 0))) = [V.int 7] ++ octs (RWire.low 4 l.length) := by
          rw [List.take_zero, octs_cons, octs_app]
          show _ :: (_ ++ []) = _
          rw [List.append_nil]; rfl
        rw [e]; exact mu3
      · rintro i y σ H1 H1' hi ⟨G4, v, rfl, st, mu⟩ ⟨rfl, hy⟩
        have : Cur G4 H1' := ⟨st.s⟩
        have : Dn G G4 := ⟨st.g⟩
        obtain ⟨x, hx, va⟩ := hv.at hy
        have dx : RWire.depth x ≤ d := by
          have h1 := dm_mem l i x hx
          have h2 : RWire.depthMany l + 1 ≤ d + 1 := hd
          omega
        have fx : RWire.fine x = true := fm_mem l i x (Bool.and_eq_true_iff.mp hf).2 hx
        have ws := wm_snoc l i x hx
        have wl := wm_le l (i + 1)
        rw [ws, List.length_append] at wl
        walk_at "w"
        refine iteF ?_
        walk_at "w"
        refine u_bmL mu.h ?_
        walk_at "w"
        refine u_oct va.up dx fx (by omega) fun p5 G5 H5 st5 _ _ hp5 => ?_
        walk_at "w"
        refine u_ext (st5.mu mu List.not_mem_nil) (on hp5) ?_ fun G6 H6 st6 _ _ mu6 => ?_
        · rw [octs_len, octs_len, List.length_cons, List.length_append, low_len]
          exact lst_le (by omega)
        refine ⟨G6, some y, rfl, ((st.trans st5).nil.trans st6).drop hn, ?_⟩
        rw [← octs_app] at mu6
        rw [ws]
        have e : (7 :: (RWire.low 4 l.length ++ RWire.writeMany (List.take i l))) ++ RWire.write x = 7 :: (RWire.low 4 l.length ++ (RWire.writeMany (List.take i l) ++ RWire.write x)) := by simp [List.append_assoc]
        rw [e] at mu6
        exact mu6
      · rintro σ H1 ⟨G4, v, rfl, st, mu⟩
        walk_at "w"
        rw [hlen, List.take_length] at mu
        exact (kk p3).go (st.keep hn mu.h) upd_same
    | @record t q xs l ht hq hv =>
      have hlen := hv.len
      have hw : (RWire.write (.record l)).length = 1 + (4 + (RWire.writeEntries l).length) := by
        show (8 :: (RWire.low 4 l.length ++ RWire.writeEntries l)).length = _
        rw [List.length_cons, List.length_append, low_len]; omega
      walk_at "w"
      refine w_ixT (onT ht) rfl ?_
      walk_at "w"
      refine iteF ?_
      walk_at "w"
      refine iteF ?_
      walk_at "w"
      refine iteF ?_
      walk_at "w"
      refine u_lstK (by show 1 ≤ sizeLine; decide) fun p1 G1 H1 st1 _ _ hp1 => ?_
      walk_at "w"
      refine w_ixT (onT ht) rfl ?_
      walk_at "w"
      refine u_lenT (onT hq) ?_
      rw [hlen]
      walk_at "w"
      refine u_low (k := 4) (by omega) fun p2 G2 H2 st2 _ _ hp2 => ?_
      refine u_catM (on hp1) (on hp2) (by rw [octs_len, low_len]; show 1 + 4 ≤ sizeLine; decide) fun p3 G3 H3 st3 _ _ hn3 mu3 => ?_
      have hn : H p3 = none := (st1.trans st2).free hn3
      walk_at "w"
      refine w_ixT (onT ht) rfl ?_
      walk_at "w"
      refine u_iT (onT hq) ?_
      refine u_for (walk_tup (xs := xs)) (fun i σ H' => ∃ G' v, σ = [some (.ref t), some (.int 8), some (.ref p3), v] ∧ Stp [] G H G' H' ∧ Mu G' H' p3 (.lst (octs (8 :: (RWire.low 4 l.length ++ RWire.writeEntries (l.take i)))))) ?_ (fun i σ H' _ ⟨G', v, _, st, _⟩ => Same.sqT st.same (onT hq)) ?_ ?_
      · refine ⟨G3, none, by simp [L2.start, List.replicate], (st1.trans st2).trans st3, ?_⟩
        have e : octs (8 :: (RWire.low 4 l.length ++ RWire.writeEntries (l.take 0))) = [V.int 8] ++ octs (RWire.low 4 l.length) := by
          rw [List.take_zero, octs_cons, octs_app]
          show _ :: (_ ++ []) = _
          rw [List.append_nil]; rfl
        rw [e]; exact mu3
      · rintro i y σ H1 H1' hi ⟨G4, v, rfl, st, mu⟩ ⟨rfl, hy⟩
        have : Cur G4 H1' := ⟨st.s⟩
        have : Dn G G4 := ⟨st.g⟩
        obtain ⟨e, n, u, v, x, rfl, hx, h1, h2, va⟩ := hv.at hy
        have dx : RWire.depth x ≤ d := by
          have h1 := de_mem l i u x hx
          have h2 : RWire.depthEntries l + 1 ≤ d + 1 := hd
          omega
        have fx : RWire.fine x = true := fe_mem l i u x (Bool.and_eq_true_iff.mp (Bool.and_eq_true_iff.mp hf).2).1 hx
        have ws := we_snoc l i u x hx
        have wl := we_le l (i + 1)
        have wu : (RWire.writeText u).length = 4 + u.length := by
          show (RWire.low 4 u.length ++ u).length = _
          rw [List.length_append, low_len]
        rw [ws, List.length_append, List.length_append, wu] at wl
        have h1 : SqT K G4 e [.ref n, v] := upT h1
        have h2 : SqT K G4 n (octs u) := upT h2
        walk_at "w"
        refine iteT ?_
        walk_at "w"
        refine u_bmL mu.h ?_
        walk_at "w"
        refine w_ixT (onT h1) rfl ?_
        walk_at "w"
        refine u_lenT (onT h2) ?_
        rw [octs_len]
        walk_at "w"
        refine u_low (k := 4) (by omega) fun p5 G5 H5 st5 _ _ hp5 => ?_
        walk_at "w"
        refine w_ixT (onT h1) rfl ?_
        walk_at "w"
        refine u_lstF (.inr (onT h2)) fun p6 G6 H6 st6 _ _ hp6 => ?_
        refine u_cat (on hp5) (on hp6) (by rw [octs_len, octs_len, low_len]; exact lst_le (by omega)) fun p7 G7 H7 st7 _ _ hp7 => ?_
        walk_at "w"
        refine w_ixT (onT h1) rfl ?_
        walk_at "w"
        refine u_oct va.up dx fx (by omega) fun p8 G8 H8 st8 _ _ hp8 => ?_
        refine u_cat (on hp7) (on hp8) (by simp only [List.length_append, octs_len, low_len]; exact lst_le (by omega)) fun p9 G9 H9 st9 _ _ hp9 => ?_
        have sts := (((st5.trans st6).trans st7).trans st8).trans st9
        walk_at "w"
        refine u_ext (sts.mu mu List.not_mem_nil) (on hp9) ?_ fun Ga Ha sta _ _ mua => ?_
        · simp only [List.length_append, octs_len, List.length_cons, low_len]
          exact lst_le (by omega)
        refine ⟨Ga, some (.ref e), rfl, ((st.trans sts).nil.trans sta).drop hn, ?_⟩
        rw [← octs_app, ← octs_app, ← octs_app] at mua
        rw [ws]
        have e : (8 :: (RWire.low 4 l.length ++ RWire.writeEntries (List.take i l))) ++ (RWire.low 4 u.length ++ u ++ RWire.write x) = 8 :: (RWire.low 4 l.length ++ (RWire.writeEntries (List.take i l) ++ (RWire.writeText u ++ RWire.write x))) := by simp [List.append_assoc, RWire.writeText, RWire.writeCount]
        rw [e] at mua
        exact mua
      · rintro σ H1 ⟨G4, v, rfl, st, mu⟩
        walk_at "w"
        rw [hlen, List.take_length] at mu
        exact (kk p3).go (st.keep hn mu.h) upd_same
  
end
end Ck
namespace Ck
open PySem PySem.Spec PyProof.Rows L2
open He (ga ma fAd)
/-! ### one more step: e.f += v -/
def faR (K : PySem.W.Frag) (f : Str) (x : V) (H : Hp) (k : Addr → Addr → V → Hp → Prop) : Prop := ∃ a C dx fs v, x = .ref a ∧ H a = some (.ins C dx fs) ∧ Cls K C ∧ NoAttr K C f ∧ fs.lookup f = some v ∧ k a C v H
def fbR (f : Str) (a C : Addr) (z : V) (H : Hp) (k : Hp → Prop) : Prop := ∃ dx' fs', H a = some (.ins C dx' fs') ∧ fs'.length < 1000 ∧ k (upd H a (.ins C dx' (putF f z fs')))
section
variable {K : PySem.W.Frag} {σ : L2.St} {H G : Hp} {to tv : TE} {D : Ends} {f : Str} {rd : R2} {a C dx : Addr} {fs : List (Str × V)} {v z : V} {k : Hp → Prop} {Q : VK}
theorem w_fAug (q : to σ H fun x H1 => faR K f x H1 fun a C v H1 => tv σ H1 fun y H2 => rd v y H2 fun z H3 => fbR f a C z H3 fun H4 => D.nx σ H4) : sFldAug K to tv rd f D σ H := q
theorem u_fa {k : Addr → Addr → V → Hp → Prop} (h : H a = some (.ins C dx fs)) (hc : Cls K C) (hn : NoAttr K C f) (hl : fs.lookup f = some v) (q : k a C v H) : faR K f (.ref a) H k := ⟨a, C, dx, fs, v, rfl, h, hc, hn, hl, q⟩
theorem u_fb [c : Cur G H] (m : Mu G H a (.ins C dx fs)) (hl : fs.length < 1000) (q : Nxt [a] G H fun G' H' => Mu G' H' a (.ins C dx (putF f z fs)) → k H') : fbR f a C z H k :=
  ⟨dx, fs, m.h, hl, q.go (Stp.put c.s m.g (List.mem_singleton.mpr rfl)) m.put⟩
theorem u_yes {A B : Hp → Prop} (h : A H) : tYes σ H (fun b H3 => if b = true then A H3 else B H3) := iteT (B := B H) h
theorem u_rAdd {i j : Int} (q : Q (.int (i + j)) H) : rAdd (.int i) (.int j) H Q := ⟨i, j, rfl, rfl, q⟩
end
/-! ### reading octets -/
theorem front_eq : ∀ (k : Nat) (b : List UInt8) (p : List UInt8 × List UInt8), RWire.front k b = some p → k ≤ b.length ∧ p = (b.take k, b.drop k)
  | 0, b, p, h => by cases h; exact ⟨Nat.zero_le _, rfl⟩
  | k + 1, [], p, h => by cases h
  | k + 1, a :: r, p, h => by
    have h1 : (match RWire.front k r with | none => none | some p => some (a :: p.1, p.2)) = some p := h
    cases e : RWire.front k r with
    | none => rw [e] at h1; cases h1
    | some q =>
      rw [e] at h1
      cases h1
      obtain ⟨h2, rfl⟩ := front_eq k r q e
      exact ⟨Nat.succ_le_succ h2, rfl⟩
theorem readNum_eq {k : Nat} {b : List UInt8} {p : Nat × List UInt8} (h : RWire.readNum k b = some p) : k ≤ b.length ∧ p = (RWire.numOf (b.take k), b.drop k) := by
  unfold RWire.readNum at h
  cases e : RWire.front k b with
  | none => rw [e] at h; cases h
  | some q =>
    rw [e] at h
    cases h
    obtain ⟨h2, rfl⟩ := front_eq k b q e
    exact ⟨h2, rfl⟩
theorem readText_eq {b : List UInt8} {p : List UInt8 × List UInt8} (h : RWire.readText b = some p) : 4 ≤ b.length ∧ 4 + RWire.numOf (b.take 4) ≤ b.length ∧ p = ((b.drop 4).take (RWire.numOf (b.take 4)), b.drop (4 + RWire.numOf (b.take 4))) := by
  unfold RWire.readText at h
  cases e : RWire.readNum 4 b with
  | none => rw [e] at h; cases h
  | some q =>
    rw [e] at h
    obtain ⟨h1, rfl⟩ := readNum_eq e
    obtain ⟨h2, rfl⟩ := front_eq _ _ _ h
    rw [List.length_drop] at h2
    refine ⟨h1, by omega, ?_⟩
    rw [List.drop_drop]
theorem num_step (c : List UInt8) (i : Nat) (hi : i < c.length) (x : UInt8) (hx : c[c.length - 1 - i]? = some x) : RWire.numOf (c.drop (c.length - (i + 1))) = 256 * RWire.numOf (c.drop (c.length - i)) + x.toNat := by
  have h1 : c.length - (i + 1) < c.length := by omega
  have e : c.length - 1 - i = c.length - (i + 1) := by omega
  rw [e, List.getElem?_eq_getElem h1] at hx
  cases hx
  rw [List.drop_eq_getElem_cons h1]
  have e2 : c.length - (i + 1) + 1 = c.length - i := by omega
  rw [e2]
  show _ + 256 * _ = _
  omega
theorem octs_at {b : List UInt8} {i : Nat} {x : UInt8} (h : b[i]? = some x) : (octs b)[i]? = some (V.int (x.toNat : Int)) := by
  unfold octs
  rw [List.getElem?_map, h]; rfl
theorem octs_cut (b : List UInt8) (n m : Nat) (h : n + m ≤ b.length) : cutV (octs b) (some (n : Int)) (some ((n + m : Nat) : Int)) = octs ((b.drop n).take m) := by
  unfold cutV
  rw [HT.sIx_nat, HT.sIx_nat, octs_len]
  have e1 : min n b.length = n := by omega
  have e2 : min (n + m) b.length - min n b.length = m := by omega
  rw [e2, e1]
  unfold octs
  rw [← List.map_drop, ← List.map_take]
/-! ### readF gives back a tail -/
def tail (b r : List UInt8) : Prop := ∃ j, j ≤ b.length ∧ r = b.drop j
theorem tail.refl (b : List UInt8) : tail b b := ⟨0, Nat.zero_le _, rfl⟩
theorem tail.trans {a b c : List UInt8} (h : tail a b) (h2 : tail b c) : tail a c := by
  obtain ⟨j, h1, rfl⟩ := h
  obtain ⟨i, h3, rfl⟩ := h2
  rw [List.length_drop] at h3
  exact ⟨j + i, by omega, by rw [List.drop_drop]⟩
theorem tail_cons (x : UInt8) (r : List UInt8) : tail (x :: r) r := ⟨1, by simp, rfl⟩
theorem readNum_tail {k : Nat} {b : List UInt8} {p : Nat × List UInt8} (h : RWire.readNum k b = some p) : tail b p.2 := by
  obtain ⟨h1, rfl⟩ := readNum_eq h
  exact ⟨k, h1, rfl⟩
theorem readText_tail {b : List UInt8} {p : List UInt8 × List UInt8} (h : RWire.readText b = some p) : tail b p.2 := by
  obtain ⟨_, h1, rfl⟩ := readText_eq h
  exact ⟨_, h1, rfl⟩
theorem readMany_tail {α : Type} {f : List UInt8 → Option (α × List UInt8)} (hf : ∀ b p, f b = some p → tail b p.2) : ∀ (n : Nat) (b : List UInt8) (p : List α × List UInt8), RWire.readMany f n b = some p → tail b p.2
  | 0, b, p, h => by cases h; exact tail.refl b
  | n + 1, b, p, h => by
    have h1 : (match f b with | none => none | some p => match RWire.readMany f n p.2 with | none => none | some q => some (p.1 :: q.1, q.2)) = some p := h
    cases e : f b with
    | none => rw [e] at h1; cases h1
    | some q =>
      rw [e] at h1
      have h1 : (match RWire.readMany f n q.2 with | none => none | some q' => some (q.1 :: q'.1, q'.2)) = some p := h1
      cases e2 : RWire.readMany f n q.2 with
      | none => rw [e2] at h1; cases h1
      | some q2 =>
        rw [e2] at h1
        cases h1
        exact (hf _ _ e).trans (readMany_tail hf n _ q2 e2)
theorem readMany_cons {α : Type} {f : List UInt8 → Option (α × List UInt8)} {n : Nat} {b : List UInt8} {l : List α} {r : List UInt8} (h : RWire.readMany f (n + 1) b = some (l, r)) : ∃ x r1 l2, f b = some (x, r1) ∧ RWire.readMany f n r1 = some (l2, r) ∧ l = x :: l2 := by
  have h1 : (match f b with | none => none | some p => match RWire.readMany f n p.2 with | none => none | some q => some (p.1 :: q.1, q.2)) = some (l, r) := h
  cases e : f b with
  | none => rw [e] at h1; cases h1
  | some q =>
    rw [e] at h1
    have h1 : (match RWire.readMany f n q.2 with | none => none | some q' => some (q.1 :: q'.1, q'.2)) = some (l, r) := h1
    cases e2 : RWire.readMany f n q.2 with
    | none => rw [e2] at h1; cases h1
    | some q2 =>
      rw [e2] at h1
      cases h1
      exact ⟨q.1, q.2, q2.1, rfl, e2, rfl⟩
theorem readEntry_eq {f : List UInt8 → Option (RWire.Value × List UInt8)} {b : List UInt8} {e : List UInt8 × RWire.Value} {r : List UInt8} (h : RWire.readEntry f b = some (e, r)) : ∃ u r1 x, RWire.readText b = some (u, r1) ∧ f r1 = some (x, r) ∧ e = (u, x) := by
  unfold RWire.readEntry at h
  cases e1 : RWire.readText b with
  | none => rw [e1] at h; cases h
  | some p =>
    rw [e1] at h
    cases e2 : f p.2 with
    | none =>
      have h : (match f p.2 with | none => none | some q => some ((p.1, q.1), q.2)) = some (e, r) := h
      rw [e2] at h; cases h
    | some q =>
      have h : (match f p.2 with | none => none | some q => some ((p.1, q.1), q.2)) = some (e, r) := h
      rw [e2] at h
      cases h
      exact ⟨p.1, p.2, q.1, rfl, e2, rfl⟩
/-- what the first octet of a value says, where the value is of the document's kinds -/
def plainV (x : RWire.Value) : Bool := RWire.noBig x && (RWire.noOctets x && RWire.noWide x)
inductive Rk (f : List UInt8 → Option (RWire.Value × List UInt8)) (k : Nat) (r : List UInt8) : RWire.Value → List UInt8 → Prop
  | nothing : k = 0 → Rk f k r .nothing r
  | null : k = 1 → Rk f k r .null r
  | fls : k = 2 → Rk f k r (.bool false) r
  | tru : k = 3 → Rk f k r (.bool true) r
  | int : k = 4 → 8 ≤ r.length → Rk f k r (.int (RWire.intOf (RWire.numOf (r.take 8)))) (r.drop 8)
  | text {u : List UInt8} {r' : List UInt8} : k = 6 → RWire.readText r = some (u, r') → Rk f k r (.text u) r'
  | list {l : List RWire.Value} {r' : List UInt8} : k = 7 → 4 ≤ r.length → RWire.readMany f (RWire.numOf (r.take 4)) (r.drop 4) = some (l, r') → Rk f k r (.list l) r'
  | record {l : List (List UInt8 × RWire.Value)} {r' : List UInt8} : k = 8 → 4 ≤ r.length → RWire.readMany (RWire.readEntry f) (RWire.numOf (r.take 4)) (r.drop 4) = some (l, r') → Rk f k r (.record l) r'
theorem rk_of {f : List UInt8 → Option (RWire.Value × List UInt8)} {k : Nat} {r : List UInt8} {x : RWire.Value} {r' : List UInt8} (h : RWire.readKind f k r = some (x, r')) (hp : plainV x = true) : Rk f k r x r' := by
  unfold RWire.readKind at h
  obtain ⟨hp1, hp2⟩ := Bool.and_eq_true_iff.mp hp
  obtain ⟨hp2, hp3⟩ := Bool.and_eq_true_iff.mp hp2
  split at h
  · cases h; exact .nothing rfl
  · cases h; exact .null rfl
  · cases h; exact .fls rfl
  · cases h; exact .tru rfl
  · unfold RWire.readInt at h
    cases e : RWire.readNum 8 r with
    | none => rw [e] at h; cases h
    | some p =>
      rw [e] at h
      obtain ⟨h1, rfl⟩ := readNum_eq e
      dsimp only at h
      split at h
      · cases h; exact .int rfl h1
      · cases h
  · unfold RWire.readBig at h
    split at h
    · cases h
    · split at h
      · cases h
      · split at h
        · cases h
        · split at h
          · cases h
          · cases h; cases hp1
  · unfold RWire.readWords at h
    cases e : RWire.readText r with
    | none => rw [e] at h; cases h
    | some p => rw [e] at h; cases h; exact .text rfl e
  · unfold RWire.readList at h
    cases e : RWire.readNum 4 r with
    | none => rw [e] at h; cases h
    | some p =>
      rw [e] at h
      obtain ⟨h1, rfl⟩ := readNum_eq e
      dsimp only at h
      cases e2 : RWire.readMany f (RWire.numOf (List.take 4 r)) (List.drop 4 r) with
      | none => rw [e2] at h; cases h
      | some q => rw [e2] at h; cases h; exact .list rfl h1 e2
  · unfold RWire.readRecord at h
    cases e : RWire.readNum 4 r with
    | none => rw [e] at h; cases h
    | some p =>
      rw [e] at h
      obtain ⟨h1, rfl⟩ := readNum_eq e
      dsimp only at h
      cases e2 : RWire.readMany (RWire.readEntry f) (RWire.numOf (List.take 4 r)) (List.drop 4 r) with
      | none => rw [e2] at h; cases h
      | some q =>
        rw [e2] at h
        dsimp only at h
        split at h
        · cases h; exact .record rfl h1 e2
        · cases h
  · unfold RWire.readOctets at h
    cases e : RWire.readText r with
    | none => rw [e] at h; cases h
    | some p => rw [e] at h; cases h; cases hp2
  · unfold RWire.readWide at h
    split at h
    · cases h
    · split at h
      · cases h
      · split at h
        · cases h; cases hp3
        · cases h
  · cases h
theorem plain_mem {l : List RWire.Value} (h : plainV (.list l) = true) {x : RWire.Value} (hx : x ∈ l) : plainV x = true := by
  induction l with
  | nil => cases hx
  | cons a l ih =>
    obtain ⟨h1, h2⟩ := Bool.and_eq_true_iff.mp h
    obtain ⟨h2, h3⟩ := Bool.and_eq_true_iff.mp h2
    obtain ⟨a1, b1⟩ := Bool.and_eq_true_iff.mp (show (RWire.noBig a && RWire.noBigMany l) = true from h1)
    obtain ⟨a2, b2⟩ := Bool.and_eq_true_iff.mp (show (RWire.noOctets a && RWire.noOctetsMany l) = true from h2)
    obtain ⟨a3, b3⟩ := Bool.and_eq_true_iff.mp (show (RWire.noWide a && RWire.noWideMany l) = true from h3)
    rcases List.mem_cons.mp hx with rfl | hx
    · unfold plainV; rw [a1, a2, a3]; rfl
    · refine ih ?_ hx
      show (RWire.noBigMany l && (RWire.noOctetsMany l && RWire.noWideMany l)) = true
      rw [b1, b2, b3]; rfl
theorem plain_memE {l : List (List UInt8 × RWire.Value)} (h : plainV (.record l) = true) {e : List UInt8 × RWire.Value} (hx : e ∈ l) : plainV e.2 = true := by
  induction l with
  | nil => cases hx
  | cons a l ih =>
    obtain ⟨h1, h2⟩ := Bool.and_eq_true_iff.mp h
    obtain ⟨h2, h3⟩ := Bool.and_eq_true_iff.mp h2
    obtain ⟨a1, b1⟩ := Bool.and_eq_true_iff.mp (show (RWire.noBig a.2 && RWire.noBigEntries l) = true from h1)
    obtain ⟨a2, b2⟩ := Bool.and_eq_true_iff.mp (show (RWire.noOctets a.2 && RWire.noOctetsEntries l) = true from h2)
    obtain ⟨a3, b3⟩ := Bool.and_eq_true_iff.mp (show (RWire.noWide a.2 && RWire.noWideEntries l) = true from h3)
    rcases List.mem_cons.mp hx with rfl | hx
    · unfold plainV; rw [a1, a2, a3]; rfl
    · refine ih ?_ hx
      show (RWire.noBigEntries l && (RWire.noOctetsEntries l && RWire.noWideEntries l)) = true
      rw [b1, b2, b3]; rfl
theorem take_snoc {α : Type} : ∀ {l : List α} {i : Nat} {x : α}, l[i]? = some x → l.take (i + 1) = l.take i ++ [x]
  | [], i, x, h => by simp at h
  | a :: l, 0, x, h => by cases h; rfl
  | a :: l, i + 1, x, h => by
    show a :: l.take (i + 1) = a :: l.take i ++ [x]
    rw [take_snoc (l := l) (by simpa using h)]; rfl
theorem VEs.app {K : PySem.W.Frag} {G : Hp} : ∀ {l m : List (List UInt8 × RWire.Value)} {vs ws : List V}, VEs K G vs l → VEs K G ws m → VEs K G (vs ++ ws) (l ++ m)
  | _, _, _, _, .nil, h => h
  | _, _, _, _, .cons h1 h2 h3 h4, h => .cons h1 h2 h3 (VEs.app h4 h)
/-- something is eaten each time -/
def eats {α : Type} (f : List UInt8 → Option (α × List UInt8)) : Prop := ∀ b x r, f b = some (x, r) → r.length + 1 ≤ b.length
theorem rm_count {α : Type} {f : List UInt8 → Option (α × List UInt8)} (hf : eats f) : ∀ (n : Nat) (b : List UInt8) (l : List α) (r : List UInt8), RWire.readMany f n b = some (l, r) → n + r.length ≤ b.length
  | 0, b, l, r, h => by cases h; omega
  | n + 1, b, l, r, h => by
    obtain ⟨x, r1, l2, h1, h2, _⟩ := readMany_cons h
    have := hf _ _ _ h1
    have := rm_count hf n _ _ _ h2
    omega
theorem tail_len {b r : List UInt8} (h : tail b r) : r.length ≤ b.length := by
  obtain ⟨j, _, rfl⟩ := h
  rw [List.length_drop]; omega
theorem readE_len {f : List UInt8 → Option (RWire.Value × List UInt8)} (hf : eats f) : eats (RWire.readEntry f) := fun b e r h => by
  obtain ⟨u, r1, x, h1, h2, _⟩ := readEntry_eq h
  have := hf _ _ _ h2
  have := tail_len (readText_tail h1)
  dsimp only at this
  omega
theorem readSigns_len : ∀ (n : Nat) (b : List UInt8) (p : List UInt16 × List UInt8), RWire.readSigns n b = some p → p.2.length ≤ b.length
  | 0, b, p, h => by cases h; exact Nat.le_refl _
  | n + 1, [], p, h => by cases h
  | n + 1, [a], p, h => by cases h
  | n + 1, a :: c :: r, p, h => by
    have h1 : (match RWire.readSigns n r with | none => none | some p => some (UInt16.ofNat (a.toNat + 256 * c.toNat) :: p.1, p.2)) = some p := h
    cases e : RWire.readSigns n r with
    | none => rw [e] at h1; cases h1
    | some q =>
      rw [e] at h1
      cases h1
      have := readSigns_len n r q e
      simp only [List.length_cons]
      omega
theorem readKind_tail {f : List UInt8 → Option (RWire.Value × List UInt8)} (hf : eats f) {k : Nat} {r : List UInt8} {x : RWire.Value} {r' : List UInt8} (h : RWire.readKind f k r = some (x, r')) : r'.length ≤ r.length := by
  unfold RWire.readKind at h
  split at h
  · cases h; omega
  · cases h; omega
  · cases h; omega
  · cases h; omega
  · unfold RWire.readInt at h
    cases e : RWire.readNum 8 r with
    | none => rw [e] at h; cases h
    | some p =>
      rw [e] at h
      have := tail_len (readNum_tail e)
      dsimp only at h
      split at h
      · cases h; exact this
      · cases h
  · unfold RWire.readBig at h
    split at h
    · cases h
    · rename_i s r
      split at h
      · cases h
      · rename_i p e
        have h1 := tail_len (readNum_tail e)
        split at h
        · cases h
        · rename_i q e2
          obtain ⟨_, rfl⟩ := front_eq _ _ _ e2
          split at h
          · cases h
          · cases h
            dsimp only
            rw [List.length_drop, List.length_cons]
            omega
  · unfold RWire.readWords at h
    cases e : RWire.readText r with
    | none => rw [e] at h; cases h
    | some p => rw [e] at h; cases h; exact tail_len (readText_tail e)
  · unfold RWire.readList at h
    cases e : RWire.readNum 4 r with
    | none => rw [e] at h; cases h
    | some p =>
      rw [e] at h
      have h1 := tail_len (readNum_tail e)
      dsimp only at h
      cases e2 : RWire.readMany f p.1 p.2 with
      | none => rw [e2] at h; cases h
      | some q =>
        rw [e2] at h; cases h
        have := rm_count hf _ _ _ _ e2
        try dsimp only at *
        omega
  · unfold RWire.readRecord at h
    cases e : RWire.readNum 4 r with
    | none => rw [e] at h; cases h
    | some p =>
      rw [e] at h
      have h1 := tail_len (readNum_tail e)
      try dsimp only at h
      cases e2 : RWire.readMany (RWire.readEntry f) p.1 p.2 with
      | none => rw [e2] at h; cases h
      | some q =>
        rw [e2] at h
        try dsimp only at h
        split at h
        · cases h
          have := rm_count (readE_len hf) _ _ _ _ e2
          try dsimp only at *
          omega
        · cases h
  · unfold RWire.readOctets at h
    cases e : RWire.readText r with
    | none => rw [e] at h; cases h
    | some p => rw [e] at h; cases h; exact tail_len (readText_tail e)
  · unfold RWire.readWide at h
    cases e : RWire.readNum 4 r with
    | none => rw [e] at h; cases h
    | some p =>
      rw [e] at h
      have h1 := tail_len (readNum_tail e)
      try dsimp only at h
      cases e2 : RWire.readSigns p.1 p.2 with
      | none => rw [e2] at h; cases h
      | some q =>
        rw [e2] at h
        try dsimp only at h
        split at h
        · cases h
          have := readSigns_len _ _ _ e2
          omega
        · cases h
  · cases h
theorem readF_len : ∀ d : Nat, eats (RWire.readF d)
  | 0 => fun b x r h => by cases h
  | d + 1 => fun b x r h => by
    cases b with
    | nil => cases h
    | cons k0 r0 =>
      have h : RWire.readKind (RWire.readF d) k0.toNat r0 = some (x, r) := h
      have := readKind_tail (readF_len d) h
      rw [List.length_cons]; omega
/-! ### promises -/
section
variable (K : PySem.W.Frag)
abbrev ReqO (dx lo : Addr) (n : Nat) : HO := .ins (ga K "Request") dx (FRequest (.ref lo) (.int (n : Nat)))
def spReqInit : Sp := fun vs H Q _ => vs.length = 2 ∧ ∃ (G : Hp) (a dx lo : Addr), vs = [.ref a, .ref lo] ∧ Same G H ∧ Mu G H a (.ins (ga K "Request") dx []) ∧ Nxt [a] G H fun G' H' => Mu G' H' a (ReqO K dx lo 0) → Q .non H'
def spNum : Sp := fun vs H Q _ => vs.length = 2 ∧ ∃ (G : Hp) (a dx lo : Addr) (b : List UInt8) (n k : Nat), vs = [.ref a, .int (k : Nat)] ∧ Same G H ∧ Mu G H a (ReqO K dx lo n) ∧ G lo = some (.lst (octs b)) ∧ n + k ≤ b.length ∧ k ≤ 8 ∧
  Nxt [a] G H fun G' H' => Mu G' H' a (ReqO K dx lo (n + k)) → Q (.int (RWire.numOf ((b.drop n).take k) : Nat)) H'
def spPlain : Sp := fun vs H Q _ => vs.length = 1 ∧ ∃ (G : Hp) (a dx lo : Addr) (b : List UInt8) (n : Nat) (u r : List UInt8), vs = [.ref a] ∧ Same G H ∧ Mu G H a (ReqO K dx lo n) ∧ G lo = some (.lst (octs b)) ∧ n ≤ b.length ∧ b.length ≤ 100000 ∧ RWire.readText (b.drop n) = some (u, r) ∧
  ∀ p, Nxt [a] G H fun G' H' => ∀ m, m ≤ b.length → r = b.drop m → Mu G' H' a (ReqO K dx lo m) → SqT K G' p (octs u) → Q (.ref p) H'
def spVal (d : Nat) : Sp := fun vs H Q _ => vs.length = 1 ∧ ∃ (G : Hp) (a dx lo : Addr) (b : List UInt8) (n : Nat) (x : RWire.Value) (r : List UInt8), vs = [.ref a] ∧ Same G H ∧ Mu G H a (ReqO K dx lo n) ∧ G lo = some (.lst (octs b)) ∧ n ≤ b.length ∧ b.length ≤ 100000 ∧ RWire.readF d (b.drop n) = some (x, r) ∧ plainV x = true ∧
  ∀ v, Nxt [a] G H fun G' H' => ∀ m, m ≤ b.length → r = b.drop m → Mu G' H' a (ReqO K dx lo m) → VA K G' v x → Q v H'
def spWhole : Sp := fun vs H Q _ => vs.length = 1 ∧ ∃ (G : Hp) (a dx lo : Addr) (b : List UInt8) (d : Nat) (l : List RWire.Value), vs = [.ref a] ∧ Same G H ∧ Mu G H a (ReqO K dx lo 0) ∧ G lo = some (.lst (octs b)) ∧ b.length ≤ 100000 ∧ RWire.readRequest b = some (d, l) ∧ (∀ x ∈ l, plainV x = true) ∧
  ∀ t L vs, Nxt [a] G H fun G' H' => G' t = some (.tup [.int (d : Nat), .ref L]) → H L = none → Mu G' H' L (.lst vs) → VAs K G' vs l → Q (.ref t) H'
end
section
variable {K : PySem.W.Frag} {G H : Hp} {Q : VK} {E : XK} {a dx lo : Addr} {b : List UInt8} {n : Nat}
theorem u_num [q : Cur G H] {k : Nat} (m : Mu G H a (ReqO K dx lo n)) (hl : G lo = some (.lst (octs b))) (hn : n + k ≤ b.length) (hk : k ≤ 8) (kk : Nxt [a] G H fun G' H' => Mu G' H' a (ReqO K dx lo (n + k)) → Q (.int (RWire.numOf ((b.drop n).take k) : Nat)) H') : spNum K [.ref a, .int (k : Nat)] H Q E :=
  ⟨rfl, G, a, dx, lo, b, n, k, rfl, q.s, m, hl, hn, hk, kk⟩
theorem u_plain [q : Cur G H] {u r : List UInt8} (m : Mu G H a (ReqO K dx lo n)) (hl : G lo = some (.lst (octs b))) (hn : n ≤ b.length) (hb : b.length ≤ 100000) (hr : RWire.readText (b.drop n) = some (u, r))
    (kk : ∀ p, Nxt [a] G H fun G' H' => ∀ m, m ≤ b.length → r = b.drop m → Mu G' H' a (ReqO K dx lo m) → SqT K G' p (octs u) → Q (.ref p) H') : spPlain K [.ref a] H Q E := ⟨rfl, G, a, dx, lo, b, n, u, r, rfl, q.s, m, hl, hn, hb, hr, kk⟩
theorem u_val [q : Cur G H] {d : Nat} {x : RWire.Value} {r : List UInt8} (m : Mu G H a (ReqO K dx lo n)) (hl : G lo = some (.lst (octs b))) (hn : n ≤ b.length) (hb : b.length ≤ 100000) (hr : RWire.readF d (b.drop n) = some (x, r)) (hp : plainV x = true)
    (kk : ∀ v, Nxt [a] G H fun G' H' => ∀ m, m ≤ b.length → r = b.drop m → Mu G' H' a (ReqO K dx lo m) → VA K G' v x → Q v H') : spVal K d [.ref a] H Q E := ⟨rfl, G, a, dx, lo, b, n, x, r, rfl, q.s, m, hl, hn, hb, hr, hp, kk⟩
end
end Ck
/-- one step of a reading; `walk_at "w"` goes on as far as it can -/
local macro_rules | `(tactic| walk_at "w1") => `(tactic| first
  | with_reducible refine Ck.w_var rfl ?_ | with_reducible refine Ck.w_c ?_ | with_reducible refine Ck.w_op ?_ | with_reducible refine Ck.w_fld ?_ | with_reducible refine Ck.w_cons ?_ | with_reducible refine Ck.w_nil ?_
  | with_reducible refine Ck.w_seq ?_ | with_reducible refine Ck.w_asg ?_ | with_reducible refine Ck.w_drop ?_ | with_reducible refine Ck.w_ret ?_ | with_reducible refine Ck.w_ifS ?_ | with_reducible refine Ck.w_next ?_
  | with_reducible refine Ck.w_i0 ?_ | with_reducible refine Ck.w_tT ?_ | with_reducible refine Ck.w_tB ?_ | with_reducible refine Ck.w_bl ?_ | with_reducible refine Ck.w_eq rfl ?_ | with_reducible refine Ck.w_ne rfl ?_
  | with_reducible refine Ck.w_call ?_ | with_reducible refine Ck.w_meth ?_ | with_reducible refine Ck.w_cb ?_ | with_reducible refine Ck.w_tup ?_ | with_reducible refine Ck.w_lst ?_ | with_reducible refine Ck.w_if ?_
  | with_reducible refine Ck.w_andV ?_ | with_reducible refine Ck.w_orV ?_ | with_reducible refine Ck.w_notV ?_ | with_reducible refine Ck.w_and ?_ | with_reducible refine Ck.w_or ?_ | with_reducible refine Ck.w_not ?_
  | with_reducible refine Ck.w_bm ?_ | with_reducible refine Ck.w_sfld ?_ | with_reducible refine Ck.w_make ?_ | with_reducible refine Ck.w_sl ?_ | with_reducible refine Ck.w_part ?_ | with_reducible refine Ck.w_pI ?_ | with_reducible refine Ck.w_noP ?_
  | with_reducible refine Ck.w_sub ?_ | with_reducible refine Ck.w_name ?_ | with_reducible refine Ck.w_gtup ?_ | with_reducible refine Ck.w_gcons ?_ | with_reducible refine Ck.w_gnil ?_ | with_reducible refine Ck.w_asgG ?_
  | with_reducible refine Ck.w_iL ?_ | with_reducible refine Ck.w_iT ?_ | with_reducible refine Ck.w_iR ?_ | with_reducible refine Ck.w_iS ?_ | with_reducible refine Ck.w_lc ?_ | with_reducible refine Ck.w_for ?_ | with_reducible refine Ck.w_un ?_
  | with_reducible refine Ck.w_xf ?_ | with_reducible refine Ck.w_chain ?_ | with_reducible refine Ck.w_rev ?_ | with_reducible refine Ck.w_dget ?_ | with_reducible refine Ck.w_dput ?_ | with_reducible refine Ck.w_methE ?_ | with_reducible refine Ck.w_mkO ?_ | with_reducible refine Ck.w_ost ?_ | with_reducible refine Ck.w_fAug ?_
  | with_reducible refine Ck.w_tt ?_ | with_reducible refine Ck.w_ff ?_ | (with_reducible refine And.intro rfl ?_))
local macro_rules | `(tactic| walk_at "w") => `(tactic| repeat walk_at "w1")

local macro_rules | `(tactic| walk_at "wk") => `(tactic| first | (dsimp only [L2.Cx.blk]; done) | (dsimp only [L2.Cx.blk]; exact rfl) | exact rfl)
local macro_rules | `(tactic| walk_at "wt") => `(tactic| first | (dsimp only [L2.Cx.tr, L2.Cx.suite]; done) | (dsimp only [L2.Cx.tr, L2.Cx.suite]; exact rfl) | exact rfl)
namespace Ck
open PySem PySem.Spec PyProof.Rows L2
open He (ga ma fAd)
section
variable {P : Program} {w : World} {K : PySem.W.Frag} {mg : Str → Option Value} {base : Heap}
theorem has_Request_init (T : Txt K mg) : Has P w K mg base CX0 1 ("Request", some "__init__") ["self", "octets"] (spReqInit K) := by
  refine mk_has (d := d_Request_init) T 52 rfl rfl rfl sc_Request_init (fun _ _ _ _ _ _ us hl => match us, hl with | [_, _], _ => rfl) (fun vs H Q E h => h.1) (fun cdv A outer s H vs Q E hr h => ?_)
  refine ⟨_, PSs.nox (pss_cons (ps_fld (pv 0) (pv 1) rfl)
 (pss_one (ps_fld (pv 0) pe_int rfl))), ?_⟩
  obtain ⟨_, G, a, dx, lo, rfl, gs, mu, kk⟩ := h
  have : Cur G H := ⟨gs⟩
  walk_at "w"
  refine u_sfld mu (cl_Request T) (na_Request_octets T) (by show 0 < 1000; decide) fun G1 H1 st1 _ _ mu1 => ?_
  walk_at "w"
  rw [fi_Request_octets] at mu1
  refine u_sfld mu1 (cl_Request T) (na_Request_at T) (by show 1 < 1000; decide) fun G2 H2 st2 _ _ mu2 => ?_
  walk_at "w"
  rw [fi_Request_at] at mu2
  exact kk.go (st1.trans st2) mu2
theorem has_Request_number (T : Txt K mg) : Has P w K mg base CX0 1 ("Request", some "number") ["self", "many"] (spNum K) := by
  refine mk_has (d := d_Request_number) T 53 rfl rfl rfl sc_Request_number (fun _ _ _ _ _ _ us hl => match us, hl with | [_, _], _ => rfl) (fun vs H Q E h => h.1) (fun cdv A outer s H vs Q E hr h => ?_)
  refine ⟨_, PSs.nox (pss_cons (ps_set (i := 2) sc_Request_number.nd rfl (Or.inl rfl) pe_int)
 (pss_cons (ps_for PassesOwn.never rfl (pi_range1 (by rfl) (fr_range T) (pa_cons (pv 1) pa_nil)) (pg_name (i := 3) sc_Request_number.nd rfl (Or.inl rfl)) (pss_one (ps_set (i := 2) sc_Request_number.nd rfl (Or.inl rfl) (pe_op op_add (pe_op op_mul pe_int (pv 2)) (pe_ix ix_list (pe_fld (pv 0) rfl) (pe_op op_sub (pe_op op_sub (pe_op op_add (pe_fld (pv 0) rfl) (pv 1)) pe_int) (pv 3)) (fun _ _ => rfl))))))
 (pss_cons (ps_fldaug (pv 0) (pv 1) in_add)
 (pss_one (ps_ret (pv 2)))))), ?_⟩
  obtain ⟨_, G, a, dx, lo, b, n, k, rfl, gs, mu, hb, hn, hk, kk⟩ := h
  have : Cur G H := ⟨gs⟩
  walk_at "w"
  refine u_iR (by omega) ?_
  walk_at "w"
  have hc : ((b.drop n).take k).length = k := by rw [List.length_take, List.length_drop]; omega
  refine u_for (walk_range (n := k)) (fun i σ H' => H' = H ∧ ∃ v, σ = [some (.ref a), some (.int k), some (.int (RWire.numOf (((b.drop n).take k).drop (k - i)) : Nat)), v]) ?_ (fun _ _ _ _ _ => trivial) ?_ ?_
  · refine ⟨rfl, none, ?_⟩
    have e : ((b.drop n).take k).drop (k - 0) = [] := List.drop_eq_nil_of_le (by omega)
    rw [e]
    rfl
  · rintro i x σ H1 H1' hi ⟨rfl, v, rfl⟩ ⟨rfl, rfl⟩
    obtain ⟨y, hy⟩ : ∃ y, b[n + (k - 1 - i)]? = some y := ⟨_, List.getElem?_eq_getElem (by omega)⟩
    walk_at "w"
    refine u_ri (.inl ⟨by decide, by decide⟩) ?_
    walk_at "w"
    refine u_fld mu.h (cl_Request T) (na_Request_octets T) fl_Request_octets ?_
    walk_at "w"
    refine u_fld mu.h (cl_Request T) (na_Request_at T) fl_Request_at ?_
    walk_at "w"
    refine w_ixL (SqL.of (on hb)) (v := .int (y.toNat : Int)) ?_ ?_
    · rw [show ((n : Nat) : Int) + ((k : Nat) : Int) - 1 - (0 + ((i : Nat) : Int)) = ((n + (k - 1 - i) : Nat) : Int) by omega]
      exact atI_nat (octs_at hy)
    · walk_at "w"
      refine ⟨some (.int (0 + (i : Int))), ?_⟩
      have h1 : ((b.drop n).take k)[((b.drop n).take k).length - 1 - i]? = some y := by
        rw [hc, List.getElem?_take_of_lt (by omega), List.getElem?_drop]
        exact hy
      have h2 := num_step _ i (by omega) y h1
      rw [hc] at h2
      rw [h2]
      show [_, _, some (V.int (256 * _ + _)), _] = [_, _, some (V.int _), _]
      have e : ∀ a b : Nat, (256 : Int) * (a : Nat) + (b : Nat) = ((256 * a + b : Nat) : Int) := fun a b => by omega
      rw [e]
  · rintro σ H1 ⟨rfl, v, rfl⟩
    rw [Nat.sub_self, List.drop_zero]
    walk_at "w"
    refine u_fa mu.h (cl_Request T) (na_Request_at T) fl_Request_at ?_
    walk_at "w"
    refine u_rAdd ?_
    walk_at "w"
    refine u_fb mu (by show 2 < 1000; decide) fun G2 H2 st2 _ _ mu2 => ?_
    walk_at "w"
    rw [fp_Request_at] at mu2
    exact kk.go st2 mu2
theorem has_Request_plain (T : Txt K mg) : Has P w K mg base CX0 2 ("Request", some "plain") ["self"] (spPlain K) := by
  refine mk_has (d := d_Request_plain) T 54 rfl rfl rfl sc_Request_plain (fun _ _ _ _ _ _ us hl => match us, hl with | [_], _ => rfl) (fun vs H Q E h => h.1) (fun cdv A outer s H vs Q E hr h => ?_)
  refine ⟨_, PSs.nox (pss_cons (ps_set (i := 1) sc_Request_plain.nd rfl (Or.inl rfl) (pmeth (pv 0) (cl_Request T) (me_Request_number T) (has_Request_number T) (hr.mono (by omega)) pass0 (pa_cons pe_int pa_nil)))
 (pss_cons (ps_fldaug (pv 0) (pv 1) in_add)
 (pss_one (ps_ret (pe_callTy c_tuple (by rfl) (fr_tuple T) (by decide +kernel) (pa_cons (pe_slice sl_list (pe_fld (pv 0) rfl) (po_some (pe_op op_sub (pe_fld (pv 0) rfl) (pv 1))) (po_some (pe_fld (pv 0) rfl))) pa_nil)))))), ?_⟩
  obtain ⟨_, G, a, dx, lo, b, n, u, r, rfl, gs, mu, hb, hn, hle, hr, kk⟩ := h
  have : Cur G H := ⟨gs⟩
  obtain ⟨h4, hm, he⟩ := readText_eq hr
  rw [List.length_drop] at h4 hm
  obtain ⟨rfl, rfl⟩ := Prod.mk.inj he
  generalize hmm : RWire.numOf ((b.drop n).take 4) = m at *
  walk_at "w"
  refine u_mth mu.h fm_Request_number ?_
  walk_at "w"
  refine u_num mu hb (k := 4) (by omega) (by omega) fun G1 H1 st1 _ _ mu1 => ?_
  walk_at "w"
  rw [hmm]
  refine u_fa mu1.h (cl_Request T) (na_Request_at T) fl_Request_at ?_
  walk_at "w"
  refine u_rAdd ?_
  walk_at "w"
  refine u_fb mu1 (by show 2 < 1000; decide) fun G2 H2 st2 _ _ mu2 => ?_
  walk_at "w"
  rw [fp_Request_at, show ((n + 4 : Nat) : Int) + ((m : Nat) : Int) = ((n + 4 + m : Nat) : Int) by omega] at mu2
  refine u_fld mu2.h (cl_Request T) (na_Request_octets T) fl_Request_octets ?_
  walk_at "w"
  refine u_fld mu2.h (cl_Request T) (na_Request_at T) fl_Request_at ?_
  walk_at "w"
  refine u_fld mu2.h (cl_Request T) (na_Request_at T) fl_Request_at ?_
  walk_at "w"
  refine u_slL (SqL.of (on hb)) fun p3 G3 H3 st3 _ _ hp3 => ?_
  rw [show ((n + 4 + m : Nat) : Int) - ((m : Nat) : Int) = ((n + 4 : Nat) : Int) by omega, octs_cut _ _ _ (by omega)] at hp3
  walk_at "w"
  refine u_tupL (SqL.of (on hp3)) (by rw [octs_len, List.length_take, sizeLine_eq]; omega) fun p4 G4 H4 st4 _ _ hp4 => ?_
  walk_at "w"
  refine (kk p4).go (((st1.trans st2).trans st3.nil).trans st4.nil) (n + 4 + m) (by omega) ?_ ((st3.trans st4).mu mu2 List.not_mem_nil) ?_
  · rw [List.drop_drop]; congr 1; omega
  · rw [List.drop_drop]; exact SqT.of hp4
theorem has_Request_value (T : Txt K mg) : ∀ d : Nat, Has P w K mg base CX0 (d + 3) ("Request", some "value") ["self"] (spVal K d)
  | 0 => by
    refine mk_has (d := d_Request_value) T 55 rfl rfl rfl sc_Request_value (fun _ _ _ _ _ _ us hl => match us, hl with | [_], _ => rfl) (fun vs H Q E h => h.1) (fun cdv A outer s H vs Q E hr h => ?_)
    obtain ⟨_, G, a, dx, lo, b, n, x, r, rfl, gs, mu, hb, hn, hle, hr, _⟩ := h
    cases hr
  | d + 1 => by
    have IH := has_Request_value T d
    refine mk_has (d := d_Request_value) T 55 rfl rfl rfl sc_Request_value (fun _ _ _ _ _ _ us hl => match us, hl with | [_], _ => rfl) (fun vs H Q E h => h.1) (fun cdv A outer s H vs Q E hr h => ?_)
    refine ⟨_, PSs.nox (pss_cons (ps_set (i := 1) sc_Request_value.nd rfl (Or.inl rfl) (pmeth (pv 0) (cl_Request T) (me_Request_number T) (has_Request_number T) (hr.mono (by omega)) pass0 (pa_cons pe_int pa_nil)))
   (pss_cons (ps_if (pt_cmpR op_eq (pv 1) (pgi (gi_INTEGER T) rfl) (nomark _)) (pss_cons (ps_set (i := 2) sc_Request_value.nd rfl (Or.inl rfl) (pmeth (pv 0) (cl_Request T) (me_Request_number T) (has_Request_number T) (hr.mono (by omega)) pass0 (pa_cons pe_int pa_nil)))
   (pss_one (ps_ret (pcall (has_integer T) (hr.mono (by omega)) rfl (gl_integer T) pass0 (pa_cons (pe_ifExp (pt_cmpR op_ge (pv 2) (pgi (gi_HALF T) rfl) (nomark _)) (pe_op op_sub (pv 2) (pgi (gi_WORD T) rfl)) (pv 2)) pa_nil))))) pss_nil)
   (pss_cons (ps_if (pt_cmpR op_eq (pv 1) (pgi (gi_TEXT T) rfl) (nomark _)) (pss_one (ps_ret (pe_tup (pa_cons (pgi (gi_TEXT T) rfl) (pa_cons (pmeth0 (pv 0) (cl_Request T) (me_Request_plain T) (has_Request_plain T) (hr.mono (by omega)) pass0) pa_nil))))) pss_nil)
   (pss_cons (ps_if (pt_cmpR op_lt (pv 1) (pgi (gi_INTEGER T) rfl) (nomark _)) (pss_one (ps_ret (pe_tup (pa_cons (pv 1) pa_nil)))) pss_nil)
   (pss_cons (ps_if (pt_cmpR op_eq (pv 1) (pgi (gi_OCTETS T) rfl) (nomark _)) (pss_one (ps_ret (pcall (has_integers T) (hr.mono (by omega)) rfl (gl_integers T) pass0 (pa_cons (pmeth0 (pv 0) (cl_Request T) (me_Request_plain T) (has_Request_plain T) (hr.mono (by omega)) pass0) pa_nil)))) pss_nil)
   (pss_cons (ps_set (i := 3) sc_Request_value.nd rfl (Or.inl rfl) (pe_lst pa_nil))
   (pss_cons (ps_for PassesOwn.never rfl (pi_range1 (by rfl) (fr_range T) (pa_cons (pmeth (pv 0) (cl_Request T) (me_Request_number T) (has_Request_number T) (hr.mono (by omega)) pass0 (pa_cons pe_int pa_nil)) pa_nil)) (pg_name (i := 4) sc_Request_value.nd rfl (Or.inl rfl)) (pss_one (ps_if (pt_cmpR op_eq (pv 1) (pgi (gi_RECORD T) rfl) (nomark _)) (pss_cons (ps_set (i := 5) sc_Request_value.nd rfl (Or.inl rfl) (pmeth0 (pv 0) (cl_Request T) (me_Request_plain T) (has_Request_plain T) (hr.mono (by omega)) pass0))
   (pss_one (ps_expr (pe_bm PySem.F.plainAttrs_list PySem.F.slot_list_append PySem.F.type_list_append mt_append (pv 3) (pa_cons (pe_tup (pa_cons (pv 5) (pa_cons (pmeth0 (pv 0) (cl_Request T) (me_Request_value T) IH (hr.mono (by omega)) pass0) pa_nil))) pa_nil))))) (pss_one (ps_expr (pe_bm PySem.F.plainAttrs_list PySem.F.slot_list_append PySem.F.type_list_append mt_append (pv 3) (pa_cons (pmeth0 (pv 0) (cl_Request T) (me_Request_value T) IH (hr.mono (by omega)) pass0) pa_nil)))))))
   (pss_one (ps_ret (pe_tup (pa_cons (pv 1) (pa_cons (pe_callTy c_tuple (by rfl) (fr_tuple T) (by decide +kernel) (pa_cons (pv 3) pa_nil)) pa_nil)))))))))))), ?_⟩
    obtain ⟨_, G, a, dx, lo, b, n, x, r, rfl, gs, mu, hb, hn, hle, hrd, hp, kk⟩ := h
    have : Cur G H := ⟨gs⟩
    obtain ⟨k0, r0, hr0, hk⟩ : ∃ k0 r0, b.drop n = k0 :: r0 ∧ RWire.readKind (RWire.readF d) k0.toNat r0 = some (x, r) := by
      cases e : b.drop n with
      | nil => rw [e] at hrd; cases hrd
      | cons k0 r0 => rw [e] at hrd; exact ⟨k0, r0, rfl, hrd⟩
    have hn1 : n + 1 ≤ b.length := by
      have := congrArg List.length hr0
      rw [List.length_drop, List.length_cons] at this
      omega
    have hr1 : r0 = b.drop (n + 1) := by
      rw [← List.drop_drop, hr0]; rfl
    have hk1 : RWire.numOf ((b.drop n).take 1) = k0.toNat := by
      rw [hr0]; show k0.toNat + 256 * 0 = _; omega
    have rk := rk_of hk hp
    subst hr1
    walk_at "w"
    refine u_mth mu.h fm_Request_number ?_
    walk_at "w"
    refine u_num mu hb (k := 1) hn1 (by omega) fun G1 H1 st1 _ _ mu1 => ?_
    walk_at "w"
    rw [hk1]
    cases rk with
    | nothing e =>
      rw [e]
      refine iteF ?_
      walk_at "w"
      refine iteF ?_
      walk_at "w"
      refine iteT ?_
      walk_at "w"
      refine u_tup (by show 1 ≤ sizeLine; decide) fun p2 G2 H2 st2 _ _ hp2 => ?_
      exact (kk _).go (st1.trans st2.nil) (n + 1) hn1 rfl (st2.mu mu1 List.not_mem_nil) (.nothing (SqT.of hp2))
    | null e =>
      rw [e]
      refine iteF ?_
      walk_at "w"
      refine iteF ?_
      walk_at "w"
      refine iteT ?_
      walk_at "w"
      refine u_tup (by show 1 ≤ sizeLine; decide) fun p2 G2 H2 st2 _ _ hp2 => ?_
      exact (kk _).go (st1.trans st2.nil) (n + 1) hn1 rfl (st2.mu mu1 List.not_mem_nil) (.null (SqT.of hp2))
    | fls e =>
      rw [e]
      refine iteF ?_
      walk_at "w"
      refine iteF ?_
      walk_at "w"
      refine iteT ?_
      walk_at "w"
      refine u_tup (by show 1 ≤ sizeLine; decide) fun p2 G2 H2 st2 _ _ hp2 => ?_
      exact (kk _).go (st1.trans st2.nil) (n + 1) hn1 rfl (st2.mu mu1 List.not_mem_nil) (.fls (SqT.of hp2))
    | tru e =>
      rw [e]
      refine iteF ?_
      walk_at "w"
      refine iteF ?_
      walk_at "w"
      refine iteT ?_
      walk_at "w"
      refine u_tup (by show 1 ≤ sizeLine; decide) fun p2 G2 H2 st2 _ _ hp2 => ?_
      exact (kk _).go (st1.trans st2.nil) (n + 1) hn1 rfl (st2.mu mu1 List.not_mem_nil) (.tru (SqT.of hp2))
    | int e h8 =>
      rw [e]
      rw [List.length_drop] at h8
      refine iteT ?_
      walk_at "w"
      refine u_mth mu1.h fm_Request_number ?_
      walk_at "w"
      refine u_num mu1 (up hb) (k := 8) (by omega) (by omega) fun G2 H2 st2 _ _ mu2 => ?_
      walk_at "w"
      generalize hN : RWire.numOf ((b.drop (n + 1)).take 8) = N at *
      refine w_ite (fun hc => ?_) (fun hc => ?_)
      · have hc := of_decide_eq_true hc
        walk_at "w"
        refine u_integer fun v G3 H3 st3 _ _ hv => ?_
        refine (kk _).go ((st1.trans st2).trans st3.nil) (n + 1 + 8) (by omega) (by rw [List.drop_drop]) (st3.mu mu2 List.not_mem_nil) ?_
        have e : RWire.intOf N = (N : Int) - 18446744073709551616 := by
          unfold RWire.intOf
          rw [decide_eq_false (by omega)]
          rfl
        rw [e]; exact hv
      · have hc := of_decide_eq_false hc
        walk_at "w"
        refine u_integer fun v G3 H3 st3 _ _ hv => ?_
        refine (kk _).go ((st1.trans st2).trans st3.nil) (n + 1 + 8) (by omega) (by rw [List.drop_drop]) (st3.mu mu2 List.not_mem_nil) ?_
        have e : RWire.intOf N = (N : Int) := by
          unfold RWire.intOf
          rw [decide_eq_true (by omega)]
          rfl
        rw [e]; exact hv
    | text e ht =>
      rw [e]
      refine iteF ?_
      walk_at "w"
      refine iteT ?_
      walk_at "w"
      refine u_mth mu1.h fm_Request_plain ?_
      walk_at "w"
      refine u_plain mu1 (up hb) hn1 hle ht fun p2 G2 H2 st2 _ _ m hm he mu2 hp2 => ?_
      walk_at "w"
      refine u_tup (by show 2 ≤ sizeLine; decide) fun p3 G3 H3 st3 _ _ hp3 => ?_
      exact (kk _).go ((st1.trans st2).trans st3.nil) m hm he (st3.mu mu2 List.not_mem_nil) (.text (SqT.of hp3) (upT hp2))
    | @list l r' e h4 hm =>
      rw [e]
      rw [List.length_drop] at h4
      refine iteF ?_
      walk_at "w"
      refine iteF ?_
      walk_at "w"
      refine iteF ?_
      walk_at "w"
      refine iteF ?_
      walk_at "w"
      refine u_lst (Nat.zero_le _) fun p2 G2 H2 st2 _ _ hn2 mu2 => ?_
      walk_at "w"
      have hnp : H p2 = none := st1.free hn2
      have mu1' := st2.mu mu1 List.not_mem_nil
      refine u_mth mu1'.h fm_Request_number ?_
      walk_at "w"
      refine u_num mu1' (up hb) (k := 4) (by omega) (by omega) fun G3 H3 st3 _ _ mu3 => ?_
      walk_at "w"
      have hpa : p2 ≠ a := fun z => by rw [z, mu.h] at hnp; cases hnp
      have mu23 := st3.mu mu2 (by simpa using hpa)
      generalize hN : RWire.numOf ((b.drop (n + 1)).take 4) = N at *
      rw [List.drop_drop] at hm
      have hcnt := rm_count (readF_len d) N _ _ _ hm
      rw [List.length_drop] at hcnt
      refine u_iR (by omega) ?_
      refine u_for (walk_range (n := N)) (fun i σ H' => ∃ G' m vs v f1 f2, σ = [some (.ref a), some (.int (7 : Nat)), f1, some (.ref p2), v, f2] ∧ Stp [a] G H G' H' ∧ Mu G' H' p2 (.lst vs) ∧ m ≤ b.length ∧ Mu G' H' a (ReqO K dx lo m) ∧ RWire.readMany (RWire.readF d) (N - i) (b.drop m) = some (l.drop i, r) ∧ VAs K G' vs (l.take i) ∧ vs.length = i) ?_ (fun _ _ _ _ _ => trivial) ?_ ?_
      · exact ⟨G3, n + 1 + 4, [], none, none, none, rfl, (st1.trans st2.nil).trans st3, mu23, by omega, mu3, hm, .nil, rfl⟩
      · rintro i y σ H1 H1' hi ⟨G4, m, vs, v, f1, f2, rfl, st, mup, hmb, mua, hrm, va, hvl⟩ ⟨rfl, rfl⟩
        have : Cur G4 H1' := ⟨st.s⟩
        have : Dn G G4 := ⟨st.g⟩
        rw [show N - i = (N - i - 1) + 1 by omega] at hrm
        obtain ⟨x, r1, l2, hx, hr2, hl2⟩ := readMany_cons hrm
        have hxm : l[i]? = some x := by
          have := congrArg (·[0]?) hl2
          simpa using this
        have hpx : plainV x = true := plain_mem hp (List.mem_of_getElem? hxm)
        walk_at "w"
        refine iteF ?_
        walk_at "w"
        refine u_bmL mup.h ?_
        walk_at "w"
        refine u_mth mua.h fm_Request_value ?_
        walk_at "w"
        refine u_val mua (up hb) hmb hle hx hpx fun v5 G5 H5 st5 _ _ m5 hm5 he5 mu5 hv5 => ?_
        walk_at "w"
        refine u_app (st5.mu mup (by simpa using hpa)) (by rw [hvl, sizeLine_eq]; omega) fun G6 H6 st6 _ _ mu6 => ?_
        walk_at "w"
        refine ⟨G6, m5, vs ++ [v5], some (.int (0 + (i : Int))), f1, f2, rfl, ?_, mu6, hm5, st6.mu mu5 (by simpa using hpa.symm), ?_, ?_, by rw [List.length_append, hvl]; rfl⟩
        · refine Stp.drop (l := p2) ?_ hnp
          exact ((st.trans st5).weak (fun _ h => List.mem_cons_of_mem _ h)).trans (st6.weak fun _ h => by rw [List.mem_singleton.mp h]; exact List.mem_cons_self)
        · rw [← he5, show N - (i + 1) = N - i - 1 by omega, hr2]
          congr 1
          have : l.drop (i + 1) = l2 := by
            rw [← List.drop_drop, hl2]; rfl
          rw [this]
        · rw [take_snoc hxm]
          exact VAs.app (va.up) (.cons hv5.up .nil)
      · rintro σ H1 ⟨G4, m, vs, v, f1, f2, rfl, st, mup, hmb, mua, hrm, va, hvl⟩
        have : Cur G4 H1 := ⟨st.s⟩
        rw [Nat.sub_self] at hrm
        have hend : l.drop N = [] ∧ b.drop m = r := by
          have := Option.some.inj hrm
          obtain ⟨h1, h2⟩ := Prod.mk.inj this
          exact ⟨h1.symm, h2⟩
        have hl : l.take N = l := List.take_of_length_le (List.drop_eq_nil_iff.mp hend.1)
        rw [hl] at va
        walk_at "w"
        refine u_tupL mup.sqL (by rw [hvl, sizeLine_eq]; omega) fun p5 G5 H5 st5 _ _ hp5 => ?_
        walk_at "w"
        refine u_tup (by show 2 ≤ sizeLine; decide) fun p6 G6 H6 st6 _ _ hp6 => ?_
        exact (kk _).go ((st.trans st5.nil).trans st6.nil) m hmb hend.2.symm ((st5.trans st6).mu mua List.not_mem_nil) (.list (SqT.of hp6) (upT (SqT.of hp5)) va.up)
    | @record l r' e h4 hm =>
      rw [e]
      rw [List.length_drop] at h4
      refine iteF ?_
      walk_at "w"
      refine iteF ?_
      walk_at "w"
      refine iteF ?_
      walk_at "w"
      refine iteF ?_
      walk_at "w"
      refine u_lst (Nat.zero_le _) fun p2 G2 H2 st2 _ _ hn2 mu2 => ?_
      walk_at "w"
      have hnp : H p2 = none := st1.free hn2
      have mu1' := st2.mu mu1 List.not_mem_nil
      refine u_mth mu1'.h fm_Request_number ?_
      walk_at "w"
      refine u_num mu1' (up hb) (k := 4) (by omega) (by omega) fun G3 H3 st3 _ _ mu3 => ?_
      walk_at "w"
      have hpa : p2 ≠ a := fun z => by rw [z, mu.h] at hnp; cases hnp
      have mu23 := st3.mu mu2 (by simpa using hpa)
      generalize hN : RWire.numOf ((b.drop (n + 1)).take 4) = N at *
      rw [List.drop_drop] at hm
      have hcnt := rm_count (readE_len (readF_len d)) N _ _ _ hm
      rw [List.length_drop] at hcnt
      refine u_iR (by omega) ?_
      refine u_for (walk_range (n := N)) (fun i σ H' => ∃ G' m vs v f1 f2, σ = [some (.ref a), some (.int (8 : Nat)), f1, some (.ref p2), v, f2] ∧ Stp [a] G H G' H' ∧ Mu G' H' p2 (.lst vs) ∧ m ≤ b.length ∧ Mu G' H' a (ReqO K dx lo m) ∧ RWire.readMany (RWire.readEntry (RWire.readF d)) (N - i) (b.drop m) = some (l.drop i, r) ∧ VEs K G' vs (l.take i) ∧ vs.length = i) ?_ (fun _ _ _ _ _ => trivial) ?_ ?_
      · exact ⟨G3, n + 1 + 4, [], none, none, none, rfl, (st1.trans st2.nil).trans st3, mu23, by omega, mu3, hm, .nil, rfl⟩
      · rintro i y σ H1 H1' hi ⟨G4, m, vs, v, f1, f2, rfl, st, mup, hmb, mua, hrm, va, hvl⟩ ⟨rfl, rfl⟩
        have : Cur G4 H1' := ⟨st.s⟩
        have : Dn G G4 := ⟨st.g⟩
        rw [show N - i = (N - i - 1) + 1 by omega] at hrm
        obtain ⟨xe, r1, l2, hxe, hr2, hl2⟩ := readMany_cons hrm
        obtain ⟨u, ru, x, hu, hx, rfl⟩ := readEntry_eq hxe
        have hxm : l[i]? = some (u, x) := by
          have := congrArg (·[0]?) hl2
          simpa using this
        have hpx : plainV x = true := plain_memE hp (List.mem_of_getElem? hxm)
        walk_at "w"
        refine iteT ?_
        walk_at "w"
        refine u_mth mua.h fm_Request_plain ?_
        walk_at "w"
        refine u_plain mua (up hb) hmb hle hu fun pn Ga Ha sta _ _ ma hma hea mua2 hpn => ?_
        walk_at "w"
        have hx : RWire.readF d (b.drop ma) = some (x, r1) := by rw [← hea]; exact hx
        have mupa := sta.mu mup (by simpa using hpa)
        refine u_bmL mupa.h ?_
        walk_at "w"
        refine u_mth mua2.h fm_Request_value ?_
        walk_at "w"
        refine u_val mua2 (up hb) hma hle hx hpx fun v5 G5 H5 st5 _ _ m5 hm5 he5 mu5 hv5 => ?_
        walk_at "w"
        refine u_tup (by show 2 ≤ sizeLine; decide) fun pt Gb Hb stb _ _ hpt => ?_
        walk_at "w"
        refine u_app (stb.mu (st5.mu mupa (by simpa using hpa)) List.not_mem_nil) (by rw [hvl, sizeLine_eq]; omega) fun G6 H6 st6 _ _ mu6 => ?_
        walk_at "w"
        refine ⟨G6, m5, vs ++ [.ref pt], some (.int (0 + (i : Int))), f1, some (.ref pn), rfl, ?_, mu6, hm5, st6.mu (stb.mu mu5 List.not_mem_nil) (by simpa using hpa.symm), ?_, ?_, by rw [List.length_append, hvl]; rfl⟩
        · refine Stp.drop (l := p2) ?_ hnp
          exact ((((st.trans sta).trans st5).trans stb.nil).weak (fun _ h => List.mem_cons_of_mem _ h)).trans (st6.weak fun _ h => by rw [List.mem_singleton.mp h]; exact List.mem_cons_self)
        · rw [← he5, show N - (i + 1) = N - i - 1 by omega, hr2]
          congr 1
          have : l.drop (i + 1) = l2 := by
            rw [← List.drop_drop, hl2]; rfl
          rw [this]
        · rw [take_snoc hxm]
          exact VEs.app (VEs.mono ((sta.g.trans st5.g).trans (stb.g.trans st6.g)) _ _ va) (.cons (upT (SqT.of hpt)) (upT hpn) hv5.up .nil)
      · rintro σ H1 ⟨G4, m, vs, v, f1, f2, rfl, st, mup, hmb, mua, hrm, va, hvl⟩
        have : Cur G4 H1 := ⟨st.s⟩
        rw [Nat.sub_self] at hrm
        have hend : l.drop N = [] ∧ b.drop m = r := by
          have := Option.some.inj hrm
          obtain ⟨h1, h2⟩ := Prod.mk.inj this
          exact ⟨h1.symm, h2⟩
        have hl : l.take N = l := List.take_of_length_le (List.drop_eq_nil_iff.mp hend.1)
        rw [hl] at va
        walk_at "w"
        refine u_tupL mup.sqL (by rw [hvl, sizeLine_eq]; omega) fun p5 G5 H5 st5 _ _ hp5 => ?_
        walk_at "w"
        refine u_tup (by show 2 ≤ sizeLine; decide) fun p6 G6 H6 st6 _ _ hp6 => ?_
        exact (kk _).go ((st.trans st5.nil).trans st6.nil) m hmb hend.2.symm ((st5.trans st6).mu mua List.not_mem_nil) (.record (SqT.of hp6) (upT (SqT.of hp5)) (VEs.mono (st5.g.trans st6.g) _ _ va))
theorem has_Request_whole (T : Txt K mg) : Has P w K mg base CX0 36 ("Request", some "whole") ["self"] (spWhole K) := by
  refine mk_has (d := d_Request_whole) T 56 rfl rfl rfl sc_Request_whole (fun _ _ _ _ _ _ us hl => match us, hl with | [_], _ => rfl) (fun vs H Q E h => h.1) (fun cdv A outer s H vs Q E hr h => ?_)
  refine ⟨_, PSs.nox (pss_cons (ps_set (i := 1) sc_Request_whole.nd rfl (Or.inl rfl) (pmeth (pv 0) (cl_Request T) (me_Request_number T) (has_Request_number T) (hr.mono (by omega)) pass0 (pa_cons pe_int pa_nil)))
 (pss_one (ps_ret (pe_tup (pa_cons (pv 1) (pa_cons (pe_lc (own := [("turn", 2)]) (g := gName 2) (tt := tYes) rfl sc_Request_whole.nd (pi_range1 (by rfl) (fr_range T) (pa_cons (pmeth (pv 0) (cl_Request T) (me_Request_number T) (has_Request_number T) (hr.mono (by omega)) pass0 (pa_cons pe_int pa_nil)) pa_nil)) (blkOk_by (N := N_Request_whole) (sc := defScope s_Request_whole) (by decide +kernel)) (fun _ _ _ _ _ => (pg_name (i := 2) sc_Request_whole.nd rfl (Or.inl rfl))) (fun _ _ _ _ _ => pts_nil) (fun _ _ _ _ _ => (re_e (pmethB0 (K' := K) rfl (pv 0) (cl_Request T) (me_Request_value T) (has_Request_value T 32) (hr.mono (by omega)) pass0) (by walk_at "wk")))) pa_nil)))))), ?_⟩
  obtain ⟨_, G, a, dx, lo, b, d, l, rfl, gs, mu, hb, hle, hrd, hp, kk⟩ := h
  have : Cur G H := ⟨gs⟩
  obtain ⟨b0, b1, b2, rr, rfl, hda, hargs⟩ : ∃ b0 b1 b2 rr, b = b0 :: b1 :: b2 :: rr ∧ d = b0.toNat + 256 * b1.toNat ∧ RWire.readMany (RWire.readF 32) b2.toNat rr = some (l, []) := by
    unfold RWire.readRequest at hrd
    split at hrd
    · rename_i b0 b1 b2 rr
      refine ⟨b0, b1, b2, rr, rfl, ?_⟩
      unfold RWire.readArgs at hrd
      cases e : RWire.readMany (RWire.readF RWire.nestMost) b2.toNat rr with
      | none => rw [e] at hrd; cases hrd
      | some p =>
        obtain ⟨p1, p2⟩ := p
        rw [e] at hrd
        cases p2 with
        | nil =>
          cases hrd
          exact ⟨rfl, e⟩
        | cons _ _ => cases hrd
    · cases hrd
  generalize hB : b0 :: b1 :: b2 :: rr = B at *
  have hBl : B.length = rr.length + 3 := by rw [← hB]; rfl
  have n0 : RWire.numOf ((B.drop 0).take 2) = d := by
    rw [← hB, hda]; show b0.toNat + 256 * (b1.toNat + 256 * 0) = _; omega
  have n1 : RWire.numOf ((B.drop 2).take 1) = b2.toNat := by
    rw [← hB]; show b2.toNat + 256 * 0 = _; omega
  have n2 : B.drop 3 = rr := by rw [← hB]; rfl
  walk_at "w"
  refine u_mth mu.h fm_Request_number ?_
  walk_at "w"
  refine u_num mu hb (k := 2) (by omega) (by omega) fun G1 H1 st1 _ _ mu1 => ?_
  walk_at "w"
  rw [n0]
  rw [show (0 + 2 : Nat) = 2 from rfl] at mu1
  walk_at "w"
  refine u_mth mu1.h fm_Request_number ?_
  walk_at "w"
  refine u_num mu1 (up hb) (k := 1) (by omega) (by omega) fun G2 H2 st2 _ _ mu2 => ?_
  walk_at "w"
  rw [n1]
  refine u_iR (by have := b2.toNat_lt; omega) ?_
  intro D hD
  have hDH : H D = none := (st1.trans st2).free hD
  have hDa : D ≠ a := fun z => by rw [z, mu.h] at hDH; cases hDH
  refine lc_it (walk_range (n := b2.toNat)) (fun i H' => ∃ G' m acc, Stp [a] G H G' H' ∧ Mu G' H' D (.lst acc) ∧ m ≤ B.length ∧ Mu G' H' a (ReqO K dx lo m) ∧ RWire.readMany (RWire.readF 32) (b2.toNat - i) (B.drop m) = some (l.drop i, []) ∧ VAs K G' acc (l.take i) ∧ acc.length = i) ?_ (fun _ _ _ _ => trivial) ?_ ?_
  · refine ⟨G2, 2 + 1, [], (st1.trans st2).trans (Stp.layM st2.s hD), Mu.lay hD st2.s, by omega, mu2.oth hDa.symm, ?_, .nil, rfl⟩
    rw [show (2 + 1 : Nat) = 3 from rfl, n2]; exact hargs
  · rintro i x H3 H3' hi ⟨G3, m, acc, st, mud, hmb, mua, hrm, va, hal⟩ ⟨rfl, rfl⟩
    have : Cur G3 H3' := ⟨st.s⟩
    have : Dn G G3 := ⟨st.g⟩
    rw [show b2.toNat - i = (b2.toNat - i - 1) + 1 by omega] at hrm
    obtain ⟨x, r1, l2, hx, hr2, hl2⟩ := readMany_cons hrm
    have hxm : l[i]? = some x := by
      have := congrArg (·[0]?) hl2
      simpa using this
    have hpx : plainV x = true := hp _ (List.mem_of_getElem? hxm)
    walk_at "w"
    refine u_yes ?_
    walk_at "w"
    refine u_mth mua.h fm_Request_value ?_
    walk_at "w"
    refine u_val mua (up hb) hmb hle hx hpx fun v5 G5 H5 st5 _ _ m5 hm5 he5 mu5 hv5 => ?_
    walk_at "w"
    have mud5 := st5.mu mud (by simpa using hDa)
    refine ⟨acc, mud5.h, by have := b2.toNat_lt; rw [hal, sizeLine_eq]; omega, G5, m5, acc ++ [v5], ?_, mud5.put, hm5, mu5.oth hDa.symm, ?_, ?_, by rw [List.length_append, hal]; rfl⟩
    · refine Stp.drop (l := D) ?_ hDH
      exact ((st.trans st5).weak (fun _ h => List.mem_cons_of_mem _ h)).trans (Stp.put st5.s mud5.g List.mem_cons_self)
    · rw [← he5, show b2.toNat - (i + 1) = b2.toNat - i - 1 by omega, hr2]
      congr 1
      have : l.drop (i + 1) = l2 := by
        rw [← List.drop_drop, hl2]; rfl
      rw [this]
    · rw [take_snoc hxm]
      exact VAs.app (va.up) (.cons hv5 .nil)
  · rintro H3 ⟨G3, m, acc, st, mud, hmb, mua, hrm, va, hal⟩
    have : Cur G3 H3 := ⟨st.s⟩
    rw [Nat.sub_self] at hrm
    have hend : l.drop b2.toNat = [] := by
      have := Option.some.inj hrm
      obtain ⟨h1, h2⟩ := Prod.mk.inj this
      exact h1.symm
    have hl : l.take b2.toNat = l := List.take_of_length_le (List.drop_eq_nil_iff.mp hend)
    rw [hl] at va
    walk_at "w"
    refine u_tup (by show 2 ≤ sizeLine; decide) fun p6 G6 H6 st6 _ _ hp6 => ?_
    exact (kk _ _ _).go (st.trans st6.nil) hp6 hDH (st6.mu mud List.not_mem_nil) va.up
end
end Ck
namespace Ck
open PySem PySem.Spec PyProof.Rows L2
open He (ga ma fAd)
/-! ### exceptions: made, called for, taken -/
abbrev XC (P : Program) (w : World) : CXT := L2N.CX P w
section
variable {X : Cx} {CX : CXT} {k : Nat} {x m cx : Str} {q pos apos : Pos} {ps : List Str} {sp : Sp} {E : XK} {e o : Expr} {es : List Expr} {t : TA} {to : TE}
theorem fin_exc {pins : List (Addr × Obj)} {σ : L2.St} {H1 H2 : Hp} {Q : XK} {h0 h1 h2 : Heap} {g1 g2 : Array GenState} {d1 d2 : Drawn} {t1 t2 : Nat} {o1 o2 : OsState} {b C d : Addr} {fs : List (Str × V)} (T : Raises X (.ref C)) (I1 : Inv X pins σ H1 ⟨h0, g1, d1, t1, o1⟩)
    (hb : h0.objs.size ≤ b) (kp : ∀ c u, h0.get? c = some u → h1.get? c = some u) (un : Un (frs X.stack) [] (upd H1 b (exo b C none)) H2 h1 h2) (ok : HOk X.prog X.w H2 h2) (ho : o2 = o1) (ag : AllBare g2)
    (eb : H2 b = some (exo b C (some d))) (ed : H2 d = some (exd d fs)) (hd : H1 d = none) (hq : Q (.ref C) (some d) (upd (del H2 b) d (.xd fs))) : L2N.MkP X pins σ Q (.ref b) ⟨h2, g2, d2, t2, o2⟩ := by
  obtain ⟨z, G, J, kG, ge, hz, na⟩ := mk_end0 (d2 := d2) (t2 := t2) I1 hb kp un ok ho ag eb ed hd
  refine ⟨b, _, _, ⟨G, g2, d2, t2, o2⟩, _, .ref C, some d, rfl, J, kG, ge, hz, ⟨rfl, rfl, fun vs e => ?_⟩, rfl, rfl, na, rfl, ag, T, hq⟩
  cases e
  rfl
/-- C(e, ..), a class of our own, C's __init__ written down -/
theorem pxmk (T : OexC X.K (ga X.K x)) (iC : PySem.W.findIn X.K (.ref (ga X.K x)) "__init__" = some (some (.ref (ma X.K (ga X.K x) "__init__")))) (tI : PySem.W.typeIn X.K (.ref (ma X.K (ga X.K x) "__init__")) = some (.type "function"))
    (h : Has X.prog X.w X.K X.mg X.base CX k (x, some "__init__") ps sp) (hr : Room (k + 1) X.A) (hx : Passes CX X (fun _ _ _ => False)) (hg : Gl X x) (hm : X.mg x = some (.ref (ga X.K x))) (ha : PA X (e :: es) t)
    (hdb : (x == ("__debug__" : Str)) = false := by decide) (he : starEach (e :: es) X.env = (false, eval e X.env) :: starEach es X.env := by rfl) (hpl : (backTo pos (starEach es X.env)).any (·.1) = false := by rfl) :
    L2N.PMk X (.Call (.Name x q) (e :: es) [] pos) (tMkO (ga X.K x) sp [] t) := by
  obtain ⟨⟨fd, F1, hb⟩, kp⟩ := h
  intro pins s σ H Q I w
  obtain ⟨n1, n2, n3, n4, bm, n5, n6, n7, n8, n9, m0, m1, m2, m3, m5, hC, hbm⟩ := T.cls
  refine wpAny_Call_Name_kw (ld_glob I hg hm ?_ hdb)
  refine PySem.W.callWith_K (h₀ := X.base) I.ok.mod.kin T.kC (thn (ha.run pos pins s σ H _ I w) fun us s1 ⟨vs, H1, I1, r1, hz, q1⟩ => ⟨I1.kIn, ?_⟩) he hpl
  show wpAny _ _ (call (.ref (ga X.K x)) us) _ _ _
  obtain ⟨hp, g, dr, tk, os⟩ := s1
  have sz : hp.objs.size ≤ hp.objs.size + 1 := Nat.le_succ _
  have hq := q1 (hp.objs.size + 1) (I1.hok.fresh sz)
  rw [List.append_nil] at hq
  have kk : ∀ b u, hp.get? b = some u → ((hp.push (PySem.W.kdv_tup us)).push (PySem.HandSPX.excO (ga X.K x) hp.objs.size)).get? b = some u := fun b u e => Heap.get?_push_of_some _ (Heap.get?_push_of_some _ e)
  have hget : ((hp.push (PySem.W.kdv_tup us)).push (PySem.HandSPX.excO (ga X.K x) hp.objs.size)).get? (hp.objs.size + 1) = some (PySem.HandSPX.excO (ga X.K x) hp.objs.size) := by heap_get
  have I2 : Inv X pins σ (upd H1 (hp.objs.size + 1) (exo (hp.objs.size + 1) (ga X.K x) none)) ⟨(hp.push (PySem.W.kdv_tup us)).push (PySem.HandSPX.excO (ga X.K x) hp.objs.size), g, dr, tk, os⟩ :=
    I1.laid (t' := tk) (a := hp.objs.size + 1) (o := exo (hp.objs.size + 1) (ga X.K x) none) (h' := (hp.push (PySem.W.kdv_tup us)).push (PySem.HandSPX.excO (ga X.K x) hp.objs.size)) kk sz (exo_ok hget)
  have r2 : Vals (V.ref (hp.objs.size + 1) :: vs) (Value.ref (hp.objs.size + 1) :: us) := .cons rfl r1
  have hl : (Value.ref (hp.objs.size + 1) :: us).length = ps.length := by rw [← r2.length]; exact F1.len _ _ _ _ hq
  have bb := hb _ (Value.ref (hp.objs.size + 1) :: us) I2.kIn (by rw [List.append_nil]; exact hl)
  rw [List.append_nil] at bb
  have hus : us.length ≤ sizeLine := by
    rw [← Paired.length r1, sizeLine_eq]; omega
  refine wpAny_call (PySem.HandSPX.call_own F.excBase_ValueError (fun Y => PySem.HandSPX.refsVE_contains Y bm hbm) (I1.kIn _ _ hC) (PySem.W.looks_findIn I1.kIn iC) (fun z => PySem.W.bind_fn I1.kIn z tI) hus ?_)
  have go := F1.run _ X.stack _ _ ⟨Value.ref (hp.objs.size + 1) :: us, []⟩ (Value.ref (hp.objs.size + 1) :: us) _ _ (fun _ _ _ => False) (hr.make (ga X.K x) us []) (I2.env0.make (ga X.K x) us []) bb r2 hq
  refine codeAny_mono go fun r s' hq' => ?_
  cases r with
  | error er => exact hx pins σ _ _ er s' I2 hq'
  | ok fl =>
    cases fl with
    | ret u =>
      obtain ⟨v, H2, os2, bare2, un2, hok2, rv, ev, d, fs, ea, ed, hd1, q2⟩ := hq'
      subst ev
      obtain ⟨h2, g2, d2, t2, os'⟩ := s'
      exact ⟨rv, fin_exc (raises_own T.exC T.tyC) I1 sz kk un2 hok2 os2 bare2 ea ed hd1 q2⟩
    | next => exact False.elim hq'
    | brk => exact False.elim hq'
    | cont => exact False.elim hq'
/-- o.m(e, ..) where the wish for an exception speaks of the slots -/
def tMethE (C : Addr) (m : Str) (sp : Sp) (E : L2.St → XK) (to : TE) (t : TA) : TE := fun σ H Q => to σ H fun x H1 => mthR C m x H1 fun x H1 => t σ H1 fun vs H2 => sp (x :: vs) H2 Q (E σ)
theorem pmethE {E : L2.St → XK} {pl : Sem Bool} (he : PE X o to) (c : Cls X.K (ga X.K cx)) (hm : Meth X.K (ga X.K cx) m (ma X.K (ga X.K cx) m)) (h : Has X.prog X.w X.K X.mg X.base CX k (cx, some m) ps sp) (hr : Room k X.A) (hx : ∀ σ, PassesAt CX X σ (E σ)) (ha : PA X (e :: es) t)
    (hst : starEach (e :: es) X.env = (false, eval e X.env) :: starEach es X.env := by rfl) (hpl : (backTo pos (starEach es X.env)).any (·.1) = false := by rfl)
    (ht : eval (.Call (.Attribute o m apos) (e :: es) [] pos) X.env = (do let ov ← eval o X.env; standAt apos.atName; let (f, first) ← holding [ov] (getMethod ov m pl); callWith pos f first (backTo pos (starEach (e :: es) X.env)) (backToKw pos (keywordEach [] X.env))) := by rfl) :
    PE X (.Call (.Attribute o m apos) (e :: es) [] pos) (tMethE (ga X.K cx) m sp E to t) := by
  obtain ⟨⟨fd, F, b⟩, kp⟩ := h
  refine ⟨fun pins s σ H Q I w => ?_⟩
  refine PySem.W.methodCall_KW (pl := pl) (thn (he.run pins s σ H _ I w) fun u s1 ⟨y, H1, I1, ry, a, dx, fs, ey, ea, l, q⟩ => ?_) ht
  subst ey
  obtain rfl : u = Value.ref a := ry
  refine getmeth_ok I1 ea c hm l ?_
  refine PySem.W.callWith_K (first := [.ref a]) (h₀ := X.base) I.ok.mod.kin hm.kp (thn (ha.run pos pins s1 σ H1 _ I1 q) fun us s2 ⟨vs, H2, I2, r, q2⟩ => ⟨I2.kIn, ?_⟩) hst hpl
  exact run_fnS (us := .ref a :: us) (vs := .ref a :: vs) F hr b (hx σ) I2 (.cons rfl r) q2
end
section
variable {K : PySem.W.Frag} {σ : L2.St} {H G : Hp} {Q : VK} {t : TA} {to te : TE} {C a : Addr} {m f : Str} {sp : Sp} {E : L2.St → XK} {D : Ends} {r y : V}
theorem w_methE (k : to σ H fun x H1 => mthR C m x H1 fun x H1 => t σ H1 fun vs H2 => sp (x :: vs) H2 Q (E σ)) : tMethE C m sp E to t σ H Q := k
/-- self.f = e in an exception's __init__ -/
def xoR (K : PySem.W.Frag) (f : Str) (y x : V) (H : Hp) (k : Hp → Prop) : Prop := ∃ a C : Addr, x = .ref a ∧ OexC K C ∧ PySem.W.findIn K (.ref C) f = some none ∧
  ((H a = some (exo a C none) ∧ ∀ dx, H dx = none → dx ≠ a → k (upd (upd H dx (exd dx [(f, y)])) a (exo a C (some dx)))) ∨
    ∃ (dx : Addr) (fs : List (Str × V)), H a = some (exo a C (some dx)) ∧ H dx = some (exd dx fs) ∧ fs.length ≤ 900 ∧ k (upd H dx (exd dx ((f, y) :: fs))))
theorem w_ost (k : te σ H fun y H1 => to σ H1 fun x H2 => xoR K f y x H2 fun H3 => D.nx σ H3) : tOst K f to te D σ H := k
/-- the maker of an exception: what is left of it is its dict -/
def xmR (C : Addr) (sp : Sp) (vs : List V) (H : Hp) (k : List (Str × V) → Addr → Hp → Prop) : Prop := vs.length ≤ 1000 ∧ ∀ a, H a = none → sp (.ref a :: vs) (upd H a (exo a C none)) (fun v H2 => v = .non ∧ ∃ (d : Addr) (fs : List (Str × V)), H2 a = some (exo a C (some d)) ∧ H2 d = some (exd d fs) ∧ H d = none ∧ k fs d (upd (del H2 a) d (.xd fs))) (fun _ _ _ => False)
theorem w_mkO {Z : XK} (k : t σ H fun vs H1 => xmR C sp vs H1 fun _ d H2 => Z (.ref C) (some d) H2) : tMkO C sp [] t σ H Z := by
  unfold tMkO
  simp only [List.append_nil]
  exact k
end
end Ck
/-- one step of a reading; `walk_at "w"` goes on as far as it can -/
local macro_rules | `(tactic| walk_at "w1") => `(tactic| first
  | with_reducible refine Ck.w_var rfl ?_ | with_reducible refine Ck.w_c ?_ | with_reducible refine Ck.w_op ?_ | with_reducible refine Ck.w_fld ?_ | with_reducible refine Ck.w_cons ?_ | with_reducible refine Ck.w_nil ?_
  | with_reducible refine Ck.w_seq ?_ | with_reducible refine Ck.w_asg ?_ | with_reducible refine Ck.w_drop ?_ | with_reducible refine Ck.w_ret ?_ | with_reducible refine Ck.w_ifS ?_ | with_reducible refine Ck.w_next ?_
  | with_reducible refine Ck.w_i0 ?_ | with_reducible refine Ck.w_tT ?_ | with_reducible refine Ck.w_tB ?_ | with_reducible refine Ck.w_bl ?_ | with_reducible refine Ck.w_eq rfl ?_ | with_reducible refine Ck.w_ne rfl ?_
  | with_reducible refine Ck.w_call ?_ | with_reducible refine Ck.w_meth ?_ | with_reducible refine Ck.w_cb ?_ | with_reducible refine Ck.w_tup ?_ | with_reducible refine Ck.w_lst ?_ | with_reducible refine Ck.w_if ?_
  | with_reducible refine Ck.w_andV ?_ | with_reducible refine Ck.w_orV ?_ | with_reducible refine Ck.w_notV ?_ | with_reducible refine Ck.w_and ?_ | with_reducible refine Ck.w_or ?_ | with_reducible refine Ck.w_not ?_
  | with_reducible refine Ck.w_bm ?_ | with_reducible refine Ck.w_sfld ?_ | with_reducible refine Ck.w_make ?_ | with_reducible refine Ck.w_sl ?_ | with_reducible refine Ck.w_part ?_ | with_reducible refine Ck.w_pI ?_ | with_reducible refine Ck.w_noP ?_
  | with_reducible refine Ck.w_sub ?_ | with_reducible refine Ck.w_name ?_ | with_reducible refine Ck.w_gtup ?_ | with_reducible refine Ck.w_gcons ?_ | with_reducible refine Ck.w_gnil ?_ | with_reducible refine Ck.w_asgG ?_
  | with_reducible refine Ck.w_iL ?_ | with_reducible refine Ck.w_iT ?_ | with_reducible refine Ck.w_iR ?_ | with_reducible refine Ck.w_iS ?_ | with_reducible refine Ck.w_lc ?_ | with_reducible refine Ck.w_for ?_ | with_reducible refine Ck.w_un ?_
  | with_reducible refine Ck.w_xf ?_ | with_reducible refine Ck.w_chain ?_ | with_reducible refine Ck.w_rev ?_ | with_reducible refine Ck.w_dget ?_ | with_reducible refine Ck.w_dput ?_ | with_reducible refine Ck.w_methE ?_ | with_reducible refine Ck.w_mkO ?_ | with_reducible refine Ck.w_ost ?_ | with_reducible refine Ck.w_fAug ?_
  | with_reducible refine Ck.w_tt ?_ | with_reducible refine Ck.w_ff ?_ | (with_reducible refine And.intro rfl ?_))
local macro_rules | `(tactic| walk_at "w") => `(tactic| repeat walk_at "w1")

local macro_rules | `(tactic| walk_at "wk") => `(tactic| first | (dsimp only [L2.Cx.blk]; done) | (dsimp only [L2.Cx.blk]; exact rfl) | exact rfl)
local macro_rules | `(tactic| walk_at "wt") => `(tactic| first | (dsimp only [L2.Cx.tr, L2.Cx.suite]; done) | (dsimp only [L2.Cx.tr, L2.Cx.suite]; exact rfl) | exact rfl)
namespace Ck
open PySem PySem.Spec PyProof.Rows L2
open He (ga ma fAd)
/-! ### xs.extend(a tuple) -/
theorem ext_tup (l b : Addr) (its its2 : Array Value) (n n2 : Nat) (dd : Option Addr) (sl : Array (Option Value)) (h0 : ¬(!its.isEmpty && Builtin.List.listTooLong (its.size + its2.size)) = true) (h1 : its.size ≤ sizeLine) (h2 : its.size + its2.size ≤ sizeLine + 1) :
    Meets (Builtin.«list.extend» ⟨[.ref l, .ref b], []⟩) (fun _ R s => s.heap.get? l = some ⟨.type "list", none, .seq its n, #[]⟩ ∧ s.heap.get? b = some ⟨.type "tuple", dd, .seq its2 n2, sl⟩ ∧ R (.ok (.ret Value.none)) { s with heap := s.heap.update l (Obj.mapSeq fun x => x ++ its2), toks := s.toks }) :=
  .of_wp fun prog w A R s h => by
    obtain ⟨hp, g, d, tk, os⟩ := s
    obtain ⟨hl, hb, h⟩ := h
    have f1 := AutoSeq1.idx_int
    have f2 := AutoSeq1.sub_tuple_tuple
    have f3 := AutoSeq1.sub_list_list
    have f4 := AutoSeq1.sub_tuple_list
    have f5 := AutoSeq1.sub_list_tuple
    have hz : (its ++ its2).size ≤ sizeLine + 1 := by rw [Array.size_append]; exact h2
    wp_walk using (wpAny_updateSeq hl rfl (hz := h1) (_hz' := hz)), AutoSeq1.wpAny_loadPart' hl, AutoSeq1.wpAny_loadPart' hb
    exact ⟨_, rfl, h⟩
section
variable {X : Cx}
theorem mt_extT : MtM X "list.extend" (rExtT X.K) := by
  intro pins s σ H x vs v us Q I rx rv h
  obtain ⟨l, b, xs, zs, rfl, rfl, hH, hB, hz, q⟩ := h
  cases rx
  obtain ⟨u, rfl, ru⟩ := rv.one
  cases ru
  obtain ⟨z, its, n, r, hl, e⟩ := I.lstM hH
  obtain ⟨its2, r2, ⟨o2, e2, c2, n2, d2⟩, z2⟩ := I.tuple hB
  have hl2 := r2.length
  obtain ⟨oc, od, ot, ol⟩ := o2
  cases c2
  cases d2
  have sz : its.toArray.size + its2.toArray.size ≤ sizeLine := by rw [List.size_toArray, List.size_toArray]; omega
  have hlong : ¬ (!its.toArray.isEmpty && Builtin.List.listTooLong (its.toArray.size + its2.toArray.size)) = true := by
    rw [notLongL sz, Bool.and_false]; exact Bool.false_ne_true
  refine call_meets F.slot_list_extend ⟨_, e, rfl⟩ F.entry_list_extend (F.args_list_extend_2 _ _) (ext_tup l b its.toArray its2.toArray n n2 od ol hlong (by rw [List.size_toArray]; omega) (by omega)) ⟨e, e2, ?_⟩
  refine ⟨.non, _, I.lset (its' := its ++ its2) hH e (by simp) (r.append r2) ?_, rfl, q⟩
  rw [List.length_append]; omega
end
end Ck
namespace Ck
open PySem PySem.Spec PyProof.Rows L2
open He (ga ma fAd)
open R7253f.Spec (Units units isName indexIn itemNames kindAt sameGroup isControl canTick canHold wordsFrom linesFrom flush)
abbrev SPage := R7253f.Spec.Page
abbrev SItem := R7253f.Spec.Item
abbrev SKind := R7253f.Spec.Kind
abbrev SLis := R7253f.Spec.Listener
abbrev SAct := R7253f.Spec.Action
/-! ### words -/
def un (w : Units) : List V := w.map fun c => V.int (c.toNat : Int)
def uz (z : Str) : Units := z.cps.toList.map UInt16.ofNat
def okz (z : Str) : Bool := decide (z.cps.size ≤ 100) && z.cps.toList.all fun c => decide (c = 45 ∨ (97 ≤ c ∧ c ≤ 122))
theorem un_len (w : Units) : (un w).length = w.length := List.length_map _
theorem un_app (v w : Units) : un (v ++ w) = un v ++ un w := List.map_append
theorem un_inj : ∀ {v w : Units}, un v = un w → v = w
  | [], [], _ => rfl
  | [], _ :: _, h => by cases h
  | _ :: _, [], h => by cases h
  | a :: v, b :: w, h => by
    have h1 : V.int (a.toNat : Int) :: un v = V.int (b.toNat : Int) :: un w := h
    obtain ⟨h2, h3⟩ := List.cons.inj h1
    have e : a = b := by
      have e1 : (a.toNat : Int) = b.toNat := V.int.inj h2
      exact UInt16.toNat_inj.mp (by omega)
    rw [e, un_inj h3]
theorem un_octs (u : List UInt8) : un (u.map Rust.unitOf) = octs u := by
  unfold un octs
  rw [List.map_map]
  refine List.map_congr_left fun b _ => ?_
  show V.int ((UInt16.ofNat b.toNat).toNat : Int) = _
  rw [UInt16.toNat_ofNat']
  have := b.toNat_lt
  congr 1
  omega
theorem octs_un {w : Units} (h : ∀ c ∈ w, c.toNat < 256) : octs (w.map Rust.octetOf) = un w := by
  unfold un octs
  rw [List.map_map]
  refine List.map_congr_left fun c hc => ?_
  show V.int ((UInt8.ofNat c.toNat).toNat : Int) = _
  rw [UInt8.toNat_ofNat']
  have := h c hc
  congr 1
  omega
theorem strV_uz {z : Str} (h : ∀ c ∈ z.cps.toList, c < 65536) : strV z = un (uz z) := by
  unfold strV un uz
  rw [List.map_map]
  refine List.map_congr_left fun c hc => ?_
  show _ = V.int ((UInt16.ofNat c).toNat : Int)
  rw [UInt16.toNat_ofNat']
  have := h c hc
  congr 1
  omega
theorem okz_le {z : Str} (h : okz z = true) : z.cps.size ≤ 100 := of_decide_eq_true (Bool.and_eq_true_iff.mp h).1
theorem okz_mem {z : Str} (h : okz z = true) {c : Nat} (hc : c ∈ z.cps.toList) : c = 45 ∨ (97 ≤ c ∧ c ≤ 122) := of_decide_eq_true (List.all_eq_true.mp (Bool.and_eq_true_iff.mp h).2 c hc)
theorem okz_uz {z : Str} (h : okz z = true) : strV z = un (uz z) := strV_uz fun c hc => by
  have := okz_mem h hc
  omega
/-- which of some strings a word is, the empty one for none -/
def known (zs : List Str) (w : Units) : Str := (zs.find? fun z => decide (uz z = w)).getD ""
/-! ### == of words -/
def pdI (xs : List Int) : PyData := .tuple (xs.map .int)
theorem pdI_lay : ∀ xs : List Int, PyData.canLayAll0 (xs.map .int) = true
  | [] => rfl
  | x :: xs => by
    show (PyData.canLay0 (.int x) && PyData.canLayAll0 (xs.map .int)) = true
    rw [pdI_lay xs]; rfl
theorem pdI_depth : ∀ xs : List Int, PyData.depthAll (xs.map .int) ≤ 1
  | [] => by simp [PyData.depthAll]
  | x :: xs => by
    have := pdI_depth xs
    simp only [List.map_cons, PyData.depthAll, PyData.depth]
    omega
theorem pdI_shaped (xs : List Int) : SeqAt.shaped (pdI xs) = true := by
  have h1 := pdI_depth xs
  have h2 : PyData.depth (pdI xs) ≤ 64 := by
    simp only [pdI, PyData.depth]
    omega
  show (PyData.canLay0 (pdI xs) && decide (PyData.depth (pdI xs) ≤ 64)) = true
  rw [Bool.and_eq_true]
  exact ⟨by simp only [pdI, PyData.canLay0]; exact pdI_lay xs, decide_eq_true h2⟩
theorem pdI_eqv : ∀ xs ys : List Int, PyData.eqvAll (xs.map .int) (ys.map .int) = decide (xs = ys)
  | [], [] => by simp [PyData.eqvAll]
  | [], _ :: _ => by simp [PyData.eqvAll]
  | _ :: _, [] => by simp [PyData.eqvAll]
  | x :: xs, y :: ys => by
    simp only [List.map_cons, PyData.eqvAll, PyData.eqv, pdI_eqv xs ys]
    rw [Bool.eq_iff_iff]
    simp
theorem dpAll_int {K : PySem.W.Frag} {H : Hp} : ∀ xs : List Int, DpAll K H (xs.map V.int) (xs.map .int)
  | [] => .nil
  | x :: xs => .cons (.int x) (dpAll_int xs)
def ui (w : Units) : List Int := w.map fun c => (c.toNat : Int)
theorem un_ui (w : Units) : un w = (ui w).map V.int := by unfold un ui; rw [List.map_map]; rfl
theorem ui_inj {v w : Units} : ui v = ui w ↔ v = w := ⟨fun h => un_inj (by rw [un_ui, un_ui, h]), fun h => by rw [h]⟩
section
variable {K : PySem.W.Frag} {H G : Hp} {Q : VK} {a b : Addr}
theorem u_eqU {v w : Units} (h1 : SqT K H a (un v)) (h2 : SqT K H b (un w)) (k : Q (.bl (decide (v = w))) H) : rEqD K (.ref a) (.ref b) H Q := by
  rw [un_ui] at h1 h2
  refine ⟨pdI (ui v), pdI (ui w), .tup h1 (dpAll_int _), .tup h2 (dpAll_int _), pdI_shaped _, pdI_shaped _, ?_⟩
  have e : PyData.eqv (pdI (ui v)) (pdI (ui w)) = decide (v = w) := by
    show PyData.eqv (.tuple _) (.tuple _) = _
    simp only [PyData.eqv]
    rw [pdI_eqv, Bool.eq_iff_iff]
    simp [ui_inj]
  rw [e]; exact k
end
/-! ### pages as they lie in the heap -/
def kwS : SKind → Str
  | .plain => "plain"
  | .link => "link"
  | .button => "button"
  | .check => "check"
  | .radio _ => "radio"
  | .label _ => "label"
def moreU (ns : List Units) : SKind → Units
  | .radio g => g
  | .label (some c) => ns.getD c []
  | _ => []
def parI : Option Nat → Int
  | none => -1
  | some q => (q : Int)
def idxI : Option Nat → Int
  | none => -1
  | some q => (q : Int)
def actS : SAct → Str
  | .prevent => "prevent"
  | .stop => "stop"
  | .halt => "halt"
  | .click _ => "click"
  | .tick _ => "tick"
  | .untick _ => "untick"
  | .disable _ => "disable"
  | .enable _ => "enable"
def actT : SAct → Option Nat
  | .prevent => none
  | .stop => none
  | .halt => none
  | .click i => some i
  | .tick i => some i
  | .untick i => some i
  | .disable i => some i
  | .enable i => some i
def wayS (c : Bool) : Str := if c then "down" else "up"
def onsV (p : SPage) : List V := p.items.map fun x => V.bl x.on
def offsV (p : SPage) : List V := p.items.map fun x => V.bl x.off
section
variable (K : PySem.W.Frag) (H : Hp)
def WdA (v : V) (w : Units) : Prop := ∃ p, v = .ref p ∧ SqT K H p (un w)
def LnA (v : V) (w : Units) : Prop := ∃ p, v = .ref p ∧ H p = some (.lst (un w))
def ItA (ns : List Units) (v : V) (x : SItem) : Prop := ∃ t n m, v = .ref t ∧ SqT K H t [.ref n, .int (parI x.parent), .str (kwS x.kind), .ref m] ∧ SqT K H n (un x.name) ∧ SqT K H m (un (moreU ns x.kind))
def LiA (v : V) (l : SLis) : Prop := ∃ t, v = .ref t ∧ SqT K H t [.int (l.item : Nat), .str (wayS l.capture), .str (actS l.action), .int (idxI (actT l.action)), .bl l.once]
def PgI (a dx tl ol dl ll : Addr) : Prop := H a = some (.ins (ga K "Page") dx (FPage (.ref tl) (.ref ol) (.ref dl) (.ref ll)))
/-- a page as it can be read -/
structure PgL (tl ol dl ll : Addr) (p : SPage) (ts ls : List V) : Prop where
  t : SqL K H tl ts
  o : SqL K H ol (onsV p)
  d : SqL K H dl (offsV p)
  l : SqL K H ll ls
  it : Paired (ItA K H (itemNames p)) ts p.items
  li : Paired (LiA K H) ls p.listeners
def PgH (a : Addr) (p : SPage) : Prop := ∃ dx tl ol dl ll ts ls, PgI K H a dx tl ol dl ll ∧ PgL K H tl ol dl ll p ts ls
end
/-- a page while it is read: its lists may change -/
structure PgM (K : PySem.W.Frag) (G H : Hp) (tl ol dl ll : Addr) (p : SPage) (ts ls : List V) : Prop where
  t : Mu G H tl (.lst ts)
  o : Mu G H ol (.lst (onsV p))
  d : Mu G H dl (.lst (offsV p))
  l : Mu G H ll (.lst ls)
  it : Paired (ItA K G (itemNames p)) ts p.items
  li : Paired (LiA K G) ls p.listeners
  to : tl ≠ ol
  td : tl ≠ dl
  tl : tl ≠ ll
  od : ol ≠ dl
  ol : ol ≠ ll
  dl : dl ≠ ll
/-- what reading keeps -/
def okAct (p : SPage) : SAct → Prop
  | .prevent => True
  | .stop => True
  | .halt => True
  | .click i => i < p.items.length
  | .tick i => i < p.items.length ∧ canTick (kindAt p i) = true
  | .untick i => i < p.items.length ∧ canTick (kindAt p i) = true
  | .disable i => i < p.items.length ∧ isControl (kindAt p i) = true
  | .enable i => i < p.items.length ∧ isControl (kindAt p i) = true
structure PgW (p : SPage) : Prop where
  len : p.items.length ≤ 8
  lis : p.listeners.length ≤ 8
  nm : ∀ x ∈ p.items, isName x.name = true
  nd : (itemNames p).Nodup
  par : ∀ (i q : Nat) (x : SItem), p.items[i]? = some x → x.parent = some q → q < i
  rad : ∀ x ∈ p.items, ∀ g, x.kind = .radio g → isName g = true
  lab : ∀ (i c : Nat) (x : SItem), p.items[i]? = some x → x.kind = .label (some c) → c < i
  li : ∀ l ∈ p.listeners, l.item < p.items.length ∧ okAct p l.action
  ck : R7253f.Spec.clickers p ≤ 3
section
variable {K : PySem.W.Frag} {G G' H H' : Hp} {ns : List Units} {v : V}
theorem WdA.mono (s : Same G G') {w : Units} : WdA K G v w → WdA K G' v w := fun ⟨p, e, h⟩ => ⟨p, e, Same.sqT s h⟩
theorem LnA.mono (s : Same G G') {w : Units} : LnA G v w → LnA G' v w := fun ⟨p, e, h⟩ => ⟨p, e, s _ _ h⟩
theorem ItA.mono (s : Same G G') {x : SItem} : ItA K G ns v x → ItA K G' ns v x := fun ⟨t, n, m, e, h1, h2, h3⟩ => ⟨t, n, m, e, Same.sqT s h1, Same.sqT s h2, Same.sqT s h3⟩
theorem LiA.mono (s : Same G G') {x : SLis} : LiA K G v x → LiA K G' v x := fun ⟨t, e, h⟩ => ⟨t, e, Same.sqT s h⟩
theorem PgL.mono (s : Same G G') {tl ol dl ll : Addr} {p : SPage} {ts ls : List V} (h : PgL K G tl ol dl ll p ts ls) : PgL K G' tl ol dl ll p ts ls :=
  ⟨s.seq h.t, s.seq h.o, s.seq h.d, s.seq h.l, Paired.mapP h.it fun _ _ => ItA.mono s, Paired.mapP h.li fun _ _ => LiA.mono s⟩
theorem PgH.mono (s : Same G G') {a : Addr} {p : SPage} (h : PgH K G a p) : PgH K G' a p := by
  obtain ⟨dx, tl, ol, dl, ll, ts, ls, h1, h2⟩ := h
  exact ⟨dx, tl, ol, dl, ll, ts, ls, s _ _ h1, h2.mono s⟩
theorem PgM.pgL (s : Same G H) {tl ol dl ll : Addr} {p : SPage} {ts ls : List V} (h : PgM K G H tl ol dl ll p ts ls) : PgL K H tl ol dl ll p ts ls :=
  ⟨h.t.sqL, h.o.sqL, h.d.sqL, h.l.sqL, Paired.mapP h.it fun _ _ => ItA.mono s, Paired.mapP h.li fun _ _ => LiA.mono s⟩
theorem PgM.step {F : List Addr} {tl ol dl ll : Addr} {p : SPage} {ts ls : List V} (st : Stp F G H G' H') (h : PgM K G H tl ol dl ll p ts ls) (h1 : tl ∉ F) (h2 : ol ∉ F) (h3 : dl ∉ F) (h4 : ll ∉ F) : PgM K G' H' tl ol dl ll p ts ls :=
  ⟨st.mu h.t h1, st.mu h.o h2, st.mu h.d h3, st.mu h.l h4, Paired.mapP h.it fun _ _ => ItA.mono st.g, Paired.mapP h.li fun _ _ => LiA.mono st.g, h.to, h.td, h.tl, h.od, h.ol, h.dl⟩
theorem PgM.nil {tl ol dl ll : Addr} {p : SPage} {ts ls : List V} (h : PgM K G H tl ol dl ll p ts ls) (st : Stp [] G H G' H') : PgM K G' H' tl ol dl ll p ts ls :=
  h.step st List.not_mem_nil List.not_mem_nil List.not_mem_nil List.not_mem_nil
end
theorem pr_get {α β : Type} {R : α → β → Prop} : ∀ {l : List α} {ys : List β}, Paired R l ys → ∀ {i : Nat} {y : β}, ys[i]? = some y → ∃ a, l[i]? = some a ∧ R a y
  | _, _, .nil, i, y, h => by cases i <;> cases h
  | _, _, .cons (a := a) r t, 0, y, h => by cases h; exact ⟨a, rfl, r⟩
  | _, _, .cons r t, i + 1, y, h => by
    obtain ⟨a, e, q⟩ := pr_get t (i := i) (y := y) (by simpa using h)
    exact ⟨a, by simpa using e, q⟩
theorem pr_getL {α β : Type} {R : α → β → Prop} : ∀ {l : List α} {ys : List β}, Paired R l ys → ∀ {i : Nat} {a : α}, l[i]? = some a → ∃ y, ys[i]? = some y ∧ R a y
  | _, _, .nil, i, y, h => by cases i <;> cases h
  | _, _, .cons (b := b) r t, 0, y, h => by cases h; exact ⟨b, rfl, r⟩
  | _, _, .cons r t, i + 1, y, h => by
    obtain ⟨a, e, q⟩ := pr_getL t (i := i) (a := y) (by simpa using h)
    exact ⟨a, by simpa using e, q⟩
/-! ### promises -/
def groupL (p : SPage) (i : Nat) : List Nat := if R7253f.Spec.isCheck (kindAt p i) then [i] else (List.range p.items.length).filter fun j => sameGroup p i j
section
variable (K : PySem.W.Frag)
def spCodes : Sp := fun vs H Q _ => vs.length = 1 ∧ ∃ (G : Hp) (z : Str), vs = [.str z] ∧ Same G H ∧ okz z = true ∧ ∀ p, Nxt [] G H fun G' H' => G' p = some (.tup (un (uz z))) → Q (.ref p) H'
def spKnown : Sp := fun vs H Q _ => vs.length = 2 ∧ ∃ (G : Hp) (a b : Addr) (w : Units) (zs : List Str), vs = [.ref a, .ref b] ∧ Same G H ∧ SqT K G a (un w) ∧ SqT K G b (zs.map V.str) ∧ zs.all okz = true ∧ zs.length ≤ 100 ∧ Nxt [] G H fun _ H' => Q (.str (known zs w)) H'
def spIsName : Sp := fun vs H Q _ => vs.length = 1 ∧ ∃ (G : Hp) (a : Addr) (w : Units), vs = [.ref a] ∧ Same G H ∧ SqT K G a (un w) ∧ w.length ≤ 100000 ∧ Nxt [] G H fun _ H' => Q (.bl (isName w)) H'
def spWords : Sp := fun vs H Q _ => vs.length = 1 ∧ ∃ (G : Hp) (a : Addr) (w : Units), vs = [.ref a] ∧ Same G H ∧ G a = some (.lst (un w)) ∧ w.length ≤ 100000 ∧ ∀ p ws, Nxt [] G H fun G' H' => G' p = some (.lst ws) → Paired (WdA K G') ws (wordsFrom [] w) → Q (.ref p) H'
def spLines : Sp := fun vs H Q _ => vs.length = 1 ∧ ∃ (G : Hp) (a : Addr) (w : Units), vs = [.ref a] ∧ Same G H ∧ SqT K G a (un w) ∧ w.length ≤ 100000 ∧ ∀ p ws, Nxt [] G H fun G' H' => G' p = some (.lst ws) → Paired (LnA G') ws (linesFrom [] w) → Q (.ref p) H'
def spPgInit : Sp := fun vs H Q _ => vs.length = 1 ∧ ∃ (G : Hp) (a dx : Addr), vs = [.ref a] ∧ Same G H ∧ Mu G H a (.ins (ga K "Page") dx []) ∧ ∀ tl ol dl ll, Nxt [a] G H fun G' H' => Mu G' H' a (.ins (ga K "Page") dx (FPage (.ref tl) (.ref ol) (.ref dl) (.ref ll))) →
  H tl = none → H ol = none → H dl = none → H ll = none → PgM K G' H' tl ol dl ll R7253f.Spec.emptyPage [] [] → Q .non H'
def spNumb : Sp := fun vs H Q _ => vs.length = 2 ∧ ∃ (a b : Addr) (p : SPage) (w : Units), vs = [.ref a, .ref b] ∧ PgH K H a p ∧ SqT K H b (un w) ∧ p.items.length ≤ 100 ∧ Q (.int (idxI (indexIn (itemNames p) w))) H
def spKind : Sp := fun vs H Q _ => vs.length = 2 ∧ ∃ (a : Addr) (p : SPage) (i : Nat) (x : SItem), vs = [.ref a, .int (i : Nat)] ∧ PgH K H a p ∧ p.items[i]? = some x ∧ Q (.str (kwS x.kind)) H
def spGroup : Sp := fun vs H Q _ => vs.length = 2 ∧ ∃ (G : Hp) (a : Addr) (p : SPage) (i : Nat), vs = [.ref a, .int (i : Nat)] ∧ Same G H ∧ PgH K H a p ∧ i < p.items.length ∧ canTick (kindAt p i) = true ∧ p.items.length ≤ 100 ∧ ∀ q, Nxt [] G H fun G' H' => G' q = some (.lst ((groupL p i).map fun (j : Nat) => V.int (j : Nat))) → Q (.ref q) H'
def spGrpOn : Sp := fun vs H Q _ => vs.length = 2 ∧ ∃ (G : Hp) (a : Addr) (p : SPage) (i : Nat), vs = [.ref a, .int (i : Nat)] ∧ Same G H ∧ PgH K H a p ∧ i < p.items.length ∧ canTick (kindAt p i) = true ∧ p.items.length ≤ 100 ∧ Nxt [] G H fun _ H' => Q (.bl ((groupL p i).any (R7253f.Spec.itemOn p))) H'
end
section
variable {K : PySem.W.Frag} {G H : Hp} {Q : VK} {E : XK} {a b : Addr} {p : SPage} {w : Units}
theorem u_codes [q : Cur G H] {z : Str} (hz : okz z = true) (k : ∀ p, Nxt [] G H fun G' H' => G' p = some (.tup (un (uz z))) → Q (.ref p) H') : spCodes [.str z] H Q E := ⟨rfl, G, z, rfl, q.s, hz, k⟩
theorem u_known [q : Cur G H] {zs : List Str} (h1 : SqT K G a (un w)) (h2 : SqT K G b (zs.map V.str)) (hz : zs.all okz = true) (hl : zs.length ≤ 100) (k : Nxt [] G H fun _ H' => Q (.str (known zs w)) H') : spKnown K [.ref a, .ref b] H Q E := ⟨rfl, G, a, b, w, zs, rfl, q.s, h1, h2, hz, hl, k⟩
theorem u_isName [q : Cur G H] (h1 : SqT K G a (un w)) (hl : w.length ≤ 100000) (k : Nxt [] G H fun _ H' => Q (.bl (isName w)) H') : spIsName K [.ref a] H Q E := ⟨rfl, G, a, w, rfl, q.s, h1, hl, k⟩
theorem u_words [q : Cur G H] (h : G a = some (.lst (un w))) (hl : w.length ≤ 100000) (k : ∀ p ws, Nxt [] G H fun G' H' => G' p = some (.lst ws) → Paired (WdA K G') ws (wordsFrom [] w) → Q (.ref p) H') : spWords K [.ref a] H Q E := ⟨rfl, G, a, w, rfl, q.s, h, hl, k⟩
theorem u_lines [q : Cur G H] (h : SqT K G a (un w)) (hl : w.length ≤ 100000) (k : ∀ p ws, Nxt [] G H fun G' H' => G' p = some (.lst ws) → Paired (LnA G') ws (linesFrom [] w) → Q (.ref p) H') : spLines K [.ref a] H Q E := ⟨rfl, G, a, w, rfl, q.s, h, hl, k⟩
theorem u_numb (h : PgH K H a p) (h2 : SqT K H b (un w)) (hl : p.items.length ≤ 100) (k : Q (.int (idxI (indexIn (itemNames p) w))) H) : spNumb K [.ref a, .ref b] H Q E := ⟨rfl, a, b, p, w, rfl, h, h2, hl, k⟩
theorem u_kind {i : Nat} {x : SItem} (h : PgH K H a p) (hx : p.items[i]? = some x) (k : Q (.str (kwS x.kind)) H) : spKind K [.ref a, .int (i : Nat)] H Q E := ⟨rfl, a, p, i, x, rfl, h, hx, k⟩
theorem u_group [q : Cur G H] {i : Nat} (h : PgH K H a p) (hi : i < p.items.length) (ht : canTick (kindAt p i) = true) (hl : p.items.length ≤ 100) (k : ∀ q, Nxt [] G H fun G' H' => G' q = some (.lst ((groupL p i).map fun (j : Nat) => V.int (j : Nat))) → Q (.ref q) H') : spGroup K [.ref a, .int (i : Nat)] H Q E :=
  ⟨rfl, G, a, p, i, rfl, q.s, h, hi, ht, hl, k⟩
theorem u_grpOn [q : Cur G H] {i : Nat} (h : PgH K H a p) (hi : i < p.items.length) (ht : canTick (kindAt p i) = true) (hl : p.items.length ≤ 100) (k : Nxt [] G H fun _ H' => Q (.bl ((groupL p i).any (R7253f.Spec.itemOn p))) H') : spGrpOn K [.ref a, .int (i : Nat)] H Q E :=
  ⟨rfl, G, a, p, i, rfl, q.s, h, hi, ht, hl, k⟩
end
/-! ### the alphabet -/
def abc : Str := "abcdefghijklmnopqrstuvwxyz"
theorem abc_at : ∀ i < 26, Builtin.Str.occurrences abc ⟨#[97 + i]⟩ 0 abc.length 1 = [i] := by decide +kernel
theorem kind_at {p : SPage} {i : Nat} {x : SItem} (h : p.items[i]? = some x) : kindAt p i = x.kind := by
  unfold kindAt
  rw [h]; rfl
theorem item_at {p : SPage} {i : Nat} (h : i < p.items.length) : ∃ x, p.items[i]? = some x := ⟨_, List.getElem?_eq_getElem h⟩
end Ck
namespace Ck
open PySem PySem.Spec PyProof.Rows L2
open He (ga ma fAd)
section
variable {P : Program} {w : World} {K : PySem.W.Frag} {mg : Str → Option Value} {base : Heap}
theorem str1_eq {c d : Nat} (h : V.str ⟨#[c]⟩ = V.str ⟨#[d]⟩) : c = d := by
  have e := Str.mk.inj (V.str.inj h)
  simpa using e
theorem known_hit {zs : List Str} {w : R7253f.Spec.Units} {i : Nat} {z : Str} (h : ∀ y ∈ zs.take i, uz y ≠ w) (hz : zs[i]? = some z) (e : uz z = w) : known zs w = z := by
  unfold known
  have hi : i < zs.length := (List.getElem?_eq_some_iff.mp hz).1
  have e1 : zs = zs.take i ++ z :: zs.drop (i + 1) := by
    have e2 : zs[i] = z := by rw [List.getElem?_eq_getElem hi] at hz; exact Option.some.inj hz
    rw [← e2, List.getElem_cons_drop, List.take_append_drop]
  rw [e1, List.find?_append]
  have e3 : (zs.take i).find? (fun z => decide (uz z = w)) = none := by
    rw [List.find?_eq_none]
    intro y hy
    simpa using h y hy
  rw [e3]
  simp [e]
theorem known_miss {zs : List Str} {w : R7253f.Spec.Units} (h : ∀ y ∈ zs, uz y ≠ w) : known zs w = "" := by
  unfold known
  have e3 : zs.find? (fun z => decide (uz z = w)) = none := by
    rw [List.find?_eq_none]
    intro y hy
    simpa using h y hy
  rw [e3]; rfl
theorem take_all {α : Type} {l : List α} {i : Nat} {x : α} (h : l[i]? = some x) {y : α} (hy : y ∈ l.take (i + 1)) : y ∈ l.take i ∨ y = x := by
  rw [List.take_succ, h] at hy
  rcases List.mem_append.mp hy with a | a
  · exact .inl a
  · exact .inr (by simpa using a)
theorem has_codes (T : Txt K mg) : Has P w K mg base CX0 1 ("codes", none) ["word"] (spCodes) := by
  refine mk_has (d := d_codes) T 2 rfl rfl rfl sc_codes (fun _ _ _ _ _ _ us hl => match us, hl with | [_], _ => rfl) (fun vs H Q E h => h.1) (fun cdv A outer s H vs Q E hr h => ?_)
  refine ⟨_, PSs.nox (pss_one (ps_ret (pe_callTy c_tuple (by rfl) (fr_tuple T) (by decide +kernel) (pa_cons (pe_lc (own := [("sign", 1)]) (g := gName 1) (tt := tYes) rfl sc_codes.nd (pi_str (pv 0)) (blkOk_by (N := N_codes) (sc := defScope s_codes) (by decide +kernel)) (fun _ _ _ _ _ => (pg_name (i := 1) sc_codes.nd rfl (Or.inl rfl))) (fun _ _ _ _ _ => pts_nil) (fun _ _ _ _ _ => (re_e (pe_ifExp (pt_cmpR op_eq (pv 1) pe_str (nomark _)) pe_int (pe_op op_add (pgi (gi_SMALL_FIRST T) rfl) (pe_bm PySem.F.plainAttrs_str PySem.F.slot_str_index PySem.F.type_str_index m_sindex pe_str (pa_cons (pv 1) pa_nil)))) (by walk_at "wk")))) pa_nil)))), ?_⟩
  obtain ⟨_, G, z, rfl, gs, hz, k⟩ := h
  have : Cur G H := ⟨gs⟩
  walk_at "w"
  refine u_iS ?_
  refine u_lcA (walk_str (z := z)) (Yv := fun i v => ∃ c, z.cps[i]? = some c ∧ v = .str ⟨#[c]⟩) (fun i H x H' h => h) (fun _ _ => trivial) (by have := okz_le hz; omega) (fun i y _ => ∃ c, z.cps[i]? = some c ∧ y = .int (c : Nat)) (fun _ _ _ _ _ h => h) ?_ ?_ (fun _ _ _ _ h q => mg_name h q)
  · rintro i x G1 H1 Qy hi st _ _ ⟨c, hc, rfl⟩ ky
    walk_at "w"
    have hmem : c ∈ z.cps.toList := by
      rw [← Array.getElem?_toList] at hc
      exact List.mem_of_getElem? hc
    have hc2 := okz_mem hz hmem
    refine w_ite (fun hb => ?_) (fun hb => ?_)
    · walk_at "w"
      have e : c = 45 := str1_eq (of_decide_eq_true hb)
      subst e
      exact ky _ _ _ (Stp.refl st.s) ⟨45, hc, rfl⟩
    · walk_at "w"
      refine u_bmS ?_
      walk_at "w"
      have hb := of_decide_eq_false hb
      have hne : c ≠ 45 := fun e => hb (by rw [e]; rfl)
      have h3 : 97 ≤ c ∧ c ≤ 122 := hc2.resolve_left hne
      have ha := abc_at (c - 97) (by omega)
      rw [show 97 + (c - 97) = c by omega] at ha
      refine ⟨_, _, c - 97, [], rfl, rfl, ha, ?_⟩
      walk_at "w"
      exact ky _ _ _ (Stp.refl st.s) ⟨c, hc, by rw [show (97 : Int) + ((c - 97 : Nat) : Int) = (c : Nat) by omega]⟩
  · intro p ys G1 H1 st _ _ hp mu hlen pr
    have e : ys = strV z := by
      unfold strV
      apply List.ext_getElem?
      intro i
      rw [List.getElem?_map]
      cases hy : ys[i]? with
      | some y =>
        obtain ⟨c, hc, e⟩ := pr i y hy
        rw [e, Array.getElem?_toList, hc]; rfl
      | none =>
        have hi := List.getElem?_eq_none_iff.mp hy
        rw [List.getElem?_eq_none (by rw [Array.length_toList]; omega)]; rfl
    subst e
    walk_at "w"
    refine u_tupL mu.sqL (by have := okz_le hz; show _ ≤ sizeLine; unfold strV; simp [sizeLine_eq]; omega) fun p' G2 H2 st2 _ _ hp' => ?_
    rw [okz_uz hz] at hp'
    exact (k _).go (st.trans st2) hp'
theorem has_known_word (T : Txt K mg) : Has P w K mg base CX0 2 ("known_word", none) ["word", "words"] (spKnown K) := by
  refine mk_has (d := d_known_word) T 3 rfl rfl rfl sc_known_word (fun _ _ _ _ _ _ us hl => match us, hl with | [_, _], _ => rfl) (fun vs H Q E h => h.1) (fun cdv A outer s H vs Q E hr h => ?_)
  refine ⟨_, PSs.nox (pss_cons (ps_for PassesOwn.never rfl (pi_tup (pv 1)) (pg_name (i := 2) sc_known_word.nd rfl (Or.inl rfl)) (pss_one (ps_if (pt_cmpR (op_eqD hr.units) (pcall (has_codes T) (hr.mono (by omega)) rfl (gl_codes T) pass0 (pa_cons (pv 2) pa_nil)) (pv 0) (nomark _)) (pss_one (ps_ret (pv 2))) pss_nil)))
 (pss_one (ps_ret pe_str))), ?_⟩
  obtain ⟨_, G, a, b, w, zs, rfl, gs, h1, h2, hz, hl, k⟩ := h
  have : Cur G H := ⟨gs⟩
  walk_at "w"
  refine u_iT (onT h2) ?_
  refine u_for (walk_tup (xs := zs.map V.str)) (fun i σ H' => ∃ G' v, σ = [some (.ref a), some (.ref b), v] ∧ Stp [] G H G' H' ∧ ∀ y ∈ zs.take i, uz y ≠ w) ?_ (fun i σ H' _ ⟨G', v, _, st, _⟩ => Same.sqT st.same (onT h2)) ?_ ?_
  · exact ⟨G, none, rfl, Stp.refl gs, fun y hy => by simp at hy⟩
  · rintro i x σ H1 H1' hi ⟨G1, v, rfl, st, hno⟩ ⟨rfl, hx⟩
    have : Cur G1 H1' := ⟨st.s⟩
    have : Dn G G1 := ⟨st.g⟩
    rw [List.getElem?_map] at hx
    obtain ⟨z, hzi, rfl⟩ : ∃ z, zs[i]? = some z ∧ x = .str z := by
      cases e : zs[i]? with
      | none => rw [e] at hx; cases hx
      | some z => rw [e] at hx; exact ⟨z, rfl, (Option.some.inj hx).symm⟩
    have ok := List.all_eq_true.mp hz z (List.mem_of_getElem? hzi)
    walk_at "w"
    refine u_codes ok fun p G2 H2 st2 _ _ hp => ?_
    walk_at "w"
    refine u_eqU (H := H2) (SqT.of (on hp)) (onT h1) ?_
    walk_at "w"
    refine w_ite (fun hb => ?_) (fun hb => ?_)
    · walk_at "w"
      have e := of_decide_eq_true hb
      rw [← known_hit hno hzi e]
      exact k.go (st.trans st2)
    · walk_at "w"
      have e := of_decide_eq_false hb
      refine ⟨G2, some (.str z), rfl, st.trans st2, fun y hy => ?_⟩
      rcases take_all hzi hy with hy | rfl
      · exact hno y hy
      · exact e
  · rintro σ H1 ⟨G1, v, rfl, st, hno⟩
    walk_at "w"
    rw [List.length_map, List.take_length] at hno
    rw [← known_miss hno]
    exact k.go st
theorem u16_in {c : UInt16} : (decide ((97 : Int) ≤ (c.toNat : Int)) && decide ((c.toNat : Int) ≤ 122)) = (decide ((97 : UInt16) ≤ c) && decide (c ≤ (122 : UInt16))) := by
  have h1 : ((97 : UInt16) ≤ c) ↔ 97 ≤ c.toNat := UInt16.le_iff_toNat_le
  have h2 : (c ≤ (122 : UInt16)) ↔ c.toNat ≤ 122 := UInt16.le_iff_toNat_le
  rw [Bool.eq_iff_iff]
  simp only [Bool.and_eq_true, decide_eq_true_eq, h1, h2]
  omega
theorem un_at {w : R7253f.Spec.Units} {i : Nat} {v : V} (h : (un w)[i]? = some v) : ∃ c, w[i]? = some c ∧ v = .int (c.toNat : Int) := by
  unfold un at h
  rw [List.getElem?_map] at h
  cases e : w[i]? with
  | none => rw [e] at h; cases h
  | some c => rw [e] at h; exact ⟨c, rfl, (Option.some.inj h).symm⟩
theorem has_is_name (T : Txt K mg) : Has P w K mg base CX0 1 ("is_name", none) ["word"] (spIsName K) := by
  refine mk_has (d := d_is_name) T 4 rfl rfl rfl sc_is_name (fun _ _ _ _ _ _ us hl => match us, hl with | [_], _ => rfl) (fun vs H Q E h => h.1) (fun cdv A outer s H vs Q E hr h => ?_)
  refine ⟨_, PSs.nox (pss_one (ps_ret (pe_and (pe_chain op_le op_le pe_int (pe_callB c_len (by rfl) (fr_len T) PySem.boot_len (pa_cons (pv 0) pa_nil)) (pgi (gi_MOST_NAME T) rfl)) (pe_one (pe_callB (cr_all rfl) (by rfl) (fr_all T) (by decide +kernel) (pa_cons (pe_lc (own := [("code", 1)]) (g := gName 1) (tt := tYes) rfl sc_is_name.nd (pi_tup (pv 0)) (blkOk_by (N := N_is_name) (sc := defScope s_is_name) (by decide +kernel)) (fun _ _ _ _ _ => (pg_name (i := 1) sc_is_name.nd rfl (Or.inl rfl))) (fun _ _ _ _ _ => pts_nil) (fun _ _ _ _ _ => (re_e (pe_chain op_le op_le (pgi (gi_SMALL_FIRST T) rfl) (pv 1) (pgi (gi_SMALL_LAST T) rfl)) (by walk_at "wk")))) pa_nil)))))), ?_⟩
  obtain ⟨_, G, a, w, rfl, gs, h1, hl, k⟩ := h
  have : Cur G H := ⟨gs⟩
  walk_at "w"
  refine u_lenT (onT h1) ?_
  rw [un_len]
  walk_at "w"
  have hN : R7253f.Spec.isName w = (decide (1 ≤ w.length) && decide (w.length ≤ 8) && w.all fun c => decide (97 ≤ c) && decide (c ≤ 122)) := rfl
  refine w_ite (fun hb => ?_) (fun hb => ?_)
  · have hb1 : 1 ≤ w.length := by have := of_decide_eq_true hb; omega
    walk_at "w"
    refine w_ite (fun hb2 => ?_) (fun hb2 => ?_)
    · have hb3 : w.length ≤ 8 := by have := of_decide_eq_true hb2; omega
      walk_at "w"
      refine u_iT (onT h1) ?_
      refine u_lcA (walk_tup (xs := un w)) (Yv := fun i v => (un w)[i]? = some v) (fun i H x H' h => h) (fun H' s => Same.sqT s (onT h1)) (by rw [un_len]; omega) (fun i y _ => ∃ c, w[i]? = some c ∧ y = .bl (decide (97 ≤ c) && decide (c ≤ 122))) (fun _ _ _ _ _ h => h) ?_ ?_ (fun _ _ _ _ h q => mg_name h q)
      · rintro i x G1 H1 Qy hi st _ _ hx ky
        obtain ⟨c, hc, rfl⟩ := un_at hx
        walk_at "w"
        refine w_ite (fun hc1 => ?_) (fun hc1 => ?_)
        · walk_at "w"
          refine ky _ _ _ (Stp.refl st.s) ⟨c, hc, ?_⟩
          rw [← u16_in, hc1]; rfl
        · walk_at "w"
          refine ky _ _ _ (Stp.refl st.s) ⟨c, hc, ?_⟩
          rw [← u16_in, hc1]; rfl
      · intro p ys G1 H1 st _ _ hp mu hlen pr
        have e : ys = (w.map fun c => decide (97 ≤ c) && decide (c ≤ 122)).map V.bl := by
          apply List.ext_getElem?
          intro i
          rw [List.getElem?_map, List.getElem?_map]
          cases hy : ys[i]? with
          | some y =>
            obtain ⟨c, hc, e⟩ := pr i y hy
            rw [e, hc]; rfl
          | none =>
            have hi := List.getElem?_eq_none_iff.mp hy
            rw [List.getElem?_eq_none (by rw [un_len] at hlen; omega)]; rfl
        subst e
        walk_at "w"
        refine u_all mu.sqL ?_
        have e2 : R7253f.Spec.isName w = (w.map fun c => decide (97 ≤ c) && decide (c ≤ 122)).all id := by
          rw [hN, List.all_map]
          simp [hb1, hb3]
        rw [← e2]
        exact k.go st
    · have hb3 : ¬ w.length ≤ 8 := by have := of_decide_eq_false hb2; omega
      walk_at "w"
      have e : R7253f.Spec.isName w = false := by rw [hN]; simp [hb3]
      rw [← e]
      exact k.go (Stp.refl gs)
  · have hb3 : ¬ 1 ≤ w.length := by have := of_decide_eq_false hb; omega
    walk_at "w"
    have e : R7253f.Spec.isName w = false := by rw [hN]; simp [hb3]
    rw [← e]
    exact k.go (Stp.refl gs)
theorem Mu.kept {G H : Hp} {l c : Addr} {o u : HO} (m : Mu G H l o) (h : l ≠ c) : Mu (upd G c u) H l o := ⟨m.h, by rw [upd_ne h]; exact m.g⟩
theorem Same.keep {G H : Hp} {l : Addr} {o : HO} (h1 : H l = some o) (s : Same G H) : Same G (upd G l o) := Dn.keep h1 s
open R7253f.Spec (Units wordsFrom linesFrom flush indexIn itemNames kindAt sameGroup)
theorem words_end : ∀ (w cur : Units), wordsFrom cur (w ++ [32]) = wordsFrom cur w
  | [], cur => by
    show (if (32 : UInt16) = 32 then flush cur (wordsFrom [] []) else _) = flush cur []
    rw [if_pos rfl]; rfl
  | c :: w, cur => by
    show (if c = 32 then flush cur (wordsFrom [] (w ++ [32])) else wordsFrom (cur ++ [c]) (w ++ [32])) = (if c = 32 then flush cur (wordsFrom [] w) else wordsFrom (cur ++ [c]) w)
    rw [words_end w [], words_end w (cur ++ [c])]
theorem idx_hit : ∀ {l : List Units} {w : Units} {i : Nat}, (∀ j x, j < i → l[j]? = some x → x ≠ w) → l[i]? = some w → indexIn l w = some i
  | [], _, _, _, h => by simp at h
  | x :: l, w, 0, _, h => by
    have e : x = w := by simpa using h
    unfold indexIn
    rw [List.findIdx?_cons, if_pos (by simp [e])]
  | x :: l, w, i + 1, hno, h => by
    have e : x ≠ w := hno 0 x (Nat.succ_pos _) rfl
    have ih := idx_hit (l := l) (w := w) (i := i) (fun j y hj hy => hno (j + 1) y (by omega) (by simpa using hy)) (by simpa using h)
    unfold indexIn at ih ⊢
    rw [List.findIdx?_cons, if_neg (by simpa using e), ih]; rfl
theorem idx_miss {l : List Units} {w : Units} (h : ∀ x ∈ l, x ≠ w) : indexIn l w = none := by
  unfold indexIn
  rw [List.findIdx?_eq_none_iff]
  intro x hx
  simpa using h x hx
theorem has_words_of (T : Txt K mg) : Has P w K mg base CX0 1 ("words_of", none) ["line"] (spWords K) := by
  refine mk_has (d := d_words_of) T 5 rfl rfl rfl sc_words_of (fun _ _ _ _ _ _ us hl => match us, hl with | [_], _ => rfl) (fun vs H Q E h => h.1) (fun cdv A outer s H vs Q E hr h => ?_)
  refine ⟨_, PSs.nox (pss_cons (ps_set (i := 1) sc_words_of.nd rfl (Or.inl rfl) (pe_lst pa_nil))
 (pss_cons (ps_set (i := 2) sc_words_of.nd rfl (Or.inl rfl) (pe_lst pa_nil))
 (pss_cons (ps_for PassesOwn.never rfl (pi_list (pe_op op_cat (pe_callTy c_list (by rfl) (fr_list T) (by decide +kernel) (pa_cons (pv 0) pa_nil)) (pe_lst (pa_cons (pgi (gi_SPACE T) rfl) pa_nil)))) (pg_name (i := 3) sc_words_of.nd rfl (Or.inl rfl)) (pss_one (ps_if (pt_cmpR op_ne (pv 3) (pgi (gi_SPACE T) rfl) (nomark _)) (pss_one (ps_expr (pe_bm PySem.F.plainAttrs_list PySem.F.slot_list_append PySem.F.type_list_append mt_append (pv 2) (pa_cons (pv 3) pa_nil)))) (pss_one (ps_if (pt_cmpR op_gt (pe_callB c_len (by rfl) (fr_len T) PySem.boot_len (pa_cons (pv 2) pa_nil)) pe_int (nomark _)) (pss_cons (ps_expr (pe_bm PySem.F.plainAttrs_list PySem.F.slot_list_append PySem.F.type_list_append mt_append (pv 1) (pa_cons (pe_callTy c_tuple (by rfl) (fr_tuple T) (by decide +kernel) (pa_cons (pv 2) pa_nil)) pa_nil)))
 (pss_one (ps_set (i := 2) sc_words_of.nd rfl (Or.inl rfl) (pe_lst pa_nil)))) pss_nil)))))
 (pss_one (ps_ret (pv 1)))))), ?_⟩
  obtain ⟨_, G, a, w, rfl, gs, h1, hl, k⟩ := h
  have : Cur G H := ⟨gs⟩
  walk_at "w"
  refine u_lst (Nat.zero_le _) fun pf G1 H1 st1 _ _ hf mf => ?_
  walk_at "w"
  refine u_lst (Nat.zero_le _) fun pw G2 H2 st2 _ _ hw mw => ?_
  walk_at "w"
  refine u_lstF (.inl (SqL.of (on h1))) fun p3 G3 H3 st3 _ _ hp3 => ?_
  walk_at "w"
  refine u_lstK (by show 1 ≤ sizeLine; decide) fun p4 G4 H4 st4 _ _ hp4 => ?_
  walk_at "w"
  refine u_cat (on hp3) (on hp4) (by rw [un_len]; exact lst_le (by show _ + 1 ≤ _; omega)) fun p5 G5 H5 st5 _ _ hp5 => ?_
  walk_at "w"
  have hL : un w ++ [V.int 32] = un (w ++ [32]) := by rw [un_app]; rfl
  rw [hL] at hp5
  have hpw : pf ≠ pw := fun e => by rw [← e, mf.h] at hw; cases hw
  refine u_iL (SqL.of (on hp5)) ?_
  refine u_for (walk_list (xs := un (w ++ [32]))) (fun i σ H' => ∃ G' pw cur ws vs v, σ = [some (.ref a), some (.ref pf), some (.ref pw), v] ∧ Stp [] G H G' H' ∧ G' p5 = some (.lst (un (w ++ [32]))) ∧ Mu G' H' pf (.lst vs) ∧ Mu G' H' pw (.lst (un cur)) ∧ pf ≠ pw ∧ H pw = none ∧
    Paired (WdA K G') vs ws ∧ wordsFrom [] (w ++ [32]) = ws ++ wordsFrom cur ((w ++ [32]).drop i) ∧ (cur = [] ∨ i ≤ w.length) ∧ cur.length ≤ i ∧ ws.length ≤ i) ?_ ?_ ?_ ?_
  · have sts := ((st3.trans st4).trans st5)
    exact ⟨G5, pw, [], [], [], none, rfl, (st1.trans st2).trans sts, hp5, sts.mu (st2.mu mf List.not_mem_nil) List.not_mem_nil, sts.mu mw List.not_mem_nil, hpw, st1.free hw, .nil, rfl, .inl rfl, Nat.le_refl _, Nat.le_refl _⟩
  · rintro i σ H' _ ⟨G', pw, cur, ws, vs, v, _, st, hp5, _⟩
    exact SqL.of (st.s _ _ hp5)
  · rintro i x σ H1 H1' hi ⟨G6, pw, cur, ws, vs, v, rfl, st, hp5, mf, mw, hne, hpn, pr, hW, hcur, hcl, hwl⟩ ⟨rfl, hx⟩
    have : Cur G6 H1' := ⟨st.s⟩
    have : Dn G G6 := ⟨st.g⟩
    obtain ⟨c, hc, rfl⟩ := un_at hx
    have hil : i < (w ++ [32]).length := (List.getElem?_eq_some_iff.mp hc).1
    have hil2 : i ≤ w.length := by rw [List.length_append] at hil; exact Nat.le_of_lt_succ hil
    have hd : (w ++ [32]).drop i = c :: (w ++ [32]).drop (i + 1) := by
      rw [List.drop_eq_getElem_cons hil]
      rw [List.getElem?_eq_getElem hil] at hc
      rw [Option.some.inj hc]
    rw [hd] at hW
    have hW : wordsFrom [] (w ++ [32]) = ws ++ (if c = 32 then flush cur (wordsFrom [] ((w ++ [32]).drop (i + 1))) else wordsFrom (cur ++ [c]) ((w ++ [32]).drop (i + 1))) := hW
    walk_at "w"
    refine w_ite (fun hb => ?_) (fun hb => ?_)
    · have hne32 : c ≠ 32 := fun e => by rw [e] at hb; exact absurd hb (by decide)
      rw [if_neg hne32] at hW
      walk_at "w"
      refine u_bmL mw.h ?_
      walk_at "w"
      refine u_app mw (by rw [un_len]; exact lst_le (by omega)) fun G7 H7 st7 _ _ mw7 => ?_
      walk_at "w"
      refine ⟨G7, pw, cur ++ [c], ws, vs, _, rfl, (st.nil.trans st7).drop hpn, st7.g _ _ hp5, st7.mu mf (by simpa using hne), ?_, hne, hpn, Paired.mapP pr fun _ _ => WdA.mono st7.g, hW, ?_, by rw [List.length_append]; show _ + 1 ≤ _; omega, by omega⟩
      · rw [un_app]; exact mw7
      · right
        rcases Nat.lt_or_ge i w.length with h | h
        · omega
        · exfalso
          have e : i = w.length := by omega
          rw [e, List.getElem?_append_right (Nat.le_refl _), Nat.sub_self] at hc
          exact hne32 (Option.some.inj hc).symm
    · have e32 : c = 32 := by
        have : ¬ ¬ (c.toNat : Int) = 32 := by simpa using hb
        exact UInt16.toNat_inj.mp (by show _ = 32; omega)
      rw [if_pos e32] at hW
      walk_at "w"
      refine u_lenL mw.sqL ?_
      walk_at "w"
      rw [un_len]
      refine w_ite (fun hb2 => ?_) (fun hb2 => ?_)
      · have hcu : cur ≠ [] := fun e => by rw [e] at hb2; exact absurd hb2 (by decide)
        have hfl : flush cur (wordsFrom [] ((w ++ [32]).drop (i + 1))) = cur :: wordsFrom [] ((w ++ [32]).drop (i + 1)) := by
          unfold flush
          rw [if_neg (by simpa using hcu)]
        rw [hfl] at hW
        walk_at "w"
        refine u_bmL mf.h ?_
        walk_at "w"
        refine u_tupL mw.sqL (by rw [un_len]; exact lst_le (by omega)) fun p7 G7 H7 st7 _ _ hp7 => ?_
        walk_at "w"
        refine u_app (st7.mu mf List.not_mem_nil) (by have e := pr.length; exact lst_le (by omega)) fun G8 H8 st8 _ _ mf8 => ?_
        walk_at "w"
        refine u_lst (Nat.zero_le _) fun p9 G9 H9 st9 _ _ hn9 mw9 => ?_
        walk_at "w"
        refine ⟨G9, p9, [], ws ++ [cur], vs ++ [.ref p7], _, rfl, ((st.trans st7).nil.trans st8).drop hf |>.trans st9, st9.g _ _ (st8.g _ _ (st7.g _ _ hp5)), st9.mu mf8 List.not_mem_nil, mw9, fun e => ?_, ?_, ?_, ?_, .inl rfl, Nat.zero_le _, ?_⟩
        · rw [← e, mf8.h] at hn9; cases hn9
        · exact ((st.trans st7).nil.trans st8).free hn9
        · exact pairApp (Paired.mapP pr fun _ _ => WdA.mono ((st7.g.trans st8.g).trans st9.g)) (.cons ⟨p7, rfl, SqT.of (st9.g _ _ (st8.g _ _ hp7))⟩ .nil)
        · rw [hW, List.append_assoc]; rfl
        · rw [List.length_append]; show _ + 1 ≤ _; omega
      · have hcu : cur = [] := by
          cases cur with
          | nil => rfl
          | cons _ _ => exact absurd hb2 (by simp)
        subst hcu
        walk_at "w"
        exact ⟨G6, pw, [], ws, vs, _, rfl, st, hp5, mf, mw, hne, hpn, pr, hW, .inl rfl, Nat.zero_le _, by omega⟩
  · rintro σ H1 ⟨G6, pw, cur, ws, vs, v, rfl, st, hp5, mf, mw, hne, hpn, pr, hW, hcur, hcl, hwl⟩
    walk_at "w"
    rw [un_len, List.drop_length] at hW
    have hcu : cur = [] := by
      rcases hcur with h | h
      · exact h
      · rw [un_len, List.length_append] at h
        exact absurd h (Nat.not_succ_le_self _)
    subst hcu
    have e : wordsFrom [] w = ws := by
      rw [← words_end, hW]
      show ws ++ [] = ws
      rw [List.append_nil]
    refine (k pf vs).go (st.keep hf mf.h) upd_same ?_
    rw [e]
    exact Paired.mapP pr fun _ _ => WdA.mono (Same.keep mf.h st.s)
end
end Ck
namespace Ck
open PySem PySem.Spec PyProof.Rows L2
open He (ga ma fAd)
section
variable {P : Program} {w : World} {K : PySem.W.Frag} {mg : Str → Option Value} {base : Heap}
open R7253f.Spec (Units wordsFrom linesFrom flush indexIn itemNames kindAt sameGroup canTick isCheck itemOn)
theorem Mu.upd_ne' {G H : Hp} {l c : Addr} {o : HO} (m : Mu G H l o) (h : H c = none) : l ≠ c := fun e => by
  have := m.h
  rw [e, h] at this
  cases this
theorem at0 {xs : List V} {i : Nat} {v : V} (h : xs[i]? = some v) : atI xs (0 + (i : Int)) = some v := by
  rw [Int.zero_add]; exact atI_nat h
theorem zadd (i : Nat) : (0 : Int) + (i : Int) = (i : Int) := Int.zero_add _
theorem has_lines_of (T : Txt K mg) : Has P w K mg base CX0 1 ("lines_of", none) ["octets"] (spLines K) := by
  refine mk_has (d := d_lines_of) T 6 rfl rfl rfl sc_lines_of (fun _ _ _ _ _ _ us hl => match us, hl with | [_], _ => rfl) (fun vs H Q E h => h.1) (fun cdv A outer s H vs Q E hr h => ?_)
  refine ⟨_, PSs.nox (pss_cons (ps_set (i := 1) sc_lines_of.nd rfl (Or.inl rfl) (pe_lst (pa_cons (pe_lst pa_nil) pa_nil)))
 (pss_cons (ps_for PassesOwn.never rfl (pi_tup (pv 0)) (pg_name (i := 2) sc_lines_of.nd rfl (Or.inl rfl)) (pss_one (ps_if (pt_cmpR op_eq (pv 2) (pgi (gi_FEED T) rfl) (nomark _)) (pss_one (ps_expr (pe_bm PySem.F.plainAttrs_list PySem.F.slot_list_append PySem.F.type_list_append mt_append (pv 1) (pa_cons (pe_lst pa_nil) pa_nil)))) (pss_one (ps_expr (pe_bm PySem.F.plainAttrs_list PySem.F.slot_list_append PySem.F.type_list_append mt_append (pe_ix ix_list (pv 1) (pe_op op_sub (pe_callB c_len (by rfl) (fr_len T) PySem.boot_len (pa_cons (pv 1) pa_nil)) pe_int) (fun _ _ => rfl)) (pa_cons (pv 2) pa_nil)))))))
 (pss_one (ps_ret (pv 1))))), ?_⟩
  obtain ⟨_, G, a, w, rfl, gs, h1, hl, k⟩ := h
  have : Cur G H := ⟨gs⟩
  walk_at "w"
  refine u_lst (Nat.zero_le _) fun pc G1 H1 st1 _ _ hc mc => ?_
  walk_at "w"
  refine u_lst (by show 1 ≤ sizeLine; decide) fun pf G2 H2 st2 _ _ hf mf => ?_
  walk_at "w"
  have hne : pc ≠ pf := mc.upd_ne' hf
  have hpf : H pf = none := st1.free hf
  refine u_iT (onT h1) ?_
  refine u_for (walk_tup (xs := un w)) (fun i σ H' => ∃ G' pc cur ls vs v, σ = [some (.ref a), some (.ref pf), v] ∧ Stp [] G H G' H' ∧ Mu G' H' pf (.lst (vs ++ [.ref pc])) ∧ Mu G' H' pc (.lst (un cur)) ∧ pf ≠ pc ∧ H pc = none ∧
    Paired (LnA G') vs ls ∧ linesFrom [] w = ls ++ linesFrom cur (w.drop i) ∧ cur.length ≤ i ∧ ls.length ≤ i) ?_ (fun i σ H' _ ⟨G', _, _, _, _, _, _, st, _⟩ => Same.sqT st.same (onT h1)) ?_ ?_
  · exact ⟨G2, pc, [], [], [], none, rfl, st1.trans st2, mf, st2.mu mc List.not_mem_nil, hne.symm, hc, .nil, rfl, Nat.le_refl _, Nat.le_refl _⟩
  · rintro i x σ H1 H1' hi ⟨G6, pc, cur, ls, vs, v, rfl, st, mf, mc, hne, hpc, pr, hW, hcl, hwl⟩ ⟨rfl, hx⟩
    have : Cur G6 H1' := ⟨st.s⟩
    have : Dn G G6 := ⟨st.g⟩
    obtain ⟨c, hc, rfl⟩ := un_at hx
    have hil : i < w.length := (List.getElem?_eq_some_iff.mp hc).1
    have hd : w.drop i = c :: w.drop (i + 1) := by
      rw [List.drop_eq_getElem_cons hil]
      rw [List.getElem?_eq_getElem hil] at hc
      rw [Option.some.inj hc]
    rw [hd] at hW
    have hW : linesFrom [] w = ls ++ (if c = 10 then cur :: linesFrom [] (w.drop (i + 1)) else linesFrom (cur ++ [c]) (w.drop (i + 1))) := hW
    have hvl := pr.length
    walk_at "w"
    refine w_ite (fun hb => ?_) (fun hb => ?_)
    · have e10 : c = 10 := by
        have : (c.toNat : Int) = 10 := by simpa using hb
        exact UInt16.toNat_inj.mp (by show _ = 10; omega)
      rw [if_pos e10] at hW
      walk_at "w"
      refine u_bmL mf.h ?_
      walk_at "w"
      refine u_lst (Nat.zero_le _) fun p7 G7 H7 st7 _ _ hn7 mn7 => ?_
      walk_at "w"
      refine u_app (st7.mu mf List.not_mem_nil) (by simp only [List.length_append, List.length_singleton]; exact lst_le (by omega)) fun G8 H8 st8 _ _ mf8 => ?_
      walk_at "w"
      have hpn : H p7 = none := st.free hn7
      have h7f : p7 ≠ pf := (mf.upd_ne' hn7).symm
      have h7c : p7 ≠ pc := (mc.upd_ne' hn7).symm
      have mc8 := st8.mu (st7.mu mc List.not_mem_nil) (by simpa using hne.symm)
      have sts : Stp [] G H G8 H8 := ((st.trans st7).nil.trans st8).drop hpf
      refine ⟨upd G8 pc (.lst (un cur)), p7, [], ls ++ [cur], vs ++ [.ref pc], _, rfl, sts.keep hpc mc8.h, mf8.kept hne, (st8.mu mn7 (by simpa using h7f)).kept h7c, h7f.symm, hpn, ?_, ?_, Nat.zero_le _, ?_⟩
      · refine pairApp (Paired.mapP pr fun _ _ => LnA.mono ((st7.g.trans st8.g).trans (Same.keep mc8.h st8.s))) (.cons ⟨pc, rfl, upd_same⟩ .nil)
      · rw [hW, List.append_assoc]; rfl
      · rw [List.length_append]; show _ + 1 ≤ _; omega
    · have hne10 : c ≠ 10 := fun e => by rw [e] at hb; exact absurd hb (by decide)
      rw [if_neg hne10] at hW
      walk_at "w"
      refine u_lenL mf.sqL ?_
      walk_at "w"
      refine w_ixL mf.sqL (v := .ref pc) ?_ ?_
      · rw [List.length_append, show ((vs.length + [V.ref pc].length : Nat) : Int) - 1 = (vs.length : Int) by show ((vs.length + 1 : Nat) : Int) - 1 = _; omega]
        exact atI_nat (by rw [List.getElem?_append_right (Nat.le_refl _), Nat.sub_self]; rfl)
      walk_at "w"
      refine u_bmL mc.h ?_
      walk_at "w"
      refine u_app mc (by rw [un_len]; exact lst_le (by omega)) fun G8 H8 st8 _ _ mc8 => ?_
      walk_at "w"
      refine ⟨G8, pc, cur ++ [c], ls, vs, _, rfl, (st.nil.trans st8).drop hpc, st8.mu mf (by simpa using hne), ?_, hne, hpc, Paired.mapP pr fun _ _ => LnA.mono st8.g, hW, by rw [List.length_append]; show _ + 1 ≤ _; omega, by omega⟩
      rw [un_app]; exact mc8
  · rintro σ H1 ⟨G6, pc, cur, ls, vs, v, rfl, st, mf, mc, hne, hpc, pr, hW, hcl, hwl⟩
    walk_at "w"
    rw [un_len, List.drop_length] at hW
    have st1 := st.keep hpc mc.h
    refine (k pf (vs ++ [.ref pc])).go (st1.keep hpf mf.h) upd_same ?_
    rw [hW]
    have hn : pc ≠ pf := hne.symm
    exact pairApp (Paired.mapP pr fun _ _ => LnA.mono ((Same.keep mc.h st.s).trans (Same.keep mf.h st1.s))) (.cons ⟨pc, rfl, by rw [upd_ne hn]; exact upd_same⟩ .nil)
theorem has_Page_init (T : Txt K mg) : Has P w K mg base CX0 1 ("Page", some "__init__") ["self"] (spPgInit K) := by
  refine mk_has (d := d_Page_init) T 7 rfl rfl rfl sc_Page_init (fun _ _ _ _ _ _ us hl => match us, hl with | [_], _ => rfl) (fun vs H Q E h => h.1) (fun cdv A outer s H vs Q E hr h => ?_)
  refine ⟨_, PSs.nox (pss_cons (ps_fld (pv 0) (pe_lst pa_nil) rfl)
 (pss_cons (ps_fld (pv 0) (pe_lst pa_nil) rfl)
 (pss_cons (ps_fld (pv 0) (pe_lst pa_nil) rfl)
 (pss_one (ps_fld (pv 0) (pe_lst pa_nil) rfl))))), ?_⟩
  obtain ⟨_, G, a, dx, rfl, gs, mu, kk⟩ := h
  have : Cur G H := ⟨gs⟩
  walk_at "w"
  refine u_lst (Nat.zero_le _) fun tl G1 H1 s1 _ _ n1 m1 => ?_
  walk_at "w"
  refine u_sfld (s1.mu mu List.not_mem_nil) (cl_Page T) (na_Page_things T) (by show 0 < 1000; decide) fun G2 H2 s2 _ _ mu2 => ?_
  walk_at "w"
  rw [fi_Page_things] at mu2
  have ta : tl ≠ a := (mu.upd_ne' n1).symm
  have m1 := s2.mu m1 (by simpa using ta)
  refine u_lst (Nat.zero_le _) fun ol G3 H3 s3 _ _ n3 m3 => ?_
  walk_at "w"
  refine u_sfld (s3.mu mu2 List.not_mem_nil) (cl_Page T) (na_Page_on T) (by show 1 < 1000; decide) fun G4 H4 s4 _ _ mu4 => ?_
  walk_at "w"
  rw [fi_Page_on] at mu4
  have oa : ol ≠ a := (mu2.upd_ne' n3).symm
  have to : tl ≠ ol := m1.upd_ne' n3
  have m1 := s4.mu (s3.mu m1 List.not_mem_nil) (by simpa using ta)
  have m3 := s4.mu m3 (by simpa using oa)
  refine u_lst (Nat.zero_le _) fun dl G5 H5 s5 _ _ n5 m5 => ?_
  walk_at "w"
  refine u_sfld (s5.mu mu4 List.not_mem_nil) (cl_Page T) (na_Page_disabled T) (by show 2 < 1000; decide) fun G6 H6 s6 _ _ mu6 => ?_
  walk_at "w"
  rw [fi_Page_disabled] at mu6
  have da : dl ≠ a := (mu4.upd_ne' n5).symm
  have td : tl ≠ dl := m1.upd_ne' n5
  have od : ol ≠ dl := m3.upd_ne' n5
  have m1 := s6.mu (s5.mu m1 List.not_mem_nil) (by simpa using ta)
  have m3 := s6.mu (s5.mu m3 List.not_mem_nil) (by simpa using oa)
  have m5 := s6.mu m5 (by simpa using da)
  refine u_lst (Nat.zero_le _) fun ll G7 H7 s7 _ _ n7 m7 => ?_
  walk_at "w"
  refine u_sfld (s7.mu mu6 List.not_mem_nil) (cl_Page T) (na_Page_listeners T) (by show 3 < 1000; decide) fun G8 H8 s8 _ _ mu8 => ?_
  walk_at "w"
  rw [fi_Page_listeners] at mu8
  have la : ll ≠ a := (mu6.upd_ne' n7).symm
  have tl' : tl ≠ ll := m1.upd_ne' n7
  have ol' : ol ≠ ll := m3.upd_ne' n7
  have dl' : dl ≠ ll := m5.upd_ne' n7
  have m1 := s8.mu (s7.mu m1 List.not_mem_nil) (by simpa using ta)
  have m3 := s8.mu (s7.mu m3 List.not_mem_nil) (by simpa using oa)
  have m5 := s8.mu (s7.mu m5 List.not_mem_nil) (by simpa using da)
  have m7 := s8.mu m7 (by simpa using la)
  have sa : Stp [a] G H G4 H4 := ((s1.nil.trans s2).trans s3.nil).trans s4
  have sb : Stp [a] G H G6 H6 := (sa.trans s5.nil).trans s6
  refine (kk tl ol dl ll).go ((sb.trans s7.nil).trans s8) mu8 n1 ((s1.nil.trans s2).free n3) (sa.free n5) (sb.free n7) ⟨m1, m3, m5, m7, .nil, .nil, to, td, tl', od, ol', dl'⟩
theorem has_Page_kind (T : Txt K mg) : Has P w K mg base CX0 1 ("Page", some "kind") ["self", "item"] (spKind K) := by
  refine mk_has (d := d_Page_kind) T 9 rfl rfl rfl sc_Page_kind (fun _ _ _ _ _ _ us hl => match us, hl with | [_, _], _ => rfl) (fun vs H Q E h => h.1) (fun cdv A outer s H vs Q E hr h => ?_)
  refine ⟨_, PSs.nox (pss_one (ps_ret (pe_ix ix_tup (pe_ix ix_list (pe_fld (pv 0) rfl) (pv 1) (fun _ _ => rfl)) pe_int (fun _ _ => rfl)))), ?_⟩
  obtain ⟨_, a, p, i, x, rfl, ⟨dx, tl, ol, dl, ll, ts, ls, hi, hp⟩, hx, k⟩ := h
  obtain ⟨v, hv, t, n, m, rfl, ht, hn, hm⟩ := pr_get hp.it hx
  walk_at "w"
  refine u_fld hi (cl_Page T) (na_Page_things T) fl_Page_things ?_
  walk_at "w"
  refine w_ixL hp.t (atI_nat hv) ?_
  walk_at "w"
  refine w_ixT ht rfl ?_
  walk_at "w"
  exact k
theorem has_Page_number (T : Txt K mg) : Has P w K mg base CX0 1 ("Page", some "number") ["self", "name"] (spNumb K) := by
  refine mk_has (d := d_Page_number) T 8 rfl rfl rfl sc_Page_number (fun _ _ _ _ _ _ us hl => match us, hl with | [_, _], _ => rfl) (fun vs H Q E h => h.1) (fun cdv A outer s H vs Q E hr h => ?_)
  refine ⟨_, PSs.nox (pss_cons (ps_for PassesOwn.never rfl (pi_range1 (by rfl) (fr_range T) (pa_cons (pe_callB c_len (by rfl) (fr_len T) PySem.boot_len (pa_cons (pe_fld (pv 0) rfl) pa_nil)) pa_nil)) (pg_name (i := 2) sc_Page_number.nd rfl (Or.inl rfl)) (pss_one (ps_if (pt_cmpR (op_eqD hr.units) (pe_ix ix_tup (pe_ix ix_list (pe_fld (pv 0) rfl) (pv 2) (fun _ _ => rfl)) pe_int (fun _ _ => rfl)) (pv 1) (nomark _)) (pss_one (ps_ret (pv 2))) pss_nil)))
 (pss_one (ps_ret (pgi (gi_NOBODY T) rfl)))), ?_⟩
  obtain ⟨_, a, b, p, w, rfl, ⟨dx, tl, ol, dl, ll, ts, ls, hi, hp⟩, h2, hl, k⟩ := h
  have hlen := hp.it.length
  walk_at "w"
  refine u_fld hi (cl_Page T) (na_Page_things T) fl_Page_things ?_
  walk_at "w"
  refine u_lenL hp.t ?_
  walk_at "w"
  refine u_iR (by omega) ?_
  refine u_for (walk_range (n := ts.length)) (fun i σ H' => H' = H ∧ ∃ v, σ = [some (.ref a), some (.ref b), v] ∧ ∀ j x, j < i → (itemNames p)[j]? = some x → x ≠ w) ?_ (fun _ _ _ _ _ => trivial) ?_ ?_
  · exact ⟨rfl, none, rfl, fun j x hj => absurd hj (Nat.not_lt_zero _)⟩
  · rintro i y σ H1 H1' hil ⟨rfl, v, rfl, hno⟩ ⟨rfl, rfl⟩
    obtain ⟨v, hv⟩ : ∃ v, ts[i]? = some v := ⟨_, List.getElem?_eq_getElem hil⟩
    obtain ⟨x, hx, t, n, m, rfl, ht, hn, hm⟩ := pr_getL hp.it hv
    have hname : (itemNames p)[i]? = some x.name := by unfold itemNames; rw [List.getElem?_map, hx]; rfl
    walk_at "w"
    refine u_fld hi (cl_Page T) (na_Page_things T) fl_Page_things ?_
    walk_at "w"
    refine w_ixL hp.t (at0 hv) ?_
    walk_at "w"
    refine w_ixT ht rfl ?_
    walk_at "w"
    refine u_eqU hn h2 ?_
    walk_at "w"
    refine w_ite (fun hb => ?_) (fun hb => ?_)
    · walk_at "w"
      have e := of_decide_eq_true hb
      have e2 : indexIn (itemNames p) w = some i := idx_hit hno (by rw [hname, e])
      rw [e2, show idxI (some i) = 0 + (i : Int) from (zadd i).symm] at k
      exact k
    · walk_at "w"
      have e := of_decide_eq_false hb
      refine ⟨_, rfl, fun j y hj hy => ?_⟩
      rcases Nat.lt_succ_iff_lt_or_eq.mp hj with h | rfl
      · exact hno j y h hy
      · rw [hname] at hy
        rw [← Option.some.inj hy]; exact e
  · rintro σ H1 ⟨rfl, v, rfl, hno⟩
    walk_at "w"
    have e2 : indexIn (itemNames p) w = none := idx_miss fun x hx => by
      obtain ⟨j, hj⟩ := List.getElem?_of_mem hx
      refine hno j x ?_ hj
      have := (List.getElem?_eq_some_iff.mp hj).1
      unfold itemNames at this
      rw [List.length_map] at this
      omega
    rw [e2] at k
    exact k
theorem kwS_radio {k : SKind} : (V.str (kwS k) = V.str "radio") ↔ ∃ g, k = .radio g := by
  constructor
  · intro h
    cases k with
    | radio g => exact ⟨g, rfl⟩
    | plain => exact absurd (V.str.inj h) (by decide +kernel)
    | link => exact absurd (V.str.inj h) (by decide +kernel)
    | button => exact absurd (V.str.inj h) (by decide +kernel)
    | check => exact absurd (V.str.inj h) (by decide +kernel)
    | label c => exact absurd (V.str.inj h) (by show ¬ (("label" : Str) = "radio"); decide +kernel)
  · rintro ⟨g, rfl⟩; rfl
theorem kwS_check {k : SKind} : (V.str (kwS k) = V.str "check") ↔ k = .check := by
  constructor
  · intro h
    cases k with
    | check => rfl
    | plain => exact absurd (V.str.inj h) (by decide +kernel)
    | link => exact absurd (V.str.inj h) (by decide +kernel)
    | button => exact absurd (V.str.inj h) (by decide +kernel)
    | radio g => exact absurd (V.str.inj h) (by show ¬ (("radio" : Str) = "check"); decide +kernel)
    | label c => exact absurd (V.str.inj h) (by show ¬ (("label" : Str) = "check"); decide +kernel)
  · rintro rfl; rfl
theorem paired_filter {f : Nat → Bool} {ys : List V} : ∀ {l : List Nat}, Paired (fun i y => y = V.int (i : Nat)) l ys → ys = l.map fun (j : Nat) => V.int (j : Nat)
  | _, .nil => rfl
  | _, .cons h t => by rw [List.map_cons, ← h, ← paired_filter (f := f) t]
theorem group_radio {p : SPage} {i : Nat} {g : Units} (h : kindAt p i = .radio g) : groupL p i = (List.range p.items.length).filter fun j => sameGroup p i j := by
  unfold groupL
  rw [h]; rfl
theorem group_check {p : SPage} {i : Nat} (h : kindAt p i = .check) : groupL p i = [i] := by
  unfold groupL
  rw [h]; rfl
theorem has_Page_group_of (T : Txt K mg) : Has P w K mg base CX0 2 ("Page", some "group_of") ["self", "item"] (spGroup K) := by
  refine mk_has (d := d_Page_group_of) T 13 rfl rfl rfl sc_Page_group_of (fun _ _ _ _ _ _ us hl => match us, hl with | [_, _], _ => rfl) (fun vs H Q E h => h.1) (fun cdv A outer s H vs Q E hr h => ?_)
  refine ⟨_, PSs.nox (pss_cons (ps_if (pt_cmpR op_eq (pmeth (pv 0) (cl_Page T) (me_Page_kind T) (has_Page_kind T) (hr.mono (by omega)) pass0 (pa_cons (pv 1) pa_nil)) (pgs (gs_CHECK T) rfl) (nomark _)) (pss_one (ps_ret (pe_lst (pa_cons (pv 1) pa_nil)))) pss_nil)
 (pss_cons (ps_set (i := 2) sc_Page_group_of.nd rfl (Or.inr rfl) (pe_ix ix_tup (pe_ix ix_list (pe_fld (pv 0) rfl) (pv 1) (fun _ _ => rfl)) pe_int (fun _ _ => rfl)))
 (pss_one (ps_ret (pe_lc (own := [("at", 3)]) (g := gName 3)  rfl sc_Page_group_of.nd (pi_range1 (by rfl) (fr_range T) (pa_cons (pe_callB c_len (by rfl) (fr_len T) PySem.boot_len (pa_cons (pe_fld (pv 0) rfl) pa_nil)) pa_nil)) (blkOk_by (N := N_Page_group_of) (sc := defScope s_Page_group_of) (by decide +kernel)) (fun _ _ _ _ _ => (pg_name (i := 3) sc_Page_group_of.nd rfl (Or.inl rfl))) (fun _ _ _ _ _ => (re_t (pts_one (PW.pt (pw_and (pt_cmpR op_eq (pmethB (K' := K) rfl (pv 0) (cl_Page T) (me_Page_kind T) (has_Page_kind T) (hr.mono (by omega)) pass0 (pa_cons (pv 3) pa_nil)) (pgs (gs_RADIO T) rfl) (nomark _)) (pw_and1 (pt_cmpR (op_eqD hr.units) (pe_ix ix_tup (pe_ix ix_list (pe_fld (pv 0) rfl) (pv 3) (fun _ _ => rfl)) pe_int (fun _ _ => rfl)) (pv 2) (nomark _)))))) (by walk_at "wk"))) (fun _ _ _ _ _ => (re_e (pv 3) (by walk_at "wk")))))))), ?_⟩
  obtain ⟨_, G, a, p, i, rfl, gs, pg, hi, hct, hl, k⟩ := h
  have : Cur G H := ⟨gs⟩
  obtain ⟨x, hx⟩ := item_at hi
  obtain ⟨dx, tl, ol, dl, ll, ts, ls, ins, hp⟩ := id pg
  obtain ⟨v, hv, t, n, m, rfl, ht, hn, hm⟩ := pr_get hp.it hx
  have hk := kind_at hx
  have hlen := hp.it.length
  walk_at "w"
  refine u_mth ins fm_Page_kind ?_
  walk_at "w"
  refine u_kind pg hx ?_
  walk_at "w"
  refine w_ite (fun hb => ?_) (fun hb => ?_)
  · have e := kwS_check.mp (of_decide_eq_true hb)
    walk_at "w"
    refine u_lstK (by show 1 ≤ sizeLine; decide) fun q G1 H1 st1 _ _ hq => ?_
    rw [group_check (hk.trans e)] at k
    exact (k q).go st1 hq
  · have e : x.kind ≠ .check := fun z => of_decide_eq_false hb (kwS_check.mpr z)
    obtain ⟨g, hg⟩ : ∃ g, x.kind = .radio g := by
      rw [hk] at hct
      cases hkk : x.kind with
      | radio g => exact ⟨g, rfl⟩
      | check => exact absurd hkk e
      | _ => rw [hkk] at hct; cases hct
    have hm : SqT K H m (un g) := by rw [hg] at hm; exact hm
    walk_at "w"
    refine u_fld ins (cl_Page T) (na_Page_things T) fl_Page_things ?_
    walk_at "w"
    refine w_ixL hp.t (atI_nat hv) ?_
    walk_at "w"
    refine w_ixT ht rfl ?_
    walk_at "w"
    refine u_fld ins (cl_Page T) (na_Page_things T) fl_Page_things ?_
    walk_at "w"
    refine u_lenL hp.t ?_
    walk_at "w"
    refine u_iR (by omega) ?_
    refine u_lc (walk_range (n := ts.length)) (Yv := fun i v => v = .int (0 + (i : Int))) (fun i H x H' h => h) (fun _ _ => trivial) (by omega) (fun j => sameGroup p i j) (fun j y _ => y = .int (j : Nat)) (fun _ _ _ _ _ h => h) ?_ ?_
    · rintro j y G1 H1 Qy Qn hj st _ _ rfl ky kn
      have : Cur G1 H1 := ⟨st.s⟩
      have pg1 : PgH K H1 a p := pg.mono st.same
      have hp1 := hp.mono st.same
      obtain ⟨w1, hw1⟩ : ∃ w1, ts[j]? = some w1 := ⟨_, List.getElem?_eq_getElem hj⟩
      obtain ⟨y, hy, t1, n1, m1, rfl, ht1, hn1, hm1⟩ := pr_getL hp1.it hw1
      have sg : sameGroup p i j = match y.kind with | .radio h => g == h | _ => false := by
        unfold sameGroup
        rw [hk, kind_at hy, hg]
        cases y.kind <;> rfl
      walk_at "w"
      refine u_mth (st.same _ _ ins) fm_Page_kind ?_
      walk_at "w"
      rw [zadd]
      refine u_kind pg1 hy ?_
      walk_at "w"
      refine w_ite (fun hb => ?_) (fun hb => ?_)
      · obtain ⟨g1, hg1⟩ := kwS_radio.mp (of_decide_eq_true hb)
        rw [hg1] at sg hm1
        have sg : sameGroup p i j = (g == g1) := sg
        have hm1 : SqT K H1 m1 (un g1) := hm1
        walk_at "w"
        refine u_fld (st.same _ _ ins) (cl_Page T) (na_Page_things T) fl_Page_things ?_
        walk_at "w"
        refine w_ixL hp1.t (atI_nat hw1) ?_
        walk_at "w"
        refine w_ixT ht1 rfl ?_
        walk_at "w"
        refine u_eqU hm1 (Same.sqT st.same hm) ?_
        walk_at "w"
        refine w_ite (fun hb2 => ?_) (fun hb2 => ?_)
        · walk_at "w"
          refine ky _ _ _ (Stp.refl st.s) ?_ rfl
          rw [sg]; simpa using (of_decide_eq_true hb2).symm
        · refine kn _ _ (Stp.refl st.s) ?_
          rw [sg]
          have := of_decide_eq_false hb2
          simpa using fun z => this z.symm
      · walk_at "w"
        refine kn _ _ (Stp.refl st.s) ?_
        rw [sg]
        have hb := of_decide_eq_false hb
        cases hkk : y.kind with
        | radio g1 => exact absurd (kwS_radio.mpr ⟨g1, hkk⟩) hb
        | _ => rfl
    · intro q ys G1 H1 st _ _ hq mu pr
      walk_at "w"
      have e := paired_filter (f := fun _ => true) pr
      rw [hlen] at e
      rw [group_radio (hk.trans hg), ← e] at k
      exact (k q).go (st.keep hq mu.h) upd_same
theorem has_Page_is_group_on (T : Txt K mg) : Has P w K mg base CX0 3 ("Page", some "is_group_on") ["self", "item"] (spGrpOn K) := by
  refine mk_has (d := d_Page_is_group_on) T 12 rfl rfl rfl sc_Page_is_group_on (fun _ _ _ _ _ _ us hl => match us, hl with | [_, _], _ => rfl) (fun vs H Q E h => h.1) (fun cdv A outer s H vs Q E hr h => ?_)
  refine ⟨_, PSs.nox (pss_one (ps_ret (pe_callB (cr_any rfl) (by rfl) (fr_any T) (by decide +kernel) (pa_cons (pe_lc (own := [("own", 2)]) (g := gName 2) (tt := tYes) rfl sc_Page_is_group_on.nd (pi_list (pmeth (pv 0) (cl_Page T) (me_Page_group_of T) (has_Page_group_of T) (hr.mono (by omega)) pass0 (pa_cons (pv 1) pa_nil))) (blkOk_by (N := N_Page_is_group_on) (sc := defScope s_Page_is_group_on) (by decide +kernel)) (fun _ _ _ _ _ => (pg_name (i := 2) sc_Page_is_group_on.nd rfl (Or.inl rfl))) (fun _ _ _ _ _ => pts_nil) (fun _ _ _ _ _ => (re_e (pe_ix ix_list (pe_fld (pv 0) rfl) (pv 2) (fun _ _ => rfl)) (by walk_at "wk")))) pa_nil)))), ?_⟩
  obtain ⟨_, G, a, p, i, rfl, gs, pg, hi, hct, hl, k⟩ := h
  have : Cur G H := ⟨gs⟩
  obtain ⟨dx, tl, ol, dl, ll, ts, ls, ins, hp⟩ := id pg
  walk_at "w"
  refine u_mth ins fm_Page_group_of ?_
  walk_at "w"
  refine u_group pg hi hct hl fun q G1 H1 st1 _ _ hq => ?_
  walk_at "w"
  have pg1 : PgH K H1 a p := pg.mono st1.same
  have hp1 := hp.mono st1.same
  have hgl : (groupL p i).length ≤ 100 := by
    unfold groupL
    split
    · show 1 ≤ 100; omega
    · have := List.length_filter_le (fun j => sameGroup p i j) (List.range p.items.length)
      rw [List.length_range] at this; omega
  have hgm : ∀ j ∈ groupL p i, j < p.items.length := by
    unfold groupL
    split
    · intro j hj; rw [List.mem_singleton.mp hj]; exact hi
    · intro j hj; exact List.mem_range.mp (List.mem_filter.mp hj).1
  refine u_iL (SqL.of (on hq)) ?_
  refine u_lcA (walk_list (xs := (groupL p i).map fun (j : Nat) => V.int (j : Nat))) (Yv := fun i' v => ((groupL p i).map fun (j : Nat) => V.int (j : Nat))[i']? = some v) (fun i H x H' h => h) (fun H' s => s.seq (SqL.of (on hq))) (by rw [List.length_map]; omega) (fun i' y _ => ∃ j, (groupL p i)[i']? = some j ∧ y = .bl (itemOn p j)) (fun _ _ _ _ _ h => h) ?_ ?_ (fun _ _ _ _ h q => mg_name h q)
  · rintro i' x G2 H2 Qy hi' st _ _ hx ky
    rw [List.getElem?_map] at hx
    obtain ⟨j, hj, rfl⟩ : ∃ j, (groupL p i)[i']? = some j ∧ x = .int (j : Nat) := by
      cases e : (groupL p i)[i']? with
      | none => rw [e] at hx; cases hx
      | some j => rw [e] at hx; exact ⟨j, rfl, (Option.some.inj hx).symm⟩
    have hjl := hgm j (List.mem_of_getElem? hj)
    obtain ⟨y, hy⟩ := item_at hjl
    have hon : (onsV p)[j]? = some (.bl (itemOn p j)) := by
      unfold onsV itemOn
      rw [List.getElem?_map, hy]; rfl
    walk_at "w"
    refine u_fld (st.same _ _ (st1.same _ _ ins)) (cl_Page T) (na_Page_on T) fl_Page_on ?_
    walk_at "w"
    refine w_ixL (st.same.seq hp1.o) (atI_nat hon) ?_
    walk_at "w"
    exact ky _ _ _ (Stp.refl st.s) ⟨j, hj, rfl⟩
  · intro q2 ys G2 H2 st _ _ hq2 mu hlen2 pr
    rw [List.length_map] at hlen2
    have e : ys = ((groupL p i).map (itemOn p)).map V.bl := by
      apply List.ext_getElem?
      intro i'
      rw [List.getElem?_map, List.getElem?_map]
      cases hy : ys[i']? with
      | some y =>
        obtain ⟨c, hc, e⟩ := pr i' y hy
        rw [e, hc]; rfl
      | none =>
        have hi := List.getElem?_eq_none_iff.mp hy
        rw [List.getElem?_eq_none (by omega)]; rfl
    subst e
    walk_at "w"
    refine u_any mu.sqL ?_
    walk_at "w"
    have e2 : (groupL p i).any (itemOn p) = ((groupL p i).map (itemOn p)).any id := by
      rw [List.any_map]; rfl
    rw [← e2]
    exact k.go (st1.trans st)
end
end Ck
namespace Ck
open PySem PySem.Spec PyProof.Rows L2
open He (ga ma fAd)
open R7253f.Spec (Units units isName indexIn itemNames kindAt sameGroup isControl canTick canHold wordsFrom linesFrom bindReason orReason demand invalid readParent addItem newName readItem readRadio readLabel readTicked readDisabled readListener readLine readWay readAction itemOn itemOff groupOn maxItems)
/-! ### literals -/
theorem lit_uz (s : String) : uz (Str.ofString s) = units s := by
  rw [Str.ofString_eq_toList]
  unfold uz units
  show List.map UInt16.ofNat (List.map Char.toNat s.toList) = _
  rw [List.map_map]; rfl
def okm (z : Str) : Bool := decide (z.cps.size ≤ 100) && z.cps.toList.all fun c => decide (c < 128)
theorem known_cons (z : Str) (zs : List Str) (w : Units) : known (z :: zs) w = if uz z = w then z else known zs w := by
  unfold known
  rw [List.find?_cons]
  by_cases h : uz z = w
  · rw [if_pos h, decide_eq_true h]; rfl
  · rw [if_neg h, decide_eq_false h]
theorem known_nil (w : Units) : known [] w = "" := rfl
theorem idx_some {l : List Units} {w : Units} {i : Nat} (h : indexIn l w = some i) : l[i]? = some w := by
  unfold indexIn at h
  obtain ⟨hi, h1, _⟩ := List.findIdx?_eq_some_iff_getElem.mp h
  rw [List.getElem?_eq_getElem hi]
  simpa using h1
theorem idx_none {l : List Units} {w : Units} (h : indexIn l w = none) : ∀ x ∈ l, x ≠ w := by
  unfold indexIn at h
  rw [List.findIdx?_eq_none_iff] at h
  intro x hx
  simpa using h x hx
theorem idx_has {l : List Units} {w : Units} : l.contains w = (indexIn l w).isSome := by
  cases h : indexIn l w with
  | some i =>
    have := List.mem_of_getElem? (idx_some h)
    simpa using this
  | none =>
    have := idx_none h
    show l.contains w = false
    cases hc : l.contains w with
    | false => rfl
    | true =>
      have hm : w ∈ l := by simpa using hc
      exact absurd rfl (this w hm)
theorem idx_neg {o : Option Nat} : decide (idxI o < 0) = o.isNone := by
  cases o with
  | none => rfl
  | some i => exact decide_eq_false (by show ¬ ((i : Int) < 0); omega)
theorem idx_pos {o : Option Nat} : decide (0 ≤ idxI o) = o.isSome := by
  cases o with
  | none => rfl
  | some i => exact decide_eq_true (by show (0 : Int) ≤ (i : Int); omega)
theorem names_at {p : SPage} {i : Nat} {x : SItem} (h : p.items[i]? = some x) : (itemNames p)[i]? = some x.name := by
  unfold itemNames
  rw [List.getElem?_map, h]; rfl
theorem names_len (p : SPage) : (itemNames p).length = p.items.length := List.length_map _
theorem idx_lt {p : SPage} {w : Units} {i : Nat} (h : indexIn (itemNames p) w = some i) : i < p.items.length := by
  have := (List.getElem?_eq_some_iff.mp (idx_some h)).1
  rwa [names_len] at this
/-! ### an item, a radio button, a label -/
inductive RK where
  | item
  | radio
  | label
def rkS : RK → Str
  | .item => "item"
  | .radio => "radio"
  | .label => "label"
def rkOk : RK → List Units → Bool
  | .item, r => decide (r.length = 1)
  | .radio, r => decide (r.length = 1)
  | .label, r => decide (r.length ≤ 1)
def rkK (p : SPage) : RK → List Units → Except Units SKind
  | .item, r => orReason "unknown kind" (R7253f.Spec.readKind (r.headD []))
  | .radio, r => bindReason (demand (isName (r.headD [])) "invalid name") fun _ => .ok (.radio (r.headD []))
  | .label, [] => .ok (.label none)
  | .label, c :: _ => bindReason (orReason "unknown item" (indexIn (itemNames p) c)) fun i => .ok (.label (some i))
def rkF (k : RK) (p : SPage) : List Units → Except Units SPage
  | u :: v :: r => if rkOk k r then bindReason (newName p u) fun _ => bindReason (orReason "unknown parent" (readParent p v)) fun q => bindReason (rkK p k r) fun kd => addItem p u q kd else invalid
  | _ => invalid
theorem rkF_cons (k : RK) (p : SPage) (u v : Units) (r : List Units) : rkF k p (u :: v :: r) = if rkOk k r then bindReason (newName p u) fun _ => bindReason (orReason "unknown parent" (readParent p v)) fun q => bindReason (rkK p k r) fun kd => addItem p u q kd else invalid := rfl
theorem rkF_bad {k : RK} {p : SPage} {u v : Units} {r : List Units} (h : rkOk k r = false) : rkF k p (u :: v :: r) = invalid := by
  rw [rkF_cons, h]; rfl
theorem rkF_ok {k : RK} {p : SPage} {u v : Units} {r : List Units} (h : rkOk k r = true) : rkF k p (u :: v :: r) = bindReason (newName p u) fun _ => bindReason (orReason "unknown parent" (readParent p v)) fun q => bindReason (rkK p k r) fun kd => addItem p u q kd := by
  rw [rkF_cons, if_pos h]
theorem bind_assoc {α β γ : Type} (x : Except Units α) (f : α → Except Units β) (g : β → Except Units γ) : bindReason (bindReason x f) g = bindReason x fun a => bindReason (f a) g := by
  cases x <;> rfl
theorem rk_item (p : SPage) : ∀ l, readItem p l = rkF .item p l
  | [] => rfl
  | [_] => rfl
  | [_, _] => rfl
  | [_, _, _] => rfl
  | _ :: _ :: _ :: _ :: _ => (rkF_bad (by simp [rkOk])).symm
theorem rk_radio (p : SPage) : ∀ l, readRadio p l = rkF .radio p l
  | [] => rfl
  | [_] => rfl
  | [_, _] => rfl
  | [u, v, g] => by
    show (bindReason (newName p u) fun x => bindReason (orReason "unknown parent" (readParent p v)) fun q => bindReason (demand (isName g) "invalid name") fun x => addItem p u q (.radio g)) = bindReason (newName p u) fun x => bindReason (orReason "unknown parent" (readParent p v)) fun q => bindReason (bindReason (demand (isName g) "invalid name") fun _ => .ok (.radio g)) fun kd => addItem p u q kd
    congr 1; funext _
    congr 1; funext q
    rw [bind_assoc]; rfl
  | _ :: _ :: _ :: _ :: _ => (rkF_bad (by simp [rkOk])).symm
theorem rk_label (p : SPage) : ∀ l, readLabel p l = rkF .label p l
  | [] => rfl
  | [_] => rfl
  | [_, _] => rfl
  | [u, v, c] => by
    show (bindReason (newName p u) fun x => bindReason (orReason "unknown parent" (readParent p v)) fun q => bindReason (orReason "unknown item" (indexIn (itemNames p) c)) fun i => addItem p u q (.label (some i))) = bindReason (newName p u) fun x => bindReason (orReason "unknown parent" (readParent p v)) fun q => bindReason (bindReason (orReason "unknown item" (indexIn (itemNames p) c)) fun i => .ok (.label (some i))) fun kd => addItem p u q kd
    congr 1; funext _
    congr 1; funext q
    rw [bind_assoc]; rfl
  | _ :: _ :: _ :: _ :: _ => (rkF_bad (by simp [rkOk])).symm
/-! ### promises of reading -/
def ErrK (K : PySem.W.Frag) (G H : Hp) (R : Except Units SPage) (E : XK) : Prop := ∀ r : Str, R = .error (uz r) → okm r = true → ∀ d, Nxt [] G H fun G' H' => G' d = some (.xd [("reason", .str r)]) → E (.ref (ga K "Unreadable")) (some d) H'
def OkK (K : PySem.W.Frag) (G H : Hp) (tl ol dl ll : Addr) (R : Except Units SPage) (Q : VK) : Prop := ∀ p', R = .ok p' → ∀ ts' ls', Nxt [tl, ol, dl, ll] G H fun G' H' => PgM K G' H' tl ol dl ll p' ts' ls' → Q .non H'
structure RdP (K : PySem.W.Frag) (G H : Hp) (a dx tl ol dl ll : Addr) (p : SPage) (ts ls : List V) (wl : Addr) (wv : List V) (ws : List Units) : Prop where
  s : Same G H
  i : PgI K G a dx tl ol dl ll
  m : PgM K G H tl ol dl ll p ts ls
  w : PgW p
  l : G wl = some (.lst wv)
  pr : Paired (WdA K G) wv ws
  z : ∀ w ∈ ws, w.length ≤ 100000
  n : ws.length ≤ 100000
theorem RdP.step {K : PySem.W.Frag} {G H G' H' : Hp} {a dx tl ol dl ll : Addr} {p : SPage} {ts ls : List V} {wl : Addr} {wv : List V} {ws : List Units} (h : RdP K G H a dx tl ol dl ll p ts ls wl wv ws) (st : Stp [] G H G' H') : RdP K G' H' a dx tl ol dl ll p ts ls wl wv ws :=
  ⟨st.s, st.g _ _ h.i, h.m.nil st, h.w, st.g _ _ h.l, Paired.mapP h.pr fun _ _ => WdA.mono st.g, h.z, h.n⟩
theorem RdP.pg {K : PySem.W.Frag} {G H : Hp} {a dx tl ol dl ll : Addr} {p : SPage} {ts ls : List V} {wl : Addr} {wv : List V} {ws : List Units} (h : RdP K G H a dx tl ol dl ll p ts ls wl wv ws) : PgH K H a p :=
  ⟨dx, tl, ol, dl, ll, ts, ls, h.s _ _ h.i, h.m.pgL h.s⟩
section
variable (K : PySem.W.Frag)
def spXU : Sp := fun vs H Q _ => vs.length = 2 ∧ ∃ (a : Addr) (r : Str), vs = [.ref a, .str r] ∧ H a = some (exo a (ga K "Unreadable") none) ∧ ∀ dx, H dx = none → dx ≠ a → Q .non (upd (upd H dx (exd dx [("reason", .str r)])) a (exo a (ga K "Unreadable") (some dx)))
def spNeed : Sp := fun vs H Q E => vs.length = 2 ∧ ∃ (G : Hp) (b : Bool) (r : Str), vs = [.bl b, .str r] ∧ Same G H ∧ (b = true → Q .non H) ∧ (b = false → ∀ d, Nxt [] G H fun G' H' => G' d = some (.xd [("reason", .str r)]) → E (.ref (ga K "Unreadable")) (some d) H')
def spRItem : Sp := fun vs H Q E => vs.length = 3 ∧ ∃ (G : Hp) (a dx tl ol dl ll : Addr) (p : SPage) (ts ls : List V) (wl : Addr) (wv : List V) (w0 : Units) (l : List Units) (k : RK), vs = [.ref a, .str (rkS k), .ref wl] ∧ RdP K G H a dx tl ol dl ll p ts ls wl wv (w0 :: l) ∧ OkK K G H tl ol dl ll (rkF k p l) Q ∧ ErrK K G H (rkF k p l) E
def spRMark : Sp := fun vs H Q E => vs.length = 3 ∧ ∃ (G : Hp) (a dx tl ol dl ll : Addr) (p : SPage) (ts ls : List V) (wl : Addr) (wv : List V) (w0 : Units) (l : List Units) (b : Bool), vs = [.ref a, .str (if b then "ticked" else "disabled"), .ref wl] ∧ RdP K G H a dx tl ol dl ll p ts ls wl wv (w0 :: l) ∧
  OkK K G H tl ol dl ll (if b then readTicked p l else readDisabled p l) Q ∧ ErrK K G H (if b then readTicked p l else readDisabled p l) E
def spRLis : Sp := fun vs H Q E => vs.length = 3 ∧ ∃ (G : Hp) (a dx tl ol dl ll : Addr) (p : SPage) (ts ls : List V) (wl : Addr) (wv : List V) (w0 : Units) (l : List Units) (b : Bool), vs = [.ref a, .str (if b then "once" else "listen"), .ref wl] ∧ RdP K G H a dx tl ol dl ll p ts ls wl wv (w0 :: l) ∧
  OkK K G H tl ol dl ll (readListener p b l) Q ∧ ErrK K G H (readListener p b l) E
def spRLine : Sp := fun vs H Q E => vs.length = 2 ∧ ∃ (G : Hp) (a dx tl ol dl ll : Addr) (p : SPage) (ts ls : List V) (wl : Addr) (wv : List V) (w0 : Units) (l : List Units), vs = [.ref a, .ref wl] ∧ RdP K G H a dx tl ol dl ll p ts ls wl wv (w0 :: l) ∧
  OkK K G H tl ol dl ll (readLine p (w0 :: l)) Q ∧ ErrK K G H (readLine p (w0 :: l)) E
end
section
variable {K : PySem.W.Frag} {G H : Hp} {Q : VK} {E : XK}
theorem u_need [q : Cur G H] {b : Bool} {r : Str} (ht : b = true → Q .non H) (hf : b = false → ∀ d, Nxt [] G H fun G' H' => G' d = some (.xd [("reason", .str r)]) → E (.ref (ga K "Unreadable")) (some d) H') : spNeed K [.bl b, .str r] H Q E := ⟨rfl, G, b, r, rfl, q.s, ht, hf⟩
/-- need, where what is due is known -/
theorem ErrK.at {G0 H0 : Hp} {R : Except Units SPage} (e : ErrK K G0 H0 R E) (st : Stp [] G0 H0 G H) {s : String} (h : R = .error (units s)) (o : okm s = true := by decide +kernel) : ∀ d, Nxt [] G H fun G' H' => G' d = some (.xd [("reason", .str s)]) → E (.ref (ga K "Unreadable")) (some d) H' :=
  fun d G' H' s1 a b hd => e s (by rw [h, lit_uz]) o d G' H' (st.trans s1) ⟨(st.trans s1).g⟩ b hd
end
theorem tk_no {X : Cx} (h : X.xe = fun _ _ => False) : L2N.Takes X (fun _ _ _ _ => False) := fun u s' ⟨_, _, _, _, _, _, _, _, _, _, _, _, _, _, _, _, w⟩ => w.elim
theorem w_cut {t u : TS} {D : Ends} {σ : L2.St} {H : Hp} (Mid : L2.St → Hp → Prop) (h1 : t { D with nx := Mid } σ H) (h2 : ∀ σ' H', Mid σ' H' → u D σ' H') : Evl.tCut t u D σ H := ⟨Mid, h1, h2⟩
end Ck
namespace Ck
open PySem PySem.Spec PyProof.Rows L2
open He (ga ma fAd)
section
variable {P : Program} {w : World} {K : PySem.W.Frag} {mg : Str → Option Value} {base : Heap}
open R7253f.Spec (Units units isName indexIn itemNames kindAt sameGroup isControl canTick canHold bindReason orReason demand invalid readParent addItem newName readItem readRadio readLabel readTicked readDisabled readListener readLine readWay readAction itemOn itemOff groupOn maxItems)
theorem exc_heap {H : Hp} {a d : Addr} {o1 o2 o3 o4 : HO} (ha : H a = none) (hne : d ≠ a) : upd (del (upd (upd (upd H a o1) d o2) a o3) a) d o4 = upd H d o4 := by
  funext b
  by_cases e : b = d
  · subst e; rw [upd_same, upd_same]
  · rw [upd_ne e, upd_ne e]
    by_cases e2 : b = a
    · subst e2; rw [del_same, ha]
    · rw [del_ne e2, upd_ne e2, upd_ne e, upd_ne e2]
theorem paired_of {α β : Type} {R S : α → β → Prop} : ∀ {l : List α} {ys : List β}, Paired R l ys → (∀ (i : Nat) (a : α) (y : β), l[i]? = some a → ys[i]? = some y → R a y → S a y) → Paired S l ys
  | _, _, .nil, _ => .nil
  | _, _, .cons r t, f => .cons (f 0 _ _ rfl rfl r) (paired_of t fun i a y h1 h2 => f (i + 1) a y (by simpa using h1) (by simpa using h2))
theorem rk_shape {K : PySem.W.Frag} {G : Hp} {k : RK} {xr : List V} {r : List Units} (h : Paired (WdA K G) xr r) (hk : rkOk k r = true) : (∃ x px, r = [x] ∧ xr = [.ref px] ∧ SqT K G px (un x)) ∨ (r = [] ∧ xr = [] ∧ k = .label) := by
  cases h with
  | nil =>
    right
    cases k with
    | item => exact absurd hk (by simp [rkOk])
    | radio => exact absurd hk (by simp [rkOk])
    | label => exact ⟨rfl, rfl, rfl⟩
  | cons h t =>
    cases t with
    | nil =>
      obtain ⟨px, rfl, hx⟩ := h
      exact .inl ⟨_, px, rfl, rfl, hx⟩
    | cons _ _ =>
      cases k with
      | item => exact absurd hk (by simp [rkOk])
      | radio => exact absurd hk (by simp [rkOk])
      | label => exact absurd hk (by simp [rkOk])
theorem newName_bad {p : SPage} {u : Units} (h : isName u = false) : newName p u = .error (units "invalid name") := by
  unfold newName
  rw [h]; rfl
theorem newName_used {p : SPage} {u : Units} (h : isName u = true) (h2 : (indexIn (itemNames p) u).isNone = false) : newName p u = .error (units "name is used already") := by
  unfold newName
  rw [h, idx_has]
  cases e : indexIn (itemNames p) u with
  | none => rw [e] at h2; cases h2
  | some i => rfl
theorem newName_ok {p : SPage} {u : Units} (h : isName u = true) (h2 : (indexIn (itemNames p) u).isNone = true) : newName p u = .ok () := by
  unfold newName
  rw [h, idx_has]
  cases e : indexIn (itemNames p) u with
  | none => rfl
  | some i => rw [e] at h2; cases h2
theorem tick_in (k : SKind) : inV (.str (kwS k)) [.str "check", .str "radio"] = canTick k := by
  cases k with
  | plain => decide +kernel
  | link => decide +kernel
  | button => decide +kernel
  | check => decide +kernel
  | radio g => show inV (.str "radio") [.str "check", .str "radio"] = true; decide +kernel
  | label c => show inV (.str "label") [.str "check", .str "radio"] = false; decide +kernel
theorem ctl_in (k : SKind) : inV (.str (kwS k)) [.str "button", .str "check", .str "radio"] = isControl k := by
  cases k with
  | plain => decide +kernel
  | link => decide +kernel
  | button => decide +kernel
  | check => decide +kernel
  | radio g => show inV (.str "radio") [.str "button", .str "check", .str "radio"] = true; decide +kernel
  | label c => show inV (.str "label") [.str "button", .str "check", .str "radio"] = false; decide +kernel
theorem hold_tick (k : SKind) : canHold k = !canTick k := by cases k <;> rfl
theorem kinds_known (x : Units) : known ["plain", "link", "button", "check"] x = match R7253f.Spec.readKind x with | some kd => kwS kd | none => "" := by
  unfold R7253f.Spec.readKind
  simp only [known_cons, known_nil, lit_uz]
  by_cases h1 : units "plain" = x
  · rw [if_pos h1, if_pos h1.symm]; rfl
  rw [if_neg h1, if_neg (Ne.symm h1)]
  by_cases h2 : units "link" = x
  · rw [if_pos h2, if_pos h2.symm]; rfl
  rw [if_neg h2, if_neg (Ne.symm h2)]
  by_cases h3 : units "button" = x
  · rw [if_pos h3, if_pos h3.symm]; rfl
  rw [if_neg h3, if_neg (Ne.symm h3)]
  by_cases h4 : units "check" = x
  · rw [if_pos h4, if_pos h4.symm]; rfl
  rw [if_neg h4, if_neg (Ne.symm h4)]
theorem kinds_more {x : Units} {kd : SKind} (h : R7253f.Spec.readKind x = some kd) (ns : List Units) : moreU ns kd = [] ∧ kwS kd ≠ "" := by
  unfold R7253f.Spec.readKind at h
  split at h
  · cases h; exact ⟨rfl, by decide +kernel⟩
  split at h
  · cases h; exact ⟨rfl, by decide +kernel⟩
  split at h
  · cases h; exact ⟨rfl, by decide +kernel⟩
  split at h
  · cases h; exact ⟨rfl, by decide +kernel⟩
  cases h
theorem has_Unreadable_init (T : Txt K mg) : Has P w K mg base CX0 1 ("Unreadable", some "__init__") ["self", "reason"] (spXU K) := by
  refine mk_has (d := d_Unreadable_init) T 0 rfl rfl rfl sc_Unreadable_init (fun _ _ _ _ _ _ us hl => match us, hl with | [_, _], _ => rfl) (fun vs H Q E h => h.1) (fun cdv A outer s H vs Q E hr h => ?_)
  refine ⟨_, PSs.nox (pss_one (ps_ost (pv 0) (pv 1) rfl)), ?_⟩
  obtain ⟨_, a, r, rfl, ha, k⟩ := h
  walk_at "w"
  exact ⟨a, _, rfl, (ex_Unreadable T).1, na_Unreadable_reason T, .inl ⟨ha, fun dx hn hne => k dx hn hne⟩⟩
theorem has_need (T : Txt K mg) : Has P w K mg base (XC P w) 3 ("need", none) ["right", "reason"] (spNeed K) := by
  refine mk_has (d := d_need) T 1 rfl rfl rfl sc_need (fun _ _ _ _ _ _ us hl => match us, hl with | [_, _], _ => rfl) (fun vs H Q E h => h.1) (fun cdv A outer s H vs Q E hr h => ?_)
  refine ⟨_, (pss_one (ps_if (pt_not (pt_val (pv 0))) (pss_one (L2N.ps_raise rfl (L2N.takes_of rfl rfl rfl rfl) (pxmk (ex_Unreadable T).1 (ex_Unreadable T).2.2.1 (ex_Unreadable T).2.2.2.1 (has_Unreadable_init T) (hr.mono (by omega)) pass0 rfl (gl_Unreadable T) (pa_cons (pv 1) pa_nil)))) pss_nil)), ?_⟩
  obtain ⟨_, G, b, r, rfl, gs, ht, hf⟩ := h
  have : Cur G H := ⟨gs⟩
  walk_at "w"
  cases b
  · walk_at "w"
    refine iteT ?_
    walk_at "w"
    refine ⟨by show 1 ≤ 1000; decide, fun a ha => ⟨rfl, a, r, rfl, upd_same, fun dx hn hne => ⟨rfl, dx, [("reason", .str r)], upd_same, ?_, ?_, ?_⟩⟩⟩
    · rw [upd_ne hne, upd_same]
    · rw [upd_ne hne] at hn; exact hn
    · have hdx : H dx = none := by rw [upd_ne hne] at hn; exact hn
      rw [exc_heap ha hne]
      exact (hf rfl dx).go (Stp.lay gs hdx) upd_same
  · refine iteF ?_
    walk_at "w"
    exact ht rfl
theorem has_Page_read_item (T : Txt K mg) : Has P w K mg base (XC P w) 6 ("Page", some "read_item") ["self", "first", "words"] (spRItem K) := by
  refine mk_has (d := d_Page_read_item) T 11 rfl rfl rfl sc_Page_read_item (fun _ _ _ _ _ _ us hl => match us, hl with | [_, _, _], _ => rfl) (fun vs H Q E h => h.1) (fun cdv A outer s H vs Q E hr h => ?_)
  refine ⟨_, (Evl.pss_cut (ps_expr (pcall (has_need T) (hr.mono (by omega)) rfl (gl_need T) (L2N.passes_call (L2N.takes_of rfl rfl rfl rfl) (fun _ _ _ _ h => h)) (pa_cons (pe_or (pe_cmpR op_eq (pe_callB c_len (by rfl) (fr_len T) PySem.boot_len (pa_cons (pv 2) pa_nil)) pe_int (nomark _)) (pe_one (pe_and (pe_cmpR op_eq (pe_callB c_len (by rfl) (fr_len T) PySem.boot_len (pa_cons (pv 2) pa_nil)) pe_int (nomark _)) (pe_one (pe_cmpR op_eq (pv 1) pe_str (nomark _)))))) (pa_cons pe_str pa_nil))))
 (pss_cons (ps_expr (pcall (has_need T) (hr.mono (by omega)) rfl (gl_need T) (L2N.passes_call (L2N.takes_of rfl rfl rfl rfl) (fun _ _ _ _ h => h)) (pa_cons (pcall (has_is_name T) (hr.mono (by omega)) rfl (gl_is_name T) pass0 (pa_cons (pe_ix ix_list (pv 2) pe_int (fun _ _ => rfl)) pa_nil)) (pa_cons pe_str pa_nil))))
 (pss_cons (ps_expr (pcall (has_need T) (hr.mono (by omega)) rfl (gl_need T) (L2N.passes_call (L2N.takes_of rfl rfl rfl rfl) (fun _ _ _ _ h => h)) (pa_cons (pe_cmpR op_lt (pmeth (pv 0) (cl_Page T) (me_Page_number T) (has_Page_number T) (hr.mono (by omega)) pass0 (pa_cons (pe_ix ix_list (pv 2) pe_int (fun _ _ => rfl)) pa_nil)) pe_int (nomark _)) (pa_cons pe_str pa_nil))))
 (pss_cons (ps_set (i := 3) sc_Page_read_item.nd rfl (Or.inl rfl) (pmeth (pv 0) (cl_Page T) (me_Page_number T) (has_Page_number T) (hr.mono (by omega)) pass0 (pa_cons (pe_ix ix_list (pv 2) pe_int (fun _ _ => rfl)) pa_nil)))
 (Evl.pss_cut (ps_if (pt_cmpR op_eq (pe_callB c_len (by rfl) (fr_len T) PySem.boot_len (pa_cons (pe_fld (pv 0) rfl) pa_nil)) pe_int (nomark _)) (pss_one (ps_expr (pcall (has_need T) (hr.mono (by omega)) rfl (gl_need T) (L2N.passes_call (L2N.takes_of rfl rfl rfl rfl) (fun _ _ _ _ h => h)) (pa_cons (pe_cmpR (op_eqD hr.units) (pe_ix ix_list (pv 2) pe_int (fun _ _ => rfl)) (pcall (has_codes T) (hr.mono (by omega)) rfl (gl_codes T) pass0 (pa_cons pe_str pa_nil)) (nomark _)) (pa_cons pe_str pa_nil))))) (pss_one (ps_expr (pcall (has_need T) (hr.mono (by omega)) rfl (gl_need T) (L2N.passes_call (L2N.takes_of rfl rfl rfl rfl) (fun _ _ _ _ h => h)) (pa_cons (pe_and (pe_cmpR op_ge (pv 3) pe_int (nomark _)) (pe_one (pe_cmpR op_notIn_seq (pmeth (pv 0) (cl_Page T) (me_Page_kind T) (has_Page_kind T) (hr.mono (by omega)) pass0 (pa_cons (pv 3) pa_nil)) (pgr (tg_TICKED T) rfl) (by rfl)))) (pa_cons pe_str pa_nil))))))
 (pss_cons (ps_set (i := 4) sc_Page_read_item.nd rfl (Or.inl rfl) (pv 1))
 (Evl.pss_cut (ps_set (i := 5) sc_Page_read_item.nd rfl (Or.inl rfl) (pe_ifExp (pt_cmpR op_eq (pe_callB c_len (by rfl) (fr_len T) PySem.boot_len (pa_cons (pv 2) pa_nil)) pe_int (nomark _)) (pe_ix ix_list (pv 2) pe_int (fun _ _ => rfl)) (pe_tup pa_nil)))
 (Evl.pss_cut (ps_if (pt_cmpR op_eq (pv 1) pe_str (nomark _)) (pss_cons (ps_set (i := 4) sc_Page_read_item.nd rfl (Or.inl rfl) (pcall (has_known_word T) (hr.mono (by omega)) rfl (gl_known_word T) pass0 (pa_cons (pe_ix ix_list (pv 2) pe_int (fun _ _ => rfl)) (pa_cons (pgr (tg_KINDS T) rfl) pa_nil))))
 (pss_cons (ps_expr (pcall (has_need T) (hr.mono (by omega)) rfl (gl_need T) (L2N.passes_call (L2N.takes_of rfl rfl rfl rfl) (fun _ _ _ _ h => h)) (pa_cons (pe_cmpR op_ne (pv 4) pe_str (nomark _)) (pa_cons pe_str pa_nil))))
 (pss_one (ps_set (i := 5) sc_Page_read_item.nd rfl (Or.inl rfl) (pe_tup pa_nil))))) (pss_one (ps_if (pt_cmpR op_eq (pv 1) pe_str (nomark _)) (pss_one (ps_expr (pcall (has_need T) (hr.mono (by omega)) rfl (gl_need T) (L2N.passes_call (L2N.takes_of rfl rfl rfl rfl) (fun _ _ _ _ h => h)) (pa_cons (pcall (has_is_name T) (hr.mono (by omega)) rfl (gl_is_name T) pass0 (pa_cons (pv 5) pa_nil)) (pa_cons pe_str pa_nil))))) (pss_one (ps_expr (pcall (has_need T) (hr.mono (by omega)) rfl (gl_need T) (L2N.passes_call (L2N.takes_of rfl rfl rfl rfl) (fun _ _ _ _ h => h)) (pa_cons (pe_or (pe_cmpR op_eq (pe_callB c_len (by rfl) (fr_len T) PySem.boot_len (pa_cons (pv 2) pa_nil)) pe_int (nomark _)) (pe_one (pe_cmpR op_ge (pmeth (pv 0) (cl_Page T) (me_Page_number T) (has_Page_number T) (hr.mono (by omega)) pass0 (pa_cons (pv 5) pa_nil)) pe_int (nomark _)))) (pa_cons pe_str pa_nil))))))))
 (pss_cons (ps_expr (pcall (has_need T) (hr.mono (by omega)) rfl (gl_need T) (L2N.passes_call (L2N.takes_of rfl rfl rfl rfl) (fun _ _ _ _ h => h)) (pa_cons (pe_cmpR op_lt (pe_callB c_len (by rfl) (fr_len T) PySem.boot_len (pa_cons (pe_fld (pv 0) rfl) pa_nil)) (pgi (gi_MOST_ITEMS T) rfl) (nomark _)) (pa_cons pe_str pa_nil))))
 (pss_cons (ps_expr (pe_bm PySem.F.plainAttrs_list PySem.F.slot_list_append PySem.F.type_list_append mt_append (pe_fld (pv 0) rfl) (pa_cons (pe_tup (pa_cons (pe_ix ix_list (pv 2) pe_int (fun _ _ => rfl)) (pa_cons (pv 3) (pa_cons (pv 4) (pa_cons (pv 5) pa_nil))))) pa_nil)))
 (pss_cons (ps_expr (pe_bm PySem.F.plainAttrs_list PySem.F.slot_list_append PySem.F.type_list_append mt_append (pe_fld (pv 0) rfl) (pa_cons pe_bl pa_nil)))
 (pss_one (ps_expr (pe_bm PySem.F.plainAttrs_list PySem.F.slot_list_append PySem.F.type_list_append mt_append (pe_fld (pv 0) rfl) (pa_cons pe_bl pa_nil))))))))))))))), ?_⟩
  obtain ⟨_, G, a, dx, tl, ol, dl, ll, p, ts, ls, wl, wv, w0, l, k, rfl, rd, hok, herr⟩ := h
  have : Cur G H := ⟨rd.s⟩
  have hwl : wv.length = l.length + 1 := rd.pr.length
  refine w_cut (fun σ' H' => H' = H ∧ σ' = L2.start N_Page_read_item [.ref a, .str (rkS k), .ref wl] ∧ ∃ u v r, l = u :: v :: r ∧ rkOk k r = true) ?_ ?_
  · walk_at "w"
    refine u_lenL (SqL.of (on rd.l)) ?_
    walk_at "w"
    rw [hwl]
    walk_at "w"
    have bad : rkF k p l = invalid → ∀ d, Nxt [] G H fun G' H' => G' d = some (.xd [("reason", .str "invalid line")]) → E (.ref (ga K "Unreadable")) (some d) H' := fun e => herr.at (Stp.refl rd.s) e
    refine w_ite (fun hb => ?_) (fun hb => ?_)
    · walk_at "w"
      have hb := V.int.inj (of_decide_eq_true hb)
      refine u_need (fun _ => ?_) (fun e => by cases e)
      walk_at "w"
      match l, hb with
      | [u, v, x], _ => exact ⟨u, v, [x], rfl, by cases k <;> rfl⟩
      | [], h => exact absurd h (by simp)
      | [_], h => exact absurd h (by simp)
      | [_, _], h => exact absurd h (by simp)
      | _ :: _ :: _ :: _ :: r, h => exact absurd h (by simp only [List.length_cons]; omega)
    · have hb : ¬ ((l.length + 1 : Nat) : Int) = 4 := fun e => of_decide_eq_false hb (congrArg V.int e)
      walk_at "w"
      refine u_lenL (SqL.of (on rd.l)) ?_
      walk_at "w"
      rw [hwl]
      walk_at "w"
      refine w_ite (fun hb2 => ?_) (fun hb2 => ?_)
      · have hb2 := V.int.inj (of_decide_eq_true hb2)
        walk_at "w"
        match l, hb2 with
        | [u, v], _ =>
          cases k with
          | item => exact u_need (fun e => by cases e) (fun _ => bad rfl)
          | radio => exact u_need (fun e => by cases e) (fun _ => bad rfl)
          | label =>
            refine u_need (fun _ => ?_) (fun e => by cases e)
            walk_at "w"
            exact ⟨u, v, [], rfl, rfl⟩
        | [], h => exact absurd h (by simp)
        | [_], h => exact absurd h (by simp)
        | _ :: _ :: _ :: r, h => exact absurd h (by simp only [List.length_cons]; omega)
      · have hb2 : ¬ ((l.length + 1 : Nat) : Int) = 3 := fun e => of_decide_eq_false hb2 (congrArg V.int e)
        walk_at "w"
        refine u_need (fun e => by cases e) (fun _ => bad ?_)
        match l, hb, hb2 with
        | [], _, _ => rfl
        | [_], _, _ => rfl
        | [_, _], _, h => exact absurd rfl h
        | [_, _, _], h, _ => exact absurd rfl h
        | _ :: _ :: _ :: _ :: r, _, _ => cases k <;> exact rkF_bad (by simp [rkOk])
  rintro σ0 H0 ⟨rfl, rfl, u, v, r, rfl, hrk⟩
  rw [rkF_ok hrk] at hok herr
  obtain ⟨x0, pu, pv, xr, rfl, hu, hv, hxr⟩ : ∃ x0 pu pv xr, wv = x0 :: .ref pu :: .ref pv :: xr ∧ SqT K G pu (un u) ∧ SqT K G pv (un v) ∧ Paired (WdA K G) xr r := by
    cases rd.pr with
    | cons h0 t =>
      cases t with
      | cons h1 t =>
        cases t with
        | cons h2 t =>
          obtain ⟨p1, rfl, h1⟩ := h1
          obtain ⟨p2, rfl, h2⟩ := h2
          exact ⟨_, p1, p2, _, rfl, h1, h2, t⟩
  have hp8 := rd.w.len
  have htl : ts.length = p.items.length := rd.m.it.length
  walk_at "w"
  refine w_ixL (SqL.of (on rd.l)) (atI_nat (j := 1) rfl) ?_
  walk_at "w"
  refine u_isName hu (rd.z u (by simp)) fun G1 H1 st1 _ _ => ?_
  walk_at "w"
  refine u_need (fun hn => ?_) (fun hn => herr.at st1 (by rw [newName_bad hn]; rfl))
  have rd1 := rd.step st1
  walk_at "w"
  refine u_mth (on rd1.i) fm_Page_number ?_
  walk_at "w"
  refine w_ixL (SqL.of (on rd1.l)) (atI_nat (j := 1) rfl) ?_
  walk_at "w"
  refine u_numb rd1.pg (onT hu) (by omega) ?_
  walk_at "w"
  rw [idx_neg]
  refine u_need (fun hx => ?_) (fun hx => herr.at st1 (by rw [newName_used hn hx]; rfl))
  have hnn : newName p u = .ok () := newName_ok hn hx
  have hno : indexIn (itemNames p) u = none := by
    cases e : indexIn (itemNames p) u with
    | none => rfl
    | some i => rw [e] at hx; cases hx
  rw [hnn] at hok herr
  have hok : OkK K G H0 tl ol dl ll (bindReason (orReason "unknown parent" (readParent p v)) fun q => bindReason (rkK p k r) fun kd => addItem p u q kd) Q := hok
  have herr : ErrK K G H0 (bindReason (orReason "unknown parent" (readParent p v)) fun q => bindReason (rkK p k r) fun kd => addItem p u q kd) E := herr
  walk_at "w"
  refine u_mth (on rd1.i) fm_Page_number ?_
  walk_at "w"
  refine w_ixL (SqL.of (on rd1.l)) (atI_nat (j := 2) rfl) ?_
  walk_at "w"
  refine u_numb rd1.pg (onT hv) (by omega) ?_
  walk_at "w"
  refine w_cut (fun σ' H' => ∃ G' q, σ' = [some (.ref a), some (.str (rkS k)), some (.ref wl), some (.int (parI q)), none, none] ∧ Stp [] G H0 G' H' ∧ readParent p v = some q) ?_ ?_
  · walk_at "w"
    refine u_fld (on rd1.i) (cl_Page T) (na_Page_things T) fl_Page_things ?_
    walk_at "w"
    refine u_lenL rd1.m.t.sqL ?_
    walk_at "w"
    rw [htl]
    refine w_ite (fun hb => ?_) (fun hb => ?_)
    · have he : p.items = [] := List.eq_nil_of_length_eq_zero (by have := V.int.inj (of_decide_eq_true hb); omega)
      have hrp : readParent p v = if v = units "-" then some none else none := by
        unfold readParent
        rw [he]; rfl
      walk_at "w"
      refine w_ixL (SqL.of (on rd1.l)) (atI_nat (j := 2) rfl) ?_
      walk_at "w"
      refine u_codes (by decide +kernel) fun pc G2 H2 st2 _ _ hpc => ?_
      walk_at "w"
      refine u_eqU (H := H2) (onT hv) (SqT.of (on hpc)) ?_
      walk_at "w"
      rw [lit_uz]
      refine u_need (fun hx => ?_) (fun hx => herr.at (st1.trans st2) (by rw [hrp, if_neg (of_decide_eq_false hx)]; rfl))
      walk_at "w"
      refine ⟨G2, none, ?_, st1.trans st2, by rw [hrp, if_pos (of_decide_eq_true hx)]⟩
      have e : indexIn (itemNames p) v = none := by unfold itemNames; rw [he]; rfl
      rw [e]; rfl
    · have he : p.items.isEmpty = false := by
        cases e : p.items with
        | nil => rw [e] at hb; exact absurd hb (by decide)
        | cons _ _ => rfl
      have hrp : readParent p v = (indexIn (itemNames p) v).bind fun i => if canHold (kindAt p i) then some (some i) else none := by
        unfold readParent
        rw [he]; rfl
      walk_at "w"
      rw [idx_pos]
      cases hi : indexIn (itemNames p) v with
      | none =>
        refine iteF ?_
        walk_at "w"
        refine u_need (fun e => by cases e) (fun _ => herr.at st1 (by rw [hrp, hi]; rfl))
      | some i =>
        obtain ⟨x, hx⟩ := item_at (idx_lt hi)
        refine iteT ?_
        walk_at "w"
        refine u_mth (on rd1.i) fm_Page_kind ?_
        walk_at "w"
        refine u_kind rd1.pg hx ?_
        walk_at "w"
        refine u_in (.inr (tt_TICKED T _)) rfl rfl ?_
        walk_at "w"
        rw [tick_in]
        refine u_need (fun hb => ?_) (fun hb => herr.at st1 ?_)
        · walk_at "w"
          refine ⟨G1, some i, rfl, st1, ?_⟩
          rw [hrp, hi]
          show (if canHold (kindAt p i) = true then _ else _) = _
          rw [hold_tick, kind_at hx]
          exact if_pos hb
        · rw [hrp, hi]
          show bindReason (orReason _ (if canHold (kindAt p i) = true then _ else _)) _ = _
          rw [hold_tick, kind_at hx, if_neg (by rw [show (!canTick x.kind) = false from hb]; decide)]
          rfl
  rintro σ2 H2 ⟨G2, q, rfl, st2, hq⟩
  have rd2 := rd.step st2
  have : Cur G2 H2 := ⟨st2.s⟩
  have : Dn G G2 := ⟨st2.g⟩
  rw [hq] at hok herr
  have hok : OkK K G H0 tl ol dl ll (bindReason (rkK p k r) fun kd => addItem p u q kd) Q := hok
  have herr : ErrK K G H0 (bindReason (rkK p k r) fun kd => addItem p u q kd) E := herr
  have hlw : (x0 :: V.ref pu :: V.ref pv :: xr).length = r.length + 3 := by
    have := rd2.pr.length
    simpa using this
  walk_at "w"
  refine w_cut (fun σ' H' => ∃ G' m, σ' = [some (.ref a), some (.str (rkS k)), some (.ref wl), some (.int (parI q)), some (.str (rkS k)), some (.ref m)] ∧ Stp [] G H0 G' H' ∧ SqT K G' m (un (r.headD []))) ?_ ?_
  · walk_at "w"
    refine u_lenL (SqL.of (on rd2.l)) ?_
    walk_at "w"
    rw [hlw]
    rcases rk_shape hxr hrk with ⟨x, px, rfl, rfl, hx⟩ | ⟨rfl, rfl, rfl⟩
    · refine iteT ?_
      walk_at "w"
      refine w_ixL (SqL.of (on rd2.l)) (atI_nat (j := 3) rfl) ?_
      walk_at "w"
      exact ⟨G2, px, rfl, st2, upT hx⟩
    · refine iteF ?_
      walk_at "w"
      refine u_tup (Nat.zero_le _) fun m G3 H3 st3 _ _ hm => ?_
      walk_at "w"
      exact ⟨G3, m, rfl, st2.trans st3, SqT.of hm⟩
  rintro σ3 H3 ⟨G3, m, rfl, st3, hm⟩
  have rd3 := rd.step st3
  have : Cur G3 H3 := ⟨st3.s⟩
  have : Dn G G3 := ⟨st3.g⟩
  refine w_cut (fun σ' H' => ∃ G' kd m, σ' = [some (.ref a), some (.str (rkS k)), some (.ref wl), some (.int (parI q)), some (.str (kwS kd)), some (.ref m)] ∧ Stp [] G H0 G' H' ∧ SqT K G' m (un (moreU (itemNames p) kd)) ∧ rkK p k r = .ok kd) ?_ ?_
  · rcases rk_shape hxr hrk with ⟨x, px, rfl, rfl, hx⟩ | ⟨rfl, rfl, rfl⟩
    · have hm : SqT K G3 m (un x) := hm
      cases k with
      | item =>
        have herr : ErrK K G H0 (bindReason (orReason "unknown kind" (R7253f.Spec.readKind x)) fun kd => addItem p u q kd) E := herr
        walk_at "w"
        refine iteT ?_
        walk_at "w"
        refine w_ixL (SqL.of (on rd3.l)) (atI_nat (j := 3) rfl) ?_
        walk_at "w"
        refine u_known (zs := ["plain", "link", "button", "check"]) (upT hx) (tt_KINDS T _) (by decide +kernel) (by decide) fun G4 H4 st4 _ _ => ?_
        walk_at "w"
        rw [kinds_known]
        cases hk : R7253f.Spec.readKind x with
        | none =>
          walk_at "w"
          exact u_need (fun e => absurd e (by decide)) (fun _ => herr.at (st3.trans st4) (by rw [hk]; rfl))
        | some kd =>
          have hkm := kinds_more hk (itemNames p)
          walk_at "w"
          refine u_need (fun _ => ?_) (fun e => absurd e (by simpa using fun z => hkm.2 z))
          walk_at "w"
          refine u_tup (Nat.zero_le _) fun m' G5 H5 st5 _ _ hm' => ?_
          walk_at "w"
          refine ⟨G5, kd, m', rfl, (st3.trans st4).trans st5, ?_, ?_⟩
          · rw [hkm.1]; exact SqT.of hm'
          · show orReason _ (R7253f.Spec.readKind x) = _
            rw [hk]; rfl
      | radio =>
        walk_at "w"
        refine iteF ?_
        walk_at "w"
        refine iteT ?_
        walk_at "w"
        refine u_isName hm (rd.z x (by simp)) fun G4 H4 st4 _ _ => ?_
        walk_at "w"
        refine u_need (fun hn => ?_) (fun hn => herr.at (st3.trans st4) ?_)
        · walk_at "w"
          refine ⟨G4, .radio x, m, rfl, st3.trans st4, upT hm, ?_⟩
          show bindReason (demand (isName x) _) _ = _
          rw [hn]; rfl
        · show bindReason (bindReason (demand (isName x) _) _) _ = _
          rw [hn]; rfl
      | label =>
        walk_at "w"
        refine iteF ?_
        walk_at "w"
        refine iteF ?_
        walk_at "w"
        refine u_lenL (SqL.of (on rd3.l)) ?_
        walk_at "w"
        refine iteF ?_
        walk_at "w"
        refine u_mth (on rd3.i) fm_Page_number ?_
        walk_at "w"
        refine u_numb rd3.pg (onT hm) (by omega) ?_
        walk_at "w"
        rw [idx_pos]
        cases hi : indexIn (itemNames p) x with
        | none => exact u_need (fun e => by cases e) (fun _ => herr.at st3 (by show bindReason (bindReason (orReason _ (indexIn (itemNames p) x)) _) _ = _; rw [hi]; rfl))
        | some i =>
          refine u_need (fun _ => ?_) (fun e => by cases e)
          walk_at "w"
          refine ⟨G3, .label (some i), m, rfl, st3, ?_, ?_⟩
          · have e : moreU (itemNames p) (.label (some i)) = x := by
              show (itemNames p).getD i [] = x
              rw [List.getD_eq_getElem?_getD, idx_some hi]; rfl
            rw [e]; exact hm
          · show bindReason (orReason _ (indexIn (itemNames p) x)) _ = _
            rw [hi]; rfl
    · walk_at "w"
      refine iteF ?_
      walk_at "w"
      refine iteF ?_
      walk_at "w"
      refine u_lenL (SqL.of (on rd3.l)) ?_
      walk_at "w"
      refine iteT ?_
      walk_at "w"
      refine u_need (fun _ => ?_) (fun e => by cases e)
      walk_at "w"
      exact ⟨G3, .label none, m, rfl, st3, hm, rfl⟩
  rintro σ4 H4 ⟨G4, kd, m, rfl, st4, hm, hkd⟩
  have rd4 := rd.step st4
  have : Cur G4 H4 := ⟨st4.s⟩
  have : Dn G G4 := ⟨st4.g⟩
  rw [hkd] at hok herr
  have hok : OkK K G H0 tl ol dl ll (addItem p u q kd) Q := hok
  have herr : ErrK K G H0 (addItem p u q kd) E := herr
  walk_at "w"
  refine u_fld (on rd4.i) (cl_Page T) (na_Page_things T) fl_Page_things ?_
  walk_at "w"
  refine u_lenL rd4.m.t.sqL ?_
  walk_at "w"
  rw [htl]
  refine u_need (fun h8 => ?_) (fun h8 => herr.at st4 ?_)
  rotate_left
  · have h8 : ¬ p.items.length < maxItems := by have := of_decide_eq_false h8; show ¬ _ < 8; omega
    unfold addItem
    rw [decide_eq_false h8]; rfl
  have h8 : p.items.length < maxItems := by have := of_decide_eq_true h8; show _ < 8; omega
  have hadd : addItem p u q kd = .ok { p with items := p.items ++ [⟨u, q, kd, false, false⟩] } := by
    unfold addItem
    rw [decide_eq_true h8]; rfl
  have mm := rd4.m
  walk_at "w"
  refine u_fld (on rd4.i) (cl_Page T) (na_Page_things T) fl_Page_things ?_
  walk_at "w"
  refine u_bmL mm.t.h ?_
  walk_at "w"
  refine w_ixL (SqL.of (on rd4.l)) (atI_nat (j := 1) rfl) ?_
  walk_at "w"
  refine u_tup (by show 4 ≤ sizeLine; decide) fun t5 G5 H5 st5 _ _ ht5 => ?_
  walk_at "w"
  have mm5 := mm.nil st5
  refine u_app mm5.t (by exact lst_le (by omega)) fun G6 H6 st6 _ _ mt6 => ?_
  walk_at "w"
  have i6 : PgI K G6 a dx tl ol dl ll := st6.g _ _ (st5.g _ _ rd4.i)
  have mo6 := st6.mu mm5.o (by simpa using mm.to.symm)
  have md6 := st6.mu mm5.d (by simpa using mm.td.symm)
  have ml6 := st6.mu mm5.l (by simpa using mm.tl.symm)
  refine u_fld (on i6) (cl_Page T) (na_Page_on T) fl_Page_on ?_
  walk_at "w"
  refine u_bmL mo6.h ?_
  walk_at "w"
  refine u_app mo6 (by unfold onsV; rw [List.length_map]; exact lst_le (by omega)) fun G7 H7 st7 _ _ mo7 => ?_
  walk_at "w"
  have i7 : PgI K G7 a dx tl ol dl ll := st7.g _ _ i6
  have mt7 := st7.mu mt6 (by simpa using mm.to)
  have md7 := st7.mu md6 (by simpa using mm.od.symm)
  have ml7 := st7.mu ml6 (by simpa using mm.ol.symm)
  refine u_fld (on i7) (cl_Page T) (na_Page_disabled T) fl_Page_disabled ?_
  walk_at "w"
  refine u_bmL md7.h ?_
  walk_at "w"
  refine u_app md7 (by unfold offsV; rw [List.length_map]; exact lst_le (by omega)) fun G8 H8 st8 _ _ md8 => ?_
  walk_at "w"
  have mt8 := st8.mu mt7 (by simpa using mm.td)
  have mo8 := st8.mu mo7 (by simpa using mm.od)
  have ml8 := st8.mu ml7 (by simpa using mm.dl.symm)
  have g48 : Same G4 G8 := ((st5.g.trans st6.g).trans st7.g).trans st8.g
  have g58 : Same G5 G8 := (st6.g.trans st7.g).trans st8.g
  refine Nxt.go (G' := G8) (hok _ hadd (ts ++ [.ref t5]) ls) ?_ ?_
  · have w : ∀ {x : Addr} {Ga Ha Gb Hb : Hp}, x ∈ [tl, ol, dl, ll] → Stp [x] Ga Ha Gb Hb → Stp [tl, ol, dl, ll] Ga Ha Gb Hb := fun hx s => s.weak fun b hb => by rw [List.mem_singleton.mp hb]; exact hx
    exact (((st4.nil.trans st5.nil).trans (w (by simp) st6)).trans (w (by simp) st7)).trans (w (by simp) st8)
  · have hns : itemNames { p with items := p.items ++ [⟨u, q, kd, false, false⟩] } = itemNames p ++ [u] := by unfold itemNames; rw [List.map_append]; rfl
    have hmore : ∀ (kd : SKind), (∀ c, kd = .label (some c) → c < p.items.length) → moreU (itemNames p ++ [u]) kd = moreU (itemNames p) kd := by
      intro kd hc
      cases kd with
      | label o =>
        cases o with
        | none => rfl
        | some c =>
          have := hc c rfl
          show (itemNames p ++ [u]).getD c [] = (itemNames p).getD c []
          rw [List.getD_eq_getElem?_getD, List.getD_eq_getElem?_getD, List.getElem?_append_left (by rw [names_len]; exact this)]
      | _ => rfl
    have hkc : ∀ c, kd = .label (some c) → c < p.items.length := by
      rintro c rfl
      cases k with
      | item =>
        have hkd : orReason _ (R7253f.Spec.readKind (r.headD [])) = .ok (.label (some c)) := hkd
        cases hk : R7253f.Spec.readKind (r.headD []) with
        | none => rw [hk] at hkd; cases hkd
        | some kk =>
          rw [hk] at hkd
          cases hkd
          have := (kinds_more hk ([[0], [0]] : List Units)).2
          unfold R7253f.Spec.readKind at hk
          split at hk
          · cases hk
          split at hk
          · cases hk
          split at hk
          · cases hk
          split at hk
          · cases hk
          cases hk
      | radio =>
        have hkd : bindReason (demand (isName (r.headD [])) "invalid name") (fun _ => .ok (.radio (r.headD []))) = .ok (R7253f.Spec.Kind.label (some c)) := hkd
        cases hk : isName (r.headD []) with
        | true => rw [hk] at hkd; cases hkd
        | false => rw [hk] at hkd; cases hkd
      | label =>
        match r, hkd with
        | [], h => cases h
        | x :: _, h =>
          have h : bindReason (orReason "unknown item" (indexIn (itemNames p) x)) (fun i => .ok (.label (some i))) = .ok (R7253f.Spec.Kind.label (some c)) := h
          cases hi : indexIn (itemNames p) x with
          | none => rw [hi] at h; cases h
          | some i => rw [hi] at h; cases h; exact idx_lt hi
    refine ⟨mt8, ?_, ?_, ml8, ?_, Paired.mapP rd4.m.li fun _ _ => LiA.mono g48, mm.to, mm.td, mm.tl, mm.od, mm.ol, mm.dl⟩
    · have e : onsV { p with items := p.items ++ [⟨u, q, kd, false, false⟩] } = onsV p ++ [.bl false] := by unfold onsV; rw [List.map_append]; rfl
      rw [e]; exact mo8
    · have e : offsV { p with items := p.items ++ [⟨u, q, kd, false, false⟩] } = offsV p ++ [.bl false] := by unfold offsV; rw [List.map_append]; rfl
      rw [e]; exact md8
    · rw [hns]
      refine pairApp ?_ (.cons ⟨t5, pu, m, rfl, SqT.of (g58 _ _ ht5), Same.sqT (st4.g.trans g48) hu, ?_⟩ .nil)
      · refine paired_of rd4.m.it fun i v x hv hx h => ?_
        obtain ⟨t, n, m, e, h1, h2, h3⟩ := h
        refine ⟨t, n, m, e, Same.sqT g48 h1, Same.sqT g48 h2, ?_⟩
        rw [hmore x.kind (fun c hc => ?_)]
        · exact Same.sqT g48 h3
        · have := rd.w.lab i c x hx hc
          have := (List.getElem?_eq_some_iff.mp hx).1
          omega
      · rw [hmore kd hkc]; exact Same.sqT g48 hm
end
end Ck
namespace Ck
open PySem PySem.Spec PyProof.Rows L2
open He (ga ma fAd)
open R7253f.Spec (Units units isName indexIn itemNames kindAt sameGroup isControl canTick canHold isCheck bindReason orReason demand invalid readParent addItem newName readItem readRadio readLabel readTicked readDisabled readListener readLine readWay readAction itemOn itemOff groupOn maxItems isClick clickers lineError readLines)
section
variable {K : PySem.W.Frag} {G H G' H' : Hp} {Q : VK} {E : XK} {R : Except Units SPage} {tl ol dl ll : Addr}
theorem OkK.step (h : OkK K G H tl ol dl ll R Q) (st : Stp [] G H G' H') : OkK K G' H' tl ol dl ll R Q := fun p' e ts' ls' G2 H2 s2 _ c m => (h p' e ts' ls').go (st.nil.trans s2) m
theorem ErrK.step (h : ErrK K G H R E) (st : Stp [] G H G' H') : ErrK K G' H' R E := fun r e o d G2 H2 s2 _ c m => (h r e o d).go (st.trans s2) m
end
theorem ixN_nat {n j : Nat} (h : j < n) : ixN n (j : Int) = some j := by
  unfold ixN
  rw [if_pos (by omega), if_pos (by omega)]; rfl
/-! ### marks -/
theorem mem_group {p : SPage} {i : Nat} (hi : i < p.items.length) (hct : canTick (kindAt p i) = true) : (groupL p i).any (itemOn p) = (itemOn p i || groupOn p i) := by
  unfold groupL groupOn
  cases hk : kindAt p i with
  | check =>
    have e : ∀ j, sameGroup p i j = false := fun j => by unfold sameGroup; rw [hk]
    simp [isCheck, e]
  | radio g =>
    have e : sameGroup p i i = true := by unfold sameGroup; rw [hk]; simp
    have e2 : isCheck (.radio g) = false := rfl
    rw [e2]
    simp only [Bool.false_eq_true, if_false, List.any_filter]
    cases ho : itemOn p i with
    | false => rw [Bool.false_or]
    | true =>
      rw [Bool.true_or, List.any_eq_true]
      exact ⟨i, List.mem_range.mpr hi, by rw [e, ho]; rfl⟩
  | _ => rw [hk] at hct; cases hct
theorem map_mod {β : Type} {f : SItem → SItem} {g : SItem → β} {v : β} (hg : ∀ x, g (f x) = v) : ∀ (l : List SItem) (i : Nat), (l.modify i f).map g = (l.map g).set i v
  | [], i => by simp
  | x :: l, 0 => by simp [hg]
  | x :: l, i + 1 => by simp [map_mod hg l i]
theorem map_mod2 {β : Type} {f : SItem → SItem} {g : SItem → β} (hg : ∀ x, g (f x) = g x) : ∀ (l : List SItem) (i : Nat), (l.modify i f).map g = l.map g
  | [], i => by simp
  | x :: l, 0 => by simp [hg]
  | x :: l, i + 1 => by simp [map_mod2 hg l i]
theorem pr_mod {R S : V → SItem → Prop} {f : SItem → SItem} (h1 : ∀ a y, R a y → S a (f y)) (h2 : ∀ a y, R a y → S a y) : ∀ {ts : List V} {l : List SItem} (i : Nat), Paired R ts l → Paired S ts (l.modify i f)
  | _, _, i, .nil => by simp; exact .nil
  | _, _, 0, .cons r t => by simp; exact .cons (h1 _ _ r) (Paired.mapP t h2)
  | _, _, i + 1, .cons r t => by simp; exact .cons (h2 _ _ r) (pr_mod h1 h2 i t)
def markP (b : Bool) (p : SPage) (i : Nat) : SPage := { p with items := p.items.modify i fun x => if b then { x with on := true } else { x with off := true } }
theorem mark_tick (p : SPage) (u : Units) : readTicked p [u] = bindReason (orReason "unknown item" (indexIn (itemNames p) u)) fun i => bindReason (demand (canTick (kindAt p i)) "it cannot be ticked") fun _ => bindReason (demand (!(itemOn p i || groupOn p i)) "it is ticked already") fun _ => .ok (markP true p i) := rfl
theorem mark_dis (p : SPage) (u : Units) : readDisabled p [u] = bindReason (orReason "unknown item" (indexIn (itemNames p) u)) fun i => bindReason (demand (isControl (kindAt p i)) "it cannot be disabled") fun _ => bindReason (demand (!itemOff p i) "it is disabled already") fun _ => .ok (markP false p i) := rfl
theorem mark_names (b : Bool) (p : SPage) (i : Nat) : itemNames (markP b p i) = itemNames p := map_mod2 (fun x => by cases b <;> rfl) _ _
theorem mark_on (p : SPage) (i : Nat) : onsV (markP true p i) = (onsV p).set i (.bl true) := map_mod (f := fun x => { x with on := true }) (g := fun x => V.bl x.on) (fun x => rfl) p.items i
theorem mark_on2 (p : SPage) (i : Nat) : onsV (markP false p i) = onsV p := map_mod2 (f := fun x => { x with off := true }) (g := fun x => V.bl x.on) (fun x => rfl) p.items i
theorem mark_off (p : SPage) (i : Nat) : offsV (markP false p i) = (offsV p).set i (.bl true) := map_mod (f := fun x => { x with off := true }) (g := fun x => V.bl x.off) (fun x => rfl) p.items i
theorem mark_off2 (p : SPage) (i : Nat) : offsV (markP true p i) = offsV p := map_mod2 (f := fun x => { x with on := true }) (g := fun x => V.bl x.off) (fun x => rfl) p.items i
/-! ### listeners -/
theorem way_known (w : Units) : known ["down", "up"] w = match readWay w with | some c => wayS c | none => "" := by
  unfold readWay
  simp only [known_cons, known_nil, lit_uz]
  by_cases h1 : units "down" = w
  · rw [if_pos h1, if_pos h1.symm]; rfl
  rw [if_neg h1, if_neg (Ne.symm h1)]
  by_cases h2 : units "up" = w
  · rw [if_pos h2, if_pos h2.symm]; rfl
  rw [if_neg h2, if_neg (Ne.symm h2)]
def bareA (a : Units) : Option SAct := if a = units "prevent" then some .prevent else if a = units "stop" then some .stop else if a = units "halt" then some .halt else none
theorem bare_known (w : Units) : known ["prevent", "stop", "halt"] w = match bareA w with | some c => actS c | none => "" := by
  unfold bareA
  simp only [known_cons, known_nil, lit_uz]
  by_cases h1 : units "prevent" = w
  · rw [if_pos h1, if_pos h1.symm]; rfl
  rw [if_neg h1, if_neg (Ne.symm h1)]
  by_cases h2 : units "stop" = w
  · rw [if_pos h2, if_pos h2.symm]; rfl
  rw [if_neg h2, if_neg (Ne.symm h2)]
  by_cases h3 : units "halt" = w
  · rw [if_pos h3, if_pos h3.symm]; rfl
  rw [if_neg h3, if_neg (Ne.symm h3)]
theorem bare_none {w : Units} {c : SAct} (h : bareA w = some c) : actT c = none := by
  unfold bareA at h
  split at h
  · cases h; rfl
  split at h
  · cases h; rfl
  split at h
  · cases h; rfl
  cases h
inductive AK where
  | click
  | tk (b : Bool)
  | ds (b : Bool)
def akS : AK → Str
  | .click => "click"
  | .tk true => "tick"
  | .tk false => "untick"
  | .ds true => "disable"
  | .ds false => "enable"
def akA : AK → Nat → SAct
  | .click, i => .click i
  | .tk true, i => .tick i
  | .tk false, i => .untick i
  | .ds true, i => .disable i
  | .ds false, i => .enable i
def akD : AK → SKind → Except Units Unit
  | .click, _ => .ok ()
  | .tk _, kd => demand (canTick kd) "it cannot be ticked"
  | .ds _, kd => demand (isControl kd) "it cannot be disabled"
def aimed (a : Units) : Option AK := if a = units "click" then some .click else if a = units "tick" then some (.tk true) else if a = units "untick" then some (.tk false) else if a = units "disable" then some (.ds true) else if a = units "enable" then some (.ds false) else none
theorem aimed_known (w : Units) : known ["click", "tick", "untick", "disable", "enable"] w = match aimed w with | some k => akS k | none => "" := by
  unfold aimed
  simp only [known_cons, known_nil, lit_uz]
  by_cases h1 : units "click" = w
  · rw [if_pos h1, if_pos h1.symm]; rfl
  rw [if_neg h1, if_neg (Ne.symm h1)]
  by_cases h2 : units "tick" = w
  · rw [if_pos h2, if_pos h2.symm]; rfl
  rw [if_neg h2, if_neg (Ne.symm h2)]
  by_cases h3 : units "untick" = w
  · rw [if_pos h3, if_pos h3.symm]; rfl
  rw [if_neg h3, if_neg (Ne.symm h3)]
  by_cases h4 : units "disable" = w
  · rw [if_pos h4, if_pos h4.symm]; rfl
  rw [if_neg h4, if_neg (Ne.symm h4)]
  by_cases h5 : units "enable" = w
  · rw [if_pos h5, if_pos h5.symm]; rfl
  rw [if_neg h5, if_neg (Ne.symm h5)]
theorem aimed_read (p : SPage) (a t : Units) : readAction p [a, t] = match aimed a with | some k => bindReason (orReason "unknown item" (indexIn (itemNames p) t)) fun i => bindReason (akD k (kindAt p i)) fun _ => .ok (akA k i) | none => .error (units "unknown action") := by
  unfold aimed
  show (if a = units "click" then _ else if a = units "tick" then _ else if a = units "untick" then _ else if a = units "disable" then _ else if a = units "enable" then _ else _) = _
  split
  · rfl
  split
  · rfl
  split
  · rfl
  split
  · rfl
  split
  · rfl
  rfl
theorem akA_S (k : AK) (i : Nat) : actS (akA k i) = akS k := by cases k with | click => rfl | tk b => cases b <;> rfl | ds b => cases b <;> rfl
theorem akA_T (k : AK) (i : Nat) : actT (akA k i) = some i := by cases k with | click => rfl | tk b => cases b <;> rfl | ds b => cases b <;> rfl
theorem isClick_S (a : SAct) : decide (V.str (actS a) = V.str "click") = isClick a := by
  cases a with
  | prevent => show decide (V.str ("prevent" : Str) = V.str "click") = false; decide +kernel
  | stop => show decide (V.str ("stop" : Str) = V.str "click") = false; decide +kernel
  | halt => show decide (V.str ("halt" : Str) = V.str "click") = false; decide +kernel
  | click i => show decide (V.str ("click" : Str) = V.str "click") = true; decide +kernel
  | tick i => show decide (V.str ("tick" : Str) = V.str "click") = false; decide +kernel
  | untick i => show decide (V.str ("untick" : Str) = V.str "click") = false; decide +kernel
  | disable i => show decide (V.str ("disable" : Str) = V.str "click") = false; decide +kernel
  | enable i => show decide (V.str ("enable" : Str) = V.str "click") = false; decide +kernel
theorem act_ne (a : SAct) : actS a ≠ "" := by
  cases a with
  | prevent => show ("prevent" : Str) ≠ ""; decide +kernel
  | stop => show ("stop" : Str) ≠ ""; decide +kernel
  | halt => show ("halt" : Str) ≠ ""; decide +kernel
  | click i => show ("click" : Str) ≠ ""; decide +kernel
  | tick i => show ("tick" : Str) ≠ ""; decide +kernel
  | untick i => show ("untick" : Str) ≠ ""; decide +kernel
  | disable i => show ("disable" : Str) ≠ ""; decide +kernel
  | enable i => show ("enable" : Str) ≠ ""; decide +kernel
theorem way_ne (c : Bool) : wayS c ≠ "" := by cases c <;> decide +kernel
theorem ak_ne (k : AK) : akS k ≠ "" := by cases k with | click => decide +kernel | tk b => cases b <;> decide +kernel | ds b => cases b <;> decide +kernel
/-! ### lines -/
inductive LK where
  | rd (k : RK)
  | mark (b : Bool)
  | lis (b : Bool)
def lkS : LK → Str
  | .rd k => rkS k
  | .mark b => if b then "ticked" else "disabled"
  | .lis b => if b then "once" else "listen"
def lkF : LK → SPage → List Units → Except Units SPage
  | .rd k => rkF k
  | .mark b => fun p l => if b then readTicked p l else readDisabled p l
  | .lis b => fun p => readListener p b
def lineK (w : Units) : Option LK := if w = units "item" then some (.rd .item) else if w = units "radio" then some (.rd .radio) else if w = units "label" then some (.rd .label) else if w = units "ticked" then some (.mark true) else if w = units "disabled" then some (.mark false) else if w = units "listen" then some (.lis false) else if w = units "once" then some (.lis true) else none
theorem line_known (w : Units) : known ["item", "radio", "label", "ticked", "disabled", "listen", "once"] w = match lineK w with | some k => lkS k | none => "" := by
  unfold lineK
  simp only [known_cons, known_nil, lit_uz]
  by_cases h1 : units "item" = w
  · rw [if_pos h1, if_pos h1.symm]; rfl
  rw [if_neg h1, if_neg (Ne.symm h1)]
  by_cases h2 : units "radio" = w
  · rw [if_pos h2, if_pos h2.symm]; rfl
  rw [if_neg h2, if_neg (Ne.symm h2)]
  by_cases h3 : units "label" = w
  · rw [if_pos h3, if_pos h3.symm]; rfl
  rw [if_neg h3, if_neg (Ne.symm h3)]
  by_cases h4 : units "ticked" = w
  · rw [if_pos h4, if_pos h4.symm]; rfl
  rw [if_neg h4, if_neg (Ne.symm h4)]
  by_cases h5 : units "disabled" = w
  · rw [if_pos h5, if_pos h5.symm]; rfl
  rw [if_neg h5, if_neg (Ne.symm h5)]
  by_cases h6 : units "listen" = w
  · rw [if_pos h6, if_pos h6.symm]; rfl
  rw [if_neg h6, if_neg (Ne.symm h6)]
  by_cases h7 : units "once" = w
  · rw [if_pos h7, if_pos h7.symm]; rfl
  rw [if_neg h7, if_neg (Ne.symm h7)]
theorem line_read (p : SPage) (w : Units) (l : List Units) : readLine p (w :: l) = match lineK w with | some k => lkF k p l | none => invalid := by
  unfold lineK
  show (if w = units "item" then _ else if w = units "radio" then _ else if w = units "label" then _ else if w = units "ticked" then _ else if w = units "disabled" then _ else if w = units "listen" then _ else if w = units "once" then _ else _) = _
  split
  · exact rk_item p l
  split
  · exact rk_radio p l
  split
  · exact rk_label p l
  split
  · rfl
  split
  · rfl
  split
  · rfl
  split
  · rfl
  rfl
theorem lk_ne (k : LK) : lkS k ≠ "" := by
  cases k with
  | rd k => cases k <;> decide +kernel
  | mark b => cases b <;> decide +kernel
  | lis b => cases b <;> decide +kernel
theorem okz7 : (["item", "radio", "label", "ticked", "disabled", "listen", "once"] : List Str).all okz = true := by decide +kernel
end Ck
namespace Ck
open PySem PySem.Spec PyProof.Rows L2
open He (ga ma fAd)
section
variable {P : Program} {w : World} {K : PySem.W.Frag} {mg : Str → Option Value} {base : Heap}
open R7253f.Spec (Units units isName indexIn itemNames kindAt sameGroup isControl canTick canHold isCheck bindReason orReason demand invalid readParent addItem newName readItem readRadio readLabel readTicked readDisabled readListener readLine readWay readAction itemOn itemOff groupOn maxItems isClick clickers)
theorem count_at {α : Type} (g : α → Bool) : ∀ l : List α, ((List.range l.length).filter fun j => ((l[j]?).map g).getD false).length = (l.filter g).length
  | [] => rfl
  | x :: l => by
    have ih := count_at g l
    rw [List.length_cons, List.range_succ_eq_map, List.filter_cons, List.filter_map, List.filter_cons]
    have e : ((fun j => (((x :: l)[j]?).map g).getD false) ∘ Nat.succ) = fun j => ((l[j]?).map g).getD false := by
      funext j; rfl
    rw [e]
    cases h : g x with
    | true => simp [h, ih]
    | false => simp [h, ih]
theorem ls_shape {K : PySem.W.Frag} {G : Hp} {xr : List V} {r : List Units} (h : Paired (WdA K G) xr r) (hr : r.length = 1 ∨ r.length = 2) : (∃ x px, r = [x] ∧ xr = [.ref px] ∧ SqT K G px (un x)) ∨ (∃ x t px pt, r = [x, t] ∧ xr = [.ref px, .ref pt] ∧ SqT K G px (un x) ∧ SqT K G pt (un t)) := by
  cases h with
  | nil => simp at hr
  | cons h1 t =>
    obtain ⟨px, rfl, hx⟩ := h1
    cases t with
    | nil => exact .inl ⟨_, px, rfl, rfl, hx⟩
    | cons h2 t =>
      obtain ⟨pt, rfl, ht⟩ := h2
      cases t with
      | nil => exact .inr ⟨_, _, px, pt, rfl, rfl, hx, ht⟩
      | cons _ _ => simp only [List.length_cons] at hr; omega
theorem has_Page_read_mark (T : Txt K mg) : Has P w K mg base (XC P w) 6 ("Page", some "read_mark") ["self", "first", "words"] (spRMark K) := by
  refine mk_has (d := d_Page_read_mark) T 14 rfl rfl rfl sc_Page_read_mark (fun _ _ _ _ _ _ us hl => match us, hl with | [_, _, _], _ => rfl) (fun vs H Q E h => h.1) (fun cdv A outer s H vs Q E hr h => ?_)
  refine ⟨_, (pss_cons (ps_expr (pcall (has_need T) (hr.mono (by omega)) rfl (gl_need T) (L2N.passes_call (L2N.takes_of rfl rfl rfl rfl) (fun _ _ _ _ h => h)) (pa_cons (pe_cmpR op_eq (pe_callB c_len (by rfl) (fr_len T) PySem.boot_len (pa_cons (pv 2) pa_nil)) pe_int (nomark _)) (pa_cons pe_str pa_nil))))
 (pss_cons (ps_set (i := 3) sc_Page_read_mark.nd rfl (Or.inl rfl) (pmeth (pv 0) (cl_Page T) (me_Page_number T) (has_Page_number T) (hr.mono (by omega)) pass0 (pa_cons (pe_ix ix_list (pv 2) pe_int (fun _ _ => rfl)) pa_nil)))
 (pss_cons (ps_expr (pcall (has_need T) (hr.mono (by omega)) rfl (gl_need T) (L2N.passes_call (L2N.takes_of rfl rfl rfl rfl) (fun _ _ _ _ h => h)) (pa_cons (pe_cmpR op_ge (pv 3) pe_int (nomark _)) (pa_cons pe_str pa_nil))))
 (pss_one (ps_if (pt_cmpR op_eq (pv 1) pe_str (nomark _)) (pss_cons (ps_expr (pcall (has_need T) (hr.mono (by omega)) rfl (gl_need T) (L2N.passes_call (L2N.takes_of rfl rfl rfl rfl) (fun _ _ _ _ h => h)) (pa_cons (pe_cmpR op_in_seq (pmeth (pv 0) (cl_Page T) (me_Page_kind T) (has_Page_kind T) (hr.mono (by omega)) pass0 (pa_cons (pv 3) pa_nil)) (pgr (tg_TICKED T) rfl) (by rfl)) (pa_cons pe_str pa_nil))))
 (pss_cons (ps_expr (pcall (has_need T) (hr.mono (by omega)) rfl (gl_need T) (L2N.passes_call (L2N.takes_of rfl rfl rfl rfl) (fun _ _ _ _ h => h)) (pa_cons (pe_not (pmeth (pv 0) (cl_Page T) (me_Page_is_group_on T) (has_Page_is_group_on T) (hr.mono (by omega)) pass0 (pa_cons (pv 3) pa_nil))) (pa_cons pe_str pa_nil))))
 (pss_one (ps_asg pe_bl (pg_sub (pe_fld (pv 0) rfl) (pv 3) set_list))))) (pss_cons (ps_expr (pcall (has_need T) (hr.mono (by omega)) rfl (gl_need T) (L2N.passes_call (L2N.takes_of rfl rfl rfl rfl) (fun _ _ _ _ h => h)) (pa_cons (pe_cmpR op_in_seq (pmeth (pv 0) (cl_Page T) (me_Page_kind T) (has_Page_kind T) (hr.mono (by omega)) pass0 (pa_cons (pv 3) pa_nil)) (pgr (tg_CONTROLS T) rfl) (by rfl)) (pa_cons pe_str pa_nil))))
 (pss_cons (ps_expr (pcall (has_need T) (hr.mono (by omega)) rfl (gl_need T) (L2N.passes_call (L2N.takes_of rfl rfl rfl rfl) (fun _ _ _ _ h => h)) (pa_cons (pe_not (pe_ix ix_list (pe_fld (pv 0) rfl) (pv 3) (fun _ _ => rfl))) (pa_cons pe_str pa_nil))))
 (pss_one (ps_asg pe_bl (pg_sub (pe_fld (pv 0) rfl) (pv 3) set_list)))))))))), ?_⟩
  obtain ⟨_, G, a, dx, tl, ol, dl, ll, p, ts, ls, wl, wv, w0, l, b, rfl, rd, hok, herr⟩ := h
  have : Cur G H := ⟨rd.s⟩
  have hwl : wv.length = l.length + 1 := rd.pr.length
  have hp8 := rd.w.len
  have mm := rd.m
  walk_at "w"
  refine u_lenL (SqL.of (on rd.l)) ?_
  walk_at "w"
  rw [hwl]
  refine u_need (fun hb => ?_) (fun hb => herr.at (Stp.refl rd.s) ?_)
  rotate_left
  · have hb : ¬ ((l.length + 1 : Nat) : Int) = 2 := fun e => of_decide_eq_false hb (congrArg V.int e)
    match l, hb with
    | [], _ => cases b <;> rfl
    | [_], h => exact absurd rfl h
    | _ :: _ :: _, _ => cases b <;> rfl
  have hb := V.int.inj (of_decide_eq_true hb)
  obtain ⟨u, rfl⟩ : ∃ u, l = [u] := by
    match l, hb with
    | [], h => exact absurd h (by simp)
    | [u], _ => exact ⟨u, rfl⟩
    | _ :: _ :: r, h => exact absurd h (by simp only [List.length_cons]; omega)
  obtain ⟨x0, pu, rfl, hu⟩ : ∃ x0 pu, wv = [x0, .ref pu] ∧ SqT K G pu (un u) := by
    cases rd.pr with
    | cons h0 t =>
      cases t with
      | cons h1 t =>
        cases t with
        | nil =>
          obtain ⟨p1, rfl, h1⟩ := h1
          exact ⟨_, p1, rfl, h1⟩
  walk_at "w"
  refine u_mth (on rd.i) fm_Page_number ?_
  walk_at "w"
  refine w_ixL (SqL.of (on rd.l)) (atI_nat (j := 1) rfl) ?_
  walk_at "w"
  refine u_numb rd.pg (onT hu) (by omega) ?_
  walk_at "w"
  rw [idx_pos]
  cases hi : indexIn (itemNames p) u with
  | none => exact u_need (fun e => by cases e) (fun _ => herr.at (Stp.refl rd.s) (by cases b <;> simp only [if_true, Bool.false_eq_true, if_false, mark_tick, mark_dis, hi] <;> rfl))
  | some i =>
    have hil := idx_lt hi
    obtain ⟨x, hx⟩ := item_at hil
    have hk := kind_at hx
    have hon : (onsV p)[i]? = some (.bl (itemOn p i)) := by
      unfold onsV itemOn
      rw [List.getElem?_map, hx]; rfl
    have hoff : (offsV p)[i]? = some (.bl (itemOff p i)) := by
      unfold offsV itemOff
      rw [List.getElem?_map, hx]; rfl
    refine u_need (fun _ => ?_) (fun e => by cases e)
    walk_at "w"
    cases b with
    | true =>
      have ht : (if true = true then readTicked p [u] else readDisabled p [u]) = bindReason (demand (canTick (kindAt p i)) "it cannot be ticked") fun _ => bindReason (demand (!(itemOn p i || groupOn p i)) "it is ticked already") fun _ => .ok (markP true p i) := by
        rw [if_pos rfl, mark_tick, hi]; rfl
      rw [ht] at hok herr
      refine iteT ?_
      walk_at "w"
      refine u_mth (on rd.i) fm_Page_kind ?_
      walk_at "w"
      refine u_kind rd.pg hx ?_
      walk_at "w"
      refine u_in (.inr (tt_TICKED T _)) rfl rfl ?_
      walk_at "w"
      rw [tick_in, ← hk]
      refine u_need (fun hb => ?_) (fun hb => herr.at (Stp.refl rd.s) ?_)
      rotate_left
      · rw [show canTick (kindAt p i) = false from hb]; rfl
      have hb : canTick (kindAt p i) = true := hb
      rw [hb] at hok herr
      walk_at "w"
      refine u_mth (on rd.i) fm_Page_is_group_on ?_
      walk_at "w"
      refine u_grpOn rd.pg hil hb (by omega) fun G1 H1 st1 _ _ => ?_
      walk_at "w"
      rw [mem_group hil hb]
      refine u_need (fun hg => ?_) (fun hg => herr.at st1 ?_)
      rotate_left
      · show bindReason (demand (!(itemOn p i || groupOn p i)) _) _ = _
        rw [hg]; rfl
      have hfin : (bindReason (demand true "it cannot be ticked") fun _ => bindReason (demand (!(itemOn p i || groupOn p i)) "it is ticked already") fun _ => .ok (markP true p i)) = .ok (markP true p i) := by
        rw [hg]; rfl
      have rd1 := rd.step st1
      walk_at "w"
      refine u_fld (on rd1.i) (cl_Page T) (na_Page_on T) fl_Page_on ?_
      walk_at "w"
      refine u_set rd1.m.o (ixN_nat (by unfold onsV; rw [List.length_map]; exact hil)) fun G2 H2 st2 _ _ mo2 => ?_
      walk_at "w"
      refine Nxt.go (G' := G2) (hok _ hfin ts ls) (st1.nil.trans (st2.weak fun b hb => by rw [List.mem_singleton.mp hb]; simp)) ?_
      refine ⟨st2.mu rd1.m.t (by simpa using mm.to), by rw [mark_on]; exact mo2, by rw [mark_off2]; exact st2.mu rd1.m.d (by simpa using mm.od.symm), st2.mu rd1.m.l (by simpa using mm.ol.symm), ?_, Paired.mapP rd1.m.li fun _ _ => LiA.mono st2.g, mm.to, mm.td, mm.tl, mm.od, mm.ol, mm.dl⟩
      rw [mark_names]
      exact pr_mod (R := ItA K G1 (itemNames p)) (S := ItA K G2 (itemNames p)) (f := fun x => { x with on := true }) (fun a y h => ItA.mono st2.g h) (fun a y h => ItA.mono st2.g h) i rd1.m.it
    | false =>
      have ht : (if false = true then readTicked p [u] else readDisabled p [u]) = bindReason (demand (isControl (kindAt p i)) "it cannot be disabled") fun _ => bindReason (demand (!itemOff p i) "it is disabled already") fun _ => .ok (markP false p i) := by
        rw [if_neg (by decide), mark_dis, hi]; rfl
      rw [ht] at hok herr
      refine iteF ?_
      walk_at "w"
      refine u_mth (on rd.i) fm_Page_kind ?_
      walk_at "w"
      refine u_kind rd.pg hx ?_
      walk_at "w"
      refine u_in (.inr (tt_CONTROLS T _)) rfl rfl ?_
      walk_at "w"
      rw [ctl_in, ← hk]
      refine u_need (fun hb => ?_) (fun hb => herr.at (Stp.refl rd.s) ?_)
      rotate_left
      · rw [show isControl (kindAt p i) = false from hb]; rfl
      have hb : isControl (kindAt p i) = true := hb
      rw [hb] at hok herr
      walk_at "w"
      refine u_fld (on rd.i) (cl_Page T) (na_Page_disabled T) fl_Page_disabled ?_
      walk_at "w"
      refine w_ixL rd.m.d.sqL (atI_nat hoff) ?_
      walk_at "w"
      refine u_need (fun hg => ?_) (fun hg => herr.at (Stp.refl rd.s) ?_)
      rotate_left
      · show bindReason (demand (!itemOff p i) _) _ = _
        rw [hg]; rfl
      have hfin : (bindReason (demand true "it cannot be disabled") fun _ => bindReason (demand (!itemOff p i) "it is disabled already") fun _ => .ok (markP false p i)) = .ok (markP false p i) := by
        rw [hg]; rfl
      walk_at "w"
      refine u_fld (on rd.i) (cl_Page T) (na_Page_disabled T) fl_Page_disabled ?_
      walk_at "w"
      refine u_set rd.m.d (ixN_nat (by unfold offsV; rw [List.length_map]; exact hil)) fun G2 H2 st2 _ _ md2 => ?_
      walk_at "w"
      refine Nxt.go (G' := G2) (hok _ hfin ts ls) (st2.weak fun b hb => by rw [List.mem_singleton.mp hb]; simp) ?_
      refine ⟨st2.mu rd.m.t (by simpa using mm.td), by rw [mark_on2]; exact st2.mu rd.m.o (by simpa using mm.od), by rw [mark_off]; exact md2, st2.mu rd.m.l (by simpa using mm.dl.symm), ?_, Paired.mapP rd.m.li fun _ _ => LiA.mono st2.g, mm.to, mm.td, mm.tl, mm.od, mm.ol, mm.dl⟩
      rw [mark_names]
      exact pr_mod (R := ItA K G (itemNames p)) (S := ItA K G2 (itemNames p)) (f := fun x => { x with off := true }) (fun a y h => ItA.mono st2.g h) (fun a y h => ItA.mono st2.g h) i rd.m.it
theorem has_Page_read_listener (T : Txt K mg) : Has P w K mg base (XC P w) 6 ("Page", some "read_listener") ["self", "first", "words"] (spRLis K) := by
  refine mk_has (d := d_Page_read_listener) T 15 rfl rfl rfl sc_Page_read_listener (fun _ _ _ _ _ _ us hl => match us, hl with | [_, _, _], _ => rfl) (fun vs H Q E h => h.1) (fun cdv A outer s H vs Q E hr h => ?_)
  refine ⟨_, (pss_cons (ps_expr (pcall (has_need T) (hr.mono (by omega)) rfl (gl_need T) (L2N.passes_call (L2N.takes_of rfl rfl rfl rfl) (fun _ _ _ _ h => h)) (pa_cons (pe_cmpR op_in_seq (pe_callB c_len (by rfl) (fr_len T) PySem.boot_len (pa_cons (pv 2) pa_nil)) (pe_tup (pa_cons pe_int (pa_cons pe_int pa_nil))) (by rfl)) (pa_cons pe_str pa_nil))))
 (pss_cons (ps_set (i := 3) sc_Page_read_listener.nd rfl (Or.inl rfl) (pmeth (pv 0) (cl_Page T) (me_Page_number T) (has_Page_number T) (hr.mono (by omega)) pass0 (pa_cons (pe_ix ix_list (pv 2) pe_int (fun _ _ => rfl)) pa_nil)))
 (pss_cons (ps_expr (pcall (has_need T) (hr.mono (by omega)) rfl (gl_need T) (L2N.passes_call (L2N.takes_of rfl rfl rfl rfl) (fun _ _ _ _ h => h)) (pa_cons (pe_cmpR op_ge (pv 3) pe_int (nomark _)) (pa_cons pe_str pa_nil))))
 (pss_cons (ps_set (i := 4) sc_Page_read_listener.nd rfl (Or.inl rfl) (pcall (has_known_word T) (hr.mono (by omega)) rfl (gl_known_word T) pass0 (pa_cons (pe_ix ix_list (pv 2) pe_int (fun _ _ => rfl)) (pa_cons (pgr (tg_WAYS T) rfl) pa_nil))))
 (pss_cons (ps_expr (pcall (has_need T) (hr.mono (by omega)) rfl (gl_need T) (L2N.passes_call (L2N.takes_of rfl rfl rfl rfl) (fun _ _ _ _ h => h)) (pa_cons (pe_cmpR op_ne (pv 4) pe_str (nomark _)) (pa_cons pe_str pa_nil))))
 (Evl.pss_cut (ps_set (i := 5) sc_Page_read_listener.nd rfl (Or.inl rfl) (pcall (has_known_word T) (hr.mono (by omega)) rfl (gl_known_word T) pass0 (pa_cons (pe_ix ix_list (pv 2) pe_int (fun _ _ => rfl)) (pa_cons (pe_ifExp (pt_cmpR op_eq (pe_callB c_len (by rfl) (fr_len T) PySem.boot_len (pa_cons (pv 2) pa_nil)) pe_int (nomark _)) (pgr (tg_BARE T) rfl) (pgr (tg_AIMED T) rfl)) pa_nil))))
 (Evl.pss_cut (ps_expr (pcall (has_need T) (hr.mono (by omega)) rfl (gl_need T) (L2N.passes_call (L2N.takes_of rfl rfl rfl rfl) (fun _ _ _ _ h => h)) (pa_cons (pe_cmpR op_ne (pv 5) pe_str (nomark _)) (pa_cons pe_str pa_nil))))
 (pss_cons (ps_set (i := 6) sc_Page_read_listener.nd rfl (Or.inl rfl) (pgi (gi_NOBODY T) rfl))
 (Evl.pss_cut (ps_if (pt_cmpR op_eq (pe_callB c_len (by rfl) (fr_len T) PySem.boot_len (pa_cons (pv 2) pa_nil)) pe_int (nomark _)) (pss_cons (ps_set (i := 6) sc_Page_read_listener.nd rfl (Or.inl rfl) (pmeth (pv 0) (cl_Page T) (me_Page_number T) (has_Page_number T) (hr.mono (by omega)) pass0 (pa_cons (pe_ix ix_list (pv 2) pe_int (fun _ _ => rfl)) pa_nil)))
 (pss_cons (ps_expr (pcall (has_need T) (hr.mono (by omega)) rfl (gl_need T) (L2N.passes_call (L2N.takes_of rfl rfl rfl rfl) (fun _ _ _ _ h => h)) (pa_cons (pe_cmpR op_ge (pv 6) pe_int (nomark _)) (pa_cons pe_str pa_nil))))
 (pss_cons (ps_expr (pcall (has_need T) (hr.mono (by omega)) rfl (gl_need T) (L2N.passes_call (L2N.takes_of rfl rfl rfl rfl) (fun _ _ _ _ h => h)) (pa_cons (pe_or (pe_cmpR op_notIn_seq (pv 5) (pe_tup (pa_cons pe_str (pa_cons pe_str pa_nil))) (by rfl)) (pe_one (pe_cmpR op_in_seq (pmeth (pv 0) (cl_Page T) (me_Page_kind T) (has_Page_kind T) (hr.mono (by omega)) pass0 (pa_cons (pv 6) pa_nil)) (pgr (tg_TICKED T) rfl) (by rfl)))) (pa_cons pe_str pa_nil))))
 (pss_one (ps_expr (pcall (has_need T) (hr.mono (by omega)) rfl (gl_need T) (L2N.passes_call (L2N.takes_of rfl rfl rfl rfl) (fun _ _ _ _ h => h)) (pa_cons (pe_or (pe_cmpR op_notIn_seq (pv 5) (pe_tup (pa_cons pe_str (pa_cons pe_str pa_nil))) (by rfl)) (pe_one (pe_cmpR op_in_seq (pmeth (pv 0) (cl_Page T) (me_Page_kind T) (has_Page_kind T) (hr.mono (by omega)) pass0 (pa_cons (pv 6) pa_nil)) (pgr (tg_CONTROLS T) rfl) (by rfl)))) (pa_cons pe_str pa_nil)))))))) pss_nil)
 (pss_cons (ps_expr (pcall (has_need T) (hr.mono (by omega)) rfl (gl_need T) (L2N.passes_call (L2N.takes_of rfl rfl rfl rfl) (fun _ _ _ _ h => h)) (pa_cons (pe_cmpR op_lt (pe_callB c_len (by rfl) (fr_len T) PySem.boot_len (pa_cons (pe_fld (pv 0) rfl) pa_nil)) (pgi (gi_MOST_LISTENERS T) rfl) (nomark _)) (pa_cons pe_str pa_nil))))
 (pss_cons (ps_set (i := 7) sc_Page_read_listener.nd rfl (Or.inl rfl) (pe_callB c_len (by rfl) (fr_len T) PySem.boot_len (pa_cons (pe_lc (own := [("listener", 8)]) (g := gName 8)  rfl sc_Page_read_listener.nd (pi_list (pe_fld (pv 0) rfl)) (blkOk_by (N := N_Page_read_listener) (sc := defScope s_Page_read_listener) (by decide +kernel)) (fun _ _ _ _ _ => (pg_name (i := 8) sc_Page_read_listener.nd rfl (Or.inl rfl))) (fun _ _ _ _ _ => (re_t (pts_one (pt_cmpR op_eq (pe_ix ix_tup (pv 8) pe_int (fun _ _ => rfl)) pe_str (nomark _))) (by walk_at "wk"))) (fun _ _ _ _ _ => (re_e pe_int (by walk_at "wk")))) pa_nil)))
 (Evl.pss_cut (ps_expr (pcall (has_need T) (hr.mono (by omega)) rfl (gl_need T) (L2N.passes_call (L2N.takes_of rfl rfl rfl rfl) (fun _ _ _ _ h => h)) (pa_cons (pe_or (pe_cmpR op_ne (pv 5) pe_str (nomark _)) (pe_one (pe_cmpR op_lt (pv 7) (pgi (gi_MOST_CLICKS_pages T) rfl) (nomark _)))) (pa_cons pe_str pa_nil))))
 (pss_one (ps_expr (pe_bm PySem.F.plainAttrs_list PySem.F.slot_list_append PySem.F.type_list_append mt_append (pe_fld (pv 0) rfl) (pa_cons (pe_tup (pa_cons (pv 3) (pa_cons (pv 4) (pa_cons (pv 5) (pa_cons (pv 6) (pa_cons (pe_cmpR op_eq (pv 1) pe_str (nomark _)) pa_nil)))))) pa_nil)))))))))))))))), ?_⟩
  obtain ⟨_, G, a, dx, tl, ol, dl, ll, p, ts, ls, wl, wv, w0, l, b, rfl, rd, hok, herr⟩ := h
  have : Cur G H := ⟨rd.s⟩
  have hwl : wv.length = l.length + 1 := rd.pr.length
  have hp8 := rd.w.len
  walk_at "w"
  refine u_lenL (SqL.of (on rd.l)) ?_
  walk_at "w"
  rw [hwl]
  refine u_tup (by show 2 ≤ sizeLine; decide) fun pq G1 H1 st1 _ _ hpq => ?_
  walk_at "w"
  refine u_in (H := H1) (.inr (SqT.of (on hpq))) rfl rfl ?_
  walk_at "w"
  have h45 : inV (.int ((l.length + 1 : Nat) : Int)) [.int 4, .int 5] = decide (1 ≤ l.length - 2 ∧ l.length - 2 ≤ 2 ∧ 2 ≤ l.length) := by
    unfold inV
    simp only [List.any_cons, List.any_nil, eqV, Bool.or_false]
    rw [Bool.eq_iff_iff]
    simp
    omega
  rw [show (if false = true then !inV (.int ((l.length + 1 : Nat) : Int)) [.int 4, .int 5] else inV (.int ((l.length + 1 : Nat) : Int)) [.int 4, .int 5]) = inV (.int ((l.length + 1 : Nat) : Int)) [.int 4, .int 5] from rfl, h45]
  refine u_need (fun hb => ?_) (fun hb => herr.at st1 ?_)
  rotate_left
  · have hb := of_decide_eq_false hb
    match l, hb with
    | [], _ => rfl
    | [_], _ => rfl
    | u :: v :: r, h =>
      have e : (decide (1 ≤ r.length) && decide (r.length ≤ 2)) = false := by
        rw [Bool.eq_false_iff]
        intro z
        simp at z
        apply h
        simp only [List.length_cons]
        omega
      show bindReason (demand (decide (1 ≤ r.length) && decide (r.length ≤ 2)) "invalid line") _ = _
      rw [e]; rfl
  have hb := of_decide_eq_true hb
  obtain ⟨u, v, r, rfl, hr⟩ : ∃ u v r, l = u :: v :: r ∧ (r.length = 1 ∨ r.length = 2) := by
    match l, hb with
    | [], h => exact absurd h (by simp)
    | [_], h => exact absurd h (by simp)
    | u :: v :: r, h => exact ⟨u, v, r, rfl, by simp only [List.length_cons] at h; omega⟩
  have hrl : readListener p b (u :: v :: r) = bindReason (orReason "unknown item" (indexIn (itemNames p) u)) fun i => bindReason (orReason "unknown way" (readWay v)) fun c => bindReason (readAction p r) fun act => bindReason (demand (decide (p.listeners.length < 8)) "too many listeners") fun _ => bindReason (demand (!isClick act || decide (clickers p < 3)) "too many clicks") fun _ => .ok { p with listeners := p.listeners ++ [⟨i, c, b, act⟩] } := by
    have e : (decide (1 ≤ r.length) && decide (r.length ≤ 2)) = true := by
      rw [Bool.and_eq_true]
      exact ⟨decide_eq_true (by omega), decide_eq_true (by omega)⟩
    show bindReason (demand (decide (1 ≤ r.length) && decide (r.length ≤ 2)) "invalid line") _ = _
    rw [e]; rfl
  rw [hrl] at hok herr
  obtain ⟨x0, pu, pv, xr, rfl, hu, hv, hxr⟩ : ∃ x0 pu pv xr, wv = x0 :: .ref pu :: .ref pv :: xr ∧ SqT K G pu (un u) ∧ SqT K G pv (un v) ∧ Paired (WdA K G) xr r := by
    cases rd.pr with
    | cons h0 t =>
      cases t with
      | cons h1 t =>
        cases t with
        | cons h2 t =>
          obtain ⟨p1, rfl, h1⟩ := h1
          obtain ⟨p2, rfl, h2⟩ := h2
          exact ⟨_, p1, p2, _, rfl, h1, h2, t⟩
  have rd1 := rd.step st1
  walk_at "w"
  refine u_mth (on rd1.i) fm_Page_number ?_
  walk_at "w"
  refine w_ixL (SqL.of (on rd1.l)) (atI_nat (j := 1) rfl) ?_
  walk_at "w"
  refine u_numb rd1.pg (onT hu) (by omega) ?_
  walk_at "w"
  rw [idx_pos]
  cases hi : indexIn (itemNames p) u with
  | none => exact u_need (fun e => by cases e) (fun _ => herr.at st1 (by rw [hi]; rfl))
  | some i =>
  rw [hi] at hok herr
  refine u_need (fun _ => ?_) (fun e => by cases e)
  walk_at "w"
  refine w_ixL (SqL.of (on rd1.l)) (atI_nat (j := 2) rfl) ?_
  walk_at "w"
  refine u_known (zs := ["down", "up"]) (upT hv) (tt_WAYS T _) (by decide +kernel) (by decide) fun G2 H2 st2 _ _ => ?_
  walk_at "w"
  rw [way_known]
  cases hw : readWay v with
  | none =>
    walk_at "w"
    exact u_need (fun e => absurd e (by decide)) (fun _ => herr.at (st1.trans st2) (by rw [hw]; rfl))
  | some c =>
  rw [hw] at hok herr
  have hok : OkK K G H tl ol dl ll (bindReason (readAction p r) fun act => bindReason (demand (decide (p.listeners.length < 8)) "too many listeners") fun _ => bindReason (demand (!isClick act || decide (clickers p < 3)) "too many clicks") fun _ => .ok { p with listeners := p.listeners ++ [⟨i, c, b, act⟩] }) Q := hok
  have herr : ErrK K G H (bindReason (readAction p r) fun act => bindReason (demand (decide (p.listeners.length < 8)) "too many listeners") fun _ => bindReason (demand (!isClick act || decide (clickers p < 3)) "too many clicks") fun _ => .ok { p with listeners := p.listeners ++ [⟨i, c, b, act⟩] }) E := herr
  have rd2 := rd1.step st2
  have st12 := st1.trans st2
  have hxr2 : Paired (WdA K G2) xr r := Paired.mapP hxr fun _ _ => WdA.mono st12.g
  walk_at "w"
  refine u_need (fun _ => ?_) (fun e => absurd e (by simpa using fun z => way_ne c z))
  walk_at "w"
  refine w_cut (fun σ' H' => ∃ G' z, σ' = [some (.ref a), some (.str (if b then "once" else "listen")), some (.ref wl), some (.int (i : Nat)), some (.str (wayS c)), some (.str z), none, none, none] ∧ Stp [] G H G' H' ∧
    ((∃ x, r = [x] ∧ z = known ["prevent", "stop", "halt"] x) ∨ ∃ x t px pt, r = [x, t] ∧ xr = [.ref px, .ref pt] ∧ SqT K G pt (un t) ∧ z = known ["click", "tick", "untick", "disable", "enable"] x)) ?_ ?_
  · have hl3 : (x0 :: V.ref pu :: V.ref pv :: xr).length = r.length + 3 := by simpa using hxr.length
    rcases ls_shape hxr hr with ⟨x, px, rfl, rfl, hx⟩ | ⟨x, t, px, pt, rfl, rfl, hx, ht⟩
    · walk_at "w"
      refine w_ixL (SqL.of (on rd2.l)) (atI_nat (j := 3) rfl) ?_
      walk_at "w"
      refine u_lenL (SqL.of (on rd2.l)) ?_
      walk_at "w"
      refine iteT ?_
      walk_at "w"
      refine u_known (zs := ["prevent", "stop", "halt"]) (Same.sqT st12.g hx) (tt_BARE T _) (by decide +kernel) (by decide) fun G3 H3 st3 _ _ => ?_
      walk_at "w"
      exact ⟨G3, _, rfl, st12.trans st3, .inl ⟨x, rfl, rfl⟩⟩
    · walk_at "w"
      refine w_ixL (SqL.of (on rd2.l)) (atI_nat (j := 3) rfl) ?_
      walk_at "w"
      refine u_lenL (SqL.of (on rd2.l)) ?_
      walk_at "w"
      refine iteF ?_
      walk_at "w"
      refine u_known (zs := ["click", "tick", "untick", "disable", "enable"]) (Same.sqT st12.g hx) (tt_AIMED T _) (by decide +kernel) (by decide) fun G3 H3 st3 _ _ => ?_
      walk_at "w"
      exact ⟨G3, _, rfl, st12.trans st3, .inr ⟨x, t, px, pt, rfl, rfl, ht, rfl⟩⟩
  rintro σ3 H3 ⟨G3, z, rfl, st3, hz⟩
  have rd3 := rd.step st3
  have : Cur G3 H3 := ⟨st3.s⟩
  have : Dn G G3 := ⟨st3.g⟩
  refine w_cut (fun σ' H' => ∃ z, H' = H3 ∧ σ' = [some (.ref a), some (.str (if b then "once" else "listen")), some (.ref wl), some (.int (i : Nat)), some (.str (wayS c)), some (.str z), none, none, none] ∧
    ((∃ x act, r = [x] ∧ z = actS act ∧ bareA x = some act) ∨ ∃ x t px pt k, r = [x, t] ∧ xr = [.ref px, .ref pt] ∧ SqT K G pt (un t) ∧ z = akS k ∧ aimed x = some k)) ?_ ?_
  · rcases hz with ⟨x, rfl, rfl⟩ | ⟨x, t, px, pt, rfl, rfl, ht, rfl⟩
    · have hra : readAction p [x] = orReason "unknown action" (bareA x) := rfl
      rw [hra] at herr
      rw [bare_known]
      cases hb : bareA x with
      | none =>
        walk_at "w"
        exact u_need (fun e => absurd e (by decide)) (fun _ => herr.at st3 (by rw [hb]; rfl))
      | some act =>
        walk_at "w"
        refine u_need (fun _ => ?_) (fun e => absurd e (by simpa using fun z => act_ne act z))
        walk_at "w"
        exact ⟨actS act, rfl, rfl, .inl ⟨x, act, rfl, rfl, hb⟩⟩
    · rw [aimed_read] at herr
      rw [aimed_known]
      cases hb : aimed x with
      | none =>
        walk_at "w"
        exact u_need (fun e => absurd e (by decide)) (fun _ => herr.at st3 (by rw [hb]; rfl))
      | some k =>
        walk_at "w"
        refine u_need (fun _ => ?_) (fun e => absurd e (by simpa using fun z => ak_ne k z))
        walk_at "w"
        exact ⟨akS k, rfl, rfl, .inr ⟨x, t, px, pt, k, rfl, rfl, ht, rfl, hb⟩⟩
  rintro σ4 H4 ⟨z, rfl, rfl, hz⟩
  walk_at "w"
  refine w_cut (fun σ' H' => ∃ G' act, σ' = [some (.ref a), some (.str (if b then "once" else "listen")), some (.ref wl), some (.int (i : Nat)), some (.str (wayS c)), some (.str (actS act)), some (.int (idxI (actT act))), none, none] ∧ Stp [] G H G' H' ∧ readAction p r = .ok act) ?_ ?_
  · have hl3 : (x0 :: V.ref pu :: V.ref pv :: xr).length = r.length + 3 := by simpa using hxr.length
    rcases hz with ⟨x, act, rfl, rfl, hb⟩ | ⟨x, t, px, pt, k, rfl, rfl, ht, rfl, hb⟩
    · walk_at "w"
      refine u_lenL (SqL.of (on rd3.l)) ?_
      walk_at "w"
      rw [hl3]
      refine iteF ?_
      walk_at "w"
      refine ⟨G3, act, ?_, st3, ?_⟩
      · rw [bare_none hb]; rfl
      · show orReason _ (bareA x) = _
        rw [hb]; rfl
    · rw [aimed_read, hb] at herr
      have herr : ErrK K G H (bindReason (bindReason (orReason "unknown item" (indexIn (itemNames p) t)) fun i => bindReason (akD k (kindAt p i)) fun _ => .ok (akA k i)) fun act => bindReason (demand (decide (p.listeners.length < 8)) "too many listeners") fun _ => bindReason (demand (!isClick act || decide (clickers p < 3)) "too many clicks") fun _ => .ok { p with listeners := p.listeners ++ [⟨i, c, b, act⟩] }) E := herr
      walk_at "w"
      refine u_lenL (SqL.of (on rd3.l)) ?_
      walk_at "w"
      refine iteT ?_
      walk_at "w"
      refine u_mth (on rd3.i) fm_Page_number ?_
      walk_at "w"
      refine w_ixL (SqL.of (on rd3.l)) (atI_nat (j := 4) rfl) ?_
      walk_at "w"
      refine u_numb rd3.pg (onT ht) (by omega) ?_
      walk_at "w"
      rw [idx_pos]
      cases hj : indexIn (itemNames p) t with
      | none => exact u_need (fun e => by cases e) (fun _ => herr.at st3 (by rw [hj]; rfl))
      | some j =>
        obtain ⟨y, hy⟩ := item_at (idx_lt hj)
        have hky := kind_at hy
        rw [hj] at herr
        have herr : ErrK K G H (bindReason (bindReason (akD k (kindAt p j)) fun _ => .ok (akA k j)) fun act => bindReason (demand (decide (p.listeners.length < 8)) "too many listeners") fun _ => bindReason (demand (!isClick act || decide (clickers p < 3)) "too many clicks") fun _ => .ok { p with listeners := p.listeners ++ [⟨i, c, b, act⟩] }) E := herr
        have hfin : ∀ G' H', Stp [] G H G' H' → akD k (kindAt p j) = .ok () → ∃ G' act, [some (V.ref a), some (.str (if b then "once" else "listen")), some (.ref wl), some (.int (i : Nat)), some (.str (wayS c)), some (.str (akS k)), some (.int (idxI (some j))), none, none] = [some (V.ref a), some (.str (if b then "once" else "listen")), some (.ref wl), some (.int (i : Nat)), some (.str (wayS c)), some (.str (actS act)), some (.int (idxI (actT act))), none, none] ∧ Stp [] G H G' H' ∧ readAction p [x, t] = .ok act := fun G' H' s h => by
          refine ⟨G', akA k j, by rw [akA_S, akA_T], s, ?_⟩
          rw [aimed_read, hb]
          show bindReason (orReason _ (indexIn (itemNames p) t)) _ = _
          rw [hj]
          show bindReason (akD k (kindAt p j)) _ = _
          rw [h]; rfl
        refine u_need (fun _ => ?_) (fun e => by cases e)
        walk_at "w"
        refine u_tup (by show 2 ≤ sizeLine; decide) fun pq G5 H5 st5 _ _ hpq => ?_
        walk_at "w"
        refine u_in (H := H5) (.inr (SqT.of (on hpq))) rfl rfl ?_
        walk_at "w"
        have rd5 := rd3.step st5
        cases k with
        | click =>
          refine iteT ?_
          walk_at "w"
          refine u_need (fun _ => ?_) (fun e => by cases e)
          walk_at "w"
          refine u_tup (by show 2 ≤ sizeLine; decide) fun pq G6 H6 st6 _ _ hpq => ?_
          walk_at "w"
          refine u_in (H := H6) (.inr (SqT.of (on hpq))) rfl rfl ?_
          walk_at "w"
          refine iteT ?_
          walk_at "w"
          refine u_need (fun _ => ?_) (fun e => by cases e)
          walk_at "w"
          exact hfin _ _ ((st3.trans st5).trans st6) rfl
        | tk b2 =>
          have e1 : (if true = true then !inV (V.str (akS (.tk b2))) [.str "tick", .str "untick"] else inV (V.str (akS (.tk b2))) [.str "tick", .str "untick"]) = false := by cases b2 <;> decide +kernel
          have e2 : (if true = true then !inV (V.str (akS (.tk b2))) [.str "disable", .str "enable"] else inV (V.str (akS (.tk b2))) [.str "disable", .str "enable"]) = true := by cases b2 <;> decide +kernel
          rw [e1]
          refine iteF ?_
          walk_at "w"
          refine u_mth (on rd5.i) fm_Page_kind ?_
          walk_at "w"
          refine u_kind rd5.pg hy ?_
          walk_at "w"
          refine u_in (.inr (tt_TICKED T _)) rfl rfl ?_
          walk_at "w"
          rw [tick_in]
          refine u_need (fun hc => ?_) (fun hc => herr.at (st3.trans st5) (by rw [hky]; show bindReason (bindReason (demand (canTick y.kind) _) _) _ = _; rw [show canTick y.kind = false from hc]; rfl))
          walk_at "w"
          refine u_tup (by show 2 ≤ sizeLine; decide) fun pq G6 H6 st6 _ _ hpq => ?_
          walk_at "w"
          refine u_in (H := H6) (.inr (SqT.of (on hpq))) rfl rfl ?_
          walk_at "w"
          rw [e2]
          refine iteT ?_
          walk_at "w"
          refine u_need (fun _ => ?_) (fun e => by cases e)
          walk_at "w"
          exact hfin _ _ ((st3.trans st5).trans st6) (by rw [hky]; show demand (canTick y.kind) _ = _; rw [show canTick y.kind = true from hc]; rfl)
        | ds b2 =>
          have e1 : (if true = true then !inV (V.str (akS (.ds b2))) [.str "tick", .str "untick"] else inV (V.str (akS (.ds b2))) [.str "tick", .str "untick"]) = true := by cases b2 <;> decide +kernel
          have e2 : (if true = true then !inV (V.str (akS (.ds b2))) [.str "disable", .str "enable"] else inV (V.str (akS (.ds b2))) [.str "disable", .str "enable"]) = false := by cases b2 <;> decide +kernel
          rw [e1]
          refine iteT ?_
          walk_at "w"
          refine u_need (fun _ => ?_) (fun e => by cases e)
          walk_at "w"
          refine u_tup (by show 2 ≤ sizeLine; decide) fun pq G6 H6 st6 _ _ hpq => ?_
          walk_at "w"
          refine u_in (H := H6) (.inr (SqT.of (on hpq))) rfl rfl ?_
          walk_at "w"
          have rd6 := rd5.step st6
          rw [e2]
          refine iteF ?_
          walk_at "w"
          refine u_mth (on rd6.i) fm_Page_kind ?_
          walk_at "w"
          refine u_kind rd6.pg hy ?_
          walk_at "w"
          refine u_in (.inr (tt_CONTROLS T _)) rfl rfl ?_
          walk_at "w"
          rw [ctl_in]
          refine u_need (fun hc => ?_) (fun hc => herr.at ((st3.trans st5).trans st6) (by rw [hky]; show bindReason (bindReason (demand (isControl y.kind) _) _) _ = _; rw [show isControl y.kind = false from hc]; rfl))
          walk_at "w"
          exact hfin _ _ ((st3.trans st5).trans st6) (by rw [hky]; show demand (isControl y.kind) _ = _; rw [show isControl y.kind = true from hc]; rfl)
  rintro σ5 H5 ⟨G5, act, rfl, st5, hact⟩
  have rd5 := rd.step st5
  have : Cur G5 H5 := ⟨st5.s⟩
  have : Dn G G5 := ⟨st5.g⟩
  rw [hact] at hok herr
  have hok : OkK K G H tl ol dl ll (bindReason (demand (decide (p.listeners.length < 8)) "too many listeners") fun _ => bindReason (demand (!isClick act || decide (clickers p < 3)) "too many clicks") fun _ => .ok { p with listeners := p.listeners ++ [⟨i, c, b, act⟩] }) Q := hok
  have herr : ErrK K G H (bindReason (demand (decide (p.listeners.length < 8)) "too many listeners") fun _ => bindReason (demand (!isClick act || decide (clickers p < 3)) "too many clicks") fun _ => .ok { p with listeners := p.listeners ++ [⟨i, c, b, act⟩] }) E := herr
  have hll : ls.length = p.listeners.length := rd.m.li.length
  have hp9 := rd.w.lis
  walk_at "w"
  refine u_fld (on rd5.i) (cl_Page T) (na_Page_listeners T) fl_Page_listeners ?_
  walk_at "w"
  refine u_lenL rd5.m.l.sqL ?_
  walk_at "w"
  rw [hll]
  refine u_need (fun h8 => ?_) (fun h8 => herr.at st5 ?_)
  rotate_left
  · have h8 : ¬ p.listeners.length < 8 := by have := of_decide_eq_false h8; omega
    rw [decide_eq_false h8]; rfl
  have h8 : p.listeners.length < 8 := by have := of_decide_eq_true h8; omega
  rw [decide_eq_true h8] at hok herr
  have hok : OkK K G H tl ol dl ll (bindReason (demand (!isClick act || decide (clickers p < 3)) "too many clicks") fun _ => .ok { p with listeners := p.listeners ++ [⟨i, c, b, act⟩] }) Q := hok
  have herr : ErrK K G H (bindReason (demand (!isClick act || decide (clickers p < 3)) "too many clicks") fun _ => .ok { p with listeners := p.listeners ++ [⟨i, c, b, act⟩] }) E := herr
  walk_at "w"
  refine u_fld (on rd5.i) (cl_Page T) (na_Page_listeners T) fl_Page_listeners ?_
  walk_at "w"
  refine u_iL rd5.m.l.sqL ?_
  refine u_lc (walk_list (xs := ls)) (Yv := fun j v => ls[j]? = some v) (fun i H x H' h => h) (fun H' s => s.seq rd5.m.l.sqL) (by omega) (fun j => ((p.listeners[j]?).map fun l => isClick l.action).getD false) (fun _ y _ => y = .int 1) (fun _ _ _ _ _ h => h) ?_ ?_
  · rintro j y G6 H6 Qy Qn hj st _ _ hy ky kn
    obtain ⟨lj, hlj, t, rfl, ht⟩ := pr_getL rd5.m.li hy
    walk_at "w"
    refine w_ixT (Same.sqT (st.g.trans st.s) ht) rfl ?_
    walk_at "w"
    rw [isClick_S]
    refine w_ite (fun hc => ?_) (fun hc => ?_)
    · walk_at "w"
      exact ky _ _ _ (Stp.refl st.s) (by rw [hlj]; exact hc) rfl
    · walk_at "w"
      exact kn _ _ (Stp.refl st.s) (by rw [hlj]; exact hc)
  intro q ys G6 H6 st6 _ _ hq mu pr
  have hcl : ys.length = clickers p := by
    rw [← pr.length, hll]
    exact count_at _ _
  have rd6 := rd5.step st6
  walk_at "w"
  refine u_lenL mu.sqL ?_
  walk_at "w"
  rw [hcl]
  refine w_cut (fun σ' H' => H' = H6 ∧ σ' = [some (.ref a), some (.str (if b then "once" else "listen")), some (.ref wl), some (.int (i : Nat)), some (.str (wayS c)), some (.str (actS act)), some (.int (idxI (actT act))), some (.int (clickers p : Nat)), none] ∧ (!isClick act || decide (clickers p < 3)) = true) ?_ ?_
  · walk_at "w"
    rw [isClick_S]
    refine w_ite (fun hc => ?_) (fun hc => ?_)
    · walk_at "w"
      refine u_need (fun _ => ?_) (fun e => by cases e)
      walk_at "w"
      rw [hc]; rfl
    · walk_at "w"
      refine u_need (fun hd => ?_) (fun hd => herr.at (st5.trans st6) ?_)
      · walk_at "w"
        rw [hc, decide_eq_true (by have := of_decide_eq_true hd; omega)]; rfl
      · rw [hc, decide_eq_false (by have := of_decide_eq_false hd; omega)]; rfl
  rintro σ7 H7 ⟨rfl, rfl, hfin⟩
  rw [hfin] at hok
  have mm := rd6.m
  have hbo : decide (V.str (if b = true then "once" else "listen") = V.str "once") = b := by cases b <;> decide +kernel
  walk_at "w"
  refine u_fld (on rd6.i) (cl_Page T) (na_Page_listeners T) fl_Page_listeners ?_
  walk_at "w"
  refine u_bmL mm.l.h ?_
  walk_at "w"
  refine u_tup (by show 5 ≤ sizeLine; decide) fun t8 G8 H8 st8 _ _ ht8 => ?_
  walk_at "w"
  rw [hbo] at ht8
  refine u_app (st8.mu mm.l List.not_mem_nil) (lst_le (by omega)) fun G9 H9 st9 _ _ ml9 => ?_
  walk_at "w"
  refine Nxt.go (G' := G9) (hok _ rfl ts (ls ++ [.ref t8])) (((st5.trans st6).trans st8).nil.trans (st9.weak fun b hb => by rw [List.mem_singleton.mp hb]; simp)) ?_
  have m8 := mm.nil st8
  refine ⟨st9.mu m8.t (by simpa using mm.tl), st9.mu m8.o (by simpa using mm.ol), st9.mu m8.d (by simpa using mm.dl), ml9, Paired.mapP m8.it fun _ _ => ItA.mono st9.g, pairApp (Paired.mapP m8.li fun _ _ => LiA.mono st9.g) (.cons ⟨t8, rfl, SqT.of (st9.g _ _ ht8)⟩ .nil), mm.to, mm.td, mm.tl, mm.od, mm.ol, mm.dl⟩
theorem has_Page_read_line (T : Txt K mg) : Has P w K mg base (XC P w) 7 ("Page", some "read_line") ["self", "words"] (spRLine K) := by
  refine mk_has (d := d_Page_read_line) T 10 rfl rfl rfl sc_Page_read_line (fun _ _ _ _ _ _ us hl => match us, hl with | [_, _], _ => rfl) (fun vs H Q E h => h.1) (fun cdv A outer s H vs Q E hr h => ?_)
  refine ⟨_, (pss_cons (ps_set (i := 2) sc_Page_read_line.nd rfl (Or.inl rfl) (pcall (has_known_word T) (hr.mono (by omega)) rfl (gl_known_word T) pass0 (pa_cons (pe_ix ix_list (pv 1) pe_int (fun _ _ => rfl)) (pa_cons (pe_tup (pa_cons pe_str (pa_cons pe_str (pa_cons pe_str (pa_cons pe_str (pa_cons pe_str (pa_cons pe_str (pa_cons pe_str pa_nil)))))))) pa_nil))))
 (pss_cons (ps_expr (pcall (has_need T) (hr.mono (by omega)) rfl (gl_need T) (L2N.passes_call (L2N.takes_of rfl rfl rfl rfl) (fun _ _ _ _ h => h)) (pa_cons (pe_cmpR op_ne (pv 2) pe_str (nomark _)) (pa_cons pe_str pa_nil))))
 (pss_one (ps_if (pt_cmpR op_in_seq (pv 2) (pe_tup (pa_cons pe_str (pa_cons pe_str (pa_cons pe_str pa_nil)))) (by rfl)) (pss_one (ps_expr (pmeth (pv 0) (cl_Page T) (me_Page_read_item T) (has_Page_read_item T) (hr.mono (by omega)) (L2N.passes_call (L2N.takes_of rfl rfl rfl rfl) (fun _ _ _ _ h => h)) (pa_cons (pv 2) (pa_cons (pv 1) pa_nil))))) (pss_one (ps_if (pt_cmpR op_in_seq (pv 2) (pe_tup (pa_cons pe_str (pa_cons pe_str pa_nil))) (by rfl)) (pss_one (ps_expr (pmeth (pv 0) (cl_Page T) (me_Page_read_mark T) (has_Page_read_mark T) (hr.mono (by omega)) (L2N.passes_call (L2N.takes_of rfl rfl rfl rfl) (fun _ _ _ _ h => h)) (pa_cons (pv 2) (pa_cons (pv 1) pa_nil))))) (pss_one (ps_expr (pmeth (pv 0) (cl_Page T) (me_Page_read_listener T) (has_Page_read_listener T) (hr.mono (by omega)) (L2N.passes_call (L2N.takes_of rfl rfl rfl rfl) (fun _ _ _ _ h => h)) (pa_cons (pv 2) (pa_cons (pv 1) pa_nil))))))))))), ?_⟩
  obtain ⟨_, G, a, dx, tl, ol, dl, ll, p, ts, ls, wl, wv, w0, l, rfl, rd, hok, herr⟩ := h
  have : Cur G H := ⟨rd.s⟩
  obtain ⟨p0, xr, rfl, h0⟩ : ∃ p0 xr, wv = .ref p0 :: xr ∧ SqT K G p0 (un w0) := by
    cases rd.pr with
    | cons h0 t =>
      obtain ⟨p1, rfl, h1⟩ := h0
      exact ⟨p1, _, rfl, h1⟩
  rw [line_read] at hok herr
  walk_at "w"
  refine w_ixL (SqL.of (on rd.l)) (atI_nat (j := 0) rfl) ?_
  walk_at "w"
  refine u_tup (by show 7 ≤ sizeLine; decide) fun pq G1 H1 st1 _ _ hpq => ?_
  walk_at "w"
  refine u_known (H := H1) (zs := ["item", "radio", "label", "ticked", "disabled", "listen", "once"]) (upT h0) (SqT.of hpq) okz7 (by decide) fun G2 H2 st2 _ _ => ?_
  walk_at "w"
  have st12 := st1.trans st2
  have rd2 := rd.step st12
  rw [line_known]
  cases hk : lineK w0 with
  | none =>
    rw [hk] at herr
    walk_at "w"
    exact u_need (fun e => absurd e (by decide)) (fun _ => herr.at st12 rfl)
  | some k =>
    rw [hk] at hok herr
    walk_at "w"
    refine u_need (fun _ => ?_) (fun e => absurd e (by simpa using fun z => lk_ne k z))
    walk_at "w"
    refine u_tup (by show 3 ≤ sizeLine; decide) fun pq3 G3 H3 st3 _ _ hpq3 => ?_
    walk_at "w"
    refine u_in (H := H3) (.inr (SqT.of (on hpq3))) rfl rfl ?_
    walk_at "w"
    have rd3 := rd2.step st3
    cases k with
    | rd k =>
      have e1 : (if false = true then !inV (V.str (lkS (.rd k))) [.str "item", .str "radio", .str "label"] else inV (V.str (lkS (.rd k))) [.str "item", .str "radio", .str "label"]) = true := by cases k <;> decide +kernel
      rw [e1]
      refine iteT ?_
      walk_at "w"
      refine u_mth (on rd3.i) fm_Page_read_item ?_
      walk_at "w"
      exact ⟨rfl, G3, a, dx, tl, ol, dl, ll, p, ts, ls, wl, _, w0, l, k, rfl, rd3, hok.step (st12.trans st3), herr.step (st12.trans st3)⟩
    | mark b =>
      have e1 : (if false = true then !inV (V.str (lkS (.mark b))) [.str "item", .str "radio", .str "label"] else inV (V.str (lkS (.mark b))) [.str "item", .str "radio", .str "label"]) = false := by cases b <;> decide +kernel
      have e2 : (if false = true then !inV (V.str (lkS (.mark b))) [.str "ticked", .str "disabled"] else inV (V.str (lkS (.mark b))) [.str "ticked", .str "disabled"]) = true := by cases b <;> decide +kernel
      rw [e1]
      refine iteF ?_
      walk_at "w"
      refine u_tup (by show 2 ≤ sizeLine; decide) fun pq4 G4 H4 st4 _ _ hpq4 => ?_
      walk_at "w"
      refine u_in (H := H4) (.inr (SqT.of (on hpq4))) rfl rfl ?_
      walk_at "w"
      have rd4 := rd3.step st4
      rw [e2]
      refine iteT ?_
      walk_at "w"
      refine u_mth (on rd4.i) fm_Page_read_mark ?_
      walk_at "w"
      exact ⟨rfl, G4, a, dx, tl, ol, dl, ll, p, ts, ls, wl, _, w0, l, b, rfl, rd4, hok.step ((st12.trans st3).trans st4), herr.step ((st12.trans st3).trans st4)⟩
    | lis b =>
      have e1 : (if false = true then !inV (V.str (lkS (.lis b))) [.str "item", .str "radio", .str "label"] else inV (V.str (lkS (.lis b))) [.str "item", .str "radio", .str "label"]) = false := by cases b <;> decide +kernel
      have e2 : (if false = true then !inV (V.str (lkS (.lis b))) [.str "ticked", .str "disabled"] else inV (V.str (lkS (.lis b))) [.str "ticked", .str "disabled"]) = false := by cases b <;> decide +kernel
      rw [e1]
      refine iteF ?_
      walk_at "w"
      refine u_tup (by show 2 ≤ sizeLine; decide) fun pq4 G4 H4 st4 _ _ hpq4 => ?_
      walk_at "w"
      refine u_in (H := H4) (.inr (SqT.of (on hpq4))) rfl rfl ?_
      walk_at "w"
      have rd4 := rd3.step st4
      rw [e2]
      refine iteF ?_
      walk_at "w"
      refine u_mth (on rd4.i) fm_Page_read_listener ?_
      walk_at "w"
      exact ⟨rfl, G4, a, dx, tl, ol, dl, ll, p, ts, ls, wl, _, w0, l, b, rfl, rd4, hok.step ((st12.trans st3).trans st4), herr.step ((st12.trans st3).trans st4)⟩
end
end Ck
namespace Ck
open PySem PySem.Spec PyProof.Rows L2
open He (ga ma fAd)
open R7253f.Spec (Units units isName indexIn itemNames kindAt sameGroup isControl canTick canHold isCheck bindReason orReason demand invalid readParent addItem newName readItem readRadio readLabel readTicked readDisabled readListener readLine readWay readAction itemOn itemOff groupOn maxItems isClick clickers lineError readLines wordsFrom linesFrom)
theorem bind_ok {α β : Type} {x : Except Units α} {f : α → Except Units β} {b : β} (h : bindReason x f = .ok b) : ∃ a, x = .ok a ∧ f a = .ok b := by
  cases x with
  | error e => cases h
  | ok a => exact ⟨a, rfl, h⟩
theorem dem_ok {b : Bool} {m : String} {u : Unit} (h : demand b m = .ok u) : b = true := by
  cases b with
  | false => cases h
  | true => rfl
theorem or_ok {α : Type} {x : Option α} {m : String} {a : α} (h : orReason m x = .ok a) : x = some a := by
  cases x with
  | none => cases h
  | some b => cases h; rfl
theorem kind_ext {p p' : SPage} {i : Nat} (h : (p'.items[i]?).map (fun x => x.kind) = (p.items[i]?).map fun x => x.kind) : kindAt p' i = kindAt p i := by
  unfold kindAt
  rw [h]
theorem okAct_ext {p p' : SPage} (hl : p.items.length ≤ p'.items.length) (hk : ∀ i, i < p.items.length → kindAt p' i = kindAt p i) {a : SAct} (h : okAct p a) : okAct p' a := by
  cases a with
  | prevent => trivial
  | stop => trivial
  | halt => trivial
  | click i => exact Nat.lt_of_lt_of_le h hl
  | tick i => exact ⟨Nat.lt_of_lt_of_le h.1 hl, by rw [hk i h.1]; exact h.2⟩
  | untick i => exact ⟨Nat.lt_of_lt_of_le h.1 hl, by rw [hk i h.1]; exact h.2⟩
  | disable i => exact ⟨Nat.lt_of_lt_of_le h.1 hl, by rw [hk i h.1]; exact h.2⟩
  | enable i => exact ⟨Nat.lt_of_lt_of_le h.1 hl, by rw [hk i h.1]; exact h.2⟩
theorem wf_empty : PgW R7253f.Spec.emptyPage where
  len := Nat.zero_le _
  lis := Nat.zero_le _
  nm := fun x h => by cases h
  nd := List.nodup_nil
  par := fun i q x h => by cases h
  rad := fun x h => by cases h
  lab := fun i c x h => by cases h
  li := fun l h => by cases h
  ck := Nat.zero_le _
theorem wf_add {p : SPage} {u : Units} {q : Option Nat} {kd : SKind} (w : PgW p) (h8 : p.items.length < 8) (hn : isName u = true) (hno : u ∉ itemNames p) (hq : ∀ i, q = some i → i < p.items.length) (hr : ∀ g, kd = .radio g → isName g = true) (hc : ∀ c, kd = .label (some c) → c < p.items.length) :
    PgW { p with items := p.items ++ [⟨u, q, kd, false, false⟩] } := by
  have cases_ : ∀ {i : Nat} {x : SItem}, (p.items ++ [⟨u, q, kd, false, false⟩])[i]? = some x → (i < p.items.length ∧ p.items[i]? = some x) ∨ (i = p.items.length ∧ x = ⟨u, q, kd, false, false⟩) := by
    intro i x h
    rcases Nat.lt_or_ge i p.items.length with hi | hi
    · exact .inl ⟨hi, by rwa [List.getElem?_append_left hi] at h⟩
    · rw [List.getElem?_append_right hi] at h
      have e : i - p.items.length = 0 := by
        rcases Nat.eq_zero_or_pos (i - p.items.length) with e | e
        · exact e
        · rw [List.getElem?_eq_none (by show 1 ≤ _; omega)] at h; cases h
      rw [e] at h
      exact .inr ⟨by omega, (Option.some.inj h).symm⟩
  have mem_ : ∀ {x : SItem}, x ∈ p.items ++ [⟨u, q, kd, false, false⟩] → x ∈ p.items ∨ x = ⟨u, q, kd, false, false⟩ := fun h => by
    rcases List.mem_append.mp h with a | a
    · exact .inl a
    · exact .inr (List.mem_singleton.mp a)
  refine ⟨by rw [List.length_append]; show _ + 1 ≤ 8; omega, w.lis, fun x h => ?_, ?_, fun i j x h hp => ?_, fun x h g hg => ?_, fun i c x h hk => ?_, fun l hl => ?_, w.ck⟩
  · rcases mem_ h with a | rfl
    · exact w.nm x a
    · exact hn
  · show (itemNames _).Nodup
    have e : itemNames { p with items := p.items ++ [⟨u, q, kd, false, false⟩] } = itemNames p ++ [u] := by unfold itemNames; rw [List.map_append]; rfl
    rw [e, List.nodup_append]
    exact ⟨w.nd, by simp, fun a ha b hb => by rw [List.mem_singleton.mp hb]; exact fun z => hno (z ▸ ha)⟩
  · rcases cases_ h with ⟨hi, hx⟩ | ⟨hi, rfl⟩
    · exact w.par i j x hx hp
    · have := hq j hp; omega
  · rcases mem_ h with a | rfl
    · exact w.rad x a g hg
    · exact hr g hg
  · rcases cases_ h with ⟨hi, hx⟩ | ⟨hi, rfl⟩
    · exact w.lab i c x hx hk
    · have := hc c hk; omega
  · have a := w.li l hl
    have hlen : p.items.length ≤ (p.items ++ [(⟨u, q, kd, false, false⟩ : SItem)]).length := by rw [List.length_append]; omega
    exact ⟨Nat.lt_of_lt_of_le a.1 hlen, okAct_ext hlen (fun i hi => kind_ext (by rw [List.getElem?_append_left hi])) a.2⟩
theorem mod_get {b : Bool} {p : SPage} {i j : Nat} {x : SItem} (h : (markP b p i).items[j]? = some x) : ∃ y, p.items[j]? = some y ∧ x.name = y.name ∧ x.parent = y.parent ∧ x.kind = y.kind := by
  have h : (p.items.modify i fun x => if b then { x with on := true } else { x with off := true })[j]? = some x := h
  rw [List.getElem?_modify] at h
  cases hy : p.items[j]? with
  | none => rw [hy] at h; cases h
  | some y =>
    rw [hy] at h
    refine ⟨y, rfl, ?_⟩
    have h := Option.some.inj h
    subst h
    split
    · cases b <;> exact ⟨rfl, rfl, rfl⟩
    · exact ⟨rfl, rfl, rfl⟩
theorem mark_len (b : Bool) (p : SPage) (i : Nat) : (markP b p i).items.length = p.items.length := List.length_modify _ _ _
theorem mark_kind (b : Bool) (p : SPage) (i j : Nat) : kindAt (markP b p i) j = kindAt p j := by
  refine kind_ext ?_
  cases hx : (markP b p i).items[j]? with
  | some x =>
    obtain ⟨y, hy, _, _, e⟩ := mod_get hx
    rw [hy]; exact congrArg some e
  | none =>
    have := List.getElem?_eq_none_iff.mp hx
    rw [mark_len] at this
    rw [List.getElem?_eq_none this]
theorem wf_mark {b : Bool} {p : SPage} {i : Nat} (w : PgW p) : PgW (markP b p i) := by
  refine ⟨by rw [mark_len]; exact w.len, w.lis, fun x h => ?_, by rw [mark_names]; exact w.nd, fun j k x h hp => ?_, fun x h g hg => ?_, fun j c x h hk => ?_, fun l hl => ?_, w.ck⟩
  · obtain ⟨j, hj⟩ := List.getElem?_of_mem h
    obtain ⟨y, hy, e, _, _⟩ := mod_get hj
    rw [e]; exact w.nm y (List.mem_of_getElem? hy)
  · obtain ⟨y, hy, _, e, _⟩ := mod_get h
    exact w.par j k y hy (e ▸ hp)
  · obtain ⟨j, hj⟩ := List.getElem?_of_mem h
    obtain ⟨y, hy, _, _, e⟩ := mod_get hj
    exact w.rad y (List.mem_of_getElem? hy) g (e ▸ hg)
  · obtain ⟨y, hy, _, _, e⟩ := mod_get h
    exact w.lab j c y hy (e ▸ hk)
  · have a := w.li l hl
    exact ⟨by rw [mark_len]; exact a.1, okAct_ext (by rw [mark_len]; exact Nat.le_refl _) (fun j _ => mark_kind b p i j) a.2⟩
theorem wf_lis {p : SPage} {i : Nat} {c b : Bool} {a : SAct} (w : PgW p) (h8 : p.listeners.length < 8) (hi : i < p.items.length) (ha : okAct p a) (hc : (!isClick a || decide (clickers p < 3)) = true) : PgW { p with listeners := p.listeners ++ [⟨i, c, b, a⟩] } := by
  refine ⟨w.len, by rw [List.length_append]; show _ + 1 ≤ 8; omega, w.nm, w.nd, w.par, w.rad, w.lab, fun l hl => ?_, ?_⟩
  · have ext : ∀ {x : SAct}, okAct p x → okAct { p with listeners := p.listeners ++ [⟨i, c, b, a⟩] } x := fun h => okAct_ext (Nat.le_refl _) (fun _ _ => rfl) h
    rcases List.mem_append.mp hl with h | h
    · exact ⟨(w.li l h).1, ext (w.li l h).2⟩
    · rw [List.mem_singleton.mp h]; exact ⟨hi, ext ha⟩
  · have e : clickers { p with listeners := p.listeners ++ [⟨i, c, b, a⟩] } = clickers p + (if isClick a then 1 else 0) := by
      unfold clickers
      rw [List.filter_append, List.length_append, List.filter_cons]
      cases isClick a <;> rfl
    have := w.ck
    rw [e]
    cases h : isClick a with
    | false => show _ + 0 ≤ 3; omega
    | true =>
      rw [h] at hc
      have := of_decide_eq_true (show decide (clickers p < 3) = true from hc)
      show _ + 1 ≤ 3; omega
theorem act_ok {p : SPage} : ∀ {l : List Units} {a : SAct}, readAction p l = .ok a → okAct p a
  | [], _, h => by cases h
  | [x], a, h => by
    have h : orReason "unknown action" (bareA x) = .ok a := h
    have h := or_ok h
    unfold bareA at h
    split at h
    · cases h; trivial
    split at h
    · cases h; trivial
    split at h
    · cases h; trivial
    cases h
  | [x, t], a, h => by
    rw [aimed_read] at h
    cases hk : aimed x with
    | none => rw [hk] at h; cases h
    | some k =>
      rw [hk] at h
      obtain ⟨i, h1, h2⟩ := bind_ok h
      have h1 := idx_lt (or_ok h1)
      obtain ⟨_, h3, h4⟩ := bind_ok h2
      have h4 := Except.ok.inj h4
      subst h4
      cases k with
      | click => exact h1
      | tk b => have := dem_ok h3; cases b <;> exact ⟨h1, this⟩
      | ds b => have := dem_ok h3; cases b <;> exact ⟨h1, this⟩
  | _ :: _ :: _ :: _, _, h => by cases h
theorem wf_line {p p' : SPage} {w : Units} {l : List Units} (wf : PgW p) (h : readLine p (w :: l) = .ok p') : PgW p' := by
  rw [line_read] at h
  cases hk : lineK w with
  | none => rw [hk] at h; cases h
  | some k =>
    rw [hk] at h
    cases k with
    | rd k =>
      have h : rkF k p l = .ok p' := h
      match l, h with
      | [], h => cases h
      | [_], h => cases h
      | u :: v :: r, h =>
        rw [rkF_cons] at h
        split at h
        · obtain ⟨_, h1, h⟩ := bind_ok h
          obtain ⟨q, h2, h⟩ := bind_ok h
          obtain ⟨kd, h3, h⟩ := bind_ok h
          obtain ⟨_, h4, h⟩ := bind_ok h
          have h := Except.ok.inj h
          subst h
          have h8 := of_decide_eq_true (dem_ok h4)
          obtain ⟨_, h5, h6⟩ := bind_ok h1
          have hno := dem_ok h6
          refine wf_add wf h8 (dem_ok h5) (by simpa using hno) (fun i hi => ?_) (fun g hg => ?_) (fun c hc => ?_)
          · have h2 := or_ok h2
            subst hi
            unfold readParent at h2
            split at h2
            · split at h2 <;> cases h2
            · cases hix : indexIn (itemNames p) v with
              | none => rw [hix] at h2; cases h2
              | some j =>
                rw [hix] at h2
                have h2 : (if canHold (kindAt p j) = true then some (some j) else none) = some (some i) := h2
                split at h2
                · cases h2; exact idx_lt hix
                · cases h2
          · subst hg
            cases k with
            | item =>
              have h3 := or_ok h3
              unfold R7253f.Spec.readKind at h3
              split at h3
              · cases h3
              split at h3
              · cases h3
              split at h3
              · cases h3
              split at h3 <;> cases h3
            | radio =>
              obtain ⟨_, h7, h9⟩ := bind_ok h3
              cases h9
              exact dem_ok h7
            | label =>
              match r, h3 with
              | [], h => cases h
              | x :: _, h =>
                obtain ⟨_, _, h⟩ := bind_ok h
                cases h
          · subst hc
            cases k with
            | item =>
              have h3 := or_ok h3
              unfold R7253f.Spec.readKind at h3
              split at h3
              · cases h3
              split at h3
              · cases h3
              split at h3
              · cases h3
              split at h3 <;> cases h3
            | radio =>
              obtain ⟨_, h7, h9⟩ := bind_ok h3
              cases h9
            | label =>
              match r, h3 with
              | [], h => cases h
              | x :: _, h =>
                obtain ⟨i, h7, h⟩ := bind_ok h
                cases h
                exact idx_lt (or_ok h7)
        · cases h
    | mark b =>
      have h : (if b then readTicked p l else readDisabled p l) = .ok p' := h
      match l, h with
      | [], h => cases b <;> cases h
      | _ :: _ :: _, h => cases b <;> cases h
      | [u], h =>
        cases b with
        | true =>
          rw [if_pos rfl, mark_tick] at h
          obtain ⟨i, _, h⟩ := bind_ok h
          obtain ⟨_, _, h⟩ := bind_ok h
          obtain ⟨_, _, h⟩ := bind_ok h
          rw [← Except.ok.inj h]; exact wf_mark wf
        | false =>
          rw [if_neg (by decide), mark_dis] at h
          obtain ⟨i, _, h⟩ := bind_ok h
          obtain ⟨_, _, h⟩ := bind_ok h
          obtain ⟨_, _, h⟩ := bind_ok h
          rw [← Except.ok.inj h]; exact wf_mark wf
    | lis b =>
      have h : readListener p b l = .ok p' := h
      match l, h with
      | [], h => cases h
      | [_], h => cases h
      | u :: v :: r, h =>
        obtain ⟨_, _, h⟩ := bind_ok h
        obtain ⟨i, h1, h⟩ := bind_ok h
        obtain ⟨c, _, h⟩ := bind_ok h
        obtain ⟨act, h2, h⟩ := bind_ok h
        obtain ⟨_, h3, h⟩ := bind_ok h
        obtain ⟨_, h4, h⟩ := bind_ok h
        rw [← Except.ok.inj h]
        exact wf_lis wf (of_decide_eq_true (dem_ok h3)) (idx_lt (or_ok h1)) (act_ok h2) (dem_ok h4)
/-! ### lines and their errors -/
def lErr (e : Nat × Str) : Units := lineError e.1 (uz e.2)
theorem lines_cons (n : Nat) (p : SPage) (u : Units) (l : List Units) : readLines n p (u :: l) = match readLine p (wordsFrom [] u) with | .ok v => readLines (n + 1) v l | .error e => ((readLines (n + 1) p l).1, lineError n e :: (readLines (n + 1) p l).2) := by
  show (match readLine p (wordsFrom [] u) with | .ok v => readLines (n + 1) v l | .error e => _) = _
  cases readLine p (wordsFrom [] u) <;> rfl
theorem line_nil (p : SPage) : readLine p [] = .ok p := rfl
theorem flush_len (w : Units) (l : List Units) : (R7253f.Spec.flush w l).length ≤ l.length + 1 := by
  unfold R7253f.Spec.flush
  split
  · omega
  · rw [List.length_cons]; exact Nat.le_refl _
theorem words_len : ∀ (u w : Units), (wordsFrom w u).length ≤ u.length + 1
  | [], w => flush_len w []
  | c :: u, w => by
    show (if c = 32 then R7253f.Spec.flush w (wordsFrom [] u) else wordsFrom (w ++ [c]) u).length ≤ _
    split
    · have := flush_len w (wordsFrom [] u)
      have := words_len u []
      rw [List.length_cons]; omega
    · have := words_len u (w ++ [c])
      rw [List.length_cons]; omega
theorem flush_mem {w : Units} {l : List Units} {x : Units} (h : x ∈ R7253f.Spec.flush w l) : x = w ∨ x ∈ l := by
  unfold R7253f.Spec.flush at h
  split at h
  · exact .inr h
  · rcases List.mem_cons.mp h with a | a
    · exact .inl a
    · exact .inr a
theorem words_mem : ∀ (u w : Units) {x : Units}, x ∈ wordsFrom w u → x.length ≤ w.length + u.length
  | [], w, x, h => by
    rcases flush_mem (show x ∈ R7253f.Spec.flush w [] from h) with rfl | h
    · exact Nat.le_add_right _ _
    · cases h
  | c :: u, w, x, h => by
    have h : x ∈ (if c = 32 then R7253f.Spec.flush w (wordsFrom [] u) else wordsFrom (w ++ [c]) u) := h
    split at h
    · rcases flush_mem h with rfl | h
      · exact Nat.le_add_right _ _
      · have := words_mem u [] h
        simp only [List.length_cons, List.length_nil] at this ⊢; omega
    · have := words_mem u (w ++ [c]) h
      simp only [List.length_append, List.length_cons, List.length_nil] at this ⊢; omega
theorem lines_len : ∀ (u w : Units), (linesFrom w u).length ≤ u.length + 1
  | [], w => Nat.le_refl _
  | c :: u, w => by
    show (if c = 10 then w :: linesFrom [] u else linesFrom (w ++ [c]) u).length ≤ _
    split
    · have := lines_len u []
      simp only [List.length_cons]; omega
    · have := lines_len u (w ++ [c])
      rw [List.length_cons]; omega
theorem lines_mem : ∀ (u w : Units) {x : Units}, x ∈ linesFrom w u → x.length ≤ w.length + u.length
  | [], w, x, h => by rw [List.mem_singleton.mp (show x ∈ [w] from h)]; exact Nat.le_add_right _ _
  | c :: u, w, x, h => by
    have h : x ∈ (if c = 10 then w :: linesFrom [] u else linesFrom (w ++ [c]) u) := h
    split at h
    · rcases List.mem_cons.mp h with rfl | h
      · exact Nat.le_add_right _ _
      · have := lines_mem u [] h
        simp only [List.length_cons, List.length_nil] at this ⊢; omega
    · have := lines_mem u (w ++ [c]) h
      simp only [List.length_append, List.length_cons, List.length_nil] at this ⊢; omega
theorem w_xf {a : Addr} {cls : Value} {d : Option Addr} {C : Addr} {f : Str} {te : TE} {σ : L2.St} {H : Hp} {Q : VK} (k : te σ H fun x H1 => x = .ref a ∧ cls = .ref C ∧ ∃ (dd : Addr) (fs : List (Str × V)) (v : V), d = some dd ∧ H1 dd = some (.xd fs) ∧ fs.lookup f = some v ∧ Q v H1) : tXf a cls d C f te σ H Q := k
theorem re_s {X : Cx} {b : List Stmt} {t t' : TS} (h : PSs X b t) (q : t = t') : PSs X b t' := q ▸ h
/-! ### promise of read_page -/
def FtA (K : PySem.W.Frag) (G : Hp) (v : V) (e : Nat × Str) : Prop := ∃ t, v = .ref t ∧ SqT K G t [.int (e.1 : Nat), .str e.2]
theorem FtA.mono {K : PySem.W.Frag} {G G' : Hp} (s : Same G G') {v : V} {e : Nat × Str} : FtA K G v e → FtA K G' v e := fun ⟨t, e, h⟩ => ⟨t, e, Same.sqT s h⟩
def spRdPage (K : PySem.W.Frag) : Sp := fun vs H Q _ => vs.length = 1 ∧ ∃ (G : Hp) (b : Addr) (w : Units), vs = [.ref b] ∧ Same G H ∧ SqT K G b (un w) ∧ w.length ≤ 1500 ∧ ∀ t a fl fs es, Nxt [] G H fun G' H' => G' t = some (.tup [.ref a, .ref fl]) → PgH K G' a (R7253f.Spec.readText w).1 → PgW (R7253f.Spec.readText w).1 →
  G' fl = some (.lst fs) → Paired (FtA K G') fs es → (R7253f.Spec.readText w).2 = es.map lErr → (∀ e ∈ es, okm e.2 = true ∧ e.1 ≤ 2000) → es.length ≤ 1501 → Q (.ref t) H'
end Ck
/-- one step of a reading; `walk_at "w"` goes on as far as it can -/
local macro_rules | `(tactic| walk_at "w1") => `(tactic| first
  | with_reducible refine Ck.w_var rfl ?_ | with_reducible refine Ck.w_c ?_ | with_reducible refine Ck.w_op ?_ | with_reducible refine Ck.w_fld ?_ | with_reducible refine Ck.w_cons ?_ | with_reducible refine Ck.w_nil ?_
  | with_reducible refine Ck.w_seq ?_ | with_reducible refine Ck.w_asg ?_ | with_reducible refine Ck.w_drop ?_ | with_reducible refine Ck.w_ret ?_ | with_reducible refine Ck.w_ifS ?_ | with_reducible refine Ck.w_next ?_
  | with_reducible refine Ck.w_i0 ?_ | with_reducible refine Ck.w_tT ?_ | with_reducible refine Ck.w_tB ?_ | with_reducible refine Ck.w_bl ?_ | with_reducible refine Ck.w_eq rfl ?_ | with_reducible refine Ck.w_ne rfl ?_
  | with_reducible refine Ck.w_call ?_ | with_reducible refine Ck.w_meth ?_ | with_reducible refine Ck.w_cb ?_ | with_reducible refine Ck.w_tup ?_ | with_reducible refine Ck.w_lst ?_ | with_reducible refine Ck.w_if ?_
  | with_reducible refine Ck.w_andV ?_ | with_reducible refine Ck.w_orV ?_ | with_reducible refine Ck.w_notV ?_ | with_reducible refine Ck.w_and ?_ | with_reducible refine Ck.w_or ?_ | with_reducible refine Ck.w_not ?_
  | with_reducible refine Ck.w_bm ?_ | with_reducible refine Ck.w_sfld ?_ | with_reducible refine Ck.w_make ?_ | with_reducible refine Ck.w_sl ?_ | with_reducible refine Ck.w_part ?_ | with_reducible refine Ck.w_pI ?_ | with_reducible refine Ck.w_noP ?_
  | with_reducible refine Ck.w_sub ?_ | with_reducible refine Ck.w_name ?_ | with_reducible refine Ck.w_gtup ?_ | with_reducible refine Ck.w_gcons ?_ | with_reducible refine Ck.w_gnil ?_ | with_reducible refine Ck.w_asgG ?_
  | with_reducible refine Ck.w_iL ?_ | with_reducible refine Ck.w_iT ?_ | with_reducible refine Ck.w_iR ?_ | with_reducible refine Ck.w_iS ?_ | with_reducible refine Ck.w_lc ?_ | with_reducible refine Ck.w_for ?_ | with_reducible refine Ck.w_un ?_
  | with_reducible refine Ck.w_xf ?_ | with_reducible refine Ck.w_chain ?_ | with_reducible refine Ck.w_rev ?_ | with_reducible refine Ck.w_dget ?_ | with_reducible refine Ck.w_dput ?_ | with_reducible refine Ck.w_methE ?_ | with_reducible refine Ck.w_mkO ?_ | with_reducible refine Ck.w_ost ?_ | with_reducible refine Ck.w_fAug ?_
  | with_reducible refine Ck.w_tt ?_ | with_reducible refine Ck.w_ff ?_ | (with_reducible refine And.intro rfl ?_))
local macro_rules | `(tactic| walk_at "w") => `(tactic| repeat walk_at "w1")

local macro_rules | `(tactic| walk_at "wk") => `(tactic| first | (dsimp only [L2.Cx.blk]; done) | (dsimp only [L2.Cx.blk]; exact rfl) | exact rfl)
local macro_rules | `(tactic| walk_at "wt") => `(tactic| first | (dsimp only [L2.Cx.tr, L2.Cx.suite]; done) | (dsimp only [L2.Cx.tr, L2.Cx.suite]; exact rfl) | exact rfl)
namespace Ck
open PySem PySem.Spec PyProof.Rows L2
open He (ga ma fAd)
section
variable {P : Program} {w : World} {K : PySem.W.Frag} {mg : Str → Option Value} {base : Heap}
open R7253f.Spec (Units units isName indexIn itemNames kindAt sameGroup isControl canTick canHold isCheck readLine itemOn itemOff groupOn isClick clickers readLines wordsFrom linesFrom lineError)
/-- in the middle of read_page -/
def RpI (K : PySem.W.Frag) (G H : Hp) (w : Units) (a dx tl ol dl ll fl rl : Addr) (rv : List V) (i : Nat) (G' H' : Hp) : Prop := ∃ p ts ls fs es, Stp [] G H G' H' ∧ PgI K G' a dx tl ol dl ll ∧ PgM K G' H' tl ol dl ll p ts ls ∧ PgW p ∧ Mu G' H' fl (.lst fs) ∧ Paired (FtA K G') fs es ∧
  G' rl = some (.lst rv) ∧ Paired (LnA G') rv (linesFrom [] w) ∧ R7253f.Spec.readText w = ((readLines (i + 1) p ((linesFrom [] w).drop i)).1, es.map lErr ++ (readLines (i + 1) p ((linesFrom [] w).drop i)).2) ∧ (∀ e ∈ es, okm e.2 = true ∧ e.1 ≤ 2000) ∧ es.length ≤ i
theorem has_read_page (T : Txt K mg) : Has P w K mg base CX0 9 ("read_page", none) ["octets"] (spRdPage K) := by
  refine mk_has (d := d_read_page) T 20 rfl rfl rfl sc_read_page (fun _ _ _ _ _ _ us hl => match us, hl with | [_], _ => rfl) (fun vs H Q E h => h.1) (fun cdv A outer s H vs Q E hr h => ?_)
  refine ⟨_, PSs.nox (pss_cons (ps_set (i := 1) sc_read_page.nd rfl (Or.inl rfl) (pmake0 (has_Page_init T) (mk_Page T) (hr.mono (by omega)) rfl (gl_Page T) pass0))
 (pss_cons (ps_set (i := 2) sc_read_page.nd rfl (Or.inl rfl) (pe_lst pa_nil))
 (pss_cons (ps_set (i := 3) sc_read_page.nd rfl (Or.inl rfl) (pcall (has_lines_of T) (hr.mono (by omega)) rfl (gl_lines_of T) pass0 (pa_cons (pv 0) pa_nil)))
 (pss_cons (ps_for PassesOwn.never rfl (pi_range1 (by rfl) (fr_range T) (pa_cons (pe_callB c_len (by rfl) (fr_len T) PySem.boot_len (pa_cons (pv 3) pa_nil)) pa_nil)) (pg_name (i := 4) sc_read_page.nd rfl (Or.inl rfl)) (pss_cons (ps_set (i := 5) sc_read_page.nd rfl (Or.inl rfl) (pcall (has_words_of T) (hr.mono (by omega)) rfl (gl_words_of T) pass0 (pa_cons (pe_ix ix_list (pv 3) (pv 4) (fun _ _ => rfl)) pa_nil)))
 (pss_one (ps_if (pt_cmpR op_gt (pe_callB c_len (by rfl) (fr_len T) PySem.boot_len (pa_cons (pv 5) pa_nil)) pe_int (nomark _)) (pss_one (L2N.ps_try_as (i := 6) rfl rfl sc_read_page.nd rfl rfl ⟨rfl, by decide, .inl (gl_Unreadable T)⟩ (tk_no rfl) (by intro W pn xe tk ho; exact re_s (pss_one (ps_expr (pmethE (pv 1) (cl_Page T) (me_Page_read_line T) (has_Page_read_line T) (hr.mono (by omega)) (fun σ => L2N.passAt tk σ) (pa_cons (pv 5) pa_nil)))) (by walk_at "wt")) (by intro a oe cls d pn hz hf; exact re_s (pss_one (ps_expr (pe_bm PySem.F.plainAttrs_list PySem.F.slot_list_append PySem.F.type_list_append mt_append (pv 2) (pa_cons (pe_tup (pa_cons (pe_op op_add (pv 4) pe_int) (pa_cons (pe_xf (ex_Unreadable T).2.1 (na_Unreadable_reason T) hz.zc hf (pv 6)) pa_nil))) pa_nil)))) (by walk_at "wt")))) pss_nil))))
 (pss_one (ps_ret (pe_tup (pa_cons (pv 1) (pa_cons (pv 2) pa_nil))))))))), ?_⟩
  obtain ⟨_, G, b, w, rfl, gs, hb, hwl, kk⟩ := h
  have : Cur G H := ⟨gs⟩
  have hll := lines_len w []
  walk_at "w"
  refine u_make fun a dx G1 H1 st1 _ _ ha mu1 => ?_
  walk_at "w"
  refine ⟨rfl, G1, a, dx, rfl, st1.s, mu1, fun tl ol dl ll G2 H2 st2 _ _ mua n1 n2 n3 n4 pm => ⟨rfl, ?_⟩⟩
  have st12 : Stp [] G H G2 H2 := (st1.nil.trans st2).drop ha
  have mua : Mu G2 H2 a (.ins (ga K "Page") dx (FPage (.ref tl) (.ref ol) (.ref dl) (.ref ll))) := mua
  have st13 := st12.keep ha mua.h
  have nt : tl ≠ a := (mu1.upd_ne' n1).symm
  have no : ol ≠ a := (mu1.upd_ne' n2).symm
  have nd : dl ≠ a := (mu1.upd_ne' n3).symm
  have nl : ll ≠ a := (mu1.upd_ne' n4).symm
  have hi3 : PgI K (upd G2 a (.ins (ga K "Page") dx (FPage (.ref tl) (.ref ol) (.ref dl) (.ref ll)))) a dx tl ol dl ll := upd_same
  generalize hG3 : upd G2 a (.ins (ga K "Page") dx (FPage (.ref tl) (.ref ol) (.ref dl) (.ref ll))) = G3 at st13 hi3
  have pm3 : PgM K G3 H2 tl ol dl ll R7253f.Spec.emptyPage [] [] := by
    subst hG3
    exact ⟨pm.t.kept nt, pm.o.kept no, pm.d.kept nd, pm.l.kept nl, .nil, .nil, pm.to, pm.td, pm.tl, pm.od, pm.ol, pm.dl⟩
  have : Cur G3 H2 := ⟨st13.s⟩
  have : Dn G G3 := ⟨st13.g⟩
  have gone : ∀ {x : Addr}, H1 x = none → H x = none := fun h => st1.free h
  walk_at "w"
  refine u_lst (Nat.zero_le _) fun fl G4 H4 st4 _ _ hf mf => ?_
  walk_at "w"
  have pm4 := pm3.nil st4
  have ft : tl ≠ fl := pm3.t.upd_ne' hf
  have fo : ol ≠ fl := pm3.o.upd_ne' hf
  have fd : dl ≠ fl := pm3.d.upd_ne' hf
  have fll : ll ≠ fl := pm3.l.upd_ne' hf
  have hfH : H fl = none := st13.free hf
  refine u_lines (upT hb) (by omega) fun rl rv G5 H5 st5 _ _ hrl hrv => ?_
  walk_at "w"
  refine u_lenL (SqL.of (on hrl)) ?_
  walk_at "w"
  have hrvl := hrv.length
  refine u_iR (by omega) ?_
  refine u_for (walk_range (n := rv.length)) (fun i σ H' => ∃ G' v4 v5, σ = [some (.ref b), some (.ref a), some (.ref fl), some (.ref rl), v4, v5, none] ∧ RpI K G H w a dx tl ol dl ll fl rl rv i G' H') ?_ (fun _ _ _ _ _ => trivial) ?_ ?_
  · refine ⟨G5, none, none, rfl, R7253f.Spec.emptyPage, [], [], [], [], (st13.trans st4).trans st5, st5.g _ _ (st4.g _ _ hi3), pm4.nil st5, wf_empty, st5.mu mf List.not_mem_nil, .nil, hrl, hrv, rfl, (fun e h => by cases h), Nat.le_refl _⟩
  · rintro i x σ H6 H6' hi ⟨G6, v4, v5, rfl, p, ts, ls, fs, es, st6, hi6, pm6, wf6, mf6, pf6, hrl6, hrv6, hR, hom, hel⟩ ⟨rfl, rfl⟩
    have : Cur G6 H6' := ⟨st6.s⟩
    have : Dn G G6 := ⟨st6.g⟩
    obtain ⟨y, hy⟩ : ∃ y, rv[i]? = some y := ⟨_, List.getElem?_eq_getElem hi⟩
    obtain ⟨u, hu, pl, rfl, hpl⟩ := pr_getL hrv6 hy
    have hul := lines_mem w [] (List.mem_of_getElem? hu)
    simp only [List.length_nil] at hul
    have hd : (linesFrom [] w).drop i = u :: (linesFrom [] w).drop (i + 1) := by
      have hil := (List.getElem?_eq_some_iff.mp hu).1
      rw [List.drop_eq_getElem_cons hil]
      rw [List.getElem?_eq_getElem hil] at hu
      rw [Option.some.inj hu]
    rw [hd, lines_cons] at hR
    walk_at "w"
    refine w_ixL (SqL.of (on hrl6)) (at0 hy) ?_
    walk_at "w"
    refine u_words hpl (by omega) fun wl wv G7 H7 st7 _ _ hwl7 hwv7 => ?_
    walk_at "w"
    have hwlen := words_len u []
    have hwvl := hwv7.length
    refine u_lenL (SqL.of (on hwl7)) ?_
    walk_at "w"
    have hi7 : PgI K G7 a dx tl ol dl ll := st7.g _ _ hi6
    refine w_ite (fun hb => ?_) (fun hb => ?_)
    · have hb : 0 < wv.length := by have := of_decide_eq_true hb; omega
      obtain ⟨w0, l, hwf⟩ : ∃ w0 l, wordsFrom [] u = w0 :: l := by
        cases e : wordsFrom [] u with
        | nil => rw [e] at hwvl; rw [hwvl] at hb; exact absurd hb (Nat.lt_irrefl _)
        | cons w0 l => exact ⟨w0, l, rfl⟩
      rw [hwf] at hwv7 hR hwlen
      have hz : ∀ x ∈ w0 :: l, x.length ≤ 100000 := fun x hx => by
        have := words_mem u [] (hwf ▸ hx)
        simp only [List.length_nil] at this
        omega
      walk_at "w"
      refine u_mth (on hi7) fm_Page_read_line ?_
      walk_at "w"
      have rd : RdP K G7 H7 a dx tl ol dl ll p ts ls wl wv (w0 :: l) := ⟨st7.s, hi7, pm6.nil st7, wf6, hwl7, hwv7, hz, by omega⟩
      refine ⟨rfl, G7, a, dx, tl, ol, dl, ll, p, ts, ls, wl, wv, w0, l, rfl, rd, ?_, ?_⟩
      · intro p' hp' ts' ls' G8 H8 st8 _ _ pm8
        rw [hp'] at hR
        refine ⟨G8, _, _, rfl, p', ts', ls', fs, es, ?_, st8.g _ _ hi7, pm8, wf_line wf6 hp', ?_, ?_, st8.g _ _ (st7.g _ _ hrl6), ?_, hR, hom, by omega⟩
        · have s := (st6.trans st7).nil.trans st8
          exact (((s.drop (gone n1)).drop (gone n2)).drop (gone n3)).drop (gone n4)
        · exact st8.mu (st7.mu mf6 List.not_mem_nil) (by simp [ft.symm, fo.symm, fd.symm, fll.symm])
        · exact Paired.mapP pf6 fun _ _ => FtA.mono (st7.g.trans st8.g)
        · exact Paired.mapP hrv6 fun _ _ => LnA.mono (st7.g.trans st8.g)
      · intro r hr hok d G8 H8 st8 _ _ hd8
        rw [hr] at hR
        refine ⟨true, (ex_Unreadable T).2.2.2.2, fun _ x hx => ?_, fun e => by cases e⟩
        have mf8 := st8.mu (st7.mu mf6 List.not_mem_nil) List.not_mem_nil
        walk_at "w"
        refine u_bmL mf8.h ?_
        walk_at "w"
        refine ⟨d, _, _, rfl, on hd8, rfl, ?_⟩
        walk_at "w"
        refine u_tup (by show 2 ≤ sizeLine; decide) fun t9 G9 H9 st9 _ _ ht9 => ?_
        walk_at "w"
        have hfl := pf6.length
        refine u_app (st9.mu mf8 List.not_mem_nil) (lst_le (by omega)) fun Ga Ha sta _ _ mfa => ?_
        walk_at "w"
        have g7a := (st7.g.trans st8.g).trans (st9.g.trans sta.g)
        have sts := (st7.trans st8).trans st9
        refine ⟨Ga, _, _, rfl, p, ts, ls, fs ++ [.ref t9], es ++ [(i + 1, r)], ((st6.trans sts).nil.trans sta).drop hfH, g7a _ _ hi6, (pm6.nil sts).step sta (by simpa using ft) (by simpa using fo) (by simpa using fd) (by simpa using fll), wf6, mfa, ?_, g7a _ _ hrl6, Paired.mapP hrv6 fun _ _ => LnA.mono g7a, ?_, ?_, by rw [List.length_append]; show _ + 1 ≤ _; omega⟩
        · refine pairApp (Paired.mapP pf6 fun _ _ => FtA.mono g7a) (.cons ⟨t9, rfl, ?_⟩ .nil)
          have e : (0 : Int) + (i : Int) + 1 = ((i + 1 : Nat) : Int) := by omega
          rw [e] at ht9
          exact SqT.of (sta.g _ _ ht9)
        · rw [hR, List.map_append, List.append_assoc]; rfl
        · intro e he
          rcases List.mem_append.mp he with h | h
          · exact hom e h
          · rw [List.mem_singleton.mp h]; exact ⟨hok, by show i + 1 ≤ 2000; omega⟩
    · have hb : ¬ 0 < wv.length := by have := of_decide_eq_false hb; omega
      have hwf : wordsFrom [] u = [] := List.eq_nil_of_length_eq_zero (by omega)
      rw [hwf, line_nil] at hR
      walk_at "w"
      exact ⟨G7, _, _, rfl, p, ts, ls, fs, es, st6.trans st7, hi7, pm6.nil st7, wf6, st7.mu mf6 List.not_mem_nil, Paired.mapP pf6 fun _ _ => FtA.mono st7.g, st7.g _ _ hrl6, Paired.mapP hrv6 fun _ _ => LnA.mono st7.g, hR, hom, by omega⟩
  · rintro σ H6 ⟨G6, v4, v5, rfl, p, ts, ls, fs, es, st6, hi6, pm6, wf6, mf6, pf6, hrl6, hrv6, hR, hom, hel⟩
    rw [hrvl, List.drop_length] at hR
    have hR : R7253f.Spec.readText w = (p, es.map lErr ++ []) := hR
    rw [List.append_nil] at hR
    have hp1 : (R7253f.Spec.readText w).1 = p := by rw [hR]
    have hp2 : (R7253f.Spec.readText w).2 = es.map lErr := by rw [hR]
    have : Cur G6 H6 := ⟨st6.s⟩
    walk_at "w"
    refine u_tup (by show 2 ≤ sizeLine; decide) fun t7 G7 H7 st7 _ _ ht7 => ?_
    have st67 := st6.trans st7
    have pm7 := pm6.nil st7
    have mf7 := st7.mu mf6 List.not_mem_nil
    have k1 := st67.keep (gone n1) pm7.t.h
    have k2 := k1.keep (gone n2) pm7.o.h
    have k3 := k2.keep (gone n3) pm7.d.h
    have k4 := k3.keep (gone n4) pm7.l.h
    have k5 := k4.keep hfH mf7.h
    have s7 := Same.keep pm7.t.h st67.s
    have s7 := s7.trans (Same.keep pm7.o.h k1.s)
    have s7 := s7.trans (Same.keep pm7.d.h k2.s)
    have s7 := s7.trans (Same.keep pm7.l.h k3.s)
    have s7 := s7.trans (Same.keep mf7.h k4.s)
    refine Nxt.go (kk t7 a fl fs es) k5 (s7 _ _ ht7) ?_ (by rw [hp1]; exact wf6) upd_same (Paired.mapP pf6 fun _ _ => FtA.mono (st7.g.trans s7)) hp2 hom (by omega)
    rw [hp1]
    refine ⟨dx, tl, ol, dl, ll, ts, ls, s7 _ _ (st7.g _ _ hi6), ?_, ?_, ?_, ?_, Paired.mapP pm7.it fun _ _ => ItA.mono s7, Paired.mapP pm7.li fun _ _ => LiA.mono s7⟩
    · exact SqL.of (by rw [upd_ne ft, upd_ne pm7.tl, upd_ne pm7.td, upd_ne pm7.to, upd_same])
    · exact SqL.of (by rw [upd_ne fo, upd_ne pm7.ol, upd_ne pm7.od, upd_same])
    · exact SqL.of (by rw [upd_ne fd, upd_ne pm7.dl, upd_same])
    · exact SqL.of (by rw [upd_ne fll, upd_same])
end
end Ck
namespace Ck
open PySem PySem.Spec PyProof.Rows L2
open He (ga ma fAd)
open R7253f.Spec (Units units isName indexIn itemNames kindAt isControl canTick pathFrom pathOf targetOf firstIn controlOf activates)
theorem rng0 {v : V} {k : Nat} (h : v = V.int (0 + (k : Int))) : v = V.int (k : Nat) := h.trans (congrArg V.int (Int.zero_add _))
/-! ### paths -/
def pathJ (p : SPage) (j : Nat) : List Nat := pathFrom p (j + 1) j
theorem path_step (p : SPage) (k i : Nat) : pathFrom p (k + 1) i = match p.items[i]? with | none => [] | some x => i :: (match x.parent with | none => [] | some q => pathFrom p k q) := rfl
theorem path_fuel {p : SPage} (w : PgW p) : ∀ (j k : Nat), j < k → pathFrom p k j = pathJ p j := by
  intro j
  induction j using Nat.strongRecOn with
  | ind j ih =>
    intro k hk
    obtain ⟨k, rfl⟩ : ∃ k', k = k' + 1 := ⟨k - 1, by omega⟩
    unfold pathJ
    rw [path_step, path_step]
    cases hx : p.items[j]? with
    | none => rfl
    | some x =>
      show j :: _ = j :: _
      cases hq : x.parent with
      | none => rfl
      | some q =>
        have hqj := w.par j q x hx hq
        show j :: pathFrom p k q = j :: pathFrom p j q
        rw [ih q hqj k (by omega), ih q hqj j hqj]
theorem pathJ_eq {p : SPage} (w : PgW p) {j : Nat} {x : SItem} (hx : p.items[j]? = some x) : pathJ p j = j :: (match x.parent with | none => [] | some q => pathJ p q) := by
  unfold pathJ
  rw [path_step, hx]
  show j :: _ = j :: _
  cases hq : x.parent with
  | none => rfl
  | some q =>
    have hqj := w.par j q x hx hq
    show j :: pathFrom p j q = j :: pathFrom p (q + 1) q
    rw [path_fuel w q j hqj]; rfl
theorem pathOf_eq {p : SPage} (w : PgW p) {i : Nat} (hi : i < p.items.length) : pathOf p i = pathJ p i := path_fuel w i _ hi
theorem path_mem {p : SPage} (w : PgW p) : ∀ (i : Nat), i < p.items.length → ∀ j ∈ pathJ p i, j ≤ i := by
  intro i
  induction i using Nat.strongRecOn with
  | ind i ih =>
    intro hi j hj
    obtain ⟨x, hx⟩ := item_at hi
    rw [pathJ_eq w hx] at hj
    rcases List.mem_cons.mp hj with rfl | hj
    · exact Nat.le_refl _
    · cases hq : x.parent with
      | none => rw [hq] at hj; cases hj
      | some q =>
        rw [hq] at hj
        have hqi := w.par i q x hx hq
        have := ih q hqi (by omega) j hj
        omega
theorem path_len {p : SPage} (w : PgW p) : ∀ (i : Nat), i < p.items.length → (pathJ p i).length ≤ i + 1 := by
  intro i
  induction i using Nat.strongRecOn with
  | ind i ih =>
    intro hi
    obtain ⟨x, hx⟩ := item_at hi
    rw [pathJ_eq w hx]
    cases hq : x.parent with
    | none => simp
    | some q =>
      have hqi := w.par i q x hx hq
      have := ih q hqi (by omega)
      show (pathJ p q).length + 1 ≤ _
      omega
theorem parI_pos {o : Option Nat} : decide (0 ≤ parI o) = o.isSome := by
  cases o with
  | none => rfl
  | some i => exact decide_eq_true (by show (0 : Int) ≤ (i : Int); omega)
theorem parI_neg {o : Option Nat} : decide (parI o < 0) = o.isNone := by
  cases o with
  | none => rfl
  | some i => exact decide_eq_false (by show ¬ ((i : Int) < 0); omega)
theorem kwS_plain {k : SKind} : (!decide (V.str (kwS k) = V.str "plain")) = activates k := by
  cases k with
  | plain => decide +kernel
  | link => decide +kernel
  | button => decide +kernel
  | check => decide +kernel
  | radio g => show (!decide (V.str "radio" = V.str "plain")) = true; decide +kernel
  | label c => show (!decide (V.str "label" = V.str "plain")) = true; decide +kernel
def isLabel : SKind → Bool
  | .label _ => true
  | _ => false
theorem kwS_label {k : SKind} : (!decide (V.str (kwS k) = V.str "label")) = !isLabel k := by
  cases k with
  | plain => decide +kernel
  | link => decide +kernel
  | button => decide +kernel
  | check => decide +kernel
  | radio g => show (!decide (V.str "radio" = V.str "label")) = true; decide +kernel
  | label c => show (!decide (V.str "label" = V.str "label")) = false; decide +kernel
theorem inV_nat (i : Nat) : ∀ l : List Nat, inV (.int (i : Nat)) (l.map fun (j : Nat) => V.int (j : Nat)) = l.contains i
  | [] => rfl
  | j :: l => by
    have ih := inV_nat i l
    unfold inV at ih ⊢
    rw [List.map_cons, List.any_cons, ih, List.contains_cons]
    congr 1
    show ((j : Int) == (i : Int)) = (i == j)
    rw [Bool.eq_iff_iff]
    simp
    omega
theorem flat_nat : ∀ l : List Nat, (l.map fun (j : Nat) => V.int (j : Nat)).all flatV = true
  | [] => rfl
  | j :: l => by rw [List.map_cons, List.all_cons, flat_nat l]; rfl
theorem nats_at {l : List Nat} {i : Nat} {v : V} (h : (l.map fun (j : Nat) => V.int (j : Nat))[i]? = some v) : ∃ j, l[i]? = some j ∧ v = .int (j : Nat) := by
  rw [List.getElem?_map] at h
  cases e : l[i]? with
  | none => rw [e] at h; cases h
  | some j => rw [e] at h; exact ⟨j, rfl, (Option.some.inj h).symm⟩
theorem find_hit {α : Type} {f : α → Bool} {l : List α} {i : Nat} {x : α} (h : ∀ y ∈ l.take i, f y = false) (hx : l[i]? = some x) (e : f x = true) : l.find? f = some x := by
  have hi : i < l.length := (List.getElem?_eq_some_iff.mp hx).1
  have e1 : l = l.take i ++ x :: l.drop (i + 1) := by
    have e2 : l[i] = x := by rw [List.getElem?_eq_getElem hi] at hx; exact Option.some.inj hx
    rw [← e2, List.getElem_cons_drop, List.take_append_drop]
  rw [e1, List.find?_append]
  have e3 : (l.take i).find? f = none := by
    rw [List.find?_eq_none]
    intro y hy
    rw [h y hy]; decide
  rw [e3]
  simp [e]
theorem find_miss {α : Type} {f : α → Bool} {l : List α} (h : ∀ y ∈ l, f y = false) : l.find? f = none := by
  rw [List.find?_eq_none]
  intro y hy
  rw [h y hy]; decide
theorem name_ne {w : Units} (h : isName w = true) : w ≠ [] := by
  rintro rfl
  exact absurd h (by decide)
theorem idx_name {p : SPage} (w : PgW p) {c : Nat} (hc : c < p.items.length) : indexIn (itemNames p) ((itemNames p).getD c []) = some c := by
  have hcl : c < (itemNames p).length := by rw [names_len]; exact hc
  rw [List.getD_eq_getElem?_getD, List.getElem?_eq_getElem hcl]
  refine idx_hit (fun j x hj hx e => ?_) (List.getElem?_eq_getElem hcl)
  have hjl : j < (itemNames p).length := by omega
  rw [List.getElem?_eq_getElem hjl] at hx
  have hx : (itemNames p)[j] = x := Option.some.inj hx
  have := (List.nodup_iff_pairwise_ne.mp w.nd)
  rw [List.pairwise_iff_getElem] at this
  exact this j c hjl hcl hj (by rw [hx, e]; rfl)
theorem name_at {p : SPage} {c : Nat} {x : SItem} (h : p.items[c]? = some x) : (itemNames p).getD c [] = x.name := by
  rw [List.getD_eq_getElem?_getD, names_at h]; rfl
theorem target_lt {p : SPage} (w : PgW p) {i j : Nat} (hi : i < p.items.length) (h : targetOf p i = some j) : j < p.items.length := by
  unfold targetOf at h
  have := List.mem_of_find?_eq_some h
  rw [pathOf_eq w hi] at this
  have := path_mem w i hi j this
  omega
theorem control_lt {p : SPage} (w : PgW p) {i j : Nat} (hi : i < p.items.length) (h : controlOf p i = some j) : j < p.items.length := by
  obtain ⟨x, hx⟩ := item_at hi
  unfold controlOf at h
  rw [kind_at hx] at h
  cases hk : x.kind with
  | label o =>
    rw [hk] at h
    cases o with
    | none =>
      have h : firstIn p i = some j := h
      unfold firstIn at h
      exact List.mem_range.mp (List.mem_of_find?_eq_some h)
    | some c =>
      have h : (if isControl (kindAt p c) then some c else none) = some j := h
      split at h
      · cases h
        have := w.lab i j x hx hk
        omega
      · cases h
  | _ => rw [hk] at h; cases h
/-! ### promises -/
section
variable (K : PySem.W.Frag)
def spPath : Sp := fun vs H Q _ => vs.length = 2 ∧ ∃ (G : Hp) (a : Addr) (p : SPage) (i : Nat), vs = [.ref a, .int (i : Nat)] ∧ Same G H ∧ PgH K G a p ∧ PgW p ∧ i < p.items.length ∧ ∀ q, Nxt [] G H fun G' H' => G' q = some (.lst ((pathOf p i).map fun (j : Nat) => V.int (j : Nat))) → Q (.ref q) H'
def spTarget : Sp := fun vs H Q _ => vs.length = 2 ∧ ∃ (G : Hp) (a : Addr) (p : SPage) (i : Nat), vs = [.ref a, .int (i : Nat)] ∧ Same G H ∧ PgH K G a p ∧ PgW p ∧ i < p.items.length ∧ Nxt [] G H fun _ H' => Q (.int (idxI (targetOf p i))) H'
def spControl : Sp := fun vs H Q _ => vs.length = 2 ∧ ∃ (G : Hp) (a : Addr) (p : SPage) (i : Nat), vs = [.ref a, .int (i : Nat)] ∧ Same G H ∧ PgH K G a p ∧ PgW p ∧ i < p.items.length ∧ Nxt [] G H fun _ H' => Q (.int (idxI (controlOf p i))) H'
end
section
variable {K : PySem.W.Frag} {G H : Hp} {Q : VK} {E : XK} {a : Addr} {p : SPage} {i : Nat}
theorem u_path [q : Cur G H] (h : PgH K G a p) (w : PgW p) (hi : i < p.items.length) (k : ∀ q, Nxt [] G H fun G' H' => G' q = some (.lst ((pathOf p i).map fun (j : Nat) => V.int (j : Nat))) → Q (.ref q) H') : spPath K [.ref a, .int (i : Nat)] H Q E := ⟨rfl, G, a, p, i, rfl, q.s, h, w, hi, k⟩
theorem u_target [q : Cur G H] (h : PgH K G a p) (w : PgW p) (hi : i < p.items.length) (k : Nxt [] G H fun _ H' => Q (.int (idxI (targetOf p i))) H') : spTarget K [.ref a, .int (i : Nat)] H Q E := ⟨rfl, G, a, p, i, rfl, q.s, h, w, hi, k⟩
theorem u_control [q : Cur G H] (h : PgH K G a p) (w : PgW p) (hi : i < p.items.length) (k : Nxt [] G H fun _ H' => Q (.int (idxI (controlOf p i))) H') : spControl K [.ref a, .int (i : Nat)] H Q E := ⟨rfl, G, a, p, i, rfl, q.s, h, w, hi, k⟩
end
end Ck
namespace Ck
open PySem PySem.Spec PyProof.Rows L2
open He (ga ma fAd)
section
variable {P : Program} {w : World} {K : PySem.W.Frag} {mg : Str → Option Value} {base : Heap}
open R7253f.Spec (Units units isName indexIn itemNames kindAt isControl canTick pathFrom pathOf targetOf firstIn controlOf activates)
theorem has_Page_path (T : Txt K mg) : Has P w K mg base CX0 1 ("Page", some "path") ["self", "item"] (spPath K) := by
  refine mk_has (d := d_Page_path) T 16 rfl rfl rfl sc_Page_path (fun _ _ _ _ _ _ us hl => match us, hl with | [_, _], _ => rfl) (fun vs H Q E h => h.1) (fun cdv A outer s H vs Q E hr h => ?_)
  refine ⟨_, PSs.nox (pss_cons (ps_set (i := 2) sc_Page_path.nd rfl (Or.inl rfl) (pe_lst (pa_cons (pv 1) pa_nil)))
 (pss_cons (ps_while PassesOwn.never (pt_cmpR op_ge (pe_ix ix_tup (pe_ix ix_list (pe_fld (pv 0) rfl) (pv 1) (fun _ _ => rfl)) pe_int (fun _ _ => rfl)) pe_int (nomark _)) (pss_cons (ps_set (i := 1) sc_Page_path.nd rfl (Or.inl rfl) (pe_ix ix_tup (pe_ix ix_list (pe_fld (pv 0) rfl) (pv 1) (fun _ _ => rfl)) pe_int (fun _ _ => rfl)))
 (pss_one (ps_expr (pe_bm PySem.F.plainAttrs_list PySem.F.slot_list_append PySem.F.type_list_append mt_append (pv 2) (pa_cons (pv 1) pa_nil))))))
 (pss_one (ps_ret (pv 2))))), ?_⟩
  obtain ⟨_, G, a, p, i, rfl, gs, pg, wf, hi, kk⟩ := h
  have : Cur G H := ⟨gs⟩
  rw [pathOf_eq wf hi] at kk
  have hp8 := wf.len
  obtain ⟨dx, tl, ol, dl, ll, ts, ls, ins, hp⟩ := id pg
  walk_at "w"
  refine u_lst (by show 1 ≤ sizeLine; decide) fun f G1 H1 st1 _ _ hf mf => ?_
  walk_at "w"
  refine ⟨fun m σ H' => ∃ G' j pre, j = m ∧ j < p.items.length ∧ σ = [some (.ref a), some (.int (j : Nat)), some (.ref f)] ∧ Stp [] G H G' H' ∧ Mu G' H' f (.lst ((pre ++ [j]).map fun (j : Nat) => V.int (j : Nat))) ∧ pathJ p i = pre ++ pathJ p j ∧ pre.length + j ≤ i, ⟨i, G1, i, [], rfl, hi, rfl, st1, mf, rfl, by simp⟩, ?_⟩
  rintro m σ H' ⟨G', j, pre, rfl, hj, rfl, st, mf, hP, hpl⟩
  have : Cur G' H' := ⟨st.s⟩
  have : Dn G G' := ⟨st.g⟩
  obtain ⟨x, hx⟩ := item_at hj
  obtain ⟨v, hv, t, n, mo, rfl, ht, hn, hm⟩ := pr_get hp.it hx
  have i1 : H' a = some _ := on ins
  have hpj := pathJ_eq wf hx
  have hp1 : PgL K H' tl ol dl ll p ts ls := hp.mono (st.g.trans st.s)
  walk_at "w"
  refine u_fld i1 (cl_Page T) (na_Page_things T) fl_Page_things ?_
  walk_at "w"
  refine w_ixL hp1.t (atI_nat hv) ?_
  walk_at "w"
  refine w_ixT (onT ht) rfl ?_
  walk_at "w"
  rw [parI_pos]
  cases hq : x.parent with
  | none =>
    rw [hq] at hpj
    have hpj : pathJ p j = [j] := hpj
    rw [hpj] at hP
    refine iteF ?_
    walk_at "w"
    rw [hP] at kk
    exact (kk f).go (st.keep hf mf.h) upd_same
  | some q =>
    rw [hq] at hpj ht
    have hpj : pathJ p j = j :: pathJ p q := hpj
    have hqj := wf.par j q x hx hq
    have ht : SqT K G t [.ref n, .int (q : Nat), .str (kwS x.kind), .ref mo] := ht
    refine iteT ?_
    refine ⟨fun σ' H'' => ∃ G'' pre', q < p.items.length ∧ σ' = [some (.ref a), some (.int (q : Nat)), some (.ref f)] ∧ Stp [] G H G'' H'' ∧ Mu G'' H'' f (.lst ((pre' ++ [q]).map fun (j : Nat) => V.int (j : Nat))) ∧ pathJ p i = pre' ++ pathJ p q ∧ pre'.length + q ≤ i, ?_, ?_⟩
    · rintro σ' H'' ⟨G'', pre', h1, h2, h3, h4, h5, h6⟩
      exact ⟨q, hqj, G'', q, pre', rfl, h1, h2, h3, h4, h5, h6⟩
    walk_at "w"
    refine u_fld i1 (cl_Page T) (na_Page_things T) fl_Page_things ?_
    walk_at "w"
    refine w_ixL hp1.t (atI_nat hv) ?_
    walk_at "w"
    refine w_ixT (onT ht) rfl ?_
    walk_at "w"
    refine u_bmL mf.h ?_
    walk_at "w"
    refine u_app mf (by simp only [List.length_map, List.length_append, List.length_singleton]; exact lst_le (by omega)) fun G2 H2 st2 _ _ mf2 => ?_
    walk_at "w"
    refine ⟨G2, pre ++ [j], by omega, rfl, (st.nil.trans st2).drop hf, ?_, ?_, ?_⟩
    · rw [List.map_append]; exact mf2
    · rw [hP, hpj, List.append_assoc]; rfl
    · rw [List.length_append]; show pre.length + 1 + q ≤ i; omega
theorem has_Page_activated (T : Txt K mg) : Has P w K mg base CX0 2 ("Page", some "activated") ["self", "item"] (spTarget K) := by
  refine mk_has (d := d_Page_activated) T 17 rfl rfl rfl sc_Page_activated (fun _ _ _ _ _ _ us hl => match us, hl with | [_, _], _ => rfl) (fun vs H Q E h => h.1) (fun cdv A outer s H vs Q E hr h => ?_)
  refine ⟨_, PSs.nox (pss_cons (ps_for PassesOwn.never rfl (pi_list (pmeth (pv 0) (cl_Page T) (me_Page_path T) (has_Page_path T) (hr.mono (by omega)) pass0 (pa_cons (pv 1) pa_nil))) (pg_name (i := 2) sc_Page_activated.nd rfl (Or.inl rfl)) (pss_one (ps_if (pt_cmpR op_ne (pmeth (pv 0) (cl_Page T) (me_Page_kind T) (has_Page_kind T) (hr.mono (by omega)) pass0 (pa_cons (pv 2) pa_nil)) (pgs (gs_PLAIN T) rfl) (nomark _)) (pss_one (ps_ret (pv 2))) pss_nil)))
 (pss_one (ps_ret (pgi (gi_NOBODY T) rfl)))), ?_⟩
  obtain ⟨_, G, a, p, i, rfl, gs, pg, wf, hi, kk⟩ := h
  have : Cur G H := ⟨gs⟩
  have hT : targetOf p i = (pathOf p i).find? fun j => activates (kindAt p j) := rfl
  rw [hT] at kk
  rw [pathOf_eq wf hi] at kk
  have hmem := path_mem wf i hi
  have hp8 := wf.len
  have ⟨dx, tl, ol, dl, ll, ts, ls, ins, hp⟩ := pg
  walk_at "w"
  refine u_mth (on ins) fm_Page_path ?_
  walk_at "w"
  refine u_path pg wf hi fun q G1 H1 st1 _ _ hq => ?_
  walk_at "w"
  rw [pathOf_eq wf hi] at hq
  refine u_iL (SqL.of (on hq)) ?_
  refine u_for (walk_list (xs := (pathJ p i).map fun (j : Nat) => V.int (j : Nat))) (fun k σ H' => H' = H1 ∧ ∃ v, σ = [some (.ref a), some (.int (i : Nat)), v] ∧ ∀ j ∈ (pathJ p i).take k, activates (kindAt p j) = false) ?_ (fun k σ H' _ ⟨e, _⟩ => by rw [e]; exact SqL.of (on hq)) ?_ ?_
  · exact ⟨rfl, none, rfl, fun j h => by simp at h⟩
  · rintro k v σ H2 H2' hk ⟨rfl, v0, rfl, hno⟩ ⟨rfl, hv⟩
    obtain ⟨j, hj, rfl⟩ := nats_at hv
    have hji := hmem j (List.mem_of_getElem? hj)
    obtain ⟨x, hx⟩ := item_at (show j < p.items.length by omega)
    walk_at "w"
    refine u_mth (st1.s _ _ (st1.g _ _ ins)) fm_Page_kind ?_
    walk_at "w"
    refine u_kind (pg.mono (st1.g.trans st1.s)) hx ?_
    walk_at "w"
    rw [kwS_plain, ← kind_at hx]
    refine w_ite (fun hb => ?_) (fun hb => ?_)
    · walk_at "w"
      rw [find_hit hno hj hb] at kk
      exact kk.go st1
    · walk_at "w"
      refine ⟨_, rfl, fun y hy => ?_⟩
      rw [List.take_succ, hj] at hy
      rcases List.mem_append.mp hy with h | h
      · exact hno y h
      · rw [show y = j by simpa using h]; exact hb
  · rintro σ H2 ⟨rfl, v0, rfl, hno⟩
    walk_at "w"
    rw [List.length_map, List.take_length] at hno
    rw [find_miss hno] at kk
    exact kk.go st1
theorem has_Page_control (T : Txt K mg) : Has P w K mg base CX0 2 ("Page", some "control") ["self", "item"] (spControl K) := by
  refine mk_has (d := d_Page_control) T 18 rfl rfl rfl sc_Page_control (fun _ _ _ _ _ _ us hl => match us, hl with | [_, _], _ => rfl) (fun vs H Q E h => h.1) (fun cdv A outer s H vs Q E hr h => ?_)
  refine ⟨_, PSs.nox (pss_cons (ps_if (pt_cmpR op_ne (pmeth (pv 0) (cl_Page T) (me_Page_kind T) (has_Page_kind T) (hr.mono (by omega)) pass0 (pa_cons (pv 1) pa_nil)) (pgs (gs_LABEL T) rfl) (nomark _)) (pss_one (ps_ret (pgi (gi_NOBODY T) rfl))) pss_nil)
 (pss_cons (ps_if (pt_cmpR op_gt (pe_callB c_len (by rfl) (fr_len T) PySem.boot_len (pa_cons (pe_ix ix_tup (pe_ix ix_list (pe_fld (pv 0) rfl) (pv 1) (fun _ _ => rfl)) pe_int (fun _ _ => rfl)) pa_nil)) pe_int (nomark _)) (pss_cons (ps_set (i := 2) sc_Page_control.nd rfl (Or.inl rfl) (pmeth (pv 0) (cl_Page T) (me_Page_number T) (has_Page_number T) (hr.mono (by omega)) pass0 (pa_cons (pe_ix ix_tup (pe_ix ix_list (pe_fld (pv 0) rfl) (pv 1) (fun _ _ => rfl)) pe_int (fun _ _ => rfl)) pa_nil)))
 (pss_one (ps_ret (pe_ifExp (pt_cmpR op_in_seq (pmeth (pv 0) (cl_Page T) (me_Page_kind T) (has_Page_kind T) (hr.mono (by omega)) pass0 (pa_cons (pv 2) pa_nil)) (pgr (tg_CONTROLS T) rfl) (by rfl)) (pv 2) (pgi (gi_NOBODY T) rfl))))) pss_nil)
 (pss_cons (ps_for PassesOwn.never rfl (pi_range1 (by rfl) (fr_range T) (pa_cons (pe_callB c_len (by rfl) (fr_len T) PySem.boot_len (pa_cons (pe_fld (pv 0) rfl) pa_nil)) pa_nil)) (pg_name (i := 3) sc_Page_control.nd rfl (Or.inl rfl)) (pss_one (ps_if (PW.pt (pw_and (pt_cmpR op_in_seq (pmeth (pv 0) (cl_Page T) (me_Page_kind T) (has_Page_kind T) (hr.mono (by omega)) pass0 (pa_cons (pv 3) pa_nil)) (pgr (tg_CONTROLS T) rfl) (by rfl)) (pw_and1 (pt_cmpR op_in_seq (pv 1) (pmeth (pv 0) (cl_Page T) (me_Page_path T) (has_Page_path T) (hr.mono (by omega)) pass0 (pa_cons (pv 3) pa_nil)) (by rfl))))) (pss_one (ps_ret (pv 3))) pss_nil)))
 (pss_one (ps_ret (pgi (gi_NOBODY T) rfl)))))), ?_⟩
  obtain ⟨_, G, a, p, i, rfl, gs, pg, wf, hi, kk⟩ := h
  have : Cur G H := ⟨gs⟩
  have hp8 := wf.len
  have ⟨dx, tl, ol, dl, ll, ts, ls, ins, hp⟩ := pg
  obtain ⟨x, hx⟩ := item_at hi
  have hk := kind_at hx
  obtain ⟨v, hv, t, n, mo, rfl, ht, hn, hm⟩ := pr_get hp.it hx
  have hlen := hp.it.length
  have hp1 : PgL K H tl ol dl ll p ts ls := hp.mono gs
  have pgH : PgH K H a p := pg.mono gs
  walk_at "w"
  refine u_mth (on ins) fm_Page_kind ?_
  walk_at "w"
  refine u_kind pgH hx ?_
  walk_at "w"
  rw [kwS_label]
  refine w_ite (fun hb => ?_) (fun hb => ?_)
  · walk_at "w"
    have e : controlOf p i = none := by
      unfold controlOf
      rw [hk]
      cases hkk : x.kind with
      | label o => rw [hkk] at hb; cases hb
      | _ => rfl
    rw [e] at kk
    exact kk.go (Stp.refl gs)
  walk_at "w"
  refine u_fld (on ins) (cl_Page T) (na_Page_things T) fl_Page_things ?_
  walk_at "w"
  refine w_ixL hp1.t (atI_nat hv) ?_
  walk_at "w"
  refine w_ixT (onT ht) rfl ?_
  walk_at "w"
  refine u_lenT (onT hm) ?_
  walk_at "w"
  rw [un_len]
  obtain ⟨o, ho⟩ : ∃ o, x.kind = .label o := by
    cases hkk : x.kind with
    | label o => exact ⟨o, rfl⟩
    | _ => rw [hkk] at hb; cases hb
  rw [ho] at hm hk ⊢
  cases o with
  | some c =>
    have hci : c < i := wf.lab i c x hx ho
    have hcl : c < p.items.length := by omega
    obtain ⟨y, hy⟩ := item_at hcl
    have hne : 0 < (moreU (itemNames p) (.label (some c))).length := by
      show 0 < ((itemNames p).getD c []).length
      rw [name_at hy]
      exact List.length_pos_iff.mpr (name_ne (wf.nm y (List.mem_of_getElem? hy)))
    rw [show decide ((0 : Int) < ((moreU (itemNames p) (.label (some c))).length : Int)) = true from decide_eq_true (by omega)]
    refine iteT ?_
    walk_at "w"
    refine u_mth (on ins) fm_Page_number ?_
    walk_at "w"
    refine u_fld (on ins) (cl_Page T) (na_Page_things T) fl_Page_things ?_
    walk_at "w"
    refine w_ixL hp1.t (atI_nat hv) ?_
    walk_at "w"
    refine w_ixT (onT ht) rfl ?_
    walk_at "w"
    refine u_numb pgH (onT hm) (by omega) ?_
    walk_at "w"
    rw [show indexIn (itemNames p) (moreU (itemNames p) (.label (some c))) = some c from idx_name wf hcl]
    refine u_mth (on ins) fm_Page_kind ?_
    walk_at "w"
    refine u_kind pgH hy ?_
    walk_at "w"
    refine u_in (.inr (tt_CONTROLS T _)) rfl rfl ?_
    walk_at "w"
    rw [ctl_in]
    have e : controlOf p i = if isControl y.kind then some c else none := by
      unfold controlOf
      rw [hk]
      show (if isControl (kindAt p c) then some c else none) = _
      rw [kind_at hy]
    rw [e] at kk
    refine w_ite (fun hc => ?_) (fun hc => ?_)
    · walk_at "w"
      rw [if_pos (show isControl y.kind = true from hc)] at kk
      exact kk.go (Stp.refl gs)
    · walk_at "w"
      rw [if_neg (by rw [show isControl y.kind = false from hc]; decide)] at kk
      exact kk.go (Stp.refl gs)
  | none =>
    rw [show decide ((0 : Int) < ((moreU (itemNames p) (.label none)).length : Int)) = false from rfl]
    have e : controlOf p i = (List.range p.items.length).find? fun j => j != i && isControl (kindAt p j) && (pathOf p j).contains i := by
      unfold controlOf
      rw [hk]; rfl
    rw [e] at kk
    refine iteF ?_
    walk_at "w"
    refine u_fld (on ins) (cl_Page T) (na_Page_things T) fl_Page_things ?_
    walk_at "w"
    refine u_lenL hp1.t ?_
    walk_at "w"
    refine u_iR (by omega) ?_
    refine u_for (walk_range (n := ts.length)) (fun k σ H' => ∃ G' v, σ = [some (.ref a), some (.int (i : Nat)), none, v] ∧ Stp [] G H G' H' ∧ ∀ j ∈ (List.range p.items.length).take k, (j != i && isControl (kindAt p j) && (pathOf p j).contains i) = false) ?_ (fun _ _ _ _ _ => trivial) ?_ ?_
    · exact ⟨G, none, rfl, Stp.refl gs, fun j h => by simp at h⟩
    · rintro k v σ H2 H2' hkl ⟨G2, v0, rfl, st2, hno⟩ ⟨rfl, hv⟩
      obtain rfl := rng0 hv
      have : Cur G2 H2' := ⟨st2.s⟩
      have : Dn G G2 := ⟨st2.g⟩
      obtain ⟨y, hy⟩ := item_at (show k < p.items.length by omega)
      have hkr : (List.range p.items.length)[k]? = some k := List.getElem?_range (by omega)
      have pg2 : PgH K G2 a p := pg.mono st2.g
      have nxt : (k != i && isControl (kindAt p k) && (pathOf p k).contains i) = false → ∀ j ∈ (List.range p.items.length).take (k + 1), (j != i && isControl (kindAt p j) && (pathOf p j).contains i) = false := fun h j hj => by
        rw [List.take_succ, hkr] at hj
        rcases List.mem_append.mp hj with h1 | h1
        · exact hno j h1
        · rw [show j = k by simpa using h1]; exact h
      walk_at "w"
      refine u_mth (on ins) fm_Page_kind ?_
      walk_at "w"
      refine u_kind (pg2.mono st2.s) hy ?_
      walk_at "w"
      refine u_in (.inr (tt_CONTROLS T _)) rfl rfl ?_
      walk_at "w"
      rw [ctl_in]
      refine w_ite (fun hc => ?_) (fun hc => ?_)
      · have hc : isControl y.kind = true := hc
        have hki : k ≠ i := by
          rintro rfl
          rw [hx] at hy
          cases hy
          rw [ho] at hc; cases hc
        walk_at "w"
        refine u_mth (on ins) fm_Page_path ?_
        walk_at "w"
        refine u_path pg2 wf (by omega) fun q G3 H3 st3 _ _ hq => ?_
        walk_at "w"
        refine u_in (H := H3) (.inl (SqL.of (on hq))) rfl (flat_nat _) ?_
        walk_at "w"
        rw [show (if false = true then !inV (.int (i : Nat)) ((pathOf p k).map fun (j : Nat) => V.int (j : Nat)) else inV (.int (i : Nat)) ((pathOf p k).map fun (j : Nat) => V.int (j : Nat))) = (pathOf p k).contains i from inV_nat i _]
        have hf : (k != i && isControl (kindAt p k) && (pathOf p k).contains i) = (pathOf p k).contains i := by
          rw [kind_at hy, hc]
          simp [hki]
        refine w_ite (fun hd => ?_) (fun hd => ?_)
        · walk_at "w"
          rw [find_hit hno hkr (hf.trans hd)] at kk
          exact kk.go (st2.trans st3)
        · walk_at "w"
          exact ⟨G3, _, rfl, st2.trans st3, nxt (hf.trans hd)⟩
      · walk_at "w"
        refine ⟨G2, _, rfl, st2, nxt ?_⟩
        rw [kind_at hy, show isControl y.kind = false from hc]
        simp
    · rintro σ H2 ⟨G2, v0, rfl, st2, hno⟩
      walk_at "w"
      rw [hlen, List.take_of_length_le (by rw [List.length_range]; exact Nat.le_refl _)] at hno
      rw [find_miss hno] at kk
      exact kk.go st2
end
end Ck
namespace Ck
open PySem PySem.Spec PyProof.Rows L2
open He (ga ma fAd)
open R7253f.Spec (Units units isName indexIn itemNames kindAt itemWords parentWord itemName tickedLines disabledLines listenerWords actionWords wayWord pageLines printWords joinLines printText)
def LnW (K : PySem.W.Frag) (G : Hp) (v : V) (ws : List Units) : Prop := ∃ l vs, v = .ref l ∧ G l = some (.lst vs) ∧ Paired (WdA K G) vs ws
theorem LnW.mono {K : PySem.W.Frag} {G G' : Hp} (s : Same G G') {v : V} {ws : List Units} : LnW K G v ws → LnW K G' v ws := fun ⟨l, vs, e, h, p⟩ => ⟨l, vs, e, s _ _ h, Paired.mapP p fun _ _ => WdA.mono s⟩
def isRL : SKind → Bool
  | .radio _ => true
  | .label _ => true
  | _ => false
theorem rl_in (k : SKind) : inV (.str (kwS k)) [.str "radio", .str "label"] = isRL k := by
  cases k with
  | plain => decide +kernel
  | link => decide +kernel
  | button => decide +kernel
  | check => decide +kernel
  | radio g => show inV (.str "radio") [.str "radio", .str "label"] = true; decide +kernel
  | label c => show inV (.str "label") [.str "radio", .str "label"] = true; decide +kernel
theorem okz_kw (k : SKind) : okz (kwS k) = true := by
  cases k with
  | plain => decide +kernel
  | link => decide +kernel
  | button => decide +kernel
  | check => decide +kernel
  | radio g => show okz "radio" = true; decide +kernel
  | label c => show okz "label" = true; decide +kernel
theorem okz_act (a : SAct) : okz (actS a) = true := by
  cases a with
  | prevent => decide +kernel
  | stop => decide +kernel
  | halt => decide +kernel
  | click i => show okz "click" = true; decide +kernel
  | tick i => show okz "tick" = true; decide +kernel
  | untick i => show okz "untick" = true; decide +kernel
  | disable i => show okz "disable" = true; decide +kernel
  | enable i => show okz "enable" = true; decide +kernel
theorem more_ne {p : SPage} (w : PgW p) {i : Nat} {x : SItem} (h : p.items[i]? = some x) : decide (0 < (moreU (itemNames p) x.kind).length) = match x.kind with | .radio _ => true | .label (some _) => true | _ => false := by
  have hm := List.mem_of_getElem? h
  cases hk : x.kind with
  | radio g =>
    have := name_ne (w.rad x hm g hk)
    exact decide_eq_true (List.length_pos_iff.mpr this)
  | label o =>
    cases o with
    | none => rfl
    | some c =>
      have hc := w.lab i c x h hk
      have hi := (List.getElem?_eq_some_iff.mp h).1
      obtain ⟨y, hy⟩ := item_at (show c < p.items.length by omega)
      have e : moreU (itemNames p) (.label (some c)) = y.name := name_at hy
      rw [e]
      exact decide_eq_true (List.length_pos_iff.mpr (name_ne (w.nm y (List.mem_of_getElem? hy))))
  | _ => rfl
def itemW (p : SPage) (x : SItem) : List Units :=
  if isRL x.kind then [uz (kwS x.kind), x.name, parentWord p x.parent] ++ (match x.kind with | .radio g => [g] | .label (some c) => [(itemNames p).getD c []] | _ => []) else [uz "item", x.name, parentWord p x.parent, uz (kwS x.kind)]
theorem item_words (p : SPage) (x : SItem) : itemWords p x = itemW p x := by
  unfold itemW
  obtain ⟨n, q, k, o, d⟩ := x
  cases k with
  | plain => show _ = [uz "item", n, parentWord p q, uz "plain"]; rw [lit_uz, lit_uz]; rfl
  | link => show _ = [uz "item", n, parentWord p q, uz "link"]; rw [lit_uz, lit_uz]; rfl
  | button => show _ = [uz "item", n, parentWord p q, uz "button"]; rw [lit_uz, lit_uz]; rfl
  | check => show _ = [uz "item", n, parentWord p q, uz "check"]; rw [lit_uz, lit_uz]; rfl
  | radio g => show _ = [uz "radio", n, parentWord p q, g]; rw [lit_uz]; rfl
  | label c =>
    cases c with
    | none => show _ = [uz "label", n, parentWord p q]; rw [lit_uz]; rfl
    | some c => show _ = [uz "label", n, parentWord p q, (itemNames p).getD c []]; rw [lit_uz]; rfl
def lisW (p : SPage) (l : SLis) : List Units := [uz (if l.once then "once" else "listen"), itemName p l.item, uz (wayS l.capture), uz (actS l.action)] ++ (match actT l.action with | some i => [itemName p i] | none => [])
theorem lis_words (p : SPage) (l : SLis) : listenerWords p l = lisW p l := by
  obtain ⟨i, c, o, a⟩ := l
  show (if o then units "once" else units "listen") :: itemName p i :: wayWord c :: actionWords p a = [uz (if o then "once" else "listen"), itemName p i, uz (wayS c), uz (actS a)] ++ _
  have e1 : uz (if o then "once" else "listen") = (if o then units "once" else units "listen") := by cases o <;> exact lit_uz _
  have e2 : uz (wayS c) = wayWord c := by cases c <;> exact lit_uz _
  rw [e1, e2]
  cases a with
  | prevent => show _ = [_, _, _, uz "prevent"]; rw [lit_uz]; rfl
  | stop => show _ = [_, _, _, uz "stop"]; rw [lit_uz]; rfl
  | halt => show _ = [_, _, _, uz "halt"]; rw [lit_uz]; rfl
  | click i => show _ = [_, _, _, uz "click", itemName p i]; rw [lit_uz]; rfl
  | tick i => show _ = [_, _, _, uz "tick", itemName p i]; rw [lit_uz]; rfl
  | untick i => show _ = [_, _, _, uz "untick", itemName p i]; rw [lit_uz]; rfl
  | disable i => show _ = [_, _, _, uz "disable", itemName p i]; rw [lit_uz]; rfl
  | enable i => show _ = [_, _, _, uz "enable", itemName p i]; rw [lit_uz]; rfl
def markW (p : SPage) (z : Str) (f : SItem → Bool) : List (List Units) := (p.items.filter f).map fun x => [uz z, x.name]
def lines2 (p : SPage) (i : Nat) : List (List Units) := p.items.map (itemW p) ++ (if 1 ≤ i then markW p "ticked" (fun x => x.on) else []) ++ (if 2 ≤ i then markW p "disabled" (fun x => x.off) else [])
theorem page_lines (p : SPage) : pageLines p = lines2 p 2 ++ p.listeners.map (lisW p) := by
  have e1 : itemWords p = itemW p := funext (item_words p)
  have e2 : listenerWords p = lisW p := funext (lis_words p)
  have e3 : markW p "ticked" (fun x => x.on) = tickedLines p := by unfold markW; rw [lit_uz]; rfl
  have e4 : markW p "disabled" (fun x => x.off) = disabledLines p := by unfold markW; rw [lit_uz]; rfl
  unfold lines2
  rw [e3, e4, ← e1, ← e2]
  rfl
theorem filt_at {p : SPage} {f : SItem → Bool} {z : Units} : ∀ (l : List SItem) (m : Nat), ((List.range l.length).filter fun j => ((l[j]?).map f).getD false).map (fun j => [z, (l.map fun x => x.name).getD j []]) = (l.filter f).map fun x => [z, x.name]
  | [], _ => rfl
  | x :: l, m => by
    have ih := filt_at (p := p) (f := f) (z := z) l m
    rw [List.length_cons, List.range_succ_eq_map, List.filter_cons, List.filter_map, List.filter_cons]
    have e : ((fun j => (((x :: l)[j]?).map f).getD false) ∘ Nat.succ) = fun j => ((l[j]?).map f).getD false := by
      funext j; rfl
    rw [e]
    have e2 : (List.map (fun j => [z, (List.map (fun x => x.name) (x :: l)).getD j []]) (List.map Nat.succ (List.filter (fun j => ((l[j]?).map f).getD false) (List.range l.length)))) = (l.filter f).map fun x => [z, x.name] := by
      rw [← ih, List.map_map]; rfl
    cases h : f x with
    | true => simp [h] at e2 ⊢; exact e2
    | false => simp [h] at e2 ⊢; exact e2
/-! ### separated -/
def sepJ (s : UInt16) : List Units → Units
  | [] => []
  | [u] => u
  | u :: l => u ++ s :: sepJ s l
theorem sep_lines : ∀ l, joinLines l = sepJ 10 l
  | [] => rfl
  | [_] => rfl
  | u :: v :: l => by
    show u ++ 10 :: joinLines (v :: l) = u ++ 10 :: sepJ 10 (v :: l)
    rw [sep_lines (v :: l)]
theorem sep_words : ∀ l, printWords l = sepJ 32 l
  | [] => rfl
  | [_] => rfl
  | u :: v :: l => by
    show u ++ 32 :: printWords (v :: l) = u ++ 32 :: sepJ 32 (v :: l)
    rw [sep_words (v :: l)]
def sepO (s : UInt16) (b : Bool) : Units := if b then [s] else []
theorem sep_snoc (s : UInt16) (x : Units) : ∀ l, sepJ s (l ++ [x]) = sepJ s l ++ (sepO s (decide (0 < l.length)) ++ x)
  | [] => rfl
  | [u] => by show u ++ s :: x = u ++ ([s] ++ x); rfl
  | u :: v :: l => by
    have ih := sep_snoc s x (v :: l)
    show u ++ s :: sepJ s (v :: l ++ [x]) = (u ++ s :: sepJ s (v :: l)) ++ _
    rw [ih]
    simp [sepO]
theorem sep_take {s : UInt16} {l : List Units} {i : Nat} {x : Units} (h : l[i]? = some x) : sepJ s (l.take (i + 1)) = sepJ s (l.take i) ++ (sepO s (decide (0 < i)) ++ x) := by
  have hi := (List.getElem?_eq_some_iff.mp h).1
  rw [take_snoc h, sep_snoc, List.length_take, Nat.min_eq_left (by omega)]
theorem sep_mono (s : UInt16) (l : List Units) : ∀ (i : Nat), (sepJ s (l.take i)).length ≤ (sepJ s l).length := by
  have step : ∀ i, (sepJ s (l.take i)).length ≤ (sepJ s (l.take (i + 1))).length := fun i => by
    rcases Nat.lt_or_ge i l.length with h | h
    · rw [sep_take (List.getElem?_eq_getElem h), List.length_append]; omega
    · rw [List.take_of_length_le h, List.take_of_length_le (by omega)]; exact Nat.le_refl _
  have up : ∀ k i, (sepJ s (l.take i)).length ≤ (sepJ s (l.take (i + k))).length := by
    intro k
    induction k with
    | zero => intro i; exact Nat.le_refl _
    | succ k ih => intro i; exact Nat.le_trans (ih i) (step (i + k))
  intro i
  have := up l.length i
  rw [List.take_of_length_le (show l.length ≤ i + l.length by omega)] at this
  exact this
theorem sep_ne {s : UInt16} {u : Units} {l : List Units} (h : u ≠ []) : sepJ s (u :: l) ≠ [] := by
  cases l with
  | nil => exact h
  | cons v l =>
    intro e
    have e : u ++ s :: sepJ s (v :: l) = [] := e
    rw [List.append_eq_nil_iff] at e
    exact h e.1
theorem kw_ne (k : SKind) : uz (kwS k) ≠ [] := by
  cases k with
  | plain => decide +kernel
  | link => decide +kernel
  | button => decide +kernel
  | check => decide +kernel
  | radio g => show uz "radio" ≠ []; decide +kernel
  | label c => show uz "label" ≠ []; decide +kernel
theorem line_head {p : SPage} {ws : List Units} (h : ws ∈ pageLines p) : ∃ u l, ws = u :: l ∧ u ≠ [] := by
  rw [page_lines] at h
  have mk : ∀ {z : Str} {f : SItem → Bool}, uz z ≠ [] → ws ∈ markW p z f → ∃ u l, ws = u :: l ∧ u ≠ [] := fun hz h => by
    obtain ⟨x, _, rfl⟩ := List.mem_map.mp h
    exact ⟨_, _, rfl, hz⟩
  rcases List.mem_append.mp h with h | h
  · unfold lines2 at h
    rcases List.mem_append.mp h with h | h
    · rcases List.mem_append.mp h with h | h
      · obtain ⟨x, _, rfl⟩ := List.mem_map.mp h
        unfold itemW
        split
        · exact ⟨_, _, rfl, kw_ne _⟩
        · exact ⟨_, _, rfl, by decide +kernel⟩
      · exact mk (by decide +kernel) h
    · exact mk (by decide +kernel) h
  · obtain ⟨x, _, rfl⟩ := List.mem_map.mp h
    exact ⟨_, _, rfl, by cases x.once <;> decide +kernel⟩
section
variable (K : PySem.W.Frag)
def spPgLines : Sp := fun vs H Q _ => vs.length = 1 ∧ ∃ (G : Hp) (a : Addr) (p : SPage), vs = [.ref a] ∧ Same G H ∧ PgH K G a p ∧ PgW p ∧ ∀ q fv, Nxt [] G H fun G' H' => G' q = some (.lst fv) → Paired (LnW K G') fv (pageLines p) → Q (.ref q) H'
def spPgText : Sp := fun vs H Q _ => vs.length = 1 ∧ ∃ (G : Hp) (a : Addr) (p : SPage), vs = [.ref a] ∧ Same G H ∧ PgH K G a p ∧ PgW p ∧ (printText p).length ≤ 100000 ∧ ∀ q, Nxt [] G H fun G' H' => G' q = some (.lst (un (printText p))) → Q (.ref q) H'
end
section
variable {K : PySem.W.Frag} {G H : Hp} {Q : VK} {E : XK} {a : Addr} {p : SPage}
theorem u_pgLines [q : Cur G H] (h : PgH K G a p) (w : PgW p) (k : ∀ q fv, Nxt [] G H fun G' H' => G' q = some (.lst fv) → Paired (LnW K G') fv (pageLines p) → Q (.ref q) H') : spPgLines K [.ref a] H Q E := ⟨rfl, G, a, p, rfl, q.s, h, w, k⟩
theorem u_pgText [q : Cur G H] (h : PgH K G a p) (w : PgW p) (hl : (printText p).length ≤ 100000) (k : ∀ q, Nxt [] G H fun G' H' => G' q = some (.lst (un (printText p))) → Q (.ref q) H') : spPgText K [.ref a] H Q E := ⟨rfl, G, a, p, rfl, q.s, h, w, hl, k⟩
end
end Ck
namespace Ck
open PySem PySem.Spec PyProof.Rows L2
open He (ga ma fAd)
section
variable {P : Program} {w : World} {K : PySem.W.Frag} {mg : Str → Option Value} {base : Heap}
open R7253f.Spec (Units units isName indexIn itemNames kindAt itemWords parentWord itemName pageLines printWords joinLines printText)
theorem if_mem {α : Type} {b : Bool} {x y : α} : (if b then [x] else [y] : List α) = [if b then x else y] := by cases b <;> rfl
theorem map_snoc {α β : Type} {f : α → β} {l : List α} {i : Nat} {x : α} (h : l[i]? = some x) : (l.take (i + 1)).map f = (l.take i).map f ++ [f x] := by rw [take_snoc h, List.map_append]; rfl
theorem w_ifC {b : Bool} {y z : Str} {σ : L2.St} {H : Hp} {Q : VK} (k : Q (.str (if b then y else z)) H) : if b = true then tC (.str y) σ H Q else tC (.str z) σ H Q := by cases b <;> exact k
theorem act_tgt {p : SPage} {a : SAct} {j : Nat} (h : okAct p a) (e : actT a = some j) : j < p.items.length := by
  cases a with
  | prevent => cases e
  | stop => cases e
  | halt => cases e
  | click i => cases e; exact h
  | tick i => cases e; exact h.1
  | untick i => cases e; exact h.1
  | disable i => cases e; exact h.1
  | enable i => cases e; exact h.1
theorem paired_nm {K : PySem.W.Frag} {G : Hp} {n : Str} {p : SPage} : ∀ {l : List Nat} {ys : List V}, Paired (fun j y => LnW K G y [uz n, (itemNames p).getD j []]) l ys → Paired (LnW K G) ys (l.map fun j => [uz n, (itemNames p).getD j []])
  | _, _, .nil => .nil
  | _, _, .cons h t => .cons h (paired_nm t)
theorem has_Page_lines (T : Txt K mg) : Has P w K mg base CX0 2 ("Page", some "lines") ["self"] (spPgLines K) := by
  refine mk_has (d := d_Page_lines) T 19 rfl rfl rfl sc_Page_lines (fun _ _ _ _ _ _ us hl => match us, hl with | [_], _ => rfl) (fun vs H Q E h => h.1) (fun cdv A outer s H vs Q E hr h => ?_)
  refine ⟨_, PSs.nox (pss_cons (ps_set (i := 1) sc_Page_lines.nd rfl (Or.inl rfl) (pe_lst pa_nil))
 (pss_cons (ps_for PassesOwn.never rfl (pi_list (pe_fld (pv 0) rfl)) (pg_tup rfl (pgs_cons (pg_name (i := 2) sc_Page_lines.nd rfl (Or.inl rfl)) (pgs_cons (pg_name (i := 3) sc_Page_lines.nd rfl (Or.inl rfl)) (pgs_cons (pg_name (i := 4) sc_Page_lines.nd rfl (Or.inl rfl)) (pgs_cons (pg_name (i := 5) sc_Page_lines.nd rfl (Or.inl rfl)) pgs_nil))))) (Evl.pss_cut (ps_set (i := 6) sc_Page_lines.nd rfl (Or.inl rfl) (pe_ifExp (pt_cmpR op_lt (pv 3) pe_int (nomark _)) (pcall (has_codes T) (hr.mono (by omega)) rfl (gl_codes T) pass0 (pa_cons pe_str pa_nil)) (pe_ix ix_tup (pe_ix ix_list (pe_fld (pv 0) rfl) (pv 3) (fun _ _ => rfl)) pe_int (fun _ _ => rfl))))
 (pss_one (ps_if (pt_cmpR op_in_seq (pv 4) (pe_tup (pa_cons (pgs (gs_RADIO T) rfl) (pa_cons (pgs (gs_LABEL T) rfl) pa_nil))) (by rfl)) (pss_one (ps_expr (pe_bm PySem.F.plainAttrs_list PySem.F.slot_list_append PySem.F.type_list_append mt_append (pv 1) (pa_cons (pe_op op_cat (pe_lst (pa_cons (pcall (has_codes T) (hr.mono (by omega)) rfl (gl_codes T) pass0 (pa_cons (pv 4) pa_nil)) (pa_cons (pv 2) (pa_cons (pv 6) pa_nil)))) (pe_ifExp (pt_cmpR op_gt (pe_callB c_len (by rfl) (fr_len T) PySem.boot_len (pa_cons (pv 5) pa_nil)) pe_int (nomark _)) (pe_lst (pa_cons (pv 5) pa_nil)) (pe_lst pa_nil))) pa_nil)))) (pss_one (ps_expr (pe_bm PySem.F.plainAttrs_list PySem.F.slot_list_append PySem.F.type_list_append mt_append (pv 1) (pa_cons (pe_lst (pa_cons (pcall (has_codes T) (hr.mono (by omega)) rfl (gl_codes T) pass0 (pa_cons pe_str pa_nil)) (pa_cons (pv 2) (pa_cons (pv 6) (pa_cons (pcall (has_codes T) (hr.mono (by omega)) rfl (gl_codes T) pass0 (pa_cons (pv 4) pa_nil)) pa_nil))))) pa_nil))))))))
 (pss_cons (ps_for PassesOwn.never rfl (pi_tup (pe_tup (pa_cons (pe_tup (pa_cons pe_str (pa_cons (pe_fld (pv 0) rfl) pa_nil))) (pa_cons (pe_tup (pa_cons pe_str (pa_cons (pe_fld (pv 0) rfl) pa_nil))) pa_nil)))) (pg_tup rfl (pgs_cons (pg_name (i := 7) sc_Page_lines.nd rfl (Or.inr rfl)) (pgs_cons (pg_name (i := 8) sc_Page_lines.nd rfl (Or.inr rfl)) pgs_nil))) (pss_one (ps_expr (pe_bm PySem.F.plainAttrs_list PySem.F.slot_list_extend PySem.F.type_list_extend mt_extend (pv 1) (pa_cons (pe_lc (own := [("at", 15)]) (g := gName 15)  rfl sc_Page_lines.nd (pi_range1 (by rfl) (fr_range T) (pa_cons (pe_callB c_len (by rfl) (fr_len T) PySem.boot_len (pa_cons (pv 8) pa_nil)) pa_nil)) (blkOk_by (N := N_Page_lines) (sc := defScope s_Page_lines) (by decide +kernel)) (fun _ _ _ _ _ => (pg_name (i := 15) sc_Page_lines.nd rfl (Or.inl rfl))) (fun _ _ _ _ _ => (re_t (pts_one (pt_val (pe_ix ix_list (pv 8) (pv 15) (fun _ _ => rfl)))) (by walk_at "wk"))) (fun _ _ _ _ _ => (re_e (pe_lst (pa_cons (pcall (has_codes T) (hr.mono (by omega)) rfl (gl_codes T) pass0 (pa_cons (pv 7) pa_nil)) (pa_cons (pe_ix ix_tup (pe_ix ix_list (pe_fld (pv 0) rfl) (pv 15) (fun _ _ => rfl)) pe_int (fun _ _ => rfl)) pa_nil))) (by walk_at "wk")))) pa_nil)))))
 (pss_cons (ps_for PassesOwn.never rfl (pi_list (pe_fld (pv 0) rfl)) (pg_tup rfl (pgs_cons (pg_name (i := 9) sc_Page_lines.nd rfl (Or.inl rfl)) (pgs_cons (pg_name (i := 10) sc_Page_lines.nd rfl (Or.inl rfl)) (pgs_cons (pg_name (i := 11) sc_Page_lines.nd rfl (Or.inl rfl)) (pgs_cons (pg_name (i := 12) sc_Page_lines.nd rfl (Or.inl rfl)) (pgs_cons (pg_name (i := 13) sc_Page_lines.nd rfl (Or.inl rfl)) pgs_nil)))))) (pss_cons (ps_set (i := 14) sc_Page_lines.nd rfl (Or.inl rfl) (pe_lst (pa_cons (pcall (has_codes T) (hr.mono (by omega)) rfl (gl_codes T) pass0 (pa_cons (pe_ifExp (pt_val (pv 13)) pe_str pe_str) pa_nil)) (pa_cons (pe_ix ix_tup (pe_ix ix_list (pe_fld (pv 0) rfl) (pv 9) (fun _ _ => rfl)) pe_int (fun _ _ => rfl)) (pa_cons (pcall (has_codes T) (hr.mono (by omega)) rfl (gl_codes T) pass0 (pa_cons (pv 10) pa_nil)) (pa_cons (pcall (has_codes T) (hr.mono (by omega)) rfl (gl_codes T) pass0 (pa_cons (pv 11) pa_nil)) pa_nil))))))
 (pss_one (ps_expr (pe_bm PySem.F.plainAttrs_list PySem.F.slot_list_append PySem.F.type_list_append mt_append (pv 1) (pa_cons (pe_op op_cat (pv 14) (pe_ifExp (pt_cmpR op_ge (pv 12) pe_int (nomark _)) (pe_lst (pa_cons (pe_ix ix_tup (pe_ix ix_list (pe_fld (pv 0) rfl) (pv 12) (fun _ _ => rfl)) pe_int (fun _ _ => rfl)) pa_nil)) (pe_lst pa_nil))) pa_nil))))))
 (pss_one (ps_ret (pv 1))))))), ?_⟩
  obtain ⟨_, G, a, p, rfl, gs, pg, wf, kk⟩ := h
  have : Cur G H := ⟨gs⟩
  have hp8 := wf.len
  have hl8 := wf.lis
  have ⟨dx, tl, ol, dl, ll, ts, ls, ins, hp⟩ := pg
  have hlen := hp.it.length
  have hllen := hp.li.length
  rw [page_lines] at kk
  walk_at "w"
  refine u_lst (Nat.zero_le _) fun f G1 H1 st1 _ _ hf mf => ?_
  walk_at "w"
  refine u_fld (on ins) (cl_Page T) (na_Page_things T) fl_Page_things ?_
  walk_at "w"
  refine u_iL (st1.s.seq (st1.g.seq hp.t)) ?_
  refine u_for (walk_list (xs := ts)) (fun i σ H' => ∃ G' fv v2 v3 v4 v5 v6, σ = [some (.ref a), some (.ref f), v2, v3, v4, v5, v6, none, none, none, none, none, none, none, none, none] ∧ Stp [] G H G' H' ∧ Mu G' H' f (.lst fv) ∧ Paired (LnW K G') fv ((p.items.take i).map (itemW p)) ∧ fv.length = i) ?_ (fun i σ H' _ ⟨G', _, _, _, _, _, _, _, st, _⟩ => st.s.seq (st.g.seq hp.t)) ?_ ?_
  · exact ⟨G1, [], none, none, none, none, none, rfl, st1, mf, .nil, rfl⟩
  · rintro i v σ H2 H2' hi ⟨G2, fv, v2, v3, v4, v5, v6, rfl, st2, mf2, pf, hfl⟩ ⟨rfl, hv⟩
    have : Cur G2 H2' := ⟨st2.s⟩
    have : Dn G G2 := ⟨st2.g⟩
    obtain ⟨x, hx, t, n, m, rfl, ht, hn, hm⟩ := pr_getL hp.it hv
    have hil := (List.getElem?_eq_some_iff.mp hx).1
    walk_at "w"
    refine u_gt (onT ht) rfl ?_
    walk_at "w"
    have hi2 : H2' a = some _ := on ins
    have hpH : PgL K H2' tl ol dl ll p ts ls := hp.mono (st2.g.trans st2.s)
    refine w_cut (fun σ' H' => ∃ G' pa, σ' = [some (.ref a), some (.ref f), some (.ref n), some (.int (parI x.parent)), some (.str (kwS x.kind)), some (.ref m), some (.ref pa), none, none, none, none, none, none, none, none, none] ∧ Stp [] G2 H2' G' H' ∧ SqT K G' pa (un (parentWord p x.parent))) ?_ ?_
    · walk_at "w"
      rw [parI_neg]
      cases hq : x.parent with
      | none =>
        refine iteT ?_
        walk_at "w"
        refine u_codes (by decide +kernel) fun pa G3 H3 st3 _ _ hpa => ?_
        walk_at "w"
        refine ⟨G3, pa, rfl, st3, ?_⟩
        rw [lit_uz] at hpa
        exact SqT.of hpa
      | some q =>
        have hqi := wf.par i q x hx hq
        obtain ⟨y, hy⟩ := item_at (show q < p.items.length by omega)
        obtain ⟨vq, hvq, tq, nq, mq, rfl, htq, hnq, hmq⟩ := pr_get hp.it hy
        refine iteF ?_
        walk_at "w"
        refine u_fld hi2 (cl_Page T) (na_Page_things T) fl_Page_things ?_
        walk_at "w"
        refine w_ixL hpH.t (atI_nat hvq) ?_
        walk_at "w"
        refine w_ixT (onT htq) rfl ?_
        walk_at "w"
        refine ⟨G2, nq, rfl, Stp.refl st2.s, ?_⟩
        show SqT K G2 nq (un ((itemNames p).getD q []))
        rw [name_at hy]; exact upT hnq
    rintro σ3 H3 ⟨G3, pa, rfl, st3, hpa⟩
    have : Cur G3 H3 := ⟨st3.s⟩
    have : Dn G2 G3 := ⟨st3.g⟩
    have fin : ∀ {l : Addr} {vs : List V} {G4 H4 : Hp}, Stp [] G3 H3 G4 H4 → Cur G4 H4 → G4 l = some (.lst vs) → Paired (WdA K G4) vs (itemW p x) → rAppend (.ref f) [.ref l] H4 fun _ H5 => ∃ G' fv v2 v3 v4 v5 v6, [some (V.ref a), some (.ref f), some (.ref n), some (.int (parI x.parent)), some (.str (kwS x.kind)), some (.ref m), some (.ref pa), none, none, none, none, none, none, none, none, none] = [some (V.ref a), some (.ref f), v2, v3, v4, v5, v6, none, none, none, none, none, none, none, none, none] ∧ Stp [] G H G' H5 ∧ Mu G' H5 f (.lst fv) ∧ Paired (LnW K G') fv ((p.items.take (i + 1)).map (itemW p)) ∧ fv.length = i + 1 := by
      intro l vs G4 H4 st4 c4 hl hw
      refine u_app (st4.mu (st3.mu mf2 List.not_mem_nil) List.not_mem_nil) (lst_le (by omega)) fun G5 H5 st5 _ _ mf5 => ?_
      refine ⟨G5, fv ++ [.ref l], _, _, _, _, _, rfl, ((st2.trans (st3.trans st4)).nil.trans st5).drop hf, mf5, ?_, by rw [List.length_append, hfl]; rfl⟩
      rw [map_snoc hx]
      exact pairApp (Paired.mapP pf fun _ _ => LnW.mono ((st3.g.trans st4.g).trans st5.g)) (.cons ⟨l, vs, rfl, st5.g _ _ hl, Paired.mapP hw fun _ _ => WdA.mono st5.g⟩ .nil)
    have mf3 := st3.mu mf2 List.not_mem_nil
    walk_at "w"
    refine u_tup (by show 2 ≤ sizeLine; decide) fun t4 G4 H4 st4 _ _ ht4 => ?_
    walk_at "w"
    refine u_in (H := H4) (.inr (SqT.of (on ht4))) rfl rfl ?_
    walk_at "w"
    rw [show (if false = true then !inV (.str (kwS x.kind)) [.str "radio", .str "label"] else inV (.str (kwS x.kind)) [.str "radio", .str "label"]) = isRL x.kind from rl_in _]
    have mf4 := st4.mu mf3 List.not_mem_nil
    have hmore := more_ne wf hx
    refine w_ite (fun hb => ?_) (fun hb => ?_)
    · walk_at "w"
      refine u_bmL mf4.h ?_
      walk_at "w"
      refine u_codes (okz_kw _) fun pc G5 H5 st5 _ _ hpc => ?_
      walk_at "w"
      refine u_lstK (by show 3 ≤ sizeLine; decide) fun l6 G6 H6 st6 _ _ hl6 => ?_
      walk_at "w"
      refine u_lenT (onT hm) ?_
      walk_at "w"
      rw [un_len, show decide ((0 : Int) < ((moreU (itemNames p) x.kind).length : Int)) = decide (0 < (moreU (itemNames p) x.kind).length) from decide_eq_decide.mpr (by omega), hmore]
      have w1 : WdA K G6 (.ref pc) (uz (kwS x.kind)) := ⟨pc, rfl, upT (SqT.of hpc)⟩
      have w2 : WdA K G6 (.ref n) x.name := ⟨n, rfl, upT hn⟩
      have w3 : WdA K G6 (.ref pa) (parentWord p x.parent) := ⟨pa, rfl, upT hpa⟩
      have w4 : WdA K G6 (.ref m) (moreU (itemNames p) x.kind) := ⟨m, rfl, upT hm⟩
      have st36 := (st4.trans st5).trans st6
      cases hk : x.kind with
      | radio g =>
        rw [hk] at w4
        refine iteT ?_
        walk_at "w"
        refine u_lstK (by show 1 ≤ sizeLine; decide) fun l7 G7 H7 st7 _ _ hl7 => ?_
        walk_at "w"
        refine u_cat (on hl6) (on hl7) (by show 3 + 1 ≤ sizeLine; decide) fun l8 G8 H8 st8 _ c8 hl8 => ?_
        walk_at "w"
        have e : itemW p x = [uz (kwS x.kind), x.name, parentWord p x.parent] ++ [moreU (itemNames p) (.radio g)] := by unfold itemW; rw [hk]; rfl
        have g68 := st7.g.trans st8.g
        rw [← hk]
        refine fin (st36.trans (st7.trans st8)) c8 hl8 ?_
        rw [e]
        exact .cons (w1.mono g68) (.cons (w2.mono g68) (.cons (w3.mono g68) (.cons (w4.mono g68) .nil)))
      | label o =>
        rw [hk] at w4
        cases o with
        | none =>
          refine iteF ?_
          walk_at "w"
          refine u_lstK (by show 0 ≤ sizeLine; decide) fun l7 G7 H7 st7 _ _ hl7 => ?_
          walk_at "w"
          refine u_cat (on hl6) (on hl7) (by show 3 + 0 ≤ sizeLine; decide) fun l8 G8 H8 st8 _ c8 hl8 => ?_
          walk_at "w"
          have e : itemW p x = [uz (kwS x.kind), x.name, parentWord p x.parent] := by unfold itemW; rw [hk]; rfl
          have g68 := st7.g.trans st8.g
          rw [← hk]
          refine fin (st36.trans (st7.trans st8)) c8 hl8 ?_
          rw [e]
          exact .cons (w1.mono g68) (.cons (w2.mono g68) (.cons (w3.mono g68) .nil))
        | some c =>
          refine iteT ?_
          walk_at "w"
          refine u_lstK (by show 1 ≤ sizeLine; decide) fun l7 G7 H7 st7 _ _ hl7 => ?_
          walk_at "w"
          refine u_cat (on hl6) (on hl7) (by show 3 + 1 ≤ sizeLine; decide) fun l8 G8 H8 st8 _ c8 hl8 => ?_
          walk_at "w"
          have e : itemW p x = [uz (kwS x.kind), x.name, parentWord p x.parent] ++ [moreU (itemNames p) (.label (some c))] := by unfold itemW; rw [hk]; rfl
          have g68 := st7.g.trans st8.g
          rw [← hk]
          refine fin (st36.trans (st7.trans st8)) c8 hl8 ?_
          rw [e]
          exact .cons (w1.mono g68) (.cons (w2.mono g68) (.cons (w3.mono g68) (.cons (w4.mono g68) .nil)))
      | _ => rw [hk] at hb; cases hb
    · walk_at "w"
      refine u_bmL mf4.h ?_
      walk_at "w"
      refine u_codes (by decide +kernel) fun pc G5 H5 st5 _ _ hpc => ?_
      walk_at "w"
      refine u_codes (okz_kw _) fun pd G6 H6 st6 _ _ hpd => ?_
      walk_at "w"
      refine u_lstK (by show 4 ≤ sizeLine; decide) fun l7 G7 H7 st7 _ c7 hl7 => ?_
      walk_at "w"
      refine fin ((st4.trans st5).trans (st6.trans st7)) c7 hl7 ?_
      have e : itemW p x = [uz "item", x.name, parentWord p x.parent, uz (kwS x.kind)] := by unfold itemW; rw [show isRL x.kind = false from hb]; rfl
      rw [e]
      exact .cons ⟨pc, rfl, upT (SqT.of hpc)⟩ (.cons ⟨n, rfl, upT hn⟩ (.cons ⟨pa, rfl, upT hpa⟩ (.cons ⟨pd, rfl, upT (SqT.of hpd)⟩ .nil)))
  rintro σ2 H2 ⟨G2, fv, v2, v3, v4, v5, v6, rfl, st2, mf2, pf, hfl⟩
  have : Cur G2 H2 := ⟨st2.s⟩
  have : Dn G G2 := ⟨st2.g⟩
  rw [hlen, List.take_length] at pf
  have hi2 : H2 a = some _ := on ins
  walk_at "w"
  refine u_fld hi2 (cl_Page T) (na_Page_on T) fl_Page_on ?_
  walk_at "w"
  refine u_tup (by show 2 ≤ sizeLine; decide) fun t1 G3 H3 s3 _ _ ht1 => ?_
  walk_at "w"
  refine u_fld (on ins) (cl_Page T) (na_Page_disabled T) fl_Page_disabled ?_
  walk_at "w"
  refine u_tup (by show 2 ≤ sizeLine; decide) fun t2 G4 H4 s4 _ _ ht2 => ?_
  walk_at "w"
  refine u_tup (by show 2 ≤ sizeLine; decide) fun t3 G5 H5 s5 _ _ ht3 => ?_
  walk_at "w"
  have s25 := (s3.trans s4).trans s5
  have st5 := st2.trans s25
  have ht1' : G5 t1 = some _ := up ht1
  have ht2' : G5 t2 = some _ := up ht2
  refine u_iT (SqT.of (on ht3)) ?_
  refine u_for (walk_tup (xs := [.ref t1, .ref t2])) (fun i σ H' => ∃ G' fv v2 v3 v4 v5 v6 v7 v8, σ = [some (.ref a), some (.ref f), v2, v3, v4, v5, v6, v7, v8, none, none, none, none, none, none, none] ∧ Stp [] G H G' H' ∧ Same G5 G' ∧ Mu G' H' f (.lst fv) ∧ Paired (LnW K G') fv (lines2 p i) ∧ fv.length ≤ 8 + 8 * i) ?_ (fun i σ H' _ ⟨G', _, _, _, _, _, _, _, _, _, st, g5, _⟩ => SqT.of (st.s _ _ (g5 _ _ ht3))) ?_ ?_
  · refine ⟨G5, fv, v2, v3, v4, v5, v6, none, none, rfl, st5, Same.refl _, s25.mu mf2 List.not_mem_nil, ?_, by omega⟩
    have e : lines2 p 0 = p.items.map (itemW p) := by unfold lines2; simp
    rw [e]
    exact Paired.mapP pf fun _ _ => LnW.mono s25.g
  · rintro i v σ H6 H6' hi ⟨G6, fv, v2, v3, v4, v5, v6, v7, v8, rfl, st6, g56, mf6, pf6, hfl6⟩ ⟨rfl, hv⟩
    have : Cur G6 H6' := ⟨st6.s⟩
    have : Dn G G6 := ⟨st6.g⟩
    have : Dn G5 G6 := ⟨g56⟩
    obtain ⟨z, g, ml, t, rfl, ht, hml, hz, hln⟩ : ∃ z g ml t, v = .ref t ∧ SqT K G6 t [.str z, .ref ml] ∧ SqL K G6 ml (p.items.map fun x => V.bl (g x)) ∧ okz z = true ∧ lines2 p (i + 1) = lines2 p i ++ markW p z g := by
      match i, hi, hv with
      | 0, _, hv =>
        refine ⟨"ticked", fun x => x.on, ol, t1, (Option.some.inj hv).symm, SqT.of (g56 _ _ ht1'), st6.g.seq hp.o, by decide +kernel, ?_⟩
        unfold lines2; simp
      | 1, _, hv =>
        refine ⟨"disabled", fun x => x.off, dl, t2, (Option.some.inj hv).symm, SqT.of (g56 _ _ ht2'), st6.g.seq hp.d, by decide +kernel, ?_⟩
        unfold lines2; simp
      | i + 2, h, _ => exact absurd h (by show ¬ i + 2 < 2; omega)
    walk_at "w"
    refine u_gt (onT ht) rfl ?_
    walk_at "w"
    refine u_bmL mf6.h ?_
    walk_at "w"
    refine u_lenL (st6.s.seq hml) ?_
    walk_at "w"
    rw [List.length_map]
    refine u_iR (by omega) ?_
    refine u_lc (walk_range (n := p.items.length)) (Yv := fun i v => v = .int (0 + (i : Int))) (fun i H x H' h => h) (fun _ _ => trivial) (by omega) (fun j => ((p.items[j]?).map g).getD false) (fun j y G' => LnW K G' y [uz z, (itemNames p).getD j []]) (fun _ _ _ _ s h => LnW.mono s h) ?_ ?_
    · rintro j y G7 H7 Qy Qn hj st7 _ _ hy ky kn
      obtain rfl := rng0 hy
      have : Cur G7 H7 := ⟨st7.s⟩
      have hml7 : SqL K H7 ml (p.items.map fun x => V.bl (g x)) := st7.s.seq (st7.g.seq hml)
      obtain ⟨x, hx⟩ := item_at hj
      obtain ⟨v, hv, t, n, m, rfl, ht, hn, hm⟩ := pr_get hp.it hx
      walk_at "w"
      refine w_ixL hml7 (v := .bl (g x)) (atI_nat (by rw [List.getElem?_map, hx]; rfl)) ?_
      walk_at "w"
      have ef : ((p.items[j]?).map g).getD false = g x := by rw [hx]; rfl
      refine w_ite (fun hb => ?_) (fun hb => ?_)
      · walk_at "w"
        refine u_codes hz fun pc G8 H8 st8 _ _ hpc => ?_
        walk_at "w"
        have g68 : Same G6 G8 := st7.g.trans st8.g
        refine u_fld (st8.s _ _ (g68 _ _ (st6.g _ _ ins))) (cl_Page T) (na_Page_things T) fl_Page_things ?_
        walk_at "w"
        refine w_ixL (st8.s.seq (g68.seq (st6.g.seq hp.t))) (atI_nat hv) ?_
        walk_at "w"
        refine w_ixT (Same.sqT ((st6.g.trans g68).trans st8.s) ht) rfl ?_
        walk_at "w"
        refine u_lstK (by show 2 ≤ sizeLine; decide) fun l9 G9 H9 st9 _ _ hl9 => ?_
        walk_at "w"
        refine ky _ _ _ (st8.trans st9) (ef.trans hb) ⟨l9, _, rfl, hl9, ?_⟩
        rw [name_at hx]
        exact .cons ⟨pc, rfl, upT (SqT.of hpc)⟩ (.cons ⟨n, rfl, Same.sqT ((st6.g.trans g68).trans st9.g) hn⟩ .nil)
      · walk_at "w"
        exact kn _ _ (Stp.refl st7.s) (ef.trans hb)
    · intro q ys G7 H7 st7 _ _ hq mu pr
      have := paired_nm pr
      have hyl : ys.length ≤ p.items.length := by
        rw [← pr.length]
        exact Nat.le_trans (List.length_filter_le _ _) (by rw [List.length_range]; exact Nat.le_refl _)
      have hq6 : f ≠ q := mf6.upd_ne' hq
      walk_at "w"
      have hi' : i < 2 := hi
      refine u_ext (st7.mu mf6 List.not_mem_nil) mu.h (lst_le (by omega)) fun G8 H8 st8 _ _ mf8 => ?_
      walk_at "w"
      refine ⟨G8, fv ++ ys, _, _, _, _, _, _, _, rfl, ((st6.trans st7).nil.trans st8).drop hf, (g56.trans st7.g).trans st8.g, mf8, ?_, by rw [List.length_append]; omega⟩
      rw [hln]
      refine pairApp (Paired.mapP pf6 fun _ _ => LnW.mono (st7.g.trans st8.g)) (Paired.mapP ?_ fun _ _ => LnW.mono st8.g)
      have e := filt_at (p := p) (f := g) (z := uz z) p.items 0
      rw [show markW p z g = _ from e.symm]
      exact this
  rintro σ6 H6 ⟨G6, fv, v2, v3, v4, v5, v6, v7, v8, rfl, st6, g56, mf6, pf6, hfl6⟩
  have : Cur G6 H6 := ⟨st6.s⟩
  have : Dn G G6 := ⟨st6.g⟩
  walk_at "w"
  refine u_fld (on ins) (cl_Page T) (na_Page_listeners T) fl_Page_listeners ?_
  walk_at "w"
  refine u_iL (st6.s.seq (st6.g.seq hp.l)) ?_
  refine u_for (walk_list (xs := ls)) (fun i σ H' => ∃ G' fv v2 v3 v4 v5 v6 v7 v8 v9 va vb vc vd ve, σ = [some (.ref a), some (.ref f), v2, v3, v4, v5, v6, v7, v8, v9, va, vb, vc, vd, ve, none] ∧ Stp [] G H G' H' ∧ Mu G' H' f (.lst fv) ∧ Paired (LnW K G') fv (lines2 p 2 ++ (p.listeners.take i).map (lisW p)) ∧ fv.length ≤ 24 + i) ?_ (fun i σ H' _ ⟨G', _, _, _, _, _, _, _, _, _, _, _, _, _, _, _, st, _⟩ => st.s.seq (st.g.seq hp.l)) ?_ ?_
  · refine ⟨G6, fv, v2, v3, v4, v5, v6, v7, v8, none, none, none, none, none, none, rfl, st6, mf6, ?_, hfl6⟩
    rw [List.take_zero, List.map_nil, List.append_nil]; exact pf6
  · rintro i v σ H7 H7' hi ⟨G7, fv, v2, v3, v4, v5, v6, v7, v8, v9, va, vb, vc, vd, ve, rfl, st7, mf7, pf7, hfl7⟩ ⟨rfl, hv⟩
    have : Cur G7 H7' := ⟨st7.s⟩
    have : Dn G G7 := ⟨st7.g⟩
    obtain ⟨l, hl, t, rfl, ht⟩ := pr_getL hp.li hv
    have hwl := wf.li l (List.mem_of_getElem? hl)
    obtain ⟨x, hx⟩ := item_at hwl.1
    obtain ⟨vx, hvx, tx, nx, mx, rfl, htx, hnx, hmx⟩ := pr_get hp.it hx
    have hnm : itemName p l.item = x.name := name_at hx
    walk_at "w"
    refine u_gt (onT ht) rfl ?_
    walk_at "w"
    refine w_ifC ?_
    walk_at "w"
    have hz1 : okz (if l.once then "once" else "listen") = true := by cases l.once <;> decide +kernel
    have hz2 : okz (wayS l.capture) = true := by cases l.capture <;> decide +kernel
    have hpH : ∀ {Ga Ha : Hp}, Same G7 Ga → Same Ga Ha → PgL K Ha tl ol dl ll p ts ls := fun g s => hp.mono ((st7.g.trans g).trans s)
    refine u_codes hz1 fun c1 G8 H8 s8 _ _ hc1 => ?_
    walk_at "w"
    refine u_fld (s8.s _ _ (s8.g _ _ (st7.g _ _ ins))) (cl_Page T) (na_Page_things T) fl_Page_things ?_
    walk_at "w"
    refine w_ixL (hpH s8.g s8.s).t (atI_nat hvx) ?_
    walk_at "w"
    refine w_ixT (Same.sqT ((st7.g.trans s8.g).trans s8.s) htx) rfl ?_
    walk_at "w"
    refine u_codes hz2 fun c2 G9 H9 s9 _ _ hc2 => ?_
    walk_at "w"
    refine u_codes (okz_act _) fun c3 Ga Ha sa _ _ hc3 => ?_
    walk_at "w"
    refine u_lstK (by show 4 ≤ sizeLine; decide) fun lb Gb Hb sb _ _ hlb => ?_
    walk_at "w"
    have s7b := ((s8.trans s9).trans sa).trans sb
    have w1 : WdA K Gb (.ref c1) (uz (if l.once then "once" else "listen")) := ⟨c1, rfl, SqT.of (((s9.g.trans sa.g).trans sb.g) _ _ hc1)⟩
    have w2 : WdA K Gb (.ref nx) (itemName p l.item) := ⟨nx, rfl, by rw [hnm]; exact Same.sqT (st7.g.trans s7b.g) hnx⟩
    have w3 : WdA K Gb (.ref c2) (uz (wayS l.capture)) := ⟨c2, rfl, SqT.of ((sa.g.trans sb.g) _ _ hc2)⟩
    have w4 : WdA K Gb (.ref c3) (uz (actS l.action)) := ⟨c3, rfl, SqT.of (sb.g _ _ hc3)⟩
    have mfb := s7b.mu mf7 List.not_mem_nil
    refine u_bmL mfb.h ?_
    walk_at "w"
    rw [idx_pos]
    have fin : ∀ {q : Addr} {vs : List V} {G4 H4 : Hp}, Stp [] Gb Hb G4 H4 → Cur G4 H4 → G4 q = some (.lst vs) → Paired (WdA K G4) vs (lisW p l) → rAppend (.ref f) [.ref q] H4 fun _ H5 => ∃ G' fv w2 w3 w4 w5 w6 w7 w8 w9 wa wb wc wd we, [some (V.ref a), some (.ref f), v2, v3, v4, v5, v6, v7, v8, some (.int (l.item : Nat)), some (.str (wayS l.capture)), some (.str (actS l.action)), some (.int (idxI (actT l.action))), some (.bl l.once), some (.ref lb), none] = [some (V.ref a), some (.ref f), w2, w3, w4, w5, w6, w7, w8, w9, wa, wb, wc, wd, we, none] ∧ Stp [] G H G' H5 ∧ Mu G' H5 f (.lst fv) ∧ Paired (LnW K G') fv (lines2 p 2 ++ (p.listeners.take (i + 1)).map (lisW p)) ∧ fv.length ≤ 24 + (i + 1) := by
      intro q vs G4 H4 st4 c4 hq hw
      refine u_app (st4.mu mfb List.not_mem_nil) (lst_le (by omega)) fun G5 H5 st5 _ _ mf5 => ?_
      refine ⟨G5, fv ++ [.ref q], _, _, _, _, _, _, _, _, _, _, _, _, _, rfl, ((st7.trans (s7b.trans st4)).nil.trans st5).drop hf, mf5, ?_, by rw [List.length_append]; show _ + 1 ≤ _; omega⟩
      rw [map_snoc hl, ← List.append_assoc]
      exact pairApp (Paired.mapP pf7 fun _ _ => LnW.mono ((s7b.g.trans st4.g).trans st5.g)) (.cons ⟨q, vs, rfl, st5.g _ _ hq, Paired.mapP hw fun _ _ => WdA.mono st5.g⟩ .nil)
    cases hact : actT l.action with
    | none =>
      refine iteF ?_
      walk_at "w"
      refine u_lstK (by show 0 ≤ sizeLine; decide) fun lc Gc Hc sc _ _ hlc => ?_
      walk_at "w"
      refine u_cat (on hlb) (on hlc) (by show 4 + 0 ≤ sizeLine; decide) fun ld Gd Hd sd _ cd hld => ?_
      walk_at "w"
      have gbd := sc.g.trans sd.g
      rw [← hact]
      refine fin (sc.trans sd) cd hld ?_
      unfold lisW
      rw [hact]
      exact .cons (w1.mono gbd) (.cons (w2.mono gbd) (.cons (w3.mono gbd) (.cons (w4.mono gbd) .nil)))
    | some j =>
      obtain ⟨y, hy⟩ := item_at (act_tgt hwl.2 hact)
      obtain ⟨vy, hvy, ty, ny, my, rfl, hty, hny, hmy⟩ := pr_get hp.it hy
      have hnmy : itemName p j = y.name := name_at hy
      refine iteT ?_
      walk_at "w"
      refine u_fld (s7b.s _ _ (s7b.g _ _ (st7.g _ _ ins))) (cl_Page T) (na_Page_things T) fl_Page_things ?_
      walk_at "w"
      refine w_ixL (hpH s7b.g s7b.s).t (atI_nat hvy) ?_
      walk_at "w"
      refine w_ixT (Same.sqT ((st7.g.trans s7b.g).trans s7b.s) hty) rfl ?_
      walk_at "w"
      refine u_lstK (by show 1 ≤ sizeLine; decide) fun lc Gc Hc sc _ _ hlc => ?_
      walk_at "w"
      refine u_cat (on hlb) (on hlc) (by show 4 + 1 ≤ sizeLine; decide) fun ld Gd Hd sd _ cd hld => ?_
      walk_at "w"
      have gbd := sc.g.trans sd.g
      rw [← hact]
      refine fin (sc.trans sd) cd hld ?_
      unfold lisW
      rw [hact]
      exact .cons (w1.mono gbd) (.cons (w2.mono gbd) (.cons (w3.mono gbd) (.cons (w4.mono gbd) (.cons ⟨ny, rfl, by rw [hnmy]; exact Same.sqT ((st7.g.trans s7b.g).trans gbd) hny⟩ .nil))))
  · rintro σ7 H7 ⟨G7, fv, v2, v3, v4, v5, v6, v7, v8, v9, va, vb, vc, vd, ve, rfl, st7, mf7, pf7, hfl7⟩
    walk_at "w"
    rw [hllen, List.take_length] at pf7
    exact (kk f fv).go (st7.keep hf mf7.h) upd_same (Paired.mapP pf7 fun _ _ => LnW.mono (Same.keep mf7.h st7.s))
theorem sep_pos {s : UInt16} {L : List Units} (hL : ∀ u ∈ L, u ≠ []) {i : Nat} (hi : i ≤ L.length) : decide ((0 : Int) < ((sepJ s (L.take i)).length : Int)) = decide (0 < i) := by
  cases i with
  | zero => rfl
  | succ i =>
    cases L with
    | nil => exact absurd hi (by simp)
    | cons u l =>
      have := List.length_pos_iff.mpr (sep_ne (s := s) (l := l.take i) (hL u (by simp)))
      rw [List.take_succ_cons, decide_eq_true (by omega), decide_eq_true (by omega)]
theorem line_len {p : SPage} {ws : List Units} (h : ws ∈ pageLines p) : ws.length ≤ 5 := by
  rw [page_lines] at h
  have mk : ∀ {z : Str} {f : SItem → Bool}, ws ∈ markW p z f → ws.length ≤ 5 := fun h => by
    obtain ⟨x, _, rfl⟩ := List.mem_map.mp h
    show 2 ≤ 5; omega
  rcases List.mem_append.mp h with h | h
  · unfold lines2 at h
    rcases List.mem_append.mp h with h | h
    · rcases List.mem_append.mp h with h | h
      · obtain ⟨x, _, rfl⟩ := List.mem_map.mp h
        unfold itemW
        split
        · split <;> simp
        · simp
      · split at h
        · exact mk h
        · cases h
    · split at h
      · exact mk h
      · cases h
  · obtain ⟨x, _, rfl⟩ := List.mem_map.mp h
    unfold lisW
    cases actT x.action <;> simp
theorem ln_ne {p : SPage} : ∀ u ∈ (pageLines p).map printWords, u ≠ [] := fun u hu => by
  obtain ⟨ws, hws, rfl⟩ := List.mem_map.mp hu
  obtain ⟨x, l, rfl, hx⟩ := line_head hws
  rw [sep_words]
  exact sep_ne hx
/-- [c] if b else [] -/
theorem u_opt {G H : Hp} [q : Cur G H] {b : Bool} {c : UInt16} {i : Int} {σ : L2.St} {Q : VK} (hi : i = (c.toNat : Int)) (k : ∀ p, Nxt [] G H fun G' H' => G' p = some (.lst (un (sepO c b))) → Q (.ref p) H') : if b = true then tLst (tCons (tC (.int i)) tNil) σ H Q else tLst tNil σ H Q := by
  subst hi
  cases b with
  | true => exact u_lstK (xs := [.int (c.toNat : Int)]) (by show 1 ≤ sizeLine; decide) fun p G' H' st d c h => k p G' H' st d c h
  | false => exact u_lstK (xs := []) (by show 0 ≤ sizeLine; decide) fun p G' H' st d c h => k p G' H' st d c h
theorem has_page_text (T : Txt K mg) : Has P w K mg base CX0 3 ("page_text", none) ["page"] (spPgText K) := by
  refine mk_has (d := d_page_text) T 21 rfl rfl rfl sc_page_text (fun _ _ _ _ _ _ us hl => match us, hl with | [_], _ => rfl) (fun vs H Q E h => h.1) (fun cdv A outer s H vs Q E hr h => ?_)
  refine ⟨_, PSs.nox (pss_cons (ps_set (i := 1) sc_page_text.nd rfl (Or.inl rfl) (pe_lst pa_nil))
 (pss_cons (ps_for PassesOwn.never rfl (pi_list (pmeth0 (pv 0) (cl_Page T) (me_Page_lines T) (has_Page_lines T) (hr.mono (by omega)) pass0)) (pg_name (i := 2) sc_page_text.nd rfl (Or.inl rfl)) (Evl.pss_cut (ps_expr (pe_bm PySem.F.plainAttrs_list PySem.F.slot_list_extend PySem.F.type_list_extend mt_extend (pv 1) (pa_cons (pe_ifExp (pt_cmpR op_gt (pe_callB c_len (by rfl) (fr_len T) PySem.boot_len (pa_cons (pv 1) pa_nil)) pe_int (nomark _)) (pe_lst (pa_cons (pgi (gi_FEED T) rfl) pa_nil)) (pe_lst pa_nil)) pa_nil)))
 (pss_one (ps_for PassesOwn.never rfl (pi_range1 (by rfl) (fr_range T) (pa_cons (pe_callB c_len (by rfl) (fr_len T) PySem.boot_len (pa_cons (pv 2) pa_nil)) pa_nil)) (pg_name (i := 3) sc_page_text.nd rfl (Or.inl rfl)) (Evl.pss_cut (ps_expr (pe_bm PySem.F.plainAttrs_list PySem.F.slot_list_extend PySem.F.type_list_extend mt_extend (pv 1) (pa_cons (pe_ifExp (pt_cmpR op_gt (pv 3) pe_int (nomark _)) (pe_lst (pa_cons (pgi (gi_SPACE T) rfl) pa_nil)) (pe_lst pa_nil)) pa_nil)))
 (pss_one (ps_expr (pe_bm PySem.F.plainAttrs_list PySem.F.slot_list_extend PySem.F.type_list_extend mt_extT (pv 1) (pa_cons (pe_ix ix_list (pv 2) (pv 3) (fun _ _ => rfl)) pa_nil)))))))))
 (pss_one (ps_ret (pv 1))))), ?_⟩
  obtain ⟨_, G, a, p, rfl, gs, pg, wf, hN, kk⟩ := h
  have : Cur G H := ⟨gs⟩
  have ⟨dx, tl, ol, dl, ll, ts, ls, ins, hp⟩ := pg
  have hPT : printText p = sepJ 10 ((pageLines p).map printWords) := sep_lines _
  rw [hPT] at kk hN
  have hne := ln_ne (p := p)
  generalize hL : (pageLines p).map printWords = L at *
  have hLl : L.length = (pageLines p).length := by rw [← hL, List.length_map]
  walk_at "w"
  refine u_lst (Nat.zero_le _) fun f G1 H1 st1 _ _ hf mf => ?_
  walk_at "w"
  refine u_mth (on ins) fm_Page_lines ?_
  walk_at "w"
  refine u_pgLines (pg.mono st1.g) wf fun lq fv G2 H2 st2 _ _ hlq hfv => ?_
  walk_at "w"
  have hfvl := hfv.length
  have st12 := st1.trans st2
  refine u_iL (SqL.of (on hlq)) ?_
  refine u_for (walk_list (xs := fv)) (fun i σ H' => ∃ G' v2 v3, σ = [some (.ref a), some (.ref f), v2, v3] ∧ Stp [] G H G' H' ∧ Same G2 G' ∧ Mu G' H' f (.lst (un (sepJ 10 (L.take i))))) ?_ (fun i σ H' _ ⟨G', _, _, _, st, g, _⟩ => SqL.of (st.s _ _ (g _ _ hlq))) ?_ ?_
  · exact ⟨G2, none, none, rfl, st12, Same.refl _, st2.mu mf List.not_mem_nil⟩
  · rintro i v σ H3 H3' hi ⟨G3, v2, v3, rfl, st3, g23, mf3⟩ ⟨rfl, hv⟩
    have : Cur G3 H3' := ⟨st3.s⟩
    have : Dn G2 G3 := ⟨g23⟩
    obtain ⟨ws, hws, lp, vs, rfl, hlp, hvs⟩ := pr_getL hfv hv
    have hvsl := hvs.length
    have hLi : L[i]? = some (sepJ 32 ws) := by rw [← hL, List.getElem?_map, hws, ← sep_words]; rfl
    have hiL : i < L.length := (List.getElem?_eq_some_iff.mp hLi).1
    have hstep := sep_take (s := 10) hLi
    have hbound := sep_mono 10 L (i + 1)
    rw [hstep] at hbound
    simp only [List.length_append] at hbound
    walk_at "w"
    refine w_cut (fun σ' H' => ∃ G', σ' = [some (.ref a), some (.ref f), some (.ref lp), v3] ∧ Stp [f] G3 H3' G' H' ∧ Mu G' H' f (.lst (un (sepJ 10 (L.take i) ++ sepO 10 (decide (0 < i)))))) ?_ ?_
    · walk_at "w"
      refine u_bmL mf3.h ?_
      walk_at "w"
      refine u_lenL mf3.sqL ?_
      walk_at "w"
      rw [un_len, sep_pos hne (by omega)]
      refine u_opt (c := 10) rfl fun q G4 H4 st4 _ _ hq => ?_
      walk_at "w"
      refine u_ext (st4.mu mf3 List.not_mem_nil) (on hq) (by rw [un_len, un_len]; exact lst_le (by omega)) fun G5 H5 st5 _ _ mf5 => ?_
      walk_at "w"
      refine ⟨G5, rfl, st4.nil.trans st5, ?_⟩
      rw [un_app]; exact mf5
    rintro σ4 H4 ⟨G4, rfl, st4, mf4⟩
    have : Cur G4 H4 := ⟨st4.s⟩
    have : Dn G3 G4 := ⟨st4.g⟩
    have hlp4 : G4 lp = some (.lst vs) := up hlp
    walk_at "w"
    refine u_lenL (SqL.of (on hlp4)) ?_
    walk_at "w"
    have hwl : vs.length ≤ 100000 := by
      have := line_len (List.mem_of_getElem? hws)
      omega
    refine u_iR (by omega) ?_
    refine u_for (walk_range (n := vs.length)) (fun k σ H' => ∃ G' v3, σ = [some (.ref a), some (.ref f), some (.ref lp), v3] ∧ Stp [f] G3 H3' G' H' ∧ Mu G' H' f (.lst (un (sepJ 10 (L.take i) ++ sepO 10 (decide (0 < i)) ++ sepJ 32 (ws.take k)))) ∧ Same G4 G') ?_ (fun _ _ _ _ _ => trivial) ?_ ?_
    · refine ⟨G4, v3, rfl, st4, ?_, Same.refl _⟩
      rw [List.take_zero]
      show Mu G4 H4 f (.lst (un (_ ++ [])))
      rw [List.append_nil]; exact mf4
    · rintro k y σ H5 H5' hk ⟨G5, v3, rfl, st5, mf5, g45⟩ ⟨rfl, hy⟩
      obtain rfl := rng0 hy
      have : Cur G5 H5' := ⟨st5.s⟩
      have : Dn G4 G5 := ⟨g45⟩
      obtain ⟨w, hw⟩ : ∃ w, ws[k]? = some w := ⟨_, List.getElem?_eq_getElem (by omega)⟩
      obtain ⟨vw, hvw, pw, rfl, hpw⟩ := pr_get hvs hw
      have hws2 := sep_take (s := 32) hw
      have hb2 := sep_mono 32 ws (k + 1)
      rw [hws2] at hb2
      simp only [List.length_append] at hb2
      have hpw5 : SqT K G5 pw (un w) := Same.sqT ((g23.trans st4.g).trans g45) hpw
      refine w_cut (fun σ' H' => ∃ G', σ' = [some (.ref a), some (.ref f), some (.ref lp), some (.int (k : Nat))] ∧ Stp [f] G5 H5' G' H' ∧ Mu G' H' f (.lst (un (sepJ 10 (L.take i) ++ sepO 10 (decide (0 < i)) ++ sepJ 32 (ws.take k) ++ sepO 32 (decide (0 < k)))))) ?_ ?_
      · walk_at "w"
        refine u_bmL mf5.h ?_
        walk_at "w"
        rw [show decide ((0 : Int) < (k : Int)) = decide (0 < k) from decide_eq_decide.mpr (by omega)]
        refine u_opt (c := 32) rfl fun q G6 H6 st6 _ _ hq => ?_
        walk_at "w"
        refine u_ext (st6.mu mf5 List.not_mem_nil) (on hq) (by simp only [un_len, List.length_append]; exact lst_le (by omega)) fun G7 H7 st7 _ _ mf7 => ?_
        walk_at "w"
        refine ⟨G7, rfl, st6.nil.trans st7, ?_⟩
        rw [un_app _ (sepO 32 _)]; exact mf7
      rintro σ6 H6 ⟨G6, rfl, st6, mf6⟩
      have : Cur G6 H6 := ⟨st6.s⟩
      have hpw6 : SqT K H6 pw (un w) := Same.sqT (st6.g.trans st6.s) hpw5
      walk_at "w"
      refine u_bmL mf6.h ?_
      walk_at "w"
      refine w_ixL (SqL.of (st6.s _ _ (st6.g _ _ (g45 _ _ hlp4)))) (atI_nat hvw) ?_
      walk_at "w"
      refine u_extT mf6 hpw6 (by simp only [un_len, List.length_append]; exact lst_le (by omega)) fun G7 H7 st7 _ _ mf7 => ?_
      walk_at "w"
      refine ⟨G7, _, rfl, (st5.trans st6).trans st7, ?_, (g45.trans st6.g).trans st7.g⟩
      rw [hws2, ← List.append_assoc, ← List.append_assoc, un_app _ w]
      exact mf7
    · rintro σ5 H5 ⟨G5, v3, rfl, st5, mf5, g45⟩
      rw [hvsl, List.take_length] at mf5
      refine ⟨G5, _, _, rfl, (st3.nil.trans st5).drop hf, g23.trans st5.g, ?_⟩
      rw [hstep, ← List.append_assoc]; exact mf5
  · rintro σ3 H3 ⟨G3, v2, v3, rfl, st3, g23, mf3⟩
    walk_at "w"
    rw [List.take_of_length_le (by omega)] at mf3
    exact (kk f).go (st3.keep hf mf3.h) upd_same
end
end Ck
namespace Ck
open PySem PySem.Spec PyProof.Rows L2
open He (ga ma fAd)
open R7253f.Spec (Units units isName indexIn itemNames kindAt sameGroup isControl canTick isCheck pathOf targetOf controlOf activates tickOn tickOff turnOff isOn isOff isBusy dispatch clickBy userClick takeBack onInGroup activate finish act hear visit listenersOf wayOf quiet)
abbrev SState := R7253f.Spec.State
abbrev SEntry := R7253f.Spec.Entry
abbrev STurn := R7253f.Spec.Turn
/-! ### states as they lie in the heap -/
structure SA where
  a : Addr
  dx : Addr
  pa : Addr
  ol : Addr
  dl : Addr
  lg : Addr
def natsV (l : List Nat) : List V := l.map fun (j : Nat) => V.int (j : Nat)
def goneL (g : List Bool) : List Nat := (List.range g.length).filter fun k => g.getD k false
def EnA (K : PySem.W.Frag) (G : Hp) (v : V) (e : SEntry) : Prop := ∃ t, v = .ref t ∧ match e with
  | .click i => SqT K G t [.str "click", .int (i : Nat)]
  | .hear k => SqT K G t [.str "hear", .int (k : Nat)]
  | .follow i => SqT K G t [.str "follow", .int (i : Nat)]
  | .submit i => SqT K G t [.str "submit", .int (i : Nat)]
  | .change i => SqT K G t [.str "change", .int (i : Nat)]
  | .cancel i => SqT K G t [.str "cancel", .int (i : Nat)]
  | .lost => False
theorem EnA.mono {K : PySem.W.Frag} {G G' : Hp} (s : Same G G') {v : V} {e : SEntry} (h : EnA K G v e) : EnA K G' v e := by
  obtain ⟨t, e1, h⟩ := h
  refine ⟨t, e1, ?_⟩
  cases e <;> first | exact h | exact Same.sqT s h
structure StW (p : SPage) (s : SState) (ws : List Nat) : Prop where
  on : s.on.length = p.items.length
  off : s.off.length = p.items.length
  gone : s.gone.length = p.listeners.length
  busy : s.busy.length = p.items.length
  bs : ∀ i, i < p.items.length → s.busy.getD i false = ws.contains i
  nd : ws.Nodup
  lt : ∀ i ∈ ws, i < p.items.length
abbrev StO (K : PySem.W.Frag) (A : SA) (gl wl : Addr) : HO := .ins (ga K "State") A.dx (FState (.ref A.pa) (.ref A.ol) (.ref A.dl) (.ref gl) (.ref A.lg) (.ref wl))
/-- a state while it changes -/
structure StM (K : PySem.W.Frag) (G H : Hp) (A : SA) (p : SPage) (s : SState) (log : List SEntry) (ws : List Nat) : Prop where
  x : ∃ gl wl, Mu G H A.a (StO K A gl wl) ∧ G gl = some (.lst (natsV (goneL s.gone))) ∧ G wl = some (.lst (natsV ws))
  pg : PgH K G A.pa p
  o : Mu G H A.ol (.lst (s.on.map V.bl))
  d : Mu G H A.dl (.lst (s.off.map V.bl))
  l : ∃ lv, Mu G H A.lg (.lst lv) ∧ Paired (EnA K G) lv log
  od : A.ol ≠ A.dl
  ol : A.ol ≠ A.lg
  dl : A.dl ≠ A.lg
  w : StW p s ws
/-- a state that stays -/
structure StF (K : PySem.W.Frag) (G : Hp) (a pa : Addr) (p : SPage) (s : SState) (log : List SEntry) : Prop where
  x : ∃ dx ol dl gl lg wl lv, G a = some (.ins (ga K "State") dx (FState (.ref pa) (.ref ol) (.ref dl) (.ref gl) (.ref lg) (.ref wl))) ∧ G ol = some (.lst (s.on.map V.bl)) ∧ G dl = some (.lst (s.off.map V.bl)) ∧ G gl = some (.lst (natsV (goneL s.gone))) ∧ G lg = some (.lst lv) ∧ Paired (EnA K G) lv log
  pg : PgH K G pa p
  w : StW p s []
abbrev SA.F (A : SA) : List Addr := [A.a, A.ol, A.dl, A.lg]
section
variable {K : PySem.W.Frag} {G H G' H' : Hp} {A : SA} {p : SPage} {s : SState} {log : List SEntry} {ws : List Nat}
theorem StF.mono {a pa : Addr} (e : Same G G') (h : StF K G a pa p s log) : StF K G' a pa p s log := by
  obtain ⟨⟨dx, ol, dl, gl, lg, wl, lv, h1, h2, h3, h4, h5, h6⟩, pg, w⟩ := h
  exact ⟨⟨dx, ol, dl, gl, lg, wl, lv, e _ _ h1, e _ _ h2, e _ _ h3, e _ _ h4, e _ _ h5, Paired.mapP h6 fun _ _ => EnA.mono e⟩, pg.mono e, w⟩
theorem StM.step {F : List Addr} (st : Stp F G H G' H') (h : StM K G H A p s log ws) (h1 : A.a ∉ F) (h2 : A.ol ∉ F) (h3 : A.dl ∉ F) (h4 : A.lg ∉ F) : StM K G' H' A p s log ws := by
  obtain ⟨⟨gl, wl, x1, x2, x3⟩, pg, o, d, ⟨lv, l1, l2⟩, od, ol, dl, w⟩ := h
  exact ⟨⟨gl, wl, st.mu x1 h1, st.g _ _ x2, st.g _ _ x3⟩, pg.mono st.g, st.mu o h2, st.mu d h3, ⟨lv, st.mu l1 h4, Paired.mapP l2 fun _ _ => EnA.mono st.g⟩, od, ol, dl, w⟩
theorem StM.nil (h : StM K G H A p s log ws) (st : Stp [] G H G' H') : StM K G' H' A p s log ws := h.step st List.not_mem_nil List.not_mem_nil List.not_mem_nil List.not_mem_nil
theorem StM.ao (h : StM K G H A p s log ws) : A.a ≠ A.ol := fun e => by
  obtain ⟨_, _, x1, _⟩ := h.x
  have h1 := x1.h
  have h2 := h.o.h
  rw [e, h2] at h1
  cases h1
theorem StM.ad (h : StM K G H A p s log ws) : A.a ≠ A.dl := fun e => by
  obtain ⟨_, _, x1, _⟩ := h.x
  have h1 := x1.h
  have h2 := h.d.h
  rw [e, h2] at h1
  cases h1
theorem StM.al (h : StM K G H A p s log ws) : A.a ≠ A.lg := fun e => by
  obtain ⟨_, _, x1, _⟩ := h.x
  obtain ⟨lv, l1, _⟩ := h.l
  have h1 := x1.h
  have h2 := l1.h
  rw [e, h2] at h1
  cases h1
/-- the list of what is on changes -/
theorem StM.putO {on' : List Bool} (st : Stp [A.ol] G H G' H') (h : StM K G H A p s log ws) (m : Mu G' H' A.ol (.lst (on'.map V.bl))) (hl : on'.length = p.items.length) : StM K G' H' A p { s with on := on' } log ws := by
  have ao := h.ao
  obtain ⟨⟨gl, wl, x1, x2, x3⟩, pg, o, d, ⟨lv, l1, l2⟩, od, ol, dl, w⟩ := h
  exact ⟨⟨gl, wl, st.mu x1 (by simpa using ao), st.g _ _ x2, st.g _ _ x3⟩, pg.mono st.g, m, st.mu d (by simpa using od.symm), ⟨lv, st.mu l1 (by simpa using ol.symm), Paired.mapP l2 fun _ _ => EnA.mono st.g⟩, od, ol, dl, ⟨hl, w.off, w.gone, w.busy, w.bs, w.nd, w.lt⟩⟩
theorem StM.putD {off' : List Bool} (st : Stp [A.dl] G H G' H') (h : StM K G H A p s log ws) (m : Mu G' H' A.dl (.lst (off'.map V.bl))) (hl : off'.length = p.items.length) : StM K G' H' A p { s with off := off' } log ws := by
  have ad := h.ad
  obtain ⟨⟨gl, wl, x1, x2, x3⟩, pg, o, d, ⟨lv, l1, l2⟩, od, ol, dl, w⟩ := h
  exact ⟨⟨gl, wl, st.mu x1 (by simpa using ad), st.g _ _ x2, st.g _ _ x3⟩, pg.mono st.g, st.mu o (by simpa using od), m, ⟨lv, st.mu l1 (by simpa using dl.symm), Paired.mapP l2 fun _ _ => EnA.mono st.g⟩, od, ol, dl, ⟨w.on, hl, w.gone, w.busy, w.bs, w.nd, w.lt⟩⟩
theorem StM.putL {lv : List V} {log' : List SEntry} (st : Stp [A.lg] G H G' H') (h : StM K G H A p s log ws) (m : Mu G' H' A.lg (.lst lv)) (pr : Paired (EnA K G') lv log') : StM K G' H' A p s log' ws := by
  have al := h.al
  obtain ⟨⟨gl, wl, x1, x2, x3⟩, pg, o, d, _, od, ol, dl, w⟩ := h
  exact ⟨⟨gl, wl, st.mu x1 (by simpa using al), st.g _ _ x2, st.g _ _ x3⟩, pg.mono st.g, st.mu o (by simpa using ol), st.mu d (by simpa using dl), ⟨lv, m, pr⟩, od, ol, dl, w⟩
theorem StM.putA {gl wl : Addr} {s' : SState} {ws' : List Nat} (st : Stp [A.a] G H G' H') (h : StM K G H A p s log ws) (m : Mu G' H' A.a (StO K A gl wl)) (h1 : G' gl = some (.lst (natsV (goneL s'.gone)))) (h2 : G' wl = some (.lst (natsV ws'))) (e1 : s'.on = s.on) (e2 : s'.off = s.off) (w : StW p s' ws') : StM K G' H' A p s' log ws' := by
  have ao := h.ao
  have ad := h.ad
  have al := h.al
  obtain ⟨_, pg, o, d, ⟨lv, l1, l2⟩, od, ol, dl, _⟩ := h
  exact ⟨⟨gl, wl, m, h1, h2⟩, pg.mono st.g, by rw [e1]; exact st.mu o (by simpa using ao.symm), by rw [e2]; exact st.mu d (by simpa using ad.symm), ⟨lv, st.mu l1 (by simpa using al.symm), Paired.mapP l2 fun _ _ => EnA.mono st.g⟩, od, ol, dl, w⟩
theorem StM.wO (st : Stp [A.ol] G H G' H') : Stp A.F G H G' H' := st.weak fun b hb => by rw [List.mem_singleton.mp hb]; simp
theorem StM.wD (st : Stp [A.dl] G H G' H') : Stp A.F G H G' H' := st.weak fun b hb => by rw [List.mem_singleton.mp hb]; simp
theorem StM.wL (st : Stp [A.lg] G H G' H') : Stp A.F G H G' H' := st.weak fun b hb => by rw [List.mem_singleton.mp hb]; simp
theorem StM.wA (st : Stp [A.a] G H G' H') : Stp A.F G H G' H' := st.weak fun b hb => by rw [List.mem_singleton.mp hb]; simp
theorem bls_at {l : List Bool} {i : Nat} (h : i < l.length) : (l.map V.bl)[i]? = some (.bl (l.getD i false)) := by
  rw [List.getElem?_map, List.getD_eq_getElem?_getD, List.getElem?_eq_getElem h]; rfl
end
/-! ### what the spec's steps keep -/
section
variable {p : SPage} {s : SState} {ws : List Nat}
theorem tickOn_len (i : Nat) : (tickOn p s i).on.length = s.on.length := by
  unfold tickOn
  split
  · show (List.map _ (List.zipIdx s.on)).length = _
    rw [List.length_map, List.length_zipIdx]
  · rfl
theorem tickOff_len (i : Nat) : (tickOff p s i).on.length = s.on.length := by
  unfold tickOff
  split
  · show (List.set s.on i false).length = _
    rw [List.length_set]
  · rfl
end
theorem sorted_uniq : ∀ {l m : List Int}, l.Perm m → l.Pairwise (· ≤ ·) → m.Pairwise (· ≤ ·) → l = m
  | [], m, h, _, _ => (List.Perm.nil_eq h)
  | a :: l, [], h, _, _ => by have := h.length_eq; cases this
  | a :: l, b :: m, h, h1, h2 => by
    have e : a = b := by
      have ha : a ∈ b :: m := h.mem_iff.mp List.mem_cons_self
      have hb : b ∈ a :: l := h.mem_iff.mpr List.mem_cons_self
      have h1' := List.pairwise_cons.mp h1
      have h2' := List.pairwise_cons.mp h2
      rcases List.mem_cons.mp ha with e | ha
      · exact e
      · rcases List.mem_cons.mp hb with e | hb
        · exact e.symm
        · have x1 := h1'.1 b hb
          have x2 := h2'.1 a ha
          omega
    subst e
    rw [sorted_uniq (List.Perm.cons_inv h) (List.pairwise_cons.mp h1).2 (List.pairwise_cons.mp h2).2]
theorem filt_perm {f : Nat → Bool} {x : Nat} (hx : f x = false) : ∀ {l : List Nat}, l.Nodup → x ∈ l → (l.filter fun k => f k || k == x).Perm (l.filter f ++ [x])
  | [], _, h => by cases h
  | y :: l, nd, h => by
    obtain ⟨n1, n2⟩ := List.nodup_cons.mp nd
    rw [List.filter_cons, List.filter_cons]
    by_cases e : y = x
    · subst e
      have e1 : (f y || y == y) = true := by simp
      rw [if_pos e1, hx]
      have e2 : l.filter (fun k => f k || k == y) = l.filter f := List.filter_congr fun k hk => by
        have : k ≠ y := fun e => n1 (e ▸ hk)
        simp [this]
      rw [e2]
      exact (List.perm_append_singleton y _).symm
    · have hm : x ∈ l := by
        rcases List.mem_cons.mp h with h | h
        · exact absurd h.symm e
        · exact h
      have e1 : (f y || y == x) = f y := by simp [e]
      rw [e1]
      have ih := filt_perm hx n2 hm
      cases f y with
      | true => exact List.Perm.cons y ih
      | false => exact ih
theorem gone_set {g : List Bool} {k : Nat} (hk : k < g.length) (h : g.getD k false = false) : (goneL (g.set k true)).Perm (goneL g ++ [k]) := by
  unfold goneL
  rw [List.length_set]
  have e : (List.range g.length).filter (fun j => (g.set k true).getD j false) = (List.range g.length).filter fun j => g.getD j false || j == k := List.filter_congr fun j hj => by
    rw [List.getD_eq_getElem?_getD, List.getD_eq_getElem?_getD, List.getElem?_set]
    by_cases e : k = j
    · subst e
      rw [if_pos rfl, if_pos hk]
      simp
    · rw [if_neg e]
      simp [Ne.symm e]
  rw [e]
  exact filt_perm h List.nodup_range (List.mem_range.mpr hk)
theorem natI_pair {l : List Nat} (h : l.Pairwise (· < ·)) : (l.map fun (j : Nat) => (j : Int)).Pairwise (· ≤ ·) := by
  rw [List.pairwise_map]
  exact h.imp fun h => by omega
theorem gone_sorted (g : List Bool) : (goneL g).Pairwise (· < ·) := List.Pairwise.filter _ List.pairwise_lt_range
theorem gone_has {g : List Bool} {k : Nat} (hk : k < g.length) : (goneL g).contains k = g.getD k false := by
  unfold goneL
  cases h : g.getD k false with
  | true =>
    rw [List.contains_iff_mem, List.mem_filter]
    exact ⟨List.mem_range.mpr hk, h⟩
  | false =>
    rw [Bool.eq_false_iff]
    intro hc
    rw [List.contains_iff_mem, List.mem_filter] at hc
    rw [h] at hc
    exact absurd hc.2 (by decide)
theorem natsV_ints (l : List Nat) : natsV l = (l.map fun (j : Nat) => (j : Int)).map V.int := by unfold natsV; rw [List.map_map]; rfl
end Ck
namespace Ck
open PySem PySem.Spec PyProof.Rows L2
open He (ga ma fAd)
open R7253f.Spec (Units units isName indexIn itemNames kindAt sameGroup isControl canTick isCheck pathOf targetOf controlOf activates tickOn tickOff turnOff isOn isOff isBusy dispatch clickBy userClick takeBack onInGroup activate finish act hear visit listenersOf wayOf quiet)
abbrev Clk := SState → Nat → SState × List SEntry
/-! ### the spec's machine in steps -/
def actR (p : SPage) (c : Clk) (s : SState) : SAct → SState × List SEntry
  | .prevent => (s, [])
  | .stop => (s, [])
  | .halt => (s, [])
  | .click i => c s i
  | .tick i => (tickOn p s i, [])
  | .untick i => (tickOff p s i, [])
  | .disable i => (turnOff p s i true, [])
  | .enable i => (turnOff p s i false, [])
def actF (f : R7253f.Spec.Flags) : SAct → R7253f.Spec.Flags
  | .prevent => { f with cancelled := true }
  | .stop => { f with stopped := true }
  | .halt => { f with stopped := true, halted := true }
  | _ => f
theorem act_eq (p : SPage) (c : Clk) (t : STurn) (a : SAct) : act p c t a = ⟨(actR p c t.state a).1, actF t.flags a, t.log ++ (actR p c t.state a).2⟩ := by
  obtain ⟨s, f, l⟩ := t
  cases a <;> simp [act, actR, actF]
theorem act_log (p : SPage) (c : Clk) (t : STurn) (a : SAct) : t.log.length ≤ (act p c t a).log.length := by
  rw [act_eq]
  show _ ≤ (t.log ++ _).length
  rw [List.length_append]; omega
theorem hear_log (p : SPage) (c : Clk) (t : STurn) (k : Nat) : t.log.length ≤ (hear p c t k).log.length := by
  unfold hear
  split
  · exact Nat.le_refl _
  · split
    · exact Nat.le_refl _
    · refine Nat.le_trans ?_ (act_log _ _ _ _)
      show _ ≤ (t.log ++ _).length
      rw [List.length_append]; omega
theorem fold_log {β : Type} {f : STurn → β → STurn} (h : ∀ t b, t.log.length ≤ (f t b).log.length) : ∀ (l : List β) (t : STurn), t.log.length ≤ (l.foldl f t).log.length
  | [], _ => Nat.le_refl _
  | b :: l, t => Nat.le_trans (h t b) (fold_log h l (f t b))
theorem visit_log (p : SPage) (c : Clk) (t : STurn) (x : Nat × Bool) : t.log.length ≤ (visit p c t x).log.length := by
  unfold visit
  split
  · exact Nat.le_refl _
  · exact fold_log (hear_log p c) _ _
theorem visit_stop (p : SPage) (c : Clk) {t : STurn} (h : t.flags.stopped = true) : ∀ l : List (Nat × Bool), l.foldl (visit p c) t = t
  | [] => rfl
  | x :: l => by
    have e : visit p c t x = t := by unfold visit; rw [if_pos h]
    rw [List.foldl_cons, e]
    exact visit_stop p c h l
def lisF (p : SPage) (i : Nat) (b : Bool) (k : Nat) : Bool := ((p.listeners[k]?).map fun l => l.item == i && l.capture == b).getD false
def hStep (p : SPage) (c : Clk) (i : Nat) (b : Bool) (t : STurn) (k : Nat) : STurn := if lisF p i b k = true then hear p c t k else t
theorem hStep_log (p : SPage) (c : Clk) (i : Nat) (b : Bool) (t : STurn) (k : Nat) : t.log.length ≤ (hStep p c i b t k).log.length := by
  unfold hStep
  split
  · exact hear_log _ _ _ _
  · exact Nat.le_refl _
theorem lis_fold (p : SPage) (c : Clk) (i : Nat) (b : Bool) (t : STurn) : (listenersOf p i b).foldl (hear p c) t = (List.range p.listeners.length).foldl (hStep p c i b) t := by
  show List.foldl _ t (List.filter (lisF p i b) _) = _
  rw [List.foldl_filter]; rfl
def hAt (p : SPage) (c : Clk) (i : Nat) (b : Bool) (t : STurn) (j : Nat) : STurn := ((List.range p.listeners.length).take j).foldl (hStep p c i b) t
theorem hAt_succ {p : SPage} {c : Clk} {i : Nat} {b : Bool} {t : STurn} {j : Nat} (h : j < p.listeners.length) : hAt p c i b t (j + 1) = hStep p c i b (hAt p c i b t j) j := by
  unfold hAt
  rw [take_snoc (List.getElem?_range h), List.foldl_append]; rfl
theorem hAt_le {p : SPage} {c : Clk} {i : Nat} {b : Bool} {t : STurn} {j : Nat} (h : j ≤ p.listeners.length) : (hAt p c i b t j).log.length ≤ ((listenersOf p i b).foldl (hear p c) t).log.length := by
  rw [lis_fold]
  have e : (List.range p.listeners.length).foldl (hStep p c i b) t = ((List.range p.listeners.length).drop j).foldl (hStep p c i b) (hAt p c i b t j) := by
    unfold hAt
    rw [← List.foldl_append, List.take_append_drop]
  rw [e]
  exact fold_log (hStep_log p c i b) _ _
theorem hAt_end {p : SPage} {c : Clk} {i : Nat} {b : Bool} {t : STurn} : hAt p c i b t p.listeners.length = (listenersOf p i b).foldl (hear p c) t := by
  unfold hAt
  rw [lis_fold, List.take_of_length_le (by rw [List.length_range]; exact Nat.le_refl _)]
/-! ### what was heard, and the flags -/
def hasS (z : Str) (words : List Str) : Bool := inV (.str z) (words.map V.str)
theorem hasS_nil (z : Str) : hasS z [] = false := rfl
theorem hasS_snoc (z y : Str) (words : List Str) : hasS z (words ++ [y]) = (hasS z words || eqV (.str y) (.str z)) := by
  unfold hasS inV
  rw [List.map_append, List.any_append]
  simp
structure FlR (f0 : Bool) (words : List Str) (f : R7253f.Spec.Flags) : Prop where
  c : f.cancelled = (f0 || hasS "prevent" words)
  s : f.stopped = (hasS "stop" words || hasS "halt" words)
  h : f.halted = hasS "halt" words
theorem FlR.snoc {f0 : Bool} {words : List Str} {f : R7253f.Spec.Flags} (h : FlR f0 words f) (a : SAct) : FlR f0 (words ++ [actS a]) (actF f a) := by
  obtain ⟨c, s, hh⟩ := h
  have key : ∀ (y : Str) (b1 b2 b3 : Bool) (f' : R7253f.Spec.Flags), eqV (.str y) (.str "prevent") = b1 → eqV (.str y) (.str "stop") = b2 → eqV (.str y) (.str "halt") = b3 → f'.cancelled = (f.cancelled || b1) → f'.stopped = (f.stopped || (b2 || b3)) → f'.halted = (f.halted || b3) → FlR f0 (words ++ [y]) f' := by
    intro y b1 b2 b3 f' e1 e2 e3 h1 h2 h3
    refine ⟨?_, ?_, ?_⟩
    · rw [hasS_snoc, e1, h1, c, Bool.or_assoc]
    · rw [hasS_snoc, hasS_snoc, e2, e3, h2, s]
      cases hasS "stop" words <;> cases hasS "halt" words <;> cases b2 <;> cases b3 <;> rfl
    · rw [hasS_snoc, e3, h3, hh]
  cases a with
  | prevent => exact key "prevent" true false false _ (by decide +kernel) (by decide +kernel) (by decide +kernel) (by simp [actF]) (by simp [actF]) (by simp [actF])
  | stop => exact key "stop" false true false _ (by decide +kernel) (by decide +kernel) (by decide +kernel) (by simp [actF]) (by simp [actF]) (by simp [actF])
  | halt => exact key "halt" false false true _ (by decide +kernel) (by decide +kernel) (by decide +kernel) (by simp [actF]) (by simp [actF]) (by simp [actF])
  | click i => exact key "click" false false false _ (by decide +kernel) (by decide +kernel) (by decide +kernel) (by simp [actF]) (by simp [actF]) (by simp [actF])
  | tick i => exact key "tick" false false false _ (by decide +kernel) (by decide +kernel) (by decide +kernel) (by simp [actF]) (by simp [actF]) (by simp [actF])
  | untick i => exact key "untick" false false false _ (by decide +kernel) (by decide +kernel) (by decide +kernel) (by simp [actF]) (by simp [actF]) (by simp [actF])
  | disable i => exact key "disable" false false false _ (by decide +kernel) (by decide +kernel) (by decide +kernel) (by simp [actF]) (by simp [actF]) (by simp [actF])
  | enable i => exact key "enable" false false false _ (by decide +kernel) (by decide +kernel) (by decide +kernel) (by simp [actF]) (by simp [actF]) (by simp [actF])
/-! ### ticking -/
def setF (l : List Bool) (js : List Nat) : List Bool := js.foldl (fun l j => l.set j false) l
theorem setF_len : ∀ (js : List Nat) (l : List Bool), (setF l js).length = l.length
  | [], _ => rfl
  | j :: js, l => by
    show (setF (l.set j false) js).length = _
    rw [setF_len js, List.length_set]
theorem setF_snoc {l : List Bool} {js : List Nat} {k j : Nat} (h : js[k]? = some j) : setF l (js.take (k + 1)) = (setF l (js.take k)).set j false := by
  unfold setF
  rw [take_snoc h, List.foldl_append]; rfl
theorem setF_get : ∀ (js : List Nat) (l : List Bool) (i : Nat), (setF l js)[i]? = if i ∈ js then (l[i]?).map fun _ => false else l[i]?
  | [], l, i => by simp [setF]
  | j :: js, l, i => by
    show (setF (l.set j false) js)[i]? = _
    rw [setF_get js, List.getElem?_set]
    by_cases hj : j = i
    · subst hj
      by_cases hl : j < l.length
      · simp [hl]
      · have : l[j]? = none := List.getElem?_eq_none (by omega)
        simp [hl, this]
    · by_cases hm : i ∈ js
      · simp [hj, hm]
      · simp [hj, hm, Ne.symm hj]
theorem tick_eq {p : SPage} {s : SState} {i : Nat} (h : canTick (kindAt p i) = true) : tickOn p s i = { s with on := (tickOn p s i).on } := by
  unfold tickOn
  rw [if_pos h]
theorem tickOff_eq {p : SPage} {s : SState} {i : Nat} (h : canTick (kindAt p i) = true) : tickOff p s i = { s with on := s.on.set i false } := by
  unfold tickOff
  rw [if_pos h]
theorem turnOff_eq {p : SPage} {s : SState} {i : Nat} {b : Bool} (h : isControl (kindAt p i) = true) : turnOff p s i b = { s with off := s.off.set i b } := by
  unfold turnOff
  rw [if_pos h]
theorem tick_on {p : SPage} {s : SState} {i : Nat} (h : canTick (kindAt p i) = true) (hl : s.on.length = p.items.length) (js : List Nat) (hj : ∀ j, j < p.items.length → j ≠ i → (j ∈ js ↔ sameGroup p i j = true)) : (setF s.on js).set i true = (tickOn p s i).on := by
  unfold tickOn
  rw [if_pos h]
  apply List.ext_getElem?
  intro j
  show _ = (List.map _ (List.zipIdx s.on))[j]?
  rw [List.getElem?_map, List.getElem?_zipIdx, List.getElem?_set, setF_get, setF_len]
  by_cases hlt : j < s.on.length
  · rw [List.getElem?_eq_getElem hlt]
    by_cases hij : i = j
    · subst hij
      simp [hlt]
    · have hj := hj j (by omega) (Ne.symm hij)
      rw [if_neg hij]
      by_cases hm : j ∈ js
      · have := hj.mp hm
        simp [hm, this, Ne.symm hij]
      · have : sameGroup p i j = false := by
          rw [Bool.eq_false_iff]
          exact fun e => hm (hj.mpr e)
        simp [hm, this, Ne.symm hij]
  · have e : s.on[j]? = none := List.getElem?_eq_none (by omega)
    rw [e]
    by_cases hij : i = j
    · subst hij
      simp [hlt]
    · simp [hij]
/-! ### promises -/
section
variable (K : PySem.W.Frag)
def spTick : Sp := fun vs H Q _ => vs.length = 2 ∧ ∃ (G : Hp) (A : SA) (p : SPage) (s : SState) (log : List SEntry) (ws : List Nat) (i : Nat), vs = [.ref A.a, .int (i : Nat)] ∧ Same G H ∧ StM K G H A p s log ws ∧ PgW p ∧ i < p.items.length ∧ canTick (kindAt p i) = true ∧
  Nxt A.F G H fun G' H' => StM K G' H' A p (tickOn p s i) log ws → Q .non H'
def spClick (k : Nat) : Sp := fun vs H Q _ => vs.length = 2 ∧ ∃ (G : Hp) (A : SA) (p : SPage) (s : SState) (log : List SEntry) (ws : List Nat) (i : Nat), vs = [.ref A.a, .int (i : Nat)] ∧ Same G H ∧ StM K G H A p s log ws ∧ PgW p ∧ i < p.items.length ∧ k + ws.length = p.items.length + 1 ∧ log.length + (dispatch p k s i).2.length ≤ 16000000 ∧
  Nxt A.F G H fun G' H' => StM K G' H' A p (dispatch p k s i).1 (log ++ (dispatch p k s i).2) ws → Q .non H'
def spByPage (k : Nat) : Sp := fun vs H Q _ => vs.length = 2 ∧ ∃ (G : Hp) (A : SA) (p : SPage) (s : SState) (log : List SEntry) (ws : List Nat) (i : Nat), vs = [.ref A.a, .int (i : Nat)] ∧ Same G H ∧ StM K G H A p s log ws ∧ PgW p ∧ i < p.items.length ∧ k + ws.length = p.items.length ∧ log.length + (clickBy (dispatch p k) s i).2.length ≤ 16000000 ∧
  Nxt A.F G H fun G' H' => StM K G' H' A p (clickBy (dispatch p k) s i).1 (log ++ (clickBy (dispatch p k) s i).2) ws → Q .non H'
def spAct (k : Nat) : Sp := fun vs H Q _ => vs.length = 3 ∧ ∃ (G : Hp) (A : SA) (p : SPage) (s : SState) (log : List SEntry) (ws : List Nat) (a : SAct), vs = [.ref A.a, .str (actS a), .int (idxI (actT a))] ∧ Same G H ∧ StM K G H A p s log ws ∧ PgW p ∧ okAct p a ∧ k + ws.length = p.items.length ∧ log.length + (actR p (clickBy (dispatch p k)) s a).2.length ≤ 16000000 ∧
  Nxt A.F G H fun G' H' => StM K G' H' A p (actR p (clickBy (dispatch p k)) s a).1 (log ++ (actR p (clickBy (dispatch p k)) s a).2) ws → Q .non H'
def spHeard (k : Nat) : Sp := fun vs H Q _ => vs.length = 3 ∧ ∃ (G : Hp) (A : SA) (p : SPage) (t : STurn) (log : List SEntry) (ws : List Nat) (i : Nat) (b : Bool), vs = [.ref A.a, .int (i : Nat), .str (wayS b)] ∧ Same G H ∧ StM K G H A p t.state (log ++ t.log) ws ∧ PgW p ∧ t.flags.stopped = false ∧ t.flags.halted = false ∧ k + ws.length = p.items.length ∧
  log.length + ((listenersOf p i b).foldl (hear p (clickBy (dispatch p k))) t).log.length ≤ 16000000 ∧ ∀ q words, Nxt A.F G H fun G' H' => StM K G' H' A p ((listenersOf p i b).foldl (hear p (clickBy (dispatch p k))) t).state (log ++ ((listenersOf p i b).foldl (hear p (clickBy (dispatch p k))) t).log) ws →
    G' q = some (.lst (words.map V.str)) → FlR t.flags.cancelled words ((listenersOf p i b).foldl (hear p (clickBy (dispatch p k))) t).flags → Q (.ref q) H'
def spDisp (k : Nat) : Sp := fun vs H Q _ => vs.length = 2 ∧ ∃ (G : Hp) (A : SA) (p : SPage) (s : SState) (l0 log : List SEntry) (ws : List Nat) (i : Nat), vs = [.ref A.a, .int (i : Nat)] ∧ Same G H ∧ StM K G H A p s (log ++ l0) ws ∧ PgW p ∧ i < p.items.length ∧ k + ws.length = p.items.length ∧
  log.length + ((wayOf p i).foldl (visit p (clickBy (dispatch p k))) ⟨s, quiet, l0⟩).log.length ≤ 16000000 ∧ Nxt A.F G H fun G' H' => StM K G' H' A p ((wayOf p i).foldl (visit p (clickBy (dispatch p k))) ⟨s, quiet, l0⟩).state (log ++ ((wayOf p i).foldl (visit p (clickBy (dispatch p k))) ⟨s, quiet, l0⟩).log) ws →
    Q (.bl ((wayOf p i).foldl (visit p (clickBy (dispatch p k))) ⟨s, quiet, l0⟩).flags.cancelled) H'
def beforeL (p : SPage) (s : SState) (j : Nat) : List Nat := if canTick (kindAt p j) then (groupL p j).filter (isOn s) else []
def spBack : Sp := fun vs H Q _ => vs.length = 4 ∧ ∃ (G : Hp) (A : SA) (p : SPage) (old s : SState) (log : List SEntry) (ws : List Nat) (j : Nat) (b : Addr), vs = [.ref A.a, .int (j : Nat), .str (kwS (kindAt p j)), .ref b] ∧ Same G H ∧ StM K G H A p s log ws ∧ PgW p ∧ j < p.items.length ∧ G b = some (.lst (natsV (beforeL p old j))) ∧ log.length ≤ 16000000 ∧
  Nxt A.F G H fun G' H' => StM K G' H' A p (takeBack p old s j) (log ++ [.cancel j]) ws → Q .non H'
def spActv (k : Nat) : Sp := fun vs H Q _ => vs.length = 3 ∧ ∃ (G : Hp) (A : SA) (p : SPage) (s : SState) (log : List SEntry) (ws : List Nat) (j : Nat), vs = [.ref A.a, .int (j : Nat), .str (kwS (kindAt p j))] ∧ Same G H ∧ StM K G H A p s log ws ∧ PgW p ∧ j < p.items.length ∧ activates (kindAt p j) = true ∧ k + ws.length = p.items.length ∧
  log.length + (activate p (clickBy (dispatch p k)) s j).2.length ≤ 16000000 ∧ Nxt A.F G H fun G' H' => StM K G' H' A p (activate p (clickBy (dispatch p k)) s j).1 (log ++ (activate p (clickBy (dispatch p k)) s j).2) ws → Q .non H'
end
section
variable {K : PySem.W.Frag} {G H : Hp} {Q : VK} {E : XK} {A : SA} {p : SPage} {s : SState} {log : List SEntry} {ws : List Nat} {i k : Nat}
theorem u_tick [q : Cur G H] (m : StM K G H A p s log ws) (w : PgW p) (hi : i < p.items.length) (hc : canTick (kindAt p i) = true) (kk : Nxt A.F G H fun G' H' => StM K G' H' A p (tickOn p s i) log ws → Q .non H') : spTick K [.ref A.a, .int (i : Nat)] H Q E := ⟨rfl, G, A, p, s, log, ws, i, rfl, q.s, m, w, hi, hc, kk⟩
theorem u_click [q : Cur G H] (m : StM K G H A p s log ws) (w : PgW p) (hi : i < p.items.length) (hk : k + ws.length = p.items.length + 1) (hl : log.length + (dispatch p k s i).2.length ≤ 16000000) (kk : Nxt A.F G H fun G' H' => StM K G' H' A p (dispatch p k s i).1 (log ++ (dispatch p k s i).2) ws → Q .non H') : spClick K k [.ref A.a, .int (i : Nat)] H Q E := ⟨rfl, G, A, p, s, log, ws, i, rfl, q.s, m, w, hi, hk, hl, kk⟩
theorem u_byPage [q : Cur G H] (m : StM K G H A p s log ws) (w : PgW p) (hi : i < p.items.length) (hk : k + ws.length = p.items.length) (hl : log.length + (clickBy (dispatch p k) s i).2.length ≤ 16000000) (kk : Nxt A.F G H fun G' H' => StM K G' H' A p (clickBy (dispatch p k) s i).1 (log ++ (clickBy (dispatch p k) s i).2) ws → Q .non H') : spByPage K k [.ref A.a, .int (i : Nat)] H Q E := ⟨rfl, G, A, p, s, log, ws, i, rfl, q.s, m, w, hi, hk, hl, kk⟩
end
/-- for some fuel, so much at most -/
def upTo (b : Nat) (sp : Nat → Sp) : Sp := fun vs H Q E => ∃ k, k ≤ b ∧ sp k vs H Q E
theorem upTo_len {b n : Nat} {sp : Nat → Sp} (h : ∀ k vs H Q E, sp k vs H Q E → vs.length = n) : ∀ vs H Q E, upTo b sp vs H Q E → vs.length = n := fun _ _ _ _ ⟨k, _, q⟩ => h k _ _ _ _ q
theorem isLabel_c {k : SKind} (h : isLabel k = true) : ∃ o, k = .label o := by
  cases k with
  | label o => exact ⟨o, rfl⟩
  | _ => cases h
theorem w_u {g : Int → V} {i : Int} {H : Hp} {Q : VK} (k : Q (g i) H) : rU g (.int i) H Q := ⟨i, rfl, k⟩
theorem cut_last (l : List V) (x : V) : cutV (l ++ [x]) none (some (-1)) = l := by
  have e : HT.sIx (l ++ [x]).length (l ++ [x]).length (some (-1)) = l.length := by
    show (if (-1 : Int) < 0 then ((-1 : Int) + ((l ++ [x]).length : Int)).toNat else (0 : Nat)) = _
    rw [if_pos (by decide), List.length_append]
    show ((-1 : Int) + ((l.length + 1 : Nat) : Int)).toNat = _
    omega
  unfold cutV
  rw [HT.sIx_none, e, List.drop_zero, Nat.sub_zero]
  simp
end Ck
namespace Ck
open PySem PySem.Spec PyProof.Rows L2
open He (ga ma fAd)
section
variable {P : Program} {w : World} {K : PySem.W.Frag} {mg : Str → Option Value} {base : Heap}
open R7253f.Spec (Units units isName indexIn itemNames kindAt sameGroup isControl canTick isCheck pathOf targetOf controlOf activates tickOn tickOff turnOff isOn isOff isBusy dispatch clickBy userClick takeBack onInGroup activate finish act hear visit listenersOf wayOf quiet)

theorem grp_mem {p : SPage} {i j : Nat} {g : R7253f.Spec.Units} (h : kindAt p i = .radio g) (hj : j < p.items.length) : j ∈ groupL p i ↔ sameGroup p i j = true := by
  rw [group_radio h, List.mem_filter, List.mem_range]
  exact ⟨fun x => x.2, fun x => ⟨hj, x⟩⟩
theorem grp_lt {p : SPage} {i j : Nat} (hi : i < p.items.length) (h : j ∈ groupL p i) : j < p.items.length := by
  unfold groupL at h
  split at h
  · rw [List.mem_singleton.mp h]; exact hi
  · exact List.mem_range.mp (List.mem_filter.mp h).1
theorem grp_len {p : SPage} (w : PgW p) (i : Nat) : (groupL p i).length ≤ 8 := by
  unfold groupL
  split
  · show 1 ≤ 8; omega
  · have := List.length_filter_le (fun j => sameGroup p i j) (List.range p.items.length)
    rw [List.length_range] at this
    have := w.len
    omega
theorem has_State_tick (T : Txt K mg) : Has P w K mg base CX0 3 ("State", some "tick") ["self", "item"] (spTick K) := by
  refine mk_has (d := d_State_tick) T 24 rfl rfl rfl sc_State_tick (fun _ _ _ _ _ _ us hl => match us, hl with | [_, _], _ => rfl) (fun vs H Q E h => h.1) (fun cdv A outer s H vs Q E hr h => ?_)
  refine ⟨_, PSs.nox (Evl.pss_cut (ps_if (pt_cmpR op_eq (pmeth (pe_fld (pv 0) rfl) (cl_Page T) (me_Page_kind T) (has_Page_kind T) (hr.mono (by omega)) pass0 (pa_cons (pv 1) pa_nil)) (pgs (gs_RADIO T) rfl) (nomark _)) (pss_one (ps_for PassesOwn.never rfl (pi_list (pmeth (pe_fld (pv 0) rfl) (cl_Page T) (me_Page_group_of T) (has_Page_group_of T) (hr.mono (by omega)) pass0 (pa_cons (pv 1) pa_nil))) (pg_name (i := 2) sc_State_tick.nd rfl (Or.inl rfl)) (pss_one (ps_asg pe_bl (pg_sub (pe_fld (pv 0) rfl) (pv 2) set_list))))) pss_nil)
 (pss_one (ps_asg pe_bl (pg_sub (pe_fld (pv 0) rfl) (pv 1) set_list)))), ?_⟩
  obtain ⟨_, G, A, p, s, log, ws, i, rfl, gs, m, wf, hi, hct, kk⟩ := h
  have : Cur G H := ⟨gs⟩
  obtain ⟨gl, wl, x1, x2, x3⟩ := m.x
  have pgH : PgH K H A.pa p := m.pg.mono gs
  have ⟨pdx, tl, ol, dl, ll, ts, ls, ins, hp⟩ := pgH
  obtain ⟨x, hx⟩ := item_at hi
  have hk := kind_at hx
  have hp8 := wf.len
  have hgl := grp_len wf i
  refine w_cut (fun σ' H' => ∃ (G' : Hp) (on' : List Bool) (v : Option V), σ' = [some (.ref A.a), some (.int (i : Nat)), v] ∧ Stp [A.ol] G H G' H' ∧ Mu G' H' A.ol (.lst (on'.map V.bl)) ∧ on'.length = p.items.length ∧ on'.set i true = (tickOn p s i).on) ?_ ?_
  · walk_at "w"
    refine u_fld x1.h (cl_State T) (na_State_page T) fl_State_page ?_
    walk_at "w"
    refine u_mth ins fm_Page_kind ?_
    walk_at "w"
    refine u_kind pgH hx ?_
    walk_at "w"
    refine w_ite (fun hb => ?_) (fun hb => ?_)
    · obtain ⟨g, hg⟩ := kwS_radio.mp (of_decide_eq_true hb)
      rw [hg] at hk
      walk_at "w"
      refine u_fld x1.h (cl_State T) (na_State_page T) fl_State_page ?_
      walk_at "w"
      refine u_mth ins fm_Page_group_of ?_
      walk_at "w"
      refine u_group pgH hi hct (by omega) fun q G1 H1 st1 _ _ hq => ?_
      walk_at "w"
      have m1 := m.nil st1
      obtain ⟨gl1, wl1, y1, y2, y3⟩ := m1.x
      refine u_iL (SqL.of (on hq)) ?_
      refine u_for (walk_list (xs := (groupL p i).map fun (j : Nat) => V.int (j : Nat))) (fun k σ H' => ∃ G' v, σ = [some (.ref A.a), some (.int (i : Nat)), v] ∧ Stp [A.ol] G1 H1 G' H' ∧ Mu G' H' A.ol (.lst ((setF s.on ((groupL p i).take k)).map V.bl))) ?_ (fun k σ H' _ ⟨G', _, _, st, _⟩ => SqL.of (st.s _ _ (st.g _ _ hq))) ?_ ?_
      · exact ⟨G1, none, rfl, Stp.refl st1.s, m1.o⟩
      · rintro k v σ H2 H2' hkl ⟨G2, v0, rfl, st2, mo2⟩ ⟨rfl, hv⟩
        have : Cur G2 H2' := ⟨st2.s⟩
        obtain ⟨j, hj, rfl⟩ := nats_at hv
        have hjn := grp_lt hi (List.mem_of_getElem? hj)
        have a2 := st2.mu y1 (by simpa using m1.ao)
        walk_at "w"
        refine u_fld a2.h (cl_State T) (na_State_on T) fl_State_on ?_
        walk_at "w"
        refine u_set mo2 (ixN_nat (by rw [List.length_map, setF_len, m.w.on]; exact hjn)) fun G3 H3 st3 _ _ mo3 => ?_
        walk_at "w"
        refine ⟨G3, _, rfl, st2.trans st3, ?_⟩
        rw [setF_snoc hj, List.map_set]; exact mo3
      · rintro σ H2 ⟨G2, v0, rfl, st2, mo2⟩
        rw [List.length_map, List.take_length] at mo2
        refine ⟨G2, _, _, rfl, st1.nil.trans st2, mo2, by rw [setF_len, m.w.on], ?_⟩
        exact tick_on hct m.w.on _ fun j hj _ => grp_mem hk hj
    · walk_at "w"
      refine ⟨G, s.on, none, rfl, Stp.refl gs, m.o, m.w.on, ?_⟩
      have e := tick_on hct m.w.on [] fun j hj hne => by
        have : sameGroup p i j = false := by
          unfold sameGroup
          rw [hk]
          cases hkk : x.kind with
          | radio g => exact absurd (kwS_radio.mpr ⟨g, hkk⟩) (of_decide_eq_false hb)
          | _ => rfl
        simp [this]
      exact e
  rintro σ1 H1 ⟨G1, on', v, rfl, st1, mo, hol, heq⟩
  have : Cur G1 H1 := ⟨st1.s⟩
  have y1 := st1.mu x1 (by simpa using m.ao)
  walk_at "w"
  refine u_fld y1.h (cl_State T) (na_State_on T) fl_State_on ?_
  walk_at "w"
  refine u_set mo (ixN_nat (by rw [List.length_map, hol]; exact hi)) fun G2 H2 st2 _ _ mo2 => ?_
  walk_at "w"
  refine kk.go (StM.wO (st1.trans st2)) ?_
  rw [tick_eq hct, ← heq]
  refine m.putO (st1.trans st2) ?_ (by rw [List.length_set, hol])
  rw [List.map_set]; exact mo2
theorem has_State_by_page (T : Txt K mg) {l bd : Nat} (hc : Has P w K mg base CX0 l ("State", some "click") ["self", "item"] (upTo bd (spClick K))) (hl : 5 ≤ l) : Has P w K mg base CX0 (l + 1) ("State", some "by_page") ["self", "item"] (upTo bd (spByPage K)) := by
  refine mk_has (d := d_State_by_page) T 26 rfl rfl rfl sc_State_by_page (fun _ _ _ _ _ _ us hl => match us, hl with | [_, _], _ => rfl) (fun vs H Q E h => upTo_len (fun _ _ _ _ _ h => h.1) vs H Q E h) (fun cdv A outer s H vs Q E hr h => ?_)
  refine ⟨_, PSs.nox (pss_one (ps_if (PW.pt (pw_and (pt_not (pt_val (pe_ix ix_list (pe_fld (pv 0) rfl) (pv 1) (fun _ _ => rfl)))) (pw_and1 (pt_cmpR op_notIn_seq (pv 1) (pe_fld (pv 0) rfl) (by rfl))))) (pss_cons (ps_fld (pv 0) (pe_op op_cat (pe_fld (pv 0) rfl) (pe_lst (pa_cons (pv 1) pa_nil))) rfl)
 (pss_cons (ps_expr (pmeth (pv 0) (cl_State T) (me_State_click T) hc (hr.mono (by omega)) pass0 (pa_cons (pv 1) pa_nil)))
 (pss_one (ps_fld (pv 0) (pe_slice sl_list (pe_fld (pv 0) rfl) po_none (po_some (pe_un un_neg pe_int))) rfl)))) pss_nil)), ?_⟩
  obtain ⟨k, hkb, _, G, A, p, s, log, ws, i, rfl, gs, m, wf, hi, hkw, hlen, kk⟩ := h
  have : Cur G H := ⟨gs⟩
  obtain ⟨gl, wl, x1, x2, x3⟩ := m.x
  have hoff : s.off.getD i false = isOff s i := rfl
  have hbusy : isBusy s i = ws.contains i := m.w.bs i hi
  have hwl : ws.length ≤ 8 := by have := wf.len; omega
  walk_at "w"
  refine u_fld x1.h (cl_State T) (na_State_disabled T) fl_State_disabled ?_
  walk_at "w"
  refine w_ixL m.d.sqL (atI_nat (bls_at (by rw [m.w.off]; exact hi))) ?_
  walk_at "w"
  rw [hoff]
  cases ho : isOff s i with
  | true =>
    refine iteF ?_
    walk_at "w"
    have e : clickBy (dispatch p k) s i = (s, []) := by unfold clickBy; rw [ho]; rfl
    rw [e] at kk
    exact kk.go (Stp.refl gs) (by rw [List.append_nil]; exact m)
  | false =>
    refine iteT ?_
    walk_at "w"
    refine u_fld x1.h (cl_State T) (na_State_within T) fl_State_within ?_
    walk_at "w"
    refine u_in (.inl (SqL.of (on x3))) rfl (flat_nat _) ?_
    walk_at "w"
    rw [show (if true = true then !inV (.int (i : Nat)) (natsV ws) else inV (.int (i : Nat)) (natsV ws)) = !ws.contains i from congrArg (!·) (inV_nat i ws)]
    cases hc : ws.contains i with
    | true =>
      refine iteF ?_
      walk_at "w"
      have e : clickBy (dispatch p k) s i = (s, []) := by unfold clickBy; rw [ho, hbusy, hc]; rfl
      rw [e] at kk
      exact kk.go (Stp.refl gs) (by rw [List.append_nil]; exact m)
    | false =>
      refine iteT ?_
      walk_at "w"
      have e : clickBy (dispatch p k) s i = ({ (dispatch p k { s with busy := s.busy.set i true } i).1 with busy := (dispatch p k { s with busy := s.busy.set i true } i).1.busy.set i false }, (dispatch p k { s with busy := s.busy.set i true } i).2) := by
        unfold clickBy
        rw [ho, hbusy, hc]; rfl
      rw [e] at kk hlen
      have hni : i ∉ ws := fun h => by
        have := List.contains_iff_mem.mpr h
        rw [hc] at this; cases this
      have w1 : StW p { s with busy := s.busy.set i true } (ws ++ [i]) := by
        refine ⟨m.w.on, m.w.off, m.w.gone, by show (s.busy.set i true).length = _; rw [List.length_set]; exact m.w.busy, fun j hj => ?_, ?_, fun j hj => ?_⟩
        · show (s.busy.set i true).getD j false = _
          rw [List.getD_eq_getElem?_getD, List.getElem?_set]
          by_cases e : i = j
          · subst e
            rw [if_pos rfl, if_pos (by rw [m.w.busy]; exact hi)]
            simp
          · have := m.w.bs j hj
            rw [List.getD_eq_getElem?_getD] at this
            rw [if_neg e, this]
            simp [Ne.symm e]
        · rw [List.nodup_append]
          exact ⟨m.w.nd, by simp, fun a ha b hb => by rw [List.mem_singleton.mp hb]; exact fun e => hni (e ▸ ha)⟩
        · rcases List.mem_append.mp hj with h | h
          · exact m.w.lt j h
          · rw [List.mem_singleton.mp h]; exact hi
      refine u_fld x1.h (cl_State T) (na_State_within T) fl_State_within ?_
      walk_at "w"
      refine u_lstK (by show 1 ≤ sizeLine; decide) fun q1 G1 H1 s1 _ _ hq1 => ?_
      walk_at "w"
      refine u_cat (on x3) (on hq1) (by show (natsV ws).length + 1 ≤ _; unfold natsV; rw [List.length_map]; exact lst_le (by omega)) fun q2 G2 H2 s2 _ _ hq2 => ?_
      walk_at "w"
      have s12 := s1.trans s2
      refine u_sfld (s12.mu x1 List.not_mem_nil) (cl_State T) (na_State_within T) (by show 6 < 1000; decide) fun G3 H3 s3 _ _ x13 => ?_
      walk_at "w"
      rw [fp_State_within] at x13
      have m2 := m.nil s12
      have hq2' : G3 q2 = some (.lst (natsV (ws ++ [i]))) := by
        have e : natsV ws ++ [V.int (i : Nat)] = natsV (ws ++ [i]) := by unfold natsV; rw [List.map_append]; rfl
        rw [← e]; exact s3.g _ _ hq2
      have m3 : StM K G3 H3 A p { s with busy := s.busy.set i true } log (ws ++ [i]) := m2.putA s3 x13 (s3.g _ _ (s12.g _ _ x2)) hq2' rfl rfl w1
      refine u_mth x13.h fm_State_click ?_
      walk_at "w"
      refine ⟨k, hkb, ?_⟩
      refine u_click m3 wf hi (by rw [List.length_append]; show k + (ws.length + 1) = _; omega) hlen fun G4 H4 s4 _ _ m4 => ?_
      walk_at "w"
      obtain ⟨gl4, wl4, y1, y2, y3⟩ := m4.x
      generalize hr : dispatch p k { s with busy := s.busy.set i true } i = r at *
      refine u_fld y1.h (cl_State T) (na_State_within T) fl_State_within ?_
      walk_at "w"
      refine w_u ?_
      walk_at "w"
      refine u_slL (SqL.of (on (H := H4) y3)) fun q5 G5 H5 s5 _ _ hq5 => ?_
      walk_at "w"
      refine u_sfld (s5.mu y1 List.not_mem_nil) (cl_State T) (na_State_within T) (by show 6 < 1000; decide) fun G6 H6 s6 _ _ y16 => ?_
      walk_at "w"
      rw [fp_State_within] at y16
      have hq5' : G6 q5 = some (.lst (natsV ws)) := by
        have e : natsV (ws ++ [i]) = natsV ws ++ [V.int (i : Nat)] := by unfold natsV; rw [List.map_append]; rfl
        rw [e, cut_last] at hq5
        exact s6.g _ _ hq5
      have w2 : StW p { r.1 with busy := r.1.busy.set i false } ws := by
        refine ⟨m4.w.on, m4.w.off, m4.w.gone, by show (r.1.busy.set i false).length = _; rw [List.length_set]; exact m4.w.busy, fun j hj => ?_, m.w.nd, m.w.lt⟩
        show (r.1.busy.set i false).getD j false = _
        rw [List.getD_eq_getElem?_getD, List.getElem?_set]
        by_cases e : i = j
        · subst e
          rw [if_pos rfl, if_pos (by rw [m4.w.busy]; exact hi), hc]; rfl
        · have := m4.w.bs j hj
          rw [List.getD_eq_getElem?_getD] at this
          rw [if_neg e, this]
          simp [Ne.symm e]
      have m6 := (m4.nil s5).putA (s' := { r.1 with busy := r.1.busy.set i false }) (ws' := ws) s6 y16 (s6.g _ _ (s5.g _ _ y2)) hq5' rfl rfl w2
      exact kk.go ((((s12.nil.trans (StM.wA s3)).trans s4).trans s5.nil).trans (StM.wA s6)) m6
theorem has_State_act (T : Txt K mg) {l bd : Nat} (hc : Has P w K mg base CX0 l ("State", some "click") ["self", "item"] (upTo bd (spClick K))) (hl : 5 ≤ l) : Has P w K mg base CX0 (l + 2) ("State", some "act") ["self", "action", "target"] (upTo bd (spAct K)) := by
  refine mk_has (d := d_State_act) T 30 rfl rfl rfl sc_State_act (fun _ _ _ _ _ _ us hl => match us, hl with | [_, _, _], _ => rfl) (fun vs H Q E h => upTo_len (fun _ _ _ _ _ h => h.1) vs H Q E h) (fun cdv A outer s H vs Q E hr h => ?_)
  refine ⟨_, PSs.nox (pss_one (ps_if (pt_cmpR op_eq (pv 1) pe_str (nomark _)) (pss_one (ps_expr (pmeth (pv 0) (cl_State T) (me_State_by_page T) (has_State_by_page T hc hl) (hr.mono (by omega)) pass0 (pa_cons (pv 2) pa_nil)))) (pss_one (ps_if (pt_cmpR op_eq (pv 1) pe_str (nomark _)) (pss_one (ps_expr (pmeth (pv 0) (cl_State T) (me_State_tick T) (has_State_tick T) (hr.mono (by omega)) pass0 (pa_cons (pv 2) pa_nil)))) (pss_one (ps_if (pt_cmpR op_eq (pv 1) pe_str (nomark _)) (pss_one (ps_asg pe_bl (pg_sub (pe_fld (pv 0) rfl) (pv 2) set_list))) (pss_one (ps_if (PW.pt (pw_or (pt_cmpR op_eq (pv 1) pe_str (nomark _)) (pw_or1 (pt_cmpR op_eq (pv 1) pe_str (nomark _))))) (pss_one (ps_asg (pe_cmpR op_eq (pv 1) pe_str (nomark _)) (pg_sub (pe_fld (pv 0) rfl) (pv 2) set_list))) pss_nil)))))))), ?_⟩
  obtain ⟨k, hkb, _, G, A, p, s, log, ws, a, rfl, gs, m, wf, hok, hkw, hlen, kk⟩ := h
  have : Cur G H := ⟨gs⟩
  obtain ⟨gl, wl, x1, x2, x3⟩ := m.x
  cases a with
  | prevent =>
    walk_at "w"
    refine iteF ?_
    walk_at "w"
    refine iteF ?_
    walk_at "w"
    refine iteF ?_
    walk_at "w"
    refine iteF ?_
    walk_at "w"
    refine iteF ?_
    walk_at "w"
    exact kk.go (Stp.refl gs) (by rw [show (actR p (clickBy (dispatch p k)) s .prevent).2 = [] from rfl, List.append_nil]; exact m)
  | stop =>
    walk_at "w"
    refine iteF ?_
    walk_at "w"
    refine iteF ?_
    walk_at "w"
    refine iteF ?_
    walk_at "w"
    refine iteF ?_
    walk_at "w"
    refine iteF ?_
    walk_at "w"
    exact kk.go (Stp.refl gs) (by rw [show (actR p (clickBy (dispatch p k)) s .stop).2 = [] from rfl, List.append_nil]; exact m)
  | halt =>
    walk_at "w"
    refine iteF ?_
    walk_at "w"
    refine iteF ?_
    walk_at "w"
    refine iteF ?_
    walk_at "w"
    refine iteF ?_
    walk_at "w"
    refine iteF ?_
    walk_at "w"
    exact kk.go (Stp.refl gs) (by rw [show (actR p (clickBy (dispatch p k)) s .halt).2 = [] from rfl, List.append_nil]; exact m)
  | click i =>
    have hok : i < p.items.length := hok
    walk_at "w"
    refine iteT ?_
    walk_at "w"
    refine u_mth x1.h fm_State_by_page ?_
    walk_at "w"
    exact ⟨k, hkb, u_byPage m wf hok hkw hlen kk⟩
  | tick i =>
    walk_at "w"
    refine iteF ?_
    walk_at "w"
    refine iteT ?_
    walk_at "w"
    refine u_mth x1.h fm_State_tick ?_
    walk_at "w"
    refine u_tick m wf hok.1 hok.2 ?_
    rw [show (actR p (clickBy (dispatch p k)) s (.tick i)).2 = [] from rfl, List.append_nil] at kk
    exact kk
  | untick i =>
    rw [show (actR p (clickBy (dispatch p k)) s (.untick i)).2 = [] from rfl, List.append_nil, show (actR p (clickBy (dispatch p k)) s (.untick i)).1 = tickOff p s i from rfl, tickOff_eq hok.2] at kk
    walk_at "w"
    refine iteF ?_
    walk_at "w"
    refine iteF ?_
    walk_at "w"
    refine iteT ?_
    walk_at "w"
    refine u_fld x1.h (cl_State T) (na_State_on T) fl_State_on ?_
    walk_at "w"
    refine u_set m.o (ixN_nat (by rw [List.length_map, m.w.on]; exact hok.1)) fun G2 H2 st2 _ _ mo2 => ?_
    walk_at "w"
    refine kk.go (StM.wO st2) (m.putO st2 ?_ (by rw [List.length_set, m.w.on]))
    rw [List.map_set]; exact mo2
  | disable i =>
    rw [show (actR p (clickBy (dispatch p k)) s (.disable i)).2 = [] from rfl, List.append_nil, show (actR p (clickBy (dispatch p k)) s (.disable i)).1 = turnOff p s i true from rfl, turnOff_eq hok.2] at kk
    walk_at "w"
    refine iteF ?_
    walk_at "w"
    refine iteF ?_
    walk_at "w"
    refine iteF ?_
    walk_at "w"
    refine iteT ?_
    walk_at "w"
    refine u_fld x1.h (cl_State T) (na_State_disabled T) fl_State_disabled ?_
    walk_at "w"
    refine u_set m.d (ixN_nat (by rw [List.length_map, m.w.off]; exact hok.1)) fun G2 H2 st2 _ _ mo2 => ?_
    walk_at "w"
    refine kk.go (StM.wD st2) (m.putD st2 ?_ (by rw [List.length_set, m.w.off]))
    rw [List.map_set]; exact mo2
  | enable i =>
    rw [show (actR p (clickBy (dispatch p k)) s (.enable i)).2 = [] from rfl, List.append_nil, show (actR p (clickBy (dispatch p k)) s (.enable i)).1 = turnOff p s i false from rfl, turnOff_eq hok.2] at kk
    walk_at "w"
    refine iteF ?_
    walk_at "w"
    refine iteF ?_
    walk_at "w"
    refine iteF ?_
    walk_at "w"
    refine iteF ?_
    walk_at "w"
    refine iteT ?_
    walk_at "w"
    refine u_fld x1.h (cl_State T) (na_State_disabled T) fl_State_disabled ?_
    walk_at "w"
    refine u_set m.d (ixN_nat (by rw [List.length_map, m.w.off]; exact hok.1)) fun G2 H2 st2 _ _ mo2 => ?_
    walk_at "w"
    refine kk.go (StM.wD st2) (m.putD st2 ?_ (by rw [List.length_set, m.w.off]))
    rw [List.map_set]; exact mo2
theorem flat_str : ∀ l : List Str, (l.map V.str).all flatV = true
  | [] => rfl
  | j :: l => by rw [List.map_cons, List.all_cons, flat_str l]; rfl
theorem StM.kept {K : PySem.W.Frag} {G H : Hp} {A : SA} {p : SPage} {s : SState} {log : List SEntry} {ws : List Nat} {f : Addr} {o : HO} (m : StM K G H A p s log ws) (mf : Mu G H f o) (hf : f ∉ A.F) (gs : Same G H) : StM K (upd G f o) H A p s log ws := by
  have e := Same.keep mf.h gs
  have ne : ∀ {x : Addr}, x ∈ A.F → x ≠ f := fun hx z => hf (z ▸ hx)
  obtain ⟨⟨gl, wl, x1, x2, x3⟩, pg, o, d, ⟨lv, l1, l2⟩, od, ol, dl, w⟩ := m
  exact ⟨⟨gl, wl, x1.kept (ne (by simp)), e _ _ x2, e _ _ x3⟩, pg.mono e, o.kept (ne (by simp)), d.kept (ne (by simp)), ⟨lv, l1.kept (ne (by simp)), Paired.mapP l2 fun _ _ => EnA.mono e⟩, od, ol, dl, w⟩
theorem u_sorted {K : PySem.W.Frag} {G H : Hp} {Q : VK} [q : Cur G H] {a : Addr} {ns m : List Int} (h : SqL K H a (ns.map V.int)) (hm : m.Perm ns) (hs : m.Pairwise (· ≤ ·)) (k : ∀ p, Nxt [] G H fun G' H' => G' p = some (.lst (m.map V.int)) → Q (.ref p) H') : rSortedI K [.ref a] H Q :=
  ⟨a, ns, rfl, h, fun ns' p hp hs' hn => by
    rw [sorted_uniq (hp.trans hm.symm) hs' hs]
    exact (k p).go (Stp.lay q.s hn) upd_same⟩
theorem way_eq (a b : Bool) : decide (V.str (wayS a) = V.str (wayS b)) = (a == b) := by cases a <;> cases b <;> decide +kernel
theorem F_ne {A : SA} {f : Addr} {K : PySem.W.Frag} {G H : Hp} {p : SPage} {s : SState} {log : List SEntry} {ws : List Nat} (m : StM K G H A p s log ws) (h : H f = none) : f ∉ A.F := by
  obtain ⟨gl, wl, x1, _⟩ := m.x
  obtain ⟨lv, l1, _⟩ := m.l
  have e1 := x1.upd_ne' h
  have e2 := m.o.upd_ne' h
  have e3 := m.d.upd_ne' h
  have e4 := l1.upd_ne' h
  simp [Ne.symm e1, Ne.symm e2, Ne.symm e3, Ne.symm e4]
theorem has_State_heard (T : Txt K mg) {l bd : Nat} (hc : Has P w K mg base CX0 l ("State", some "click") ["self", "item"] (upTo bd (spClick K))) (hl : 5 ≤ l) : Has P w K mg base CX0 (l + 3) ("State", some "heard") ["self", "item", "way"] (upTo bd (spHeard K)) := by
  refine mk_has (d := d_State_heard) T 29 rfl rfl rfl sc_State_heard (fun _ _ _ _ _ _ us hl => match us, hl with | [_, _, _], _ => rfl) (fun vs H Q E h => upTo_len (fun _ _ _ _ _ h => h.1) vs H Q E h) (fun cdv A outer s H vs Q E hr h => ?_)
  refine ⟨_, PSs.nox (pss_cons (ps_set (i := 3) sc_State_heard.nd rfl (Or.inl rfl) (pe_lst pa_nil))
 (pss_cons (ps_set (i := 4) sc_State_heard.nd rfl (Or.inl rfl) (pe_fld (pe_fld (pv 0) rfl) rfl))
 (pss_cons (ps_for PassesOwn.never rfl (pi_range1 (by rfl) (fr_range T) (pa_cons (pe_callB c_len (by rfl) (fr_len T) PySem.boot_len (pa_cons (pv 4) pa_nil)) pa_nil)) (pg_name (i := 5) sc_State_heard.nd rfl (Or.inl rfl)) (pss_cons (ps_asg (pe_ix ix_list (pv 4) (pv 5) (fun _ _ => rfl)) (pg_tup rfl (pgs_cons (pg_name (i := 6) sc_State_heard.nd rfl (Or.inl rfl)) (pgs_cons (pg_name (i := 7) sc_State_heard.nd rfl (Or.inl rfl)) (pgs_cons (pg_name (i := 8) sc_State_heard.nd rfl (Or.inl rfl)) (pgs_cons (pg_name (i := 9) sc_State_heard.nd rfl (Or.inl rfl)) (pgs_cons (pg_name (i := 10) sc_State_heard.nd rfl (Or.inl rfl)) pgs_nil)))))))
 (pss_one (ps_if (PW.pt (pw_and (pt_cmpR op_eq (pv 6) (pv 1) (nomark _)) (pw_and (pt_cmpR op_eq (pv 7) (pv 2) (nomark _)) (pw_and (pt_cmpR op_notIn_seq (pv 5) (pe_fld (pv 0) rfl) (by rfl)) (pw_and1 (pt_cmpR op_notIn_seq pe_str (pv 3) (by rfl))))))) (pss_cons (ps_expr (pe_bm PySem.F.plainAttrs_list PySem.F.slot_list_append PySem.F.type_list_append mt_append (pe_fld (pv 0) rfl) (pa_cons (pe_tup (pa_cons (pgs (gs_HEAR T) rfl) (pa_cons (pv 5) pa_nil))) pa_nil)))
 (Evl.pss_cut (ps_if (pt_val (pv 10)) (pss_one (ps_fld (pv 0) (pe_callB cr_sortedI (by rfl) (fr_sorted T) (by decide +kernel) (pa_cons (pe_op op_cat (pe_fld (pv 0) rfl) (pe_lst (pa_cons (pv 5) pa_nil))) pa_nil)) rfl)) pss_nil)
 (pss_cons (ps_expr (pe_bm PySem.F.plainAttrs_list PySem.F.slot_list_append PySem.F.type_list_append mt_append (pv 3) (pa_cons (pv 8) pa_nil)))
 (pss_one (ps_expr (pmeth (pv 0) (cl_State T) (me_State_act T) (has_State_act T hc hl) (hr.mono (by omega)) pass0 (pa_cons (pv 8) (pa_cons (pv 9) pa_nil)))))))) pss_nil))))
 (pss_one (ps_ret (pv 3)))))), ?_⟩
  obtain ⟨k, hkb, _, G, A, p, t, log, ws, i, b, rfl, gs, m, wf, hst, hht, hkw, hlen, kk⟩ := h
  have : Cur G H := ⟨gs⟩
  obtain ⟨gl, wl, x1, x2, x3⟩ := m.x
  have ⟨pdx, tl, ol, dl, ll, ts, ls, ins, hp⟩ := m.pg
  have hll := hp.li.length
  have hl8 := wf.lis
  generalize hc0 : clickBy (dispatch p k) = c at *
  walk_at "w"
  refine u_lst (Nat.zero_le _) fun f G1 H1 st1 _ _ hf mf => ?_
  walk_at "w"
  have m1 := m.nil st1
  have x11 := st1.mu x1 List.not_mem_nil
  have hfF := F_ne m hf
  refine u_fld x11.h (cl_State T) (na_State_page T) fl_State_page ?_
  walk_at "w"
  refine u_fld (st1.s _ _ (st1.g _ _ ins)) (cl_Page T) (na_Page_listeners T) fl_Page_listeners ?_
  walk_at "w"
  refine u_lenL (st1.s.seq (st1.g.seq hp.l)) ?_
  walk_at "w"
  refine u_iR (by omega) ?_
  refine u_for (walk_range (n := ls.length)) (fun j σ H' => ∃ (G' : Hp) (words : List Str) (v5 v6 v7 v8 v9 va : Option V), σ = [some (.ref A.a), some (.int (i : Nat)), some (.str (wayS b)), some (.ref f), some (.ref ll), v5, v6, v7, v8, v9, va] ∧ Stp A.F G H G' H' ∧ StM K G' H' A p (hAt p c i b t j).state (log ++ (hAt p c i b t j).log) ws ∧ Mu G' H' f (.lst (words.map V.str)) ∧ FlR t.flags.cancelled words (hAt p c i b t j).flags ∧ words.length ≤ j) ?_ (fun _ _ _ _ _ => trivial) ?_ ?_
  · refine ⟨G1, [], none, none, none, none, none, none, rfl, st1.nil, m1, mf, ⟨?_, ?_, ?_⟩, Nat.le_refl _⟩
    · show t.flags.cancelled = (t.flags.cancelled || false); rw [Bool.or_false]
    · exact hst
    · exact hht
  · rintro j v σ H2 H2' hj ⟨G2, words, v5, v6, v7, v8, v9, va, rfl, st2, m2, mf2, fl2, hwl⟩ ⟨rfl, hv⟩
    obtain rfl := rng0 hv
    have : Cur G2 H2' := ⟨st2.s⟩
    have : Dn G G2 := ⟨st2.g⟩
    obtain ⟨vl, hvl⟩ : ∃ vl, ls[j]? = some vl := ⟨_, List.getElem?_eq_getElem hj⟩
    obtain ⟨l, hlj, tt, rfl, htt⟩ := pr_getL hp.li hvl
    have hjp : j < p.listeners.length := by omega
    have hwl' := wf.li l (List.mem_of_getElem? hlj)
    have hsucc := hAt_succ (p := p) (c := c) (i := i) (b := b) (t := t) hjp
    have hle := hAt_le (p := p) (c := c) (i := i) (b := b) (t := t) (show j + 1 ≤ p.listeners.length by omega)
    have hF : lisF p i b j = (l.item == i && l.capture == b) := by unfold lisF; rw [hlj]; rfl
    have hH : hear p c (hAt p c i b t j) j = if (hAt p c i b t j).flags.halted || (hAt p c i b t j).state.gone.getD j false then hAt p c i b t j else act p c { hAt p c i b t j with state := if l.once then { (hAt p c i b t j).state with gone := (hAt p c i b t j).state.gone.set j true } else (hAt p c i b t j).state, log := (hAt p c i b t j).log ++ [.hear j] } l.action := by
      unfold hear
      rw [hlj]
    generalize hAt p c i b t (j + 1) = T1 at *
    generalize hAt p c i b t j = T0 at *
    have same : T1 = T0 → ∀ (w5 w6 w7 w8 w9 wa : Option V), ∃ (G' : Hp) (words : List Str) (v5 v6 v7 v8 v9 va : Option V), [some (V.ref A.a), some (.int (i : Nat)), some (.str (wayS b)), some (.ref f), some (.ref ll), w5, w6, w7, w8, w9, wa] = [some (V.ref A.a), some (.int (i : Nat)), some (.str (wayS b)), some (.ref f), some (.ref ll), v5, v6, v7, v8, v9, va] ∧ Stp A.F G H G' H2' ∧ StM K G' H2' A p T1.state (log ++ T1.log) ws ∧ Mu G' H2' f (.lst (words.map V.str)) ∧ FlR t.flags.cancelled words T1.flags ∧ words.length ≤ j + 1 := by
      rintro rfl w5 w6 w7 w8 w9 wa
      exact ⟨G2, words, w5, w6, w7, w8, w9, wa, rfl, st2, m2, mf2, fl2, by omega⟩
    obtain ⟨gl2, wl2, y1, y2, y3⟩ := m2.x
    walk_at "w"
    refine w_ixL (st2.s.seq (st2.g.seq hp.l)) (atI_nat hvl) ?_
    walk_at "w"
    refine u_gt (onT htt) rfl ?_
    walk_at "w"
    refine w_ite (fun hb1 => ?_) (fun hb1 => ?_)
    rotate_left
    · walk_at "w"
      have e : lisF p i b j = false := by
        rw [hF, Bool.and_eq_false_iff]
        left
        have := of_decide_eq_false hb1
        simp only [beq_eq_false_iff_ne]
        exact fun z => this (by rw [z])
      exact same (by rw [hsucc]; unfold hStep; rw [if_neg (by rw [e]; decide)]) _ _ _ _ _ _
    have hb1 : l.item = i := by have := V.int.inj (of_decide_eq_true hb1); omega
    walk_at "w"
    rw [way_eq]
    refine w_ite (fun hb2 => ?_) (fun hb2 => ?_)
    rotate_left
    · walk_at "w"
      have e : lisF p i b j = false := by rw [hF, hb2, Bool.and_false]
      exact same (by rw [hsucc]; unfold hStep; rw [if_neg (by rw [e]; decide)]) _ _ _ _ _ _
    have e : lisF p i b j = true := by rw [hF, hb2, hb1]; simp
    have hsucc : T1 = hear p c T0 j := by rw [hsucc]; unfold hStep; rw [if_pos e]
    rw [hH] at hsucc
    walk_at "w"
    refine u_fld y1.h (cl_State T) (na_State_gone T) fl_State_gone ?_
    walk_at "w"
    refine u_in (.inl (SqL.of (on y2))) rfl (flat_nat _) ?_
    walk_at "w"
    have hgl : j < T0.state.gone.length := by rw [m2.w.gone]; exact hjp
    rw [show (if true = true then !inV (.int (j : Nat)) (natsV (goneL T0.state.gone)) else inV (.int (j : Nat)) (natsV (goneL T0.state.gone))) = !T0.state.gone.getD j false from congrArg (!·) ((inV_nat j _).trans (gone_has hgl))]
    refine w_ite (fun hb3 => ?_) (fun hb3 => ?_)
    rotate_left
    · walk_at "w"
      have e3 : T0.state.gone.getD j false = true := by simpa using hb3
      exact same (by rw [hsucc, e3, Bool.or_true]; rfl) _ _ _ _ _ _
    have hb3 : T0.state.gone.getD j false = false := by simpa using hb3
    walk_at "w"
    refine u_in (.inl mf2.sqL) rfl (flat_str _) ?_
    walk_at "w"
    rw [show (if true = true then !inV (.str "halt") (words.map V.str) else inV (.str "halt") (words.map V.str)) = !T0.flags.halted from congrArg (!·) fl2.h.symm]
    refine w_ite (fun hb4 => ?_) (fun hb4 => ?_)
    rotate_left
    · walk_at "w"
      have e4 : T0.flags.halted = true := by simpa using hb4
      exact same (by rw [hsucc, e4, Bool.true_or]; rfl) _ _ _ _ _ _
    have hb4 : T0.flags.halted = false := by simpa using hb4
    rw [hb3, hb4] at hsucc
    have hsucc : T1 = act p c { T0 with state := if l.once then { T0.state with gone := T0.state.gone.set j true } else T0.state, log := T0.log ++ [.hear j] } l.action := hsucc
    obtain ⟨s1, hs1⟩ : ∃ s1, s1 = (if l.once then { T0.state with gone := T0.state.gone.set j true } else T0.state) := ⟨_, rfl⟩
    rw [act_eq] at hsucc
    have hsucc : T1 = ⟨(actR p c s1 l.action).1, actF T0.flags l.action, T0.log ++ [R7253f.Spec.Entry.hear j] ++ (actR p c s1 l.action).2⟩ := by rw [hsucc, hs1]
    obtain ⟨lv, l1, l2⟩ := m2.l
    have hlv := l2.length
    subst hsucc
    have hbd : log.length + (T0.log.length + 1) + (actR p c s1 l.action).2.length ≤ 16000000 := by
      have : (T0.log ++ [R7253f.Spec.Entry.hear j] ++ (actR p c s1 l.action).2).length ≤ _ := hle
      simp only [List.length_append, List.length_singleton] at this
      omega
    walk_at "w"
    refine u_fld y1.h (cl_State T) (na_State_log T) fl_State_log ?_
    walk_at "w"
    refine u_bmL l1.h ?_
    walk_at "w"
    refine u_tup (by show 2 ≤ sizeLine; decide) fun t3 G3 H3 s3 _ _ ht3 => ?_
    walk_at "w"
    refine u_app (s3.mu l1 List.not_mem_nil) (by rw [hlv, List.length_append, sizeLine_eq]; omega) fun G4 H4 s4 _ _ l4 => ?_
    walk_at "w"
    have m4 : StM K G4 H4 A p T0.state (log ++ (T0.log ++ [.hear j])) ws := (m2.nil s3).putL s4 l4 (by
      rw [← List.append_assoc]
      exact pairApp (Paired.mapP l2 fun _ _ => EnA.mono (s3.g.trans s4.g)) (.cons ⟨t3, rfl, SqT.of (s4.g _ _ ht3)⟩ .nil))
    have st4 : Stp A.F G H G4 H4 := (st2.trans s3.nil).trans (StM.wL s4)
    have f4 : f ≠ A.lg := fun e => hfF (by rw [e]; simp)
    have mf4 := s4.mu (s3.mu mf2 List.not_mem_nil) (by simpa using f4)
    obtain ⟨gl4, wl4, z1, z2, z3⟩ := m4.x
    refine w_cut (fun σ' H' => ∃ G', σ' = [some (.ref A.a), some (.int (i : Nat)), some (.str (wayS b)), some (.ref f), some (.ref ll), some (.int (j : Nat)), some (.int (l.item : Nat)), some (.str (wayS l.capture)), some (.str (actS l.action)), some (.int (idxI (actT l.action))), some (.bl l.once)] ∧ Stp A.F G4 H4 G' H' ∧ StM K G' H' A p s1 (log ++ (T0.log ++ [.hear j])) ws) ?_ ?_
    · walk_at "w"
      refine w_ite (fun ho => ?_) (fun ho => ?_)
      · rw [ho] at hs1 ⊢
        have hs1 : s1 = { T0.state with gone := T0.state.gone.set j true } := hs1
        subst hs1
        walk_at "w"
        refine u_fld z1.h (cl_State T) (na_State_gone T) fl_State_gone ?_
        walk_at "w"
        refine u_lstK (by show 1 ≤ sizeLine; decide) fun q5 G5 H5 s5 _ _ hq5 => ?_
        walk_at "w"
        have hgll : (goneL T0.state.gone).length ≤ 8 := by
          unfold goneL
          have := List.length_filter_le (fun k => T0.state.gone.getD k false) (List.range T0.state.gone.length)
          rw [List.length_range] at this
          have e := m2.w.gone
          omega
        refine u_cat (on z2) (on hq5) (by show (natsV (goneL T0.state.gone)).length + 1 ≤ _; unfold natsV; rw [List.length_map]; exact lst_le (by omega)) fun q6 G6 H6 s6 _ _ hq6 => ?_
        walk_at "w"
        have e6 : natsV (goneL T0.state.gone) ++ [V.int (j : Nat)] = (((goneL T0.state.gone) ++ [j]).map fun (x : Nat) => (x : Int)).map V.int := by rw [← natsV_ints]; unfold natsV; rw [List.map_append]; rfl
        rw [e6] at hq6
        refine u_sorted (m := (goneL (T0.state.gone.set j true)).map fun (x : Nat) => (x : Int)) (SqL.of (on hq6)) ((gone_set hgl hb3).map _) (natI_pair (gone_sorted _)) fun q7 G7 H7 s7 _ _ hq7 => ?_
        walk_at "w"
        rw [← natsV_ints] at hq7
        have s47 := (s5.trans s6).trans s7
        refine u_sfld (s47.mu z1 List.not_mem_nil) (cl_State T) (na_State_gone T) (by show 6 < 1000; decide) fun G8 H8 s8 _ _ z8 => ?_
        walk_at "w"
        rw [fp_State_gone] at z8
        refine ⟨G8, rfl, s47.nil.trans (StM.wA s8), ?_⟩
        exact (m4.nil s47).putA (s' := { T0.state with gone := T0.state.gone.set j true }) s8 z8 (s8.g _ _ hq7) (s8.g _ _ (s47.g _ _ z3)) rfl rfl ⟨m4.w.on, m4.w.off, by show (T0.state.gone.set j true).length = _; rw [List.length_set]; exact m4.w.gone, m4.w.busy, m4.w.bs, m4.w.nd, m4.w.lt⟩
      · rw [ho] at hs1 ⊢
        have hs1 : s1 = T0.state := hs1
        subst hs1
        walk_at "w"
        exact ⟨G4, rfl, Stp.refl st4.s, m4⟩
    rintro σ5 H5 ⟨G5, rfl, st5, m5⟩
    have : Cur G5 H5 := ⟨st5.s⟩
    have mf5 := st5.mu mf4 hfF
    walk_at "w"
    refine u_bmL mf5.h ?_
    walk_at "w"
    refine u_app mf5 (by rw [List.length_map]; exact lst_le (by omega)) fun G6 H6 s6 _ _ mf6 => ?_
    walk_at "w"
    have hnF : ∀ {x : Addr}, x ∈ A.F → x ∉ [f] := fun hx e => hfF (by rw [← List.mem_singleton.mp e]; exact hx)
    have m6 := m5.step s6 (hnF (by simp)) (hnF (by simp)) (hnF (by simp)) (hnF (by simp))
    obtain ⟨gl6, wl6, z61, _⟩ := m6.x
    refine u_mth z61.h fm_State_act ?_
    walk_at "w"
    refine ⟨k, hkb, rfl, G6, A, p, s1, _, ws, l.action, rfl, s6.s, m6, wf, hwl'.2, hkw, ?_, ?_⟩
    · rw [hc0]; simp only [List.length_append, List.length_singleton]; omega
    rw [hc0]
    intro G7 H7 s7 _ _ m7
    rw [List.append_assoc] at m7
    refine ⟨G7, words ++ [actS l.action], _, _, _, _, _, _, rfl, ?_, m7, ?_, fl2.snoc l.action, by rw [List.length_append]; show _ + 1 ≤ _; omega⟩
    · have hfH : Stp A.F G H G6 H6 := Stp.drop (l := f) ((((st4.trans st5).weak fun b hb => List.mem_cons_of_mem _ hb)).trans (s6.weak fun b hb => by rw [List.mem_singleton.mp hb]; exact List.mem_cons_self)) hf
      exact hfH.trans s7
    · rw [List.map_append]; exact s7.mu mf6 hfF
  · rintro σ H2 ⟨G2, words, v5, v6, v7, v8, v9, va, rfl, st2, m2, mf2, fl2, hwl⟩
    rw [hll, hAt_end] at m2 fl2
    walk_at "w"
    have st3 := st2.keep hf mf2.h
    refine (kk f words).go st3 ?_ upd_same fl2
    exact m2.kept mf2 hfF st2.s
end
end Ck
namespace Ck
open PySem PySem.Spec PyProof.Rows L2
open He (ga ma fAd)
section
variable {P : Program} {w : World} {K : PySem.W.Frag} {mg : Str → Option Value} {base : Heap}
open R7253f.Spec (Units units isName indexIn itemNames kindAt sameGroup isControl canTick isCheck pathOf targetOf controlOf activates tickOn tickOff turnOff isOn isOff isBusy dispatch clickBy userClick takeBack onInGroup activate finish act hear visit listenersOf wayOf quiet)

def segW (p : SPage) (i : Nat) : Nat → List (Nat × Bool)
  | 0 => []
  | 1 => (pathOf p i).reverse.map fun j => (j, true)
  | _ => wayOf p i
theorem heard_visit {p : SPage} {c : Clk} {t : STurn} {j : Nat} {b : Bool} (h : t.flags.stopped = false) : visit p c t (j, b) = (listenersOf p j b).foldl (hear p c) t := by
  unfold visit
  rw [if_neg (by rw [h]; decide)]
theorem onIn_head (p : SPage) (s : SState) (j : Nat) {g : Units} (h : kindAt p j = .radio g) : onInGroup p s j = (beforeL p s j).head? := by
  unfold beforeL onInGroup
  rw [if_pos (by rw [h]; rfl), group_radio h, List.filter_filter, List.head?_filter]
  congr 1
  funext k
  exact Bool.and_comm _ _
theorem before_check (p : SPage) (s : SState) (j : Nat) (h : kindAt p j = .check) : beforeL p s j = if isOn s j then [j] else [] := by
  unfold beforeL
  rw [if_pos (by rw [h]; rfl), group_check h, List.filter_cons]; rfl
theorem before_other (p : SPage) (s : SState) (j : Nat) (h : canTick (kindAt p j) = false) : beforeL p s j = [] := by
  unfold beforeL
  rw [if_neg (by rw [h]; decide)]
theorem same_kind {p : SPage} {i j : Nat} (h : sameGroup p i j = true) : canTick (kindAt p j) = true := by
  unfold sameGroup at h
  cases hi : kindAt p i <;> cases hj : kindAt p j <;> simp_all [canTick]
theorem tick_chk {p : SPage} {s : SState} {j : Nat} (h : kindAt p j = .check) (hl : s.on.length = p.items.length) : tickOn p s j = { s with on := s.on.set j true } := by
  have hc : canTick (kindAt p j) = true := by rw [h]; rfl
  have e := tick_on (s := s) hc hl [] fun k _ _ => by
    have : sameGroup p j k = false := by unfold sameGroup; rw [h]
    simp [this]
  rw [tick_eq hc, ← e]; rfl
theorem has_State_dispatch (T : Txt K mg) {l bd : Nat} (hc : Has P w K mg base CX0 l ("State", some "click") ["self", "item"] (upTo bd (spClick K))) (hl : 5 ≤ l) : Has P w K mg base CX0 (l + 4) ("State", some "dispatch") ["self", "item"] (upTo bd (spDisp K)) := by
  refine mk_has (d := d_State_dispatch) T 28 rfl rfl rfl sc_State_dispatch (fun _ _ _ _ _ _ us hl => match us, hl with | [_, _], _ => rfl) (fun vs H Q E h => upTo_len (fun _ _ _ _ _ h => h.1) vs H Q E h) (fun cdv A outer s H vs Q E hr h => ?_)
  refine ⟨_, PSs.nox (pss_cons (ps_set (i := 2) sc_State_dispatch.nd rfl (Or.inl rfl) (pmeth (pe_fld (pv 0) rfl) (cl_Page T) (me_Page_path T) (has_Page_path T) (hr.mono (by omega)) pass0 (pa_cons (pv 1) pa_nil)))
 (pss_cons (ps_set (i := 3) sc_State_dispatch.nd rfl (Or.inl rfl) pe_bl)
 (pss_cons (ps_for PassesOwn.never rfl (pi_tup (pe_tup (pa_cons (pe_tup (pa_cons pe_str (pa_cons (pe_revL (pv 2)) pa_nil))) (pa_cons (pe_tup (pa_cons pe_str (pa_cons (pv 2) pa_nil))) pa_nil)))) (pg_tup rfl (pgs_cons (pg_name (i := 4) sc_State_dispatch.nd rfl (Or.inl rfl)) (pgs_cons (pg_name (i := 5) sc_State_dispatch.nd rfl (Or.inl rfl)) pgs_nil))) (pss_one (ps_for PassesOwn.never rfl (pi_list (pv 5)) (pg_name (i := 6) sc_State_dispatch.nd rfl (Or.inl rfl)) (pss_cons (ps_set (i := 7) sc_State_dispatch.nd rfl (Or.inl rfl) (pmeth (pv 0) (cl_State T) (me_State_heard T) (has_State_heard T hc hl) (hr.mono (by omega)) pass0 (pa_cons (pv 6) (pa_cons (pv 4) pa_nil))))
 (Evl.pss_cut (ps_set (i := 3) sc_State_dispatch.nd rfl (Or.inl rfl) (pe_or (pv 3) (pe_one (pe_cmpR op_in_seq pe_str (pv 7) (by rfl)))))
 (pss_one (ps_if (PW.pt (pw_or (pt_cmpR op_in_seq pe_str (pv 7) (by rfl)) (pw_or1 (pt_cmpR op_in_seq pe_str (pv 7) (by rfl))))) (pss_one (ps_ret (pv 3))) pss_nil)))))))
 (pss_one (ps_ret (pv 3)))))), ?_⟩
  obtain ⟨k, hkb, _, G, A, p, s, l0, log, ws, i, rfl, gs, m, wf, hi, hkw, hlen, kk⟩ := h
  have : Cur G H := ⟨gs⟩
  obtain ⟨gl, wl, x1, x2, x3⟩ := m.x
  have ⟨pdx, tl, ol, dl, ll, ts, ls, ins, hp⟩ := m.pg
  have hp8 := wf.len
  have hpl : (pathOf p i).length ≤ 8 := by
    rw [pathOf_eq wf hi]
    have := path_len wf i hi
    omega
  have hpm : ∀ j ∈ pathOf p i, j < p.items.length := fun j hj => by
    rw [pathOf_eq wf hi] at hj
    have := path_mem wf i hi j hj
    omega
  generalize hc0 : clickBy (dispatch p k) = c at *
  walk_at "w"
  refine u_fld x1.h (cl_State T) (na_State_page T) fl_State_page ?_
  walk_at "w"
  refine u_mth (on ins) fm_Page_path ?_
  walk_at "w"
  refine u_path m.pg wf hi fun q1 G1 H1 s1 _ _ hq1 => ?_
  walk_at "w"
  refine u_rev (SqL.of (on (H := H1) hq1)) fun q2 G2 H2 s2 _ _ hq2 => ?_
  walk_at "w"
  refine u_tup (by show 2 ≤ sizeLine; decide) fun t1 G3 H3 s3 _ _ ht1 => ?_
  walk_at "w"
  refine u_tup (by show 2 ≤ sizeLine; decide) fun t2 G4 H4 s4 _ _ ht2 => ?_
  walk_at "w"
  refine u_tup (by show 2 ≤ sizeLine; decide) fun t3 G5 H5 s5 _ _ ht3 => ?_
  walk_at "w"
  have s15 := (((s1.trans s2).trans s3).trans s4).trans s5
  have hq1' : G5 q1 = some (.lst (natsV (pathOf p i))) := ((s2.g.trans s3.g).trans (s4.g.trans s5.g)) _ _ hq1
  have hq2' : G5 q2 = some (.lst (natsV (pathOf p i).reverse)) := by
    have e : natsV (pathOf p i).reverse = ((pathOf p i).map fun (j : Nat) => V.int (j : Nat)).reverse := by unfold natsV; rw [List.map_reverse]
    rw [e]
    exact ((s3.g.trans s4.g).trans s5.g) _ _ hq2
  have ht1' : G5 t1 = some (.tup [.str "down", .ref q2]) := (s4.g.trans s5.g) _ _ ht1
  have ht2' : G5 t2 = some (.tup [.str "up", .ref q1]) := s5.g _ _ ht2
  have m5 := m.nil s15
  refine u_iT (SqT.of (on ht3)) ?_
  refine u_for (walk_tup (xs := [.ref t1, .ref t2])) (fun e σ H' => ∃ (G' : Hp) (v4 v5 v6 v7 : Option V) (t : STurn), σ = [some (.ref A.a), some (.int (i : Nat)), some (.ref q1), some (.bl t.flags.cancelled), v4, v5, v6, v7] ∧ t = (segW p i e).foldl (visit p c) ⟨s, quiet, l0⟩ ∧ Stp A.F G H G' H' ∧ Same G5 G' ∧ StM K G' H' A p t.state (log ++ t.log) ws ∧ t.flags.stopped = false ∧ t.flags.halted = false) ?_ (fun e σ H' _ ⟨G', _, _, _, _, _, _, _, st, g5, _⟩ => SqT.of (st.s _ _ (g5 _ _ ht3))) ?_ ?_
  · exact ⟨G5, none, none, none, none, ⟨s, quiet, l0⟩, rfl, rfl, s15.nil, Same.refl _, m5, rfl, rfl⟩
  · rintro e v σ H6 H6' he ⟨G6, v4, v5, v6, v7, t, rfl, ht, s6, g6, m6, hst, hht⟩ ⟨rfl, hv⟩
    have : Cur G6 H6' := ⟨s6.s⟩
    obtain ⟨b, L, ql, tt, rfl, htt, hql, hLm, hLl, hseg, suf, hsuf⟩ : ∃ b L ql tt, v = .ref tt ∧ SqT K G6 tt [.str (wayS b), .ref ql] ∧ G6 ql = some (.lst (natsV L)) ∧ (∀ j ∈ L, j < p.items.length) ∧ L.length ≤ 8 ∧ segW p i (e + 1) = segW p i e ++ L.map (fun j => (j, b)) ∧ ∃ suf, wayOf p i = segW p i (e + 1) ++ suf := by
      match e, he, hv with
      | 0, _, hv => exact ⟨true, (pathOf p i).reverse, q2, t1, (Option.some.inj hv).symm, SqT.of (g6 _ _ ht1'), g6 _ _ hq2', fun j hj => hpm j (List.mem_reverse.mp hj), by rw [List.length_reverse]; exact hpl, rfl, _, rfl⟩
      | 1, _, hv => exact ⟨false, pathOf p i, q1, t2, (Option.some.inj hv).symm, SqT.of (g6 _ _ ht2'), g6 _ _ hq1', hpm, hpl, rfl, [], (List.append_nil _).symm⟩
      | e + 2, h, _ => exact absurd h (by show ¬ e + 2 < 2; omega)
    have hfin : (wayOf p i).foldl (visit p c) ⟨s, quiet, l0⟩ = suf.foldl (visit p c) ((L.map fun j => (j, b)).foldl (visit p c) t) := by
      rw [hsuf, hseg, List.foldl_append, List.foldl_append, ht]
    walk_at "w"
    refine u_gt (onT htt) rfl ?_
    walk_at "w"
    refine u_iL (SqL.of (on hql)) ?_
    refine u_for (walk_list (xs := natsV L)) (fun f σ H' => ∃ (G' : Hp) (v6 v7 : Option V) (t' : STurn), σ = [some (.ref A.a), some (.int (i : Nat)), some (.ref q1), some (.bl t'.flags.cancelled), some (.str (wayS b)), some (.ref ql), v6, v7] ∧ t' = ((L.take f).map fun j => (j, b)).foldl (visit p c) t ∧ Stp A.F G H G' H' ∧ Same G6 G' ∧ StM K G' H' A p t'.state (log ++ t'.log) ws ∧ t'.flags.stopped = false ∧ t'.flags.halted = false) ?_ (fun f σ H' _ ⟨G', _, _, _, _, _, st, g, _⟩ => SqL.of (st.s _ _ (g _ _ hql))) ?_ ?_
    · exact ⟨G6, v6, v7, t, rfl, rfl, s6, Same.refl _, m6, hst, hht⟩
    · rintro f v σ H7 H7' hf ⟨G7, v6, v7, t', rfl, ht', s7, g7, m7, hst7, hht7⟩ ⟨rfl, hv⟩
      have : Cur G7 H7' := ⟨s7.s⟩
      obtain ⟨o, ho, rfl⟩ := nats_at hv
      obtain ⟨gl7, wl7, y1, y2, y3⟩ := m7.x
      have hvis : visit p c t' (o, b) = (listenersOf p o b).foldl (hear p c) t' := heard_visit hst7
      have hnext : ((L.take (f + 1)).map fun j => (j, b)).foldl (visit p c) t = (listenersOf p o b).foldl (hear p c) t' := by
        rw [map_snoc ho, List.foldl_append, ← ht', ← hvis]; rfl
      have hfin2 : (wayOf p i).foldl (visit p c) ⟨s, quiet, l0⟩ = suf.foldl (visit p c) (((L.drop (f + 1)).map fun j => (j, b)).foldl (visit p c) ((listenersOf p o b).foldl (hear p c) t')) := by
        have hsplit : (L.map fun j => (j, b)) = ((L.take (f + 1)).map fun j => (j, b)) ++ ((L.drop (f + 1)).map fun j => (j, b)) := by rw [← List.map_append, List.take_append_drop]
        rw [hfin, hsplit, List.foldl_append, hnext]
      have hbd := fold_log (visit_log p c) suf (((L.drop (f + 1)).map fun j => (j, b)).foldl (visit p c) ((listenersOf p o b).foldl (hear p c) t'))
      have hbd2 := fold_log (visit_log p c) ((L.drop (f + 1)).map fun j => (j, b)) ((listenersOf p o b).foldl (hear p c) t')
      rw [← hfin2] at hbd
      generalize hT : (listenersOf p o b).foldl (hear p c) t' = T1 at *
      walk_at "w"
      refine u_mth y1.h fm_State_heard ?_
      walk_at "w"
      refine ⟨k, hkb, rfl, G7, A, p, t', log, ws, o, b, rfl, s7.s, m7, wf, hst7, hht7, hkw, by rw [hc0, hT]; omega, ?_⟩
      rw [hc0, hT]
      intro q words G8 H8 s8 _ _ m8 hq fl8
      have hq8 : SqL K H8 q (words.map V.str) := SqL.of (s8.s _ _ hq)
      refine w_cut (fun σ' H' => H' = H8 ∧ σ' = [some (.ref A.a), some (.int (i : Nat)), some (.ref q1), some (.bl T1.flags.cancelled), some (.str (wayS b)), some (.ref ql), some (.int (o : Nat)), some (.ref q)]) ?_ ?_
      · walk_at "w"
        have e := fl8.c
        refine w_ite (fun hb => ?_) (fun hb => ?_)
        · walk_at "w"
          rw [hb] at e
          rw [e]; rfl
        · walk_at "w"
          refine u_in (.inl hq8) rfl (flat_str _) ?_
          walk_at "w"
          rw [hb, Bool.false_or] at e
          rw [e]; rfl
      rintro σ8 H8' ⟨rfl, rfl⟩
      have fin : T1.flags.stopped = true → Q (.bl T1.flags.cancelled) H8' := fun hs => by
        have e : (wayOf p i).foldl (visit p c) ⟨s, quiet, l0⟩ = T1 := by rw [hfin2, visit_stop p c hs, visit_stop p c hs]
        rw [e] at kk
        exact kk.go (s7.trans s8) m8
      have es := fl8.s
      have eh := fl8.h
      walk_at "w"
      refine u_in (.inl hq8) rfl (flat_str _) ?_
      walk_at "w"
      refine w_ite (fun hb => ?_) (fun hb => ?_)
      · walk_at "w"
        exact fin (by rw [es, show hasS "stop" words = true from hb, Bool.true_or])
      have hb : hasS "stop" words = false := hb
      walk_at "w"
      refine u_in (.inl hq8) rfl (flat_str _) ?_
      walk_at "w"
      refine w_ite (fun hb2 => ?_) (fun hb2 => ?_)
      · walk_at "w"
        exact fin (by rw [es, show hasS "halt" words = true from hb2, Bool.or_true])
      have hb2 : hasS "halt" words = false := hb2
      walk_at "w"
      exact ⟨G8, _, _, T1, rfl, hnext.symm, s7.trans s8, g7.trans s8.g, m8, by rw [es, hb, hb2]; rfl, by rw [eh, hb2]⟩
    · rintro σ H7 ⟨G7, v6, v7, t', rfl, ht', s7, g7, m7, hst7, hht7⟩
      refine ⟨G7, _, _, _, _, t', rfl, ?_, s7, g6.trans g7, m7, hst7, hht7⟩
      rw [ht', hseg, List.foldl_append, ← ht]
      unfold natsV
      rw [List.length_map, List.take_length]
  · rintro σ H6 ⟨G6, v4, v5, v6, v7, t, rfl, ht, s6, g6, m6, hst, hht⟩
    walk_at "w"
    have ht : t = (wayOf p i).foldl (visit p c) ⟨s, quiet, l0⟩ := ht
    rw [← ht] at kk
    exact kk.go s6 m6
theorem has_State_take_back (T : Txt K mg) : Has P w K mg base CX0 5 ("State", some "take_back") ["self", "target", "kind", "before"] (spBack K) := by
  refine mk_has (d := d_State_take_back) T 31 rfl rfl rfl sc_State_take_back (fun _ _ _ _ _ _ us hl => match us, hl with | [_, _, _, _], _ => rfl) (fun vs H Q E h => h.1) (fun cdv A outer s H vs Q E hr h => ?_)
  refine ⟨_, PSs.nox (Evl.pss_cut (ps_if (pt_cmpR op_eq (pv 2) (pgs (gs_CHECK T) rfl) (nomark _)) (pss_one (ps_asg (pe_cmpR op_gt (pe_callB c_len (by rfl) (fr_len T) PySem.boot_len (pa_cons (pv 3) pa_nil)) pe_int (nomark _)) (pg_sub (pe_fld (pv 0) rfl) (pv 1) set_list))) (pss_one (ps_if (pt_cmpR op_eq (pv 2) (pgs (gs_RADIO T) rfl) (nomark _)) (pss_one (ps_if (pt_cmpR op_gt (pe_callB c_len (by rfl) (fr_len T) PySem.boot_len (pa_cons (pv 3) pa_nil)) pe_int (nomark _)) (pss_one (ps_expr (pmeth (pv 0) (cl_State T) (me_State_tick T) (has_State_tick T) (hr.mono (by omega)) pass0 (pa_cons (pe_ix ix_list (pv 3) pe_int (fun _ _ => rfl)) pa_nil)))) (pss_one (ps_asg pe_bl (pg_sub (pe_fld (pv 0) rfl) (pv 1) set_list))))) pss_nil)))
 (pss_one (ps_expr (pe_bm PySem.F.plainAttrs_list PySem.F.slot_list_append PySem.F.type_list_append mt_append (pe_fld (pv 0) rfl) (pa_cons (pe_tup (pa_cons (pgs (gs_CANCEL T) rfl) (pa_cons (pv 1) pa_nil))) pa_nil))))), ?_⟩
  obtain ⟨_, G, A, p, old, s, log, ws, j, b, rfl, gs, m, wf, hj, hb, hlen, kk⟩ := h
  have : Cur G H := ⟨gs⟩
  obtain ⟨gl, wl, x1, x2, x3⟩ := m.x
  have hBl : (beforeL p old j).length ≤ 8 := by
    unfold beforeL
    split
    · exact Nat.le_trans (List.length_filter_le _ _) (grp_len wf j)
    · exact Nat.zero_le _
  refine w_cut (fun σ' H' => ∃ G', σ' = [some (.ref A.a), some (.int (j : Nat)), some (.str (kwS (kindAt p j))), some (.ref b)] ∧ Stp A.F G H G' H' ∧ StM K G' H' A p (takeBack p old s j) log ws) ?_ ?_
  · cases hk : kindAt p j with
    | check =>
      have e1 : takeBack p old s j = { s with on := s.on.set j (isOn old j) } := by
        unfold takeBack
        rw [hk]
        show (if isOn old j then tickOn p s j else tickOff p s j) = _
        cases isOn old j with
        | true => exact tick_chk hk m.w.on
        | false => exact tickOff_eq (by rw [hk]; rfl)
      have e2 : decide ((0 : Int) < ((natsV (beforeL p old j)).length : Int)) = isOn old j := by
        rw [before_check p old j hk]
        cases isOn old j <;> rfl
      walk_at "w"
      refine iteT ?_
      walk_at "w"
      refine u_lenL (SqL.of (on hb)) ?_
      walk_at "w"
      rw [e2]
      refine u_fld x1.h (cl_State T) (na_State_on T) fl_State_on ?_
      walk_at "w"
      refine u_set m.o (ixN_nat (by rw [List.length_map, m.w.on]; exact hj)) fun G2 H2 st2 _ _ mo2 => ?_
      walk_at "w"
      refine ⟨G2, rfl, StM.wO st2, ?_⟩
      rw [e1]
      exact m.putO st2 (by rw [List.map_set]; exact mo2) (by rw [List.length_set, m.w.on])
    | radio g =>
      have hct : canTick (kindAt p j) = true := by rw [hk]; rfl
      have e1 : takeBack p old s j = match onInGroup p old j with | some k => tickOn p s k | none => tickOff p s j := by
        unfold takeBack
        rw [hk]; rfl
      rw [onIn_head p old j hk] at e1
      walk_at "w"
      refine iteF ?_
      walk_at "w"
      refine iteT ?_
      walk_at "w"
      refine u_lenL (SqL.of (on hb)) ?_
      walk_at "w"
      cases hB : beforeL p old j with
      | nil =>
        rw [hB] at e1
        refine iteF ?_
        walk_at "w"
        refine u_fld x1.h (cl_State T) (na_State_on T) fl_State_on ?_
        walk_at "w"
        refine u_set m.o (ixN_nat (by rw [List.length_map, m.w.on]; exact hj)) fun G2 H2 st2 _ _ mo2 => ?_
        walk_at "w"
        refine ⟨G2, rfl, StM.wO st2, ?_⟩
        rw [e1]
        show StM K G2 H2 A p (tickOff p s j) log ws
        rw [tickOff_eq hct]
        exact m.putO st2 (by rw [List.map_set]; exact mo2) (by rw [List.length_set, m.w.on])
      | cons k r =>
        rw [hB] at e1 hb
        have hkm : k ∈ beforeL p old j := by rw [hB]; exact List.mem_cons_self
        have hkg : k ∈ groupL p j := by
          unfold beforeL at hkm
          rw [if_pos hct] at hkm
          exact (List.mem_filter.mp hkm).1
        have hkl := grp_lt hj hkg
        have hkt : canTick (kindAt p k) = true := same_kind ((grp_mem hk hkl).mp hkg)
        rw [show decide ((0 : Int) < ((natsV (k :: r)).length : Int)) = true from decide_eq_true (by unfold natsV; rw [List.length_map, List.length_cons]; omega)]
        refine iteT ?_
        walk_at "w"
        refine u_mth x1.h fm_State_tick ?_
        walk_at "w"
        refine w_ixL (SqL.of (on hb)) (v := .int (k : Nat)) (atI_nat (j := 0) rfl) ?_
        walk_at "w"
        refine u_tick m wf hkl hkt fun G2 H2 st2 _ _ m2 => ?_
        walk_at "w"
        refine ⟨G2, rfl, st2, ?_⟩
        rw [e1]; exact m2
    | plain =>
      walk_at "w"
      refine iteF ?_
      walk_at "w"
      refine iteF ?_
      walk_at "w"
      exact ⟨G, rfl, Stp.refl gs, by unfold takeBack; rw [hk]; exact m⟩
    | link =>
      walk_at "w"
      refine iteF ?_
      walk_at "w"
      refine iteF ?_
      walk_at "w"
      exact ⟨G, rfl, Stp.refl gs, by unfold takeBack; rw [hk]; exact m⟩
    | button =>
      walk_at "w"
      refine iteF ?_
      walk_at "w"
      refine iteF ?_
      walk_at "w"
      exact ⟨G, rfl, Stp.refl gs, by unfold takeBack; rw [hk]; exact m⟩
    | label o =>
      walk_at "w"
      refine iteF ?_
      walk_at "w"
      refine iteF ?_
      walk_at "w"
      exact ⟨G, rfl, Stp.refl gs, by unfold takeBack; rw [hk]; exact m⟩
  rintro σ1 H1 ⟨G1, rfl, st1, m1⟩
  have : Cur G1 H1 := ⟨st1.s⟩
  obtain ⟨gl1, wl1, y1, y2, y3⟩ := m1.x
  obtain ⟨lv, l1, l2⟩ := m1.l
  have hlv := l2.length
  walk_at "w"
  refine u_fld y1.h (cl_State T) (na_State_log T) fl_State_log ?_
  walk_at "w"
  refine u_bmL l1.h ?_
  walk_at "w"
  refine u_tup (by show 2 ≤ sizeLine; decide) fun t3 G3 H3 s3 _ _ ht3 => ?_
  walk_at "w"
  refine u_app (s3.mu l1 List.not_mem_nil) (by rw [hlv, sizeLine_eq]; omega) fun G4 H4 s4 _ _ l4 => ?_
  walk_at "w"
  refine kk.go ((st1.trans s3.nil).trans (StM.wL s4)) ((m1.nil s3).putL s4 l4 ?_)
  exact pairApp (Paired.mapP l2 fun _ _ => EnA.mono (s3.g.trans s4.g)) (.cons ⟨t3, rfl, SqT.of (s4.g _ _ ht3)⟩ .nil)
theorem put_log {K : PySem.W.Frag} {G H G3 H3 G4 H4 : Hp} {A : SA} {p : SPage} {s : SState} {log : List SEntry} {ws : List Nat} {lv : List V} {t : Addr} {e : SEntry} (m : StM K G H A p s log ws) (l2 : Paired (EnA K G) lv log) (s3 : Stp [] G H G3 H3) (s4 : Stp [A.lg] G3 H3 G4 H4) (l4 : Mu G4 H4 A.lg (.lst (lv ++ [.ref t]))) (h : EnA K G4 (.ref t) e) : StM K G4 H4 A p s (log ++ [e]) ws :=
  (m.nil s3).putL s4 l4 (pairApp (Paired.mapP l2 fun _ _ => EnA.mono (s3.g.trans s4.g)) (.cons h .nil))
theorem has_State_activate (T : Txt K mg) {l bd : Nat} (hc : Has P w K mg base CX0 l ("State", some "click") ["self", "item"] (upTo bd (spClick K))) (hl : 5 ≤ l) : Has P w K mg base CX0 (l + 2) ("State", some "activate") ["self", "target", "kind"] (upTo bd (spActv K)) := by
  refine mk_has (d := d_State_activate) T 32 rfl rfl rfl sc_State_activate (fun _ _ _ _ _ _ us hl => match us, hl with | [_, _, _], _ => rfl) (fun vs H Q E h => upTo_len (fun _ _ _ _ _ h => h.1) vs H Q E h) (fun cdv A outer s H vs Q E hr h => ?_)
  refine ⟨_, PSs.nox (pss_one (ps_if (pt_cmpR op_eq (pv 2) (pgs (gs_LINK T) rfl) (nomark _)) (pss_one (ps_expr (pe_bm PySem.F.plainAttrs_list PySem.F.slot_list_append PySem.F.type_list_append mt_append (pe_fld (pv 0) rfl) (pa_cons (pe_tup (pa_cons (pgs (gs_FOLLOW T) rfl) (pa_cons (pv 1) pa_nil))) pa_nil)))) (pss_one (ps_if (pt_cmpR op_eq (pv 2) (pgs (gs_BUTTON T) rfl) (nomark _)) (pss_one (ps_if (pt_not (pt_val (pe_ix ix_list (pe_fld (pv 0) rfl) (pv 1) (fun _ _ => rfl)))) (pss_one (ps_expr (pe_bm PySem.F.plainAttrs_list PySem.F.slot_list_append PySem.F.type_list_append mt_append (pe_fld (pv 0) rfl) (pa_cons (pe_tup (pa_cons (pgs (gs_SUBMIT T) rfl) (pa_cons (pv 1) pa_nil))) pa_nil)))) pss_nil)) (pss_one (ps_if (pt_cmpR op_eq (pv 2) (pgs (gs_LABEL T) rfl) (nomark _)) (pss_cons (ps_set (i := 3) sc_State_activate.nd rfl (Or.inl rfl) (pmeth (pe_fld (pv 0) rfl) (cl_Page T) (me_Page_control T) (has_Page_control T) (hr.mono (by omega)) pass0 (pa_cons (pv 1) pa_nil)))
 (pss_one (ps_if (pt_cmpR op_ne (pv 3) (pgi (gi_NOBODY T) rfl) (nomark _)) (pss_one (ps_expr (pmeth (pv 0) (cl_State T) (me_State_by_page T) (has_State_by_page T hc hl) (hr.mono (by omega)) pass0 (pa_cons (pv 3) pa_nil)))) pss_nil))) (pss_one (ps_expr (pe_bm PySem.F.plainAttrs_list PySem.F.slot_list_append PySem.F.type_list_append mt_append (pe_fld (pv 0) rfl) (pa_cons (pe_tup (pa_cons (pgs (gs_CHANGE T) rfl) (pa_cons (pv 1) pa_nil))) pa_nil)))))))))), ?_⟩
  obtain ⟨k, hkb, _, G, A, p, s, log, ws, j, rfl, gs, m, wf, hj, hact, hkw, hlen, kk⟩ := h
  have : Cur G H := ⟨gs⟩
  obtain ⟨gl, wl, x1, x2, x3⟩ := m.x
  obtain ⟨lv, l1, l2⟩ := m.l
  have hlv := l2.length
  cases hk : kindAt p j with
  | plain => rw [hk] at hact; cases hact
  | link =>
    have e : activate p (clickBy (dispatch p k)) s j = (s, [.follow j]) := by unfold activate; rw [hk]
    rw [e] at kk hlen
    walk_at "w"
    refine iteT ?_
    walk_at "w"
    refine u_fld x1.h (cl_State T) (na_State_log T) fl_State_log ?_
    walk_at "w"
    refine u_bmL l1.h ?_
    walk_at "w"
    refine u_tup (by show 2 ≤ sizeLine; decide) fun t3 G3 H3 s3 _ _ ht3 => ?_
    walk_at "w"
    refine u_app (s3.mu l1 List.not_mem_nil) (by rw [hlv, sizeLine_eq]; omega) fun G4 H4 s4 _ _ l4 => ?_
    walk_at "w"
    exact kk.go (s3.nil.trans (StM.wL s4)) (put_log m l2 s3 s4 l4 ⟨t3, rfl, SqT.of (s4.g _ _ ht3)⟩)
  | button =>
    have e : activate p (clickBy (dispatch p k)) s j = (s, if isOff s j then [] else [.submit j]) := by unfold activate; rw [hk]
    rw [e] at kk hlen
    have hoff : s.off.getD j false = isOff s j := rfl
    walk_at "w"
    refine iteF ?_
    walk_at "w"
    refine iteT ?_
    walk_at "w"
    refine u_fld x1.h (cl_State T) (na_State_disabled T) fl_State_disabled ?_
    walk_at "w"
    refine w_ixL m.d.sqL (atI_nat (bls_at (by rw [m.w.off]; exact hj))) ?_
    walk_at "w"
    rw [hoff]
    cases ho : isOff s j with
    | true =>
      refine iteF ?_
      walk_at "w"
      rw [ho] at kk
      exact kk.go (Stp.refl gs) (by show StM K G H A p s (log ++ []) ws; rw [List.append_nil]; exact m)
    | false =>
      rw [ho] at kk
      refine iteT ?_
      walk_at "w"
      refine u_fld x1.h (cl_State T) (na_State_log T) fl_State_log ?_
      walk_at "w"
      refine u_bmL l1.h ?_
      walk_at "w"
      refine u_tup (by show 2 ≤ sizeLine; decide) fun t3 G3 H3 s3 _ _ ht3 => ?_
      walk_at "w"
      refine u_app (s3.mu l1 List.not_mem_nil) (by rw [hlv, sizeLine_eq]; omega) fun G4 H4 s4 _ _ l4 => ?_
      walk_at "w"
      exact kk.go (s3.nil.trans (StM.wL s4)) (put_log m l2 s3 s4 l4 ⟨t3, rfl, SqT.of (s4.g _ _ ht3)⟩)
  | check =>
    have e : activate p (clickBy (dispatch p k)) s j = (s, [.change j]) := by unfold activate; rw [hk]
    rw [e] at kk hlen
    walk_at "w"
    refine iteF ?_
    walk_at "w"
    refine iteF ?_
    walk_at "w"
    refine iteF ?_
    walk_at "w"
    refine u_fld x1.h (cl_State T) (na_State_log T) fl_State_log ?_
    walk_at "w"
    refine u_bmL l1.h ?_
    walk_at "w"
    refine u_tup (by show 2 ≤ sizeLine; decide) fun t3 G3 H3 s3 _ _ ht3 => ?_
    walk_at "w"
    refine u_app (s3.mu l1 List.not_mem_nil) (by rw [hlv, sizeLine_eq]; omega) fun G4 H4 s4 _ _ l4 => ?_
    walk_at "w"
    exact kk.go (s3.nil.trans (StM.wL s4)) (put_log m l2 s3 s4 l4 ⟨t3, rfl, SqT.of (s4.g _ _ ht3)⟩)
  | radio g =>
    have e : activate p (clickBy (dispatch p k)) s j = (s, [.change j]) := by unfold activate; rw [hk]
    rw [e] at kk hlen
    walk_at "w"
    refine iteF ?_
    walk_at "w"
    refine iteF ?_
    walk_at "w"
    refine iteF ?_
    walk_at "w"
    refine u_fld x1.h (cl_State T) (na_State_log T) fl_State_log ?_
    walk_at "w"
    refine u_bmL l1.h ?_
    walk_at "w"
    refine u_tup (by show 2 ≤ sizeLine; decide) fun t3 G3 H3 s3 _ _ ht3 => ?_
    walk_at "w"
    refine u_app (s3.mu l1 List.not_mem_nil) (by rw [hlv, sizeLine_eq]; omega) fun G4 H4 s4 _ _ l4 => ?_
    walk_at "w"
    exact kk.go (s3.nil.trans (StM.wL s4)) (put_log m l2 s3 s4 l4 ⟨t3, rfl, SqT.of (s4.g _ _ ht3)⟩)
  | label o =>
    have e : activate p (clickBy (dispatch p k)) s j = match controlOf p j with | some c => clickBy (dispatch p k) s c | none => (s, []) := by unfold activate; rw [hk]; cases controlOf p j <;> rfl
    rw [e] at kk hlen
    have ⟨pdx, tl, ol, dl, ll, ts, ls, ins, hp⟩ := m.pg
    walk_at "w"
    refine iteF ?_
    walk_at "w"
    refine iteF ?_
    walk_at "w"
    refine iteT ?_
    walk_at "w"
    refine u_fld x1.h (cl_State T) (na_State_page T) fl_State_page ?_
    walk_at "w"
    refine u_mth (on ins) fm_Page_control ?_
    walk_at "w"
    refine u_control m.pg wf hj fun G1 H1 s1 _ _ => ?_
    walk_at "w"
    have m1 := m.nil s1
    obtain ⟨gl1, wl1, y1, y2, y3⟩ := m1.x
    cases hco : controlOf p j with
    | none =>
      rw [hco] at kk
      refine iteF ?_
      walk_at "w"
      exact kk.go s1.nil (by show StM K G1 H1 A p s (log ++ []) ws; rw [List.append_nil]; exact m1)
    | some c =>
      rw [hco] at kk hlen
      have hne : (!decide (V.int (idxI (some c)) = V.int (-1))) = true := by
        rw [decide_eq_false]
        · rfl
        · intro z
          have := V.int.inj z
          have h2 : idxI (some c) = (c : Int) := rfl
          omega
      rw [hne]
      refine iteT ?_
      walk_at "w"
      refine u_mth y1.h fm_State_by_page ?_
      walk_at "w"
      refine ⟨k, hkb, ?_⟩
      refine u_byPage (i := c) m1 wf (control_lt wf hj hco) hkw hlen fun G2 H2 s2 _ _ m2 => ?_
      exact kk.go (s1.nil.trans s2) m2
end
end Ck
namespace Ck
open PySem PySem.Spec PyProof.Rows L2
open He (ga ma fAd)
open R7253f.Spec (Units units isName indexIn itemNames kindAt sameGroup isControl canTick isCheck pathOf targetOf controlOf activates tickOn tickOff turnOff isOn isOff isBusy dispatch clickBy userClick takeBack onInGroup activate finish act hear visit listenersOf wayOf quiet isClick clickers start)
/-! ### how long a log may grow -/
def wt (p : SPage) (B k : Nat) : Nat := 1 + if ((p.listeners[k]?).map fun l => isClick l.action).getD false then B else 0
theorem wt_sum (B : Nat) : ∀ l : List SLis, ((List.range l.length).map fun k => 1 + if ((l[k]?).map fun l => isClick l.action).getD false then B else 0).sum = l.length + (l.filter fun l => isClick l.action).length * B
  | [] => by simp
  | x :: l => by
    have ih := wt_sum B l
    rw [List.length_cons, List.range_succ_eq_map, List.map_cons, List.map_map, List.sum_cons, List.filter_cons]
    have e : ((fun k => 1 + if (((x :: l)[k]?).map fun l => isClick l.action).getD false then B else 0) ∘ Nat.succ) = fun k => 1 + if ((l[k]?).map fun l => isClick l.action).getD false then B else 0 := by
      funext k; rfl
    rw [e, ih]
    cases h : isClick x.action with
    | true =>
      simp [h]
      rw [Nat.succ_mul]
      omega
    | false =>
      simp [h]
      omega
theorem cb_len {p : SPage} {f : Clk} {B : Nat} (hf : ∀ s i, (f s i).2.length ≤ B) (s : SState) (i : Nat) : (clickBy f s i).2.length ≤ B := by
  unfold clickBy
  split
  · exact Nat.zero_le _
  · exact hf _ _
theorem hear_wt {p : SPage} {c : Clk} {B : Nat} (hc : ∀ s i, (c s i).2.length ≤ B) (t : STurn) (k : Nat) : (hear p c t k).log.length ≤ t.log.length + wt p B k := by
  unfold hear wt
  cases hl : p.listeners[k]? with
  | none => show t.log.length ≤ _; omega
  | some l =>
    show (if _ then t else _).log.length ≤ t.log.length + (1 + if isClick l.action then B else 0)
    split
    · omega
    · rw [act_eq]
      show (t.log ++ [R7253f.Spec.Entry.hear k] ++ _).length ≤ _
      rw [List.length_append, List.length_append, List.length_singleton]
      have hi : ∀ (s : SState), (actR p c s l.action).2.length ≤ if isClick l.action then B else 0 := fun s => by
        cases l.action with
        | click i => exact hc s i
        | _ => exact Nat.zero_le _
      rw [Nat.add_assoc]
      exact Nat.add_le_add_left (Nat.add_le_add_left (hi _) 1) _
theorem hears_wt {p : SPage} {c : Clk} {B : Nat} (hc : ∀ s i, (c s i).2.length ≤ B) : ∀ (ks : List Nat) (t : STurn), (ks.foldl (hear p c) t).log.length ≤ t.log.length + (ks.map (wt p B)).sum
  | [], t => by simp
  | k :: ks, t => by
    have h1 := hear_wt (p := p) hc t k
    have h2 := hears_wt (p := p) hc ks (hear p c t k)
    rw [List.foldl_cons, List.map_cons, List.sum_cons]
    omega
def seenW (p : SPage) (B : Nat) (W : List (Nat × Bool)) : Nat := (W.map fun x => ((listenersOf p x.1 x.2).map (wt p B)).sum).sum
theorem visits_wt {p : SPage} {c : Clk} {B : Nat} (hc : ∀ s i, (c s i).2.length ≤ B) : ∀ (W : List (Nat × Bool)) (t : STurn), (W.foldl (visit p c) t).log.length ≤ t.log.length + seenW p B W
  | [], t => by simp [seenW]
  | x :: W, t => by
    have h1 : (visit p c t x).log.length ≤ t.log.length + ((listenersOf p x.1 x.2).map (wt p B)).sum := by
      unfold visit
      split
      · omega
      · exact hears_wt hc _ t
    have h2 := visits_wt (p := p) hc W (visit p c t x)
    have e : seenW p B (x :: W) = ((listenersOf p x.1 x.2).map (wt p B)).sum + seenW p B W := rfl
    rw [List.foldl_cons, e]
    omega
def hitW (p : SPage) (B : Nat) (W : List (Nat × Bool)) (k : Nat) : Nat := (W.map fun x => if lisF p x.1 x.2 k then wt p B k else 0).sum
theorem sum_zero {α : Type} {f : α → Nat} : ∀ {l : List α}, (∀ x ∈ l, f x = 0) → (l.map f).sum = 0
  | [], _ => rfl
  | x :: l, h => by
    rw [List.map_cons, List.sum_cons, h x List.mem_cons_self, sum_zero fun y hy => h y (List.mem_cons_of_mem _ hy)]
theorem lisF_uniq {p : SPage} {x y : Nat × Bool} {k : Nat} (h1 : lisF p x.1 x.2 k = true) (h2 : lisF p y.1 y.2 k = true) : x = y := by
  unfold lisF at h1 h2
  cases hl : p.listeners[k]? with
  | none => rw [hl] at h1; cases h1
  | some l =>
    rw [hl] at h1 h2
    obtain ⟨a1, a2⟩ := x
    obtain ⟨b1, b2⟩ := y
    simp at h1 h2
    obtain ⟨rfl, rfl⟩ := h1
    obtain ⟨rfl, rfl⟩ := h2
    rfl
theorem hit_le {p : SPage} {B : Nat} (k : Nat) : ∀ {W : List (Nat × Bool)}, W.Nodup → hitW p B W k ≤ wt p B k
  | [], _ => Nat.zero_le _
  | x :: W, nd => by
    obtain ⟨n1, n2⟩ := List.nodup_cons.mp nd
    show (if lisF p x.1 x.2 k then wt p B k else 0) + hitW p B W k ≤ _
    cases h : lisF p x.1 x.2 k with
    | false => have := hit_le (p := p) (B := B) k n2; simp; omega
    | true =>
      have e : hitW p B W k = 0 := sum_zero fun y hy => by
        cases h2 : lisF p y.1 y.2 k with
        | false => rfl
        | true => exact absurd (lisF_uniq h h2 ▸ hy) n1
      rw [e]; simp
theorem swap_sum (p : SPage) (B : Nat) (W : List (Nat × Bool)) : ∀ ks : List Nat, (W.map fun x => ((ks.filter (lisF p x.1 x.2)).map (wt p B)).sum).sum = (ks.map (hitW p B W)).sum
  | [] => sum_zero fun _ _ => rfl
  | k :: ks => by
    have ih := swap_sum p B W ks
    rw [List.map_cons, List.sum_cons, ← ih]
    have add : ∀ (f g : Nat × Bool → Nat) (l : List (Nat × Bool)), (l.map fun x => f x + g x).sum = (l.map f).sum + (l.map g).sum := by
      intro f g l
      induction l with
      | nil => rfl
      | cons x l ih => simp only [List.map_cons, List.sum_cons, ih]; omega
    unfold hitW
    rw [← add]
    congr 1
    refine List.map_congr_left fun x _ => ?_
    rw [List.filter_cons]
    cases lisF p x.1 x.2 k <;> simp
theorem seen_le {p : SPage} {B : Nat} {W : List (Nat × Bool)} (nd : W.Nodup) : seenW p B W ≤ p.listeners.length + clickers p * B := by
  have e : seenW p B W = ((List.range p.listeners.length).map (hitW p B W)).sum := swap_sum p B W _
  rw [e]
  have h : ∀ ks : List Nat, (ks.map (hitW p B W)).sum ≤ (ks.map (wt p B)).sum := by
    intro ks
    induction ks with
    | nil => exact Nat.le_refl _
    | cons k ks ih =>
      have := hit_le (p := p) (B := B) k nd
      simp only [List.map_cons, List.sum_cons]
      omega
  refine Nat.le_trans (h _) ?_
  have := wt_sum B p.listeners
  exact Nat.le_of_eq this
theorem path_nd {p : SPage} (w : PgW p) : ∀ (i : Nat), i < p.items.length → (pathJ p i).Nodup := by
  intro i
  induction i using Nat.strongRecOn with
  | ind i ih =>
    intro hi
    obtain ⟨x, hx⟩ := item_at hi
    rw [pathJ_eq w hx]
    cases hq : x.parent with
    | none => simp
    | some q =>
      have hqi := w.par i q x hx hq
      refine List.nodup_cons.mpr ⟨fun h => ?_, ih q hqi (by omega)⟩
      have := path_mem w q (by omega) i h
      omega
theorem map_nd {b : Bool} {l : List Nat} (nd : l.Nodup) : (l.map fun j => (j, b)).Nodup := List.pairwise_map.mpr (List.Pairwise.imp (fun h e => h (Prod.mk.inj e).1) nd)
theorem way_nd {p : SPage} (w : PgW p) {i : Nat} (hi : i < p.items.length) : (wayOf p i).Nodup := by
  have nd := path_nd w i hi
  rw [← pathOf_eq w hi] at nd
  unfold wayOf
  rw [List.nodup_append]
  refine ⟨?_, ?_, ?_⟩
  · exact map_nd (List.pairwise_reverse.mpr (List.Pairwise.imp (fun h => Ne.symm h) nd))
  · exact map_nd nd
  · intro a ha b hb e
    obtain ⟨x, _, rfl⟩ := List.mem_map.mp ha
    obtain ⟨y, _, rfl⟩ := List.mem_map.mp hb
    cases (Prod.mk.inj e).2
def logB : Nat → Nat
  | 0 => 1
  | k + 1 => 10 + 4 * logB k
theorem targ_lt {p : SPage} (w : PgW p) {i : Nat} (h : ¬ i < p.items.length) : targetOf p i = none ∧ wayOf p i = [] := by
  have hx : p.items[i]? = none := List.getElem?_eq_none (by omega)
  have e : pathOf p i = [] := by
    unfold pathOf
    cases hn : p.items.length with
    | zero => rfl
    | succ n => rw [path_step, hx]
  unfold targetOf wayOf
  rw [e]
  exact ⟨rfl, rfl⟩
theorem disp_len {p : SPage} (w : PgW p) : ∀ (k : Nat) (s : SState) (i : Nat), (dispatch p k s i).2.length ≤ logB k
  | 0, s, i => Nat.le_refl _
  | k + 1, s, i => by
    have hc : ∀ s i, (clickBy (dispatch p k) s i).2.length ≤ logB k := cb_len (p := p) (disp_len w k)
    have hB : 1 ≤ logB k := by cases k <;> simp [logB] <;> omega
    have hW : ∀ s1, ((wayOf p i).foldl (visit p (clickBy (dispatch p k))) ⟨s1, quiet, [.click i]⟩).log.length ≤ 9 + 3 * logB k := fun s1 => by
      refine Nat.le_trans (visits_wt hc _ _) ?_
      show 1 + seenW p (logB k) (wayOf p i) ≤ _
      have h1 : seenW p (logB k) (wayOf p i) ≤ p.listeners.length + clickers p * logB k := by
        by_cases hi : i < p.items.length
        · exact seen_le (way_nd w hi)
        · rw [(targ_lt w hi).2]; exact Nat.zero_le _
      have h2 := w.lis
      have h3 : clickers p * logB k ≤ 3 * logB k := Nat.mul_le_mul_right _ w.ck
      omega
    have hA : ∀ s j, (activate p (clickBy (dispatch p k)) s j).2.length ≤ logB k := fun s j => by
      unfold activate
      split
      · exact Nat.zero_le _
      · exact hB
      · show (if isOff s j then [] else [R7253f.Spec.Entry.submit j]).length ≤ _
        split
        · exact Nat.zero_le _
        · exact hB
      · exact hB
      · exact hB
      · split
        · exact hc _ _
        · exact Nat.zero_le _
    have key : ∀ (t : STurn) (g : Option Nat), t.log.length ≤ 9 + 3 * logB k → (R7253f.Spec.finish p (clickBy (dispatch p k)) s t g).2.length ≤ 10 + 4 * logB k := by
      intro t g ht
      cases g with
      | none => exact Nat.le_trans ht (by omega)
      | some j =>
        have h2 := hA t.state j
        unfold R7253f.Spec.finish
        by_cases hcn : t.flags.cancelled = true
        · show (if t.flags.cancelled = true then _ else _ : SState × List SEntry).2.length ≤ _
          rw [if_pos hcn]
          show (t.log ++ [_]).length ≤ _
          rw [List.length_append, List.length_singleton]
          omega
        · show (if t.flags.cancelled = true then _ else _ : SState × List SEntry).2.length ≤ _
          rw [if_neg hcn]
          show (t.log ++ _).length ≤ _
          rw [List.length_append]
          omega
    exact key _ _ (hW _)
theorem user_len {p : SPage} (w : PgW p) (s : SState) (i : Nat) : (userClick p s i).2.length ≤ 1135954 := by
  unfold userClick
  split
  · exact Nat.zero_le _
  · refine Nat.le_trans (disp_len w _ _ _) ?_
    have := w.len
    have h : ∀ n, n ≤ 8 → logB (n + 1) ≤ 1135954 := by decide
    exact h _ this
/-! ### a click in steps -/
theorem disp_eq (p : SPage) (k : Nat) (s : SState) (i : Nat) : dispatch p (k + 1) s i = R7253f.Spec.finish p (clickBy (dispatch p k)) s ((wayOf p i).foldl (visit p (clickBy (dispatch p k))) ⟨match targetOf p i with | some j => R7253f.Spec.before p s j | none => s, quiet, [.click i]⟩) (targetOf p i) := rfl
theorem targ_act {p : SPage} {i j : Nat} (h : targetOf p i = some j) : activates (kindAt p j) = true := by
  unfold targetOf at h
  have := List.find?_some h
  exact this
section
variable (K : PySem.W.Frag)
def spByUser : Sp := fun vs H Q _ => vs.length = 2 ∧ ∃ (G : Hp) (A : SA) (p : SPage) (s : SState) (i : Nat), vs = [.ref A.a, .int (i : Nat)] ∧ Same G H ∧ StM K G H A p s [] [] ∧ PgW p ∧ i < p.items.length ∧
  Nxt A.F G H fun G' H' => StM K G' H' A p (userClick p s i).1 (userClick p s i).2 [] → Q .non H'
def spStInit : Sp := fun vs H Q _ => vs.length = 5 ∧ ∃ (G : Hp) (a dx pa o d g : Addr) (p : SPage) (s : SState), vs = [.ref a, .ref pa, .ref o, .ref d, .ref g] ∧ Same G H ∧ Mu G H a (.ins (ga K "State") dx []) ∧ PgH K G pa p ∧ SqL K H o (s.on.map V.bl) ∧ SqL K H d (s.off.map V.bl) ∧ SqL K H g (natsV (goneL s.gone)) ∧ StW p s [] ∧ PgW p ∧
  ∀ ol dl lg, Nxt [a] G H fun G' H' => StM K G' H' ⟨a, dx, pa, ol, dl, lg⟩ p s [] [] → H ol = none → H dl = none → H lg = none → Q .non H'
def spCopied : Sp := fun vs H Q _ => vs.length = 1 ∧ ∃ (G : Hp) (a pa : Addr) (p : SPage) (s : SState) (log : List SEntry), vs = [.ref a] ∧ Same G H ∧ StF K G a pa p s log ∧ PgW p ∧
  ∀ A : SA, Nxt [] G H fun G' H' => A.pa = pa → StM K G' H' A p s [] [] → H A.a = none → H A.ol = none → H A.dl = none → H A.lg = none → Q (.ref A.a) H'
def spFirst : Sp := fun vs H Q _ => vs.length = 1 ∧ ∃ (G : Hp) (pa : Addr) (p : SPage), vs = [.ref pa] ∧ Same G H ∧ PgH K G pa p ∧ PgW p ∧ ∀ a, Nxt [] G H fun G' H' => StF K G' a pa p (start p) [] → Q (.ref a) H'
def spBehind : Sp := fun vs H Q _ => vs.length = 2 ∧ ∃ (G : Hp) (a pa : Addr) (p : SPage) (s : SState) (log : List SEntry) (i : Nat), vs = [.ref a, .int (i : Nat)] ∧ Same G H ∧ StF K G a pa p s log ∧ PgW p ∧ i < p.items.length ∧
  ∀ b, Nxt [] G H fun G' H' => StF K G' b pa p (userClick p s i).1 (userClick p s i).2 → Q (.ref b) H'
end
section
variable {K : PySem.W.Frag} {G H G1 H1 : Hp} {Q : VK} {E : XK} {A : SA} {p : SPage} {s : SState} {log : List SEntry} {i : Nat} {a pa : Addr}
theorem u_byUser [q : Cur G H] (m : StM K G H A p s [] []) (w : PgW p) (hi : i < p.items.length) (k : Nxt A.F G H fun G' H' => StM K G' H' A p (userClick p s i).1 (userClick p s i).2 [] → Q .non H') : spByUser K [.ref A.a, .int (i : Nat)] H Q E := ⟨rfl, G, A, p, s, i, rfl, q.s, m, w, hi, k⟩
theorem u_copied [q : Cur G H] (h : StF K G a pa p s log) (w : PgW p) (k : ∀ A : SA, Nxt [] G H fun G' H' => A.pa = pa → StM K G' H' A p s [] [] → H A.a = none → H A.ol = none → H A.dl = none → H A.lg = none → Q (.ref A.a) H') : spCopied K [.ref a] H Q E := ⟨rfl, G, a, pa, p, s, log, rfl, q.s, h, w, k⟩
theorem u_first [q : Cur G H] (h : PgH K G pa p) (w : PgW p) (k : ∀ a, Nxt [] G H fun G' H' => StF K G' a pa p (start p) [] → Q (.ref a) H') : spFirst K [.ref pa] H Q E := ⟨rfl, G, pa, p, rfl, q.s, h, w, k⟩
theorem u_behind [q : Cur G H] (h : StF K G a pa p s log) (w : PgW p) (hi : i < p.items.length) (k : ∀ b, Nxt [] G H fun G' H' => StF K G' b pa p (userClick p s i).1 (userClick p s i).2 → Q (.ref b) H') : spBehind K [.ref a, .int (i : Nat)] H Q E := ⟨rfl, G, a, pa, p, s, log, i, rfl, q.s, h, w, hi, k⟩
/-- from now on it stays -/
theorem StM.frz (m : StM K G1 H1 A p s log []) (st : Stp [] G H G1 H1) (h1 : H A.a = none) (h2 : H A.ol = none) (h3 : H A.dl = none) (h4 : H A.lg = none) : ∃ G2, Stp [] G H G2 H1 ∧ Same G1 G2 ∧ StF K G2 A.a A.pa p s log := by
  have ao := m.ao
  have ad := m.ad
  have al := m.al
  obtain ⟨⟨gl, wl, x1, x2, x3⟩, pg, o, d, ⟨lv, l1, l2⟩, od, ol, dl, w⟩ := m
  have k1 := st.keep h1 x1.h
  have k2 := k1.keep h2 o.h
  have k3 := k2.keep h3 d.h
  have k4 := k3.keep h4 l1.h
  have s4 := ((Same.keep x1.h st.s).trans (Same.keep o.h k1.s)).trans ((Same.keep d.h k2.s).trans (Same.keep l1.h k3.s))
  refine ⟨_, k4, s4, ⟨A.dx, A.ol, A.dl, gl, A.lg, wl, lv, ?_, ?_, ?_, s4 _ _ x2, upd_same, Paired.mapP l2 fun _ _ => EnA.mono s4⟩, pg.mono s4, w⟩
  · rw [upd_ne al, upd_ne ad, upd_ne ao, upd_same]
  · rw [upd_ne ol, upd_ne od, upd_same]
  · rw [upd_ne dl, upd_same]
end
end Ck
namespace Ck
open PySem PySem.Spec PyProof.Rows L2
open He (ga ma fAd)
section
variable {P : Program} {w : World} {K : PySem.W.Frag} {mg : Str → Option Value} {base : Heap}
open R7253f.Spec (Units units isName indexIn itemNames kindAt sameGroup isControl canTick isCheck pathOf targetOf controlOf activates tickOn tickOff turnOff isOn isOff isBusy dispatch clickBy userClick takeBack onInGroup activate act hear visit listenersOf wayOf quiet start)

theorem nd_len : ∀ (n : Nat) (l : List Nat), l.Nodup → (∀ x ∈ l, x < n) → l.length ≤ n
  | 0, [], _, _ => Nat.le_refl _
  | 0, x :: l, _, h => absurd (h x List.mem_cons_self) (Nat.not_lt_zero _)
  | n + 1, l, nd, h => by
    have h1 : (l.filter fun x => x != n).length ≤ n := nd_len n _ (List.Pairwise.filter _ nd) fun x hx => by
      obtain ⟨a, b⟩ := List.mem_filter.mp hx
      have := h x a
      have : x ≠ n := by simpa using b
      omega
    have h2 : ∀ (l : List Nat), l.Nodup → l.length ≤ (l.filter fun x => x != n).length + 1 := by
      intro l
      induction l with
      | nil => intro _; exact Nat.zero_le _
      | cons x l ih =>
        intro nd
        obtain ⟨n1, n2⟩ := List.nodup_cons.mp nd
        rw [List.filter_cons]
        by_cases e : x = n
        · subst e
          have e2 : l.filter (fun y => y != x) = l := List.filter_eq_self.mpr fun y hy => by
            have : y ≠ x := fun e => n1 (e ▸ hy)
            simpa using this
          simp [e2]
        · have := ih n2
          simp [e]
          omega
    have := h2 l nd
    omega
theorem pr_nats {L : List Nat} {f : Nat → Bool} : ∀ {ks : List Nat} {ys : List V}, Paired (fun k y => ∃ j, L[k]? = some j ∧ y = V.int (j : Nat)) ks ys → ys = natsV (ks.map fun k => L.getD k 0)
  | _, _, .nil => rfl
  | _, _, .cons h t => by
    obtain ⟨j, hj, rfl⟩ := h
    rw [pr_nats (f := f) t, List.map_cons, List.getD_eq_getElem?_getD, hj]; rfl
theorem filt_nat (f : Nat → Bool) : ∀ L : List Nat, ((List.range L.length).filter fun k => ((L[k]?).map f).getD false).map (fun k => L.getD k 0) = L.filter f
  | [] => rfl
  | x :: l => by
    have ih := filt_nat f l
    rw [List.length_cons, List.range_succ_eq_map, List.filter_cons, List.filter_map, List.filter_cons]
    have e : ((fun j => (((x :: l)[j]?).map f).getD false) ∘ Nat.succ) = fun j => ((l[j]?).map f).getD false := by
      funext j; rfl
    rw [e]
    have e2 : (List.map (fun k => (x :: l).getD k 0) (List.map Nat.succ (List.filter (fun j => ((l[j]?).map f).getD false) (List.range l.length)))) = l.filter f := by
      rw [← ih, List.map_map]; rfl
    cases h : f x with
    | true => simp [h] at e2 ⊢; exact e2
    | false => simp [h] at e2 ⊢; exact e2
def kzS (p : SPage) : Option Nat → Str
  | some j => kwS (kindAt p j)
  | none => ""
def blS (p : SPage) (s : SState) : Option Nat → List Nat
  | some j => beforeL p s j
  | none => []
def s1S (p : SPage) (s : SState) : Option Nat → SState
  | some j => R7253f.Spec.before p s j
  | none => s
theorem disp_eq2 (p : SPage) (k : Nat) (s : SState) (i : Nat) : dispatch p (k + 1) s i = R7253f.Spec.finish p (clickBy (dispatch p k)) s ((wayOf p i).foldl (visit p (clickBy (dispatch p k))) ⟨s1S p s (targetOf p i), quiet, [.click i]⟩) (targetOf p i) := by
  rw [disp_eq]
  cases targetOf p i <;> rfl
theorem fin_none (p : SPage) (c : Clk) (s : SState) (t : STurn) : R7253f.Spec.finish p c s t none = (t.state, t.log) := rfl
theorem fin_some (p : SPage) (c : Clk) (s : SState) (t : STurn) (j : Nat) : R7253f.Spec.finish p c s t (some j) = if t.flags.cancelled then (takeBack p s t.state j, t.log ++ [.cancel j]) else ((activate p c t.state j).1, t.log ++ (activate p c t.state j).2) := rfl
theorem fin_log (p : SPage) (c : Clk) (s : SState) (t : STurn) (g : Option Nat) : t.log.length ≤ (R7253f.Spec.finish p c s t g).2.length := by
  cases g with
  | none => exact Nat.le_refl _
  | some j =>
    rw [fin_some]
    split
    · show _ ≤ (t.log ++ _).length
      rw [List.length_append]; omega
    · show _ ≤ (t.log ++ _).length
      rw [List.length_append]; omega
theorem has_State_click (T : Txt K mg) {l bd : Nat} (hc : Has P w K mg base CX0 l ("State", some "click") ["self", "item"] (upTo bd (spClick K))) (hl : 5 ≤ l) : Has P w K mg base CX0 (l + 5) ("State", some "click") ["self", "item"] (upTo (bd + 1) (spClick K)) := by
  refine mk_has (d := d_State_click) T 27 rfl rfl rfl sc_State_click (fun _ _ _ _ _ _ us hl => match us, hl with | [_, _], _ => rfl) (fun vs H Q E h => upTo_len (fun _ _ _ _ _ h => h.1) vs H Q E h) (fun cdv A outer s H vs Q E hr h => ?_)
  refine ⟨_, PSs.nox (pss_cons (ps_set (i := 2) sc_State_click.nd rfl (Or.inl rfl) (pe_fld (pv 0) rfl))
 (pss_cons (ps_expr (pe_bm PySem.F.plainAttrs_list PySem.F.slot_list_append PySem.F.type_list_append mt_append (pe_fld (pv 0) rfl) (pa_cons (pe_tup (pa_cons (pgs (gs_CLICK T) rfl) (pa_cons (pv 1) pa_nil))) pa_nil)))
 (pss_cons (ps_set (i := 3) sc_State_click.nd rfl (Or.inl rfl) (pmeth (pv 2) (cl_Page T) (me_Page_activated T) (has_Page_activated T) (hr.mono (by omega)) pass0 (pa_cons (pv 1) pa_nil)))
 (Evl.pss_cut (ps_set (i := 4) sc_State_click.nd rfl (Or.inl rfl) (pe_ifExp (pt_cmpR op_ge (pv 3) pe_int (nomark _)) (pmeth (pv 2) (cl_Page T) (me_Page_kind T) (has_Page_kind T) (hr.mono (by omega)) pass0 (pa_cons (pv 3) pa_nil)) pe_str))
 (Evl.pss_cut (ps_set (i := 5) sc_State_click.nd rfl (Or.inl rfl) (pe_ifExp (pt_cmpR op_in_seq (pv 4) (pe_tup (pa_cons (pgs (gs_CHECK T) rfl) (pa_cons (pgs (gs_RADIO T) rfl) pa_nil))) (by rfl)) (pe_lc (own := [("own", 7)]) (g := gName 7)  rfl sc_State_click.nd (pi_list (pmeth (pv 2) (cl_Page T) (me_Page_group_of T) (has_Page_group_of T) (hr.mono (by omega)) pass0 (pa_cons (pv 3) pa_nil))) (blkOk_by (N := N_State_click) (sc := defScope s_State_click) (by decide +kernel)) (fun _ _ _ _ _ => (pg_name (i := 7) sc_State_click.nd rfl (Or.inl rfl))) (fun _ _ _ _ _ => (re_t (pts_one (pt_val (pe_ix ix_list (pe_fld (pv 0) rfl) (pv 7) (fun _ _ => rfl)))) (by walk_at "wk"))) (fun _ _ _ _ _ => (re_e (pv 7) (by walk_at "wk")))) (pe_lst pa_nil)))
 (Evl.pss_cut (ps_if (PW.pt (pw_or (pt_cmpR op_eq (pv 4) (pgs (gs_RADIO T) rfl) (nomark _)) (pw_or1 (PW.pt (pw_and (pt_cmpR op_eq (pv 4) (pgs (gs_CHECK T) rfl) (nomark _)) (pw_and1 (pt_cmpR op_eq (pe_callB c_len (by rfl) (fr_len T) PySem.boot_len (pa_cons (pv 5) pa_nil)) pe_int (nomark _)))))))) (pss_one (ps_expr (pmeth (pv 0) (cl_State T) (me_State_tick T) (has_State_tick T) (hr.mono (by omega)) pass0 (pa_cons (pv 3) pa_nil)))) (pss_one (ps_if (pt_cmpR op_eq (pv 4) (pgs (gs_CHECK T) rfl) (nomark _)) (pss_one (ps_asg pe_bl (pg_sub (pe_fld (pv 0) rfl) (pv 3) set_list))) pss_nil)))
 (pss_cons (ps_set (i := 6) sc_State_click.nd rfl (Or.inl rfl) (pmeth (pv 0) (cl_State T) (me_State_dispatch T) (has_State_dispatch T hc hl) (hr.mono (by omega)) pass0 (pa_cons (pv 1) pa_nil)))
 (pss_one (ps_if (pt_cmpR op_ge (pv 3) pe_int (nomark _)) (pss_one (ps_if (pt_val (pv 6)) (pss_one (ps_expr (pmeth (pv 0) (cl_State T) (me_State_take_back T) (has_State_take_back T) (hr.mono (by omega)) pass0 (pa_cons (pv 3) (pa_cons (pv 4) (pa_cons (pv 5) pa_nil)))))) (pss_one (ps_expr (pmeth (pv 0) (cl_State T) (me_State_activate T) (has_State_activate T hc hl) (hr.mono (by omega)) pass0 (pa_cons (pv 3) (pa_cons (pv 4) pa_nil))))))) pss_nil))))))))), ?_⟩
  obtain ⟨k', hkb', _, G, A, p, s, log, ws, i, rfl, gs, m, wf, hi, hkw', hlen, kk⟩ := h
  have hwn := nd_len _ ws m.w.nd m.w.lt
  obtain ⟨k, rfl⟩ : ∃ k, k' = k + 1 := ⟨k' - 1, by omega⟩
  have hkb : k ≤ bd := by omega
  have hkw : k + ws.length = p.items.length := by omega
  have : Cur G H := ⟨gs⟩
  obtain ⟨gl, wl, x1, x2, x3⟩ := m.x
  obtain ⟨lv, l1, l2⟩ := m.l
  have hlv := l2.length
  have hp8 := wf.len
  have ⟨pdx, tl, ol, dl, ll, ts, ls, ins, hp⟩ := m.pg
  rw [disp_eq2] at kk hlen
  have hfl := fin_log p (clickBy (dispatch p k)) s ((wayOf p i).foldl (visit p (clickBy (dispatch p k))) ⟨s1S p s (targetOf p i), quiet, [.click i]⟩) (targetOf p i)
  have hvl := fold_log (visit_log p (clickBy (dispatch p k))) (wayOf p i) ⟨s1S p s (targetOf p i), quiet, [.click i]⟩
  have hvl : 1 ≤ ((wayOf p i).foldl (visit p (clickBy (dispatch p k))) ⟨s1S p s (targetOf p i), quiet, [.click i]⟩).log.length := hvl
  have htl : ∀ j, targetOf p i = some j → j < p.items.length := fun j h => target_lt wf hi h
  have hta : ∀ j, targetOf p i = some j → activates (kindAt p j) = true := fun j h => targ_act h
  walk_at "w"
  refine u_fld x1.h (cl_State T) (na_State_page T) fl_State_page ?_
  walk_at "w"
  refine u_fld x1.h (cl_State T) (na_State_log T) fl_State_log ?_
  walk_at "w"
  refine u_bmL l1.h ?_
  walk_at "w"
  refine u_tup (by show 2 ≤ sizeLine; decide) fun t3 G1 H1 s1 _ _ ht3 => ?_
  walk_at "w"
  refine u_app (s1.mu l1 List.not_mem_nil) (by rw [hlv, sizeLine_eq]; omega) fun G2 H2 s2 _ _ l4 => ?_
  walk_at "w"
  have m2 : StM K G2 H2 A p s (log ++ [.click i]) ws := put_log m l2 s1 s2 l4 ⟨t3, rfl, SqT.of (s2.g _ _ ht3)⟩
  have st2 : Stp A.F G H G2 H2 := s1.nil.trans (StM.wL s2)
  refine u_mth (on (st2.g _ _ ins)) fm_Page_activated ?_
  walk_at "w"
  refine u_target m2.pg wf hi fun G3 H3 s3 _ _ => ?_
  walk_at "w"
  have m3 := m2.nil s3
  have st3 := st2.trans s3.nil
  generalize hg : targetOf p i = g at *
  have ins3 : PgI K H3 A.pa pdx tl ol dl ll := st3.s _ _ (st3.g _ _ ins)
  have pg3 : PgH K H3 A.pa p := m3.pg.mono st3.s
  refine w_cut (fun σ' H' => H' = H3 ∧ σ' = [some (.ref A.a), some (.int (i : Nat)), some (.ref A.pa), some (.int (idxI g)), some (.str (kzS p g)), none, none, none]) ?_ ?_
  · walk_at "w"
    rw [idx_pos]
    cases g with
    | none =>
      refine iteF ?_
      walk_at "w"
      rfl
    | some j =>
      obtain ⟨x, hx⟩ := item_at (htl j rfl)
      refine iteT ?_
      walk_at "w"
      refine u_mth ins3 fm_Page_kind ?_
      walk_at "w"
      refine u_kind pg3 hx ?_
      walk_at "w"
      rw [← kind_at hx]; rfl
  rintro σ4 H4 ⟨rfl, rfl⟩
  obtain ⟨gl3, wl3, y1, y2, y3⟩ := m3.x
  refine w_cut (fun σ' H' => ∃ G' q, σ' = [some (.ref A.a), some (.int (i : Nat)), some (.ref A.pa), some (.int (idxI g)), some (.str (kzS p g)), some (.ref q), none, none] ∧ Stp [] G3 H4 G' H' ∧ G' q = some (.lst (natsV (blS p s g)))) ?_ ?_
  · walk_at "w"
    refine u_tup (by show 2 ≤ sizeLine; decide) fun tq G5 H5 s5 _ _ htq => ?_
    walk_at "w"
    refine u_in (H := H5) (.inr (SqT.of (on htq))) rfl rfl ?_
    walk_at "w"
    have fin0 : inV (.str (kzS p g)) [.str "check", .str "radio"] = false → blS p s g = [] := fun h => by
      cases g with
      | none => rfl
      | some j =>
        have h : canTick (kindAt p j) = false := (tick_in _).symm.trans h
        exact before_other p s j h
    refine w_ite (fun hb => ?_) (fun hb => ?_)
    · cases g with
      | none => exact absurd hb (by show ¬ inV (V.str "") [.str "check", .str "radio"] = true; decide +kernel)
      | some j =>
        have hct : canTick (kindAt p j) = true := (tick_in _).symm.trans hb
        have hjl := htl j rfl
        have m5 := m3.nil s5
        have ins5 : PgI K H5 A.pa pdx tl ol dl ll := s5.same _ _ ins3
        have pg5 : PgH K H5 A.pa p := pg3.mono s5.same
        walk_at "w"
        refine u_mth ins5 fm_Page_group_of ?_
        walk_at "w"
        refine u_group pg5 hjl hct (by omega) fun q6 G6 H6 s6 _ _ hq6 => ?_
        walk_at "w"
        have m6 := m5.nil s6
        obtain ⟨gl6, wl6, z1, z2, z3⟩ := m6.x
        refine u_iL (SqL.of (on hq6)) ?_
        have hgl := grp_len wf j
        refine u_lc (walk_list (xs := (groupL p j).map fun (j : Nat) => V.int (j : Nat))) (Yv := fun e v => ((groupL p j).map fun (j : Nat) => V.int (j : Nat))[e]? = some v) (fun i H x H' h => h) (fun H' s => s.seq (SqL.of (on hq6))) (by rw [List.length_map]; omega) (fun e => (((groupL p j)[e]?).map (isOn s)).getD false) (fun e y _ => ∃ j', (groupL p j)[e]? = some j' ∧ y = V.int (j' : Nat)) (fun _ _ _ _ _ h => h) ?_ ?_
        · rintro e v G7 H7 Qy Qn he s7 _ _ hv ky kn
          obtain ⟨j', hj', rfl⟩ := nats_at hv
          have hjl' := grp_lt hjl (List.mem_of_getElem? hj')
          have m7 := m6.nil s7
          obtain ⟨gl7, wl7, v1, v2, v3⟩ := m7.x
          walk_at "w"
          refine u_fld v1.h (cl_State T) (na_State_on T) fl_State_on ?_
          walk_at "w"
          refine w_ixL m7.o.sqL (atI_nat (bls_at (by rw [m7.w.on]; exact hjl'))) ?_
          walk_at "w"
          have ef : (((groupL p j)[e]?).map (isOn s)).getD false = s.on.getD j' false := by rw [hj']; rfl
          refine w_ite (fun hc => ?_) (fun hc => ?_)
          · walk_at "w"
            exact ky _ _ _ (Stp.refl s7.s) (ef.trans hc) ⟨j', hj', rfl⟩
          · walk_at "w"
            exact kn _ _ (Stp.refl s7.s) (ef.trans hc)
        · intro q ys G7 H7 s7 _ _ hq mu pr
          rw [List.length_map] at pr
          have e := pr_nats (f := isOn s) pr
          rw [filt_nat] at e
          walk_at "w"
          refine ⟨upd G7 q (.lst ys), q, rfl, ?_, ?_⟩
          · exact (s5.trans s6).trans (s7.keep hq mu.h)
          · rw [upd_same, e]
            show _ = some (HO.lst (natsV (beforeL p s j)))
            unfold beforeL
            rw [if_pos hct]
    · walk_at "w"
      refine u_lstK (by show 0 ≤ sizeLine; decide) fun q G6 H6 s6 _ _ hq => ?_
      walk_at "w"
      refine ⟨G6, q, rfl, s5.trans s6, ?_⟩
      rw [fin0 hb]; exact hq
  rintro σ5 H5 ⟨G5, q, rfl, s5, hq⟩
  have m5 := m3.nil s5
  have st5 := st3.trans s5.nil
  have : Cur G5 H5 := ⟨s5.s⟩
  obtain ⟨gl5, wl5, z1, z2, z3⟩ := m5.x
  refine w_cut (fun σ' H' => ∃ G', σ' = [some (.ref A.a), some (.int (i : Nat)), some (.ref A.pa), some (.int (idxI g)), some (.str (kzS p g)), some (.ref q), none, none] ∧ Stp A.F G5 H5 G' H' ∧ StM K G' H' A p (s1S p s g) (log ++ [.click i]) ws) ?_ ?_
  · cases g with
    | none =>
      walk_at "w"
      refine iteF ?_
      walk_at "w"
      refine iteF ?_
      walk_at "w"
      refine iteF ?_
      walk_at "w"
      exact ⟨G5, rfl, Stp.refl s5.s, m5⟩
    | some j =>
      have hjl := htl j rfl
      show (_ : Prop)
      cases hk : kindAt p j with
      | radio gg =>
        have hct : canTick (kindAt p j) = true := by rw [hk]; rfl
        have e : s1S p s (some j) = tickOn p s j := by
          show R7253f.Spec.before p s j = _
          unfold R7253f.Spec.before
          rw [hk]; rfl
        have ek : kzS p (some j) = "radio" := by show kwS (kindAt p j) = _; rw [hk]; rfl
        rw [e, ek]
        walk_at "w"
        refine iteT ?_
        walk_at "w"
        refine u_mth z1.h fm_State_tick ?_
        walk_at "w"
        refine u_tick m5 wf hjl hct fun G6 H6 s6 _ _ m6 => ?_
        walk_at "w"
        exact ⟨G6, rfl, s6, m6⟩
      | check =>
        have hct : canTick (kindAt p j) = true := by rw [hk]; rfl
        have e : s1S p s (some j) = if isOn s j then tickOff p s j else tickOn p s j := by
          show R7253f.Spec.before p s j = _
          unfold R7253f.Spec.before
          rw [hk]; rfl
        have ek : kzS p (some j) = "check" := by show kwS (kindAt p j) = _; rw [hk]; rfl
        have hb : blS p s (some j) = if isOn s j then [j] else [] := before_check p s j hk
        rw [hb] at hq
        rw [e, ek]
        cases ho : isOn s j with
        | true =>
          rw [ho] at hq
          walk_at "w"
          refine iteF ?_
          walk_at "w"
          refine iteT ?_
          walk_at "w"
          refine u_lenL (SqL.of (on hq)) ?_
          walk_at "w"
          refine iteF ?_
          walk_at "w"
          refine iteT ?_
          walk_at "w"
          refine u_fld z1.h (cl_State T) (na_State_on T) fl_State_on ?_
          walk_at "w"
          refine u_set (i := (j : Nat)) m5.o (ixN_nat (by rw [List.length_map, m5.w.on]; exact hjl)) fun G6 H6 s6 _ _ mo6 => ?_
          walk_at "w"
          refine ⟨G6, rfl, StM.wO s6, ?_⟩
          rw [if_pos rfl, tickOff_eq hct]
          exact m5.putO s6 (by rw [List.map_set]; exact mo6) (by rw [List.length_set, m5.w.on])
        | false =>
          rw [ho] at hq
          walk_at "w"
          refine iteF ?_
          walk_at "w"
          refine iteT ?_
          walk_at "w"
          refine u_lenL (SqL.of (on hq)) ?_
          walk_at "w"
          refine iteT ?_
          walk_at "w"
          refine u_mth z1.h fm_State_tick ?_
          walk_at "w"
          refine u_tick m5 wf hjl hct fun G6 H6 s6 _ _ m6 => ?_
          walk_at "w"
          refine ⟨G6, rfl, s6, ?_⟩
          rw [if_neg (by decide)]; exact m6
      | _ =>
        have e : s1S p s (some j) = s := by
          show R7253f.Spec.before p s j = _
          unfold R7253f.Spec.before
          rw [hk]; rfl
        have ek : kzS p (some j) ≠ "radio" ∧ kzS p (some j) ≠ "check" := by
          show kwS (kindAt p j) ≠ _ ∧ kwS (kindAt p j) ≠ _
          rw [hk]
          exact ⟨(fun z => by
            obtain ⟨_, h⟩ := kwS_radio.mp (congrArg V.str z)
            cases h), (fun z => by
            have := kwS_check.mp (congrArg V.str z)
            cases this)⟩
        rw [e]
        walk_at "w"
        rw [show decide (V.str (kzS p (some j)) = V.str "radio") = false from decide_eq_false fun z => ek.1 (V.str.inj z)]
        refine iteF ?_
        walk_at "w"
        rw [show decide (V.str (kzS p (some j)) = V.str "check") = false from decide_eq_false fun z => ek.2 (V.str.inj z)]
        refine iteF ?_
        walk_at "w"
        rw [show decide (V.str (kzS p (some j)) = V.str "check") = false from decide_eq_false fun z => ek.2 (V.str.inj z)]
        refine iteF ?_
        walk_at "w"
        exact ⟨G5, rfl, Stp.refl s5.s, m5⟩
  rintro σ6 H6 ⟨G6, rfl, s6, m6⟩
  have : Cur G6 H6 := ⟨s6.s⟩
  obtain ⟨gl6, wl6, v1, v2, v3⟩ := m6.x
  walk_at "w"
  refine u_mth v1.h fm_State_dispatch ?_
  walk_at "w"
  refine ⟨k, hkb, rfl, G6, A, p, s1S p s g, [.click i], log, ws, i, rfl, s6.s, m6, wf, hi, hkw, by omega, ?_⟩
  generalize hT : (wayOf p i).foldl (visit p (clickBy (dispatch p k))) ⟨s1S p s g, quiet, [.click i]⟩ = T0 at *
  intro G7 H7 s7 _ _ m7
  have st7 := (st5.trans s6).trans s7
  obtain ⟨gl7, wl7, a1, a2, a3⟩ := m7.x
  walk_at "w"
  rw [idx_pos]
  cases g with
  | none =>
    rw [fin_none] at kk
    refine iteF ?_
    walk_at "w"
    exact kk.go st7 m7
  | some j =>
    have hjl := htl j rfl
    rw [fin_some] at kk hlen
    refine iteT ?_
    walk_at "w"
    cases hcn : T0.flags.cancelled with
    | true =>
      rw [hcn, if_pos rfl] at kk hlen
      have hlen : log.length + (T0.log ++ [R7253f.Spec.Entry.cancel j]).length ≤ 16000000 := hlen
      rw [List.length_append] at hlen
      refine iteT ?_
      walk_at "w"
      refine u_mth a1.h fm_State_take_back ?_
      walk_at "w"
      refine ⟨rfl, G7, A, p, s, T0.state, log ++ T0.log, ws, j, q, rfl, s7.s, m7, wf, hjl, s7.g _ _ (s6.g _ _ hq), by rw [List.length_append]; omega, fun G8 H8 s8 _ _ m8 => ?_⟩
      refine kk.go (st7.trans s8) ?_
      rw [List.append_assoc] at m8; exact m8
    | false =>
      rw [hcn, if_neg (by decide)] at kk hlen
      have hlen : log.length + (T0.log ++ (activate p (clickBy (dispatch p k)) T0.state j).2).length ≤ 16000000 := hlen
      rw [List.length_append] at hlen
      refine iteF ?_
      walk_at "w"
      refine u_mth a1.h fm_State_activate ?_
      walk_at "w"
      refine ⟨k, hkb, rfl, G7, A, p, T0.state, log ++ T0.log, ws, j, rfl, s7.s, m7, wf, hjl, hta j rfl, hkw, by rw [List.length_append]; omega, fun G8 H8 s8 _ _ m8 => ?_⟩
      refine kk.go (st7.trans s8) ?_
      rw [List.append_assoc] at m8; exact m8
end
end Ck
namespace Ck
open PySem PySem.Spec PyProof.Rows L2
open He (ga ma fAd)
section
variable {P : Program} {w : World} {K : PySem.W.Frag} {mg : Str → Option Value} {base : Heap}
open R7253f.Spec (Units units itemNames kindAt isOn isOff isBusy dispatch clickBy userClick start)

theorem has_click_all (T : Txt K mg) : ∀ b : Nat, Has P w K mg base CX0 (5 * b + 5) ("State", some "click") ["self", "item"] (upTo b (spClick K))
  | 0 => by
    refine mk_has (k := 4) (d := d_State_click) T 27 rfl rfl rfl sc_State_click (fun _ _ _ _ _ _ us hl => match us, hl with | [_, _], _ => rfl) (fun vs H Q E h => upTo_len (fun _ _ _ _ _ h => h.1) vs H Q E h) (fun cdv A outer s H vs Q E hr h => ?_)
    obtain ⟨k, hk, _, G, A, p, s, log, ws, i, rfl, gs, m, wf, hi, hkw, _⟩ := h
    have := nd_len _ ws m.w.nd m.w.lt
    exact absurd hkw (by omega)
  | b + 1 => has_State_click T (has_click_all T b) (by omega)
theorem sql_old {K : PySem.W.Frag} {G H G' H' : Hp} {a dx x C : Addr} {fs : List (Str × V)} {xs : List V} (ha : H a = some (.ins C dx fs)) (st : Stp [a] G H G' H') (h : SqL K H x xs) : SqL K H' x xs := by
  rcases h with (h | ⟨o, h⟩) | h
  · refine .inl (.inl (st.h _ _ (fun z => ?_) h))
    rw [List.mem_singleton.mp z, ha] at h
    cases h
  · refine .inl (.inr ⟨o, st.h _ _ (fun z => ?_) h⟩)
    rw [List.mem_singleton.mp z, ha] at h
    cases h
  · exact .inr h
theorem start_w (p : SPage) : StW p (start p) [] := by
  refine ⟨?_, ?_, ?_, ?_, fun i hi => ?_, List.nodup_nil, fun i h => by cases h⟩
  · exact List.length_map _
  · exact List.length_map _
  · exact List.length_map _
  · exact List.length_map _
  · show (p.items.map fun _ => false).getD i false = false
    rw [List.getD_eq_getElem?_getD, List.getElem?_map]
    cases p.items[i]? <;> rfl
theorem start_gone (p : SPage) : goneL (start p).gone = [] := by
  unfold goneL
  rw [List.filter_eq_nil_iff]
  intro k _
  show ¬ (p.listeners.map fun _ => false).getD k false = true
  rw [List.getD_eq_getElem?_getD, List.getElem?_map]
  cases p.listeners[k]? <;> simp
theorem start_on (p : SPage) : (start p).on.map V.bl = onsV p := by unfold onsV; show List.map V.bl (List.map _ _) = _; rw [List.map_map]; rfl
theorem start_off (p : SPage) : (start p).off.map V.bl = offsV p := by unfold offsV; show List.map V.bl (List.map _ _) = _; rw [List.map_map]; rfl
theorem has_State_init (T : Txt K mg) : Has P w K mg base CX0 1 ("State", some "__init__") ["self", "page", "on", "disabled", "gone"] (spStInit K) := by
  refine mk_has (d := d_State_init) T 22 rfl rfl rfl sc_State_init (fun _ _ _ _ _ _ us hl => match us, hl with | [_, _, _, _, _], _ => rfl) (fun vs H Q E h => h.1) (fun cdv A outer s H vs Q E hr h => ?_)
  refine ⟨_, PSs.nox (pss_cons (ps_fld (pv 0) (pv 1) rfl)
 (pss_cons (ps_fld (pv 0) (pe_callTy c_list (by rfl) (fr_list T) (by decide +kernel) (pa_cons (pv 2) pa_nil)) rfl)
 (pss_cons (ps_fld (pv 0) (pe_callTy c_list (by rfl) (fr_list T) (by decide +kernel) (pa_cons (pv 3) pa_nil)) rfl)
 (pss_cons (ps_fld (pv 0) (pe_callTy c_list (by rfl) (fr_list T) (by decide +kernel) (pa_cons (pv 4) pa_nil)) rfl)
 (pss_cons (ps_fld (pv 0) (pe_lst pa_nil) rfl)
 (pss_one (ps_fld (pv 0) (pe_lst pa_nil) rfl))))))), ?_⟩
  obtain ⟨_, G, a, dx, pa, o, d, g, p, s, rfl, gs, mu, pg, ho, hd, hg, w, wf, kk⟩ := h
  have : Cur G H := ⟨gs⟩
  walk_at "w"
  refine u_sfld mu (cl_State T) (na_State_page T) (by show 0 < 1000; decide) fun G1 H1 s1 _ _ mu1 => ?_
  walk_at "w"
  rw [fi_State_page] at mu1
  have na : ∀ {x : Addr} {xs : List V}, SqL K H x xs → H a = some (.ins (ga K "State") dx []) := fun _ => mu.h
  have old : ∀ {x : Addr} {xs : List V} {G' H' : Hp}, Stp [a] G H G' H' → SqL K H x xs → SqL K H' x xs := fun st h => sql_old mu.h st h
  refine u_lstM (.inl (old s1 ho)) fun ol G2 H2 s2 _ _ n2 m2 => ?_
  walk_at "w"
  refine u_sfld (s2.mu mu1 List.not_mem_nil) (cl_State T) (na_State_on T) (by show 1 < 1000; decide) fun G3 H3 s3 _ _ mu3 => ?_
  walk_at "w"
  rw [fi_State_on] at mu3
  have oa : ol ≠ a := (mu1.upd_ne' n2).symm
  have m2 := s3.mu m2 (by simpa using oa)
  have t3 : Stp [a] G H G3 H3 := (s1.trans s2.nil).trans s3
  refine u_lstM (.inl (old t3 hd)) fun dl G4 H4 s4 _ _ n4 m4 => ?_
  walk_at "w"
  refine u_sfld (s4.mu mu3 List.not_mem_nil) (cl_State T) (na_State_disabled T) (by show 2 < 1000; decide) fun G5 H5 s5 _ _ mu5 => ?_
  walk_at "w"
  rw [fi_State_disabled] at mu5
  have da : dl ≠ a := (mu3.upd_ne' n4).symm
  have od : ol ≠ dl := m2.upd_ne' n4
  have m2 := s5.mu (s4.mu m2 List.not_mem_nil) (by simpa using oa)
  have m4 := s5.mu m4 (by simpa using da)
  have t5 : Stp [a] G H G5 H5 := (t3.trans s4.nil).trans s5
  refine u_lstF (.inl (old t5 hg)) fun gl G6 H6 s6 _ _ hgl => ?_
  walk_at "w"
  refine u_sfld (s6.mu mu5 List.not_mem_nil) (cl_State T) (na_State_gone T) (by show 3 < 1000; decide) fun G7 H7 s7 _ _ mu7 => ?_
  walk_at "w"
  rw [fi_State_gone] at mu7
  have m2 := s7.mu (s6.mu m2 List.not_mem_nil) (by simpa using oa)
  have m4 := s7.mu (s6.mu m4 List.not_mem_nil) (by simpa using da)
  have t7 : Stp [a] G H G7 H7 := (t5.trans s6.nil).trans s7
  refine u_lst (Nat.zero_le _) fun lg G8 H8 s8 _ _ n8 m8 => ?_
  walk_at "w"
  refine u_sfld (s8.mu mu7 List.not_mem_nil) (cl_State T) (na_State_log T) (by show 4 < 1000; decide) fun G9 H9 s9 _ _ mu9 => ?_
  walk_at "w"
  rw [fi_State_log] at mu9
  have la : lg ≠ a := (mu7.upd_ne' n8).symm
  have ol' : ol ≠ lg := m2.upd_ne' n8
  have dl' : dl ≠ lg := m4.upd_ne' n8
  have m2 := s9.mu (s8.mu m2 List.not_mem_nil) (by simpa using oa)
  have m4 := s9.mu (s8.mu m4 List.not_mem_nil) (by simpa using da)
  have m8 := s9.mu m8 (by simpa using la)
  have t9 : Stp [a] G H G9 H9 := (t7.trans s8.nil).trans s9
  refine u_lstK (by show 0 ≤ sizeLine; decide) fun wl Ga Ha sa _ _ hwl => ?_
  walk_at "w"
  refine u_sfld (sa.mu mu9 List.not_mem_nil) (cl_State T) (na_State_within T) (by show 5 < 1000; decide) fun Gb Hb sb _ _ mub => ?_
  walk_at "w"
  rw [fi_State_within] at mub
  have m2 := sb.mu (sa.mu m2 List.not_mem_nil) (by simpa using oa)
  have m4 := sb.mu (sa.mu m4 List.not_mem_nil) (by simpa using da)
  have m8 := sb.mu (sa.mu m8 List.not_mem_nil) (by simpa using la)
  have tb : Stp [a] G H Gb Hb := (t9.trans sa.nil).trans sb
  refine (kk ol dl lg).go tb ?_ (s1.free n2) (t3.free n4) (t7.free n8)
  exact ⟨⟨gl, wl, mub, (((s7.g.trans s8.g).trans (s9.g.trans sa.g)).trans sb.g) _ _ hgl, sb.g _ _ hwl⟩, pg.mono tb.g, m2, m4, ⟨[], m8, .nil⟩, od, ol', dl', w⟩
theorem has_State_copied (T : Txt K mg) : Has P w K mg base CX0 3 ("State", some "copied") ["self"] (spCopied K) := by
  refine mk_has (d := d_State_copied) T 23 rfl rfl rfl sc_State_copied (fun _ _ _ _ _ _ us hl => match us, hl with | [_], _ => rfl) (fun vs H Q E h => h.1) (fun cdv A outer s H vs Q E hr h => ?_)
  refine ⟨_, PSs.nox (pss_one (ps_ret (pmake (has_State_init T) (mk_State T) (hr.mono (by omega)) rfl (gl_State T) pass0 (pa_cons (pe_fld (pv 0) rfl) (pa_cons (pe_fld (pv 0) rfl) (pa_cons (pe_fld (pv 0) rfl) (pa_cons (pe_fld (pv 0) rfl) pa_nil))))))), ?_⟩
  obtain ⟨_, G, a, pa, p, s, log, rfl, gs, sf, wf, kk⟩ := h
  have : Cur G H := ⟨gs⟩
  have ⟨⟨dx, ol, dl, gl, lg, wl, lv, h1, h2, h3, h4, h5, h6⟩, pg, w⟩ := sf
  walk_at "w"
  refine u_fld (on h1) (cl_State T) (na_State_page T) fl_State_page ?_
  walk_at "w"
  refine u_fld (on h1) (cl_State T) (na_State_on T) fl_State_on ?_
  walk_at "w"
  refine u_fld (on h1) (cl_State T) (na_State_disabled T) fl_State_disabled ?_
  walk_at "w"
  refine u_fld (on h1) (cl_State T) (na_State_gone T) fl_State_gone ?_
  walk_at "w"
  refine u_make fun x dx2 G1 H1 s1 _ _ hx mu1 => ?_
  refine ⟨rfl, G1, x, dx2, pa, ol, dl, gl, p, s, rfl, s1.s, mu1, pg.mono s1.g, SqL.of (on h2), SqL.of (on h3), SqL.of (on h4), w, wf, fun ol2 dl2 lg2 G2 H2 s2 _ _ m2 n1 n2 n3 => ⟨rfl, ?_⟩⟩
  exact (kk ⟨x, dx2, pa, ol2, dl2, lg2⟩).go ((s1.nil.trans s2).drop hx) rfl m2 hx (s1.free n1) (s1.free n2) (s1.free n3)
theorem has_first_state (T : Txt K mg) : Has P w K mg base CX0 3 ("first_state", none) ["page"] (spFirst K) := by
  refine mk_has (d := d_first_state) T 33 rfl rfl rfl sc_first_state (fun _ _ _ _ _ _ us hl => match us, hl with | [_], _ => rfl) (fun vs H Q E h => h.1) (fun cdv A outer s H vs Q E hr h => ?_)
  refine ⟨_, PSs.nox (pss_one (ps_ret (pmake (has_State_init T) (mk_State T) (hr.mono (by omega)) rfl (gl_State T) pass0 (pa_cons (pv 0) (pa_cons (pe_fld (pv 0) rfl) (pa_cons (pe_fld (pv 0) rfl) (pa_cons (pe_lst pa_nil) pa_nil))))))), ?_⟩
  obtain ⟨_, G, pa, p, rfl, gs, pg, wf, kk⟩ := h
  have : Cur G H := ⟨gs⟩
  have ⟨dx, tl, ol, dl, ll, ts, ls, ins, hp⟩ := pg
  walk_at "w"
  refine u_fld (on ins) (cl_Page T) (na_Page_on T) fl_Page_on ?_
  walk_at "w"
  refine u_fld (on ins) (cl_Page T) (na_Page_disabled T) fl_Page_disabled ?_
  walk_at "w"
  refine u_lstK (by show 0 ≤ sizeLine; decide) fun gl G1 H1 s1 _ _ hgl => ?_
  walk_at "w"
  refine u_make fun x dx2 G2 H2 s2 _ _ hx mu2 => ?_
  have s12 := s1.trans s2
  have up2 : ∀ {y : Addr} {xs : List V}, SqL K G y xs → SqL K H2 y xs := fun h => s12.s.seq (s12.g.seq h)
  refine ⟨rfl, G2, x, dx2, pa, ol, dl, gl, p, R7253f.Spec.start p, rfl, s12.s, mu2, pg.mono s12.g, by rw [start_on]; exact up2 hp.o, by rw [start_off]; exact up2 hp.d, by rw [start_gone]; exact SqL.of (s2.s _ _ (s2.g _ _ hgl)), start_w p, wf, fun ol2 dl2 lg2 G3 H3 s3 _ _ m3 n1 n2 n3 => ⟨rfl, ?_⟩⟩
  have hxH : H x = none := s1.free hx
  obtain ⟨G4, s4, _, sf⟩ := m3.frz ((s12.nil.trans s3).drop hxH) hxH (s12.free n1) (s12.free n2) (s12.free n3)
  exact (kk x).go s4 sf
theorem has_State_by_user (T : Txt K mg) : Has P w K mg base CX0 51 ("State", some "by_user") ["self", "item"] (spByUser K) := by
  refine mk_has (d := d_State_by_user) T 25 rfl rfl rfl sc_State_by_user (fun _ _ _ _ _ _ us hl => match us, hl with | [_, _], _ => rfl) (fun vs H Q E h => h.1) (fun cdv A outer s H vs Q E hr h => ?_)
  refine ⟨_, PSs.nox (pss_one (ps_if (pt_not (pt_val (pe_ix ix_list (pe_fld (pv 0) rfl) (pv 1) (fun _ _ => rfl)))) (pss_one (ps_expr (pmeth (pv 0) (cl_State T) (me_State_click T) (has_click_all T 9) (hr.mono (by omega)) pass0 (pa_cons (pv 1) pa_nil)))) pss_nil)), ?_⟩
  obtain ⟨_, G, A, p, s, i, rfl, gs, m, wf, hi, kk⟩ := h
  have : Cur G H := ⟨gs⟩
  obtain ⟨gl, wl, x1, x2, x3⟩ := m.x
  have hoff : s.off.getD i false = isOff s i := rfl
  have hul := user_len wf s i
  have hp8 := wf.len
  walk_at "w"
  refine u_fld x1.h (cl_State T) (na_State_disabled T) fl_State_disabled ?_
  walk_at "w"
  refine w_ixL m.d.sqL (atI_nat (bls_at (by rw [m.w.off]; exact hi))) ?_
  walk_at "w"
  rw [hoff]
  cases ho : isOff s i with
  | true =>
    have e : userClick p s i = (s, []) := by unfold userClick; rw [ho]; rfl
    rw [e] at kk
    refine iteF ?_
    walk_at "w"
    exact kk.go (Stp.refl gs) m
  | false =>
    have e : userClick p s i = dispatch p (p.items.length + 1) s i := by unfold userClick; rw [ho]; rfl
    rw [e] at kk hul
    refine iteT ?_
    walk_at "w"
    refine u_mth x1.h fm_State_click ?_
    walk_at "w"
    refine ⟨p.items.length + 1, by omega, u_click m wf hi rfl (by show 0 + _ ≤ _; omega) fun G1 H1 s1 _ _ m1 => ?_⟩
    exact kk.go s1 m1
theorem has_behind (T : Txt K mg) : Has P w K mg base CX0 53 ("behind", none) ["state", "item"] (spBehind K) := by
  refine mk_has (d := d_behind) T 34 rfl rfl rfl sc_behind (fun _ _ _ _ _ _ us hl => match us, hl with | [_, _], _ => rfl) (fun vs H Q E h => h.1) (fun cdv A outer s H vs Q E hr h => ?_)
  refine ⟨_, PSs.nox (pss_cons (ps_set (i := 2) sc_behind.nd rfl (Or.inl rfl) (pmeth0 (pv 0) (cl_State T) (me_State_copied T) (has_State_copied T) (hr.mono (by omega)) pass0))
 (pss_cons (ps_expr (pmeth (pv 2) (cl_State T) (me_State_by_user T) (has_State_by_user T) (hr.mono (by omega)) pass0 (pa_cons (pv 1) pa_nil)))
 (pss_one (ps_ret (pv 2))))), ?_⟩
  obtain ⟨_, G, a, pa, p, s, log, i, rfl, gs, sf, wf, hi, kk⟩ := h
  have : Cur G H := ⟨gs⟩
  have ⟨⟨dx, ol, dl, gl, lg, wl, lv, h1, h2, h3, h4, h5, h6⟩, pg, w⟩ := sf
  walk_at "w"
  refine u_mth (on h1) fm_State_copied ?_
  walk_at "w"
  refine u_copied sf wf fun A G1 H1 s1 _ _ hpa m1 n1 n2 n3 n4 => ?_
  walk_at "w"
  obtain ⟨gl1, wl1, x1, x2, x3⟩ := m1.x
  refine u_mth x1.h fm_State_by_user ?_
  walk_at "w"
  refine u_byUser m1 wf hi fun G2 H2 s2 _ _ m2 => ?_
  walk_at "w"
  have s12 : Stp [] G H G2 H2 := ((((s1.nil.trans s2).drop n1).drop n2).drop n3).drop n4
  obtain ⟨G3, s3, _, sf3⟩ := m2.frz s12 n1 n2 n3 n4
  rw [hpa] at sf3
  exact (kk A.a).go s3 sf3

end
end Ck
namespace Ck
open PySem PySem.Spec PyProof.Rows L2
open He (ga ma fAd)
open R7253f.Spec (Units units itemNames kindAt isOn isOff isBusy userClick start play lastOf rows firstClicks reached isEntry Goal maxClicks)
/-! ### rows of clicks -/
theorem play_last (p : SPage) : ∀ (u : List Nat) (x : SState × List SEntry), (play p x.1 u).getLastD x = u.foldl (fun x i => userClick p x.1 i) x
  | [], _ => rfl
  | i :: u, x => by
    show (userClick p x.1 i :: play p (userClick p x.1 i).1 u).getLastD x = _
    rw [List.getLastD_cons]
    exact play_last p u (userClick p x.1 i)
theorem last_fold (p : SPage) (s : SState) (u : List Nat) : lastOf p s u = u.foldl (fun x i => userClick p x.1 i) (s, []) := play_last p u (s, [])
theorem last_snoc (p : SPage) (s : SState) (u : List Nat) (i : Nat) : lastOf p s (u ++ [i]) = userClick p (lastOf p s u).1 i := by
  rw [last_fold, last_fold, List.foldl_append]; rfl
theorem rows_snoc (n : Nat) : ∀ k, rows n (k + 1) = (rows n k).flatMap fun u => (List.range n).map fun i => u ++ [i]
  | 0 => by
    show (List.range n).flatMap (fun i => [[i]]) = ([[]] : List (List Nat)).flatMap fun u => (List.range n).map fun i => u ++ [i]
    rw [List.flatMap_singleton]
    show _ = (List.range n).map fun i => [i]
    induction List.range n with
    | nil => rfl
    | cons x l ih => rw [List.flatMap_cons, ih]; rfl
  | k + 1 => by
    have ih := rows_snoc n k
    show (List.range n).flatMap (fun i => (rows n (k + 1)).map fun u => i :: u) = ((List.range n).flatMap fun i => (rows n k).map fun u => i :: u).flatMap fun u => (List.range n).map fun i => u ++ [i]
    rw [ih, List.flatMap_assoc]
    congr 1
    funext i
    rw [List.map_flatMap, List.flatMap_map]
    congr 1
    funext u
    rw [List.map_map]; rfl
theorem rows_len (n : Nat) : ∀ k, (rows n k).length = n ^ k
  | 0 => rfl
  | k + 1 => by
    rw [rows_snoc, List.length_flatMap]
    have h : ∀ l : List (List Nat), (l.map fun u => ((List.range n).map fun i => u ++ [i]).length).sum = l.length * n := by
      intro l
      induction l with
      | nil => simp
      | cons x l ih =>
        rw [List.map_cons, List.sum_cons, ih, List.length_map, List.length_range, List.length_cons, Nat.succ_mul]
        omega
    rw [h, rows_len n k, Nat.pow_succ]
theorem rows_mem {n : Nat} : ∀ {k : Nat} {u : List Nat}, u ∈ rows n k → u.length = k ∧ ∀ i ∈ u, i < n
  | 0, u, h => by
    rw [List.mem_singleton.mp h]
    exact ⟨rfl, fun i h => by cases h⟩
  | k + 1, u, h => by
    obtain ⟨i, hi, h⟩ := List.mem_flatMap.mp h
    obtain ⟨v, hv, rfl⟩ := List.mem_map.mp h
    obtain ⟨h1, h2⟩ := rows_mem hv
    refine ⟨by rw [List.length_cons, h1], fun j hj => ?_⟩
    rcases List.mem_cons.mp hj with rfl | hj
    · exact List.mem_range.mp hi
    · exact h2 j hj
theorem pow_le {n k : Nat} (hn : n ≤ 8) (hk : k ≤ 3) : n ^ k ≤ 512 := by
  have h1 : n ^ k ≤ 8 ^ k := Nat.pow_le_pow_left hn k
  have h2 : 8 ^ k ≤ 8 ^ 3 := Nat.pow_le_pow_right (by omega) hk
  have h3 : 8 ^ 3 = 512 := rfl
  omega
theorem find_flat {α : Type} {f : α → Bool} {r : Nat → List α} {t m : Nat} {u : α} (h : ∀ j < t, ∀ u ∈ r j, f u = false) (ht : t < m) (hu : (r t).find? f = some u) : ((List.range m).flatMap r).find? f = some u := by
  have e : List.range m = List.range t ++ (List.range' t (m - t)) := by
    rw [List.range_eq_range', List.range_eq_range']
    have := @List.range'_append_1 0 t (m - t)
    rw [Nat.zero_add] at this
    rw [this]
    congr 1
    omega
  have e2 : List.range' t (m - t) = t :: List.range' (t + 1) (m - t - 1) := by
    obtain ⟨d, hd⟩ : ∃ d, m - t = d + 1 := ⟨m - t - 1, by omega⟩
    rw [hd]; rfl
  rw [e, e2, List.flatMap_append, List.flatMap_cons, List.find?_append]
  have e3 : ((List.range t).flatMap r).find? f = none := by
    rw [List.find?_eq_none]
    intro x hx
    obtain ⟨j, hj, hx⟩ := List.mem_flatMap.mp hx
    rw [h j (List.mem_range.mp hj) x hx]; decide
  rw [e3, List.find?_append, hu]; rfl
theorem find_flat0 {α : Type} {f : α → Bool} {r : Nat → List α} {m : Nat} (h : ∀ j < m, ∀ u ∈ r j, f u = false) : ((List.range m).flatMap r).find? f = none := by
  rw [List.find?_eq_none]
  intro x hx
  obtain ⟨j, hj, hx⟩ := List.mem_flatMap.mp hx
  rw [h j (List.mem_range.mp hj) x hx]; decide
/-! ### rows as they lie in the heap -/
def RowA (K : PySem.W.Frag) (G : Hp) (pa : Addr) (p : SPage) (v : V) (u : List Nat) : Prop := ∃ t c st, v = .ref t ∧ SqT K G t [.ref c, .ref st] ∧ SqT K G c (natsV u) ∧ StF K G st pa p (lastOf p (start p) u).1 (lastOf p (start p) u).2
theorem RowA.mono {K : PySem.W.Frag} {G G' : Hp} {pa : Addr} {p : SPage} (s : Same G G') {v : V} {u : List Nat} : RowA K G pa p v u → RowA K G' pa p v u := fun ⟨t, c, st, e, h1, h2, h3⟩ => ⟨t, c, st, e, Same.sqT s h1, Same.sqT s h2, h3.mono s⟩
/-! ### goals -/
def gS : Goal → Str
  | .ticked => "ticked"
  | .unticked => "unticked"
  | .disabled => "disabled"
  | .enabled => "enabled"
  | .followed => "followed"
  | .submitted => "submitted"
  | .changed => "changed"
  | .cancelled => "cancelled"
def enS : SEntry → Str
  | .click _ => "click"
  | .hear _ => "hear"
  | .follow _ => "follow"
  | .submit _ => "submit"
  | .change _ => "change"
  | .cancel _ => "cancel"
  | .lost => ""
def enN : SEntry → Nat
  | .click i => i
  | .hear i => i
  | .follow i => i
  | .submit i => i
  | .change i => i
  | .cancel i => i
  | .lost => 0
theorem EnA.get {K : PySem.W.Frag} {G : Hp} {v : V} {e : SEntry} (h : EnA K G v e) : ∃ t, v = .ref t ∧ SqT K G t [.str (enS e), .int (enN e : Nat)] := by
  obtain ⟨t, e1, h⟩ := h
  cases e <;> first | exact ⟨t, e1, h⟩ | exact h.elim
def pdE (e : SEntry) : PyData := .tuple [.str (enS e), .int (enN e : Nat)]
theorem dp_en {K : PySem.W.Frag} {G H : Hp} (s : Same G H) : ∀ {lv : List V} {l : List SEntry}, Paired (EnA K G) lv l → DpAll K H lv (l.map pdE)
  | _, _, .nil => .nil
  | _, _, .cons h t => by
    obtain ⟨t', rfl, ht⟩ := h.get
    exact .cons (.tup (Same.sqT s ht) (.cons (.str _) (.cons (.int _) .nil))) (dp_en s t)
theorem enS_ok (e : SEntry) : PyData.strOk (enS e) = true := by
  cases e with
  | click i => show PyData.strOk "click" = true; decide +kernel
  | hear i => show PyData.strOk "hear" = true; decide +kernel
  | follow i => show PyData.strOk "follow" = true; decide +kernel
  | submit i => show PyData.strOk "submit" = true; decide +kernel
  | change i => show PyData.strOk "change" = true; decide +kernel
  | cancel i => show PyData.strOk "cancel" = true; decide +kernel
  | lost => show PyData.strOk "" = true; decide +kernel
theorem two_shaped {z : Str} {i : Nat} (h : PyData.strOk z = true) : SeqAt.shaped (.tuple [.str z, .int (i : Nat)]) = true := by
  show (PyData.canLay0 (.tuple [.str z, .int (i : Nat)]) && decide (PyData.depth (.tuple [.str z, .int (i : Nat)]) ≤ 64)) = true
  simp [PyData.canLay0, PyData.canLayAll0, PyData.depth, PyData.depthAll, h]
theorem pdE_lay : ∀ l : List SEntry, PyData.canLayAll0 (l.map pdE) = true
  | [] => rfl
  | x :: l => by
    show (PyData.canLay0 (pdE x) && PyData.canLayAll0 (l.map pdE)) = true
    rw [pdE_lay l]; simp [pdE, PyData.canLay0, PyData.canLayAll0, enS_ok]
theorem pdE_d1 (x : SEntry) : PyData.depth (pdE x) ≤ 3 := by simp [pdE, PyData.depth, PyData.depthAll]
theorem pdE_depth : ∀ l : List SEntry, PyData.depthAll (l.map pdE) ≤ 3
  | [] => by simp [PyData.depthAll]
  | x :: l => by
    have := pdE_depth l
    have := pdE_d1 x
    simp only [List.map_cons, PyData.depthAll]
    omega
theorem pdE_shaped (l : List SEntry) : SeqAt.shaped (.list (l.map pdE)) = true := by
  have h1 := pdE_depth l
  have h2 : PyData.depth (.list (l.map pdE)) ≤ 64 := by
    simp only [PyData.depth]
    omega
  show (PyData.canLay0 (.list (l.map pdE)) && decide (PyData.depth (.list (l.map pdE)) ≤ 64)) = true
  rw [Bool.and_eq_true]
  exact ⟨by simp only [PyData.canLay0]; exact pdE_lay l, decide_eq_true h2⟩
theorem pdE_eqv (e : SEntry) (z : Str) (i : Nat) : PyData.eqv (pdE e) (.tuple [.str z, .int (i : Nat)]) = (enS e == z && enN e == i) := by
  simp only [pdE, PyData.eqv, PyData.eqvAll, Bool.and_true]
  congr 1
  rw [Bool.eq_iff_iff]
  simp
  omega
def gW : Goal → Str
  | .followed => "follow"
  | .submitted => "submit"
  | .changed => "change"
  | .cancelled => "cancel"
  | _ => ""
def isEv : Goal → Bool
  | .followed => true
  | .submitted => true
  | .changed => true
  | .cancelled => true
  | _ => false
theorem ev_entry {g : Goal} (h : isEv g = true) (i : Nat) (e : SEntry) : (enS e == gW g && enN e == i) = isEntry g i e := by
  have b : ∀ (x y : Str), (x == y) = decide (x = y) := fun x y => by
    rw [Bool.eq_iff_iff]; simp
  have d : ∀ (n : Nat), (n == i) = (i == n) := fun n => by
    rw [Bool.eq_iff_iff]; simp; exact eq_comm
  have t1 : decide (("follow" : Str) = "follow") = true := by decide +kernel
  have key : ∀ (x y : Str) (n : Nat) (bb : Bool), decide (x = y) = bb → (x == y && n == i) = (bb && i == n) := fun x y n bb hb => by rw [b, hb, d]
  cases g with
  | followed =>
    cases e with
    | click n => exact (key "click" "follow" n false (by decide +kernel)).trans rfl
    | hear n => exact (key "hear" "follow" n false (by decide +kernel)).trans rfl
    | follow n => exact (key "follow" "follow" n true (by decide +kernel)).trans rfl
    | submit n => exact (key "submit" "follow" n false (by decide +kernel)).trans rfl
    | change n => exact (key "change" "follow" n false (by decide +kernel)).trans rfl
    | cancel n => exact (key "cancel" "follow" n false (by decide +kernel)).trans rfl
    | lost => exact (key "" "follow" 0 false (by decide +kernel)).trans rfl
  | submitted =>
    cases e with
    | click n => exact (key "click" "submit" n false (by decide +kernel)).trans rfl
    | hear n => exact (key "hear" "submit" n false (by decide +kernel)).trans rfl
    | follow n => exact (key "follow" "submit" n false (by decide +kernel)).trans rfl
    | submit n => exact (key "submit" "submit" n true (by decide +kernel)).trans rfl
    | change n => exact (key "change" "submit" n false (by decide +kernel)).trans rfl
    | cancel n => exact (key "cancel" "submit" n false (by decide +kernel)).trans rfl
    | lost => exact (key "" "submit" 0 false (by decide +kernel)).trans rfl
  | changed =>
    cases e with
    | click n => exact (key "click" "change" n false (by decide +kernel)).trans rfl
    | hear n => exact (key "hear" "change" n false (by decide +kernel)).trans rfl
    | follow n => exact (key "follow" "change" n false (by decide +kernel)).trans rfl
    | submit n => exact (key "submit" "change" n false (by decide +kernel)).trans rfl
    | change n => exact (key "change" "change" n true (by decide +kernel)).trans rfl
    | cancel n => exact (key "cancel" "change" n false (by decide +kernel)).trans rfl
    | lost => exact (key "" "change" 0 false (by decide +kernel)).trans rfl
  | cancelled =>
    cases e with
    | click n => exact (key "click" "cancel" n false (by decide +kernel)).trans rfl
    | hear n => exact (key "hear" "cancel" n false (by decide +kernel)).trans rfl
    | follow n => exact (key "follow" "cancel" n false (by decide +kernel)).trans rfl
    | submit n => exact (key "submit" "cancel" n false (by decide +kernel)).trans rfl
    | change n => exact (key "change" "cancel" n false (by decide +kernel)).trans rfl
    | cancel n => exact (key "cancel" "cancel" n true (by decide +kernel)).trans rfl
    | lost => exact (key "" "cancel" 0 false (by decide +kernel)).trans rfl
  | _ => cases h
/-! ### promises -/
section
variable (K : PySem.W.Frag)
def spReached : Sp := fun vs H Q _ => vs.length = 3 ∧ ∃ (G : Hp) (a pa : Addr) (p : SPage) (s : SState) (log : List SEntry) (g : Goal) (i : Nat), vs = [.ref a, .str (gS g), .int (i : Nat)] ∧ Same G H ∧ StF K G a pa p s log ∧ i < p.items.length ∧ Nxt [] G H fun _ H' => Q (.bl (reached g i (s, log))) H'
def spFirstC : Sp := fun vs H Q _ => vs.length = 3 ∧ ∃ (G : Hp) (pa : Addr) (p : SPage) (g : Goal) (i : Nat), vs = [.ref pa, .str (gS g), .int (i : Nat)] ∧ Same G H ∧ PgH K G pa p ∧ PgW p ∧ i < p.items.length ∧
  ∀ v, Nxt [] G H fun G' H' => (match firstClicks p g i with | none => v = .non | some u => ∃ t, v = .ref t ∧ SqT K G' t (natsV u) ∧ u.length ≤ 3 ∧ ∀ i ∈ u, i < p.items.length) → Q v H'
def spScen : Sp := fun vs H Q _ => vs.length = 2 ∧ ∃ (G : Hp) (pa : Addr) (p : SPage) (n : Nat), vs = [.ref pa, .int (n : Nat)] ∧ Same G H ∧ PgH K G pa p ∧ PgW p ∧ n ≤ 2 ∧ ∀ q rv, Nxt [] G H fun G' H' => G' q = some (.lst rv) → Paired (RowA K G' pa p) rv (rows p.items.length n) → Q (.ref q) H'
end
section
variable {K : PySem.W.Frag} {G H : Hp} {Q : VK} {E : XK} {a pa : Addr} {p : SPage} {s : SState} {log : List SEntry} {i : Nat} {g : Goal}
theorem u_reached [q : Cur G H] (h : StF K G a pa p s log) (hi : i < p.items.length) (k : Nxt [] G H fun _ H' => Q (.bl (reached g i (s, log))) H') : spReached K [.ref a, .str (gS g), .int (i : Nat)] H Q E := ⟨rfl, G, a, pa, p, s, log, g, i, rfl, q.s, h, hi, k⟩
end
theorem w_disp {trs : List (TE × TE)} {σ : L2.St} {H : Hp} {Q : VK} (k : ∀ p, H p = none → tPairs trs σ (upd H p (.dK [])) fun ps H2 => H2 p = some (.dK []) ∧ ∃ kvs : List (Key × V), ps = kvs.map (fun kv => (kV kv.1, kv.2)) ∧ kvs.length ≤ 15 ∧ Q (.ref p) (upd H2 p (.dK (mergeK [] kvs)))) : tDisp trs σ H Q := k
end Ck
namespace Ck
open PySem PySem.Spec PyProof.Rows L2
open He (ga ma fAd)
section
variable {P : Program} {w : World} {K : PySem.W.Frag} {mg : Str → Option Value} {base : Heap}
open R7253f.Spec (Units units itemNames kindAt isOn isOff isBusy userClick start play lastOf rows firstClicks reached isEntry Goal maxClicks)
theorem has_is_reached (T : Txt K mg) : Has P w K mg base CX0 1 ("is_reached", none) ["state", "goal", "item"] (spReached K) := by
  refine mk_has (d := d_is_reached) T 35 rfl rfl rfl sc_is_reached (fun _ _ _ _ _ _ us hl => match us, hl with | [_, _, _], _ => rfl) (fun vs H Q E h => h.1) (fun cdv A outer s H vs Q E hr h => ?_)
  refine ⟨_, PSs.nox (pss_cons (ps_if (PW.pt (pw_or (pt_cmpR op_eq (pv 1) pe_str (nomark _)) (pw_or1 (pt_cmpR op_eq (pv 1) pe_str (nomark _))))) (pss_one (ps_ret (pe_cmpR op_eq (pe_ix ix_list (pe_fld (pv 0) rfl) (pv 2) (fun _ _ => rfl)) (pe_cmpR op_eq (pv 1) pe_str (nomark _)) (nomark _)))) pss_nil)
 (pss_cons (ps_if (PW.pt (pw_or (pt_cmpR op_eq (pv 1) pe_str (nomark _)) (pw_or1 (pt_cmpR op_eq (pv 1) pe_str (nomark _))))) (pss_one (ps_ret (pe_cmpR op_eq (pe_ix ix_list (pe_fld (pv 0) rfl) (pv 2) (fun _ _ => rfl)) (pe_cmpR op_eq (pv 1) pe_str (nomark _)) (nomark _)))) pss_nil)
 (pss_cons (ps_set (i := 3) sc_is_reached.nd rfl (Or.inl rfl) (pe_disp (pps_cons pe_str (pgs (gs_FOLLOW T) rfl) (pps_cons pe_str (pgs (gs_SUBMIT T) rfl) (pps_cons pe_str (pgs (gs_CHANGE T) rfl) (pps_cons pe_str (pgs (gs_CANCEL T) rfl) pps_nil)))) rfl rfl (by intro h; cases h) (by decide)))
 (pss_one (ps_ret (pe_cmpR (op_inD (hu65 hr)) (pe_tup (pa_cons (pe_dget (hu_of hr) (pv 3) (pv 1) (fun _ _ => rfl)) (pa_cons (pv 2) pa_nil))) (pe_fld (pv 0) rfl) (by rfl))))))), ?_⟩
  obtain ⟨_, G, a, pa, p, s, log, g, i, rfl, gs, sf, hi, kk⟩ := h
  have : Cur G H := ⟨gs⟩
  have ⟨⟨dx, ol, dl, gl, lg, wl, lv, h1, h2, h3, h4, h5, h6⟩, pg, w⟩ := sf
  have ho : (s.on.map V.bl)[i]? = some (.bl (isOn s i)) := bls_at (by rw [w.on]; exact hi)
  have hd : (s.off.map V.bl)[i]? = some (.bl (isOff s i)) := bls_at (by rw [w.off]; exact hi)
  have bdec : ∀ (x y : Bool), decide (V.bl x = V.bl y) = (x == y) := fun x y => by cases x <;> cases y <;> decide
  cases g with
  | ticked =>
    walk_at "w"
    refine iteT ?_
    walk_at "w"
    refine u_fld (on h1) (cl_State T) (na_State_on T) fl_State_on ?_
    walk_at "w"
    refine w_ixL (SqL.of (on h2)) (atI_nat ho) ?_
    walk_at "w"
    rw [bdec]
    have e : (isOn s i == decide (V.str (gS .ticked) = V.str "ticked")) = reached .ticked i (s, log) := by
      show (isOn s i == true) = isOn s i
      cases isOn s i <;> rfl
    rw [← e] at kk
    exact kk.go (Stp.refl gs)
  | unticked =>
    walk_at "w"
    refine iteF ?_
    walk_at "w"
    refine iteT ?_
    walk_at "w"
    refine u_fld (on h1) (cl_State T) (na_State_on T) fl_State_on ?_
    walk_at "w"
    refine w_ixL (SqL.of (on h2)) (atI_nat ho) ?_
    walk_at "w"
    rw [bdec]
    have e : (isOn s i == decide (V.str (gS .unticked) = V.str "ticked")) = reached .unticked i (s, log) := by
      show (isOn s i == false) = !isOn s i
      cases isOn s i <;> rfl
    rw [← e] at kk
    exact kk.go (Stp.refl gs)
  | disabled =>
    walk_at "w"
    refine iteF ?_
    walk_at "w"
    refine iteF ?_
    walk_at "w"
    refine iteT ?_
    walk_at "w"
    refine u_fld (on h1) (cl_State T) (na_State_disabled T) fl_State_disabled ?_
    walk_at "w"
    refine w_ixL (SqL.of (on h3)) (atI_nat hd) ?_
    walk_at "w"
    rw [bdec]
    have e : (isOff s i == decide (V.str (gS .disabled) = V.str "disabled")) = reached .disabled i (s, log) := by
      show (isOff s i == true) = isOff s i
      cases isOff s i <;> rfl
    rw [← e] at kk
    exact kk.go (Stp.refl gs)
  | enabled =>
    walk_at "w"
    refine iteF ?_
    walk_at "w"
    refine iteF ?_
    walk_at "w"
    refine iteF ?_
    walk_at "w"
    refine iteT ?_
    walk_at "w"
    refine u_fld (on h1) (cl_State T) (na_State_disabled T) fl_State_disabled ?_
    walk_at "w"
    refine w_ixL (SqL.of (on h3)) (atI_nat hd) ?_
    walk_at "w"
    rw [bdec]
    have e : (isOff s i == decide (V.str (gS .enabled) = V.str "disabled")) = reached .enabled i (s, log) := by
      show (isOff s i == false) = !isOff s i
      cases isOff s i <;> rfl
    rw [← e] at kk
    exact kk.go (Stp.refl gs)
  | followed =>
    have hev : isEv .followed = true := rfl
    have hlv := h6.length
    walk_at "w"
    refine iteF ?_
    walk_at "w"
    refine iteF ?_
    walk_at "w"
    refine iteF ?_
    walk_at "w"
    refine iteF ?_
    walk_at "w"
    refine w_disp fun d hd => ?_
    simp only [tPairs]
    walk_at "w"
    refine ⟨upd_same, [(.inr "followed", .str "follow"), (.inr "submitted", .str "submit"), (.inr "changed", .str "change"), (.inr "cancelled", .str "cancel")], rfl, by decide, ?_⟩
    have st1 : Stp [] G H G (upd H d (.dK [])) := Stp.layM gs hd
    have mu1 : Mu G (upd H d (.dK [])) d (.dK []) := Mu.lay hd gs
    have st2 : Stp [d] G (upd H d (.dK [])) G (upd (upd H d (.dK [])) d (.dK (mergeK [] [(.inr "followed", .str "follow"), (.inr "submitted", .str "submit"), (.inr "changed", .str "change"), (.inr "cancelled", .str "cancel")]))) := Stp.put st1.s mu1.g List.mem_cons_self
    have mu2 : Mu G (upd (upd H d (.dK [])) d (.dK (mergeK [] [(.inr "followed", .str "follow"), (.inr "submitted", .str "submit"), (.inr "changed", .str "change"), (.inr "cancelled", .str "cancel")]))) d (.dK (mergeK [] [(.inr "followed", .str "follow"), (.inr "submitted", .str "submit"), (.inr "changed", .str "change"), (.inr "cancelled", .str "cancel")])) := mu1.put
    have s12 := (st1.nil.trans st2).drop hd
    generalize upd (upd H d (.dK [])) d (.dK (mergeK [] [(.inr "followed", .str "follow"), (.inr "submitted", .str "submit"), (.inr "changed", .str "change"), (.inr "cancelled", .str "cancel")])) = H2 at *
    have : Cur G H2 := ⟨s12.s⟩
    walk_at "w"
    refine u_dget (i := .inr (gS .followed)) mu2.h (v := .str (gW .followed)) (by decide +kernel) ?_
    walk_at "w"
    refine u_tup (by show 2 ≤ sizeLine; decide) fun t3 G3 H3 s3 _ _ ht3 => ?_
    walk_at "w"
    refine u_fld (s3.s _ _ (s3.g _ _ h1)) (cl_State T) (na_State_log T) fl_State_log ?_
    walk_at "w"
    have h5' : SqL K H3 lg lv := SqL.of (s3.s _ _ (s3.g _ _ h5))
    refine ⟨.tuple [.str (gW .followed), .int (i : Nat)], log.map pdE, .tup (SqT.of (s3.s _ _ ht3)) (.cons (.str _) (.cons (.int _) .nil)), .lst h5' (dp_en (s3.g.trans s3.s) h6), two_shaped (by decide +kernel), pdE_shaped log, ?_⟩
    have e : ((log.map pdE).any fun z => PyData.eqv z (.tuple [.str (gW .followed), .int (i : Nat)])) = reached .followed i (s, log) := by
      show _ = log.any (isEntry .followed i)
      rw [List.any_map]
      congr 1
      funext e
      exact (pdE_eqv e _ i).trans (ev_entry hev i e)
    rw [e]
    exact kk.go (s12.trans s3)

  | submitted =>
    have hev : isEv .submitted = true := rfl
    have hlv := h6.length
    walk_at "w"
    refine iteF ?_
    walk_at "w"
    refine iteF ?_
    walk_at "w"
    refine iteF ?_
    walk_at "w"
    refine iteF ?_
    walk_at "w"
    refine w_disp fun d hd => ?_
    simp only [tPairs]
    walk_at "w"
    refine ⟨upd_same, [(.inr "followed", .str "follow"), (.inr "submitted", .str "submit"), (.inr "changed", .str "change"), (.inr "cancelled", .str "cancel")], rfl, by decide, ?_⟩
    have st1 : Stp [] G H G (upd H d (.dK [])) := Stp.layM gs hd
    have mu1 : Mu G (upd H d (.dK [])) d (.dK []) := Mu.lay hd gs
    have st2 : Stp [d] G (upd H d (.dK [])) G (upd (upd H d (.dK [])) d (.dK (mergeK [] [(.inr "followed", .str "follow"), (.inr "submitted", .str "submit"), (.inr "changed", .str "change"), (.inr "cancelled", .str "cancel")]))) := Stp.put st1.s mu1.g List.mem_cons_self
    have mu2 : Mu G (upd (upd H d (.dK [])) d (.dK (mergeK [] [(.inr "followed", .str "follow"), (.inr "submitted", .str "submit"), (.inr "changed", .str "change"), (.inr "cancelled", .str "cancel")]))) d (.dK (mergeK [] [(.inr "followed", .str "follow"), (.inr "submitted", .str "submit"), (.inr "changed", .str "change"), (.inr "cancelled", .str "cancel")])) := mu1.put
    have s12 := (st1.nil.trans st2).drop hd
    generalize upd (upd H d (.dK [])) d (.dK (mergeK [] [(.inr "followed", .str "follow"), (.inr "submitted", .str "submit"), (.inr "changed", .str "change"), (.inr "cancelled", .str "cancel")])) = H2 at *
    have : Cur G H2 := ⟨s12.s⟩
    walk_at "w"
    refine u_dget (i := .inr (gS .submitted)) mu2.h (v := .str (gW .submitted)) (by decide +kernel) ?_
    walk_at "w"
    refine u_tup (by show 2 ≤ sizeLine; decide) fun t3 G3 H3 s3 _ _ ht3 => ?_
    walk_at "w"
    refine u_fld (s3.s _ _ (s3.g _ _ h1)) (cl_State T) (na_State_log T) fl_State_log ?_
    walk_at "w"
    have h5' : SqL K H3 lg lv := SqL.of (s3.s _ _ (s3.g _ _ h5))
    refine ⟨.tuple [.str (gW .submitted), .int (i : Nat)], log.map pdE, .tup (SqT.of (s3.s _ _ ht3)) (.cons (.str _) (.cons (.int _) .nil)), .lst h5' (dp_en (s3.g.trans s3.s) h6), two_shaped (by decide +kernel), pdE_shaped log, ?_⟩
    have e : ((log.map pdE).any fun z => PyData.eqv z (.tuple [.str (gW .submitted), .int (i : Nat)])) = reached .submitted i (s, log) := by
      show _ = log.any (isEntry .submitted i)
      rw [List.any_map]
      congr 1
      funext e
      exact (pdE_eqv e _ i).trans (ev_entry hev i e)
    rw [e]
    exact kk.go (s12.trans s3)

  | changed =>
    have hev : isEv .changed = true := rfl
    have hlv := h6.length
    walk_at "w"
    refine iteF ?_
    walk_at "w"
    refine iteF ?_
    walk_at "w"
    refine iteF ?_
    walk_at "w"
    refine iteF ?_
    walk_at "w"
    refine w_disp fun d hd => ?_
    simp only [tPairs]
    walk_at "w"
    refine ⟨upd_same, [(.inr "followed", .str "follow"), (.inr "submitted", .str "submit"), (.inr "changed", .str "change"), (.inr "cancelled", .str "cancel")], rfl, by decide, ?_⟩
    have st1 : Stp [] G H G (upd H d (.dK [])) := Stp.layM gs hd
    have mu1 : Mu G (upd H d (.dK [])) d (.dK []) := Mu.lay hd gs
    have st2 : Stp [d] G (upd H d (.dK [])) G (upd (upd H d (.dK [])) d (.dK (mergeK [] [(.inr "followed", .str "follow"), (.inr "submitted", .str "submit"), (.inr "changed", .str "change"), (.inr "cancelled", .str "cancel")]))) := Stp.put st1.s mu1.g List.mem_cons_self
    have mu2 : Mu G (upd (upd H d (.dK [])) d (.dK (mergeK [] [(.inr "followed", .str "follow"), (.inr "submitted", .str "submit"), (.inr "changed", .str "change"), (.inr "cancelled", .str "cancel")]))) d (.dK (mergeK [] [(.inr "followed", .str "follow"), (.inr "submitted", .str "submit"), (.inr "changed", .str "change"), (.inr "cancelled", .str "cancel")])) := mu1.put
    have s12 := (st1.nil.trans st2).drop hd
    generalize upd (upd H d (.dK [])) d (.dK (mergeK [] [(.inr "followed", .str "follow"), (.inr "submitted", .str "submit"), (.inr "changed", .str "change"), (.inr "cancelled", .str "cancel")])) = H2 at *
    have : Cur G H2 := ⟨s12.s⟩
    walk_at "w"
    refine u_dget (i := .inr (gS .changed)) mu2.h (v := .str (gW .changed)) (by decide +kernel) ?_
    walk_at "w"
    refine u_tup (by show 2 ≤ sizeLine; decide) fun t3 G3 H3 s3 _ _ ht3 => ?_
    walk_at "w"
    refine u_fld (s3.s _ _ (s3.g _ _ h1)) (cl_State T) (na_State_log T) fl_State_log ?_
    walk_at "w"
    have h5' : SqL K H3 lg lv := SqL.of (s3.s _ _ (s3.g _ _ h5))
    refine ⟨.tuple [.str (gW .changed), .int (i : Nat)], log.map pdE, .tup (SqT.of (s3.s _ _ ht3)) (.cons (.str _) (.cons (.int _) .nil)), .lst h5' (dp_en (s3.g.trans s3.s) h6), two_shaped (by decide +kernel), pdE_shaped log, ?_⟩
    have e : ((log.map pdE).any fun z => PyData.eqv z (.tuple [.str (gW .changed), .int (i : Nat)])) = reached .changed i (s, log) := by
      show _ = log.any (isEntry .changed i)
      rw [List.any_map]
      congr 1
      funext e
      exact (pdE_eqv e _ i).trans (ev_entry hev i e)
    rw [e]
    exact kk.go (s12.trans s3)

  | cancelled =>
    have hev : isEv .cancelled = true := rfl
    have hlv := h6.length
    walk_at "w"
    refine iteF ?_
    walk_at "w"
    refine iteF ?_
    walk_at "w"
    refine iteF ?_
    walk_at "w"
    refine iteF ?_
    walk_at "w"
    refine w_disp fun d hd => ?_
    simp only [tPairs]
    walk_at "w"
    refine ⟨upd_same, [(.inr "followed", .str "follow"), (.inr "submitted", .str "submit"), (.inr "changed", .str "change"), (.inr "cancelled", .str "cancel")], rfl, by decide, ?_⟩
    have st1 : Stp [] G H G (upd H d (.dK [])) := Stp.layM gs hd
    have mu1 : Mu G (upd H d (.dK [])) d (.dK []) := Mu.lay hd gs
    have st2 : Stp [d] G (upd H d (.dK [])) G (upd (upd H d (.dK [])) d (.dK (mergeK [] [(.inr "followed", .str "follow"), (.inr "submitted", .str "submit"), (.inr "changed", .str "change"), (.inr "cancelled", .str "cancel")]))) := Stp.put st1.s mu1.g List.mem_cons_self
    have mu2 : Mu G (upd (upd H d (.dK [])) d (.dK (mergeK [] [(.inr "followed", .str "follow"), (.inr "submitted", .str "submit"), (.inr "changed", .str "change"), (.inr "cancelled", .str "cancel")]))) d (.dK (mergeK [] [(.inr "followed", .str "follow"), (.inr "submitted", .str "submit"), (.inr "changed", .str "change"), (.inr "cancelled", .str "cancel")])) := mu1.put
    have s12 := (st1.nil.trans st2).drop hd
    generalize upd (upd H d (.dK [])) d (.dK (mergeK [] [(.inr "followed", .str "follow"), (.inr "submitted", .str "submit"), (.inr "changed", .str "change"), (.inr "cancelled", .str "cancel")])) = H2 at *
    have : Cur G H2 := ⟨s12.s⟩
    walk_at "w"
    refine u_dget (i := .inr (gS .cancelled)) mu2.h (v := .str (gW .cancelled)) (by decide +kernel) ?_
    walk_at "w"
    refine u_tup (by show 2 ≤ sizeLine; decide) fun t3 G3 H3 s3 _ _ ht3 => ?_
    walk_at "w"
    refine u_fld (s3.s _ _ (s3.g _ _ h1)) (cl_State T) (na_State_log T) fl_State_log ?_
    walk_at "w"
    have h5' : SqL K H3 lg lv := SqL.of (s3.s _ _ (s3.g _ _ h5))
    refine ⟨.tuple [.str (gW .cancelled), .int (i : Nat)], log.map pdE, .tup (SqT.of (s3.s _ _ ht3)) (.cons (.str _) (.cons (.int _) .nil)), .lst h5' (dp_en (s3.g.trans s3.s) h6), two_shaped (by decide +kernel), pdE_shaped log, ?_⟩
    have e : ((log.map pdE).any fun z => PyData.eqv z (.tuple [.str (gW .cancelled), .int (i : Nat)])) = reached .cancelled i (s, log) := by
      show _ = log.any (isEntry .cancelled i)
      rw [List.any_map]
      congr 1
      funext e
      exact (pdE_eqv e _ i).trans (ev_entry hev i e)
    rw [e]
    exact kk.go (s12.trans s3)
end
end Ck
namespace Ck
open PySem PySem.Spec PyProof.Rows L2
open He (ga ma fAd)
section
variable {P : Program} {w : World} {K : PySem.W.Frag} {mg : Str → Option Value} {base : Heap}
open R7253f.Spec (Units units itemNames kindAt isOn isOff isBusy userClick start play lastOf rows firstClicks reached isEntry Goal maxClicks)

theorem paired_mk {α β : Type} {R : α → β → Prop} : ∀ {ys : List α} {xs : List β}, ys.length = xs.length → (∀ (i : Nat) (y : α) (x : β), ys[i]? = some y → xs[i]? = some x → R y x) → Paired R ys xs
  | [], [], _, _ => .nil
  | [], _ :: _, h, _ => by cases h
  | _ :: _, [], h, _ => by cases h
  | y :: ys, x :: xs, h, f => .cons (f 0 y x rfl rfl) (paired_mk (by simpa using h) fun i y x a b => f (i + 1) y x (by simpa using a) (by simpa using b))
theorem flat_snoc {α β : Type} {f : α → List β} {l : List α} {i : Nat} {x : α} (h : l[i]? = some x) : (l.take (i + 1)).flatMap f = (l.take i).flatMap f ++ f x := by
  rw [take_snoc h, List.flatMap_append, List.flatMap_singleton]
def nextU (p : SPage) (u : List Nat) : List (List Nat) := (List.range p.items.length).map fun i => u ++ [i]
theorem has_scenarios (T : Txt K mg) : Has P w K mg base CX0 55 ("scenarios", none) ["page", "length"] (spScen K) := by
  refine mk_has (d := d_scenarios) T 37 rfl rfl rfl sc_scenarios (fun _ _ _ _ _ _ us hl => match us, hl with | [_, _], _ => rfl) (fun vs H Q E h => h.1) (fun cdv A outer s H vs Q E hr h => ?_)
  refine ⟨_, PSs.nox (pss_cons (ps_set (i := 2) sc_scenarios.nd rfl (Or.inl rfl) (pe_lst (pa_cons (pe_tup (pa_cons (pe_tup pa_nil) (pa_cons (pcall (has_first_state T) (hr.mono (by omega)) rfl (gl_first_state T) pass0 (pa_cons (pv 0) pa_nil)) pa_nil))) pa_nil)))
 (pss_cons (ps_for PassesOwn.never rfl (pi_range1 (by rfl) (fr_range T) (pa_cons (pv 1) pa_nil)) (pg_name (i := 3) sc_scenarios.nd rfl (Or.inl rfl)) (pss_cons (ps_set (i := 4) sc_scenarios.nd rfl (Or.inl rfl) (pe_lst pa_nil))
 (pss_cons (ps_for PassesOwn.never rfl (pi_list (pv 2)) (pg_tup rfl (pgs_cons (pg_name (i := 5) sc_scenarios.nd rfl (Or.inr rfl)) (pgs_cons (pg_name (i := 6) sc_scenarios.nd rfl (Or.inr rfl)) pgs_nil))) (pss_one (ps_expr (pe_bm PySem.F.plainAttrs_list PySem.F.slot_list_extend PySem.F.type_list_extend mt_extend (pv 4) (pa_cons (pe_lc (own := [("own", 7)]) (g := gName 7) (tt := tYes) rfl sc_scenarios.nd (pi_range1 (by rfl) (fr_range T) (pa_cons (pe_callB c_len (by rfl) (fr_len T) PySem.boot_len (pa_cons (pe_fld (pv 0) rfl) pa_nil)) pa_nil)) (blkOk_by (N := N_scenarios) (sc := defScope s_scenarios) (by decide +kernel)) (fun _ _ _ _ _ => (pg_name (i := 7) sc_scenarios.nd rfl (Or.inl rfl))) (fun _ _ _ _ _ => pts_nil) (fun _ _ _ _ _ => (re_e (pe_tup (pa_cons (pe_op op_catA (pv 5) (pe_tup (pa_cons (pv 7) pa_nil))) (pa_cons (pcall (has_behind T) (hr.mono (by omega)) rfl (gl_behind T) pass0 (pa_cons (pv 6) (pa_cons (pv 7) pa_nil))) pa_nil))) (by walk_at "wk")))) pa_nil)))))
 (pss_one (ps_set (i := 2) sc_scenarios.nd rfl (Or.inl rfl) (pv 4))))))
 (pss_one (ps_ret (pv 2))))), ?_⟩
  obtain ⟨_, G, pa, p, n, rfl, gs, pg, wf, hn, kk⟩ := h
  have : Cur G H := ⟨gs⟩
  have hp8 := wf.len
  walk_at "w"
  refine u_tup (Nat.zero_le _) fun c0 G1 H1 s1 _ _ hc0 => ?_
  walk_at "w"
  refine u_first (pg.mono s1.g) wf fun b0 G2 H2 s2 _ _ hb0 => ?_
  walk_at "w"
  refine u_tup (by show 2 ≤ sizeLine; decide) fun t0 G3 H3 s3 _ _ ht0 => ?_
  walk_at "w"
  refine u_lstK (by show 1 ≤ sizeLine; decide) fun q0 G4 H4 s4 _ _ hq0 => ?_
  walk_at "w"
  have s14 := ((s1.trans s2).trans s3).trans s4
  refine u_iR (by omega) ?_
  refine u_for (walk_range (n := n)) (fun k σ H' => ∃ (G' : Hp) (q : Addr) (rv : List V) (v3 v4 v5 v6 : Option V), σ = [some (.ref pa), some (.int (n : Nat)), some (.ref q), v3, v4, v5, v6, none] ∧ Stp [] G H G' H' ∧ G' q = some (.lst rv) ∧ Paired (RowA K G' pa p) rv (rows p.items.length k)) ?_ (fun _ _ _ _ _ => trivial) ?_ ?_
  · exact ⟨G4, q0, _, none, none, none, none, rfl, s14, hq0, .cons ⟨t0, c0, b0, rfl, SqT.of (s4.g _ _ ht0), SqT.of (((s2.g.trans s3.g).trans s4.g) _ _ hc0), hb0.mono (s3.g.trans s4.g)⟩ .nil⟩
  · rintro k v σ H6 H6' hk ⟨G6, q, rv, v3, v4, v5, v6, rfl, s6, hq6, hrv6⟩ ⟨rfl, hv⟩
    have : Cur G6 H6' := ⟨s6.s⟩
    have hrl := hrv6.length
    have hrb : (rows p.items.length k).length ≤ 512 := by rw [rows_len]; exact pow_le wf.len (by omega)
    walk_at "w"
    refine u_lst (Nat.zero_le _) fun lq Ga Ha sa _ _ hlq mlq => ?_
    walk_at "w"
    have hlqH : H lq = none := s6.free hlq
    refine u_iL (sa.s.seq (SqL.of (sa.g _ _ hq6))) ?_
    refine u_for (walk_list (xs := rv)) (fun j σ H' => ∃ (G' : Hp) (lv : List V) (w5 w6 : Option V), σ = [some (.ref pa), some (.int (n : Nat)), some (.ref q), some v, some (.ref lq), w5, w6, none] ∧ Stp [] G H G' H' ∧ Same G6 G' ∧ Mu G' H' lq (.lst lv) ∧ Paired (RowA K G' pa p) lv (((rows p.items.length k).take j).flatMap (nextU p)) ∧ lv.length ≤ j * p.items.length) ?_ (fun j σ H' _ ⟨G', _, _, _, _, st, g, _⟩ => SqL.of (st.s _ _ (g _ _ hq6))) ?_ ?_
    · exact ⟨Ga, [], v5, v6, rfl, s6.trans sa, sa.g, mlq, .nil, Nat.zero_le _⟩
    · rintro j y σ H7 H7' hj ⟨G7, lv, w5, w6, rfl, s7, g67, mq7, pl7, hll7⟩ ⟨rfl, hv⟩
      have hb7 : j * p.items.length ≤ 512 * 8 := Nat.mul_le_mul (by omega) wf.len
      have : Cur G7 H7' := ⟨s7.s⟩
      have : Dn G6 G7 := ⟨g67⟩
      obtain ⟨u, hu, t, c, st, rfl, htt, hcc, hst⟩ := pr_getL hrv6 hv
      have hjl : j < (rows p.items.length k).length := (List.getElem?_eq_some_iff.mp hu).1
      have pg7 : PgH K G7 pa p := pg.mono (s6.g.trans g67)
      have ⟨pdx, tl, ol, dl, ll, ts, ls, ins, hp⟩ := pg7
      have htl := hp.it.length
      walk_at "w"
      refine u_gt (onT htt) rfl ?_
      walk_at "w"
      refine u_bmL mq7.h ?_
      walk_at "w"
      refine u_fld (on ins) (cl_Page T) (na_Page_things T) fl_Page_things ?_
      walk_at "w"
      refine u_lenL (s7.s.seq hp.t) ?_
      walk_at "w"
      rw [htl]
      refine u_iR (by omega) ?_
      refine u_lcA (walk_range (n := p.items.length)) (Yv := fun i v => v = .int (0 + (i : Int))) (fun i H x H' h => h) (fun _ _ => trivial) (by omega) (fun i y G' => RowA K G' pa p y (u ++ [i])) (fun _ _ _ _ s h => RowA.mono s h) ?_ ?_ (fun _ _ _ _ h q => mg_name h q)
      · rintro i y G8 H8 Qy hi s8 _ _ hy ky
        obtain rfl := rng0 hy
        have : Cur G8 H8 := ⟨s8.s⟩
        have : Dn G7 G8 := ⟨s8.g⟩
        have hcc8 : SqT K G8 c (natsV u) := Same.sqT (g67.trans s8.g) hcc
        have hst8 := hst.mono (g67.trans s8.g)
        have hul := (rows_mem (List.mem_of_getElem? hu)).1
        walk_at "w"
        refine u_tup (by show 1 ≤ sizeLine; decide) fun t9 G9 H9 s9 _ _ ht9 => ?_
        walk_at "w"
        refine u_catA (Same.sqT s9.g hcc8) (SqT.of ht9) (by intro h; cases h) (by unfold natsV; rw [List.length_map, hul]; exact lst_le (by show _ + 1 ≤ _; omega)) fun ca Ga Ha sa _ _ hca => ?_
        walk_at "w"
        refine u_behind (hst8.mono (s9.g.trans sa.g)) wf hi fun b Gb Hb sb _ _ hb => ?_
        walk_at "w"
        refine u_tup (by show 2 ≤ sizeLine; decide) fun td Gd Hd sd _ _ htd => ?_
        walk_at "w"
        refine ky _ _ _ (((s9.trans sa).trans sb).trans sd) ⟨td, ca, b, rfl, SqT.of htd, ?_, ?_⟩
        · have e : natsV (u ++ [i]) = natsV u ++ [V.int (i : Nat)] := by unfold natsV; rw [List.map_append]; rfl
          rw [e]; exact Same.sqT (sb.g.trans sd.g) hca
        · rw [last_snoc]; exact hb.mono sd.g
      intro q8 ys G8 H8 s8 _ _ hn8 mu8 hyl hys
      have pys : Paired (RowA K G8 pa p) ys (nextU p u) := paired_mk (by unfold nextU; rw [hyl, List.length_map, List.length_range]) fun i y x a b => by
        have hil := (List.getElem?_eq_some_iff.mp a).1
        unfold nextU at b
        rw [List.getElem?_map, List.getElem?_range (by omega)] at b
        rw [← Option.some.inj b]
        exact hys i y a
      have hql := pl7.length
      walk_at "w"
      refine u_ext (s8.mu mq7 List.not_mem_nil) mu8.h (lst_le (by omega)) fun G9 H9 s9 _ _ mq9 => ?_
      walk_at "w"
      refine ⟨G9, lv ++ ys, _, _, rfl, ((s7.trans s8).nil.trans s9).drop hlqH, (g67.trans s8.g).trans s9.g, mq9, ?_, ?_⟩
      · rw [flat_snoc hu]
        exact pairApp (Paired.mapP pl7 fun _ _ => RowA.mono (s8.g.trans s9.g)) (Paired.mapP pys fun _ _ => RowA.mono s9.g)
      · rw [List.length_append, hyl, Nat.succ_mul]; omega
    · rintro σ H7 ⟨G7, lv, w5, w6, rfl, s7, g67, mq7, pl7, hll7⟩
      rw [hrl, List.take_length] at pl7
      walk_at "w"
      refine ⟨_, lq, lv, some v, some (.ref lq), w5, w6, rfl, s7.keep hlqH mq7.h, upd_same, ?_⟩
      rw [rows_snoc]
      exact Paired.mapP pl7 fun _ _ => RowA.mono (Same.keep mq7.h s7.s)
  · rintro σ H6 ⟨G6, q, rv, v3, v4, v5, v6, rfl, s6, hq6, hrv6⟩
    walk_at "w"
    exact (kk q rv).go s6 hq6 hrv6
theorem has_first_clicks (T : Txt K mg) : Has P w K mg base CX0 55 ("first_clicks", none) ["page", "goal", "item"] (spFirstC K) := by
  refine mk_has (d := d_first_clicks) T 36 rfl rfl rfl sc_first_clicks (fun _ _ _ _ _ _ us hl => match us, hl with | [_, _, _], _ => rfl) (fun vs H Q E h => h.1) (fun cdv A outer s H vs Q E hr h => ?_)
  refine ⟨_, PSs.nox (pss_cons (ps_set (i := 3) sc_first_clicks.nd rfl (Or.inl rfl) (pe_lst (pa_cons (pe_tup (pa_cons (pe_tup pa_nil) (pa_cons (pcall (has_first_state T) (hr.mono (by omega)) rfl (gl_first_state T) pass0 (pa_cons (pv 0) pa_nil)) pa_nil))) pa_nil)))
 (pss_cons (ps_for PassesOwn.never rfl (pi_range1 (by rfl) (fr_range T) (pa_cons pe_int pa_nil)) (pg_name (i := 4) sc_first_clicks.nd rfl (Or.inl rfl)) (pss_cons (ps_for PassesOwn.never rfl (pi_list (pv 3)) (pg_tup rfl (pgs_cons (pg_name (i := 5) sc_first_clicks.nd rfl (Or.inr rfl)) (pgs_cons (pg_name (i := 6) sc_first_clicks.nd rfl (Or.inr rfl)) pgs_nil))) (pss_one (ps_if (pt_val (pcall (has_is_reached T) (hr.mono (by omega)) rfl (gl_is_reached T) pass0 (pa_cons (pv 6) (pa_cons (pv 1) (pa_cons (pv 2) pa_nil))))) (pss_one (ps_ret (pv 5))) pss_nil)))
 (pss_cons (ps_set (i := 7) sc_first_clicks.nd rfl (Or.inl rfl) (pe_lst pa_nil))
 (pss_cons (ps_for PassesOwn.never rfl (pi_list (pe_ifExp (pt_cmpR op_lt (pv 4) pe_int (nomark _)) (pv 3) (pe_lst pa_nil))) (pg_tup rfl (pgs_cons (pg_name (i := 5) sc_first_clicks.nd rfl (Or.inr rfl)) (pgs_cons (pg_name (i := 6) sc_first_clicks.nd rfl (Or.inr rfl)) pgs_nil))) (pss_one (ps_expr (pe_bm PySem.F.plainAttrs_list PySem.F.slot_list_extend PySem.F.type_list_extend mt_extend (pv 7) (pa_cons (pe_lc (own := [("own", 8)]) (g := gName 8) (tt := tYes) rfl sc_first_clicks.nd (pi_range1 (by rfl) (fr_range T) (pa_cons (pe_callB c_len (by rfl) (fr_len T) PySem.boot_len (pa_cons (pe_fld (pv 0) rfl) pa_nil)) pa_nil)) (blkOk_by (N := N_first_clicks) (sc := defScope s_first_clicks) (by decide +kernel)) (fun _ _ _ _ _ => (pg_name (i := 8) sc_first_clicks.nd rfl (Or.inl rfl))) (fun _ _ _ _ _ => pts_nil) (fun _ _ _ _ _ => (re_e (pe_tup (pa_cons (pe_op op_catA (pv 5) (pe_tup (pa_cons (pv 8) pa_nil))) (pa_cons (pcall (has_behind T) (hr.mono (by omega)) rfl (gl_behind T) pass0 (pa_cons (pv 6) (pa_cons (pv 8) pa_nil))) pa_nil))) (by walk_at "wk")))) pa_nil)))))
 (pss_one (ps_set (i := 3) sc_first_clicks.nd rfl (Or.inl rfl) (pv 7)))))))
 (pss_one (ps_ret pe_non)))), ?_⟩
  obtain ⟨_, G, pa, p, g, i0, rfl, gs, pg, wf, hi0, kk⟩ := h
  have : Cur G H := ⟨gs⟩
  have hp8 := wf.len
  have hFC : firstClicks p g i0 = ((List.range 4).flatMap (rows p.items.length)).find? fun u => reached g i0 (lastOf p (start p) u) := rfl
  walk_at "w"
  refine u_tup (Nat.zero_le _) fun c0 G1 H1 s1 _ _ hc0 => ?_
  walk_at "w"
  refine u_first (pg.mono s1.g) wf fun b0 G2 H2 s2 _ _ hb0 => ?_
  walk_at "w"
  refine u_tup (by show 2 ≤ sizeLine; decide) fun t0 G3 H3 s3 _ _ ht0 => ?_
  walk_at "w"
  refine u_lstK (by show 1 ≤ sizeLine; decide) fun q0 G4 H4 s4 _ _ hq0 => ?_
  walk_at "w"
  have s14 := ((s1.trans s2).trans s3).trans s4
  refine u_iR (n := 4) (by omega) ?_
  refine u_for (walk_range (n := 4)) (fun k σ H' => ∃ (G' : Hp) (q : Addr) (rv : List V) (v4 v5 v6 v7 : Option V), σ = [some (.ref pa), some (.str (gS g)), some (.int (i0 : Nat)), some (.ref q), v4, v5, v6, v7, none] ∧ Stp [] G H G' H' ∧ G' q = some (.lst rv) ∧ (k ≤ 3 → Paired (RowA K G' pa p) rv (rows p.items.length k)) ∧ ∀ j < k, ∀ u ∈ rows p.items.length j, reached g i0 (lastOf p (start p) u) = false) ?_ (fun _ _ _ _ _ => trivial) ?_ ?_
  · exact ⟨G4, q0, _, none, none, none, none, rfl, s14, hq0, fun _ => .cons ⟨t0, c0, b0, rfl, SqT.of (s4.g _ _ ht0), SqT.of (((s2.g.trans s3.g).trans s4.g) _ _ hc0), hb0.mono (s3.g.trans s4.g)⟩ .nil, fun j h => absurd h (Nat.not_lt_zero _)⟩
  · rintro k v σ H6 H6' hk ⟨G6, q, rv, v4, v5, v6, v7, rfl, s6, hq6, hrv6, hno⟩ ⟨rfl, hv⟩
    obtain rfl := rng0 hv
    have hk3 : k ≤ 3 := by omega
    have hrv6 := hrv6 hk3
    have : Cur G6 H6' := ⟨s6.s⟩
    have : Dn G G6 := ⟨s6.g⟩
    have hrl := hrv6.length
    have hrb : (rows p.items.length k).length ≤ 512 := by rw [rows_len]; exact pow_le wf.len hk3
    walk_at "w"
    refine u_iL (SqL.of (on hq6)) ?_
    refine u_for (walk_list (xs := rv)) (fun j σ H' => ∃ (G' : Hp) (w5 w6 : Option V), σ = [some (.ref pa), some (.str (gS g)), some (.int (i0 : Nat)), some (.ref q), some (.int (k : Nat)), w5, w6, v7, none] ∧ Stp [] G H G' H' ∧ Same G6 G' ∧ ∀ u ∈ (rows p.items.length k).take j, reached g i0 (lastOf p (start p) u) = false) ?_ (fun j σ H' _ ⟨G', _, _, _, st, g, _⟩ => SqL.of (st.s _ _ (g _ _ hq6))) ?_ ?_
    · exact ⟨G6, v5, v6, rfl, s6, Same.refl _, fun u h => by simp at h⟩
    · rintro j y σ H7 H7' hj ⟨G7, w5, w6, rfl, s7, g67, hno7⟩ ⟨rfl, hv⟩
      have : Cur G7 H7' := ⟨s7.s⟩
      have : Dn G6 G7 := ⟨g67⟩
      obtain ⟨u, hu, t, c, st, rfl, htt, hcc, hst⟩ := pr_getL hrv6 hv
      walk_at "w"
      refine u_gt (onT htt) rfl ?_
      walk_at "w"
      refine u_reached (hst.mono g67) hi0 fun G8 H8 s8 _ _ => ?_
      walk_at "w"
      refine w_ite (fun hb => ?_) (fun hb => ?_)
      · walk_at "w"
        have hfd : firstClicks p g i0 = some u := by
          rw [hFC]
          exact find_flat hno (by omega) (find_hit hno7 hu hb)
        rw [hfd] at kk
        have hm := rows_mem (List.mem_of_getElem? hu)
        exact (kk _).go (s7.trans s8) ⟨c, rfl, Same.sqT (g67.trans s8.g) hcc, by omega, hm.2⟩
      · walk_at "w"
        refine ⟨G8, _, _, rfl, s7.trans s8, g67.trans s8.g, fun x hx => ?_⟩
        rw [take_snoc hu] at hx
        rcases List.mem_append.mp hx with h | h
        · exact hno7 x h
        · rw [List.mem_singleton.mp h]; exact hb
    rintro σ H5 ⟨G5, w5, w6, rfl, s5, g65, hnoA⟩
    rw [hrl, List.take_length] at hnoA
    have hnoK : ∀ j < k + 1, ∀ u ∈ rows p.items.length j, reached g i0 (lastOf p (start p) u) = false := fun j hj u hu => by
      rcases Nat.lt_succ_iff_lt_or_eq.mp hj with h | rfl
      · exact hno j h u hu
      · exact hnoA u hu
    have : Cur G5 H5 := ⟨s5.s⟩
    have : Dn G6 G5 := ⟨g65⟩
    have hq5 : G5 q = some (.lst rv) := up hq6
    have hrv5 : Paired (RowA K G5 pa p) rv (rows p.items.length k) := Paired.mapP hrv6 fun _ _ => RowA.mono g65
    walk_at "w"
    refine u_lst (Nat.zero_le _) fun lq Ga Ha sa _ _ hlq mlq => ?_
    walk_at "w"
    have hlqH : H lq = none := s5.free hlq
    by_cases hk2 : k < 3
    · rw [show decide ((k : Int) < 3) = true from decide_eq_true (by omega)]
      refine iteT ?_
      walk_at "w"
      refine u_iL (SqL.of (sa.s _ _ (sa.g _ _ hq5))) ?_
      have hrv6 := hrv5
      have hq6 := hq5
      refine u_for (walk_list (xs := rv)) (fun j σ H' => ∃ (G' : Hp) (lv : List V) (w5 w6 : Option V), σ = [some (.ref pa), some (.str (gS g)), some (.int (i0 : Nat)), some (.ref q), some (.int (k : Nat)), w5, w6, some (.ref lq), none] ∧ Stp [] G H G' H' ∧ Same G5 G' ∧ Mu G' H' lq (.lst lv) ∧ Paired (RowA K G' pa p) lv (((rows p.items.length k).take j).flatMap (nextU p)) ∧ lv.length ≤ j * p.items.length) ?_ (fun j σ H' _ ⟨G', _, _, _, _, st, g, _⟩ => SqL.of (st.s _ _ (g _ _ hq6))) ?_ ?_
      · exact ⟨Ga, [], w5, w6, rfl, s5.trans sa, sa.g, mlq, .nil, Nat.zero_le _⟩
      · rintro j y σ H7 H7' hj ⟨G7, lv, w5, w6, rfl, s7, g67, mq7, pl7, hll7⟩ ⟨rfl, hv⟩
        have hb7 : j * p.items.length ≤ 512 * 8 := Nat.mul_le_mul (by omega) wf.len
        have : Cur G7 H7' := ⟨s7.s⟩
        have : Dn G5 G7 := ⟨g67⟩
        obtain ⟨u, hu, t, c, st, rfl, htt, hcc, hst⟩ := pr_getL hrv6 hv
        have hjl : j < (rows p.items.length k).length := (List.getElem?_eq_some_iff.mp hu).1
        have pg7 : PgH K G7 pa p := pg.mono (s5.g.trans g67)
        have ⟨pdx, tl, ol, dl, ll, ts, ls, ins, hp⟩ := pg7
        have htl := hp.it.length
        walk_at "w"
        refine u_gt (onT htt) rfl ?_
        walk_at "w"
        refine u_bmL mq7.h ?_
        walk_at "w"
        refine u_fld (on ins) (cl_Page T) (na_Page_things T) fl_Page_things ?_
        walk_at "w"
        refine u_lenL (s7.s.seq hp.t) ?_
        walk_at "w"
        rw [htl]
        refine u_iR (by omega) ?_
        refine u_lcA (walk_range (n := p.items.length)) (Yv := fun i v => v = .int (0 + (i : Int))) (fun i H x H' h => h) (fun _ _ => trivial) (by omega) (fun i y G' => RowA K G' pa p y (u ++ [i])) (fun _ _ _ _ s h => RowA.mono s h) ?_ ?_ (fun _ _ _ _ h q => mg_name h q)
        · rintro i y G8 H8 Qy hi s8 _ _ hy ky
          obtain rfl := rng0 hy
          have : Cur G8 H8 := ⟨s8.s⟩
          have : Dn G7 G8 := ⟨s8.g⟩
          have hcc8 : SqT K G8 c (natsV u) := Same.sqT (g67.trans s8.g) hcc
          have hst8 := hst.mono (g67.trans s8.g)
          have hul := (rows_mem (List.mem_of_getElem? hu)).1
          walk_at "w"
          refine u_tup (by show 1 ≤ sizeLine; decide) fun t9 G9 H9 s9 _ _ ht9 => ?_
          walk_at "w"
          refine u_catA (Same.sqT s9.g hcc8) (SqT.of ht9) (by intro h; cases h) (by unfold natsV; rw [List.length_map, hul]; exact lst_le (by show _ + 1 ≤ _; omega)) fun ca Ga Ha sa _ _ hca => ?_
          walk_at "w"
          refine u_behind (hst8.mono (s9.g.trans sa.g)) wf hi fun b Gb Hb sb _ _ hb => ?_
          walk_at "w"
          refine u_tup (by show 2 ≤ sizeLine; decide) fun td Gd Hd sd _ _ htd => ?_
          walk_at "w"
          refine ky _ _ _ (((s9.trans sa).trans sb).trans sd) ⟨td, ca, b, rfl, SqT.of htd, ?_, ?_⟩
          · have e : natsV (u ++ [i]) = natsV u ++ [V.int (i : Nat)] := by unfold natsV; rw [List.map_append]; rfl
            rw [e]; exact Same.sqT (sb.g.trans sd.g) hca
          · rw [last_snoc]; exact hb.mono sd.g
        intro q8 ys G8 H8 s8 _ _ hn8 mu8 hyl hys
        have pys : Paired (RowA K G8 pa p) ys (nextU p u) := paired_mk (by unfold nextU; rw [hyl, List.length_map, List.length_range]) fun i y x a b => by
          have hil := (List.getElem?_eq_some_iff.mp a).1
          unfold nextU at b
          rw [List.getElem?_map, List.getElem?_range (by omega)] at b
          rw [← Option.some.inj b]
          exact hys i y a
        have hql := pl7.length
        walk_at "w"
        refine u_ext (s8.mu mq7 List.not_mem_nil) mu8.h (lst_le (by omega)) fun G9 H9 s9 _ _ mq9 => ?_
        walk_at "w"
        refine ⟨G9, lv ++ ys, _, _, rfl, ((s7.trans s8).nil.trans s9).drop hlqH, (g67.trans s8.g).trans s9.g, mq9, ?_, ?_⟩
        · rw [flat_snoc hu]
          exact pairApp (Paired.mapP pl7 fun _ _ => RowA.mono (s8.g.trans s9.g)) (Paired.mapP pys fun _ _ => RowA.mono s9.g)
        · rw [List.length_append, hyl, Nat.succ_mul]; omega
      · rintro σ H7 ⟨G7, lv, w5, w6, rfl, s7, g67, mq7, pl7, hll7⟩
        rw [hrl, List.take_length] at pl7
        walk_at "w"
        refine ⟨_, lq, lv, some (.int (k : Nat)), w5, w6, some (.ref lq), rfl, s7.keep hlqH mq7.h, upd_same, fun _ => ?_, hnoK⟩
        rw [rows_snoc]
        exact Paired.mapP pl7 fun _ _ => RowA.mono (Same.keep mq7.h s7.s)
    · rw [show decide ((k : Int) < 3) = false from decide_eq_false (by omega)]
      refine iteF ?_
      walk_at "w"
      refine u_lstK (by show 0 ≤ sizeLine; decide) fun qe Gb Hb sb _ _ hqe => ?_
      walk_at "w"
      refine u_iL (SqL.of (on (H := Hb) hqe)) ?_
      refine u_for (walk_list (xs := [])) (fun j σ H' => σ = [some (.ref pa), some (.str (gS g)), some (.int (i0 : Nat)), some (.ref q), some (.int (k : Nat)), w5, w6, some (.ref lq), none] ∧ H' = Hb) ⟨rfl, rfl⟩ (fun j σ H' _ ⟨_, e⟩ => by rw [e]; exact SqL.of (on (H := Hb) hqe)) (fun i x σ H H' hi => absurd hi (Nat.not_lt_zero _)) ?_
      rintro σ H7 ⟨rfl, rfl⟩
      walk_at "w"
      have mlb := sb.mu mlq List.not_mem_nil
      refine ⟨_, lq, [], some (.int (k : Nat)), w5, w6, some (.ref lq), rfl, ((s5.trans sa).trans sb).keep hlqH mlb.h, upd_same, fun h => absurd h (by omega), hnoK⟩
  · rintro σ H6 ⟨G6, q, rv, v4, v5, v6, v7, rfl, s6, hq6, hrv6, hno⟩
    walk_at "w"
    have hfd : firstClicks p g i0 = none := by rw [hFC]; exact find_flat0 hno
    rw [hfd] at kk
    exact (kk _).go s6 rfl
end
end Ck
namespace Ck
open PySem PySem.Spec PyProof.Rows L2
open He (ga ma fAd)
open R7253f.Spec (userClick start lastOf)
/-! ### sessions -/
structure SeM (K : PySem.W.Frag) (G H : Hp) (a dx pa : Addr) (p : SPage) (u : List Nat) : Prop where
  x : ∃ sl sv, Mu G H a (.ins (ga K "Session") dx (FSession (.ref pa) (.ref sl))) ∧ G sl = some (.lst sv) ∧ sv.length = u.length + 1 ∧ ∀ (k : Nat) (v : V), sv[k]? = some v → ∃ b, v = .ref b ∧ StF K G b pa p (lastOf p (start p) (u.take k)).1 (lastOf p (start p) (u.take k)).2
  pg : PgH K G pa p
  wf : PgW p
  lt : ∀ i ∈ u, i < p.items.length
  le : u.length ≤ 100
theorem SeM.step {K : PySem.W.Frag} {F : List Addr} {G H G' H' : Hp} {a dx pa : Addr} {p : SPage} {u : List Nat} (h : SeM K G H a dx pa p u) (st : Stp F G H G' H') (hF : a ∉ F) : SeM K G' H' a dx pa p u := by
  obtain ⟨⟨sl, sv, x1, x2, x3, x4⟩, pg, wf, lt, le⟩ := h
  exact ⟨⟨sl, sv, st.mu x1 hF, st.g _ _ x2, x3, fun k v hv => by
    obtain ⟨b, e, s⟩ := x4 k v hv
    exact ⟨b, e, s.mono st.g⟩⟩, pg.mono st.g, wf, lt, le⟩
section
variable (K : PySem.W.Frag)
def spSeInit : Sp := fun vs H Q _ => vs.length = 2 ∧ ∃ (G : Hp) (a dx pa : Addr) (p : SPage), vs = [.ref a, .ref pa] ∧ Same G H ∧ Mu G H a (.ins (ga K "Session") dx []) ∧ PgH K G pa p ∧ PgW p ∧ Nxt [a] G H fun G' H' => SeM K G' H' a dx pa p [] → Q .non H'
def spNow : Sp := fun vs H Q _ => vs.length = 1 ∧ ∃ (G : Hp) (a dx pa : Addr) (p : SPage) (u : List Nat), vs = [.ref a] ∧ Same G H ∧ SeM K G H a dx pa p u ∧ ∀ b, StF K G b pa p (lastOf p (start p) u).1 (lastOf p (start p) u).2 → Q (.ref b) H
def spMany : Sp := fun vs H Q _ => vs.length = 1 ∧ ∃ (G : Hp) (a dx pa : Addr) (p : SPage) (u : List Nat), vs = [.ref a] ∧ Same G H ∧ SeM K G H a dx pa p u ∧ Q (.int (u.length : Nat)) H
def spPress : Sp := fun vs H Q _ => vs.length = 2 ∧ ∃ (G : Hp) (a dx pa : Addr) (p : SPage) (u : List Nat) (i : Nat), vs = [.ref a, .int (i : Nat)] ∧ Same G H ∧ SeM K G H a dx pa p u ∧ i < p.items.length ∧ u.length < 100 ∧
  ∀ lg lv, Nxt [a] G H fun G' H' => SeM K G' H' a dx pa p (u ++ [i]) → G' lg = some (.lst lv) → Paired (EnA K G') lv (userClick p (lastOf p (start p) u).1 i).2 → Q (.ref lg) H'
def spUndo : Sp := fun vs H Q _ => vs.length = 1 ∧ ∃ (G : Hp) (a dx pa : Addr) (p : SPage) (u : List Nat), vs = [.ref a] ∧ Same G H ∧ SeM K G H a dx pa p u ∧ Nxt [a] G H fun G' H' => SeM K G' H' a dx pa p (if u.isEmpty then u else u.dropLast) → Q (.bl (!u.isEmpty)) H'
end
section
variable {K : PySem.W.Frag} {G H : Hp} {Q : VK} {E : XK} {a dx pa : Addr} {p : SPage} {u : List Nat} {i : Nat}
theorem u_now [q : Cur G H] (h : SeM K G H a dx pa p u) (k : ∀ b, StF K G b pa p (lastOf p (start p) u).1 (lastOf p (start p) u).2 → Q (.ref b) H) : spNow K [.ref a] H Q E := ⟨rfl, G, a, dx, pa, p, u, rfl, q.s, h, k⟩
theorem u_many [q : Cur G H] (h : SeM K G H a dx pa p u) (k : Q (.int (u.length : Nat)) H) : spMany K [.ref a] H Q E := ⟨rfl, G, a, dx, pa, p, u, rfl, q.s, h, k⟩
end
end Ck
namespace Ck
open PySem PySem.Spec PyProof.Rows L2
open He (ga ma fAd)
section
variable {P : Program} {w : World} {K : PySem.W.Frag} {mg : Str → Option Value} {base : Heap}
open R7253f.Spec (userClick start lastOf)
theorem has_Session_init (T : Txt K mg) : Has P w K mg base CX0 5 ("Session", some "__init__") ["self", "page"] (spSeInit K) := by
  refine mk_has (d := d_Session_init) T 38 rfl rfl rfl sc_Session_init (fun _ _ _ _ _ _ us hl => match us, hl with | [_, _], _ => rfl) (fun vs H Q E h => h.1) (fun cdv A outer s H vs Q E hr h => ?_)
  refine ⟨_, PSs.nox (pss_cons (ps_fld (pv 0) (pv 1) rfl)
 (pss_one (ps_fld (pv 0) (pe_lst (pa_cons (pcall (has_first_state T) (hr.mono (by omega)) rfl (gl_first_state T) pass0 (pa_cons (pv 1) pa_nil)) pa_nil)) rfl))), ?_⟩
  obtain ⟨_, G, a, dx, pa, p, rfl, gs, mu, pg, wf, kk⟩ := h
  have : Cur G H := ⟨gs⟩
  walk_at "w"
  refine u_sfld mu (cl_Session T) (na_Session_page T) (by show 0 < 1000; decide) fun G1 H1 s1 _ _ mu1 => ?_
  walk_at "w"
  rw [fi_Session_page] at mu1
  refine u_first (pg.mono s1.g) wf fun b G2 H2 s2 _ _ hb => ?_
  walk_at "w"
  refine u_lstK (by show 1 ≤ sizeLine; decide) fun sl G3 H3 s3 _ _ hsl => ?_
  walk_at "w"
  refine u_sfld (s3.mu (s2.mu mu1 List.not_mem_nil) List.not_mem_nil) (cl_Session T) (na_Session_states T) (by show 1 < 1000; decide) fun G4 H4 s4 _ _ mu4 => ?_
  walk_at "w"
  rw [fi_Session_states] at mu4
  have st := ((s1.trans s2.nil).trans s3.nil).trans s4
  refine kk.go st ⟨⟨sl, _, mu4, s4.g _ _ hsl, rfl, fun k v hv => ?_⟩, pg.mono st.g, wf, (fun i h => by cases h), Nat.zero_le _⟩
  match k, hv with
  | 0, hv =>
    refine ⟨b, (Option.some.inj hv).symm, ?_⟩
    exact hb.mono (s3.g.trans s4.g)
  | k + 1, hv => exact absurd hv (by simp)
theorem has_Session_now (T : Txt K mg) : Has P w K mg base CX0 1 ("Session", some "now") ["self"] (spNow K) := by
  refine mk_has (d := d_Session_now) T 39 rfl rfl rfl sc_Session_now (fun _ _ _ _ _ _ us hl => match us, hl with | [_], _ => rfl) (fun vs H Q E h => h.1) (fun cdv A outer s H vs Q E hr h => ?_)
  refine ⟨_, PSs.nox (pss_one (ps_ret (pe_ix ix_list (pe_fld (pv 0) rfl) (pe_op op_sub (pe_callB c_len (by rfl) (fr_len T) PySem.boot_len (pa_cons (pe_fld (pv 0) rfl) pa_nil)) pe_int) (fun _ _ => rfl)))), ?_⟩
  obtain ⟨_, G, a, dx, pa, p, u, rfl, gs, m, kk⟩ := h
  have : Cur G H := ⟨gs⟩
  obtain ⟨sl, sv, x1, x2, x3, x4⟩ := m.x
  walk_at "w"
  refine u_fld x1.h (cl_Session T) (na_Session_states T) fl_Session_states ?_
  walk_at "w"
  refine u_fld x1.h (cl_Session T) (na_Session_states T) fl_Session_states ?_
  walk_at "w"
  refine u_lenL (SqL.of (on x2)) ?_
  walk_at "w"
  have hv : sv[u.length]? = some (sv[u.length]'(by omega)) := List.getElem?_eq_getElem (by omega)
  obtain ⟨b, e, sf⟩ := x4 _ _ hv
  rw [e] at hv
  rw [List.take_length] at sf
  refine w_ixL (SqL.of (on x2)) (v := .ref b) (by rw [x3, show ((u.length + 1 : Nat) : Int) - 1 = (u.length : Int) by omega]; exact atI_nat hv) ?_
  walk_at "w"
  exact kk b sf
theorem has_Session_many (T : Txt K mg) : Has P w K mg base CX0 1 ("Session", some "many") ["self"] (spMany K) := by
  refine mk_has (d := d_Session_many) T 40 rfl rfl rfl sc_Session_many (fun _ _ _ _ _ _ us hl => match us, hl with | [_], _ => rfl) (fun vs H Q E h => h.1) (fun cdv A outer s H vs Q E hr h => ?_)
  refine ⟨_, PSs.nox (pss_one (ps_ret (pe_op op_sub (pe_callB c_len (by rfl) (fr_len T) PySem.boot_len (pa_cons (pe_fld (pv 0) rfl) pa_nil)) pe_int))), ?_⟩
  obtain ⟨_, G, a, dx, pa, p, u, rfl, gs, m, kk⟩ := h
  have : Cur G H := ⟨gs⟩
  obtain ⟨sl, sv, x1, x2, x3, x4⟩ := m.x
  walk_at "w"
  refine u_fld x1.h (cl_Session T) (na_Session_states T) fl_Session_states ?_
  walk_at "w"
  refine u_lenL (SqL.of (on x2)) ?_
  walk_at "w"
  rw [x3, show ((u.length + 1 : Nat) : Int) - 1 = (u.length : Int) by omega]
  exact kk
theorem has_Session_press (T : Txt K mg) : Has P w K mg base CX0 55 ("Session", some "press") ["self", "item"] (spPress K) := by
  refine mk_has (d := d_Session_press) T 41 rfl rfl rfl sc_Session_press (fun _ _ _ _ _ _ us hl => match us, hl with | [_, _], _ => rfl) (fun vs H Q E h => h.1) (fun cdv A outer s H vs Q E hr h => ?_)
  refine ⟨_, PSs.nox (pss_cons (ps_set (i := 2) sc_Session_press.nd rfl (Or.inl rfl) (pcall (has_behind T) (hr.mono (by omega)) rfl (gl_behind T) pass0 (pa_cons (pmeth0 (pv 0) (cl_Session T) (me_Session_now T) (has_Session_now T) (hr.mono (by omega)) pass0) (pa_cons (pv 1) pa_nil))))
 (pss_cons (ps_fld (pv 0) (pe_op op_cat (pe_fld (pv 0) rfl) (pe_lst (pa_cons (pv 2) pa_nil))) rfl)
 (pss_one (ps_ret (pe_fld (pv 2) rfl))))), ?_⟩
  obtain ⟨_, G, a, dx, pa, p, u, i, rfl, gs, m, hi, hu, kk⟩ := h
  have : Cur G H := ⟨gs⟩
  obtain ⟨sl, sv, x1, x2, x3, x4⟩ := m.x
  walk_at "w"
  refine u_mth x1.h fm_Session_now ?_
  walk_at "w"
  refine u_now m fun b0 sf0 => ?_
  walk_at "w"
  refine u_behind sf0 m.wf hi fun b G1 H1 s1 _ _ hb => ?_
  walk_at "w"
  have x11 := s1.mu x1 List.not_mem_nil
  refine u_fld x11.h (cl_Session T) (na_Session_states T) fl_Session_states ?_
  walk_at "w"
  refine u_lstK (by show 1 ≤ sizeLine; decide) fun q2 G2 H2 s2 _ _ hq2 => ?_
  walk_at "w"
  have hle := m.le
  refine u_cat (s2.s _ _ (s2.g _ _ (s1.g _ _ x2))) (on (H := H2) hq2) (by rw [x3]; exact lst_le (by show _ + 1 ≤ _; omega)) fun q3 G3 H3 s3 _ _ hq3 => ?_
  walk_at "w"
  refine u_sfld (s3.mu (s2.mu x11 List.not_mem_nil) List.not_mem_nil) (cl_Session T) (na_Session_states T) (by show 2 < 1000; decide) fun G4 H4 s4 _ _ x14 => ?_
  walk_at "w"
  rw [fp_Session_states] at x14
  have hb4 : StF K G4 b pa p _ _ := hb.mono ((s2.g.trans s3.g).trans s4.g)
  have ⟨⟨dx2, ol, dl, gl, lg, wl, lv, h1, h2, h3, h4, h5, h6⟩, pg, w⟩ := hb4
  refine u_fld (s4.s _ _ h1) (cl_State T) (na_State_log T) fl_State_log ?_
  walk_at "w"
  have st := (((s1.trans s2).trans s3).nil).trans s4
  refine (kk lg lv).go st ?_ h5 h6
  refine ⟨⟨q3, sv ++ [.ref b], x14, s4.g _ _ hq3, by rw [List.length_append, List.length_append, x3]; rfl, fun k v hv => ?_⟩, m.pg.mono st.g, m.wf, fun j hj => ?_, by rw [List.length_append]; show _ + 1 ≤ 100; omega⟩
  · rcases Nat.lt_or_ge k sv.length with hk | hk
    · rw [List.getElem?_append_left hk] at hv
      obtain ⟨b', e, sf⟩ := x4 k v hv
      refine ⟨b', e, ?_⟩
      rw [List.take_append_of_le_length (by omega)]
      exact sf.mono st.g
    · rw [List.getElem?_append_right hk] at hv
      have hk0 : k - sv.length = 0 := by
        rcases Nat.eq_zero_or_pos (k - sv.length) with e | e
        · exact e
        · rw [List.getElem?_eq_none (by show 1 ≤ _; omega)] at hv; cases hv
      rw [hk0] at hv
      refine ⟨b, (Option.some.inj hv).symm, ?_⟩
      rw [List.take_of_length_le (by rw [List.length_append]; show _ + 1 ≤ _; omega), last_snoc]
      exact hb4
  · rcases List.mem_append.mp hj with h | h
    · exact m.lt j h
    · rw [List.mem_singleton.mp h]; exact hi
theorem has_Session_undo (T : Txt K mg) : Has P w K mg base CX0 2 ("Session", some "undo") ["self"] (spUndo K) := by
  refine mk_has (d := d_Session_undo) T 42 rfl rfl rfl sc_Session_undo (fun _ _ _ _ _ _ us hl => match us, hl with | [_], _ => rfl) (fun vs H Q E h => h.1) (fun cdv A outer s H vs Q E hr h => ?_)
  refine ⟨_, PSs.nox (pss_cons (ps_if (pt_cmpR op_eq (pmeth0 (pv 0) (cl_Session T) (me_Session_many T) (has_Session_many T) (hr.mono (by omega)) pass0) pe_int (nomark _)) (pss_one (ps_ret pe_bl)) pss_nil)
 (pss_cons (ps_fld (pv 0) (pe_slice sl_list (pe_fld (pv 0) rfl) po_none (po_some (pe_un un_neg pe_int))) rfl)
 (pss_one (ps_ret pe_bl)))), ?_⟩
  obtain ⟨_, G, a, dx, pa, p, u, rfl, gs, m, kk⟩ := h
  have : Cur G H := ⟨gs⟩
  obtain ⟨sl, sv, x1, x2, x3, x4⟩ := m.x
  walk_at "w"
  refine u_mth x1.h fm_Session_many ?_
  walk_at "w"
  refine u_many m ?_
  walk_at "w"
  cases hu : u with
  | nil =>
    subst hu
    refine iteT ?_
    walk_at "w"
    exact kk.go (Stp.refl gs) m
  | cons c r =>
    rw [← hu]
    have hne : u.isEmpty = false := by rw [hu]; rfl
    have hpos : 0 < u.length := by rw [hu]; exact Nat.succ_pos _
    rw [hne] at kk
    have kk : Nxt [a] G H fun G' H' => SeM K G' H' a dx pa p u.dropLast → Q (.bl true) H' := kk
    rw [show decide (V.int (u.length : Nat) = V.int 0) = false from decide_eq_false fun z => by have := V.int.inj z; omega]
    refine iteF ?_
    walk_at "w"
    refine u_fld x1.h (cl_Session T) (na_Session_states T) fl_Session_states ?_
    walk_at "w"
    refine w_u ?_
    walk_at "w"
    refine u_slL (SqL.of (on (H := H) x2)) fun q1 G1 H1 s1 _ _ hq1 => ?_
    walk_at "w"
    refine u_sfld (s1.mu x1 List.not_mem_nil) (cl_Session T) (na_Session_states T) (by show 2 < 1000; decide) fun G2 H2 s2 _ _ x12 => ?_
    walk_at "w"
    rw [fp_Session_states] at x12
    have hsv : sv = sv.dropLast ++ [sv.getLast (by intro e; rw [e] at x3; cases x3)] := (List.dropLast_concat_getLast _).symm
    rw [hsv, cut_last] at hq1
    have st := s1.nil.trans s2
    refine kk.go st ⟨⟨q1, sv.dropLast, x12, s2.g _ _ hq1, by rw [List.length_dropLast, List.length_dropLast, x3]; omega, fun k v hv => ?_⟩, m.pg.mono st.g, m.wf, fun j hj => m.lt j (List.dropLast_subset _ hj), by rw [List.length_dropLast]; have := m.le; omega⟩
    have hkl := (List.getElem?_eq_some_iff.mp hv).1
    rw [List.length_dropLast] at hkl
    have hv2 : sv[k]? = some v := by
      rw [hsv, List.getElem?_append_left (by rw [List.length_dropLast]; omega)]; exact hv
    obtain ⟨b, e, sf⟩ := x4 k v hv2
    refine ⟨b, e, ?_⟩
    have e2 : u.dropLast.take k = u.take k := by
      rw [List.dropLast_eq_take, List.take_take, Nat.min_eq_left (by omega)]
    rw [e2]
    exact sf.mono st.g
end
end Ck
namespace Ck
open PySem PySem.Spec PyProof.Rows L2
open He (ga ma fAd)
open R7253f.Spec (Units units isName indexIn itemNames itemName kindAt pathOf targetOf controlOf isOn isOff dispatch clickBy userClick visit hear listenersOf wayOf quiet activate nameP orNull entryP logP standP stateP goneOf itemP itemsP errorP errorsP iteratorP kindWord nats)
/-! ### the entries of a log name items -/
def enOk (p : SPage) : SEntry → Prop
  | .click i => i < p.items.length
  | .hear _ => True
  | .follow i => i < p.items.length
  | .submit i => i < p.items.length
  | .change i => i < p.items.length
  | .cancel i => i < p.items.length
  | .lost => True
def allOk (p : SPage) (l : List SEntry) : Prop := ∀ e ∈ l, enOk p e
theorem ok_app {p : SPage} {l m : List SEntry} (h1 : allOk p l) (h2 : allOk p m) : allOk p (l ++ m) := fun e h => by
  rcases List.mem_append.mp h with h | h
  · exact h1 e h
  · exact h2 e h
theorem ok_one {p : SPage} {e : SEntry} (h : enOk p e) : allOk p [e] := fun x hx => by rw [List.mem_singleton.mp hx]; exact h
theorem ok_nil {p : SPage} : allOk p [] := fun e h => by cases h
theorem cb_ok {p : SPage} {f : Clk} (hf : ∀ s i, i < p.items.length → allOk p (f s i).2) (s : SState) (i : Nat) (hi : i < p.items.length) : allOk p (clickBy f s i).2 := by
  unfold clickBy
  split
  · exact ok_nil
  · exact hf _ _ hi
theorem hear_ok {p : SPage} (w : PgW p) {c : Clk} (hc : ∀ s i, i < p.items.length → allOk p (c s i).2) {t : STurn} (k : Nat) (ht : allOk p t.log) : allOk p (hear p c t k).log := by
  unfold hear
  cases hl : p.listeners[k]? with
  | none => exact ht
  | some l =>
    show allOk p (if _ then t else _).log
    split
    · exact ht
    · rw [act_eq]
      refine ok_app (ok_app ht (ok_one trivial)) ?_
      have := (w.li l (List.mem_of_getElem? hl)).2
      cases ha : l.action with
      | click i => rw [ha] at this; exact hc _ _ this
      | _ => exact ok_nil
theorem foldl_ok {p : SPage} {β : Type} {f : STurn → β → STurn} (h : ∀ t b, allOk p t.log → allOk p (f t b).log) : ∀ (l : List β) (t : STurn), allOk p t.log → allOk p (l.foldl f t).log
  | [], _, ht => ht
  | b :: l, t, ht => foldl_ok h l (f t b) (h t b ht)
theorem visit_ok {p : SPage} (w : PgW p) {c : Clk} (hc : ∀ s i, i < p.items.length → allOk p (c s i).2) {t : STurn} (x : Nat × Bool) (ht : allOk p t.log) : allOk p (visit p c t x).log := by
  unfold visit
  split
  · exact ht
  · exact foldl_ok (fun t b h => hear_ok w hc b h) _ _ ht
theorem disp_ok {p : SPage} (w : PgW p) : ∀ (k : Nat) (s : SState) (i : Nat), i < p.items.length → allOk p (dispatch p k s i).2
  | 0, s, i, _ => ok_one trivial
  | k + 1, s, i, hi => by
    have hc := cb_ok (disp_ok w k)
    have hT : ∀ s1, allOk p ((wayOf p i).foldl (visit p (clickBy (dispatch p k))) ⟨s1, quiet, [.click i]⟩).log := fun s1 => foldl_ok (fun t b h => visit_ok w hc b h) _ _ (ok_one hi)
    rw [disp_eq2]
    cases hg : targetOf p i with
    | none => rw [fin_none]; exact hT _
    | some j =>
      have hj := target_lt w hi hg
      rw [fin_some]
      split
      · exact ok_app (hT _) (ok_one hj)
      · refine ok_app (hT _) ?_
        unfold activate
        split
        · exact ok_nil
        · exact ok_one hj
        · show allOk p (if _ then [] else [R7253f.Spec.Entry.submit j])
          split
          · exact ok_nil
          · exact ok_one hj
        · exact ok_one hj
        · exact ok_one hj
        · split
          · rename_i hco
            exact hc _ _ (control_lt w hj hco)
          · exact ok_nil
theorem user_ok {p : SPage} (w : PgW p) (s : SState) {i : Nat} (hi : i < p.items.length) : allOk p (userClick p s i).2 := by
  unfold userClick
  split
  · exact ok_nil
  · exact disp_ok w _ _ _ hi
/-! ### values that are handed out -/
abbrev PlainV := R7253f.Spec.Plain
def uo (w : Units) : List UInt8 := w.map Rust.octetOf
theorem g_str (w : Units) : Rust.given (.str w) = .text (uo w) := by
  show Rust.givenText w = _
  unfold Rust.givenText
  rw [if_neg (by simp [Rust.wideTold])]; rfl
theorem g_all : ∀ l : List PlainV, Rust.givenAll l = l.map Rust.given
  | [] => rfl
  | v :: r => congrArg (Rust.given v :: ·) (g_all r)
theorem g_arr (l : List PlainV) : Rust.given (.arr l) = .list (l.map Rust.given) := by
  show RWire.Value.list (Rust.givenAll l) = _
  rw [g_all]
theorem g_text (s : String) : Rust.given (R7253f.Spec.text s) = .text (uo (units s)) := g_str _
theorem g_nat (n : Nat) : Rust.given (R7253f.Spec.nat n) = .int (n : Nat) := rfl
theorem name_256 {w : Units} (h : isName w = true) : ∀ c ∈ w, c.toNat < 256 := fun c hc => by
  have e : isName w = (decide (1 ≤ w.length) && decide (w.length ≤ 8) && w.all fun c => decide (97 ≤ c) && decide (c ≤ 122)) := rfl
  rw [e] at h
  have := List.all_eq_true.mp (Bool.and_eq_true_iff.mp h).2 c hc
  have h2 := of_decide_eq_true (Bool.and_eq_true_iff.mp this).2
  have h3 : c.toNat ≤ 122 := UInt16.le_iff_toNat_le.mp h2
  omega
theorem name_octs {w : Units} (h : isName w = true) : octs (uo w) = un w := octs_un (name_256 h)
/-- the octets of an entry's word -/
def enU : SEntry → List UInt8
  | .click _ => uo (units "click")
  | .hear _ => uo (units "hear")
  | .follow _ => uo (units "follow")
  | .submit _ => uo (units "submit")
  | .change _ => uo (units "change")
  | .cancel _ => uo (units "cancel")
  | .lost => []
theorem enS_U (e : SEntry) : strV (enS e) = octs (enU e) := by
  cases e with
  | click i => show strV "click" = octs (uo (units "click")); decide +kernel
  | hear i => show strV "hear" = octs (uo (units "hear")); decide +kernel
  | follow i => show strV "follow" = octs (uo (units "follow")); decide +kernel
  | submit i => show strV "submit" = octs (uo (units "submit")); decide +kernel
  | change i => show strV "change" = octs (uo (units "change")); decide +kernel
  | cancel i => show strV "cancel" = octs (uo (units "cancel")); decide +kernel
  | lost => show strV "" = octs []; decide +kernel
theorem enS_len (e : SEntry) : (enS e).cps.size ≤ 100000 := by
  cases e with
  | click i => show ("click" : Str).cps.size ≤ 100000; decide +kernel
  | hear i => show ("hear" : Str).cps.size ≤ 100000; decide +kernel
  | follow i => show ("follow" : Str).cps.size ≤ 100000; decide +kernel
  | submit i => show ("submit" : Str).cps.size ≤ 100000; decide +kernel
  | change i => show ("change" : Str).cps.size ≤ 100000; decide +kernel
  | cancel i => show ("cancel" : Str).cps.size ≤ 100000; decide +kernel
  | lost => show ("" : Str).cps.size ≤ 100000; decide +kernel
def isHear : SEntry → Bool
  | .hear _ => true
  | _ => false
def isLost : SEntry → Bool
  | .lost => true
  | _ => false
theorem enS_hear (e : SEntry) : decide (V.str (enS e) = V.str "hear") = isHear e := by
  cases e with
  | click i => show decide (V.str "click" = V.str "hear") = false; decide +kernel
  | hear i => show decide (V.str "hear" = V.str "hear") = true; decide +kernel
  | follow i => show decide (V.str "follow" = V.str "hear") = false; decide +kernel
  | submit i => show decide (V.str "submit" = V.str "hear") = false; decide +kernel
  | change i => show decide (V.str "change" = V.str "hear") = false; decide +kernel
  | cancel i => show decide (V.str "cancel" = V.str "hear") = false; decide +kernel
  | lost => show decide (V.str "" = V.str "hear") = false; decide +kernel
theorem g_entry (p : SPage) (e : SEntry) (h : isLost e = false) : Rust.given (entryP p e) = .list [.text (enU e), if isHear e then .int ((enN e + 1 : Nat) : Int) else .text (uo (itemName p (enN e)))] := by
  have k : ∀ (w : String) (i : Nat), Rust.given (R7253f.Spec.about p w i) = .list [.text (uo (units w)), .text (uo (itemName p i))] := fun w i => by
    show Rust.given (.arr [R7253f.Spec.text w, nameP p i]) = _
    rw [g_arr]
    show RWire.Value.list [Rust.given (.str _), Rust.given (.str _)] = _
    rw [g_str, g_str]
  cases e with
  | click i => exact k "click" i
  | hear i =>
    show Rust.given (.arr [R7253f.Spec.text "hear", R7253f.Spec.nat (i + 1)]) = _
    rw [g_arr]
    show RWire.Value.list [Rust.given (.str _), Rust.given (R7253f.Spec.nat _)] = _
    rw [g_str, g_nat]; rfl
  | follow i => exact k "follow" i
  | submit i => exact k "submit" i
  | change i => exact k "change" i
  | cancel i => exact k "cancel" i
  | lost => cases h
theorem g_rec (fs : List (String × PlainV)) : Rust.given (R7253f.Spec.record fs) = .record (fs.map fun f => (uo (units f.1), Rust.given f.2)) := by
  have h : ∀ fs : List (String × PlainV), Rust.givenFields (fs.map fun f => (units f.1, f.2)) = fs.map fun f => (uo (units f.1), Rust.given f.2) := by
    intro fs
    induction fs with
    | nil => rfl
    | cons f r ih => exact congrArg ((uo (units f.1), Rust.given f.2) :: ·) ih
  show RWire.Value.record (Rust.givenFields (fs.map fun f => (units f.1, f.2))) = _
  rw [h]
def tnV (p : SPage) (o : Option Nat) : RWire.Value := Rust.given (orNull (o.map (nameP p)))
theorem tn_none (p : SPage) : tnV p none = .null := rfl
theorem tn_some (p : SPage) (i : Nat) : tnV p (some i) = .text (uo (itemName p i)) := g_str _
/-! ### promises -/
section
variable (K : PySem.W.Frag)
def spTName : Sp := fun vs H Q _ => vs.length = 2 ∧ ∃ (G : Hp) (pa : Addr) (p : SPage) (o : Option Nat), vs = [.ref pa, .int (idxI o)] ∧ Same G H ∧ PgH K G pa p ∧ PgW p ∧ (∀ i, o = some i → i < p.items.length) ∧ ∀ v, Nxt [] G H fun G' H' => VA K G' v (tnV p o) → Q v H'
def spTLog : Sp := fun vs H Q _ => vs.length = 2 ∧ ∃ (G : Hp) (pa lg : Addr) (p : SPage) (lv : List V) (l : List SEntry), vs = [.ref pa, .ref lg] ∧ Same G H ∧ PgH K G pa p ∧ PgW p ∧ G lg = some (.lst lv) ∧ Paired (EnA K G) lv l ∧ allOk p l ∧ l.length ≤ 100000 ∧ ∀ v, Nxt [] G H fun G' H' => VA K G' v (Rust.given (logP p l)) → Q v H'
def spTState : Sp := fun vs H Q _ => vs.length = 1 ∧ ∃ (G : Hp) (a pa : Addr) (p : SPage) (s : SState) (log : List SEntry), vs = [.ref a] ∧ Same G H ∧ StF K G a pa p s log ∧ PgW p ∧ ∀ v, Nxt [] G H fun G' H' => VA K G' v (Rust.given (stateP p s)) → Q v H'
def spTFaults : Sp := fun vs H Q _ => vs.length = 1 ∧ ∃ (G : Hp) (fl : Addr) (fs : List V) (es : List (Nat × Str)), vs = [.ref fl] ∧ Same G H ∧ G fl = some (.lst fs) ∧ Paired (FtA K G) fs es ∧ (∀ e ∈ es, okm e.2 = true) ∧ es.length ≤ 1501 ∧ (∀ e ∈ es, e.1 ≤ 2000) ∧ ∀ v, Nxt [] G H fun G' H' => VA K G' v (Rust.given (errorsP (es.map lErr))) → Q v H'
def spTItems : Sp := fun vs H Q _ => vs.length = 1 ∧ ∃ (G : Hp) (pa : Addr) (p : SPage), vs = [.ref pa] ∧ Same G H ∧ PgH K G pa p ∧ PgW p ∧ ∀ v, Nxt [] G H fun G' H' => VA K G' v (Rust.given (itemsP p)) → Q v H'
def spTStep : Sp := fun vs H Q _ => vs.length = 2 ∧ ∃ (G : Hp) (v0 : V) (x : RWire.Value) (b : Bool), vs = [v0, .bl b] ∧ Same G H ∧ VA K G v0 x ∧ ∀ v, Nxt [] G H fun G' H' => VA K G' v (.record [(uo (units "value"), x), (uo (units "done"), .bool b)]) → Q v H'
end
section
variable {K : PySem.W.Frag} {G H : Hp} {Q : VK} {E : XK} {a pa lg : Addr} {p : SPage} {s : SState} {log l : List SEntry} {lv : List V}
theorem u_tName [q : Cur G H] {o : Option Nat} (h : PgH K G pa p) (w : PgW p) (ho : ∀ i, o = some i → i < p.items.length) (k : ∀ v, Nxt [] G H fun G' H' => VA K G' v (tnV p o) → Q v H') : spTName K [.ref pa, .int (idxI o)] H Q E := ⟨rfl, G, pa, p, o, rfl, q.s, h, w, ho, k⟩
theorem u_tLog [q : Cur G H] (h : PgH K G pa p) (w : PgW p) (h1 : G lg = some (.lst lv)) (h2 : Paired (EnA K G) lv l) (h3 : allOk p l) (h4 : l.length ≤ 100000) (k : ∀ v, Nxt [] G H fun G' H' => VA K G' v (Rust.given (logP p l)) → Q v H') : spTLog K [.ref pa, .ref lg] H Q E := ⟨rfl, G, pa, lg, p, lv, l, rfl, q.s, h, w, h1, h2, h3, h4, k⟩
theorem u_tState [q : Cur G H] (h : StF K G a pa p s log) (w : PgW p) (k : ∀ v, Nxt [] G H fun G' H' => VA K G' v (Rust.given (stateP p s)) → Q v H') : spTState K [.ref a] H Q E := ⟨rfl, G, a, pa, p, s, log, rfl, q.s, h, w, k⟩
theorem u_tItems [q : Cur G H] (h : PgH K G pa p) (w : PgW p) (k : ∀ v, Nxt [] G H fun G' H' => VA K G' v (Rust.given (itemsP p)) → Q v H') : spTItems K [.ref pa] H Q E := ⟨rfl, G, pa, p, rfl, q.s, h, w, k⟩
theorem u_tStep [q : Cur G H] {v0 : V} {x : RWire.Value} {b : Bool} (h : VA K G v0 x) (k : ∀ v, Nxt [] G H fun G' H' => VA K G' v (.record [(uo (units "value"), x), (uo (units "done"), .bool b)]) → Q v H') : spTStep K [v0, .bl b] H Q E := ⟨rfl, G, v0, x, b, rfl, q.s, h, k⟩
end
end Ck
namespace Ck
open PySem PySem.Spec PyProof.Rows L2
open He (ga ma fAd)
section
variable {P : Program} {w : World} {K : PySem.W.Frag} {mg : Str → Option Value} {base : Heap}
open R7253f.Spec (Units units isName indexIn itemNames itemName kindAt pathOf targetOf controlOf isOn isOff nameP orNull entryP logP standP stateP goneOf itemP itemsP errorP errorsP kindWord nats)
theorem has_told_name (T : Txt K mg) : Has P w K mg base CX0 1 ("told_name", none) ["page", "item"] (spTName K) := by
  refine mk_has (d := d_told_name) T 62 rfl rfl rfl sc_told_name (fun _ _ _ _ _ _ us hl => match us, hl with | [_, _], _ => rfl) (fun vs H Q E h => h.1) (fun cdv A outer s H vs Q E hr h => ?_)
  refine ⟨_, PSs.nox (pss_one (ps_ret (pe_ifExp (pt_cmpR op_lt (pv 1) pe_int (nomark _)) (pgr (tg_NULL T) rfl) (pe_tup (pa_cons (pgi (gi_TEXT T) rfl) (pa_cons (pe_ix ix_tup (pe_ix ix_list (pe_fld (pv 0) rfl) (pv 1) (fun _ _ => rfl)) pe_int (fun _ _ => rfl)) pa_nil)))))), ?_⟩
  obtain ⟨_, G, pa, p, o, rfl, gs, pg, wf, ho, kk⟩ := h
  have : Cur G H := ⟨gs⟩
  have ⟨dx, tl, ol, dl, ll, ts, ls, ins, hp⟩ := pg
  walk_at "w"
  rw [idx_neg]
  cases o with
  | none =>
    refine iteT ?_
    walk_at "w"
    exact (kk _).go (Stp.refl gs) (by rw [tn_none]; exact .null (tt_NULL T G))
  | some i =>
    obtain ⟨x, hx⟩ := item_at (ho i rfl)
    obtain ⟨v, hv, t, n, m, rfl, ht, hn, hm⟩ := pr_get hp.it hx
    refine iteF ?_
    walk_at "w"
    refine u_fld (on ins) (cl_Page T) (na_Page_things T) fl_Page_things ?_
    walk_at "w"
    refine w_ixL (gs.seq hp.t) (atI_nat hv) ?_
    walk_at "w"
    refine w_ixT (onT ht) rfl ?_
    walk_at "w"
    refine u_tup (by show 2 ≤ sizeLine; decide) fun t1 G1 H1 s1 _ _ ht1 => ?_
    refine (kk _).go s1 ?_
    rw [tn_some]
    refine .text (SqT.of ht1) ?_
    have e : itemName p i = x.name := name_at hx
    rw [e, name_octs (wf.nm x (List.mem_of_getElem? hx))]
    exact upT hn
theorem has_told_step (T : Txt K mg) : Has P w K mg base CX0 3 ("told_step", none) ["value", "is_done"] (spTStep K) := by
  refine mk_has (d := d_told_step) T 69 rfl rfl rfl sc_told_step (fun _ _ _ _ _ _ us hl => match us, hl with | [_, _], _ => rfl) (fun vs H Q E h => h.1) (fun cdv A outer s H vs Q E hr h => ?_)
  refine ⟨_, PSs.nox (pss_one (ps_ret (pcall (has_record T) (hr.mono (by omega)) rfl (gl_record T) pass0 (pa_cons (pe_lst (pa_cons (pe_tup (pa_cons pe_str (pa_cons (pv 0) pa_nil))) (pa_cons (pe_tup (pa_cons pe_str (pa_cons (pe_ifExp (pt_val (pv 1)) (pgr (tg_TRUE T) rfl) (pgr (tg_FALSE T) rfl)) pa_nil))) pa_nil))) pa_nil)))), ?_⟩
  obtain ⟨_, G, v0, x, b, rfl, gs, hv, kk⟩ := h
  have : Cur G H := ⟨gs⟩
  walk_at "w"
  refine u_tup (by show 2 ≤ sizeLine; decide) fun t1 G1 H1 s1 _ _ ht1 => ?_
  walk_at "w"
  have k1 : strV "value" = octs (uo (units "value")) := by decide +kernel
  have k2 : strV "done" = octs (uo (units "done")) := by decide +kernel
  have z1 : (uo (units "value")).length ≤ 100000 := by decide +kernel
  have z2 : (uo (units "done")).length ≤ 100000 := by decide +kernel
  cases b with
  | true =>
    refine iteT ?_
    walk_at "w"
    refine u_tup (by show 2 ≤ sizeLine; decide) fun t2 G2 H2 s2 _ _ ht2 => ?_
    walk_at "w"
    refine u_lstK (by show 2 ≤ sizeLine; decide) fun q G3 H3 s3 _ _ hq => ?_
    walk_at "w"
    have vt : VA K G3 (.ref (ga K "TRUE")) (.bool true) := .tru (tt_TRUE T G3)
    refine u_record (l := [(uo (units "value"), x), (uo (units "done"), .bool true)]) (SqL.of (on hq)) (by show 2 ≤ 1000; omega) (.cons (upT (SqT.of ht1)) k1 (VA.mono ((s1.g.trans s2.g).trans s3.g) _ _ hv) (.cons (upT (SqT.of ht2)) k2 vt .nil)) ?_ fun v G4 H4 s4 _ _ hv4 => (kk v).go (((s1.trans s2).trans s3).trans s4) hv4
    intro e he
    rcases List.mem_cons.mp he with rfl | he
    · exact z1
    · rw [List.mem_singleton.mp he]; exact z2
  | false =>
    refine iteF ?_
    walk_at "w"
    refine u_tup (by show 2 ≤ sizeLine; decide) fun t2 G2 H2 s2 _ _ ht2 => ?_
    walk_at "w"
    refine u_lstK (by show 2 ≤ sizeLine; decide) fun q G3 H3 s3 _ _ hq => ?_
    walk_at "w"
    have vt : VA K G3 (.ref (ga K "FALSE")) (.bool false) := .fls (tt_FALSE T G3)
    refine u_record (l := [(uo (units "value"), x), (uo (units "done"), .bool false)]) (SqL.of (on hq)) (by show 2 ≤ 1000; omega) (.cons (upT (SqT.of ht1)) k1 (VA.mono ((s1.g.trans s2.g).trans s3.g) _ _ hv) (.cons (upT (SqT.of ht2)) k2 vt .nil)) ?_ fun v G4 H4 s4 _ _ hv4 => (kk v).go (((s1.trans s2).trans s3).trans s4) hv4
    intro e he
    rcases List.mem_cons.mp he with rfl | he
    · exact z1
    · rw [List.mem_singleton.mp he]; exact z2
theorem has_told_log (T : Txt K mg) : Has P w K mg base CX0 4 ("told_log", none) ["page", "log"] (spTLog K) := by
  refine mk_has (d := d_told_log) T 63 rfl rfl rfl sc_told_log (fun _ _ _ _ _ _ us hl => match us, hl with | [_, _], _ => rfl) (fun vs H Q E h => h.1) (fun cdv A outer s H vs Q E hr h => ?_)
  refine ⟨_, PSs.nox (pss_cons (ps_set (i := 2) sc_told_log.nd rfl (Or.inl rfl) (pe_lst pa_nil))
 (pss_cons (ps_for PassesOwn.never rfl (pi_list (pv 1)) (pg_tup rfl (pgs_cons (pg_name (i := 3) sc_told_log.nd rfl (Or.inl rfl)) (pgs_cons (pg_name (i := 4) sc_told_log.nd rfl (Or.inl rfl)) pgs_nil))) (pss_one (ps_expr (pe_bm PySem.F.plainAttrs_list PySem.F.slot_list_append PySem.F.type_list_append mt_append (pv 2) (pa_cons (pcall (has_listed T) (hr.mono (by omega)) rfl (gl_listed T) pass0 (pa_cons (pe_lst (pa_cons (pcall (has_text T) (hr.mono (by omega)) rfl (gl_text T) pass0 (pa_cons (pv 3) pa_nil)) (pa_cons (pe_ifExp (pt_cmpR op_eq (pv 3) (pgs (gs_HEAR T) rfl) (nomark _)) (pcall (has_integer T) (hr.mono (by omega)) rfl (gl_integer T) pass0 (pa_cons (pe_op op_add (pv 4) pe_int) pa_nil)) (pcall (has_told_name T) (hr.mono (by omega)) rfl (gl_told_name T) pass0 (pa_cons (pv 0) (pa_cons (pv 4) pa_nil)))) pa_nil))) pa_nil)) pa_nil)))))
 (pss_one (ps_ret (pcall (has_listed T) (hr.mono (by omega)) rfl (gl_listed T) pass0 (pa_cons (pv 2) pa_nil)))))), ?_⟩
  obtain ⟨_, G, pa, lg, p, lv, l, rfl, gs, pg, wf, h1, h2, h3, h4, kk⟩ := h
  have : Cur G H := ⟨gs⟩
  have hlv := h2.length
  have hgl : Rust.given (logP p l) = .list (l.map fun e => Rust.given (entryP p e)) := by
    show Rust.given (.arr (l.map (entryP p))) = _
    rw [g_arr, List.map_map]; rfl
  rw [hgl] at kk
  walk_at "w"
  refine u_lst (Nat.zero_le _) fun q G1 H1 s1 _ _ hq mq => ?_
  walk_at "w"
  refine u_iL (s1.s.seq (SqL.of (s1.g _ _ h1))) ?_
  refine u_for (walk_list (xs := lv)) (fun i σ H' => ∃ (G' : Hp) (vs : List V) (v3 v4 : Option V), σ = [some (.ref pa), some (.ref lg), some (.ref q), v3, v4] ∧ Stp [] G H G' H' ∧ Mu G' H' q (.lst vs) ∧ VAs K G' vs ((l.take i).map fun e => Rust.given (entryP p e)) ∧ vs.length = i) ?_ (fun i σ H' _ ⟨G', _, _, _, _, st, _⟩ => SqL.of (st.s _ _ (st.g _ _ h1))) ?_ ?_
  · exact ⟨G1, [], none, none, rfl, s1, mq, .nil, rfl⟩
  · rintro i v σ H2 H2' hi ⟨G2, vs, v3, v4, rfl, s2, mq2, hvs, hvl⟩ ⟨rfl, hv⟩
    have : Cur G2 H2' := ⟨s2.s⟩
    have : Dn G G2 := ⟨s2.g⟩
    obtain ⟨e, he, hen⟩ := pr_getL h2 hv
    have hok := h3 e (List.mem_of_getElem? he)
    have hlost : isLost e = false := by
      obtain ⟨t, _, h⟩ := hen
      cases e <;> first | rfl | exact h.elim
    obtain ⟨t, rfl, ht⟩ := hen.get
    have ge := g_entry p e hlost
    have fin : ∀ {G5 H5 : Hp} (y : V) (x : RWire.Value), Stp [] G2 H2' G5 H5 → Cur G5 H5 → VA K G5 y (.list [.text (enU e), x]) → x = (if isHear e then .int ((enN e + 1 : Nat) : Int) else .text (uo (itemName p (enN e)))) → rAppend (.ref q) [y] H5 fun _ H6 => ∃ (G' : Hp) (vs : List V) (v3 v4 : Option V), [some (V.ref pa), some (.ref lg), some (.ref q), some (.str (enS e)), some (.int (enN e : Nat))] = [some (V.ref pa), some (.ref lg), some (.ref q), v3, v4] ∧ Stp [] G H G' H6 ∧ Mu G' H6 q (.lst vs) ∧ VAs K G' vs ((l.take (i + 1)).map fun e => Rust.given (entryP p e)) ∧ vs.length = i + 1 := by
      intro G5 H5 y x s5 c5 hy hx
      refine u_app (s5.mu mq2 List.not_mem_nil) (by rw [hvl, sizeLine_eq]; omega) fun G6 H6 s6 _ _ mq6 => ?_
      refine ⟨G6, vs ++ [y], _, _, rfl, ((s2.trans s5).nil.trans s6).drop hq, mq6, ?_, by rw [List.length_append, hvl]; rfl⟩
      rw [map_snoc he]
      refine VAs.app (VAs.mono (s5.g.trans s6.g) _ _ hvs) (.cons ?_ .nil)
      rw [ge, ← hx]
      exact VA.mono s6.g _ _ hy
    walk_at "w"
    refine u_gt (onT ht) rfl ?_
    walk_at "w"
    refine u_bmL mq2.h ?_
    walk_at "w"
    refine u_text (enS_len e) (enS_U e) fun v5 G3 H3 s3 _ _ hv5 => ?_
    walk_at "w"
    rw [enS_hear]
    cases hh : isHear e with
    | true =>
      refine iteT ?_
      walk_at "w"
      refine u_integer fun v6 G4 H4 s4 _ _ hv6 => ?_
      walk_at "w"
      refine u_lstK (by show 2 ≤ sizeLine; decide) fun q5 G5 H5 s5 _ _ hq5 => ?_
      walk_at "w"
      refine u_listed (SqL.of (on hq5)) (by show 2 ≤ 100000; omega) (.cons (VA.mono (s4.g.trans s5.g) _ _ hv5) (.cons (VA.mono s5.g _ _ hv6) .nil)) fun v7 G6 H6 s6 _ c6 hv7 => ?_
      walk_at "w"
      refine fin v7 _ (((s3.trans s4).trans s5).trans s6) c6 hv7 ?_
      rw [hh, if_pos rfl]; rfl
    | false =>
      refine iteF ?_
      walk_at "w"
      have hN : enN e < p.items.length := by
        cases e with
        | hear k => cases hh
        | lost => cases hlost
        | click i => exact hok
        | follow i => exact hok
        | submit i => exact hok
        | change i => exact hok
        | cancel i => exact hok
      refine u_tName (o := some (enN e)) (pg.mono (s2.g.trans s3.g)) wf (fun i h => by cases h; exact hN) fun v6 G4 H4 s4 _ _ hv6 => ?_
      walk_at "w"
      refine u_lstK (by show 2 ≤ sizeLine; decide) fun q5 G5 H5 s5 _ _ hq5 => ?_
      walk_at "w"
      refine u_listed (SqL.of (on hq5)) (by show 2 ≤ 100000; omega) (.cons (VA.mono (s4.g.trans s5.g) _ _ hv5) (.cons (VA.mono s5.g _ _ hv6) .nil)) fun v7 G6 H6 s6 _ c6 hv7 => ?_
      walk_at "w"
      refine fin v7 _ (((s3.trans s4).trans s5).trans s6) c6 hv7 ?_
      rw [hh, if_neg (by decide), tn_some]
  · rintro σ H2 ⟨G2, vs, v3, v4, rfl, s2, mq2, hvs, hvl⟩
    have : Cur G2 H2 := ⟨s2.s⟩
    rw [hlv, List.take_length] at hvs
    walk_at "w"
    refine u_listed mq2.sqL (by omega) hvs fun v G3 H3 s3 _ _ hv => (kk v).go ?_ hv
    exact s2.trans s3
end
end Ck
namespace Ck
open PySem PySem.Spec PyProof.Rows L2
open He (ga ma fAd)
section
variable {P : Program} {w : World} {K : PySem.W.Frag} {mg : Str → Option Value} {base : Heap}
open R7253f.Spec (Units units isName indexIn itemNames itemName kindAt pathOf targetOf controlOf isOn isOff nameP orNull entryP logP standP stateP goneOf itemP itemsP errorP errorsP kindWord nats)

theorem pr1 {K : PySem.W.Frag} {G : Hp} {e : Addr} {z : Str} {u : List UInt8} {v : V} {x : RWire.Value} (h : SqT K G e [.str z, v]) (hz : strV z = octs u) (hv : VA K G v x) : PRs K G [.ref e] [(u, x)] := .cons h hz hv .nil
theorem kw_octs (k : SKind) : strV (kwS k) = octs (uo (units (kindWord k))) := by
  cases k with
  | plain => decide +kernel
  | link => decide +kernel
  | button => decide +kernel
  | check => decide +kernel
  | radio g => show strV "radio" = octs (uo (units "radio")); decide +kernel
  | label c => show strV "label" = octs (uo (units "label")); decide +kernel
theorem kw_len (k : SKind) : (kwS k).cps.size ≤ 100000 := by have := okz_le (okz_kw k); omega
theorem lens4 {l : List (List UInt8 × RWire.Value)} {us : List (List UInt8)} (h : l.map (·.1) = us) (hu : us.all (fun u => decide (u.length ≤ 100000)) = true) : ∀ e ∈ l, e.1.length ≤ 100000 := fun e he => by
  have : e.1 ∈ us := by rw [← h]; exact List.mem_map_of_mem he
  exact of_decide_eq_true (List.all_eq_true.mp hu _ this)
theorem g_item (p : SPage) (i : Nat) : Rust.given (itemP p i) = .record [(uo (units "name"), tnV p (some i)), (uo (units "kind"), .text (uo (units (kindWord (kindAt p i))))), (uo (units "activates"), tnV p (targetOf p i)), (uo (units "control"), tnV p (controlOf p i))] := by
  unfold itemP
  rw [g_rec]
  show RWire.Value.record [(_, Rust.given (nameP p i)), (_, Rust.given (R7253f.Spec.text _)), _, _] = _
  rw [g_text]; rfl
theorem g_items (p : SPage) : Rust.given (itemsP p) = .list ((List.range p.items.length).map fun i => Rust.given (itemP p i)) := by
  unfold itemsP
  rw [g_arr, List.map_map]; rfl
theorem g_stand (p : SPage) (s : SState) (i : Nat) : Rust.given (standP p s i) = .record [(uo (units "name"), tnV p (some i)), (uo (units "on"), .bool (isOn s i)), (uo (units "disabled"), .bool (isOff s i))] := by
  unfold standP
  rw [g_rec]; rfl
theorem g_nats (l : List Nat) : Rust.given (nats l) = .list ((l.map fun (j : Nat) => (j : Int)).map .int) := by
  unfold nats
  rw [g_arr, List.map_map, List.map_map]; rfl
theorem g_state (p : SPage) (s : SState) : Rust.given (stateP p s) = .record [(uo (units "items"), .list ((List.range p.items.length).map fun i => Rust.given (standP p s i))), (uo (units "gone"), .list (((goneOf p s).map fun (j : Nat) => (j : Int)).map .int))] := by
  unfold stateP
  rw [g_rec]
  show RWire.Value.record [(_, Rust.given (.arr _)), (_, Rust.given (nats _))] = _
  rw [g_arr, g_nats, List.map_map]; rfl
theorem has_told_items (T : Txt K mg) : Has P w K mg base CX0 4 ("told_items", none) ["page"] (spTItems K) := by
  refine mk_has (d := d_told_items) T 66 rfl rfl rfl sc_told_items (fun _ _ _ _ _ _ us hl => match us, hl with | [_], _ => rfl) (fun vs H Q E h => h.1) (fun cdv A outer s H vs Q E hr h => ?_)
  refine ⟨_, PSs.nox (pss_cons (ps_set (i := 1) sc_told_items.nd rfl (Or.inl rfl) (pe_lst pa_nil))
 (pss_cons (ps_for PassesOwn.never rfl (pi_range1 (by rfl) (fr_range T) (pa_cons (pe_callB c_len (by rfl) (fr_len T) PySem.boot_len (pa_cons (pe_fld (pv 0) rfl) pa_nil)) pa_nil)) (pg_name (i := 2) sc_told_items.nd rfl (Or.inl rfl)) (pss_cons (ps_set (i := 3) sc_told_items.nd rfl (Or.inl rfl) (pe_lst (pa_cons (pe_tup (pa_cons pe_str (pa_cons (pcall (has_told_name T) (hr.mono (by omega)) rfl (gl_told_name T) pass0 (pa_cons (pv 0) (pa_cons (pv 2) pa_nil))) pa_nil))) (pa_cons (pe_tup (pa_cons pe_str (pa_cons (pcall (has_text T) (hr.mono (by omega)) rfl (gl_text T) pass0 (pa_cons (pmeth (pv 0) (cl_Page T) (me_Page_kind T) (has_Page_kind T) (hr.mono (by omega)) pass0 (pa_cons (pv 2) pa_nil)) pa_nil)) pa_nil))) pa_nil))))
 (pss_cons (ps_expr (pe_bm PySem.F.plainAttrs_list PySem.F.slot_list_append PySem.F.type_list_append mt_append (pv 3) (pa_cons (pe_tup (pa_cons pe_str (pa_cons (pcall (has_told_name T) (hr.mono (by omega)) rfl (gl_told_name T) pass0 (pa_cons (pv 0) (pa_cons (pmeth (pv 0) (cl_Page T) (me_Page_activated T) (has_Page_activated T) (hr.mono (by omega)) pass0 (pa_cons (pv 2) pa_nil)) pa_nil))) pa_nil))) pa_nil)))
 (pss_one (ps_expr (pe_bm PySem.F.plainAttrs_list PySem.F.slot_list_append PySem.F.type_list_append mt_append (pv 1) (pa_cons (pcall (has_record T) (hr.mono (by omega)) rfl (gl_record T) pass0 (pa_cons (pe_op op_cat (pv 3) (pe_lst (pa_cons (pe_tup (pa_cons pe_str (pa_cons (pcall (has_told_name T) (hr.mono (by omega)) rfl (gl_told_name T) pass0 (pa_cons (pv 0) (pa_cons (pmeth (pv 0) (cl_Page T) (me_Page_control T) (has_Page_control T) (hr.mono (by omega)) pass0 (pa_cons (pv 2) pa_nil)) pa_nil))) pa_nil))) pa_nil))) pa_nil)) pa_nil)))))))
 (pss_one (ps_ret (pcall (has_listed T) (hr.mono (by omega)) rfl (gl_listed T) pass0 (pa_cons (pv 1) pa_nil)))))), ?_⟩
  obtain ⟨_, G, pa, p, rfl, gs, pg, wf, kk⟩ := h
  have : Cur G H := ⟨gs⟩
  have hp8 := wf.len
  have ⟨dx, tl, ol, dl, ll, ts, ls, ins, hp⟩ := pg
  have htl := hp.it.length
  rw [g_items] at kk
  walk_at "w"
  refine u_lst (Nat.zero_le _) fun q G1 H1 s1 _ _ hq mq => ?_
  walk_at "w"
  refine u_fld (s1.s _ _ (s1.g _ _ ins)) (cl_Page T) (na_Page_things T) fl_Page_things ?_
  walk_at "w"
  refine u_lenL (s1.s.seq (s1.g.seq hp.t)) ?_
  walk_at "w"
  rw [htl]
  refine u_iR (by omega) ?_
  refine u_for (walk_range (n := p.items.length)) (fun i σ H' => ∃ (G' : Hp) (vs : List V) (v2 v3 : Option V), σ = [some (.ref pa), some (.ref q), v2, v3] ∧ Stp [] G H G' H' ∧ Mu G' H' q (.lst vs) ∧ VAs K G' vs (((List.range p.items.length).take i).map fun i => Rust.given (itemP p i)) ∧ vs.length = i) ?_ (fun _ _ _ _ _ => trivial) ?_ ?_
  · exact ⟨G1, [], none, none, rfl, s1, mq, .nil, rfl⟩
  · rintro i v σ H2 H2' hi ⟨G2, vs, v2, v3, rfl, s2, mq2, hvs, hvl⟩ ⟨rfl, hv⟩
    obtain rfl := rng0 hv
    have : Cur G2 H2' := ⟨s2.s⟩
    have pg2 := pg.mono s2.g
    have ins2 := s2.g _ _ ins
    obtain ⟨x, hx⟩ := item_at hi
    have hk := kind_at hx
    walk_at "w"
    refine u_tName (o := some i) pg2 wf (fun j h => by cases h; exact hi) fun v3 G3 H3 s3 _ _ hv3 => ?_
    walk_at "w"
    refine u_tup (by show 2 ≤ sizeLine; decide) fun t4 G4 H4 s4 _ _ ht4 => ?_
    walk_at "w"
    refine u_mth (s4.s _ _ (s4.g _ _ (s3.g _ _ ins2))) fm_Page_kind ?_
    walk_at "w"
    refine u_kind (pg2.mono ((s3.g.trans s4.g).trans s4.s)) hx ?_
    walk_at "w"
    refine u_text (kw_len x.kind) (kw_octs x.kind) fun v5 G5 H5 s5 _ _ hv5 => ?_
    walk_at "w"
    refine u_tup (by show 2 ≤ sizeLine; decide) fun t6 G6 H6 s6 _ _ ht6 => ?_
    walk_at "w"
    refine u_lst (by show 2 ≤ sizeLine; decide) fun q7 G7 H7 s7 _ _ hq7 mq7 => ?_
    walk_at "w"
    have s27 := (((s3.trans s4).trans s5).trans s6).trans s7
    refine u_bmL mq7.h ?_
    walk_at "w"
    refine u_mth (s7.s _ _ (s27.g _ _ ins2)) fm_Page_activated ?_
    walk_at "w"
    refine u_target (pg2.mono s27.g) wf hi fun G8 H8 s8 _ _ => ?_
    walk_at "w"
    refine u_tName (pg2.mono (s27.g.trans s8.g)) wf (fun j h => target_lt wf hi h) fun v9 G9 H9 s9 _ _ hv9 => ?_
    walk_at "w"
    refine u_tup (by show 2 ≤ sizeLine; decide) fun ta Ga Ha sa _ _ hta => ?_
    walk_at "w"
    have s7a := (s8.trans s9).trans sa
    refine u_app (s7a.mu mq7 List.not_mem_nil) (by show 2 < sizeLine; decide) fun Gb Hb sb _ _ mqb => ?_
    walk_at "w"
    have s2b : Stp [] G2 H2' Gb Hb := ((s27.trans s7a).nil.trans sb).drop (((s3.trans s4).trans s5).trans s6 |>.free hq7)
    have mq2b := s2b.mu mq2 List.not_mem_nil
    refine u_bmL mq2b.h ?_
    walk_at "w"
    refine u_mth (sb.s _ _ (s2b.g _ _ ins2)) fm_Page_control ?_
    walk_at "w"
    refine u_control (pg2.mono s2b.g) wf hi fun Gc Hc sc _ _ => ?_
    walk_at "w"
    refine u_tName (pg2.mono (s2b.g.trans sc.g)) wf (fun j h => control_lt wf hi h) fun vd Gd Hd sd _ _ hvd => ?_
    walk_at "w"
    refine u_tup (by show 2 ≤ sizeLine; decide) fun te Ge He se _ _ hte => ?_
    walk_at "w"
    refine u_lstK (by show 1 ≤ sizeLine; decide) fun qf Gf Hf sf _ _ hqf => ?_
    walk_at "w"
    have sbf := ((sc.trans sd).trans se).trans sf
    refine u_cat (sbf.mu mqb List.not_mem_nil).h (on (H := Hf) hqf) (by show 3 + 1 ≤ sizeLine; decide) fun qg Gg Hg sg _ _ hqg => ?_
    walk_at "w"
    have gbg := sbf.g.trans sg.g
    have g4g : Same G4 Gg := ((s5.g.trans s6.g).trans s7.g).trans (s7a.g.trans (sb.g.trans gbg))
    have g6g : Same G6 Gg := s7.g.trans (s7a.g.trans (sb.g.trans gbg))
    have gag : Same Ga Gg := sb.g.trans gbg
    have geg : Same Ge Gg := sf.g.trans sg.g
    have prs := PRs.app (pr1 (SqT.of (g4g _ _ ht4)) (show strV "name" = octs (uo (units "name")) by decide +kernel) (VA.mono (s4.g.trans g4g) _ _ hv3)) (PRs.app (pr1 (SqT.of (g6g _ _ ht6)) (show strV "kind" = octs (uo (units "kind")) by decide +kernel) (VA.mono (s6.g.trans g6g) _ _ hv5)) (PRs.app (pr1 (SqT.of (gag _ _ hta)) (show strV "activates" = octs (uo (units "activates")) by decide +kernel) (VA.mono (sa.g.trans gag) _ _ hv9)) (pr1 (SqT.of (geg _ _ hte)) (show strV "control" = octs (uo (units "control")) by decide +kernel) (VA.mono (se.g.trans geg) _ _ hvd))))
    refine u_record (SqL.of (on (H := Hg) hqg)) (by show 4 ≤ 1000; omega) prs (lens4 (us := [uo (units "name"), uo (units "kind"), uo (units "activates"), uo (units "control")]) rfl (by decide +kernel)) fun vh Gh Hh sh _ _ hvh => ?_
    walk_at "w"
    have s2h := s2b.trans ((sbf.trans sg).trans sh)
    refine u_app (s2h.mu mq2 List.not_mem_nil) (by rw [hvl]; exact lst_le (by omega)) fun Gi Hi si _ _ mqi => ?_
    walk_at "w"
    refine ⟨Gi, vs ++ [vh], _, _, rfl, ((s2.trans s2h).nil.trans si).drop hq, mqi, ?_, by rw [List.length_append, hvl]; rfl⟩
    rw [map_snoc (List.getElem?_range hi)]
    refine VAs.app (VAs.mono (s2h.g.trans si.g) _ _ hvs) (.cons ?_ .nil)
    rw [g_item, hk]
    exact VA.mono si.g _ _ hvh
  · rintro σ H2 ⟨G2, vs, v2, v3, rfl, s2, mq2, hvs, hvl⟩
    have : Cur G2 H2 := ⟨s2.s⟩
    rw [List.take_of_length_le (by rw [List.length_range]; exact Nat.le_refl _)] at hvs
    walk_at "w"
    refine u_listed mq2.sqL (by omega) hvs fun v G3 H3 s3 _ _ hv => (kk v).go ?_ hv
    exact s2.trans s3
theorem has_told_state (T : Txt K mg) : Has P w K mg base CX0 4 ("told_state", none) ["state"] (spTState K) := by
  refine mk_has (d := d_told_state) T 64 rfl rfl rfl sc_told_state (fun _ _ _ _ _ _ us hl => match us, hl with | [_], _ => rfl) (fun vs H Q E h => h.1) (fun cdv A outer s H vs Q E hr h => ?_)
  refine ⟨_, PSs.nox (pss_cons (ps_set (i := 1) sc_told_state.nd rfl (Or.inl rfl) (pe_lst pa_nil))
 (pss_cons (ps_for PassesOwn.never rfl (pi_range1 (by rfl) (fr_range T) (pa_cons (pe_callB c_len (by rfl) (fr_len T) PySem.boot_len (pa_cons (pe_fld (pv 0) rfl) pa_nil)) pa_nil)) (pg_name (i := 2) sc_told_state.nd rfl (Or.inl rfl)) (pss_cons (ps_set (i := 3) sc_told_state.nd rfl (Or.inl rfl) (pe_lst (pa_cons (pe_tup (pa_cons pe_str (pa_cons (pcall (has_told_name T) (hr.mono (by omega)) rfl (gl_told_name T) pass0 (pa_cons (pe_fld (pv 0) rfl) (pa_cons (pv 2) pa_nil))) pa_nil))) (pa_cons (pe_tup (pa_cons pe_str (pa_cons (pcall (has_truth T) (hr.mono (by omega)) rfl (gl_truth T) pass0 (pa_cons (pe_ix ix_list (pe_fld (pv 0) rfl) (pv 2) (fun _ _ => rfl)) pa_nil)) pa_nil))) pa_nil))))
 (pss_one (ps_expr (pe_bm PySem.F.plainAttrs_list PySem.F.slot_list_append PySem.F.type_list_append mt_append (pv 1) (pa_cons (pcall (has_record T) (hr.mono (by omega)) rfl (gl_record T) pass0 (pa_cons (pe_op op_cat (pv 3) (pe_lst (pa_cons (pe_tup (pa_cons pe_str (pa_cons (pcall (has_truth T) (hr.mono (by omega)) rfl (gl_truth T) pass0 (pa_cons (pe_ix ix_list (pe_fld (pv 0) rfl) (pv 2) (fun _ _ => rfl)) pa_nil)) pa_nil))) pa_nil))) pa_nil)) pa_nil))))))
 (pss_cons (ps_set (i := 4) sc_told_state.nd rfl (Or.inl rfl) (pcall (has_integers T) (hr.mono (by omega)) rfl (gl_integers T) pass0 (pa_cons (pe_lc (own := [("listener", 5)]) (g := gName 5) (tt := tYes) rfl sc_told_state.nd (pi_list (pe_fld (pv 0) rfl)) (blkOk_by (N := N_told_state) (sc := defScope s_told_state) (by decide +kernel)) (fun _ _ _ _ _ => (pg_name (i := 5) sc_told_state.nd rfl (Or.inl rfl))) (fun _ _ _ _ _ => pts_nil) (fun _ _ _ _ _ => (re_e (pe_op op_add (pv 5) pe_int) (by walk_at "wk")))) pa_nil)))
 (pss_one (ps_ret (pcall (has_record T) (hr.mono (by omega)) rfl (gl_record T) pass0 (pa_cons (pe_lst (pa_cons (pe_tup (pa_cons pe_str (pa_cons (pcall (has_listed T) (hr.mono (by omega)) rfl (gl_listed T) pass0 (pa_cons (pv 1) pa_nil)) pa_nil))) (pa_cons (pe_tup (pa_cons pe_str (pa_cons (pv 4) pa_nil))) pa_nil))) pa_nil))))))), ?_⟩
  obtain ⟨_, G, a, pa, p, s, log, rfl, gs, sf, wf, kk⟩ := h
  have : Cur G H := ⟨gs⟩
  have hp8 := wf.len
  have ⟨⟨dx, ol, dl, gl, lg, wl, lv, h1, h2, h3, h4, h5, h6⟩, pg, w⟩ := sf
  have hon : (s.on.map V.bl).length = p.items.length := by rw [List.length_map, w.on]
  rw [g_state] at kk
  walk_at "w"
  refine u_lst (Nat.zero_le _) fun q G1 H1 s1 _ _ hq mq => ?_
  walk_at "w"
  refine u_fld (s1.s _ _ (s1.g _ _ h1)) (cl_State T) (na_State_on T) fl_State_on ?_
  walk_at "w"
  refine u_lenL (SqL.of (s1.s _ _ (s1.g _ _ h2))) ?_
  walk_at "w"
  rw [hon]
  refine u_iR (by omega) ?_
  refine u_for (walk_range (n := p.items.length)) (fun i σ H' => ∃ (G' : Hp) (vs : List V) (v2 v3 : Option V), σ = [some (.ref a), some (.ref q), v2, v3, none, none] ∧ Stp [] G H G' H' ∧ Mu G' H' q (.lst vs) ∧ VAs K G' vs (((List.range p.items.length).take i).map fun i => Rust.given (standP p s i)) ∧ vs.length = i) ?_ (fun _ _ _ _ _ => trivial) ?_ ?_
  · exact ⟨G1, [], none, none, rfl, s1, mq, .nil, rfl⟩
  · rintro i v σ H2 H2' hi ⟨G2, vs, v2, v3, rfl, s2, mq2, hvs, hvl⟩ ⟨rfl, hv⟩
    obtain rfl := rng0 hv
    have : Cur G2 H2' := ⟨s2.s⟩
    have pg2 := pg.mono s2.g
    have bo : (s.on.map V.bl)[i]? = some (.bl (isOn s i)) := bls_at (by rw [w.on]; exact hi)
    have bf : (s.off.map V.bl)[i]? = some (.bl (isOff s i)) := bls_at (by rw [w.off]; exact hi)
    have o1 : ∀ {Ga Ha : Hp} {x : Addr} {o : HO}, Stp [] G2 H2' Ga Ha → G x = some o → Ha x = some o := fun st h => st.s _ _ (st.g _ _ (s2.g _ _ h))
    walk_at "w"
    refine u_fld (s2.s _ _ (s2.g _ _ h1)) (cl_State T) (na_State_page T) fl_State_page ?_
    walk_at "w"
    refine u_tName (o := some i) pg2 wf (fun j h => by cases h; exact hi) fun v3 G3 H3 s3 _ _ hv3 => ?_
    walk_at "w"
    refine u_tup (by show 2 ≤ sizeLine; decide) fun t4 G4 H4 s4 _ _ ht4 => ?_
    walk_at "w"
    have s24 := s3.trans s4
    refine u_fld (o1 s24 h1) (cl_State T) (na_State_on T) fl_State_on ?_
    walk_at "w"
    refine w_ixL (SqL.of (o1 s24 h2)) (atI_nat bo) ?_
    walk_at "w"
    refine u_truth fun v5 hv5 => ?_
    walk_at "w"
    refine u_tup (by show 2 ≤ sizeLine; decide) fun t6 G6 H6 s6 _ _ ht6 => ?_
    walk_at "w"
    refine u_lstK (by show 2 ≤ sizeLine; decide) fun q7 G7 H7 s7 _ _ hq7 => ?_
    walk_at "w"
    have s27 := (s24.trans s6).trans s7
    have mq7 := s27.mu mq2 List.not_mem_nil
    refine u_bmL mq7.h ?_
    walk_at "w"
    refine u_fld (o1 s27 h1) (cl_State T) (na_State_disabled T) fl_State_disabled ?_
    walk_at "w"
    refine w_ixL (SqL.of (o1 s27 h3)) (atI_nat bf) ?_
    walk_at "w"
    refine u_truth fun v8 hv8 => ?_
    walk_at "w"
    refine u_tup (by show 2 ≤ sizeLine; decide) fun t9 G9 H9 s9 _ _ ht9 => ?_
    walk_at "w"
    refine u_lstK (by show 1 ≤ sizeLine; decide) fun qa Ga Ha sa _ _ hqa => ?_
    walk_at "w"
    refine u_cat (sa.s _ _ (sa.g _ _ (s9.g _ _ hq7))) (on (H := Ha) hqa) (by show 2 + 1 ≤ sizeLine; decide) fun qb Gb Hb sb _ _ hqb => ?_
    walk_at "w"
    have g4b : Same G4 Gb := (s6.g.trans s7.g).trans (s9.g.trans (sa.g.trans sb.g))
    have g6b : Same G6 Gb := s7.g.trans (s9.g.trans (sa.g.trans sb.g))
    have g9b : Same G9 Gb := sa.g.trans sb.g
    have prs := PRs.app (pr1 (SqT.of (g4b _ _ ht4)) (show strV "name" = octs (uo (units "name")) by decide +kernel) (VA.mono (s4.g.trans g4b) _ _ hv3)) (PRs.app (pr1 (SqT.of (g6b _ _ ht6)) (show strV "on" = octs (uo (units "on")) by decide +kernel) (hv5 Gb)) (pr1 (SqT.of (g9b _ _ ht9)) (show strV "disabled" = octs (uo (units "disabled")) by decide +kernel) (hv8 Gb)))
    refine u_record (SqL.of (on (H := Hb) hqb)) (by show 3 ≤ 1000; omega) prs (lens4 (us := [uo (units "name"), uo (units "on"), uo (units "disabled")]) rfl (by decide +kernel)) fun vh Gh Hh sh _ _ hvh => ?_
    walk_at "w"
    have s2h := (((s27.trans s9).trans sa).trans sb).trans sh
    refine u_app (s2h.mu mq2 List.not_mem_nil) (by rw [hvl]; exact lst_le (by omega)) fun Gi Hi si _ _ mqi => ?_
    walk_at "w"
    refine ⟨Gi, vs ++ [vh], _, _, rfl, ((s2.trans s2h).nil.trans si).drop hq, mqi, ?_, by rw [List.length_append, hvl]; rfl⟩
    rw [map_snoc (List.getElem?_range hi)]
    refine VAs.app (VAs.mono (s2h.g.trans si.g) _ _ hvs) (.cons ?_ .nil)
    rw [g_stand]
    exact VA.mono si.g _ _ hvh
  rintro σ H2 ⟨G2, vs, v2, v3, rfl, s2, mq2, hvs, hvl⟩
  have : Cur G2 H2 := ⟨s2.s⟩
  rw [List.take_of_length_le (by rw [List.length_range]; exact Nat.le_refl _)] at hvs
  have hgl : (goneL s.gone).length ≤ 8 := by
    unfold goneL
    have := List.length_filter_le (fun k => s.gone.getD k false) (List.range s.gone.length)
    rw [List.length_range] at this
    have e := w.gone
    have := wf.lis
    omega
  have hgo : (goneOf p s).map (fun (j : Nat) => (j : Int)) = (goneL s.gone).map fun (j : Nat) => (j : Int) + 1 := by
    unfold goneOf goneL
    rw [w.gone, List.map_map]
    refine List.map_congr_left fun j _ => ?_
    show ((j + 1 : Nat) : Int) = (j : Int) + 1
    omega
  rw [hgo] at kk
  have h4' : SqL K H2 gl (natsV (goneL s.gone)) := SqL.of (s2.s _ _ (s2.g _ _ h4))
  walk_at "w"
  refine u_fld (s2.s _ _ (s2.g _ _ h1)) (cl_State T) (na_State_gone T) fl_State_gone ?_
  walk_at "w"
  refine u_iL h4' ?_
  refine u_lcA (walk_list (xs := natsV (goneL s.gone))) (Yv := fun i v => (natsV (goneL s.gone))[i]? = some v) (fun i H x H' h => h) (fun H' st => st.seq h4') (by unfold natsV; rw [List.length_map]; omega) (fun i y _ => ∃ j, (goneL s.gone)[i]? = some j ∧ y = .int ((j : Int) + 1)) (fun _ _ _ _ _ h => h) ?_ ?_ (fun _ _ _ _ h q => mg_name h q)
  · rintro i x G3 H3 Qy hi s3 _ _ hx ky
    obtain ⟨j, hj, rfl⟩ := nats_at hx
    walk_at "w"
    exact ky _ _ _ (Stp.refl s3.s) ⟨j, hj, rfl⟩
  intro q3 ys G3 H3 s3 _ _ hq3 mu3 hyl hys
  have ey : ys = ((goneL s.gone).map fun (j : Nat) => (j : Int) + 1).map V.int := by
    unfold natsV at hyl
    rw [List.length_map] at hyl
    apply List.ext_getElem?
    intro i
    rw [List.getElem?_map, List.getElem?_map]
    cases hy : ys[i]? with
    | some y =>
      obtain ⟨c, hc, e⟩ := hys i y hy
      rw [e, hc]; rfl
    | none =>
      have hi := List.getElem?_eq_none_iff.mp hy
      rw [List.getElem?_eq_none (by omega)]; rfl
  subst ey
  walk_at "w"
  refine u_integers mu3.sqL (by rw [List.length_map]; omega) fun v4 G4 H4 s4 _ _ hv4 => ?_
  walk_at "w"
  have s24 := s3.trans s4
  refine u_listed (s24.mu mq2 List.not_mem_nil).sqL (by omega) (VAs.mono s24.g _ _ hvs) fun v5 G5 H5 s5 _ _ hv5 => ?_
  walk_at "w"
  refine u_tup (by show 2 ≤ sizeLine; decide) fun t6 G6 H6 s6 _ _ ht6 => ?_
  walk_at "w"
  refine u_tup (by show 2 ≤ sizeLine; decide) fun t7 G7 H7 s7 _ _ ht7 => ?_
  walk_at "w"
  refine u_lstK (by show 2 ≤ sizeLine; decide) fun q8 G8 H8 s8 _ _ hq8 => ?_
  walk_at "w"
  have prs := PRs.app (pr1 (SqT.of ((s7.g.trans s8.g) _ _ ht6)) (show strV "items" = octs (uo (units "items")) by decide +kernel) (VA.mono ((s6.g.trans s7.g).trans s8.g) _ _ hv5)) (pr1 (SqT.of (s8.g _ _ ht7)) (show strV "gone" = octs (uo (units "gone")) by decide +kernel) (VA.mono ((s5.g.trans s6.g).trans (s7.g.trans s8.g)) _ _ hv4))
  refine u_record (SqL.of (on (H := H8) hq8)) (by show 2 ≤ 1000; omega) prs (lens4 (us := [uo (units "items"), uo (units "gone")]) rfl (by decide +kernel)) fun v9 G9 H9 s9 _ _ hv9 => ?_
  exact (kk v9).go (s2.trans (s24.trans (((s5.trans s6).trans (s7.trans s8)).trans s9))) hv9
end
end Ck
namespace Ck
open PySem PySem.Spec PyProof.Rows L2
open He (ga ma fAd)
open R7253f.Spec (Units units digits digitsAux lineError errorP errorsP)
/-! ### numbers in words -/
def toU (c : Char) : UInt16 := UInt16.ofNat c.toNat
theorem dig_U : ∀ d < 10, toU (Nat.digitChar d) = UInt16.ofNat (48 + d) := by decide
theorem digs : ∀ (k n : Nat) (ds : List Char), (Nat.toDigitsCore 10 k n ds).map toU = digitsAux k n ++ ds.map toU
  | 0, n, ds => rfl
  | k + 1, n, ds => by
    have hd := dig_U (n % 10) (Nat.mod_lt _ (by omega))
    unfold Nat.toDigitsCore digitsAux
    by_cases h : n < 10
    · have e : n / 10 = 0 := by omega
      have e2 : n % 10 = n := by omega
      rw [if_pos h]
      simp only [e, if_true]
      rw [List.map_cons, hd, e2]; rfl
    · have e : ¬ n / 10 = 0 := by omega
      rw [if_neg h]
      simp only [e, if_false]
      rw [digs k (n / 10) (Nat.digitChar (n % 10) :: ds), List.map_cons, hd, List.append_assoc]; rfl
theorem digits_str (n : Nat) : uz (Str.ofString (toString (n : Int))) = digits n := by
  rw [lit_uz]
  have e : toString (n : Int) = String.ofList (Nat.toDigits 10 n) := rfl
  rw [e]
  unfold units
  rw [String.toList_ofList]
  have := digs (n + 1) n []
  rw [List.map_nil, List.append_nil] at this
  exact this
theorem strV_app (a b : Str) : strV (a ++ b) = strV a ++ strV b := by
  unfold strV
  have e : (a ++ b).cps.toList = a.cps.toList ++ b.cps.toList := by
    show (a.cps ++ b.cps).toList = _
    rw [Array.toList_append]
  rw [e, List.map_append]
theorem uz_app (a b : Str) : uz (a ++ b) = uz a ++ uz b := by
  unfold uz
  have e : (a ++ b).cps.toList = a.cps.toList ++ b.cps.toList := by
    show (a.cps ++ b.cps).toList = _
    rw [Array.toList_append]
  rw [e, List.map_append]
theorem dig_lt : ∀ (k n : Nat), ∀ c ∈ digitsAux k n, c.toNat < 128
  | 0, n, c, h => by cases h
  | k + 1, n, c, h => by
    unfold digitsAux at h
    split at h
    · rename_i hn
      rw [List.mem_singleton.mp h, UInt16.toNat_ofNat']
      omega
    · rcases List.mem_append.mp h with h | h
      · exact dig_lt k _ c h
      · rw [List.mem_singleton.mp h, UInt16.toNat_ofNat']
        omega
theorem dig_len : ∀ (k n : Nat), (digitsAux k n).length ≤ k
  | 0, n => Nat.le_refl _
  | k + 1, n => by
    unfold digitsAux
    split
    · show 1 ≤ _; omega
    · rw [List.length_append]
      have := dig_len k (n / 10)
      show _ + 1 ≤ _; omega
theorem digs_mem : ∀ (k n : Nat) (ds : List Char), ∀ c ∈ Nat.toDigitsCore 10 k n ds, c ∈ ds ∨ ∃ d, d < 10 ∧ c = Nat.digitChar d
  | 0, n, ds, c, h => .inl h
  | k + 1, n, ds, c, h => by
    unfold Nat.toDigitsCore at h
    have hm : n % 10 < 10 := Nat.mod_lt _ (by omega)
    by_cases e : n / 10 = 0
    · simp only [e, if_true] at h
      rcases List.mem_cons.mp h with rfl | h
      · exact .inr ⟨_, hm, rfl⟩
      · exact .inl h
    · simp only [e, if_false] at h
      rcases digs_mem k _ _ c h with h | h
      · rcases List.mem_cons.mp h with rfl | h
        · exact .inr ⟨_, hm, rfl⟩
        · exact .inl h
      · exact .inr h
theorem digC_lt : ∀ d < 10, (Nat.digitChar d).toNat < 128 := by decide
theorem num_cps (n : Nat) : ∀ c ∈ (Str.ofString (toString (n : Int))).cps.toList, c < 65536 := by
  rw [Str.ofString_eq_toList]
  have e : toString (n : Int) = String.ofList (Nat.toDigits 10 n) := rfl
  rw [e, String.toList_ofList]
  intro c hc
  have hc : c ∈ (Nat.toDigits 10 n).map Char.toNat := by simpa using hc
  obtain ⟨x, hx, rfl⟩ := List.mem_map.mp hc
  rcases digs_mem _ _ _ x hx with h | ⟨d, hd, rfl⟩
  · cases h
  · have := digC_lt d hd
    omega
def lineZ (n : Nat) (r : Str) : Str := Str.ofString "line " ++ Str.ofString (toString (n : Int)) ++ Str.ofString ": " ++ r
theorem okm_mem {r : Str} (h : okm r = true) {c : Nat} (hc : c ∈ r.cps.toList) : c < 128 := of_decide_eq_true (List.all_eq_true.mp (Bool.and_eq_true_iff.mp h).2 c hc)
theorem okm_le {r : Str} (h : okm r = true) : r.cps.size ≤ 100 := of_decide_eq_true (Bool.and_eq_true_iff.mp h).1
theorem okm_uz {r : Str} (h : okm r = true) : strV r = un (uz r) := strV_uz fun c hc => by
  have := okm_mem h hc
  omega
theorem lineZ_uz (n : Nat) (r : Str) : uz (lineZ n r) = lineError n (uz r) := by
  unfold lineZ lineError
  rw [uz_app, uz_app, uz_app, digits_str, lit_uz, lit_uz]
theorem lineZ_un {n : Nat} {r : Str} (h : okm r = true) : strV (lineZ n r) = un (lineError n (uz r)) := by
  rw [← lineZ_uz]
  unfold lineZ
  rw [strV_app, strV_app, strV_app, uz_app, uz_app, uz_app, un_app, un_app, un_app, okm_uz h, strV_uz (num_cps n), show strV (Str.ofString "line ") = un (uz (Str.ofString "line ")) by decide +kernel, show strV (Str.ofString ": ") = un (uz (Str.ofString ": ")) by decide +kernel]
theorem lineE_lt {n : Nat} {r : Str} (h : okm r = true) : ∀ c ∈ lineError n (uz r), c.toNat < 256 := by
  intro c hc
  unfold lineError at hc
  have lit : ∀ {s : String}, (units s).all (fun c => decide (c.toNat < 256)) = true → c ∈ units s → c.toNat < 256 := fun h m => of_decide_eq_true (List.all_eq_true.mp h c m)
  rcases List.mem_append.mp hc with hc | hc
  · rcases List.mem_append.mp hc with hc | hc
    · rcases List.mem_append.mp hc with hc | hc
      · exact lit (by decide +kernel) hc
      · have := dig_lt _ _ c hc
        omega
    · exact lit (by decide +kernel) hc
  · unfold uz at hc
    obtain ⟨x, hx, rfl⟩ := List.mem_map.mp hc
    have := okm_mem h hx
    rw [UInt16.toNat_ofNat']
    omega
theorem num_size (n : Nat) : (Str.ofString (toString (n : Int))).cps.size ≤ n + 1 := by
  have e : (uz (Str.ofString (toString (n : Int)))).length = (Str.ofString (toString (n : Int))).cps.size := by unfold uz; rw [List.length_map, Array.length_toList]
  rw [← e, digits_str]
  exact dig_len _ _
theorem size_app (a b : Str) : (a ++ b).cps.size = a.cps.size + b.cps.size := by
  show (a.cps ++ b.cps).size = _
  rw [Array.size_append]
theorem lineZ_size {n : Nat} {r : Str} (h : okm r = true) : (lineZ n r).cps.size ≤ n + 200 := by
  unfold lineZ
  rw [size_app, size_app, size_app]
  have h1 := num_size n
  have h2 := okm_le h
  have h3 : (Str.ofString "line ").cps.size ≤ 10 := by decide +kernel
  have h4 : (Str.ofString ": ").cps.size ≤ 10 := by decide +kernel
  omega
end Ck
namespace Ck
open PySem PySem.Spec PyProof.Rows L2
open He (ga ma fAd)
section
variable {P : Program} {w : World} {K : PySem.W.Frag} {mg : Str → Option Value} {base : Heap}
open R7253f.Spec (Units units digits lineError errorP errorsP)

theorem g_err (n : String) (m : Units) : Rust.given (errorP n m) = .record [(uo (units "name"), .text (uo (units n))), (uo (units "message"), .text (uo m))] := by
  unfold errorP
  rw [g_rec]
  show RWire.Value.record [(_, Rust.given (R7253f.Spec.text n)), (_, Rust.given (.str m))] = _
  rw [g_text, g_str]
theorem g_errs (l : List Units) : Rust.given (errorsP l) = .record [(uo (units "name"), .text (uo (units "AggregateError"))), (uo (units "message"), .text (uo (units "invalid page"))), (uo (units "errors"), .list (l.map fun m => Rust.given (errorP "SyntaxError" m)))] := by
  unfold errorsP
  rw [g_rec]
  show RWire.Value.record [(_, Rust.given (R7253f.Spec.text _)), (_, Rust.given (R7253f.Spec.text _)), (_, Rust.given (.arr _))] = _
  rw [g_text, g_text, g_arr, List.map_map]; rfl
theorem log2_le {n : Nat} (h : n ≤ 100000) : (n : Int).natAbs.log2 < 1920 := by
  rw [Int.natAbs_natCast]
  rcases Nat.eq_zero_or_pos n with rfl | hp
  · decide
  · have : n < 2 ^ 1920 := Nat.lt_of_le_of_lt h (by decide +kernel)
    exact (Nat.log2_lt (by omega)).mpr this
theorem has_told_faults (T : Txt K mg) : Has P w K mg base CX0 4 ("told_faults", none) ["faults"] (spTFaults K) := by
  refine mk_has (d := d_told_faults) T 65 rfl rfl rfl sc_told_faults (fun _ _ _ _ _ _ us hl => match us, hl with | [_], _ => rfl) (fun vs H Q E h => h.1) (fun cdv A outer s H vs Q E hr h => ?_)
  refine ⟨_, PSs.nox (pss_cons (ps_set (i := 1) sc_told_faults.nd rfl (Or.inl rfl) (pe_lst pa_nil))
 (pss_cons (ps_for PassesOwn.never rfl (pi_list (pv 0)) (pg_tup rfl (pgs_cons (pg_name (i := 2) sc_told_faults.nd rfl (Or.inl rfl)) (pgs_cons (pg_name (i := 3) sc_told_faults.nd rfl (Or.inl rfl)) pgs_nil))) (pss_cons (ps_set (i := 4) sc_told_faults.nd rfl (Or.inl rfl) (pcall (has_text T) (hr.mono (by omega)) rfl (gl_text T) pass0 (pa_cons (pe_op o_cats (pe_op o_cats (pe_op o_cats pe_str (pe_callTy c_str (by rfl) (fr_str T) (by decide +kernel) (pa_cons (pv 2) pa_nil))) pe_str) (pv 3)) pa_nil)))
 (pss_one (ps_expr (pe_bm PySem.F.plainAttrs_list PySem.F.slot_list_append PySem.F.type_list_append mt_append (pv 1) (pa_cons (pcall (has_record T) (hr.mono (by omega)) rfl (gl_record T) pass0 (pa_cons (pe_lst (pa_cons (pe_tup (pa_cons pe_str (pa_cons (pcall (has_text T) (hr.mono (by omega)) rfl (gl_text T) pass0 (pa_cons pe_str pa_nil)) pa_nil))) (pa_cons (pe_tup (pa_cons pe_str (pa_cons (pv 4) pa_nil))) pa_nil))) pa_nil)) pa_nil))))))
 (pss_cons (ps_set (i := 5) sc_told_faults.nd rfl (Or.inl rfl) (pe_lst (pa_cons (pe_tup (pa_cons pe_str (pa_cons (pcall (has_text T) (hr.mono (by omega)) rfl (gl_text T) pass0 (pa_cons pe_str pa_nil)) pa_nil))) (pa_cons (pe_tup (pa_cons pe_str (pa_cons (pcall (has_text T) (hr.mono (by omega)) rfl (gl_text T) pass0 (pa_cons pe_str pa_nil)) pa_nil))) pa_nil))))
 (pss_one (ps_ret (pcall (has_record T) (hr.mono (by omega)) rfl (gl_record T) pass0 (pa_cons (pe_op op_cat (pv 5) (pe_lst (pa_cons (pe_tup (pa_cons pe_str (pa_cons (pcall (has_listed T) (hr.mono (by omega)) rfl (gl_listed T) pass0 (pa_cons (pv 1) pa_nil)) pa_nil))) pa_nil))) pa_nil))))))), ?_⟩
  obtain ⟨_, G, fl, fs, es, rfl, gs, h1, h2, h3, h4, h5, kk⟩ := h
  have : Cur G H := ⟨gs⟩
  have hfl := h2.length
  rw [g_errs] at kk
  walk_at "w"
  refine u_lst (Nat.zero_le _) fun q G1 H1 s1 _ _ hq mq => ?_
  walk_at "w"
  refine u_iL (s1.s.seq (SqL.of (s1.g _ _ h1))) ?_
  refine u_for (walk_list (xs := fs)) (fun i σ H' => ∃ (G' : Hp) (vs : List V) (v2 v3 v4 : Option V), σ = [some (.ref fl), some (.ref q), v2, v3, v4, none] ∧ Stp [] G H G' H' ∧ Mu G' H' q (.lst vs) ∧ VAs K G' vs ((es.take i).map fun e => Rust.given (errorP "SyntaxError" (lErr e))) ∧ vs.length = i) ?_ (fun i σ H' _ ⟨G', _, _, _, _, _, st, _⟩ => SqL.of (st.s _ _ (st.g _ _ h1))) ?_ ?_
  · exact ⟨G1, [], none, none, none, rfl, s1, mq, .nil, rfl⟩
  · rintro i v σ H2 H2' hi ⟨G2, vs, v2, v3, v4, rfl, s2, mq2, hvs, hvl⟩ ⟨rfl, hv⟩
    have : Cur G2 H2' := ⟨s2.s⟩
    have : Dn G G2 := ⟨s2.g⟩
    obtain ⟨e, he, t, rfl, ht⟩ := pr_getL h2 hv
    have hm := List.mem_of_getElem? he
    have hok := h3 e hm
    have hn := h5 e hm
    have hsz := lineZ_size (n := e.1) hok
    have z1 : (Str.ofString "line ").length ≤ 10 := by decide +kernel
    have z2 : (Str.ofString ": ").length ≤ 10 := by decide +kernel
    have z3 : (Str.ofString (toString (e.1 : Int))).length ≤ e.1 + 1 := num_size e.1
    have z4 : e.2.length ≤ 100 := okm_le hok
    have la : ∀ a b : Str, (a ++ b).length = a.length + b.length := size_app
    walk_at "w"
    refine u_gt (onT ht) rfl ?_
    walk_at "w"
    refine ⟨(e.1 : Nat), rfl, log2_le (by omega), ?_⟩
    walk_at "w"
    refine u_catS (lst_le (by omega)) ?_
    walk_at "w"
    refine u_catS (by rw [la]; exact lst_le (by omega)) ?_
    walk_at "w"
    refine u_catS (by rw [la, la]; exact lst_le (by omega)) ?_
    walk_at "w"
    refine u_text (z := lineZ e.1 e.2) (u := uo (lErr e)) (by omega) (by rw [lineZ_un hok]; exact (octs_un (lineE_lt hok)).symm) fun v3 G3 H3 s3 _ _ hv3 => ?_
    walk_at "w"
    have s23 := s3
    refine u_bmL (s23.mu mq2 List.not_mem_nil).h ?_
    walk_at "w"
    refine u_text (u := uo (units "SyntaxError")) (by decide +kernel) (by decide +kernel) fun v4 G4 H4 s4 _ _ hv4 => ?_
    walk_at "w"
    refine u_tup (by show 2 ≤ sizeLine; decide) fun t5 G5 H5 s5 _ _ ht5 => ?_
    walk_at "w"
    refine u_tup (by show 2 ≤ sizeLine; decide) fun t6 G6 H6 s6 _ _ ht6 => ?_
    walk_at "w"
    refine u_lstK (by show 2 ≤ sizeLine; decide) fun q7 G7 H7 s7 _ _ hq7 => ?_
    walk_at "w"
    have g57 : Same G5 G7 := s6.g.trans s7.g
    have prs := PRs.app (pr1 (SqT.of (g57 _ _ ht5)) (show strV "name" = octs (uo (units "name")) by decide +kernel) (VA.mono (s5.g.trans g57) _ _ hv4)) (pr1 (SqT.of (s7.g _ _ ht6)) (show strV "message" = octs (uo (units "message")) by decide +kernel) (VA.mono ((s4.g.trans s5.g).trans g57) _ _ hv3))
    refine u_record (SqL.of (on (H := H7) hq7)) (by show 2 ≤ 1000; omega) prs (lens4 (us := [uo (units "name"), uo (units "message")]) rfl (by decide +kernel)) fun vh Gh Hh sh _ _ hvh => ?_
    walk_at "w"
    have s2h := (((s3.trans s4).trans s5).trans s6).trans (s7.trans sh)
    refine u_app (s2h.mu mq2 List.not_mem_nil) (by rw [hvl]; exact lst_le (by omega)) fun Gi Hi si _ _ mqi => ?_
    walk_at "w"
    refine ⟨Gi, vs ++ [vh], _, _, _, rfl, ((s2.trans s2h).nil.trans si).drop hq, mqi, ?_, by rw [List.length_append, hvl]; rfl⟩
    rw [map_snoc he]
    refine VAs.app (VAs.mono (s2h.g.trans si.g) _ _ hvs) (.cons ?_ .nil)
    rw [g_err]
    exact VA.mono si.g _ _ hvh
  rintro σ H2 ⟨G2, vs, v2, v3, v4, rfl, s2, mq2, hvs, hvl⟩
  have : Cur G2 H2 := ⟨s2.s⟩
  rw [hfl, List.take_length] at hvs
  walk_at "w"
  refine u_text (u := uo (units "AggregateError")) (by decide +kernel) (by decide +kernel) fun v3 G3 H3 s3 _ _ hv3 => ?_
  walk_at "w"
  refine u_tup (by show 2 ≤ sizeLine; decide) fun t4 G4 H4 s4 _ _ ht4 => ?_
  walk_at "w"
  refine u_text (u := uo (units "invalid page")) (by decide +kernel) (by decide +kernel) fun v5 G5 H5 s5 _ _ hv5 => ?_
  walk_at "w"
  refine u_tup (by show 2 ≤ sizeLine; decide) fun t6 G6 H6 s6 _ _ ht6 => ?_
  walk_at "w"
  refine u_lstK (by show 2 ≤ sizeLine; decide) fun q7 G7 H7 s7 _ _ hq7 => ?_
  walk_at "w"
  have s27 := ((s3.trans s4).trans s5).trans (s6.trans s7)
  refine u_listed (s27.mu mq2 List.not_mem_nil).sqL (by omega) (VAs.mono s27.g _ _ hvs) fun v8 G8 H8 s8 _ _ hv8 => ?_
  walk_at "w"
  refine u_tup (by show 2 ≤ sizeLine; decide) fun t9 G9 H9 s9 _ _ ht9 => ?_
  walk_at "w"
  refine u_lstK (by show 1 ≤ sizeLine; decide) fun qa Ga Ha sa _ _ hqa => ?_
  walk_at "w"
  refine u_cat (sa.s _ _ (sa.g _ _ (s9.g _ _ (s8.g _ _ hq7)))) (on (H := Ha) hqa) (by show 2 + 1 ≤ sizeLine; decide) fun qb Gb Hb sb _ _ hqb => ?_
  walk_at "w"
  have g7b : Same G7 Gb := (s8.g.trans s9.g).trans (sa.g.trans sb.g)
  have g9b : Same G9 Gb := sa.g.trans sb.g
  have g4b : Same G4 Gb := (s5.g.trans s6.g).trans (s7.g.trans g7b)
  have g6b : Same G6 Gb := s7.g.trans g7b
  have prs := PRs.app (pr1 (SqT.of (g4b _ _ ht4)) (show strV "name" = octs (uo (units "name")) by decide +kernel) (VA.mono (s4.g.trans g4b) _ _ hv3)) (PRs.app (pr1 (SqT.of (g6b _ _ ht6)) (show strV "message" = octs (uo (units "message")) by decide +kernel) (VA.mono (s6.g.trans g6b) _ _ hv5)) (pr1 (SqT.of (g9b _ _ ht9)) (show strV "errors" = octs (uo (units "errors")) by decide +kernel) (VA.mono (s9.g.trans g9b) _ _ hv8)))
  refine u_record (SqL.of (on (H := Hb) hqb)) (by show 3 ≤ 1000; omega) prs (lens4 (us := [uo (units "name"), uo (units "message"), uo (units "errors")]) rfl (by decide +kernel)) fun v9 Gc Hc sc _ _ hv9 => ?_
  rw [List.map_map] at kk
  exact (kk v9).go (s2.trans (s27.trans (((s8.trans s9).trans (sa.trans sb)).trans sc))) hv9
end
end Ck
namespace Ck
open PySem PySem.Spec PyProof.Rows L2
open He (ga ma fAd)
open R7253f.Spec (Units units itemNames indexIn)
/-! ### refusals -/
def rfF (o : Nat) (m : Str) (f : Addr) : List (Str × V) := [("further", .ref f), ("message", .str m), ("order", .int (o : Nat))]
theorem exc_heap3 {H : Hp} {a d : Addr} {o1 o2 o3 o4 o5 o6 : HO} (ha : H a = none) (hne : d ≠ a) : upd (del (upd (upd (upd (upd (upd H a o1) d o2) a o3) d o4) d o5) a) d o6 = upd H d o6 := by
  funext b
  by_cases e : b = d
  · subst e; rw [upd_same, upd_same]
  · rw [upd_ne e, upd_ne e]
    by_cases e2 : b = a
    · subst e2; rw [del_same, ha]
    · rw [del_ne e2, upd_ne e, upd_ne e, upd_ne e2, upd_ne e, upd_ne e2]
/-- the wish about a refusal -/
def RfE (K : PySem.W.Frag) (G H : Hp) (o : Nat) (m : Str) (E : XK) : Prop := ∀ d f, Nxt [] G H fun G' H' => G' d = some (.xd (rfF o m f)) → SqT K G' f [] → E (.ref (ga K "Refused")) (some d) H'
section
variable (K : PySem.W.Frag)
def spXR : Sp := fun vs H Q _ => vs.length = 4 ∧ ∃ (a : Addr) (o : Nat) (m : Str) (f : Addr), vs = [.ref a, .int (o : Nat), .str m, .ref f] ∧ H a = some (exo a (ga K "Refused") none) ∧ ∀ dx, H dx = none → dx ≠ a →
  Q .non (upd (upd (upd (upd H dx (exd dx [("order", .int (o : Nat))])) a (exo a (ga K "Refused") (some dx))) dx (exd dx [("message", .str m), ("order", .int (o : Nat))])) dx (exd dx (rfF o m f)))
def spRf (o : Nat) : Sp := fun vs H Q E => vs.length = 2 ∧ ∃ (G : Hp) (b : Bool) (m : Str), vs = [.bl b, .str m] ∧ Same G H ∧ (b = false → Q .non H) ∧ (b = true → RfE K G H o m E)
end
section
variable {K : PySem.W.Frag} {G H G' H' : Hp} {Q : VK} {E : XK} {o : Nat} {m : Str}
theorem u_rf [q : Cur G H] {b : Bool} (ht : b = false → Q .non H) (hf : b = true → RfE K G H o m E) : spRf K o [.bl b, .str m] H Q E := ⟨rfl, G, b, m, rfl, q.s, ht, hf⟩
theorem RfE.step (h : RfE K G H o m E) (st : Stp [] G H G' H') : RfE K G' H' o m E := fun d f G2 H2 s2 _ _ h1 h2 => (h d f).go (st.trans s2) h1 h2
end
end Ck
namespace Ck
open PySem PySem.Spec PyProof.Rows L2
open He (ga ma fAd)
section
variable {P : Program} {w : World} {K : PySem.W.Frag} {mg : Str → Option Value} {base : Heap}
theorem has_Refused_init (T : Txt K mg) : Has P w K mg base CX0 1 ("Refused", some "__init__") ["self", "order", "message", "further"] (spXR K) := by
  refine mk_has (d := d_Refused_init) T 57 rfl rfl rfl sc_Refused_init (fun _ _ _ _ _ _ us hl => match us, hl with | [_, _, _, _], _ => rfl) (fun vs H Q E h => h.1) (fun cdv A outer s H vs Q E hr h => ?_)
  refine ⟨_, PSs.nox (pss_cons (ps_ost (pv 0) (pv 1) rfl)
 (pss_cons (ps_ost (pv 0) (pv 2) rfl)
 (pss_one (ps_ost (pv 0) (pv 3) rfl)))), ?_⟩
  obtain ⟨_, a, o, m, f, rfl, ha, k⟩ := h
  walk_at "w"
  refine ⟨a, _, rfl, (ex_Refused T).1, na_Refused_order T, .inl ⟨ha, fun dx hn hne => ?_⟩⟩
  walk_at "w"
  refine ⟨a, _, rfl, (ex_Refused T).1, na_Refused_message T, .inr ⟨dx, _, upd_same, by rw [upd_ne hne]; exact upd_same, by show 1 ≤ 900; decide, ?_⟩⟩
  walk_at "w"
  refine ⟨a, _, rfl, (ex_Refused T).1, na_Refused_further T, .inr ⟨dx, _, by rw [upd_ne (Ne.symm hne)]; exact upd_same, upd_same, by show 2 ≤ 900; decide, ?_⟩⟩
  exact k dx hn hne
theorem has_wrong_kind (T : Txt K mg) : Has P w K mg base (XC P w) 3 ("wrong_kind", none) ["wrong", "message"] (spRf K 1) := by
  refine mk_has (d := d_wrong_kind) T 58 rfl rfl rfl sc_wrong_kind (fun _ _ _ _ _ _ us hl => match us, hl with | [_, _], _ => rfl) (fun vs H Q E h => h.1) (fun cdv A outer s H vs Q E hr h => ?_)
  refine ⟨_, (pss_one (ps_if (pt_val (pv 0)) (pss_one (L2N.ps_raise rfl (L2N.takes_of rfl rfl rfl rfl) (pxmk (ex_Refused T).1 (ex_Refused T).2.2.1 (ex_Refused T).2.2.2.1 (has_Refused_init T) (hr.mono (by omega)) pass0 rfl (gl_Refused T) (pa_cons pe_int (pa_cons (pv 1) (pa_cons (pe_tup pa_nil) pa_nil)))))) pss_nil)), ?_⟩
  obtain ⟨_, G, b, m, rfl, gs, ht, hf⟩ := h
  have : Cur G H := ⟨gs⟩
  walk_at "w"
  cases b
  · refine iteF ?_
    walk_at "w"
    exact ht rfl
  · refine iteT ?_
    walk_at "w"
    refine u_tup (Nat.zero_le _) fun f G1 H1 s1 _ _ hf1 => ?_
    walk_at "w"
    refine ⟨by show 3 ≤ 1000; decide, fun a ha => ⟨rfl, a, 1, m, f, rfl, upd_same, fun dx hn hne => ⟨rfl, dx, rfF 1 m f, ?_, upd_same, ?_, ?_⟩⟩⟩
    · rw [upd_ne (Ne.symm hne), upd_ne (Ne.symm hne)]; exact upd_same
    · rw [upd_ne hne] at hn; exact hn
    · have hdx : H1 dx = none := by rw [upd_ne hne] at hn; exact hn
      rw [exc_heap3 ha hne]
      have s2 : Stp [] G1 H1 (upd G1 dx (.xd (rfF 1 m f))) (upd H1 dx (.xd (rfF 1 m f))) := Stp.lay s1.s hdx
      exact (hf rfl dx f).go (s1.trans s2) upd_same (SqT.of (s2.g _ _ hf1))
theorem has_out_of_range (T : Txt K mg) : Has P w K mg base (XC P w) 3 ("out_of_range", none) ["wrong", "message"] (spRf K 2) := by
  refine mk_has (d := d_out_of_range) T 59 rfl rfl rfl sc_out_of_range (fun _ _ _ _ _ _ us hl => match us, hl with | [_, _], _ => rfl) (fun vs H Q E h => h.1) (fun cdv A outer s H vs Q E hr h => ?_)
  refine ⟨_, (pss_one (ps_if (pt_val (pv 0)) (pss_one (L2N.ps_raise rfl (L2N.takes_of rfl rfl rfl rfl) (pxmk (ex_Refused T).1 (ex_Refused T).2.2.1 (ex_Refused T).2.2.2.1 (has_Refused_init T) (hr.mono (by omega)) pass0 rfl (gl_Refused T) (pa_cons pe_int (pa_cons (pv 1) (pa_cons (pe_tup pa_nil) pa_nil)))))) pss_nil)), ?_⟩
  obtain ⟨_, G, b, m, rfl, gs, ht, hf⟩ := h
  have : Cur G H := ⟨gs⟩
  walk_at "w"
  cases b
  · refine iteF ?_
    walk_at "w"
    exact ht rfl
  · refine iteT ?_
    walk_at "w"
    refine u_tup (Nat.zero_le _) fun f G1 H1 s1 _ _ hf1 => ?_
    walk_at "w"
    refine ⟨by show 3 ≤ 1000; decide, fun a ha => ⟨rfl, a, 2, m, f, rfl, upd_same, fun dx hn hne => ⟨rfl, dx, rfF 2 m f, ?_, upd_same, ?_, ?_⟩⟩⟩
    · rw [upd_ne (Ne.symm hne), upd_ne (Ne.symm hne)]; exact upd_same
    · rw [upd_ne hne] at hn; exact hn
    · have hdx : H1 dx = none := by rw [upd_ne hne] at hn; exact hn
      rw [exc_heap3 ha hne]
      have s2 : Stp [] G1 H1 (upd G1 dx (.xd (rfF 2 m f))) (upd H1 dx (.xd (rfF 2 m f))) := Stp.lay s1.s hdx
      exact (hf rfl dx f).go (s1.trans s2) upd_same (SqT.of (s2.g _ _ hf1))
end
end Ck
namespace Ck
open PySem PySem.Spec PyProof.Rows L2
open He (ga ma fAd)
open R7253f.Spec (Units units itemNames indexIn readIn Goal readGoal goalWords goalAt firstFn simulateFn firstClicks play start userClick behindP namesP nameP orNull printText itemsP toAns Result)
/-! ### what is asked by values -/
def namedI (p : SPage) (x : RWire.Value) : Option Nat := readIn (itemNames p) (Rust.taken x)
theorem named_text (p : SPage) (u : List UInt8) : namedI p (.text u) = indexIn (itemNames p) (u.map Rust.unitOf) := rfl
/-- how a call ends, to be shown by what it returns or raises -/
def ResK (K : PySem.W.Frag) (G H : Hp) (r : Result PlainV) (Q : VK) (E : XK) : Prop :=
  (∀ x, r = .ok x → ∀ v, Nxt [] G H fun G' H' => VA K G' v (Rust.given x) → Q v H') ∧ (∀ e o m, r = .error e → Rust.classOf e.cls = o → uz m = e.msg → okm m = true → RfE K G H o m E)
section
variable (K : PySem.W.Frag)
def spNamed : Sp := fun vs H Q _ => vs.length = 2 ∧ ∃ (G : Hp) (pa : Addr) (p : SPage) (v : V) (x : RWire.Value), vs = [.ref pa, v] ∧ Same G H ∧ PgH K G pa p ∧ PgW p ∧ VA K G v x ∧ Q (.int (idxI (namedI p x))) H
def spItemOf : Sp := fun vs H Q E => vs.length = 2 ∧ ∃ (G : Hp) (pa : Addr) (p : SPage) (v : V) (x : RWire.Value), vs = [.ref pa, v] ∧ Same G H ∧ PgH K G pa p ∧ PgW p ∧ VA K G v x ∧ (∀ i, namedI p x = some i → Q (.int (i : Nat)) H) ∧ (namedI p x = none → RfE K G H 2 "no such item" E)
def spTFirst : Sp := fun vs H Q E => vs.length = 2 ∧ ∃ (G : Hp) (pa gl : Addr) (p : SPage) (gv : List V) (v1 v2 : V) (x1 x2 : RWire.Value), vs = [.ref pa, .ref gl] ∧ Same G H ∧ PgH K G pa p ∧ PgW p ∧ G gl = some (.lst gv) ∧ gv[1]? = some v1 ∧ gv[2]? = some v2 ∧ VA K G v1 x1 ∧ VA K G v2 x2 ∧
  ResK K G H (firstFn p (Rust.taken x1) (Rust.taken x2)) Q E
def spTSim : Sp := fun vs H Q E => vs.length = 2 ∧ ∃ (G : Hp) (pa : Addr) (p : SPage) (v : V) (x : RWire.Value), vs = [.ref pa, v] ∧ Same G H ∧ PgH K G pa p ∧ PgW p ∧ VA K G v x ∧
  (∀ y, simulateFn p (Rust.taken x) = .ok y → (RWire.write (Rust.given y)).length ≤ 65536) ∧ ResK K G H (simulateFn p (Rust.taken x)) Q E
end
section
variable {K : PySem.W.Frag} {G H : Hp} {Q : VK} {E : XK} {pa : Addr} {p : SPage} {v : V} {x : RWire.Value}
theorem u_named [q : Cur G H] (h : PgH K G pa p) (w : PgW p) (hv : VA K G v x) (k : Q (.int (idxI (namedI p x))) H) : spNamed K [.ref pa, v] H Q E := ⟨rfl, G, pa, p, v, x, rfl, q.s, h, w, hv, k⟩
theorem u_itemOf [q : Cur G H] (h : PgH K G pa p) (w : PgW p) (hv : VA K G v x) (k : ∀ i, namedI p x = some i → Q (.int (i : Nat)) H) (e : namedI p x = none → RfE K G H 2 "no such item" E) : spItemOf K [.ref pa, v] H Q E := ⟨rfl, G, pa, p, v, x, rfl, q.s, h, w, hv, k, e⟩
end
end Ck
namespace Ck
open PySem PySem.Spec PyProof.Rows L2
open He (ga ma fAd)
section
variable {P : Program} {w : World} {K : PySem.W.Frag} {mg : Str → Option Value} {base : Heap}
open R7253f.Spec (Units units itemNames indexIn readIn Goal readGoal goalWords goalAt firstFn simulateFn firstClicks play start userClick behindP namesP nameP orNull)
theorem has_named_item (T : Txt K mg) : Has P w K mg base CX0 2 ("named_item", none) ["page", "value"] (spNamed K) := by
  refine mk_has (d := d_named_item) T 60 rfl rfl rfl sc_named_item (fun _ _ _ _ _ _ us hl => match us, hl with | [_, _], _ => rfl) (fun vs H Q E h => h.1) (fun cdv A outer s H vs Q E hr h => ?_)
  refine ⟨_, PSs.nox (pss_one (ps_ret (pe_ifExp (pt_cmpR op_eq (pe_ix ix_tup (pv 1) pe_int (fun _ _ => rfl)) (pgi (gi_TEXT T) rfl) (nomark _)) (pmeth (pv 0) (cl_Page T) (me_Page_number T) (has_Page_number T) (hr.mono (by omega)) pass0 (pa_cons (pe_callTy c_tuple (by rfl) (fr_tuple T) (by decide +kernel) (pa_cons (pe_ix ix_tup (pv 1) pe_int (fun _ _ => rfl)) pa_nil)) pa_nil)) (pe_un un_neg pe_int)))), ?_⟩
  obtain ⟨_, G, pa, p, v, x, rfl, gs, pg, wf, hv, kk⟩ := h
  have : Cur G H := ⟨gs⟩
  have hp8 := wf.len
  have ⟨dx, tl, ol, dl, ll, ts, ls, ins, hp⟩ := pg
  walk_at "w"
  cases hv with
  | nothing ht =>
    refine w_ixT (onT ht) rfl ?_
    walk_at "w"
    refine iteF ?_
    walk_at "w"
    exact w_u kk
  | null ht =>
    refine w_ixT (onT ht) rfl ?_
    walk_at "w"
    refine iteF ?_
    walk_at "w"
    exact w_u kk
  | fls ht =>
    refine w_ixT (onT ht) rfl ?_
    walk_at "w"
    refine iteF ?_
    walk_at "w"
    exact w_u kk
  | tru ht =>
    refine w_ixT (onT ht) rfl ?_
    walk_at "w"
    refine iteF ?_
    walk_at "w"
    exact w_u kk
  | int ht =>
    refine w_ixT (onT ht) rfl ?_
    walk_at "w"
    refine iteF ?_
    walk_at "w"
    exact w_u kk
  | list ht h2 h3 =>
    refine w_ixT (onT ht) rfl ?_
    walk_at "w"
    refine iteF ?_
    walk_at "w"
    exact w_u kk
  | record ht h2 h3 =>
    refine w_ixT (onT ht) rfl ?_
    walk_at "w"
    refine iteF ?_
    walk_at "w"
    exact w_u kk
  | @text t q u ht hq =>
    rw [named_text] at kk
    refine w_ixT (onT ht) rfl ?_
    walk_at "w"
    refine iteT ?_
    walk_at "w"
    refine u_mth (on ins) fm_Page_number ?_
    walk_at "w"
    refine w_ixT (onT ht) rfl ?_
    walk_at "w"
    refine u_tupT (onT hq) ?_
    walk_at "w"
    refine u_numb (pg.mono gs) (w := u.map Rust.unitOf) ?_ (by omega) kk
    rw [un_octs]; exact onT hq
theorem has_item_of (T : Txt K mg) : Has P w K mg base (XC P w) 4 ("item_of", none) ["page", "value"] (spItemOf K) := by
  refine mk_has (d := d_item_of) T 61 rfl rfl rfl sc_item_of (fun _ _ _ _ _ _ us hl => match us, hl with | [_, _], _ => rfl) (fun vs H Q E h => h.1) (fun cdv A outer s H vs Q E hr h => ?_)
  refine ⟨_, (pss_cons (ps_set (i := 2) sc_item_of.nd rfl (Or.inl rfl) (pcall (has_named_item T) (hr.mono (by omega)) rfl (gl_named_item T) pass0 (pa_cons (pv 0) (pa_cons (pv 1) pa_nil))))
 (pss_cons (ps_expr (pcall (has_out_of_range T) (hr.mono (by omega)) rfl (gl_out_of_range T) (L2N.passes_call (L2N.takes_of rfl rfl rfl rfl) (fun _ _ _ _ h => h)) (pa_cons (pe_cmpR op_lt (pv 2) pe_int (nomark _)) (pa_cons pe_str pa_nil))))
 (pss_one (ps_ret (pv 2))))), ?_⟩
  obtain ⟨_, G, pa, p, v, x, rfl, gs, pg, wf, hv, k, e⟩ := h
  have : Cur G H := ⟨gs⟩
  walk_at "w"
  refine u_named pg wf hv ?_
  walk_at "w"
  rw [idx_neg]
  cases hn : namedI p x with
  | none => exact u_rf (fun h => by cases h) (fun _ => e hn)
  | some i =>
    refine u_rf (fun _ => ?_) (fun h => by cases h)
    walk_at "w"
    exact k i hn
end
end Ck
namespace Ck
open PySem PySem.Spec PyProof.Rows L2
open He (ga ma fAd)
section
variable {P : Program} {w : World} {K : PySem.W.Frag} {mg : Str → Option Value} {base : Heap}
open R7253f.Spec (Units units itemNames indexIn readIn Goal readGoal goalWords goalAt firstFn simulateFn firstClicks play start userClick behindP namesP nameP orNull goalArg itemArg bindResult)

def GL : List Str := ["ticked", "unticked", "disabled", "enabled", "followed", "submitted", "changed", "cancelled"]
def hitG (x : RWire.Value) (z : Str) : Bool := match x with | .text u => decide (u.map Rust.unitOf = uz z) | _ => false
theorem filt_gen {α : Type} (f : α → Bool) (d : α) : ∀ L : List α, ((List.range L.length).filter fun k => ((L[k]?).map f).getD false).map (fun k => L.getD k d) = L.filter f
  | [] => rfl
  | x :: l => by
    have ih := filt_gen f d l
    rw [List.length_cons, List.range_succ_eq_map, List.filter_cons, List.filter_map, List.filter_cons]
    have e : ((fun j => (((x :: l)[j]?).map f).getD false) ∘ Nat.succ) = fun j => ((l[j]?).map f).getD false := by
      funext j; rfl
    rw [e]
    have e2 : (List.map (fun k => (x :: l).getD k d) (List.map Nat.succ (List.filter (fun j => ((l[j]?).map f).getD false) (List.range l.length)))) = l.filter f := by
      rw [← ih, List.map_map]; rfl
    cases h : f x with
    | true => simp [h] at e2 ⊢; exact e2
    | false => simp [h] at e2 ⊢; exact e2
theorem pr_strs : ∀ {ks : List Nat} {ys : List V}, Paired (fun k y => ∃ z, GL[k]? = some z ∧ y = V.str z) ks ys → ys = (ks.map fun k => GL.getD k "").map V.str
  | _, _, .nil => rfl
  | _, _, .cons h t => by
    obtain ⟨j, hj, rfl⟩ := h
    rw [pr_strs t, List.map_cons, List.map_cons, List.getD_eq_getElem?_getD, hj]; rfl
theorem goal_w (w : Units) : (∃ g, (indexIn goalWords w).map goalAt = some g ∧ (GL.filter fun z => decide (w = uz z)) = [gS g]) ∨ ((indexIn goalWords w).map goalAt = none ∧ (GL.filter fun z => decide (w = uz z)) = []) := by
  by_cases h1 : w = units "ticked"
  · subst h1; exact .inl ⟨.ticked, rfl, by decide +kernel⟩
  by_cases h2 : w = units "unticked"
  · subst h2; exact .inl ⟨.unticked, rfl, by decide +kernel⟩
  by_cases h3 : w = units "disabled"
  · subst h3; exact .inl ⟨.disabled, rfl, by decide +kernel⟩
  by_cases h4 : w = units "enabled"
  · subst h4; exact .inl ⟨.enabled, rfl, by decide +kernel⟩
  by_cases h5 : w = units "followed"
  · subst h5; exact .inl ⟨.followed, rfl, by decide +kernel⟩
  by_cases h6 : w = units "submitted"
  · subst h6; exact .inl ⟨.submitted, rfl, by decide +kernel⟩
  by_cases h7 : w = units "changed"
  · subst h7; exact .inl ⟨.changed, rfl, by decide +kernel⟩
  by_cases h8 : w = units "cancelled"
  · subst h8; exact .inl ⟨.cancelled, rfl, by decide +kernel⟩
  refine .inr ⟨?_, ?_⟩
  · rw [idx_miss]
    · rfl
    · intro x hx
      unfold goalWords at hx
      simp only [List.mem_cons, List.not_mem_nil, or_false] at hx
      rintro rfl
      rcases hx with h | h | h | h | h | h | h | h
      · exact h1 h
      · exact h2 h
      · exact h3 h
      · exact h4 h
      · exact h5 h
      · exact h6 h
      · exact h7 h
      · exact h8 h
  · rw [List.filter_eq_nil_iff]
    intro z hz
    unfold GL at hz
    simp only [List.mem_cons, List.not_mem_nil, or_false] at hz
    rcases hz with rfl | rfl | rfl | rfl | rfl | rfl | rfl | rfl <;> rw [lit_uz] <;> simpa
theorem goal_x {K : PySem.W.Frag} {G : Hp} {v : V} {x : RWire.Value} (h : VA K G v x) : (∃ g, readGoal (Rust.taken x) = some g ∧ GL.filter (hitG x) = [gS g]) ∨ (readGoal (Rust.taken x) = none ∧ GL.filter (hitG x) = []) := by
  have nil : ∀ x : RWire.Value, (∀ z, hitG x z = false) → GL.filter (hitG x) = [] := fun x h => by
    rw [List.filter_eq_nil_iff]
    intro z _
    rw [h z]; decide
  cases h with
  | text _ _ => exact goal_w _
  | nothing _ => exact .inr ⟨rfl, nil _ fun _ => rfl⟩
  | null _ => exact .inr ⟨rfl, nil _ fun _ => rfl⟩
  | fls _ => exact .inr ⟨rfl, nil _ fun _ => rfl⟩
  | tru _ => exact .inr ⟨rfl, nil _ fun _ => rfl⟩
  | int _ => exact .inr ⟨rfl, nil _ fun _ => rfl⟩
  | list _ _ _ => exact .inr ⟨rfl, nil _ fun _ => rfl⟩
  | record _ _ _ => exact .inr ⟨rfl, nil _ fun _ => rfl⟩
end
end Ck
namespace Ck
open PySem PySem.Spec PyProof.Rows L2
open He (ga ma fAd)
section
variable {P : Program} {w : World} {K : PySem.W.Frag} {mg : Str → Option Value} {base : Heap}
open R7253f.Spec (Units units itemNames indexIn readIn Goal readGoal goalWords goalAt firstFn simulateFn firstClicks play start userClick behindP namesP nameP orNull goalArg itemArg bindResult)

theorem g_names (p : SPage) (u : List Nat) : Rust.given (namesP p u) = .list (u.map fun i => tnV p (some i)) := by
  unfold namesP
  rw [g_arr, List.map_map]; rfl
theorem read_lt {p : SPage} {y : PlainV} {i : Nat} (h : readIn (itemNames p) y = some i) : i < p.items.length := by
  cases y with
  | str u => exact idx_lt h
  | _ => cases h
theorem first_bad {p : SPage} {a b : PlainV} (h : readGoal a = none) : firstFn p a b = .error (R7253f.Spec.typeErr "unknown goal") := by
  unfold firstFn goalArg
  rw [h]; rfl
theorem first_item {p : SPage} {a b : PlainV} {g : Goal} (h : readGoal a = some g) (h2 : readIn (itemNames p) b = none) : firstFn p a b = .error (R7253f.Spec.rangeErr "no such item") := by
  unfold firstFn goalArg itemArg
  rw [h, h2]; rfl
theorem first_ok {p : SPage} {a b : PlainV} {g : Goal} {i : Nat} (h : readGoal a = some g) (h2 : readIn (itemNames p) b = some i) : firstFn p a b = .ok (orNull ((firstClicks p g i).map (namesP p))) := by
  unfold firstFn goalArg itemArg
  rw [h, h2]; rfl
theorem has_told_first (T : Txt K mg) : Has P w K mg base (XC P w) 57 ("told_first", none) ["page", "given"] (spTFirst K) := by
  refine mk_has (d := d_told_first) T 67 rfl rfl rfl sc_told_first (fun _ _ _ _ _ _ us hl => match us, hl with | [_, _], _ => rfl) (fun vs H Q E h => h.1) (fun cdv A outer s H vs Q E hr h => ?_)
  refine ⟨_, (pss_cons (ps_setLc (i := 2) (own := [("goal", 4)]) (g := gName 4)  rfl sc_told_first.nd rfl rfl (sw_true rfl rfl rfl (by decide +kernel)) (pi_tup (pgr (tg_GOALS T) rfl)) (blkOk_by (N := N_told_first) (sc := defScope s_told_first) (by decide +kernel)) (fun _ _ _ _ _ => (pg_name (i := 4) sc_told_first.nd rfl (Or.inl rfl))) (fun _ _ _ _ _ => (re_t (pts_one (PW.pt (pw_and (pt_cmpR op_eq (pe_ix ix_tup (pe_ix ix_list (pv 1) pe_int (fun _ _ => rfl)) pe_int (fun _ _ => rfl)) (pgi (gi_TEXT T) rfl) (nomark _)) (pw_and1 (pt_cmpR (op_eqD hr.units) (pe_callTy c_tuple (by rfl) (fr_tuple T) (by decide +kernel) (pa_cons (pe_ix ix_tup (pe_ix ix_list (pv 1) pe_int (fun _ _ => rfl)) pe_int (fun _ _ => rfl)) pa_nil)) (pcall (has_codes_of T) (hr.mono (by omega)) rfl (gl_codes_of T) pass0 (pa_cons (pv 4) pa_nil)) (nomark _)))))) (by walk_at "wk"))) (fun _ _ _ _ _ => (re_e (pv 4) (by walk_at "wk"))))
 (pss_cons (ps_expr (pcall (has_wrong_kind T) (hr.mono (by omega)) rfl (gl_wrong_kind T) (L2N.passes_call (L2N.takes_of rfl rfl rfl rfl) (fun _ _ _ _ h => h)) (pa_cons (pe_cmpR op_eq (pe_callB c_len (by rfl) (fr_len T) PySem.boot_len (pa_cons (pv 2) pa_nil)) pe_int (nomark _)) (pa_cons pe_str pa_nil))))
 (pss_cons (ps_set (i := 3) sc_told_first.nd rfl (Or.inl rfl) (pcall (has_first_clicks T) (hr.mono (by omega)) rfl (gl_first_clicks T) pass0 (pa_cons (pv 0) (pa_cons (pe_ix ix_list (pv 2) pe_int (fun _ _ => rfl)) (pa_cons (pcall (has_item_of T) (hr.mono (by omega)) rfl (gl_item_of T) (L2N.passes_call (L2N.takes_of rfl rfl rfl rfl) (fun _ _ _ _ h => h)) (pa_cons (pv 0) (pa_cons (pe_ix ix_list (pv 1) pe_int (fun _ _ => rfl)) pa_nil))) pa_nil)))))
 (pss_one (ps_ret (pe_ifExp (pt_cmpR o_isN (pv 3) pe_non (nomark _)) (pgr (tg_NULL T) rfl) (pcall (has_listed T) (hr.mono (by omega)) rfl (gl_listed T) pass0 (pa_cons (pe_lc (own := [("item", 5)]) (g := gName 5) (tt := tYes) rfl sc_told_first.nd (pi_tup (pv 3)) (blkOk_by (N := N_told_first) (sc := defScope s_told_first) (by decide +kernel)) (fun _ _ _ _ _ => (pg_name (i := 5) sc_told_first.nd rfl (Or.inl rfl))) (fun _ _ _ _ _ => pts_nil) (fun _ _ _ _ _ => (re_e (pcall (has_told_name T) (hr.mono (by omega)) rfl (gl_told_name T) pass0 (pa_cons (pv 0) (pa_cons (pv 5) pa_nil))) (by walk_at "wk")))) pa_nil)))))))), ?_⟩
  obtain ⟨_, G, pa, gl, p, gv, v1, v2, x1, x2, rfl, gs, pg, wf, hgl, h1, h2, hv1, hv2, hok, herr⟩ := h
  have : Cur G H := ⟨gs⟩
  have hp8 := wf.len
  walk_at "w"
  refine u_iT (tt_GOALS T _) ?_
  refine u_lc (walk_tup (xs := GL.map V.str)) (Yv := fun i v => (GL.map V.str)[i]? = some v) (fun i H x H' h => h) (fun H' _ => tt_GOALS T H') (by decide) (fun j => ((GL[j]?).map (hitG x1)).getD false) (fun j y _ => ∃ z, GL[j]? = some z ∧ y = V.str z) (fun _ _ _ _ _ h => h) ?_ ?_
  · rintro j y G1 H1 Qy Qn hj s1 _ _ hy ky kn
    have : Cur G1 H1 := ⟨s1.s⟩
    have : Dn G G1 := ⟨s1.g⟩
    rw [List.getElem?_map] at hy
    obtain ⟨z, hz, rfl⟩ : ∃ z, GL[j]? = some z ∧ y = .str z := by
      cases e : GL[j]? with
      | none => rw [e] at hy; cases hy
      | some z => rw [e] at hy; exact ⟨z, rfl, (Option.some.inj hy).symm⟩
    have ef : ((GL[j]?).map (hitG x1)).getD false = hitG x1 z := by rw [hz]; rfl
    have hzz : okz z = true := by
      have : GL.all okz = true := by decide +kernel
      exact List.all_eq_true.mp this z (List.mem_of_getElem? hz)
    have hgl1 : SqL K H1 gl gv := SqL.of (s1.s _ _ (s1.g _ _ hgl))
    walk_at "w"
    refine w_ixL hgl1 (atI_nat (j := 1) h1) ?_
    walk_at "w"
    cases hv1 with
    | text ht hq =>
      refine w_ixT (Same.sqT (s1.g.trans s1.s) ht) rfl ?_
      walk_at "w"
      refine iteT ?_
      walk_at "w"
      refine w_ixL hgl1 (atI_nat (j := 1) h1) ?_
      walk_at "w"
      refine w_ixT (Same.sqT (s1.g.trans s1.s) ht) rfl ?_
      walk_at "w"
      refine u_tupT (Same.sqT (s1.g.trans s1.s) hq) ?_
      walk_at "w"
      refine u_codesOf (by have := okz_le hzz; omega) fun pc G2 H2 s2 _ _ hpc => ?_
      walk_at "w"
      rw [okz_uz hzz] at hpc
      refine u_eqU (H := H2) (by rw [un_octs]; exact Same.sqT ((s1.g.trans s2.g).trans s2.s) hq) (SqT.of (on (H := H2) hpc)) ?_
      walk_at "w"
      refine w_ite (fun hb => ?_) (fun hb => ?_)
      · walk_at "w"
        exact ky _ _ _ s2 (ef.trans hb) ⟨z, hz, rfl⟩
      · walk_at "w"
        exact kn _ _ s2 (ef.trans hb)
    | nothing ht =>
      refine w_ixT (Same.sqT (s1.g.trans s1.s) ht) rfl ?_
      walk_at "w"
      refine iteF ?_
      walk_at "w"
      exact kn _ _ (Stp.refl s1.s) (ef.trans rfl)
    | null ht =>
      refine w_ixT (Same.sqT (s1.g.trans s1.s) ht) rfl ?_
      walk_at "w"
      refine iteF ?_
      walk_at "w"
      exact kn _ _ (Stp.refl s1.s) (ef.trans rfl)
    | fls ht =>
      refine w_ixT (Same.sqT (s1.g.trans s1.s) ht) rfl ?_
      walk_at "w"
      refine iteF ?_
      walk_at "w"
      exact kn _ _ (Stp.refl s1.s) (ef.trans rfl)
    | tru ht =>
      refine w_ixT (Same.sqT (s1.g.trans s1.s) ht) rfl ?_
      walk_at "w"
      refine iteF ?_
      walk_at "w"
      exact kn _ _ (Stp.refl s1.s) (ef.trans rfl)
    | int ht =>
      refine w_ixT (Same.sqT (s1.g.trans s1.s) ht) rfl ?_
      walk_at "w"
      refine iteF ?_
      walk_at "w"
      exact kn _ _ (Stp.refl s1.s) (ef.trans rfl)
    | list ht _ _ =>
      refine w_ixT (Same.sqT (s1.g.trans s1.s) ht) rfl ?_
      walk_at "w"
      refine iteF ?_
      walk_at "w"
      exact kn _ _ (Stp.refl s1.s) (ef.trans rfl)
    | record ht _ _ =>
      refine w_ixT (Same.sqT (s1.g.trans s1.s) ht) rfl ?_
      walk_at "w"
      refine iteF ?_
      walk_at "w"
      exact kn _ _ (Stp.refl s1.s) (ef.trans rfl)
  intro q ys G1 H1 s1 _ _ hq mu pr
  have ey := pr_strs pr
  rw [show (GL.map V.str).length = GL.length from rfl, filt_gen] at ey
  have sk : Stp [] G H (upd G1 q (.lst ys)) H1 := s1.keep hq mu.h
  walk_at "w"
  refine u_lenL mu.sqL ?_
  walk_at "w"
  rcases goal_x hv1 with ⟨g, hg, hf⟩ | ⟨hg, hf⟩
  · rw [hf] at ey
    subst ey
    refine u_rf (fun _ => ?_) (fun h => absurd h (by show ¬ decide (V.int ((1 : Nat) : Int) = V.int 0) = true; decide))
    walk_at "w"
    refine w_ixL mu.sqL (v := .str (gS g)) (atI_nat (j := 0) rfl) ?_
    walk_at "w"
    refine w_ixL (SqL.of (on (H := H1) (s1.g _ _ hgl))) (atI_nat (j := 2) h2) ?_
    walk_at "w"
    refine u_itemOf (pg.mono s1.g) wf (VA.mono s1.g _ _ hv2) (fun i hi => ?_) (fun hi => ?_)
    rotate_left
    · exact (herr _ 2 "no such item" (first_item hg hi) rfl (lit_uz _) (by decide +kernel)).step s1
    have hil : i < p.items.length := read_lt hi
    walk_at "w"
    refine ⟨rfl, G1, pa, p, g, i, rfl, s1.s, pg.mono s1.g, wf, hil, fun v G2 H2 s2 _ _ hv => ?_⟩
    have hok := hok _ (first_ok hg hi)
    walk_at "w"
    refine u_isN ?_
    walk_at "w"
    cases hfc : firstClicks p g i with
    | none =>
      rw [hfc] at hv hok
      subst hv
      refine iteT ?_
      walk_at "w"
      exact (hok _).go (s1.trans s2) (.null (tt_NULL T G2))
    | some u =>
      rw [hfc] at hv hok
      obtain ⟨t, rfl, htu, hul, hum⟩ := hv
      refine iteF ?_
      walk_at "w"
      have hok : ∀ v, Nxt [] G H fun G' H' => VA K G' v (Rust.given (namesP p u)) → Q v H' := hok
      rw [g_names] at hok
      refine u_iT (Same.sqT s2.s htu) ?_
      refine u_lcA (walk_tup (xs := natsV u)) (Yv := fun i v => (natsV u)[i]? = some v) (fun i H x H' h => h) (fun H' st => Same.sqT (s2.s.trans st) htu) (by unfold natsV; rw [List.length_map]; omega) (fun i y G' => ∃ j, u[i]? = some j ∧ VA K G' y (tnV p (some j))) (fun _ _ _ _ s h => by
        obtain ⟨j, e, h⟩ := h
        exact ⟨j, e, VA.mono s _ _ h⟩) ?_ ?_ (fun _ _ _ _ h q => mg_name h q)
      · rintro i' y G3 H3 Qy hi' s3 _ _ hy ky
        obtain ⟨j, hj, rfl⟩ := nats_at hy
        walk_at "w"
        refine u_tName (o := some j) (pg.mono ((s1.g.trans s2.g).trans s3.g)) wf (fun k h => by cases h; exact hum j (List.mem_of_getElem? hj)) fun v4 G4 H4 s4 _ _ hv4 => ?_
        exact ky _ _ _ s4 ⟨j, hj, hv4⟩
      intro q5 ys5 G5 H5 s5 _ _ hq5 mu5 hyl5 hys5
      have hlen5 : ys5.length = u.length := by rw [hyl5]; unfold natsV; rw [List.length_map]
      walk_at "w"
      refine u_listed mu5.sqL (by omega) (vas_pt (u.map fun i => tnV p (some i)) ys5 (by rw [List.length_map]; exact hlen5) fun i y x a b => ?_) fun v6 G6 H6 s6 _ _ hv6 => (hok v6).go (((s1.trans s2).trans s5).trans s6) hv6
      obtain ⟨j, hj, hvj⟩ := hys5 i y a
      rw [List.getElem?_map, hj] at b
      rw [← Option.some.inj b]
      exact hvj
  · rw [hf] at ey
    subst ey
    exact u_rf (fun h => absurd h (by decide)) (fun _ => (herr _ 1 "unknown goal" (first_bad hg) rfl (lit_uz _) (by decide +kernel)).step s1)
end
end Ck
namespace Ck
open PySem PySem.Spec PyProof.Rows L2
open He (ga ma fAd)
section
variable {P : Program} {w : World} {K : PySem.W.Frag} {mg : Str → Option Value} {base : Heap}
open R7253f.Spec (Units units itemNames indexIn readIn simulateFn readClicks clicksArg allSome play start userClick lastOf behindP logP stateP bindResult orTypeError)

theorem w_pos : ∀ x : RWire.Value, 1 ≤ (RWire.write x).length
  | .nothing => Nat.le_refl _
  | .null => Nat.le_refl _
  | .bool _ => Nat.le_refl _
  | .int _ => Nat.le_add_left _ _
  | .big _ => Nat.le_add_left _ _
  | .text _ => Nat.le_add_left _ _
  | .octets _ => Nat.le_add_left _ _
  | .wide _ => Nat.le_add_left _ _
  | .list _ => Nat.le_add_left _ _
  | .record _ => Nat.le_add_left _ _
theorem wm_cnt : ∀ l : List RWire.Value, l.length ≤ (RWire.writeMany l).length
  | [] => Nat.le_refl _
  | x :: l => by
    show _ ≤ (RWire.write x ++ RWire.writeMany l).length
    rw [List.length_append, List.length_cons]
    have := w_pos x
    have := wm_cnt l
    omega
theorem wm_mem : ∀ {l : List RWire.Value} {x : RWire.Value}, x ∈ l → (RWire.write x).length ≤ (RWire.writeMany l).length
  | y :: l, x, h => by
    show _ ≤ (RWire.write y ++ RWire.writeMany l).length
    rw [List.length_append]
    rcases List.mem_cons.mp h with rfl | h
    · omega
    · have := wm_mem h
      omega
theorem we_mem : ∀ {l : List (List UInt8 × RWire.Value)} {e : List UInt8 × RWire.Value}, e ∈ l → (RWire.write e.2).length ≤ (RWire.writeEntries l).length
  | y :: l, e, h => by
    show _ ≤ (RWire.writeText y.1 ++ (RWire.write y.2 ++ RWire.writeEntries l)).length
    rw [List.length_append, List.length_append]
    rcases List.mem_cons.mp h with rfl | h
    · omega
    · have := we_mem h
      omega
theorem w_list (l : List RWire.Value) : (RWire.write (.list l)).length = 5 + (RWire.writeMany l).length := by
  show (7 :: (RWire.low 4 l.length ++ RWire.writeMany l)).length = _
  rw [List.length_cons, List.length_append, low_len]; omega
theorem w_rec (l : List (List UInt8 × RWire.Value)) : (RWire.write (.record l)).length = 5 + (RWire.writeEntries l).length := by
  show (8 :: (RWire.low 4 l.length ++ RWire.writeEntries l)).length = _
  rw [List.length_cons, List.length_append, low_len]; omega
theorem g_behind (p : SPage) (z : SState × List SEntry) : Rust.given (behindP p z) = .record [(uo (units "log"), Rust.given (logP p z.2)), (uo (units "state"), Rust.given (stateP p z.1))] := by
  unfold behindP
  rw [g_rec]; rfl
theorem g_sim (p : SPage) (L : List (SState × List SEntry)) : Rust.given (.arr (L.map (behindP p))) = .list (L.map fun z => Rust.given (behindP p z)) := by
  rw [g_arr, List.map_map]; rfl
theorem logP_le (p : SPage) (l : List SEntry) : l.length ≤ (RWire.write (Rust.given (logP p l))).length := by
  unfold logP
  rw [g_arr, w_list]
  have := wm_cnt ((l.map (R7253f.Spec.entryP p)).map Rust.given)
  rw [List.length_map, List.length_map] at this
  omega
theorem log_le {p : SPage} {L : List (SState × List SEntry)} {z : SState × List SEntry} (h : z ∈ L) : z.2.length ≤ (RWire.write (Rust.given (.arr (L.map (behindP p))))).length := by
  rw [g_sim, w_list]
  have h1 := wm_mem (List.mem_map_of_mem (f := fun z => Rust.given (behindP p z)) h)
  rw [g_behind, w_rec] at h1
  have h2 := we_mem (e := (uo (units "log"), Rust.given (logP p z.2))) (List.mem_cons_self (l := [(uo (units "state"), Rust.given (stateP p z.1))]))
  have h3 := logP_le p z.2
  have h2 : (RWire.write (Rust.given (logP p z.2))).length ≤ _ := h2
  omega
theorem fold_nz (p : SPage) (s : SState) (l1 l2 : List SEntry) : ∀ u : List Nat, u ≠ [] → u.foldl (fun x i => userClick p x.1 i) (s, l1) = u.foldl (fun x i => userClick p x.1 i) (s, l2)
  | [], h => absurd rfl h
  | _ :: _, _ => rfl
theorem play_at (p : SPage) : ∀ (u : List Nat) (s : SState) (i : Nat), i < u.length → (play p s u)[i]? = some (lastOf p s (u.take (i + 1)))
  | j :: u, s, 0, _ => by
    show some (userClick p s j) = _
    rw [last_fold]; rfl
  | j :: u, s, i + 1, h => by
    have h : i < u.length := by simpa using h
    show (play p (userClick p s j).1 u)[i]? = _
    rw [play_at p u _ i h, last_fold, last_fold]
    show _ = some ((u.take (i + 1)).foldl (fun x i => userClick p x.1 i) (userClick p s j))
    refine congrArg some (fold_nz p _ _ _ _ ?_)
    intro e
    have := congrArg List.length e
    rw [List.length_take] at this
    have : min (i + 1) u.length = 0 := this
    omega
theorem play_len (p : SPage) : ∀ (u : List Nat) (s : SState), (play p s u).length = u.length
  | [], _ => rfl
  | j :: u, s => congrArg (· + 1) (play_len p u (userClick p s j).1)
theorem taken_list (l : List RWire.Value) : Rust.taken (.list l) = .arr (l.map Rust.taken) := by
  have h : ∀ l : List RWire.Value, Rust.takenAll l = l.map Rust.taken := by
    intro l
    induction l with
    | nil => rfl
    | cons x l ih => exact congrArg (Rust.taken x :: ·) ih
  show R7253f.Spec.Plain.arr (Rust.takenAll l) = _
  rw [h]
theorem as_ok {p : SPage} : ∀ {l : List RWire.Value}, (∀ y ∈ l, (namedI p y).isSome = true) → allSome (readIn (itemNames p)) (l.map Rust.taken) = some (l.map fun y => (namedI p y).getD 0)
  | [], _ => rfl
  | x :: l, h => by
    obtain ⟨j, hj⟩ := Option.isSome_iff_exists.mp (h x (List.mem_cons_self))
    have hj' : readIn (itemNames p) (Rust.taken x) = some j := hj
    rw [List.map_cons, allSome]
    rw [as_ok fun y hy => h y (List.mem_cons_of_mem _ hy), hj', List.map_cons, hj]; rfl
theorem as_no {p : SPage} : ∀ {l : List RWire.Value} {y : RWire.Value}, y ∈ l → namedI p y = none → allSome (readIn (itemNames p)) (l.map Rust.taken) = none
  | x :: l, y, h, hn => by
    rw [List.map_cons, allSome]
    rcases List.mem_cons.mp h with rfl | h
    · have hn' : readIn (itemNames p) (Rust.taken y) = none := hn
      rw [hn']
    · rw [as_no h hn]
      cases readIn (itemNames p) (Rust.taken x) <;> rfl
theorem rc_ok {p : SPage} {l : List RWire.Value} (hl : l.length ≤ 20) (h : ∀ y ∈ l, (namedI p y).isSome = true) : readClicks p (Rust.taken (.list l)) = some (l.map fun y => (namedI p y).getD 0) := by
  rw [taken_list]
  show (if (l.map Rust.taken).length ≤ 20 then _ else none) = _
  rw [if_pos (by rw [List.length_map]; exact hl)]
  exact as_ok h
theorem rc_no {p : SPage} {l : List RWire.Value} {y : RWire.Value} (h : y ∈ l) (hn : namedI p y = none) : readClicks p (Rust.taken (.list l)) = none := by
  rw [taken_list]
  show (if (l.map Rust.taken).length ≤ 20 then _ else none) = _
  split
  · exact as_no h hn
  · rfl
theorem rc_long {p : SPage} {l : List RWire.Value} (hl : ¬ l.length ≤ 20) : readClicks p (Rust.taken (.list l)) = none := by
  rw [taken_list]
  show (if (l.map Rust.taken).length ≤ 20 then _ else none) = _
  rw [if_neg (by rw [List.length_map]; exact hl)]
theorem sim_err {p : SPage} {x : PlainV} (h : readClicks p x = none) : simulateFn p x = .error (R7253f.Spec.typeErr "clicks must be a list of at most 20 names of items") := by
  unfold simulateFn clicksArg
  rw [h]; rfl
theorem sim_ok {p : SPage} {x : PlainV} {u : List Nat} (h : readClicks p x = some u) : simulateFn p x = .ok (.arr ((play p (start p) u).map (behindP p))) := by
  unfold simulateFn clicksArg
  rw [h]; rfl
theorem has_told_simulated (T : Txt K mg) : Has P w K mg base (XC P w) 57 ("told_simulated", none) ["page", "value"] (spTSim K) := by
  refine mk_has (d := d_told_simulated) T 68 rfl rfl rfl sc_told_simulated (fun _ _ _ _ _ _ us hl => match us, hl with | [_, _], _ => rfl) (fun vs H Q E h => h.1) (fun cdv A outer s H vs Q E hr h => ?_)
  refine ⟨_, (pss_cons (ps_set (i := 2) sc_told_simulated.nd rfl (Or.inl rfl) (pe_and (pe_cmpR op_eq (pe_ix ix_tup (pv 1) pe_int (fun _ _ => rfl)) (pgi (gi_LIST T) rfl) (nomark _)) (pe_one (pe_cmpR op_le (pe_callB c_len (by rfl) (fr_len T) PySem.boot_len (pa_cons (pe_ix ix_tup (pv 1) pe_int (fun _ _ => rfl)) pa_nil)) (pgi (gi_MOST_CLICKS_desk T) rfl) (nomark _)))))
 (pss_cons (ps_set (i := 2) sc_told_simulated.nd rfl (Or.inl rfl) (pe_and (pv 2) (pe_one (pe_callB (cr_all rfl) (by rfl) (fr_all T) (by decide +kernel) (pa_cons (pe_lc (own := [("one", 3)]) (g := gName 3) (tt := tYes) rfl sc_told_simulated.nd (pi_tup (pe_ix ix_tup (pv 1) pe_int (fun _ _ => rfl))) (blkOk_by (N := N_told_simulated) (sc := defScope s_told_simulated) (by decide +kernel)) (fun _ _ _ _ _ => (pg_name (i := 3) sc_told_simulated.nd rfl (Or.inl rfl))) (fun _ _ _ _ _ => pts_nil) (fun _ _ _ _ _ => (re_e (pe_cmpR op_ge (pcall (has_named_item T) (hr.mono (by omega)) rfl (gl_named_item T) pass0 (pa_cons (pv 0) (pa_cons (pv 3) pa_nil))) pe_int (nomark _)) (by walk_at "wk")))) pa_nil)))))
 (pss_cons (ps_expr (pcall (has_wrong_kind T) (hr.mono (by omega)) rfl (gl_wrong_kind T) (L2N.passes_call (L2N.takes_of rfl rfl rfl rfl) (fun _ _ _ _ h => h)) (pa_cons (pe_not (pv 2)) (pa_cons pe_str pa_nil))))
 (pss_cons (ps_set (i := 4) sc_told_simulated.nd rfl (Or.inl rfl) (pcall (has_first_state T) (hr.mono (by omega)) rfl (gl_first_state T) pass0 (pa_cons (pv 0) pa_nil)))
 (pss_cons (ps_set (i := 5) sc_told_simulated.nd rfl (Or.inl rfl) (pe_lst pa_nil))
 (pss_cons (nox1 (ps_for PassesOwn.never rfl (pi_tup (pe_ix ix_tup (pv 1) pe_int (fun _ _ => rfl))) (pg_name (i := 3) sc_told_simulated.nd rfl (Or.inl rfl)) (pss_cons (ps_set (i := 4) sc_told_simulated.nd rfl (Or.inl rfl) (pcall (has_behind T) (hr.mono (by omega)) rfl (gl_behind T) pass0 (pa_cons (pv 4) (pa_cons (pcall (has_named_item T) (hr.mono (by omega)) rfl (gl_named_item T) pass0 (pa_cons (pv 0) (pa_cons (pv 3) pa_nil))) pa_nil))))
 (pss_one (ps_expr (pe_bm PySem.F.plainAttrs_list PySem.F.slot_list_append PySem.F.type_list_append mt_append (pv 5) (pa_cons (pcall (has_record T) (hr.mono (by omega)) rfl (gl_record T) pass0 (pa_cons (pe_lst (pa_cons (pe_tup (pa_cons pe_str (pa_cons (pcall (has_told_log T) (hr.mono (by omega)) rfl (gl_told_log T) pass0 (pa_cons (pv 0) (pa_cons (pe_fld (pv 4) rfl) pa_nil))) pa_nil))) (pa_cons (pe_tup (pa_cons pe_str (pa_cons (pcall (has_told_state T) (hr.mono (by omega)) rfl (gl_told_state T) pass0 (pa_cons (pv 4) pa_nil)) pa_nil))) pa_nil))) pa_nil)) pa_nil)))))))
 (pss_one (ps_ret (pcall (has_listed T) (hr.mono (by omega)) rfl (gl_listed T) pass0 (pa_cons (pv 5) pa_nil)))))))))), ?_⟩
  obtain ⟨_, G, pa, p, v, x, rfl, gs, pg, wf, hv, hwr, hok, herr⟩ := h
  have : Cur G H := ⟨gs⟩
  have hp8 := wf.len
  have bad : readClicks p (Rust.taken x) = none → RfE K G H 1 "clicks must be a list of at most 20 names of items" E := fun h => herr _ 1 _ (sim_err h) rfl (lit_uz _) (by decide +kernel)
  walk_at "w"
  cases hv with
  | nothing ht =>
    refine w_ixT (onT ht) rfl ?_
    walk_at "w"
    refine iteF ?_
    walk_at "w"
    exact u_rf (fun h => absurd h (by decide)) (fun _ => bad rfl)
  | null ht =>
    refine w_ixT (onT ht) rfl ?_
    walk_at "w"
    refine iteF ?_
    walk_at "w"
    exact u_rf (fun h => absurd h (by decide)) (fun _ => bad rfl)
  | fls ht =>
    refine w_ixT (onT ht) rfl ?_
    walk_at "w"
    refine iteF ?_
    walk_at "w"
    exact u_rf (fun h => absurd h (by decide)) (fun _ => bad rfl)
  | tru ht =>
    refine w_ixT (onT ht) rfl ?_
    walk_at "w"
    refine iteF ?_
    walk_at "w"
    exact u_rf (fun h => absurd h (by decide)) (fun _ => bad rfl)
  | int ht =>
    refine w_ixT (onT ht) rfl ?_
    walk_at "w"
    refine iteF ?_
    walk_at "w"
    exact u_rf (fun h => absurd h (by decide)) (fun _ => bad rfl)
  | text ht _ =>
    refine w_ixT (onT ht) rfl ?_
    walk_at "w"
    refine iteF ?_
    walk_at "w"
    exact u_rf (fun h => absurd h (by decide)) (fun _ => bad rfl)
  | record ht _ _ =>
    refine w_ixT (onT ht) rfl ?_
    walk_at "w"
    refine iteF ?_
    walk_at "w"
    exact u_rf (fun h => absurd h (by decide)) (fun _ => bad rfl)
  | @list t q xs l ht hq hvs =>
    have hlen := hvs.len
    refine w_ixT (onT ht) rfl ?_
    walk_at "w"
    refine iteT ?_
    walk_at "w"
    refine w_ixT (onT ht) rfl ?_
    walk_at "w"
    refine u_lenT (onT hq) ?_
    walk_at "w"
    rw [hlen]
    refine w_ite (fun hb => ?_) (fun hb => ?_)
    rotate_left
    · have hb : ¬ l.length ≤ 20 := by have := of_decide_eq_false hb; omega
      walk_at "w"
      exact u_rf (fun h => absurd h (by decide)) (fun _ => bad (rc_long hb))
    · have hb : l.length ≤ 20 := by have := of_decide_eq_true hb; omega
      walk_at "w"
      refine w_ixT (onT ht) rfl ?_
      walk_at "w"
      refine u_iT (onT hq) ?_
      refine u_lcA (walk_tup (xs := xs)) (Yv := fun i v => xs[i]? = some v) (fun i H x H' h => h) (fun H' s => Same.sqT s (onT hq)) (by omega) (fun i y _ => ∃ z, l[i]? = some z ∧ y = .bl (namedI p z).isSome) (fun _ _ _ _ _ h => h) ?_ ?_ (fun _ _ _ _ h q => mg_name h q)
      · rintro i y G1 H1 Qy hi s1 _ _ hy ky
        have : Cur G1 H1 := ⟨s1.s⟩
        obtain ⟨z, hz, va⟩ := hvs.at hy
        walk_at "w"
        refine u_named (pg.mono s1.g) wf (VA.mono s1.g _ _ va) ?_
        walk_at "w"
        refine ky _ _ _ (Stp.refl s1.s) ⟨z, hz, ?_⟩
        rw [← idx_pos]
      intro q5 ys G1 H1 s1 _ _ hq5 mu5 hyl hys
      have e : ys = (l.map fun z => (namedI p z).isSome).map V.bl := by
        apply List.ext_getElem?
        intro i
        rw [List.getElem?_map, List.getElem?_map]
        cases hy : ys[i]? with
        | some y =>
          obtain ⟨z, hz, e⟩ := hys i y hy
          rw [e, hz]; rfl
        | none =>
          have hi := List.getElem?_eq_none_iff.mp hy
          rw [List.getElem?_eq_none (by omega)]; rfl
      subst e
      walk_at "w"
      refine u_all mu5.sqL ?_
      walk_at "w"
      refine u_rf (fun h => ?_) (fun h => ?_)
      rotate_left
      · have h : ((l.map fun z => (namedI p z).isSome).all id) = false := by simpa using h
        obtain ⟨z, hz, hn⟩ := List.all_eq_false.mp h
        obtain ⟨y, hy, rfl⟩ := List.mem_map.mp hz
        have hn : namedI p y = none := by
          cases e : namedI p y with
          | none => rfl
          | some j => rw [e] at hn; exact absurd rfl hn
        exact (bad (rc_no hy hn)).step s1
      have h : ((l.map fun z => (namedI p z).isSome).all id) = true := by simpa using h
      have hall : ∀ y ∈ l, (namedI p y).isSome = true := fun y hy => List.all_eq_true.mp h _ (List.mem_map_of_mem hy)
      have hrc := rc_ok (p := p) hb hall
      generalize hu : (l.map fun y => (namedI p y).getD 0) = u at hrc
      have hul : u.length = l.length := by rw [← hu, List.length_map]
      have hsim := sim_ok hrc
      have hwl := hwr _ hsim
      have hok := hok _ hsim
      rw [g_sim] at hok
      walk_at "w"
      refine u_first (pg.mono s1.g) wf fun b0 G2 H2 s2 _ _ hb0 => ?_
      walk_at "w"
      refine u_lst (Nat.zero_le _) fun rl G3 H3 s3 _ _ hrl mrl => ?_
      walk_at "w"
      have hrH : H rl = none := (s1.trans s2).free hrl
      refine w_ixT (onT (H := H3) (G := G) ht) rfl ?_
      walk_at "w"
      refine u_iT (onT (H := H3) (G := G) hq) ?_
      refine u_for (walk_tup (xs := xs)) (fun i σ H' => ∃ (G' : Hp) (b : Addr) (vs : List V) (v2 v3 : Option V), σ = [some (.ref pa), some (.ref t), v2, v3, some (.ref b), some (.ref rl)] ∧ Stp [] G H G' H' ∧ Mu G' H' rl (.lst vs) ∧ StF K G' b pa p (lastOf p (start p) (u.take i)).1 (lastOf p (start p) (u.take i)).2 ∧ VAs K G' vs (((play p (start p) u).take i).map fun z => Rust.given (behindP p z)) ∧ vs.length = i) ?_ (fun i σ H' _ ⟨G', _, _, _, _, _, st, _⟩ => Same.sqT (gs.trans st.same) hq) ?_ ?_
      · exact ⟨G3, b0, [], _, _, rfl, (s1.trans s2).trans s3, mrl, hb0.mono s3.g, .nil, rfl⟩
      · rintro i y σ H4 H4' hi ⟨G4, b, vs, v2, v3, rfl, s4, mr4, sb4, hvs4, hvl⟩ ⟨rfl, hy⟩
        have : Cur G4 H4' := ⟨s4.s⟩
        obtain ⟨z, hz, va⟩ := hvs.at hy
        obtain ⟨j, hj⟩ := Option.isSome_iff_exists.mp (hall z (List.mem_of_getElem? hz))
        have hjl : j < p.items.length := read_lt hj
        have huj : u[i]? = some j := by
          rw [← hu, List.getElem?_map, hz]
          show some ((namedI p z).getD 0) = _
          rw [hj]; rfl
        have hpl := play_at p u (start p) i (by omega)
        rw [take_snoc huj, last_snoc] at hpl
        have hlog := Nat.le_trans (log_le (p := p) (List.mem_of_getElem? hpl)) hwl
        walk_at "w"
        refine u_named (pg.mono s4.g) wf (VA.mono s4.g _ _ va) ?_
        walk_at "w"
        rw [hj]
        refine u_behind (i := j) sb4 wf hjl fun c G5 H5 s5 _ _ hc => ?_
        walk_at "w"
        have ⟨⟨dx, ol, dl, gl, lg, wl, lv, h1, h2, h3, h4, h5, h6⟩, _, _⟩ := hc
        have pg5 := pg.mono (s4.g.trans s5.g)
        refine u_bmL (s5.mu mr4 List.not_mem_nil).h ?_
        walk_at "w"
        refine u_fld (on (H := H5) h1) (cl_State T) (na_State_log T) fl_State_log ?_
        walk_at "w"
        refine u_tLog pg5 wf h5 h6 (user_ok wf _ hjl) (by omega) fun v6 G6 H6 s6 _ _ hv6 => ?_
        walk_at "w"
        refine u_tup (by show 2 ≤ sizeLine; decide) fun t7 G7 H7 s7 _ _ ht7 => ?_
        walk_at "w"
        refine u_tState (hc.mono (s6.g.trans s7.g)) wf fun v8 G8 H8 s8 _ _ hv8 => ?_
        walk_at "w"
        refine u_tup (by show 2 ≤ sizeLine; decide) fun t9 G9 H9 s9 _ _ ht9 => ?_
        walk_at "w"
        refine u_lstK (by show 2 ≤ sizeLine; decide) fun qa Ga Ha sa _ _ hqa => ?_
        walk_at "w"
        have prs := PRs.app (pr1 (SqT.of (((s8.g.trans s9.g).trans sa.g) _ _ ht7)) (show strV "log" = octs (uo (units "log")) by decide +kernel) (VA.mono (((s7.g.trans s8.g).trans s9.g).trans sa.g) _ _ hv6)) (pr1 (SqT.of (sa.g _ _ ht9)) (show strV "state" = octs (uo (units "state")) by decide +kernel) (VA.mono (s9.g.trans sa.g) _ _ hv8))
        refine u_record (SqL.of (on (H := Ha) hqa)) (by show 2 ≤ 1000; omega) prs (lens4 (us := [uo (units "log"), uo (units "state")]) rfl (by decide +kernel)) fun vb Gb Hb sb _ _ hvb => ?_
        walk_at "w"
        have s5b := ((((s6.trans s7).trans s8).trans s9).trans sa).trans sb
        refine u_app ((s5.trans s5b).mu mr4 List.not_mem_nil) (by rw [hvl]; exact lst_le (by omega)) fun Gc Hc sc _ _ mrc => ?_
        walk_at "w"
        refine ⟨Gc, c, vs ++ [vb], _, _, rfl, ((s4.trans (s5.trans s5b)).nil.trans sc).drop hrH, mrc, ?_, ?_, by rw [List.length_append, hvl]; rfl⟩
        · rw [take_snoc huj, last_snoc]
          exact hc.mono (s5b.g.trans sc.g)
        · rw [map_snoc hpl]
          refine VAs.app (VAs.mono ((s5.g.trans s5b.g).trans sc.g) _ _ hvs4) (.cons ?_ .nil)
          rw [g_behind]
          exact VA.mono sc.g _ _ hvb
      · rintro σ H4 ⟨G4, b, vs, v2, v3, rfl, s4, mr4, sb4, hvs4, hvl⟩
        have : Cur G4 H4 := ⟨s4.s⟩
        have hpl : (play p (start p) u).length ≤ xs.length := by
          rw [hlen, ← hul]
          rw [play_len]; exact Nat.le_refl _
        rw [List.take_of_length_le hpl] at hvs4
        walk_at "w"
        exact u_listed mr4.sqL (by omega) hvs4 fun v5 G5 H5 s5 _ _ hv5 => (hok v5).go (s4.trans s5) hv5
end
end Ck
namespace Ck
open PySem PySem.Spec PyProof.Rows L2
open He (ga ma fAd)
section
variable {P : Program} {w : World} {K : PySem.W.Frag} {mg : Str → Option Value} {base : Heap}
open R7253f.Spec (Units units firstFn simulateFn printText itemsP Result)

/-- how a call ends: as ResK, a text may hold its octets in a list -/
def ResO (K : PySem.W.Frag) (G H : Hp) (r : Result PlainV) (Q : VK) (E : XK) : Prop :=
  (∀ x, r = .ok x → ∀ v, Nxt [] G H fun G' H' => VO K G' v (Rust.given x) → Q v H') ∧ (∀ e o m, r = .error e → Rust.classOf e.cls = o → uz m = e.msg → okm m = true → RfE K G H o m E)
theorem ResO.toK {K : PySem.W.Frag} {G H : Hp} {r : Result PlainV} {Q : VK} {E : XK} (h : ResO K G H r Q E) : ResK K G H r Q E := ⟨fun x e v G' H' st a b hv => h.1 x e v G' H' st a b (.inl hv), h.2⟩
def pageRes (p : SPage) (door : Nat) (x1 x2 : RWire.Value) : Result PlainV :=
  if door = 1 then .ok (.str (printText p)) else if door = 2 then .ok (itemsP p) else if door = 3 then firstFn p (Rust.taken x1) (Rust.taken x2) else simulateFn p (Rust.taken x1)
def spOnPage (K : PySem.W.Frag) : Sp := fun vs H Q E => vs.length = 3 ∧ ∃ (G : Hp) (pa gl : Addr) (p : SPage) (door : Nat) (gv : List V) (v1 v2 : V) (x1 x2 : RWire.Value), vs = [.ref pa, .int (door : Nat), .ref gl] ∧ Same G H ∧ PgH K G pa p ∧ PgW p ∧ G gl = some (.lst gv) ∧ gv[1]? = some v1 ∧ gv[2]? = some v2 ∧ VA K G v1 x1 ∧ VA K G v2 x2 ∧
  1 ≤ door ∧ door ≤ 4 ∧ (∀ y, pageRes p door x1 x2 = .ok y → (RWire.write (Rust.given y)).length ≤ 65536 ∧ Rust.narrow y = true) ∧ ResO K G H (pageRes p door x1 x2) Q E
theorem w_text (u : List UInt8) : (RWire.write (.text u)).length = 5 + u.length := by
  show (6 :: (RWire.low 4 u.length ++ u)).length = _
  rw [List.length_cons, List.length_append, low_len]; omega
theorem uo_len (w : Units) : (uo w).length = w.length := List.length_map _
theorem nar_octs {w : Units} (h : Rust.narrow (.str w) = true) : octs (uo w) = un w := octs_un fun c hc => by
  have h : Rust.narrowText w = true := by
    have e : Rust.narrow (.str w) = (Rust.wideTold || Rust.narrowText w) := by
      unfold Rust.narrow; rfl
    rw [e] at h
    exact h
  have := List.all_eq_true.mp h c hc
  have h3 : c.toNat + 1 ≤ 256 := Nat.le_of_ble_eq_true this
  omega
theorem has_on_page (T : Txt K mg) : Has P w K mg base (XC P w) 58 ("on_page", none) ["page", "door", "given"] (spOnPage K) := by
  refine mk_has (d := d_on_page) T 70 rfl rfl rfl sc_on_page (fun _ _ _ _ _ _ us hl => match us, hl with | [_, _, _], _ => rfl) (fun vs H Q E h => h.1) (fun cdv A outer s H vs Q E hr h => ?_)
  refine ⟨_, (pss_cons (ps_if (pt_cmpR op_eq (pv 1) pe_int (nomark _)) (pss_one (ps_ret (pe_tup (pa_cons (pgi (gi_TEXT T) rfl) (pa_cons (pcall (has_page_text T) (hr.mono (by omega)) rfl (gl_page_text T) pass0 (pa_cons (pv 0) pa_nil)) pa_nil))))) pss_nil)
 (pss_cons (ps_if (pt_cmpR op_eq (pv 1) pe_int (nomark _)) (pss_one (ps_ret (pcall (has_told_items T) (hr.mono (by omega)) rfl (gl_told_items T) pass0 (pa_cons (pv 0) pa_nil)))) pss_nil)
 (pss_one (ps_ret (pe_ifExp (pt_cmpR op_eq (pv 1) pe_int (nomark _)) (pcall (has_told_first T) (hr.mono (by omega)) rfl (gl_told_first T) (L2N.passes_call (L2N.takes_of rfl rfl rfl rfl) (fun _ _ _ _ h => h)) (pa_cons (pv 0) (pa_cons (pv 2) pa_nil))) (pcall (has_told_simulated T) (hr.mono (by omega)) rfl (gl_told_simulated T) (L2N.passes_call (L2N.takes_of rfl rfl rfl rfl) (fun _ _ _ _ h => h)) (pa_cons (pv 0) (pa_cons (pe_ix ix_list (pv 2) pe_int (fun _ _ => rfl)) pa_nil)))))))), ?_⟩
  obtain ⟨_, G, pa, gl, p, door, gv, v1, v2, x1, x2, rfl, gs, pg, wf, hgl, h1, h2, hv1, hv2, hd1, hd4, hwr, hres⟩ := h
  have : Cur G H := ⟨gs⟩
  walk_at "w"
  have hd : door = 1 ∨ door = 2 ∨ door = 3 ∨ door = 4 := by omega
  rcases hd with rfl | rfl | rfl | rfl
  · have e : pageRes p 1 x1 x2 = .ok (.str (printText p)) := rfl
    obtain ⟨hw, hn⟩ := hwr _ e
    rw [g_str, w_text, uo_len] at hw
    have hok := hres.1 _ e
    rw [g_str] at hok
    refine iteT ?_
    walk_at "w"
    refine u_pgText pg wf (by omega) fun q G1 H1 s1 _ _ hq => ?_
    walk_at "w"
    refine u_tup (by show 2 ≤ sizeLine; decide) fun t G2 H2 s2 _ _ ht => ?_
    walk_at "w"
    refine (hok (.ref t)).go (s1.trans s2) (.inr ⟨t, q, uo (printText p), rfl, rfl, SqT.of ht, ?_⟩)
    rw [nar_octs hn]
    exact SqL.of (s2.g _ _ hq)
  · have e : pageRes p 2 x1 x2 = .ok (itemsP p) := rfl
    have hok := hres.1 _ e
    refine iteF ?_
    walk_at "w"
    refine iteT ?_
    walk_at "w"
    exact u_tItems pg wf fun v G1 H1 s1 _ _ hv => (hok v).go s1 (.inl hv)
  · refine iteF ?_
    walk_at "w"
    refine iteF ?_
    walk_at "w"
    refine iteT ?_
    walk_at "w"
    exact ⟨rfl, G, pa, gl, p, gv, v1, v2, x1, x2, rfl, gs, pg, wf, hgl, h1, h2, hv1, hv2, hres.toK⟩
  · refine iteF ?_
    walk_at "w"
    refine iteF ?_
    walk_at "w"
    refine iteF ?_
    walk_at "w"
    refine w_ixL (SqL.of (on hgl)) (atI_nat (j := 1) h1) ?_
    walk_at "w"
    exact ⟨rfl, G, pa, p, v1, x1, rfl, gs, pg, wf, hv1, fun y e => (hwr y e).1, hres.toK⟩
end
end Ck
namespace Ck
open PySem PySem.Spec PyProof.Rows L2
open He (ga ma fAd)
open R7253f.Spec (Units rows start lastOf scenarioP stepIn inputOk slot put filled onSlot createIn textArg Ans Call)
abbrev SWld := R7253f.Spec.World
/-! ### what is handed out goes through what is taken in -/
mutual
theorem gt {K : PySem.W.Frag} {G : Hp} : ∀ (x : RWire.Value) (v : V), VA K G v x → Rust.given (Rust.taken x) = x
  | .nothing, _, _ => rfl
  | .null, _, _ => rfl
  | .bool _, _, _ => rfl
  | .int _, _, _ => rfl
  | .big _, _, h => by cases h
  | .text u, _, _ => by
    show Rust.given (.str (u.map Rust.unitOf)) = _
    rw [g_str]
    show RWire.Value.text ((u.map Rust.unitOf).map Rust.octetOf) = _
    rw [List.map_map]
    have e : ∀ o : UInt8, (Rust.octetOf ∘ Rust.unitOf) o = o := fun o => by
      apply UInt8.toNat_inj.mp
      show (UInt8.ofNat (UInt16.ofNat o.toNat).toNat).toNat = _
      rw [UInt8.toNat_ofNat', UInt16.toNat_ofNat']
      have := o.toNat_lt
      omega
    rw [List.map_congr_left (fun o _ => e o)]
    exact congrArg _ (List.map_id _)
  | .octets _, _, h => by cases h
  | .wide _, _, h => by cases h
  | .list l, _, h => by cases h with | list h1 h2 h3 => exact congrArg RWire.Value.list (gts l _ h3)
  | .record l, _, h => by cases h with | record h1 h2 h3 => exact congrArg RWire.Value.record (gte l _ h3)
theorem gts {K : PySem.W.Frag} {G : Hp} : ∀ (l : List RWire.Value) (vs : List V), VAs K G vs l → Rust.givenAll (Rust.takenAll l) = l
  | [], _, _ => rfl
  | x :: l, _, h => by
    cases h with
    | cons h1 h2 =>
      show Rust.given (Rust.taken x) :: Rust.givenAll (Rust.takenAll l) = _
      rw [gt x _ h1, gts l _ h2]
theorem gte {K : PySem.W.Frag} {G : Hp} : ∀ (l : List (List UInt8 × RWire.Value)) (vs : List V), VEs K G vs l → Rust.givenFields (Rust.takenFields l) = l
  | [], _, _ => rfl
  | (u, x) :: l, _, h => by
    cases h with
    | cons h1 h2 h3 h4 =>
      show ((u.map Rust.unitOf).map Rust.octetOf, Rust.given (Rust.taken x)) :: Rust.givenFields (Rust.takenFields l) = _
      rw [gt x _ h3, gte l _ h4, List.map_map]
      have e : ∀ o : UInt8, (Rust.octetOf ∘ Rust.unitOf) o = o := fun o => by
        apply UInt8.toNat_inj.mp
        show (UInt8.ofNat (UInt16.ofNat o.toNat).toNat).toNat = _
        rw [UInt8.toNat_ofNat', UInt16.toNat_ofNat']
        have := o.toNat_lt
        omega
      rw [List.map_congr_left (fun o _ => e o)]
      exact congrArg (fun z => (z, x) :: l) (List.map_id _)
end
/-! ### steps that leave every list as it is -/
structure StL (G H G' H' : Hp) : Prop where
  g : Same G G'
  s : Same G' H'
  l : ∀ l xs, Mu G H l (.lst xs) → Mu G' H' l (.lst xs)
theorem StL.refl {G H : Hp} (s : Same G H) : StL G H G H := ⟨Same.refl G, s, fun _ _ h => h⟩
theorem StL.trans {G H G1 H1 G2 H2 : Hp} (a : StL G H G1 H1) (b : StL G1 H1 G2 H2) : StL G H G2 H2 := ⟨a.g.trans b.g, b.s, fun l xs h => b.l l xs (a.l l xs h)⟩
theorem Stp.toL {F : List Addr} {G H G' H' : Hp} (a : Stp F G H G' H') (hF : ∀ b ∈ F, ∀ xs, H b ≠ some (.lst xs)) : StL G H G' H' := ⟨a.g, a.s, fun l xs h => a.mu h fun hl => hF l hl xs h.h⟩
theorem Stp.toL0 {G H G' H' : Hp} (a : Stp [] G H G' H') : StL G H G' H' := a.toL fun b h => absurd h List.not_mem_nil
theorem Stp.toL1 {m : Addr} {o : HO} {G H G' H' : Hp} (a : Stp [m] G H G' H') (mu : Mu G H m o) (ho : ∀ xs, o ≠ .lst xs) : StL G H G' H' := a.toL fun b h xs e => by
  rw [List.mem_singleton.mp h, mu.h] at e
  exact ho xs (Option.some.inj e)
/-! ### the library -/
structure LibA where
  a : Addr
  dx : Addr
  pd : Addr
  sd : Addr
  rd : Addr
  ss : Nat → Addr
def PgsA (K : PySem.W.Frag) (G : Hp) (pk : List (Key × V)) (l : List (Option SPage)) : Prop := ∀ (i : Nat) (p : SPage), slot l i = some p → ∃ pa, valV pk (.inl (i : Nat)) = some (.ref pa) ∧ PgH K G pa p ∧ PgW p
def SesA (K : PySem.W.Frag) (G H : Hp) (sk : List (Key × V)) (ss : Nat → Addr) (l : List (Option R7253f.Spec.Session)) : Prop :=
  (∀ (i : Nat) (r : R7253f.Spec.Session), slot l i = some r → ∃ dx pa, valV sk (.inl (i : Nat)) = some (.ref (ss i)) ∧ SeM K G H (ss i) dx pa r.page r.clicks) ∧
  ∀ (i j : Nat) (r q : R7253f.Spec.Session), slot l i = some r → slot l j = some q → i ≠ j → ss i ≠ ss j
def RwA (K : PySem.W.Frag) (G : Hp) (rv : List V) (l : List PlainV) : Prop := (rv = [] ∧ l = []) ∨ ∃ us pa p, Paired (RowA K G pa p) rv us ∧ l = us.map (scenarioP p) ∧ PgH K G pa p ∧ PgW p ∧ ∀ u ∈ us, u.length ≤ 3 ∧ ∀ j ∈ u, j < p.items.length
def RwsA (K : PySem.W.Frag) (G : Hp) (rk : List (Key × V)) (l : List (Option (List PlainV))) : Prop := ∀ (i : Nat) (r : List PlainV), slot l i = some r → ∃ ra rv, valV rk (.inl (i : Nat)) = some (.ref ra) ∧ G ra = some (.lst rv) ∧ RwA K G rv r
structure LibM (K : PySem.W.Frag) (G H : Hp) (A : LibA) (w : SWld) (n : Nat) : Prop where
  ins : G A.a = some (.ins (ga K "Library") A.dx (FLibrary (.ref A.pd) (.ref A.sd) (.ref A.rd)))
  x : ∃ pk sk rk, (Mu G H A.pd (.dK pk) ∧ Mu G H A.sd (.dK sk) ∧ Mu G H A.rd (.dK rk)) ∧ (pk.length ≤ n ∧ sk.length ≤ n ∧ rk.length ≤ n) ∧ PgsA K G pk w.pages ∧ SesA K G H sk A.ss w.runs ∧ RwsA K G rk w.iterators
  n1 : A.pd ≠ A.sd
  n2 : A.pd ≠ A.rd
  n3 : A.sd ≠ A.rd
section
variable {K : PySem.W.Frag} {G H G' H' : Hp} {A : LibA} {w : SWld} {n : Nat} {F : List Addr} {pk sk rk : List (Key × V)} {ss : Nat → Addr}
theorem PgsA.mono {l : List (Option SPage)} (s : Same G G') (h : PgsA K G pk l) : PgsA K G' pk l := fun i p e => by
  obtain ⟨pa, h1, h2, h3⟩ := h i p e
  exact ⟨pa, h1, h2.mono s, h3⟩
theorem RwA.mono {rv : List V} {l : List PlainV} (s : Same G G') (h : RwA K G rv l) : RwA K G' rv l := by
  rcases h with h | ⟨us, pa, p, h1, h2, h3, h4, h5⟩
  · exact .inl h
  · exact .inr ⟨us, pa, p, Paired.mapP h1 fun _ _ => RowA.mono s, h2, h3.mono s, h4, h5⟩
theorem RwsA.mono {l : List (Option (List PlainV))} (s : Same G G') (h : RwsA K G rk l) : RwsA K G' rk l := fun i r e => by
  obtain ⟨ra, rv, h1, h2, h3⟩ := h i r e
  exact ⟨ra, rv, h1, s _ _ h2, h3.mono s⟩
theorem SesA.step {l : List (Option R7253f.Spec.Session)} (st : Stp F G H G' H') (hF : ∀ i r, slot l i = some r → ss i ∉ F) (h : SesA K G H sk ss l) : SesA K G' H' sk ss l := ⟨fun i r e => by
  obtain ⟨dx, pa, h1, h2⟩ := h.1 i r e
  exact ⟨dx, pa, h1, h2.step st (hF i r e)⟩, h.2⟩
theorem LibM.step (h : LibM K G H A w n) (st : Stp [] G H G' H') : LibM K G' H' A w n := by
  obtain ⟨ins, ⟨pk, sk, rk, ⟨m1, m2, m3⟩, ls, h1, h2, h3⟩, n1, n2, n3⟩ := h
  exact ⟨st.g _ _ ins, ⟨pk, sk, rk, ⟨st.mu m1 List.not_mem_nil, st.mu m2 List.not_mem_nil, st.mu m3 List.not_mem_nil⟩, ls, h1.mono st.g, h2.step st fun _ _ _ => List.not_mem_nil, h3.mono st.g⟩, n1, n2, n3⟩
theorem LibM.more {m : Nat} (h : LibM K G H A w n) (hm : n ≤ m) : LibM K G H A w m := by
  obtain ⟨ins, ⟨pk, sk, rk, ms, ⟨l1, l2, l3⟩, hs⟩, n1, n2, n3⟩ := h
  exact ⟨ins, ⟨pk, sk, rk, ms, ⟨by omega, by omega, by omega⟩, hs⟩, n1, n2, n3⟩
theorem LibM.made (h : LibM K G H A w n) (k : Nat) : LibM K G H A { w with made := k } n := ⟨h.ins, h.x, h.n1, h.n2, h.n3⟩
theorem slot_put {α : Type} {l : List (Option α)} {k i : Nat} {a b : α} (h : slot (put l k a) i = some b) : (i = k ∧ b = a) ∨ (i ≠ k ∧ slot l i = some b) := by
  unfold slot put at h
  by_cases e : i = k
  · subst e
    left
    refine ⟨rfl, ?_⟩
    rw [List.getD_eq_getElem?_getD, List.getElem?_set_self'] at h
    cases hl : l[i]? with
    | none => rw [hl] at h; cases h
    | some o => rw [hl] at h; exact (Option.some.inj h).symm
  · right
    refine ⟨e, ?_⟩
    rw [List.getD_eq_getElem?_getD, List.getElem?_set_ne (Ne.symm e)] at h
    unfold slot
    rw [List.getD_eq_getElem?_getD]
    exact h
theorem val_put_ne {kvs : List (Key × V)} {k i : Nat} {v : V} (h : i ≠ k) : valV (putK kvs (.inl (k : Nat)) v) (.inl (i : Nat)) = valV kvs (.inl (i : Nat)) := by
  rw [valV_put, if_neg]
  intro e
  exact h (Int.ofNat_inj.mp (Sum.inl.inj e))
theorem val_put_eq {kvs : List (Key × V)} {k : Nat} {v : V} : valV (putK kvs (.inl (k : Nat)) v) (.inl (k : Nat)) = some v := by
  rw [valV_put, if_pos rfl]
theorem PgsA.put {l : List (Option SPage)} {k : Nat} {pa : Addr} {p : SPage} (h : PgsA K G pk l) (hp : PgH K G pa p) (wf : PgW p) : PgsA K G (putK pk (.inl (k : Nat)) (.ref pa)) (put l k p) := fun i q e => by
  rcases slot_put e with ⟨rfl, rfl⟩ | ⟨hne, e⟩
  · exact ⟨pa, val_put_eq, hp, wf⟩
  · obtain ⟨pa, h1, h2, h3⟩ := h i q e
    exact ⟨pa, (val_put_ne hne).trans h1, h2, h3⟩
theorem RwsA.put {l : List (Option (List PlainV))} {k : Nat} {ra : Addr} {rv : List V} {r : List PlainV} (h : RwsA K G rk l) (hr : G ra = some (.lst rv)) (hw : RwA K G rv r) : RwsA K G (putK rk (.inl (k : Nat)) (.ref ra)) (put l k r) := fun i q e => by
  rcases slot_put e with ⟨rfl, rfl⟩ | ⟨hne, e⟩
  · exact ⟨ra, rv, val_put_eq, hr, hw⟩
  · obtain ⟨ra, rv, h1, h2, h3⟩ := h i q e
    exact ⟨ra, rv, (val_put_ne hne).trans h1, h2, h3⟩
end
/-- three values that are given -/
def Giv (K : PySem.W.Frag) (G : Hp) (gl : Addr) (x0 x1 x2 : RWire.Value) : Prop := ∃ v0 v1 v2, G gl = some (.lst [v0, v1, v2]) ∧ VA K G v0 x0 ∧ VA K G v1 x1 ∧ VA K G v2 x2
theorem Giv.mono {K : PySem.W.Frag} {G G' : Hp} {gl : Addr} {x0 x1 x2 : RWire.Value} (s : Same G G') (h : Giv K G gl x0 x1 x2) : Giv K G' gl x0 x1 x2 := by
  obtain ⟨v0, v1, v2, h, h0, h1, h2⟩ := h
  exact ⟨v0, v1, v2, s _ _ h, VA.mono s _ _ h0, VA.mono s _ _ h1, VA.mono s _ _ h2⟩
/-- which call it is -/
def CallIs (door : Nat) (x0 x1 x2 : RWire.Value) : Call → Prop
  | .create k x => door = 0 ∧ x0 = .int (k : Nat) ∧ x = Rust.taken x1
  | .print k => door = 1 ∧ x0 = .int (k : Nat)
  | .items k => door = 2 ∧ x0 = .int (k : Nat)
  | .first k x y => door = 3 ∧ x0 = .int (k : Nat) ∧ x = Rust.taken x1 ∧ y = Rust.taken x2
  | .simulate k x => door = 4 ∧ x0 = .int (k : Nat) ∧ x = Rust.taken x1
  | .list t k x => door = 5 ∧ x0 = .int (t : Nat) ∧ x1 = .int (k : Nat) ∧ x = Rust.taken x2
  | .next t => door = 6 ∧ x0 = .int (t : Nat)
  | .return1 t x => door = 7 ∧ x0 = .int (t : Nat) ∧ x = Rust.taken x1
  | .begin r k => door = 8 ∧ x0 = .int (r : Nat) ∧ x1 = .int (k : Nat)
  | .tap r x => door = 9 ∧ x0 = .int (r : Nat) ∧ x = Rust.taken x1
  | .undo r => door = 10 ∧ x0 = .int (r : Nat)
  | .read r => door = 11 ∧ x0 = .int (r : Nat)
/-- how a call on the library ends -/
def LibQ (K : PySem.W.Frag) (G H : Hp) (a : Addr) (n : Nat) (r : SWld × Ans) (Q : VK) (E : XK) : Prop :=
  (∀ y, r.2 = .ret y → ∀ v A' G' H', StL G H G' H' → LibM K G' H' A' r.1 n → A'.a = a → VO K G' v (Rust.given y) → Q v H') ∧
  (∀ e o m, r.2 = .fail e → Rust.classOf e.cls = o → uz m = e.msg → okm m = true → RfE K G H o m E)
structure CallP (K : PySem.W.Frag) (G H : Hp) (A : LibA) (gl : Addr) (door : Nat) (w : SWld) (n : Nat) (c : Call) (Q : VK) (E : XK) : Prop where
  gs : Same G H
  m : LibM K G H A w n
  le : n ≤ 1000
  gv : ∃ x0 x1 x2, Giv K G gl x0 x1 x2 ∧ CallIs door x0 x1 x2 c
  ok : inputOk w c = true
  wr : ∀ y, (stepIn w c).2 = .ret y → (RWire.write (Rust.given y)).length ≤ 65536 ∧ Rust.narrow y = true
  q : LibQ K G H A.a (n + 1) (stepIn w c) Q E
section
variable (K : PySem.W.Frag)
def spLibInit : Sp := fun vs H Q _ => vs.length = 1 ∧ ∃ (G : Hp) (a dx : Addr), vs = [.ref a] ∧ Same G H ∧ Mu G H a (.ins (ga K "Library") dx []) ∧ ∀ pd sd rd, Nxt [a] G H fun G' H' => Mu G' H' a (.ins (ga K "Library") dx (FLibrary (.ref pd) (.ref sd) (.ref rd))) → Mu G' H' pd (.dK []) → Mu G' H' sd (.dK []) → Mu G' H' rd (.dK []) → pd ≠ sd → pd ≠ rd → sd ≠ rd → pd ≠ a → sd ≠ a → rd ≠ a → Q .non H'
def spCreate : Sp := fun vs H Q E => vs.length = 2 ∧ ∃ (G : Hp) (A : LibA) (gl : Addr) (w : SWld) (n : Nat) (c : Call), vs = [.ref A.a, .ref gl] ∧ CallP K G H A gl 0 w n c Q E
def spLib (lo hi : Nat) : Sp := fun vs H Q E => vs.length = 3 ∧ ∃ (G : Hp) (A : LibA) (gl : Addr) (door : Nat) (w : SWld) (n : Nat) (c : Call), vs = [.ref A.a, .int (door : Nat), .ref gl] ∧ lo ≤ door ∧ door ≤ hi ∧ CallP K G H A gl door w n c Q E
end
end Ck
namespace Ck
open PySem PySem.Spec PyProof.Rows L2
open He (ga ma fAd)
section
variable {P : Program} {w : World} {K : PySem.W.Frag} {mg : Str → Option Value} {base : Heap}
open R7253f.Spec (Units units rows start lastOf scenarioP scenariosFn lengthArg upTo stepIn inputOk slot put filled onSlot createIn textArg orTypeError Ans Call readText errorsP noItem iterate iteratorP)

theorem w_dnew {σ : L2.St} {H : Hp} {Q : VK} (k : ∀ p, H p = none → Q (.ref p) (upd H p (.dK []))) : tDNewK σ H Q := k
theorem filled_some {α : Type} {l : List (Option α)} {k : Nat} (h : filled l k = true) : ∃ a, slot l k = some a := Option.isSome_iff_exists.mp (Bool.and_eq_true_iff.mp h).2
theorem on_some {α : Type} {w : SWld} {l : List (Option α)} {k : Nat} {a : α} {f : α → SWld × Ans} (h : slot l k = some a) : onSlot w l k f = f a := by
  unfold onSlot
  rw [h]
theorem cr_err {w : SWld} {k : Nat} {u e : Units} {es : List Units} (h : (readText u).2 = e :: es) : createIn w k (.ok u) = (w, .ret (errorsP (e :: es))) := by
  show (match readText u with
    | (v, []) => if v.items.isEmpty then (w, Ans.fail noItem) else ({ w with pages := put w.pages k v }, .ret .undef)
    | (_, e :: es) => (w, .ret (errorsP (e :: es)))) = _
  cases hr : readText u with
  | mk v l => rw [hr] at h; subst h; rfl
theorem cr_no {w : SWld} {k : Nat} {u : Units} (h : (readText u).2 = []) (h2 : (readText u).1.items.isEmpty = true) : createIn w k (.ok u) = (w, .fail noItem) := by
  show (match readText u with
    | (v, []) => if v.items.isEmpty then (w, Ans.fail noItem) else ({ w with pages := put w.pages k v }, .ret .undef)
    | (_, e :: es) => (w, .ret (errorsP (e :: es)))) = _
  cases hr : readText u with
  | mk v l =>
    rw [hr] at h h2
    subst h
    show (if v.items.isEmpty then _ else _) = _
    rw [if_pos h2]
theorem cr_ok {w : SWld} {k : Nat} {u : Units} (h : (readText u).2 = []) (h2 : ¬ (readText u).1.items.isEmpty = true) : createIn w k (.ok u) = ({ w with pages := put w.pages k (readText u).1 }, .ret .undef) := by
  show (match readText u with
    | (v, []) => if v.items.isEmpty then (w, Ans.fail noItem) else ({ w with pages := put w.pages k v }, .ret .undef)
    | (_, e :: es) => (w, .ret (errorsP (e :: es)))) = _
  cases hr : readText u with
  | mk v l =>
    rw [hr] at h h2
    subst h
    show (if v.items.isEmpty then _ else _) = _
    rw [if_neg h2]
section
variable {F : List Addr} {G H G' H' : Hp} {A : LibA} {wd : SWld} {n : Nat} {pk sk rk kvs : List (Key × V)} {ss : Nat → Addr}
theorem SesA.ne {l : List (Option R7253f.Spec.Session)} {b : Addr} (h : SesA K G H sk ss l) (m : Mu G H b (.dK kvs)) : ∀ i r, slot l i = some r → ss i ∉ [b] := fun i r e hm => by
  obtain ⟨dx, pa, h1, h2⟩ := h.1 i r e
  obtain ⟨sl, sv, mu, _⟩ := h2.x
  rw [List.mem_singleton.mp hm] at mu
  have e := mu.h
  rw [m.h] at e
  cases e
theorem LibM.putP {p : SPage} {k : Nat} {pa : Addr} (h : LibM K G H A wd n) (e : H A.pd = some (.dK pk)) (st : Stp [A.pd] G H G' H') (mu : Mu G' H' A.pd (.dK (putK pk (.inl (k : Nat)) (.ref pa)))) (pg : PgH K G' pa p) (wf : PgW p) : LibM K G' H' A { wd with pages := put wd.pages k p } (n + 1) := by
  obtain ⟨ins, ⟨pk', sk, rk, ⟨m1, m2, m3⟩, ⟨l1, l2, l3⟩, h1, h2, h3⟩, n1, n2, n3⟩ := h
  have : pk' = pk := by
    have z := m1.h
    rw [e] at z
    cases z; rfl
  subst this
  refine ⟨st.g _ _ ins, ⟨_, sk, rk, ⟨mu, st.mu m2 (by simpa using n1.symm), st.mu m3 (by simpa using n2.symm)⟩, ⟨?_, by omega, by omega⟩, (h1.mono st.g).put pg wf, h2.step st (h2.ne m1), h3.mono st.g⟩, n1, n2, n3⟩
  have := length_putK pk' (.inl (k : Nat)) (V.ref pa)
  omega
theorem LibM.putR {l : List PlainV} {k : Nat} {ra : Addr} {rv : List V} (h : LibM K G H A wd n) (e : H A.rd = some (.dK rk)) (st : Stp [A.rd] G H G' H') (mu : Mu G' H' A.rd (.dK (putK rk (.inl (k : Nat)) (.ref ra)))) (hr : G' ra = some (.lst rv)) (hw : RwA K G' rv l) : LibM K G' H' A { wd with iterators := put wd.iterators k l } (n + 1) := by
  obtain ⟨ins, ⟨pk, sk, rk', ⟨m1, m2, m3⟩, ⟨l1, l2, l3⟩, h1, h2, h3⟩, n1, n2, n3⟩ := h
  have : rk' = rk := by
    have z := m3.h
    rw [e] at z
    cases z; rfl
  subst this
  refine ⟨st.g _ _ ins, ⟨pk, sk, _, ⟨st.mu m1 (by simpa using n2), st.mu m2 (by simpa using n3), mu⟩, ⟨by omega, by omega, ?_⟩, h1.mono st.g, h2.step st (h2.ne m3), (h3.mono st.g).put hr hw⟩, n1, n2, n3⟩
  have := length_putK rk' (.inl (k : Nat)) (V.ref ra)
  omega
end
theorem la_ok {i : Int} (h : 0 ≤ i ∧ i ≤ 2) : lengthArg (Rust.taken (.int i)) = .ok i.toNat := by
  show orTypeError _ (if 0 ≤ i ∧ i ≤ Int.ofNat 2 then some i.toNat else none) = _
  rw [if_pos (show 0 ≤ i ∧ i ≤ Int.ofNat 2 from h)]; rfl
theorem la_no {i : Int} (h : ¬ (0 ≤ i ∧ i ≤ 2)) : lengthArg (Rust.taken (.int i)) = .error (R7253f.Spec.typeErr "length must be an integer from 0 to 2") := by
  show orTypeError _ (if 0 ≤ i ∧ i ≤ Int.ofNat 2 then some i.toNat else none) = _
  rw [if_neg (show ¬ (0 ≤ i ∧ i ≤ Int.ofNat 2) from h)]; rfl
theorem sc_ok {p : SPage} {x : PlainV} {n : Nat} (h : lengthArg x = .ok n) : scenariosFn p x = .ok ((rows p.items.length n).map (scenarioP p)) := by
  unfold scenariosFn
  rw [h]; rfl
theorem sc_no {p : SPage} {x : PlainV} {e : R7253f.Spec.Err} (h : lengthArg x = .error e) : scenariosFn p x = .error e := by
  unfold scenariosFn
  rw [h]; rfl
theorem g_iter (x : PlainV) (b : Bool) : Rust.given (iteratorP x b) = .record [(uo (units "value"), Rust.given x), (uo (units "done"), .bool b)] := by
  unfold iteratorP
  rw [g_rec]; rfl
theorem g_scen (p : SPage) (u : List Nat) : Rust.given (scenarioP p u) = .record [(uo (units "clicks"), .list (u.map fun i => tnV p (some i))), (uo (units "state"), Rust.given (R7253f.Spec.stateP p (lastOf p (start p) u).1))] := by
  unfold scenarioP
  rw [g_rec]
  show RWire.Value.record [(_, Rust.given (R7253f.Spec.namesP p u)), _] = _
  rw [g_names]
theorem has_Library_init (T : Txt K mg) : Has P w K mg base CX0 1 ("Library", some "__init__") ["self"] (spLibInit K) := by
  refine mk_has (d := d_Library_init) T 71 rfl rfl rfl sc_Library_init (fun _ _ _ _ _ _ us hl => match us, hl with | [_], _ => rfl) (fun vs H Q E h => h.1) (fun cdv A outer s H vs Q E hr h => ?_)
  refine ⟨_, PSs.nox (pss_cons (ps_fld (pv 0) pe_dnewK rfl)
 (pss_cons (ps_fld (pv 0) pe_dnewK rfl)
 (pss_one (ps_fld (pv 0) pe_dnewK rfl)))), ?_⟩
  obtain ⟨_, G, a, dx, rfl, gs, mu, kk⟩ := h
  have : Cur G H := ⟨gs⟩
  have new : ∀ {Ga Ha : Hp}, Same Ga Ha → ∀ p, Ha p = none → Stp [] Ga Ha Ga (upd Ha p (.dK [])) ∧ Mu Ga (upd Ha p (.dK [])) p (.dK []) := fun s p hp => ⟨Stp.layM s hp, Mu.lay hp s⟩
  walk_at "w"
  refine w_dnew fun pd hpd => ?_
  obtain ⟨s1, mp⟩ := new gs pd hpd
  have : Cur G (upd H pd (.dK [])) := ⟨s1.s⟩
  have mu1 := s1.mu mu List.not_mem_nil
  have na : pd ≠ a := fun e => by
    rw [e, mu.h] at hpd; cases hpd
  generalize hH1 : upd H pd (.dK []) = H1 at *
  walk_at "w"
  refine u_sfld mu1 (cl_Library T) (na_Library_pages T) (by show 0 < 1000; decide) fun G2 H2 s2 _ _ mu2 => ?_
  walk_at "w"
  rw [fi_Library_pages] at mu2
  have mp2 := s2.mu mp (by simpa using na)
  walk_at "w"
  refine w_dnew fun sd hsd => ?_
  obtain ⟨s3, ms⟩ := new s2.s sd hsd
  have nb : sd ≠ a := fun e => by
    rw [e, mu2.h] at hsd; cases hsd
  have nc : sd ≠ pd := fun e => by
    rw [e, mp2.h] at hsd; cases hsd
  generalize hH3 : upd H2 sd (.dK []) = H3 at *
  have : Cur G2 H3 := ⟨s3.s⟩
  walk_at "w"
  refine u_sfld (s3.mu mu2 List.not_mem_nil) (cl_Library T) (na_Library_sessions T) (by show 1 < 1000; decide) fun G4 H4 s4 _ _ mu4 => ?_
  walk_at "w"
  rw [fi_Library_sessions] at mu4
  have mp4 := s4.mu (s3.mu mp2 List.not_mem_nil) (by simpa using na)
  have ms4 := s4.mu ms (by simpa using nb)
  walk_at "w"
  refine w_dnew fun rd hrd => ?_
  obtain ⟨s5, mr⟩ := new s4.s rd hrd
  have nd : rd ≠ a := fun e => by
    rw [e, mu4.h] at hrd; cases hrd
  have ne : rd ≠ pd := fun e => by
    rw [e, mp4.h] at hrd; cases hrd
  have nf : rd ≠ sd := fun e => by
    rw [e, ms4.h] at hrd; cases hrd
  generalize hH5 : upd H4 rd (.dK []) = H5 at *
  have : Cur G4 H5 := ⟨s5.s⟩
  walk_at "w"
  refine u_sfld (s5.mu mu4 List.not_mem_nil) (cl_Library T) (na_Library_rows T) (by show 2 < 1000; decide) fun G6 H6 s6 _ _ mu6 => ?_
  walk_at "w"
  rw [fi_Library_rows] at mu6
  refine (kk pd sd rd).go ((s1.nil.trans s2).trans ((s3.nil.trans s4).trans (s5.nil.trans s6))) mu6 (s6.mu (s5.mu mp4 List.not_mem_nil) (by simpa using na)) (s6.mu (s5.mu ms4 List.not_mem_nil) (by simpa using nb)) (s6.mu mr (by simpa using nd)) nc.symm ne.symm nf.symm na nb nd
theorem has_Library_create (T : Txt K mg) : Has P w K mg base (XC P w) 12 ("Library", some "create") ["self", "given"] (spCreate K) := by
  refine mk_has (d := d_Library_create) T 72 rfl rfl rfl sc_Library_create (fun _ _ _ _ _ _ us hl => match us, hl with | [_, _], _ => rfl) (fun vs H Q E h => h.1) (fun cdv A outer s H vs Q E hr h => ?_)
  refine ⟨_, (pss_cons (ps_set (i := 2) sc_Library_create.nd rfl (Or.inl rfl) (pe_and (pe_cmpR op_eq (pe_ix ix_tup (pe_ix ix_list (pv 1) pe_int (fun _ _ => rfl)) pe_int (fun _ _ => rfl)) (pgi (gi_TEXT T) rfl) (nomark _)) (pe_one (pe_cmpR op_le (pe_callB c_len (by rfl) (fr_len T) PySem.boot_len (pa_cons (pe_ix ix_tup (pe_ix ix_list (pv 1) pe_int (fun _ _ => rfl)) pe_int (fun _ _ => rfl)) pa_nil)) (pgi (gi_MOST_TEXT T) rfl) (nomark _)))))
 (pss_cons (ps_expr (pcall (has_wrong_kind T) (hr.mono (by omega)) rfl (gl_wrong_kind T) (L2N.passes_call (L2N.takes_of rfl rfl rfl rfl) (fun _ _ _ _ h => h)) (pa_cons (pe_not (pv 2)) (pa_cons pe_str pa_nil))))
 (pss_cons (ps_asg (pcall (has_read_page T) (hr.mono (by omega)) rfl (gl_read_page T) pass0 (pa_cons (pe_ix ix_tup (pe_ix ix_list (pv 1) pe_int (fun _ _ => rfl)) pe_int (fun _ _ => rfl)) pa_nil)) (pg_tup rfl (pgs_cons (pg_name (i := 3) sc_Library_create.nd rfl (Or.inl rfl)) (pgs_cons (pg_name (i := 4) sc_Library_create.nd rfl (Or.inl rfl)) pgs_nil))))
 (pss_cons (ps_if (pt_cmpR op_gt (pe_callB c_len (by rfl) (fr_len T) PySem.boot_len (pa_cons (pv 4) pa_nil)) pe_int (nomark _)) (pss_one (ps_ret (pcall (has_told_faults T) (hr.mono (by omega)) rfl (gl_told_faults T) pass0 (pa_cons (pv 4) pa_nil)))) pss_nil)
 (pss_cons (ps_expr (pcall (has_out_of_range T) (hr.mono (by omega)) rfl (gl_out_of_range T) (L2N.passes_call (L2N.takes_of rfl rfl rfl rfl) (fun _ _ _ _ h => h)) (pa_cons (pe_cmpR op_eq (pe_callB c_len (by rfl) (fr_len T) PySem.boot_len (pa_cons (pe_fld (pv 3) rfl) pa_nil)) pe_int (nomark _)) (pa_cons pe_str pa_nil))))
 (pss_cons (ps_dput (hu_of hr) (pe_fld (pv 0) rfl) (pe_ix ix_tup (pe_ix ix_list (pv 1) pe_int (fun _ _ => rfl)) pe_int (fun _ _ => rfl)) (pv 3) rfl)
 (pss_one (ps_ret (pgr (tg_NOTHING T) rfl))))))))), ?_⟩
  obtain ⟨_, G, A, gl, wd, n, c, rfl, cp⟩ := h
  obtain ⟨gs, m, hle, ⟨x0, x1, x2, ⟨v0, v1, v2, hgl, hv0, hv1, hv2⟩, hc⟩, hin, hwr, hq⟩ := cp
  have : Cur G H := ⟨gs⟩
  cases c <;> try (exact absurd hc.1 (by decide))
  rename_i k x
  obtain ⟨_, rfl, rfl⟩ := hc
  have hst : stepIn wd (.create k (Rust.taken x1)) = createIn wd k (textArg (Rust.taken x1)) := rfl
  have bad : textArg (Rust.taken x1) = .error (R7253f.Spec.typeErr "text must be a text of at most 1500 octets") → RfE K G H 1 "text must be a text of at most 1500 octets" E := fun h => hq.2 _ 1 _ (by rw [hst, h]; rfl) rfl (lit_uz _) (by decide +kernel)
  cases hv0 with
  | int ht0 => ?_
  walk_at "w"
  refine w_ixL (SqL.of (on hgl)) (atI_nat (j := 1) rfl) ?_
  walk_at "w"
  cases hv1 with
  | nothing ht =>
    refine w_ixT (onT ht) rfl ?_
    walk_at "w"
    refine iteF ?_
    walk_at "w"
    exact u_rf (fun h => absurd h (by decide)) (fun _ => bad rfl)
  | null ht =>
    refine w_ixT (onT ht) rfl ?_
    walk_at "w"
    refine iteF ?_
    walk_at "w"
    exact u_rf (fun h => absurd h (by decide)) (fun _ => bad rfl)
  | fls ht =>
    refine w_ixT (onT ht) rfl ?_
    walk_at "w"
    refine iteF ?_
    walk_at "w"
    exact u_rf (fun h => absurd h (by decide)) (fun _ => bad rfl)
  | tru ht =>
    refine w_ixT (onT ht) rfl ?_
    walk_at "w"
    refine iteF ?_
    walk_at "w"
    exact u_rf (fun h => absurd h (by decide)) (fun _ => bad rfl)
  | int ht =>
    refine w_ixT (onT ht) rfl ?_
    walk_at "w"
    refine iteF ?_
    walk_at "w"
    exact u_rf (fun h => absurd h (by decide)) (fun _ => bad rfl)
  | list ht _ _ =>
    refine w_ixT (onT ht) rfl ?_
    walk_at "w"
    refine iteF ?_
    walk_at "w"
    exact u_rf (fun h => absurd h (by decide)) (fun _ => bad rfl)
  | record ht _ _ =>
    refine w_ixT (onT ht) rfl ?_
    walk_at "w"
    refine iteF ?_
    walk_at "w"
    exact u_rf (fun h => absurd h (by decide)) (fun _ => bad rfl)
  | @text t q u ht hqt =>
    refine w_ixT (onT ht) rfl ?_
    walk_at "w"
    refine iteT ?_
    walk_at "w"
    refine w_ixL (SqL.of (on hgl)) (atI_nat (j := 1) rfl) ?_
    walk_at "w"
    refine w_ixT (onT ht) rfl ?_
    walk_at "w"
    refine u_lenT (onT hqt) ?_
    walk_at "w"
    rw [octs_len]
    refine u_rf (fun hb => ?_) (fun hb => ?_)
    rotate_left
    · have hb : ¬ u.length ≤ 1500 := by
        have := of_decide_eq_false (Bool.not_eq_true' _ |>.mp hb)
        omega
      refine bad ?_
      show orTypeError _ (if (u.map Rust.unitOf).length ≤ 1500 then some (u.map Rust.unitOf) else none) = _
      rw [if_neg (by rw [List.length_map]; exact hb)]; rfl
    have hb : u.length ≤ 1500 := by
      have := of_decide_eq_true (Bool.not_eq_false' _ |>.mp hb)
      omega
    have hta : textArg (Rust.taken (.text u)) = .ok (u.map Rust.unitOf) := by
      show orTypeError _ (if (u.map Rust.unitOf).length ≤ 1500 then some (u.map Rust.unitOf) else none) = _
      rw [if_pos (by rw [List.length_map]; exact hb)]; rfl
    rw [hta] at hst
    rw [hst] at hq
    walk_at "w"
    refine w_ixL (SqL.of (on hgl)) (atI_nat (j := 1) rfl) ?_
    walk_at "w"
    refine w_ixT (onT ht) rfl ?_
    walk_at "w"
    refine ⟨rfl, G, q, u.map Rust.unitOf, rfl, gs, by rw [un_octs]; exact hqt, by rw [List.length_map]; exact hb, fun t2 pa fl fs es G1 H1 s1 _ _ ht2 pg wf hfl hfs he hes hel => ?_⟩
    walk_at "w"
    refine u_gt (SqT.of (on (H := H1) ht2)) rfl ?_
    walk_at "w"
    refine u_lenL (SqL.of (on (H := H1) hfl)) ?_
    walk_at "w"
    rw [hfs.length]
    refine w_ite (fun hb2 => ?_) (fun hb2 => ?_)
    · have hb2 := of_decide_eq_true hb2
      walk_at "w"
      refine ⟨rfl, G1, fl, fs, es, rfl, s1.s, hfl, hfs, fun e h => (hes e h).1, hel, fun e h => (hes e h).2, fun v G2 H2 s2 _ _ hv => ?_⟩
      cases es with
      | nil => exact absurd hb2 (by decide)
      | cons e es =>
        rw [cr_err he] at hq
        exact hq.1 _ rfl v A G2 H2 (s1.trans s2).toL0 ((m.step (s1.trans s2)).more (Nat.le_succ n)) rfl (.inl hv)
    · have hb2 := of_decide_eq_false hb2
      cases es with
      | cons e es => exact absurd hb2 (by show ¬ ¬ (0 : Int) < ((es.length + 1 : Nat) : Int); omega)
      | nil =>
      have he : (readText (u.map Rust.unitOf)).2 = [] := he
      have ⟨pdx, tl, ol, dl, ll, ts, ls, ins, hp⟩ := pg
      walk_at "w"
      refine u_fld (on (H := H1) ins) (cl_Page T) (na_Page_things T) fl_Page_things ?_
      walk_at "w"
      refine u_lenL (s1.s.seq hp.t) ?_
      walk_at "w"
      rw [hp.it.length]
      refine u_rf (fun hb3 => ?_) (fun hb3 => ?_)
      rotate_left
      · have hb3 := V.int.inj (of_decide_eq_true hb3)
        rw [cr_no he (by rw [List.isEmpty_iff]; exact List.eq_nil_of_length_eq_zero (by omega))] at hq
        exact (hq.2 noItem 2 "the page has no item" rfl rfl (lit_uz _) (by decide +kernel)).step s1
      have hb3 := of_decide_eq_false hb3
      rw [cr_ok he (fun h => hb3 (by rw [List.isEmpty_iff.mp h]; rfl))] at hq
      walk_at "w"
      have m1 := m.step s1
      obtain ⟨pk, sk, rk, ⟨mp, ms, mr⟩, ⟨l1, l2, l3⟩, _⟩ := m1.x
      refine u_fld (s1.s _ _ m1.ins) (cl_Library T) (na_Library_pages T) fl_Library_pages ?_
      walk_at "w"
      refine w_ixL (SqL.of (s1.s _ _ (s1.g _ _ hgl))) (atI_nat (j := 0) rfl) ?_
      walk_at "w"
      refine w_ixT (Same.sqT (s1.g.trans s1.s) ht0) rfl ?_
      walk_at "w"
      refine u_dput (i := .inl (k : Nat)) mp (lst_le (by omega)) fun G2 H2 s2 _ _ mu2 => ?_
      walk_at "w"
      refine hq.1 _ rfl _ A G2 H2 (s1.toL0.trans (s2.toL1 mp (by intro xs e; cases e))) ?_ rfl (.inl (.nothing (tt_NOTHING T G2)))
      exact m1.putP mp.h s2 mu2 (pg.mono s2.g) wf
end
end Ck
namespace Ck
open PySem PySem.Spec PyProof.Rows L2
open He (ga ma fAd)
section
variable {P : Program} {w : World} {K : PySem.W.Frag} {mg : Str → Option Value} {base : Heap}
open R7253f.Spec (Units units rows start lastOf scenarioP scenariosFn lengthArg upTo stepIn inputOk slot put filled onSlot orTypeError Ans Call iterate iteratorP reply stateP)

theorem cut1 (v : V) (l : List V) : cutV (v :: l) (some 1) none = l := by
  unfold cutV
  have e : (1 : Int) = ((1 : Nat) : Int) := rfl
  rw [e, HT.sIx_nat, HT.sIx_none]
  have h : min 1 (v :: l).length = 1 := by rw [List.length_cons]; omega
  simp [h]
theorem has_Library_on_rows (T : Txt K mg) : Has P w K mg base (XC P w) 58 ("Library", some "on_rows") ["self", "door", "given"] (spLib K 5 7) := by
  refine mk_has (d := d_Library_on_rows) T 73 rfl rfl rfl sc_Library_on_rows (fun _ _ _ _ _ _ us hl => match us, hl with | [_, _, _], _ => rfl) (fun vs H Q E h => h.1) (fun cdv A outer s H vs Q E hr h => ?_)
  refine ⟨_, (pss_cons (ps_set (i := 3) sc_Library_on_rows.nd rfl (Or.inl rfl) (pe_ix ix_tup (pe_ix ix_list (pv 2) pe_int (fun _ _ => rfl)) pe_int (fun _ _ => rfl)))
 (pss_cons (ps_if (pt_cmpR op_eq (pv 1) pe_int (nomark _)) (pss_cons (ps_set (i := 4) sc_Library_on_rows.nd rfl (Or.inl rfl) (pe_dget (hu_of hr) (pe_fld (pv 0) rfl) (pe_ix ix_tup (pe_ix ix_list (pv 2) pe_int (fun _ _ => rfl)) pe_int (fun _ _ => rfl)) (fun _ _ => rfl)))
 (pss_cons (ps_set (i := 5) sc_Library_on_rows.nd rfl (Or.inl rfl) (pe_and (pe_cmpR op_eq (pe_ix ix_tup (pe_ix ix_list (pv 2) pe_int (fun _ _ => rfl)) pe_int (fun _ _ => rfl)) (pgi (gi_INTEGER T) rfl) (nomark _)) (pe_one (pe_chain op_le op_le pe_int (pe_ix ix_tup (pe_ix ix_list (pv 2) pe_int (fun _ _ => rfl)) pe_int (fun _ _ => rfl)) pe_int))))
 (pss_cons (ps_expr (pcall (has_wrong_kind T) (hr.mono (by omega)) rfl (gl_wrong_kind T) (L2N.passes_call (L2N.takes_of rfl rfl rfl rfl) (fun _ _ _ _ h => h)) (pa_cons (pe_not (pv 5)) (pa_cons pe_str pa_nil))))
 (pss_cons (ps_dput (hu_of hr) (pe_fld (pv 0) rfl) (pv 3) (pcall (has_scenarios T) (hr.mono (by omega)) rfl (gl_scenarios T) pass0 (pa_cons (pv 4) (pa_cons (pe_ix ix_tup (pe_ix ix_list (pv 2) pe_int (fun _ _ => rfl)) pe_int (fun _ _ => rfl)) pa_nil))) rfl)
 (pss_one (ps_ret (pgr (tg_NOTHING T) rfl))))))) pss_nil)
 (pss_cons (ps_if (pt_cmpR op_eq (pv 1) pe_int (nomark _)) (pss_cons (ps_dput (hu_of hr) (pe_fld (pv 0) rfl) (pv 3) (pe_lst pa_nil) rfl)
 (pss_one (ps_ret (pcall (has_told_step T) (hr.mono (by omega)) rfl (gl_told_step T) pass0 (pa_cons (pe_ix ix_list (pv 2) pe_int (fun _ _ => rfl)) (pa_cons pe_bl pa_nil)))))) pss_nil)
 (pss_cons (ps_if (pt_cmpR op_eq (pe_callB c_len (by rfl) (fr_len T) PySem.boot_len (pa_cons (pe_dget (hu_of hr) (pe_fld (pv 0) rfl) (pv 3) (fun _ _ => rfl)) pa_nil)) pe_int (nomark _)) (pss_one (ps_ret (pcall (has_told_step T) (hr.mono (by omega)) rfl (gl_told_step T) pass0 (pa_cons (pgr (tg_NOTHING T) rfl) (pa_cons pe_bl pa_nil))))) pss_nil)
 (pss_cons (ps_asg (pe_ix ix_list (pe_dget (hu_of hr) (pe_fld (pv 0) rfl) (pv 3) (fun _ _ => rfl)) pe_int (fun _ _ => rfl)) (pg_tup rfl (pgs_cons (pg_name (i := 6) sc_Library_on_rows.nd rfl (Or.inl rfl)) (pgs_cons (pg_name (i := 7) sc_Library_on_rows.nd rfl (Or.inr rfl)) pgs_nil))))
 (pss_cons (ps_dput (hu_of hr) (pe_fld (pv 0) rfl) (pv 3) (pe_slice sl_list (pe_dget (hu_of hr) (pe_fld (pv 0) rfl) (pv 3) (fun _ _ => rfl)) (po_some pe_int) po_none) rfl)
 (pss_cons (ps_set (i := 8) sc_Library_on_rows.nd rfl (Or.inl rfl) (pcall (has_listed T) (hr.mono (by omega)) rfl (gl_listed T) pass0 (pa_cons (pe_lc (own := [("item", 9)]) (g := gName 9) (tt := tYes) rfl sc_Library_on_rows.nd (pi_tup (pv 6)) (blkOk_by (N := N_Library_on_rows) (sc := defScope s_Library_on_rows) (by decide +kernel)) (fun _ _ _ _ _ => (pg_name (i := 9) sc_Library_on_rows.nd rfl (Or.inl rfl))) (fun _ _ _ _ _ => pts_nil) (fun _ _ _ _ _ => (re_e (pcall (has_told_name T) (hr.mono (by omega)) rfl (gl_told_name T) pass0 (pa_cons (pe_fld (pv 7) rfl) (pa_cons (pv 9) pa_nil))) (by walk_at "wk")))) pa_nil)))
 (pss_one (ps_ret (pcall (has_told_step T) (hr.mono (by omega)) rfl (gl_told_step T) pass0 (pa_cons (pcall (has_record T) (hr.mono (by omega)) rfl (gl_record T) pass0 (pa_cons (pe_lst (pa_cons (pe_tup (pa_cons pe_str (pa_cons (pv 8) pa_nil))) (pa_cons (pe_tup (pa_cons pe_str (pa_cons (pcall (has_told_state T) (hr.mono (by omega)) rfl (gl_told_state T) pass0 (pa_cons (pv 7) pa_nil)) pa_nil))) pa_nil))) pa_nil)) (pa_cons pe_bl pa_nil)))))))))))), ?_⟩
  obtain ⟨_, G, A, gl, door, wd, n, c, rfl, hlo, hhi, cp⟩ := h
  obtain ⟨gs, m, hle, ⟨x0, x1, x2, ⟨v0, v1, v2, hgl, hv0, hv1, hv2⟩, hc⟩, hin, hwr, hq⟩ := cp
  have : Cur G H := ⟨gs⟩
  obtain ⟨pk, sk, rk, ⟨mp, ms, mr⟩, ⟨l1, l2, l3⟩, hps, hss, hrs⟩ := m.x
  cases c <;> try (exact absurd hc.1 (by omega))
  case list t k x =>
    obtain ⟨rfl, rfl, rfl, rfl⟩ := hc
    obtain ⟨p, hp⟩ := filled_some (Bool.and_eq_true_iff.mp (Bool.and_eq_true_iff.mp hin).1).2
    obtain ⟨pa, hpv, pg, wf⟩ := hps k p hp
    have hst : stepIn wd (.list t k (Rust.taken x2)) = iterate wd t (scenariosFn p (Rust.taken x2)) := on_some hp
    have bad : lengthArg (Rust.taken x2) = .error (R7253f.Spec.typeErr "length must be an integer from 0 to 2") → RfE K G H 1 "length must be an integer from 0 to 2" E := fun h => hq.2 _ 1 _ (by rw [hst, sc_no h]; rfl) rfl (lit_uz _) (by decide +kernel)
    cases hv0 with
    | int ht0 => ?_
    cases hv1 with
    | int ht1 => ?_
    walk_at "w"
    refine w_ixL (SqL.of (on hgl)) (atI_nat (j := 0) rfl) ?_
    walk_at "w"
    refine w_ixT (onT ht0) rfl ?_
    walk_at "w"
    refine iteT ?_
    walk_at "w"
    refine u_fld (on m.ins) (cl_Library T) (na_Library_pages T) fl_Library_pages ?_
    walk_at "w"
    refine w_ixL (SqL.of (on hgl)) (atI_nat (j := 1) rfl) ?_
    walk_at "w"
    refine w_ixT (onT ht1) rfl ?_
    walk_at "w"
    refine u_dget (i := .inl (k : Nat)) mp.h hpv ?_
    walk_at "w"
    cases hv2 with
    | nothing ht =>
      refine w_ixL (SqL.of (on hgl)) (atI_nat (j := 2) rfl) ?_
      walk_at "w"
      refine w_ixT (onT ht) rfl ?_
      walk_at "w"
      refine iteF ?_
      walk_at "w"
      exact u_rf (fun h => absurd h (by decide)) (fun _ => bad rfl)
    | null ht =>
      refine w_ixL (SqL.of (on hgl)) (atI_nat (j := 2) rfl) ?_
      walk_at "w"
      refine w_ixT (onT ht) rfl ?_
      walk_at "w"
      refine iteF ?_
      walk_at "w"
      exact u_rf (fun h => absurd h (by decide)) (fun _ => bad rfl)
    | fls ht =>
      refine w_ixL (SqL.of (on hgl)) (atI_nat (j := 2) rfl) ?_
      walk_at "w"
      refine w_ixT (onT ht) rfl ?_
      walk_at "w"
      refine iteF ?_
      walk_at "w"
      exact u_rf (fun h => absurd h (by decide)) (fun _ => bad rfl)
    | tru ht =>
      refine w_ixL (SqL.of (on hgl)) (atI_nat (j := 2) rfl) ?_
      walk_at "w"
      refine w_ixT (onT ht) rfl ?_
      walk_at "w"
      refine iteF ?_
      walk_at "w"
      exact u_rf (fun h => absurd h (by decide)) (fun _ => bad rfl)
    | text ht _ =>
      refine w_ixL (SqL.of (on hgl)) (atI_nat (j := 2) rfl) ?_
      walk_at "w"
      refine w_ixT (onT ht) rfl ?_
      walk_at "w"
      refine iteF ?_
      walk_at "w"
      exact u_rf (fun h => absurd h (by decide)) (fun _ => bad rfl)
    | list ht _ _ =>
      refine w_ixL (SqL.of (on hgl)) (atI_nat (j := 2) rfl) ?_
      walk_at "w"
      refine w_ixT (onT ht) rfl ?_
      walk_at "w"
      refine iteF ?_
      walk_at "w"
      exact u_rf (fun h => absurd h (by decide)) (fun _ => bad rfl)
    | record ht _ _ =>
      refine w_ixL (SqL.of (on hgl)) (atI_nat (j := 2) rfl) ?_
      walk_at "w"
      refine w_ixT (onT ht) rfl ?_
      walk_at "w"
      refine iteF ?_
      walk_at "w"
      exact u_rf (fun h => absurd h (by decide)) (fun _ => bad rfl)
    | @int t2 i ht =>
      refine w_ixL (SqL.of (on hgl)) (atI_nat (j := 2) rfl) ?_
      walk_at "w"
      refine w_ixT (onT ht) rfl ?_
      walk_at "w"
      refine iteT ?_
      walk_at "w"
      refine w_ixL (SqL.of (on hgl)) (atI_nat (j := 2) rfl) ?_
      walk_at "w"
      refine w_ixT (onT ht) rfl ?_
      walk_at "w"
      refine w_ite (fun h0 => ?_) (fun h0 => ?_)
      rotate_left
      · have h0 := of_decide_eq_false h0
        walk_at "w"
        exact u_rf (fun h => absurd h (by decide)) (fun _ => bad (la_no fun h => h0 h.1))
      have h0 : 0 ≤ i := of_decide_eq_true h0
      obtain ⟨j, rfl⟩ : ∃ j : Nat, i = j := ⟨i.toNat, by omega⟩
      walk_at "w"
      refine u_rf (fun h2 => ?_) (fun h2 => ?_)
      rotate_left
      · have h2 := of_decide_eq_false (Bool.not_eq_true' _ |>.mp h2)
        exact bad (la_no fun h => h2 h.2)
      have h2 : (j : Int) ≤ 2 := of_decide_eq_true (Bool.not_eq_false' _ |>.mp h2)
      have hlo : lengthArg (Rust.taken (.int (j : Nat))) = .ok j := la_ok ⟨h0, h2⟩
      rw [sc_ok hlo] at hst
      rw [hst] at hq
      walk_at "w"
      refine w_ixL (SqL.of (on hgl)) (atI_nat (j := 2) rfl) ?_
      walk_at "w"
      refine w_ixT (onT ht) rfl ?_
      walk_at "w"
      refine ⟨rfl, G, pa, p, j, rfl, gs, pg, wf, by omega, fun q rv G1 H1 s1 _ _ hqq hrv => ?_⟩
      have m1 := m.step s1
      have mr1 := s1.mu mr List.not_mem_nil
      walk_at "w"
      refine u_fld (s1.s _ _ m1.ins) (cl_Library T) (na_Library_rows T) fl_Library_rows ?_
      walk_at "w"
      refine u_dput (i := .inl (t : Nat)) mr1 (lst_le (by omega)) fun G2 H2 s2 _ _ mu2 => ?_
      walk_at "w"
      refine hq.1 _ rfl _ A G2 H2 (s1.toL0.trans (s2.toL1 mr1 (by intro xs e; cases e))) ?_ rfl (.inl (.nothing (tt_NOTHING T G2)))
      refine m1.putR mr1.h s2 mu2 (s2.g _ _ hqq) (.inr ⟨_, pa, p, Paired.mapP hrv fun _ _ => RowA.mono s2.g, rfl, pg.mono (s1.g.trans s2.g), wf, fun u hu => ?_⟩)
      obtain ⟨r1, r2⟩ := rows_mem hu
      exact ⟨by omega, r2⟩
  case next t =>
    obtain ⟨rfl, rfl⟩ := hc
    obtain ⟨l, hl⟩ := filled_some hin
    obtain ⟨ra, rv, hrv, hra, hrw⟩ := hrs t l hl
    have hst := on_some (w := wd) (f := fun l => (match l with
      | [] => reply wd (iteratorP .undef true)
      | x :: r => ({ wd with iterators := put wd.iterators t r }, .ret (iteratorP x false)))) hl
    have hst : stepIn wd (.next t) = _ := hst
    rw [hst] at hq
    cases hv0 with
    | int ht0 => ?_
    walk_at "w"
    refine w_ixL (SqL.of (on hgl)) (atI_nat (j := 0) rfl) ?_
    walk_at "w"
    refine w_ixT (onT ht0) rfl ?_
    walk_at "w"
    refine iteF ?_
    walk_at "w"
    refine iteF ?_
    walk_at "w"
    refine u_fld (on m.ins) (cl_Library T) (na_Library_rows T) fl_Library_rows ?_
    walk_at "w"
    refine u_dget (i := .inl (t : Nat)) mr.h hrv ?_
    walk_at "w"
    refine u_lenL (SqL.of (on hra)) ?_
    walk_at "w"
    have hcase : (rv = [] ∧ l = []) ∨ ∃ v rv' u us pa p, rv = v :: rv' ∧ RowA K G pa p v u ∧ Paired (RowA K G pa p) rv' us ∧ l = scenarioP p u :: us.map (scenarioP p) ∧ PgH K G pa p ∧ PgW p ∧ ∀ z ∈ u :: us, z.length ≤ 3 ∧ ∀ j ∈ z, j < p.items.length := by
      rcases hrw with h | ⟨us, pa, p, h1, h2, h3, h4, h5⟩
      · exact .inl h
      · cases h1 with
        | nil => exact .inl ⟨rfl, h2⟩
        | cons a b => exact .inr ⟨_, _, _, _, pa, p, rfl, a, b, h2, h3, h4, h5⟩
    rcases hcase with ⟨rfl, rfl⟩ | ⟨v, rv', u, us, pa, p, rfl, hu, hus, rfl, pg, wf, hlt⟩
    · refine iteT ?_
      walk_at "w"
      refine u_tStep (.nothing (tt_NOTHING T G)) fun v1 G1 H1 s1 _ _ hv => ?_
      have hok := hq.1 (iteratorP .undef true) rfl v1 A G1 H1 s1.toL0 ((m.step s1).more (Nat.le_succ n)) rfl
      rw [g_iter] at hok
      exact hok (.inl hv)
    rw [show decide (V.int ((v :: rv').length : Nat) = V.int 0) = false from decide_eq_false fun z => by have := V.int.inj z; rw [List.length_cons] at this; omega]
    obtain ⟨t1, c1, st1, rfl, ht1, hc1, hs1⟩ := hu
    have hul := (hlt u List.mem_cons_self).1
    have huj := (hlt u List.mem_cons_self).2
    refine iteF ?_
    walk_at "w"
    refine u_fld (on m.ins) (cl_Library T) (na_Library_rows T) fl_Library_rows ?_
    walk_at "w"
    refine u_dget (i := .inl (t : Nat)) mr.h hrv ?_
    walk_at "w"
    refine w_ixL (SqL.of (on hra)) (atI_nat (j := 0) rfl) ?_
    walk_at "w"
    refine u_gt (onT ht1) rfl ?_
    walk_at "w"
    refine u_fld (on m.ins) (cl_Library T) (na_Library_rows T) fl_Library_rows ?_
    walk_at "w"
    refine u_dget (i := .inl (t : Nat)) mr.h hrv ?_
    walk_at "w"
    refine u_slL (SqL.of (on (H := H) hra)) fun q1 G1 H1 s1 _ _ hq1 => ?_
    walk_at "w"
    rw [cut1] at hq1
    have m1 := m.step s1
    have mr1 := s1.mu mr List.not_mem_nil
    refine u_fld (s1.s _ _ m1.ins) (cl_Library T) (na_Library_rows T) fl_Library_rows ?_
    walk_at "w"
    refine u_dput (i := .inl (t : Nat)) mr1 (lst_le (by omega)) fun G2 H2 s2 _ _ mu2 => ?_
    walk_at "w"
    have g02 := s1.g.trans s2.g
    have m2 := m1.putR mr1.h s2 mu2 (s2.g _ _ hq1) (.inr ⟨us, pa, p, Paired.mapP hus fun _ _ => RowA.mono g02, rfl, pg.mono g02, wf, fun z hz => hlt z (List.mem_cons_of_mem _ hz)⟩)
    have sL := s1.toL0.trans (s2.toL1 mr1 (by intro xs e; cases e))
    have pg2 := pg.mono g02
    have hs2 := hs1.mono g02
    refine u_iT (Same.sqT (g02.trans s2.s) hc1) ?_
    refine u_lcA (walk_tup (xs := natsV u)) (Yv := fun i v => (natsV u)[i]? = some v) (fun i H x H' h => h) (fun H' st => Same.sqT ((g02.trans s2.s).trans st) hc1) (by unfold natsV; rw [List.length_map]; omega) (fun i y G' => ∃ j, u[i]? = some j ∧ VA K G' y (tnV p (some j))) (fun _ _ _ _ s h => by
      obtain ⟨j, e, h⟩ := h
      exact ⟨j, e, VA.mono s _ _ h⟩) ?_ ?_ (fun _ _ _ _ h q => mg_name h q)
    · rintro i' y G3 H3 Qy hi' s3 _ _ hy ky
      obtain ⟨j, hj, rfl⟩ := nats_at hy
      have hs3 := hs2.mono s3.g
      have ⟨⟨dx, ol, dl, gl2, lg, wl, lv, h1, h2, h3, h4, h5, h6⟩, _, _⟩ := hs3
      have : Cur G3 H3 := ⟨s3.s⟩
      walk_at "w"
      refine u_fld (on (H := H3) h1) (cl_State T) (na_State_page T) fl_State_page ?_
      walk_at "w"
      refine u_tName (o := some j) (pg2.mono s3.g) wf (fun k h => by cases h; exact huj j (List.mem_of_getElem? hj)) fun v4 G4 H4 s4 _ _ hv4 => ?_
      exact ky _ _ _ s4 ⟨j, hj, hv4⟩
    intro q5 ys5 G5 H5 s5 _ _ hq5 mu5 hyl5 hys5
    have hlen5 : ys5.length = u.length := by rw [hyl5]; unfold natsV; rw [List.length_map]
    walk_at "w"
    refine u_listed mu5.sqL (by omega) (vas_pt (u.map fun i => tnV p (some i)) ys5 (by rw [List.length_map]; exact hlen5) fun i y x a b => ?_) fun v6 G6 H6 s6 _ _ hv6 => ?_
    walk_at "w"
    · obtain ⟨j, hj, hvj⟩ := hys5 i y a
      rw [List.getElem?_map, hj] at b
      rw [← Option.some.inj b]
      exact hvj
    walk_at "w"
    refine u_tup (by show 2 ≤ sizeLine; decide) fun t7 G7 H7 s7 _ _ ht7 => ?_
    walk_at "w"
    refine u_tState (hs2.mono ((s5.g.trans s6.g).trans s7.g)) wf fun v8 G8 H8 s8 _ _ hv8 => ?_
    walk_at "w"
    refine u_tup (by show 2 ≤ sizeLine; decide) fun t9 G9 H9 s9 _ _ ht9 => ?_
    walk_at "w"
    refine u_lstK (by show 2 ≤ sizeLine; decide) fun qa Ga Ha sa _ _ hqa => ?_
    walk_at "w"
    have prs := PRs.app (pr1 (SqT.of (((s8.g.trans s9.g).trans sa.g) _ _ ht7)) (show strV "clicks" = octs (uo (units "clicks")) by decide +kernel) (VA.mono (((s7.g.trans s8.g).trans s9.g).trans sa.g) _ _ hv6)) (pr1 (SqT.of (sa.g _ _ ht9)) (show strV "state" = octs (uo (units "state")) by decide +kernel) (VA.mono (s9.g.trans sa.g) _ _ hv8))
    refine u_record (SqL.of (on (H := Ha) hqa)) (by show 2 ≤ 1000; omega) prs (lens4 (us := [uo (units "clicks"), uo (units "state")]) rfl (by decide +kernel)) fun vb Gb Hb sb _ _ hvb => ?_
    walk_at "w"
    refine u_tStep hvb fun vc Gc Hc sc _ _ hvc => ?_
    have s2c := ((((((s5.trans s6).trans s7).trans s8).trans s9).trans sa).trans sb).trans sc
    have hok := hq.1 (iteratorP (scenarioP p u) false) rfl vc A Gc Hc (sL.trans s2c.toL0) (m2.step s2c) rfl
    rw [g_iter, g_scen] at hok
    exact hok (.inl hvc)
  case return1 t x =>
    obtain ⟨rfl, rfl, rfl⟩ := hc
    obtain ⟨l, hl⟩ := filled_some (Bool.and_eq_true_iff.mp hin).1
    have hst : stepIn wd (.return1 t (Rust.taken x1)) = ({ wd with iterators := put wd.iterators t [] }, .ret (iteratorP (Rust.taken x1) true)) := on_some hl
    rw [hst] at hq
    cases hv0 with
    | int ht0 => ?_
    walk_at "w"
    refine w_ixL (SqL.of (on hgl)) (atI_nat (j := 0) rfl) ?_
    walk_at "w"
    refine w_ixT (onT ht0) rfl ?_
    walk_at "w"
    refine iteF ?_
    walk_at "w"
    refine iteT ?_
    walk_at "w"
    refine u_lstK (Nat.zero_le _) fun q1 G1 H1 s1 _ _ hq1 => ?_
    walk_at "w"
    have m1 := m.step s1
    have mr1 := s1.mu mr List.not_mem_nil
    refine u_fld (s1.s _ _ m1.ins) (cl_Library T) (na_Library_rows T) fl_Library_rows ?_
    walk_at "w"
    refine u_dput (i := .inl (t : Nat)) mr1 (lst_le (by omega)) fun G2 H2 s2 _ _ mu2 => ?_
    walk_at "w"
    have m2 := m1.putR mr1.h s2 mu2 (s2.g _ _ hq1) (.inl ⟨rfl, rfl⟩)
    refine w_ixL (SqL.of (s2.s _ _ (s2.g _ _ (s1.g _ _ hgl)))) (atI_nat (j := 1) rfl) ?_
    walk_at "w"
    refine u_tStep (VA.mono (s1.g.trans s2.g) _ _ hv1) fun v1 G3 H3 s3 _ _ hv => ?_
    have hok := hq.1 _ rfl v1 A G3 H3 ((s1.toL0.trans (s2.toL1 mr1 (by intro xs e; cases e))).trans s3.toL0) (m2.step s3) rfl
    rw [g_iter, gt _ _ hv1] at hok
    exact hok (.inl hv)
end
end Ck
namespace Ck
open PySem PySem.Spec PyProof.Rows L2
open He (ga ma fAd)
section
variable {P : Program} {w : World} {K : PySem.W.Frag} {mg : Str → Option Value} {base : Heap}
open R7253f.Spec (Units units rows start lastOf scenarioP stepIn inputOk slot put filled onSlot Ans Call reply stateP readP store clickFn current undo logP userClick itemArg readIn itemNames require tooMany Session bindResult)

section
variable {K : PySem.W.Frag} {F : List Addr} {G H G' H' : Hp} {A : LibA} {wd : SWld} {n : Nat} {pk sk rk kvs : List (Key × V)} {ss : Nat → Addr}
theorem SeM.mu {a dx pa : Addr} {p : SPage} {u : List Nat} (h : SeM K G H a dx pa p u) : ∃ sl, Mu G H a (.ins (ga K "Session") dx (FSession (.ref pa) (.ref sl))) := by
  obtain ⟨⟨sl, sv, x1, _⟩, _⟩ := h
  exact ⟨sl, x1⟩
theorem LibM.ses {i : Nat} {r0 r : Session} {dx pa : Addr} (h : LibM K G H A wd n) (e : slot wd.runs i = some r0) (st : Stp [A.ss i] G H G' H') (se : SeM K G' H' (A.ss i) dx pa r.page r.clicks) : LibM K G' H' A { wd with runs := put wd.runs i r } n := by
  obtain ⟨ins, ⟨pk, sk, rk, ⟨m1, m2, m3⟩, ls, h1, h2, h3⟩, n1, n2, n3⟩ := h
  obtain ⟨dx0, pa0, hv0, se0⟩ := h2.1 i r0 e
  obtain ⟨sl0, mu0⟩ := se0.mu
  have nk : ∀ {b : Addr} {kv : List (Key × V)}, Mu G H b (.dK kv) → b ∉ [A.ss i] := fun m hm => by
    rw [List.mem_singleton.mp hm] at m
    have e := mu0.h
    rw [m.h] at e
    cases e
  refine ⟨st.g _ _ ins, ⟨pk, sk, rk, ⟨st.mu m1 (nk m1), st.mu m2 (nk m2), st.mu m3 (nk m3)⟩, ls, h1.mono st.g, ⟨fun j q ej => ?_, fun j k q t ej ek hjk => ?_⟩, h3.mono st.g⟩, n1, n2, n3⟩
  · rcases slot_put ej with ⟨rfl, rfl⟩ | ⟨hne, ej⟩
    · exact ⟨dx, pa, hv0, se⟩
    · obtain ⟨dx1, pa1, hv1, se1⟩ := h2.1 j q ej
      exact ⟨dx1, pa1, hv1, se1.step st (by
        intro hm
        exact h2.2 j i q r0 ej e hne (List.mem_singleton.mp hm))⟩
  · have old : ∀ {j : Nat} {q : Session}, slot (put wd.runs i r) j = some q → ∃ q', slot wd.runs j = some q' := fun ej => by
      rcases slot_put ej with ⟨rfl, rfl⟩ | ⟨hne, ej⟩
      · exact ⟨_, e⟩
      · exact ⟨_, ej⟩
    obtain ⟨q1, e1⟩ := old ej
    obtain ⟨q2, e2⟩ := old ek
    exact h2.2 j k q1 q2 e1 e2 hjk
/-- the library with one more session -/
def LibA.withS (A : LibA) (i : Nat) (x : Addr) : LibA := { A with ss := fun j => if j = i then x else A.ss j }
theorem LibM.newS {i : Nat} {r : Session} {x dx pa : Addr} (h : LibM K G H A wd n) (e : H A.sd = some (.dK sk)) (hx : ∀ j r, slot wd.runs j = some r → A.ss j ≠ x) (se : SeM K G H x dx pa r.page r.clicks) (st : Stp [A.sd] G H G' H') (mu : Mu G' H' A.sd (.dK (putK sk (.inl (i : Nat)) (.ref x)))) : LibM K G' H' (A.withS i x) { wd with runs := put wd.runs i r } (n + 1) := by
  obtain ⟨ins, ⟨pk, sk', rk, ⟨m1, m2, m3⟩, ⟨l1, l2, l3⟩, h1, h2, h3⟩, n1, n2, n3⟩ := h
  have : sk' = sk := by
    have z := m2.h
    rw [e] at z
    cases z; rfl
  subst this
  obtain ⟨sl0, mu0⟩ := se.mu
  have hxs : x ∉ [A.sd] := fun hm => by
    rw [List.mem_singleton.mp hm] at mu0
    have e := mu0.h
    rw [m2.h] at e
    cases e
  refine ⟨st.g _ _ ins, ⟨pk, _, rk, ⟨st.mu m1 (fun h => n1 (List.mem_singleton.mp h)), mu, st.mu m3 (fun h => n3 (List.mem_singleton.mp h).symm)⟩, ⟨by omega, ?_, by omega⟩, h1.mono st.g, ⟨fun j q ej => ?_, fun j k q t ej ek hjk => ?_⟩, h3.mono st.g⟩, n1, n2, n3⟩
  · have := length_putK sk' (.inl (i : Nat)) (V.ref x)
    omega
  · show ∃ dx pa, valV _ _ = some (.ref (if j = i then x else A.ss j)) ∧ SeM K G' H' (if j = i then x else A.ss j) dx pa q.page q.clicks
    rcases slot_put ej with ⟨rfl, rfl⟩ | ⟨hne, ej⟩
    · rw [if_pos rfl]
      exact ⟨dx, pa, val_put_eq, se.step st hxs⟩
    · rw [if_neg hne]
      obtain ⟨dx1, pa1, hv1, se1⟩ := h2.1 j q ej
      exact ⟨dx1, pa1, (val_put_ne hne).trans hv1, se1.step st (h2.ne m2 j q ej)⟩
  · show (if j = i then x else A.ss j) ≠ (if k = i then x else A.ss k)
    rcases slot_put ej with ⟨rfl, rfl⟩ | ⟨hne, ej2⟩
    · rcases slot_put ek with ⟨rfl, rfl⟩ | ⟨hne2, ek2⟩
      · exact absurd rfl hjk
      · rw [if_pos rfl, if_neg hne2]
        exact (hx k t ek2).symm
    · rcases slot_put ek with ⟨rfl, rfl⟩ | ⟨hne2, ek2⟩
      · rw [if_neg hne, if_pos rfl]
        exact hx j q ej2
      · rw [if_neg hne, if_neg hne2]
        exact h2.2 j k q t ej2 ek2 hjk
end
theorem click_ok {r : Session} {x : PlainV} {i : Nat} (h : readIn (itemNames r.page) x = some i) (hl : r.clicks.length < 100) : clickFn r x = .ok ({ r with clicks := r.clicks ++ [i] }, logP r.page (userClick r.page (current r).1 i).2) := by
  unfold clickFn itemArg
  rw [h]
  show bindResult (require (decide (r.clicks.length < 100)) tooMany) _ = _
  rw [decide_eq_true hl]; rfl
theorem click_full {r : Session} {x : PlainV} {i : Nat} (h : readIn (itemNames r.page) x = some i) (hl : ¬ r.clicks.length < 100) : clickFn r x = .error tooMany := by
  unfold clickFn itemArg
  rw [h]
  show bindResult (require (decide (r.clicks.length < 100)) tooMany) _ = _
  rw [decide_eq_false hl]; rfl
theorem click_no {r : Session} {x : PlainV} (h : readIn (itemNames r.page) x = none) : clickFn r x = .error (R7253f.Spec.rangeErr "no such item") := by
  unfold clickFn itemArg
  rw [h]; rfl
theorem undo_eq (r : Session) : undo r = ({ r with clicks := if r.clicks.isEmpty then r.clicks else r.clicks.dropLast }, !r.clicks.isEmpty) := by
  unfold undo
  cases h : r.clicks.isEmpty with
  | true => rfl
  | false => rfl
theorem has_Library_on_session (T : Txt K mg) : Has P w K mg base (XC P w) 58 ("Library", some "on_session") ["self", "door", "given"] (spLib K 8 11) := by
  refine mk_has (d := d_Library_on_session) T 74 rfl rfl rfl sc_Library_on_session (fun _ _ _ _ _ _ us hl => match us, hl with | [_, _, _], _ => rfl) (fun vs H Q E h => h.1) (fun cdv A outer s H vs Q E hr h => ?_)
  refine ⟨_, (pss_cons (ps_set (i := 3) sc_Library_on_session.nd rfl (Or.inl rfl) (pe_ix ix_tup (pe_ix ix_list (pv 2) pe_int (fun _ _ => rfl)) pe_int (fun _ _ => rfl)))
 (pss_cons (ps_if (pt_cmpR op_eq (pv 1) pe_int (nomark _)) (pss_cons (ps_dput (hu_of hr) (pe_fld (pv 0) rfl) (pv 3) (pmake (has_Session_init T) (mk_Session T) (hr.mono (by omega)) rfl (gl_Session T) pass0 (pa_cons (pe_dget (hu_of hr) (pe_fld (pv 0) rfl) (pe_ix ix_tup (pe_ix ix_list (pv 2) pe_int (fun _ _ => rfl)) pe_int (fun _ _ => rfl)) (fun _ _ => rfl)) pa_nil)) rfl)
 (pss_one (ps_ret (pgr (tg_NOTHING T) rfl)))) pss_nil)
 (pss_cons (ps_set (i := 4) sc_Library_on_session.nd rfl (Or.inl rfl) (pe_dget (hu_of hr) (pe_fld (pv 0) rfl) (pv 3) (fun _ _ => rfl)))
 (pss_cons (ps_if (pt_cmpR op_eq (pv 1) pe_int (nomark _)) (pss_one (ps_ret (pcall (has_truth T) (hr.mono (by omega)) rfl (gl_truth T) pass0 (pa_cons (pmeth0 (pv 4) (cl_Session T) (me_Session_undo T) (has_Session_undo T) (hr.mono (by omega)) pass0) pa_nil)))) pss_nil)
 (pss_cons (ps_if (pt_cmpR op_eq (pv 1) pe_int (nomark _)) (pss_one (ps_ret (pcall (has_told_state T) (hr.mono (by omega)) rfl (gl_told_state T) pass0 (pa_cons (pmeth0 (pv 4) (cl_Session T) (me_Session_now T) (has_Session_now T) (hr.mono (by omega)) pass0) pa_nil)))) pss_nil)
 (pss_cons (ps_set (i := 5) sc_Library_on_session.nd rfl (Or.inl rfl) (pcall (has_item_of T) (hr.mono (by omega)) rfl (gl_item_of T) (L2N.passes_call (L2N.takes_of rfl rfl rfl rfl) (fun _ _ _ _ h => h)) (pa_cons (pe_fld (pv 4) rfl) (pa_cons (pe_ix ix_list (pv 2) pe_int (fun _ _ => rfl)) pa_nil))))
 (pss_cons (ps_expr (pcall (has_out_of_range T) (hr.mono (by omega)) rfl (gl_out_of_range T) (L2N.passes_call (L2N.takes_of rfl rfl rfl rfl) (fun _ _ _ _ h => h)) (pa_cons (pe_cmpR op_eq (pmeth0 (pv 4) (cl_Session T) (me_Session_many T) (has_Session_many T) (hr.mono (by omega)) pass0) (pgi (gi_MOST_SESSION T) rfl) (nomark _)) (pa_cons pe_str pa_nil))))
 (pss_one (ps_ret (pcall (has_told_log T) (hr.mono (by omega)) rfl (gl_told_log T) pass0 (pa_cons (pe_fld (pv 4) rfl) (pa_cons (pmeth (pv 4) (cl_Session T) (me_Session_press T) (has_Session_press T) (hr.mono (by omega)) pass0 (pa_cons (pv 5) pa_nil)) pa_nil)))))))))))), ?_⟩
  obtain ⟨_, G, A, gl, door, wd, n, c, rfl, hlo, hhi, cp⟩ := h
  obtain ⟨gs, m, hle, ⟨x0, x1, x2, ⟨v0, v1, v2, hgl, hv0, hv1, hv2⟩, hc⟩, hin, hwr, hq⟩ := cp
  have : Cur G H := ⟨gs⟩
  obtain ⟨pk, sk, rk, ⟨mp, ms, mr⟩, ⟨l1, l2, l3⟩, hps, hss, hrs⟩ := m.x
  cases c <;> try (exact absurd hc.1 (by omega))
  case begin r k =>
    obtain ⟨rfl, rfl, rfl⟩ := hc
    obtain ⟨p, hp⟩ := filled_some (Bool.and_eq_true_iff.mp hin).2
    obtain ⟨pa, hpv, pg, wf⟩ := hps k p hp
    have hst : stepIn wd (.begin r k) = ({ wd with runs := put wd.runs r ⟨p, []⟩ }, .ret .undef) := on_some hp
    rw [hst] at hq
    cases hv0 with
    | int ht0 => ?_
    cases hv1 with
    | int ht1 => ?_
    walk_at "w"
    refine w_ixL (SqL.of (on hgl)) (atI_nat (j := 0) rfl) ?_
    walk_at "w"
    refine w_ixT (onT ht0) rfl ?_
    walk_at "w"
    refine iteT ?_
    walk_at "w"
    refine u_fld (on m.ins) (cl_Library T) (na_Library_pages T) fl_Library_pages ?_
    walk_at "w"
    refine w_ixL (SqL.of (on hgl)) (atI_nat (j := 1) rfl) ?_
    walk_at "w"
    refine w_ixT (onT ht1) rfl ?_
    walk_at "w"
    refine u_dget (i := .inl (k : Nat)) mp.h hpv ?_
    walk_at "w"
    refine u_make fun x dx G1 H1 s1 _ _ hx mx => ?_
    walk_at "w"
    refine ⟨rfl, G1, x, dx, pa, p, rfl, s1.s, mx, pg.mono s1.g, wf, fun G2 H2 s2 _ _ se => ⟨rfl, ?_⟩⟩
    have s02 : Stp [] G H G2 H2 := (s1.nil.trans s2).drop hx
    have m2 := m.step s02
    have ms2 := s02.mu ms List.not_mem_nil
    walk_at "w"
    refine u_fld (s2.s _ _ m2.ins) (cl_Library T) (na_Library_sessions T) fl_Library_sessions ?_
    walk_at "w"
    refine u_dput (i := .inl (r : Nat)) ms2 (lst_le (by omega)) fun G3 H3 s3 _ _ mu3 => ?_
    walk_at "w"
    refine hq.1 _ rfl _ (A.withS r x) G3 H3 (s02.toL0.trans (s3.toL1 ms2 (by intro xs e; cases e))) ?_ rfl (.inl (.nothing (tt_NOTHING T G3)))
    refine m2.newS (r := ⟨p, []⟩) ms2.h (fun j q e => ?_) se s3 mu3
    intro e2
    obtain ⟨dx1, pa1, hv1, se1⟩ := hss.1 j q e
    obtain ⟨sl, mu⟩ := se1.mu
    rw [e2] at mu
    have e3 := mu.h
    rw [hx] at e3
    cases e3
  case tap r x =>
    obtain ⟨rfl, rfl, rfl⟩ := hc
    obtain ⟨⟨p, u⟩, hr⟩ := filled_some (Bool.and_eq_true_iff.mp hin).1
    obtain ⟨dx, pa, hsv, se⟩ := hss.1 r _ hr
    have hst : stepIn wd (.tap r (Rust.taken x1)) = store wd r (clickFn ⟨p, u⟩ (Rust.taken x1)) := on_some hr
    obtain ⟨sl, mse⟩ := se.mu
    cases hv0 with
    | int ht0 => ?_
    walk_at "w"
    refine w_ixL (SqL.of (on hgl)) (atI_nat (j := 0) rfl) ?_
    walk_at "w"
    refine w_ixT (onT ht0) rfl ?_
    walk_at "w"
    refine iteF ?_
    walk_at "w"
    refine u_fld (on m.ins) (cl_Library T) (na_Library_sessions T) fl_Library_sessions ?_
    walk_at "w"
    refine u_dget (i := .inl (r : Nat)) ms.h hsv ?_
    walk_at "w"
    refine iteF ?_
    walk_at "w"
    refine iteF ?_
    walk_at "w"
    refine u_fld mse.h (cl_Session T) (na_Session_page T) fl_Session_page ?_
    walk_at "w"
    refine w_ixL (SqL.of (on hgl)) (atI_nat (j := 1) rfl) ?_
    walk_at "w"
    refine u_itemOf se.pg se.wf hv1 (fun i hi => ?_) (fun hi => ?_)
    rotate_left
    · exact hq.2 _ 2 "no such item" (by rw [hst, click_no hi]; rfl) rfl (lit_uz _) (by decide +kernel)
    have hil : i < p.items.length := read_lt hi
    walk_at "w"
    refine u_mth mse.h fm_Session_many ?_
    walk_at "w"
    refine u_many se ?_
    walk_at "w"
    refine u_rf (fun hb => ?_) (fun hb => ?_)
    rotate_left
    · have hb := V.int.inj (of_decide_eq_true hb)
      have hb : ¬ u.length < 100 := by
        have hb : ((u.length : Nat) : Int) = 100 := hb
        omega
      exact hq.2 _ 2 "too many clicks" (by rw [hst, click_full (r := ⟨p, u⟩) hi hb]; rfl) rfl (lit_uz _) (by decide +kernel)
    have hb : u.length < 100 := by
      have hb := of_decide_eq_false hb
      have h1 := se.le
      have h2 : ¬ ((u.length : Nat) : Int) = 100 := fun e => hb (by show V.int ((u.length : Nat) : Int) = V.int 100; rw [e])
      have h1 : u.length ≤ 100 := h1
      omega
    rw [click_ok (r := ⟨p, u⟩) hi hb] at hst
    have hlen := (hwr (logP p (userClick p (current ⟨p, u⟩).1 i).2) (by rw [hst]; rfl)).1
    rw [hst] at hq
    walk_at "w"
    refine u_fld mse.h (cl_Session T) (na_Session_page T) fl_Session_page ?_
    walk_at "w"
    refine u_mth mse.h fm_Session_press ?_
    walk_at "w"
    refine ⟨rfl, G, A.ss r, dx, pa, p, u, i, rfl, gs, se, hil, hb, fun lg lv G1 H1 s1 _ _ se1 hlg hlv => ?_⟩
    have hll := Nat.le_trans (logP_le p _) hlen
    walk_at "w"
    refine u_tLog se1.pg se.wf hlg hlv (user_ok se.wf _ hil) (by have h : (userClick p (lastOf p (start p) u).1 i).2.length ≤ 65536 := hll; omega) fun v2 G2 H2 s2 _ _ hv2 => ?_
    exact hq.1 _ rfl v2 A G2 H2 ((s1.toL1 mse (by intro xs e; cases e)).trans s2.toL0) (((m.ses (r := ⟨p, u ++ [i]⟩) hr s1 se1).step s2).more (Nat.le_succ n)) rfl (.inl hv2)
  case undo r =>
    obtain ⟨rfl, rfl⟩ := hc
    obtain ⟨⟨p, u⟩, hr⟩ := filled_some hin
    obtain ⟨dx, pa, hsv, se⟩ := hss.1 r _ hr
    have hst : stepIn wd (.undo r) = ({ wd with runs := put wd.runs r (undo ⟨p, u⟩).1 }, .ret (.bool (undo ⟨p, u⟩).2)) := on_some hr
    rw [undo_eq] at hst
    rw [hst] at hq
    obtain ⟨sl, mse⟩ := se.mu
    cases hv0 with
    | int ht0 => ?_
    walk_at "w"
    refine w_ixL (SqL.of (on hgl)) (atI_nat (j := 0) rfl) ?_
    walk_at "w"
    refine w_ixT (onT ht0) rfl ?_
    walk_at "w"
    refine iteF ?_
    walk_at "w"
    refine u_fld (on m.ins) (cl_Library T) (na_Library_sessions T) fl_Library_sessions ?_
    walk_at "w"
    refine u_dget (i := .inl (r : Nat)) ms.h hsv ?_
    walk_at "w"
    refine iteT ?_
    walk_at "w"
    refine u_mth mse.h fm_Session_undo ?_
    walk_at "w"
    refine ⟨rfl, G, A.ss r, dx, pa, p, u, rfl, gs, se, fun G1 H1 s1 _ _ se1 => ?_⟩
    walk_at "w"
    refine u_truth fun v hv => ?_
    exact hq.1 _ rfl v A G1 H1 (s1.toL1 mse (by intro xs e; cases e)) ((m.ses (r := ⟨p, if u.isEmpty then u else u.dropLast⟩) hr s1 se1).more (Nat.le_succ n)) rfl (.inl (hv G1))
  case read r =>
    obtain ⟨rfl, rfl⟩ := hc
    obtain ⟨⟨p, u⟩, hr⟩ := filled_some hin
    obtain ⟨dx, pa, hsv, se⟩ := hss.1 r _ hr
    have hst : stepIn wd (.read r) = (wd, .ret (readP ⟨p, u⟩)) := on_some hr
    rw [hst] at hq
    obtain ⟨sl, mse⟩ := se.mu
    cases hv0 with
    | int ht0 => ?_
    walk_at "w"
    refine w_ixL (SqL.of (on hgl)) (atI_nat (j := 0) rfl) ?_
    walk_at "w"
    refine w_ixT (onT ht0) rfl ?_
    walk_at "w"
    refine iteF ?_
    walk_at "w"
    refine u_fld (on m.ins) (cl_Library T) (na_Library_sessions T) fl_Library_sessions ?_
    walk_at "w"
    refine u_dget (i := .inl (r : Nat)) ms.h hsv ?_
    walk_at "w"
    refine iteF ?_
    walk_at "w"
    refine iteT ?_
    walk_at "w"
    refine u_mth mse.h fm_Session_now ?_
    walk_at "w"
    refine u_now se fun b sf => ?_
    walk_at "w"
    refine u_tState sf se.wf fun v G1 H1 s1 _ _ hv => ?_
    exact hq.1 _ rfl v A G1 H1 s1.toL0 ((m.step s1).more (Nat.le_succ n)) rfl (.inl hv)
theorem has_Library_call (T : Txt K mg) : Has P w K mg base (XC P w) 59 ("Library", some "call") ["self", "door", "given"] (spLib K 0 11) := by
  refine mk_has (d := d_Library_call) T 75 rfl rfl rfl sc_Library_call (fun _ _ _ _ _ _ us hl => match us, hl with | [_, _, _], _ => rfl) (fun vs H Q E h => h.1) (fun cdv A outer s H vs Q E hr h => ?_)
  refine ⟨_, (pss_cons (ps_if (pt_cmpR op_eq (pv 1) pe_int (nomark _)) (pss_one (ps_ret (pmeth (pv 0) (cl_Library T) (me_Library_create T) (has_Library_create T) (hr.mono (by omega)) (L2N.passes_call (L2N.takes_of rfl rfl rfl rfl) (fun _ _ _ _ h => h)) (pa_cons (pv 2) pa_nil)))) pss_nil)
 (pss_cons (ps_if (pt_cmpR op_lt (pv 1) pe_int (nomark _)) (pss_one (ps_ret (pcall (has_on_page T) (hr.mono (by omega)) rfl (gl_on_page T) (L2N.passes_call (L2N.takes_of rfl rfl rfl rfl) (fun _ _ _ _ h => h)) (pa_cons (pe_dget (hu_of hr) (pe_fld (pv 0) rfl) (pe_ix ix_tup (pe_ix ix_list (pv 2) pe_int (fun _ _ => rfl)) pe_int (fun _ _ => rfl)) (fun _ _ => rfl)) (pa_cons (pv 1) (pa_cons (pv 2) pa_nil)))))) pss_nil)
 (pss_one (ps_ret (pe_ifExp (pt_cmpR op_lt (pv 1) pe_int (nomark _)) (pmeth (pv 0) (cl_Library T) (me_Library_on_rows T) (has_Library_on_rows T) (hr.mono (by omega)) (L2N.passes_call (L2N.takes_of rfl rfl rfl rfl) (fun _ _ _ _ h => h)) (pa_cons (pv 1) (pa_cons (pv 2) pa_nil))) (pmeth (pv 0) (cl_Library T) (me_Library_on_session T) (has_Library_on_session T) (hr.mono (by omega)) (L2N.passes_call (L2N.takes_of rfl rfl rfl rfl) (fun _ _ _ _ h => h)) (pa_cons (pv 1) (pa_cons (pv 2) pa_nil)))))))), ?_⟩
  obtain ⟨_, G, A, gl, door, wd, n, c, rfl, hlo, hhi, cp⟩ := h
  obtain ⟨gs, m, hle, ⟨x0, x1, x2, ⟨v0, v1, v2, hgl, hv0, hv1, hv2⟩, hc⟩, hin, hwr, hq⟩ := id cp
  have : Cur G H := ⟨gs⟩
  obtain ⟨pk, sk, rk, ⟨mp, ms, mr⟩, ⟨l1, l2, l3⟩, hps, hss, hrs⟩ := m.x
  by_cases h0 : door = 0
  · subst h0
    walk_at "w"
    refine iteT ?_
    walk_at "w"
    refine u_mth (on (H := H) m.ins) fm_Library_create ?_
    walk_at "w"
    exact ⟨rfl, G, A, gl, wd, n, c, rfl, cp⟩
  have e0 : decide (V.int (door : Nat) = V.int 0) = false := decide_eq_false fun z => h0 (by have := V.int.inj z; omega)
  walk_at "w"
  rw [e0]
  refine iteF ?_
  walk_at "w"
  by_cases h5 : door < 5
  · have e5 : decide ((door : Int) < 5) = true := decide_eq_true (by omega)
    have hk : ∃ (k : Nat) (p : SPage), x0 = .int (k : Nat) ∧ slot wd.pages k = some p ∧ stepIn wd c = (wd, R7253f.Spec.toAns (pageRes p door x1 x2)) := by
      cases c <;> try (exact absurd hc.1 (by omega))
      case print k =>
        obtain ⟨rfl, rfl⟩ := hc
        obtain ⟨p, hp⟩ := filled_some hin
        exact ⟨k, p, rfl, hp, on_some hp⟩
      case items k =>
        obtain ⟨rfl, rfl⟩ := hc
        obtain ⟨p, hp⟩ := filled_some hin
        exact ⟨k, p, rfl, hp, on_some hp⟩
      case first k x y =>
        obtain ⟨rfl, rfl, rfl, rfl⟩ := hc
        obtain ⟨p, hp⟩ := filled_some (Bool.and_eq_true_iff.mp hin).1
        exact ⟨k, p, rfl, hp, on_some hp⟩
      case simulate k x =>
        obtain ⟨rfl, rfl, rfl⟩ := hc
        obtain ⟨p, hp⟩ := filled_some (Bool.and_eq_true_iff.mp hin).1
        exact ⟨k, p, rfl, hp, on_some hp⟩
    obtain ⟨k, p, rfl, hp, hst⟩ := hk
    obtain ⟨pa, hpv, pg, wf⟩ := hps k p hp
    cases hv0 with
    | int ht0 => ?_
    rw [e5]
    refine iteT ?_
    walk_at "w"
    refine u_fld (on (H := H) m.ins) (cl_Library T) (na_Library_pages T) fl_Library_pages ?_
    walk_at "w"
    refine w_ixL (SqL.of (on (H := H) hgl)) (atI_nat (j := 0) rfl) ?_
    walk_at "w"
    refine w_ixT (onT (H := H) ht0) rfl ?_
    walk_at "w"
    refine u_dget (i := .inl (k : Nat)) mp.h hpv ?_
    walk_at "w"
    rw [hst] at hq hwr
    refine ⟨rfl, G, pa, gl, p, door, _, v1, v2, x1, x2, rfl, gs, pg, wf, hgl, rfl, rfl, hv1, hv2, by omega, by omega, fun y e => hwr y (by rw [e]; rfl), fun x e v G1 H1 s1 _ _ hv => ?_, fun e o mm he h1 h2 h3 => hq.2 e o mm (by rw [he]; rfl) h1 h2 h3⟩
    exact hq.1 x (by rw [e]; rfl) v A G1 H1 s1.toL0 ((m.step s1).more (Nat.le_succ n)) rfl hv
  · have e5 : decide ((door : Int) < 5) = false := decide_eq_false (by omega)
    rw [e5]
    refine iteF ?_
    walk_at "w"
    refine w_ite (fun h8 => ?_) (fun h8 => ?_)
    · have h8 := of_decide_eq_true h8
      walk_at "w"
      refine u_mth (on (H := H) m.ins) fm_Library_on_rows ?_
      walk_at "w"
      exact ⟨rfl, G, A, gl, door, wd, n, c, rfl, by omega, by omega, cp⟩
    · have h8 := of_decide_eq_false h8
      walk_at "w"
      refine u_mth (on (H := H) m.ins) fm_Library_on_session ?_
      walk_at "w"
      exact ⟨rfl, G, A, gl, door, wd, n, c, rfl, by omega, by omega, cp⟩
end
end Ck
namespace Ck
open PySem PySem.Spec PyProof.Rows L2 HotX L2H
open He (ga ma fAd)
/-- a def that keeps its promise where an exception is handled -/
structure HasH (P : Program) (w : World) (K : PySem.W.Frag) (mg : Str → Option Value) (base : Heap) (k : Nat) (at_ : Str × Option Str) (ps : List Str) (sp : Sp) : Prop where
  ex : ∃ fd, FnH P w K mg base CX0 k (fAd K at_) fd ps sp ∧ Binds K fd ps []
  kp : PySem.W.keepIn K (.ref (fAd K at_)) = true
section
variable {P : Program} {w : World} {K : PySem.W.Frag} {mg : Str → Option Value} {base : Heap} {k : Nat} {ps N : List Str} {sp : Sp}
theorem mk_hasH {d : He.DefD} (T : Txt K mg) (i : Nat) (hd : fnL[i]? = some d) (e1 : d.dfl = []) (e2 : d.kwd = []) (S : FnScope N ps d.scope)
    (hb : ∀ (kV doc pm : Value) (an : Option Addr) (cdv ct : Value) (us : List Value), us.length = ps.length → bindArgs (PySem.W.fnOf d.name d.qual d.params d.body d.scope .none kV doc pm an cdv ct) ⟨us, []⟩ = pure (ps.zip us))
    (len : ∀ vs H Q E, sp vs H Q E → vs.length = ps.length)
    (hbody : ∀ (cdv : Value) (A : Around) (outer : List Env) (s : Shared) (H : Hp) (vs : List V) (Q : VK) (E : XK) (p : Addr × Obj), Hot1 A p → RoomH k (A.deeper (envOfC d.qual d.scope s.heap.objs.size (fAd K d.at_) cdv)) → sp vs H Q E →
      ∃ t, PSs (cxH CX0 P w K mg base N d.qual d.scope (fAd K d.at_) cdv A outer s H E p) d.body t ∧ t { nx := fun _ H' => Q .non H', rt := Q } (L2.start N vs) H) :
    HasH P w K mg base (k + 1) d.at_ ps sp := by
  obtain ⟨fd, F⟩ := T.fn d (List.mem_of_getElem? hd)
  have F' : FunD K d.name d.qual d.params d.body d.scope [] [] (fAd K d.at_) fd := by
    have a : d.dvs K = [] := by unfold He.DefD.dvs; rw [e1]; rfl
    have b : d.kws K = [] := by unfold He.DefD.kws; rw [e2]; rfl
    rw [a, b] at F
    exact F
  have B := F'.bindsN hb
  obtain ⟨oc, od, dV, kV, doc, pm, an, cdv, ct, osl, rfl, lk, hcd, _, _⟩ := F'.ex
  exact ⟨⟨_, fn_ofH lk hcd S len fun A outer s H vs Q E p hot hr h => hbody cdv A outer s H vs Q E p hot hr h, B⟩, F'.kp⟩
end
section
variable {X : Cx} {k : Nat} {x : Str} {q pos : Pos} {ps : List Str} {sp : Sp} {e : Expr} {es : List Expr} {t : TA}
theorem pcallH (h : HasH X.prog X.w X.K X.mg X.base k (x, none) ps sp) (hr : RoomH k X.A) (hc : HotC X) (hg : Gl X x) (hm : X.mg x = some (.ref (ga X.K x))) (ha : PA X (e :: es) t) (hdb : (x == ("__debug__" : Str)) = false := by decide)
    (he : starEach (e :: es) X.env = (false, eval e X.env) :: starEach es X.env := by rfl) (hpl : (backTo pos (starEach es X.env)).any (·.1) = false := by rfl) : PE X (.Call (.Name x q) (e :: es) [] pos) (tCallS sp (fun _ _ _ _ => False) t) := by
  obtain ⟨⟨fd, F, b⟩, kp⟩ := h
  exact pe_callH F hr hc hg hm kp b (fun _ _ _ _ _ _ _ h => h.elim) ha hdb he hpl
end
section
variable {σ : L2.St} {H : Hp} {Q : VK} {R : It → Hp → Prop} {te : TE} {sp : Sp} {E : L2.St → XK} {t : TA}
def iaR (v : V) (H : Hp) (R : It → Hp → Prop) : Prop := ∃ x, v = .str x ∧ x.cps.all (· < 128) = true ∧ R (Its x) H
theorem w_iA (k : te σ H fun x H1 => iaR x H1 R) : iAsc te σ H R := k
theorem u_iA {z : Str} (ha : z.cps.all (· < 128) = true) (k : R (Its z) H) : iaR (.str z) H R := ⟨z, rfl, ha, k⟩
theorem w_callS (k : t σ H fun vs H1 => sp vs H1 Q (E σ)) : tCallS sp E t σ H Q := k
end
def spCodesH : Sp := fun vs H Q _ => vs.length = 1 ∧ ∃ (G : Hp) (z : Str), vs = [.str z] ∧ Same G H ∧ z.cps.size ≤ 100000 ∧ z.cps.all (· < 128) = true ∧ ∀ p, Nxt [] G H fun G' H' => G' p = some (.tup (strV z)) → Q (.ref p) H'
end Ck
/-- one step of a reading; `walk_at "w"` goes on as far as it can -/
local macro_rules | `(tactic| walk_at "w1") => `(tactic| first
  | with_reducible refine Ck.w_var rfl ?_ | with_reducible refine Ck.w_c ?_ | with_reducible refine Ck.w_op ?_ | with_reducible refine Ck.w_fld ?_ | with_reducible refine Ck.w_cons ?_ | with_reducible refine Ck.w_nil ?_
  | with_reducible refine Ck.w_seq ?_ | with_reducible refine Ck.w_asg ?_ | with_reducible refine Ck.w_drop ?_ | with_reducible refine Ck.w_ret ?_ | with_reducible refine Ck.w_ifS ?_ | with_reducible refine Ck.w_next ?_
  | with_reducible refine Ck.w_i0 ?_ | with_reducible refine Ck.w_tT ?_ | with_reducible refine Ck.w_tB ?_ | with_reducible refine Ck.w_bl ?_ | with_reducible refine Ck.w_eq rfl ?_ | with_reducible refine Ck.w_ne rfl ?_
  | with_reducible refine Ck.w_call ?_ | with_reducible refine Ck.w_meth ?_ | with_reducible refine Ck.w_cb ?_ | with_reducible refine Ck.w_tup ?_ | with_reducible refine Ck.w_lst ?_ | with_reducible refine Ck.w_if ?_
  | with_reducible refine Ck.w_andV ?_ | with_reducible refine Ck.w_orV ?_ | with_reducible refine Ck.w_notV ?_ | with_reducible refine Ck.w_and ?_ | with_reducible refine Ck.w_or ?_ | with_reducible refine Ck.w_not ?_
  | with_reducible refine Ck.w_bm ?_ | with_reducible refine Ck.w_sfld ?_ | with_reducible refine Ck.w_make ?_ | with_reducible refine Ck.w_sl ?_ | with_reducible refine Ck.w_part ?_ | with_reducible refine Ck.w_pI ?_ | with_reducible refine Ck.w_noP ?_
  | with_reducible refine Ck.w_sub ?_ | with_reducible refine Ck.w_name ?_ | with_reducible refine Ck.w_gtup ?_ | with_reducible refine Ck.w_gcons ?_ | with_reducible refine Ck.w_gnil ?_ | with_reducible refine Ck.w_asgG ?_
  | with_reducible refine Ck.w_iL ?_ | with_reducible refine Ck.w_iT ?_ | with_reducible refine Ck.w_iR ?_ | with_reducible refine Ck.w_iS ?_ | with_reducible refine Ck.w_lc ?_ | with_reducible refine Ck.w_for ?_ | with_reducible refine Ck.w_un ?_
  | with_reducible refine Ck.w_xf ?_ | with_reducible refine Ck.w_chain ?_ | with_reducible refine Ck.w_rev ?_ | with_reducible refine Ck.w_dget ?_ | with_reducible refine Ck.w_dput ?_ | with_reducible refine Ck.w_methE ?_ | with_reducible refine Ck.w_mkO ?_ | with_reducible refine Ck.w_ost ?_ | with_reducible refine Ck.w_fAug ?_
  | with_reducible refine Ck.w_callS ?_ | with_reducible refine Ck.w_iA ?_ | with_reducible refine Ck.w_tt ?_ | with_reducible refine Ck.w_ff ?_ | (with_reducible refine And.intro rfl ?_))
local macro_rules | `(tactic| walk_at "w") => `(tactic| repeat walk_at "w1")

local macro_rules | `(tactic| walk_at "wk") => `(tactic| first | (dsimp only [L2.Cx.blk]; done) | (dsimp only [L2.Cx.blk]; exact rfl) | exact rfl)
local macro_rules | `(tactic| walk_at "wt") => `(tactic| first | (dsimp only [L2.Cx.tr, L2.Cx.suite]; done) | (dsimp only [L2.Cx.tr, L2.Cx.suite]; exact rfl) | exact rfl)
namespace Ck
open PySem PySem.Spec PyProof.Rows L2
open He (ga ma fAd)
section
variable {P : Program} {w : World} {K : PySem.W.Frag} {mg : Str → Option Value} {base : Heap}
open L2H
theorem hot_codes_of (T : Txt K mg) : HasH P w K mg base 1 ("codes_of", none) ["text"] spCodesH := by
  refine mk_hasH (d := d_codes_of) T 43 rfl rfl rfl sc_codes_of (fun _ _ _ _ _ _ us hl => match us, hl with | [_], _ => rfl) (fun vs H Q E h => h.1) (fun cdv A outer s H vs Q E p hot hr h => ?_)
  refine ⟨_, PSs.nox (pss_one (ps_ret (pe_callTy c_tuple (by rfl) (fr_tuple T) (by decide +kernel) (pa_cons (pe_lcHot (own := [("sign", 1)]) (g := gName 1) (⟨p, hot, List.mem_singleton.mpr rfl⟩ : HotC _) sc_codes_of.nd (pv 0) (blkOk_by (N := N_codes_of) (sc := defScope s_codes_of) (by decide +kernel)) (fun _ _ _ _ _ => (pg_name (i := 1) sc_codes_of.nd rfl (Or.inl rfl))) (fun _ _ _ _ _ => (re_e (pe_callB c_ord (by rfl) (fr_ord T) (by decide +kernel) (pa_cons (pv 1) pa_nil)) (by walk_at "wk")))) pa_nil)))), ?_⟩
  obtain ⟨_, G, z, rfl, gs, hz, ha, k⟩ := h
  have : Cur G H := ⟨gs⟩
  walk_at "w"
  refine u_iA ha ?_
  refine u_lcA (walk_str (z := z)) (Yv := fun i v => ∃ c, z.cps[i]? = some c ∧ v = .str ⟨#[c]⟩) (fun i H x H' h => h) (fun _ _ => trivial) (by omega) (fun i y _ => ∃ c, z.cps[i]? = some c ∧ y = .int (c : Nat)) (fun _ _ _ _ _ h => h) ?_ ?_ (fun _ _ _ _ h q => mg_name h q)
  · rintro i x G1 H1 Qy hi st _ _ ⟨c, hc, rfl⟩ ky
    walk_at "w"
    refine ⟨_, rfl, rfl, ?_⟩
    exact ky _ _ _ (Stp.refl st.s) ⟨c, hc, rfl⟩
  · intro p ys G1 H1 st _ _ hp mu hlen pr
    have e : ys = strV z := by
      unfold strV
      apply List.ext_getElem?
      intro i
      rw [List.getElem?_map]
      cases hy : ys[i]? with
      | some y =>
        obtain ⟨c, hc, e⟩ := pr i y hy
        rw [e, Array.getElem?_toList, hc]; rfl
      | none =>
        have hi := List.getElem?_eq_none_iff.mp hy
        rw [List.getElem?_eq_none (by rw [Array.length_toList]; omega)]; rfl
    subst e
    walk_at "w"
    refine u_tupL mu.sqL (by show _ ≤ sizeLine; unfold strV; simp [sizeLine_eq]; omega) fun p' G2 H2 st2 _ _ hp' => ?_
    exact (k _).go (st.trans st2) hp'
theorem hot_low_first (T : Txt K mg) : HasH P w K mg base 1 ("low_first", none) ["number", "many"] spLow := by
  refine mk_hasH (d := d_low_first) T 50 rfl rfl rfl sc_low_first (fun _ _ _ _ _ _ us hl => match us, hl with | [_, _], _ => rfl) (fun vs H Q E h => h.1) (fun cdv A outer s H vs Q E p hot hr h => ?_)
  refine ⟨_, PSs.nox (pss_cons (ps_set (i := 2) sc_low_first.nd rfl (Or.inl rfl) (pe_lst pa_nil))
 (pss_cons (ps_forH PassesOwn.never (⟨p, hot, List.mem_singleton.mpr rfl⟩ : HotC _) (pi_range1H (by rfl) (fr_range T) (pa_cons (pv 1) pa_nil)) (pg_name (i := 3) sc_low_first.nd rfl (Or.inl rfl)) (pss_cons (ps_expr (pe_bm PySem.F.plainAttrs_list PySem.F.slot_list_append PySem.F.type_list_append mt_append (pv 2) (pa_cons (pe_op op_mod (pv 0) pe_int) pa_nil)))
 (pss_one (ps_set (i := 0) sc_low_first.nd rfl (Or.inl rfl) (pe_op op_fdiv (pv 0) pe_int)))))
 (pss_one (ps_ret (pv 2))))), ?_⟩
  obtain ⟨_, G, n, k, rfl, gs, hk, kk⟩ := h
  have : Cur G H := ⟨gs⟩
  walk_at "w"
  refine u_lst (Nat.zero_le _) fun p G0 H0 st0 _ _ hp mu0 => ?_
  walk_at "w"
  refine u_iR (by omega) ?_
  refine u_for (walk_range (n := k)) (fun i σ H' => ∃ G' v, σ = [some (.int (n / 256 ^ i : Nat)), some (.int k), some (.ref p), v] ∧ Stp [] G H G' H' ∧ Mu G' H' p (.lst (octs (RWire.low i n)))) ?_ (fun _ _ _ _ _ => trivial) ?_ ?_
  · exact ⟨G0, none, by simp [L2.start, List.replicate], st0, mu0⟩
  · rintro i x σ H1 H1' hi ⟨G1, v, rfl, st, mu⟩ ⟨rfl, rfl⟩
    have : Cur G1 H1' := ⟨st.s⟩
    walk_at "w"
    refine u_bmL mu.h ?_
    walk_at "w"
    refine u_ri (by show (0 : Int) < 256; decide) ?_
    walk_at "w"
    refine u_app mu (by rw [octs_len, low_len, sizeLine_eq]; omega) fun G2 H2 st2 _ _ mu2 => ?_
    walk_at "w"
    refine u_ri ⟨by decide, by decide⟩ ?_
    refine ⟨G2, some (.int (0 + (i : Int))), ?_, (st.nil.trans st2).drop hp, ?_⟩
    · show [some (V.int (((n / 256 ^ i : Nat) : Int) / 256)), _, _, _] = _
      have e : ((n / 256 ^ i : Nat) : Int) / 256 = ((n / 256 ^ (i + 1) : Nat) : Int) := by
        rw [Nat.pow_succ, ← Nat.div_div_eq_div_mul]; omega
      rw [e]
    · rw [low_snoc, octs_app]
      have e : octs [UInt8.ofNat (n / 256 ^ i)] = [V.int (((n / 256 ^ i : Nat) : Int) % 256)] := by
        show [V.int _] = _
        rw [u8_of]
      rw [e]
      exact mu2
  · rintro σ H1 ⟨G1, v, rfl, st, mu⟩
    walk_at "w"
    exact (kk p).go (st.keep hp mu.h) upd_same
end
end Ck
namespace Ck
open PySem PySem.Spec PyProof.Rows L2 HotX L2H
open He (ga ma fAd)
open R7253f.Spec (stepIn inputOk Call Ans)
/-! ### from octets to a call -/
theorem kinds_plain {l : List RWire.Value} (h : Rust.ofKinds l = true) : ∀ x ∈ l, plainV x = true := by
  have h : ((false || RWire.noBigMany l) && (false || RWire.noOctetsMany l) && (false || RWire.noWideMany l)) = true := h
  rw [Bool.false_or, Bool.false_or, Bool.false_or] at h
  obtain ⟨h12, h3⟩ := Bool.and_eq_true_iff.mp h
  obtain ⟨h1, h2⟩ := Bool.and_eq_true_iff.mp h12
  have e : plainV (.list l) = true := by
    show (RWire.noBig (.list l) && (RWire.noOctets (.list l) && RWire.noWide (.list l))) = true
    rw [show RWire.noBig (.list l) = true from h1, show RWire.noOctets (.list l) = true from h2, show RWire.noWide (.list l) = true from h3]; rfl
  exact fun x hx => plain_mem e hx
theorem asked_eq {b : List UInt8} {c : Call} (h : Rust.asked b = some c) : ∃ d l, RWire.readRequest b = some (d, l) ∧ (∀ x ∈ l, plainV x = true) ∧ Rust.callOf d (Rust.takenAll l) = some c := by
  unfold Rust.asked at h
  cases hr : RWire.readRequest b with
  | none => rw [hr] at h; cases h
  | some p =>
    obtain ⟨d, l⟩ := p
    rw [hr] at h
    have h : (if Rust.ofKinds l then Rust.callOf d (Rust.takenAll l) else none) = some c := h
    cases hk : Rust.ofKinds l with
    | false => rw [hk] at h; cases h
    | true =>
      rw [hk, if_pos rfl] at h
      exact ⟨d, l, rfl, kinds_plain hk, h⟩
def pad (l : List RWire.Value) : List RWire.Value := l ++ List.replicate (3 - l.length) .nothing
theorem takenAll_eq : ∀ l : List RWire.Value, Rust.takenAll l = l.map Rust.taken
  | [] => rfl
  | x :: l => congrArg (Rust.taken x :: ·) (takenAll_eq l)
theorem arg_at (l : List RWire.Value) (i : Nat) : Rust.argAt (Rust.takenAll l) i = Rust.taken (l.getD i .nothing) := by
  unfold Rust.argAt
  rw [takenAll_eq, List.getD_eq_getElem?_getD, List.getD_eq_getElem?_getD, List.getElem?_map]
  cases l[i]? <;> rfl
theorem slot_int {x : RWire.Value} {k : Nat} (hp : plainV x = true) (h : Rust.slotOf 2 (Rust.taken x) = some k) : x = .int (k : Nat) := by
  cases x with
  | int i =>
    have h : (some i : Option Int).bind (fun k => if decide (0 ≤ k) && Nat.ble k.toNat 2 then some k.toNat else none) = some k := h
    have h : (if decide (0 ≤ i) && Nat.ble i.toNat 2 then some i.toNat else none) = some k := h
    split at h
    · rename_i hc
      have h0 : 0 ≤ i := of_decide_eq_true (Bool.and_eq_true_iff.mp hc).1
      have := Option.some.inj h
      have e : i = (k : Nat) := by omega
      rw [e]
    · cases h
  | nothing => cases h
  | null => cases h
  | bool b => cases h
  | big i => cases h
  | text u => cases h
  | octets u => cases h
  | wide u => cases h
  | list l => cases h
  | record l => cases h
theorem taking_eq {n : Nat} {l : List PlainV} {o : Option Call} {c : Call} (h : Rust.taking n l o = some c) : l.length ≤ n ∧ o = some c := by
  unfold Rust.taking at h
  split at h
  · rename_i hc
    exact ⟨Nat.le_of_ble_eq_true hc, h⟩
  · cases h
theorem bind_eq {α β : Type} {o : Option α} {f : α → Option β} {b : β} (h : o.bind f = some b) : ∃ a, o = some a ∧ f a = some b := by
  cases o with
  | none => cases h
  | some a => exact ⟨a, rfl, h⟩
theorem call_is {d : Nat} {l : List RWire.Value} {c : Call} (hp : ∀ x ∈ l, plainV x = true) (h : Rust.callOf d (Rust.takenAll l) = some c) : d ≤ 11 ∧ l.length ≤ 3 ∧ CallIs d (l.getD 0 .nothing) (l.getD 1 .nothing) (l.getD 2 .nothing) c := by
  have hp : ∀ i, plainV (l.getD i .nothing) = true := fun i => by
    rw [List.getD_eq_getElem?_getD]
    cases e : l[i]? with
    | none => rfl
    | some x => exact hp x (List.mem_of_getElem? e)
  have len : (Rust.takenAll l).length = l.length := by rw [takenAll_eq, List.length_map]
  have sl : ∀ {i k}, Rust.slotAt (Rust.takenAll l) i 2 = some k → l.getD i .nothing = .int (k : Nat) := fun {i k} e => by
    unfold Rust.slotAt at e
    rw [arg_at] at e
    exact slot_int (hp i) e
  have h0 : d / 16 = 0 := by
    unfold Rust.callOf at h
    cases e : d / 16 with
    | zero => rfl
    | succ n => rw [e] at h; cases h
  have h : Rust.calls0 d (Rust.takenAll l) = some c := by
    unfold Rust.callOf at h
    rw [h0] at h
    exact h
  have one : ∀ {n : Nat} {f : Nat → Option Call}, n ≤ 3 → Rust.taking n (Rust.takenAll l) ((Rust.slotAt (Rust.takenAll l) 0 2).bind f) = some c → l.length ≤ 3 ∧ ∃ k, l.getD 0 .nothing = .int (k : Nat) ∧ f k = some c := fun hn e => by
    obtain ⟨h1, h2⟩ := taking_eq e
    obtain ⟨k, h3, h4⟩ := bind_eq h2
    exact ⟨by omega, k, sl h3, h4⟩
  match d, h with
  | 0, h =>
    obtain ⟨h1, k, h2, h3⟩ := one (by omega) h
    cases h3
    exact ⟨by omega, h1, rfl, h2, arg_at l 1⟩
  | 1, h =>
    obtain ⟨h1, k, h2, h3⟩ := one (by omega) h
    cases h3
    exact ⟨by omega, h1, rfl, h2⟩
  | 2, h =>
    obtain ⟨h1, k, h2, h3⟩ := one (by omega) h
    cases h3
    exact ⟨by omega, h1, rfl, h2⟩
  | 3, h =>
    obtain ⟨h1, k, h2, h3⟩ := one (by omega) h
    cases h3
    exact ⟨by omega, h1, rfl, h2, arg_at l 1, arg_at l 2⟩
  | 4, h =>
    obtain ⟨h1, k, h2, h3⟩ := one (by omega) h
    cases h3
    exact ⟨by omega, h1, rfl, h2, arg_at l 1⟩
  | 5, h =>
    obtain ⟨h1, k, h2, h3⟩ := one (by omega) h
    obtain ⟨j, h4, h5⟩ := bind_eq h3
    cases h5
    exact ⟨by omega, h1, rfl, h2, sl h4, arg_at l 2⟩
  | 6, h =>
    obtain ⟨h1, k, h2, h3⟩ := one (by omega) h
    cases h3
    exact ⟨by omega, h1, rfl, h2⟩
  | 7, h =>
    obtain ⟨h1, k, h2, h3⟩ := one (by omega) h
    cases h3
    exact ⟨by omega, h1, rfl, h2, arg_at l 1⟩
  | 8, h =>
    obtain ⟨h1, k, h2, h3⟩ := one (by omega) h
    obtain ⟨j, h4, h5⟩ := bind_eq h3
    cases h5
    exact ⟨by omega, h1, rfl, h2, sl h4⟩
  | 9, h =>
    obtain ⟨h1, k, h2, h3⟩ := one (by omega) h
    cases h3
    exact ⟨by omega, h1, rfl, h2, arg_at l 1⟩
  | 10, h =>
    obtain ⟨h1, k, h2, h3⟩ := one (by omega) h
    cases h3
    exact ⟨by omega, h1, rfl, h2⟩
  | 11, h =>
    obtain ⟨h1, k, h2, h3⟩ := one (by omega) h
    cases h3
    exact ⟨by omega, h1, rfl, h2⟩
  | d + 12, h =>
    exact absurd h (by
      have e : Rust.calls0 (d + 12) (Rust.takenAll l) = none := rfl
      rw [e]
      intro z
      cases z)
theorem pad3 {l : List RWire.Value} (h : l.length ≤ 3) : pad l = [l.getD 0 .nothing, l.getD 1 .nothing, l.getD 2 .nothing] := by
  match l, h with
  | [], _ => rfl
  | [a], _ => rfl
  | [a, b], _ => rfl
  | [a, b, c], _ => rfl
  | a :: b :: c :: d :: r, h => exact absurd h (by simp)
theorem vas_rep {K : PySem.W.Frag} {G : Hp} {v : V} {x : RWire.Value} (h : VA K G v x) : ∀ n, VAs K G (List.replicate n v) (List.replicate n x)
  | 0 => .nil
  | n + 1 => .cons h (vas_rep h n)
theorem vas3 {K : PySem.W.Frag} {G : Hp} {vs : List V} {x0 x1 x2 : RWire.Value} (h : VAs K G vs [x0, x1, x2]) : ∃ v0 v1 v2, vs = [v0, v1, v2] ∧ VA K G v0 x0 ∧ VA K G v1 x1 ∧ VA K G v2 x2 := by
  cases h with
  | cons h0 h =>
    cases h with
    | cons h1 h =>
      cases h with
      | cons h2 h =>
        cases h
        exact ⟨_, _, _, rfl, h0, h1, h2⟩
theorem flat_rep {v : V} : ∀ n : Nat, (List.replicate n [v]).flatten = List.replicate n v
  | 0 => rfl
  | n + 1 => by
    show v :: (List.replicate n [v]).flatten = _
    rw [flat_rep n]; rfl
/-! ### a call, answered -/
theorem roomS {k : Nat} {A : Around} {m : Option Value} (r : Room k A) : RoomH k (A.mark m) := ⟨r.dp, r.un⟩
theorem hot_suite {X : Cx} {a : Addr} {oe : Obj} {cls : Value} {d : Option Addr} {pn : List (Addr × Obj)} (hz : L2N.Zn cls d oe) (hf : ∃ vs, oe.data = .fields vs) : HotC (X.suite a ((a, oe) :: pn)) := by
  obtain ⟨vs, hv⟩ := hf
  exact ⟨(a, oe), ⟨rfl, vs, hv, hz.2.2 vs hv⟩, List.mem_cons_self⟩
theorem u_rep {G H : Hp} {Q : VK} {l : Addr} {xs : List V} {k : Int} [q : Cur G H] (h : H l = some (.lst xs)) (h1 : -(2 ^ 63) ≤ k) (h2 : k < 2 ^ 63) (hz : xs.length * k.toNat ≤ sizeLine) (kk : ∀ p, Nxt [] G H fun G' H' => G' p = some (.lst (List.replicate k.toNat xs).flatten) → Q (.ref p) H') : rRep (.ref l) (.int k) H Q :=
  ⟨l, k, xs, rfl, rfl, h, h1, h2, hz, fun p hp => (kk p).go (Stp.lay q.s hp) upd_same⟩
def spAnsd (K : PySem.W.Frag) : Sp := fun vs H Q _ => vs.length = 2 ∧ ∃ (G : Hp) (A : LibA) (lo : Addr) (b : List UInt8) (wd : SWld) (n : Nat) (c : Call), vs = [.ref A.a, .ref lo] ∧ Same G H ∧ LibM K G H A wd n ∧ n ≤ 1000 ∧ G lo = some (.lst (octs b)) ∧ b.length ≤ 100000 ∧
  Rust.asked b = some c ∧ Rust.canBe wd c = true ∧ Rust.tellable (R7253f.Spec.step wd c).2 = true ∧ (Rust.step wd b).2.length ≤ 65536 ∧
  ∀ q A' G' H', StL G H G' H' → LibM K G' H' A' (Rust.step wd b).1 (n + 1) → A'.a = A.a → G' q = some (.lst (octs (Rust.step wd b).2)) → Q (.ref q) H'
end Ck
namespace Ck
open PySem PySem.Spec PyProof.Rows L2
open He (ga ma fAd)
section
variable {P : Program} {w : World} {K : PySem.W.Frag} {mg : Str → Option Value} {base : Heap}
open HotX L2H
open R7253f.Spec (stepIn inputOk Call Ans onSlot createIn textArg readText iterate store query noItem)
theorem rf_message {o : Nat} {m : Str} {f : Addr} : List.lookup ("message" : Str) (rfF o m f) = some (.str m) := (lk_past (by decide +kernel)).trans lk_here
theorem rf_further {o : Nat} {m : Str} {f : Addr} : List.lookup ("further" : Str) (rfF o m f) = some (.ref f) := lk_here
theorem rf_order {o : Nat} {m : Str} {f : Addr} : List.lookup ("order" : Str) (rfF o m f) = some (.int (o : Nat)) := (lk_past (by decide +kernel)).trans ((lk_past (by decide +kernel)).trans lk_here)
theorem okm_asc {m : Str} (h : okm m = true) : m.cps.all (· < 128) = true := by
  rw [Array.all_eq_true_iff_forall_mem]
  intro c hc
  have := okm_mem h (c := c) (by simpa using hc)
  exact decide_eq_true this
theorem on_fail {α : Type} {w : SWld} {l : List (Option α)} {k : Nat} {f : α → SWld × Ans} {e : R7253f.Spec.Err} (h : (onSlot w l k f).2 = .fail e) (hf : ∀ a, (f a).2 = .fail e → (f a).1 = w) : (onSlot w l k f).1 = w := by
  unfold onSlot at h ⊢
  cases hs : R7253f.Spec.slot l k with
  | none => rfl
  | some a =>
    rw [hs] at h
    exact hf a h
theorem fail_same {w : SWld} {c : Call} {e : R7253f.Spec.Err} (h : (stepIn w c).2 = .fail e) : (stepIn w c).1 = w := by
  cases c with
  | create k x =>
    have h : (createIn w k (textArg x)).2 = .fail e := h
    show (createIn w k (textArg x)).1 = w
    cases ht : textArg x with
    | error e => rfl
    | ok u =>
      rw [ht] at h
      cases he : (readText u).2 with
      | cons a es => rw [cr_err he]
      | nil =>
        by_cases h2 : (readText u).1.items.isEmpty = true
        · rw [cr_no he h2]
        · rw [cr_ok he h2] at h
          cases h
  | print k => exact on_fail h fun a ha => rfl
  | items k => exact on_fail h fun a ha => rfl
  | first k x y => exact on_fail h fun a ha => rfl
  | simulate k x => exact on_fail h fun a ha => rfl
  | list t k x =>
    exact on_fail h fun a ha => by
      unfold iterate at ha ⊢
      cases hs : R7253f.Spec.scenariosFn a x with
      | ok l => rw [hs] at ha; cases ha
      | error e => rfl
  | next t =>
    exact on_fail h fun a ha => by
      cases a with
      | nil => rfl
      | cons x r => cases ha
  | return1 t x => exact on_fail h fun a ha => by cases ha
  | begin r k => exact on_fail h fun a ha => by cases ha
  | tap r x =>
    exact on_fail h fun a ha => by
      unfold store at ha ⊢
      cases hs : R7253f.Spec.clickFn a x with
      | ok l => rw [hs] at ha; cases ha
      | error e => rfl
  | undo r => exact on_fail h fun a ha => by cases ha
  | read r => exact on_fail h fun a ha => rfl
theorem rstep {wd : SWld} {b : List UInt8} {c : Call} (ha : Rust.asked b = some c) (hc : Rust.canBe wd c = true) : Rust.step wd b = ((R7253f.Spec.step wd c).1, RWire.writeAnswer (Rust.answerOf (R7253f.Spec.step wd c).2)) := by
  unfold Rust.step
  rw [ha]
  show (if Rust.canBe wd c then _ else _) = _
  rw [if_pos hc]
theorem can_ok {wd : SWld} {c : Call} (hc : Rust.canBe wd c = true) : inputOk wd c = true :=
  (Bool.and_eq_true_iff.mp (Bool.and_eq_true_iff.mp hc).1).1
theorem cls_oct (k : R7253f.Spec.Cls) : ((UInt8.ofNat (Rust.classOf k)).toNat : Int) = (Rust.classOf k : Nat) := by
  cases k <;> rfl
theorem has_answered (T : Txt K mg) : Has P w K mg base CX0 61 ("answered", none) ["library", "octets"] (spAnsd K) := by
  refine mk_has (d := d_answered) T 76 rfl rfl rfl sc_answered (fun _ _ _ _ _ _ us hl => match us, hl with | [_, _], _ => rfl) (fun vs H Q E h => h.1) (fun cdv A outer s H vs Q E hr h => ?_)
  refine ⟨_, PSs.nox (pss_cons (ps_asg (pmeth0 (pmake (has_Request_init T) (mk_Request T) (hr.mono (by omega)) rfl (gl_Request T) pass0 (pa_cons (pv 1) pa_nil)) (cl_Request T) (me_Request_whole T) (has_Request_whole T) (hr.mono (by omega)) pass0) (pg_tup rfl (pgs_cons (pg_name (i := 2) sc_answered.nd rfl (Or.inl rfl)) (pgs_cons (pg_name (i := 3) sc_answered.nd rfl (Or.inl rfl)) pgs_nil))))
 (pss_cons (ps_expr (pe_bm PySem.F.plainAttrs_list PySem.F.slot_list_extend PySem.F.type_list_extend mt_extend (pv 3) (pa_cons (pe_op op_rep (pe_lst (pa_cons (pgr (tg_NOTHING T) rfl) pa_nil)) (pe_op op_sub (pgi (gi_MOST_ARGUMENTS T) rfl) (pe_callB c_len (by rfl) (fr_len T) PySem.boot_len (pa_cons (pv 3) pa_nil)))) pa_nil)))
 (pss_one (L2N.ps_try_as (i := 4) rfl rfl sc_answered.nd rfl rfl ⟨rfl, by decide, .inl (gl_Refused T)⟩ (tk_no rfl) (by intro W pn xe tk ho; exact re_s (pss_one (ps_ret (pe_op op_cat (pe_lst (pa_cons pe_int pa_nil)) (pcall (has_octets_of T 32) (hr.mono (by omega)) rfl (gl_octets_of T) pass0 (pa_cons (pmethE (pv 0) (cl_Library T) (me_Library_call T) (has_Library_call T) (hr.mono (by omega)) (fun σ => L2N.passAt tk σ) (pa_cons (pv 2) (pa_cons (pv 3) pa_nil))) pa_nil))))) (by walk_at "wt")) (by intro a oe cls d pn hz hf; exact re_s (pss_cons (ps_set (i := 5) sc_answered.nd rfl (Or.inl rfl) (pe_op op_cat (pe_callTy c_list (by rfl) (fr_list T) (by decide +kernel) (pa_cons (pcallH (hot_codes_of T) (roomS (hr.mono (by omega))) (hot_suite hz hf) rfl (gl_codes_of T) (pa_cons (pe_xf (ex_Refused T).2.1 (na_Refused_message T) hz.zc hf (pv 4)) pa_nil)) pa_nil)) (pe_callTy c_list (by rfl) (fr_list T) (by decide +kernel) (pa_cons (pe_xf (ex_Refused T).2.1 (na_Refused_further T) hz.zc hf (pv 4)) pa_nil)))) (pss_one (ps_ret (pe_op op_cat (pe_op op_cat (pe_lst (pa_cons pe_int (pa_cons (pe_xf (ex_Refused T).2.1 (na_Refused_order T) hz.zc hf (pv 4)) pa_nil))) (pcallH (hot_low_first T) (roomS (hr.mono (by omega))) (hot_suite hz hf) rfl (gl_low_first T) (pa_cons (pe_callB c_len (by rfl) (fr_len T) PySem.boot_len (pa_cons (pv 5) pa_nil)) (pa_cons pe_int pa_nil)))) (pv 5))))) (by walk_at "wt")))))), ?_⟩
  obtain ⟨_, G, A, lo, b, wd, n, c, rfl, gs, m, hn, hlo, hb, hask, hcan, htell, hlen, kk⟩ := h
  have : Cur G H := ⟨gs⟩
  obtain ⟨d, l, hrr, hpl, hcall⟩ := asked_eq hask
  obtain ⟨hd, hl3, hci⟩ := call_is hpl hcall
  have hst := rstep hask hcan
  rw [hst] at hlen kk
  walk_at "w"
  refine u_make fun x dx G1 H1 s1 _ _ hx mx => ?_
  walk_at "w"
  refine ⟨rfl, G1, x, dx, lo, rfl, s1.s, mx, fun G2 H2 s2 _ _ mx2 => ⟨rfl, ?_⟩⟩
  walk_at "w"
  refine u_mth mx2.h fm_Request_whole ?_
  walk_at "w"
  refine ⟨rfl, G2, x, dx, lo, b, d, l, rfl, s2.s, mx2, s2.g _ _ (s1.g _ _ hlo), hb, hrr, hpl, fun t L vs G3 H3 s3 _ _ ht hLn mL hvs => ?_⟩
  have s03 : Stp [] G H G3 H3 := ((s1.nil.trans s2).trans s3).drop hx
  have hLH : H L = none := (((s1.nil.trans s2)).drop hx : Stp [] G H G2 H2).free hLn
  walk_at "w"
  refine u_gt (SqT.of (on (H := H3) ht)) rfl ?_
  walk_at "w"
  refine u_bmL mL.h ?_
  walk_at "w"
  refine u_lstK (by show 1 ≤ sizeLine; decide) fun q4 G4 H4 s4 _ _ hq4 => ?_
  walk_at "w"
  have mL4 := s4.mu mL List.not_mem_nil
  refine u_lenL mL4.sqL ?_
  walk_at "w"
  have hvl := hvs.len
  rw [hvl]
  have e3 : (3 : Int) - (l.length : Nat) = ((3 - l.length : Nat) : Int) := by omega
  refine u_rep (on (H := H4) hq4) (by omega) (by omega) (by rw [e3, Int.toNat_natCast]; exact lst_le (by show 1 * _ ≤ _; omega)) fun q5 G5 H5 s5 _ _ hq5 => ?_
  walk_at "w"
  rw [e3, Int.toNat_natCast, flat_rep] at hq5
  have mL5 := s5.mu mL4 List.not_mem_nil
  refine u_ext mL5 (on (H := H5) hq5) (by rw [List.length_replicate, hvl]; exact lst_le (by omega)) fun G6 H6 s6 _ _ mL6 => ?_
  walk_at "w"
  have s06 : Stp [] G H G6 H6 := (((s03.trans s4).trans s5).nil.trans s6).drop hLH
  have g36 := (s4.g.trans s5.g).trans s6.g
  have hvs6 : VAs K G6 (vs ++ List.replicate (3 - l.length) (V.ref (ga K "NOTHING"))) (pad l) := VAs.app (VAs.mono g36 _ _ hvs) (vas_rep (.nothing (tt_NOTHING T G6)) _)
  rw [pad3 hl3] at hvs6
  obtain ⟨v0, v1, v2, hv3, hv0, hv1, hv2⟩ := vas3 hvs6
  rw [hv3] at mL6
  have s7 := s06.keep hLH mL6.h
  generalize hG7 : upd G6 L (.lst [v0, v1, v2]) = G7 at s7
  have hL7 : G7 L = some (.lst [v0, v1, v2]) := by rw [← hG7]; exact upd_same
  have g67 : Same G6 G7 := by rw [← hG7]; exact Same.keep mL6.h s6.s
  have : Cur G7 H6 := ⟨s7.s⟩
  have m7 := m.step s7
  walk_at "w"
  refine u_lstK (by show 1 ≤ sizeLine; decide) fun q8 G8 H8 s8 _ _ hq8 => ?_
  walk_at "w"
  have m8 := m7.step s8
  refine u_mth (s8.s _ _ m8.ins) fm_Library_call ?_
  walk_at "w"
  refine ⟨rfl, G8, A, L, d, wd, n, c, rfl, Nat.zero_le _, hd, ⟨s8.s, m8, hn, ⟨_, _, _, ⟨v0, v1, v2, s8.g _ _ hL7, VA.mono (g67.trans s8.g) _ _ hv0, VA.mono (g67.trans s8.g) _ _ hv1, VA.mono (g67.trans s8.g) _ _ hv2⟩, hci⟩, can_ok hcan, fun y hy => ?_, fun y hy v A' G9 H9 sL m9 ha hv => ?_, fun e o mm he ho hu hm dd f G9 H9 s9 _ _ hd9 hf9 => ?_⟩⟩
  · have e2 : (R7253f.Spec.step wd c).2 = .ret y := hy
    rw [e2] at hlen htell
    have h1 : (RWire.write (Rust.given y)).length + 1 ≤ 65536 := hlen
    exact ⟨by omega, (Bool.and_eq_true_iff.mp htell).1⟩
  · have e2 : (R7253f.Spec.step wd c).2 = .ret y := hy
    rw [e2] at hlen htell kk
    have h1 : (RWire.write (Rust.given y)).length + 1 ≤ 65536 := hlen
    have hw := (Bool.and_eq_true_iff.mp htell).2
    have hfi := (Bool.and_eq_true_iff.mp hw).1
    have hde : RWire.depth (Rust.given y) ≤ 32 := of_decide_eq_true (Bool.and_eq_true_iff.mp hw).2
    have : Cur G9 H9 := ⟨sL.s⟩
    walk_at "w"
    refine u_octO hv hde hfi (by omega) fun p Ga Ha sa _ _ hp => ?_
    refine u_cat (on (H := Ha) (sa.g _ _ (sL.g _ _ hq8))) (on (H := Ha) hp) (by rw [octs_len]; exact lst_le (by show 1 + _ ≤ _; omega)) fun q Gb Hb sb _ _ hq => ?_
    walk_at "w"
    refine kk q A' Gb Hb ((((s7.trans s8).toL0.trans sL).trans sa.toL0).trans sb.toL0) (((m9.step sa).step sb).made _) ha ?_
    rw [hq]; rfl
  · have e2 : (R7253f.Spec.step wd c).2 = .fail e := he
    rw [e2] at hlen htell kk
    have hmsg : octs (e.msg.map Rust.octetOf) = strV mm := by
      rw [okm_uz hm, hu]
      refine octs_un fun x hx => ?_
      rw [← hu] at hx
      unfold uz at hx
      obtain ⟨y, hy, rfl⟩ := List.mem_map.mp hx
      have := okm_mem hm hy
      rw [UInt16.toNat_ofNat']
      omega
    have hml : (e.msg.map Rust.octetOf).length = (strV mm).length := by rw [← hmsg, octs_len]
    have hsz := okm_le hm
    have hsl : (strV mm).length ≤ 100 := by unfold strV; rw [List.length_map, Array.length_toList]; exact hsz
    refine ⟨true, (ex_Refused T).2.2.2.2, fun _ xa hxa => ?_, fun e => by cases e⟩
    walk_at "w"
    refine ⟨dd, _, _, rfl, on (H := H9) hd9, rf_message, ?_⟩
    walk_at "w"
    refine ⟨rfl, G9, mm, rfl, s9.s, by omega, okm_asc hm, fun pa Ga Ha sa _ _ hpa => ?_⟩
    walk_at "w"
    refine u_lstF (.inr (SqT.of (on (H := Ha) hpa))) fun pb Gb Hb sb _ _ hpb => ?_
    walk_at "w"
    refine ⟨dd, _, _, rfl, sb.s _ _ (sb.g _ _ (sa.g _ _ hd9)), rf_further, ?_⟩
    walk_at "w"
    refine u_lstF (.inr (Same.sqT ((sa.g.trans sb.g).trans sb.s) hf9)) fun pc Gc Hc sc _ _ hpc => ?_
    walk_at "w"
    refine u_cat (on (H := Hc) (sc.g _ _ hpb)) (on (H := Hc) hpc) (by exact lst_le (by show (strV mm).length + 0 ≤ _; omega)) fun pd Gd Hd sd _ _ hpd => ?_
    walk_at "w"
    rw [List.append_nil] at hpd
    refine ⟨dd, _, _, rfl, sd.s _ _ (sd.g _ _ (sc.g _ _ (sb.g _ _ (sa.g _ _ hd9)))), rf_order, ?_⟩
    walk_at "w"
    refine u_lstK (by show 2 ≤ sizeLine; decide) fun pe Ge He se _ _ hpe => ?_
    walk_at "w"
    refine u_lenL (SqL.of (on (H := He) (se.g _ _ hpd))) ?_
    walk_at "w"
    refine u_low (n := (strV mm).length) (k := 4) (by omega) fun pf Gf Hf sf _ _ hpf => ?_
    refine u_cat (on (H := Hf) (sf.g _ _ hpe)) (on (H := Hf) hpf) (by rw [octs_len, low_len]; show 2 + 4 ≤ sizeLine; decide) fun pg Gg Hg sg _ _ hpg => ?_
    walk_at "w"
    refine u_cat (on (H := Hg) hpg) (on (H := Hg) (sg.g _ _ (sf.g _ _ (se.g _ _ hpd)))) (by rw [List.length_append, octs_len, low_len]; exact lst_le (by show 2 + 4 + _ ≤ _; omega)) fun ph Gh Hh sh _ _ hph => ?_
    walk_at "w"
    have s8h := ((((((((s9.trans sa).trans sb).trans sc).trans sd).trans se).trans sf).trans sg).trans sh)
    refine kk ph A Gh Hh ((s7.trans s8).trans s8h).toL0 ?_ rfl ?_
    · have e4 : (stepIn wd c).1 = wd := fail_same he
      show LibM K Gh Hh A { (stepIn wd c).1 with made := _ } (n + 1)
      rw [e4]
      exact ((m8.step s8h).more (Nat.le_succ n)).made _
    · rw [hph]
      show _ = some (HO.lst (octs (1 :: UInt8.ofNat (Rust.classOf e.cls) :: (RWire.low 4 (e.msg.map Rust.octetOf).length ++ e.msg.map Rust.octetOf))))
      rw [octs_cons, octs_cons, octs_app, cls_oct, hmsg, hml, ho]
      rfl
end
end Ck
namespace Ck
open PySem PySem.Spec PyProof.Rows L2
open He (ga ma fAd)
open R7253f.Spec (stepIn inputOk Call Ans slot)
/-! ### the calls as one row of numbers, the answers as one -/
def flatC : List (List UInt8) → List V
  | [] => []
  | b :: r => V.int 0 :: V.int (b.length : Nat) :: (octs b ++ flatC r)
def outC : SWld → List (List UInt8) → List V
  | _, [] => []
  | w, b :: r => V.int ((Rust.step w b).2.length : Nat) :: (octs (Rust.step w b).2 ++ outC (Rust.step w b).1 r)
theorem flat_app : ∀ (a b : List (List UInt8)), flatC (a ++ b) = flatC a ++ flatC b
  | [], b => rfl
  | x :: a, b => by
    show V.int 0 :: V.int _ :: (octs x ++ flatC (a ++ b)) = V.int 0 :: V.int _ :: (octs x ++ flatC a) ++ flatC b
    rw [flat_app a b]
    simp [List.append_assoc]
theorem flat_len : ∀ a : List (List UInt8), (flatC a).length = 2 * a.length + Rust.octetsIn a
  | [] => rfl
  | x :: a => by
    show (V.int 0 :: V.int _ :: (octs x ++ flatC a)).length = 2 * (a.length + 1) + (x.length + Rust.octetsIn a)
    simp only [List.length_cons, List.length_append, octs_len]
    rw [flat_len a]; omega
/-- where a call stands in the row -/
theorem flat_many {pre r : List (List UInt8)} {b : List UInt8} : (flatC (pre ++ b :: r))[(flatC pre).length + 1]? = some (V.int (b.length : Nat)) := by
  rw [flat_app, List.getElem?_append_right (by omega)]
  have e : (flatC pre).length + 1 - (flatC pre).length = 1 := by omega
  rw [e]; rfl
theorem flat_cut {pre r : List (List UInt8)} {b : List UInt8} : cutV (flatC (pre ++ b :: r)) (some (((flatC pre).length : Int) + 2)) (some (((flatC pre).length : Int) + 2 + (b.length : Int))) = octs b := by
  have e1 : ((flatC pre).length : Int) + 2 = (((flatC pre).length + 2 : Nat) : Int) := by omega
  have e2 : ((flatC pre).length : Int) + 2 + (b.length : Int) = (((flatC pre).length + 2 + b.length : Nat) : Int) := by omega
  unfold cutV
  rw [e2, e1, HT.sIx_nat, HT.sIx_nat]
  have hl : (flatC (pre ++ b :: r)).length = (flatC pre).length + (2 + b.length + (flatC r).length) := by
    rw [flat_app, List.length_append]
    show _ + (V.int 0 :: V.int _ :: (octs b ++ flatC r)).length = _
    simp only [List.length_cons, List.length_append, octs_len]; omega
  have m1 : min ((flatC pre).length + 2) (flatC (pre ++ b :: r)).length = (flatC pre).length + 2 := by omega
  have m2 : min ((flatC pre).length + 2 + b.length) (flatC (pre ++ b :: r)).length = (flatC pre).length + 2 + b.length := by omega
  rw [m1, m2, flat_app]
  have hd : (flatC pre ++ flatC (b :: r)).drop ((flatC pre).length + 2) = octs b ++ flatC r := by
    rw [← List.drop_drop, List.drop_left]; rfl
  rw [hd]
  have e3 : (flatC pre).length + 2 + b.length - ((flatC pre).length + 2) = (octs b).length := by rw [octs_len]; omega
  rw [e3, List.take_left]
theorem goes_cons {w : SWld} {left : Nat} {b : List UInt8} {r : List (List UInt8)} (h : Rust.goes w left (b :: r) = true) : ∃ c, Rust.asked b = some c ∧ Rust.canBe w c = true ∧ Rust.tellable (R7253f.Spec.step w c).2 = true ∧ (Rust.step w b).2.length ≤ 65536 ∧ (Rust.step w b).2.length ≤ left ∧ Rust.goes (Rust.step w b).1 (left - (Rust.step w b).2.length) r = true := by
  have h : (match Rust.asked b with
    | none => false
    | some c => Rust.canBe w c && Rust.tellable (R7253f.Spec.step w c).2 && Nat.ble (Rust.step w b).2.length Rust.A && Nat.ble (Rust.step w b).2.length left && Rust.goes (R7253f.Spec.step w c).1 (left - (Rust.step w b).2.length) r) = true := h
  cases ha : Rust.asked b with
  | none => rw [ha] at h; cases h
  | some c =>
    rw [ha] at h
    obtain ⟨h, h5⟩ := Bool.and_eq_true_iff.mp h
    obtain ⟨h, h4⟩ := Bool.and_eq_true_iff.mp h
    obtain ⟨h, h3⟩ := Bool.and_eq_true_iff.mp h
    obtain ⟨h1, h2⟩ := Bool.and_eq_true_iff.mp h
    refine ⟨c, rfl, h1, h2, Nat.le_of_ble_eq_true h3, Nat.le_of_ble_eq_true h4, ?_⟩
    have e : (Rust.step w b).1 = (R7253f.Spec.step w c).1 := by rw [rstep ha h1]
    rw [e]; exact h5
theorem slot_none {α : Type} {i : Nat} {a : α} (h : slot (List.replicate 3 (none : Option α)) i = some a) : False := by
  unfold slot at h
  rw [List.getD_eq_getElem?_getD, List.getElem?_replicate] at h
  split at h <;> cases h
theorem lib_start {K : PySem.W.Frag} {G H : Hp} {x dx pd sd rd : Addr} (hi : G x = some (.ins (ga K "Library") dx (FLibrary (.ref pd) (.ref sd) (.ref rd)))) (mp : Mu G H pd (.dK [])) (ms : Mu G H sd (.dK [])) (mr : Mu G H rd (.dK [])) (n1 : pd ≠ sd) (n2 : pd ≠ rd) (n3 : sd ≠ rd) : LibM K G H ⟨x, dx, pd, sd, rd, fun _ => pd⟩ Rust.start 0 :=
  ⟨hi, ⟨[], [], [], ⟨mp, ms, mr⟩, ⟨Nat.le_refl _, Nat.le_refl _, Nat.le_refl _⟩, fun i p e => (slot_none e).elim, ⟨fun i r e => (slot_none e).elim, fun i j r q e => (slot_none e).elim⟩, fun i r e => (slot_none e).elim⟩, n1, n2, n3⟩
theorem LibM.stepL {K : PySem.W.Frag} {G H G' H' : Hp} {A : LibA} {w : SWld} {n : Nat} {l : Addr} {xs : List V} (h : LibM K G H A w n) (e : H l = some (.lst xs)) (st : Stp [l] G H G' H') : LibM K G' H' A w n := by
  obtain ⟨ins, ⟨pk, sk, rk, ⟨m1, m2, m3⟩, ls, h1, h2, h3⟩, n1, n2, n3⟩ := h
  have no : ∀ {b : Addr} {o : HO}, Mu G H b o → (∀ ys, o ≠ .lst ys) → b ∉ [l] := fun {b o} m ho hb => by
    rw [List.mem_singleton.mp hb] at m
    have z := m.h
    rw [e] at z
    exact ho _ (Option.some.inj z).symm
  have nk : ∀ {b : Addr} {kv : List (Key × V)}, Mu G H b (.dK kv) → b ∉ [l] := fun m => no m (by intro ys z; cases z)
  refine ⟨st.g _ _ ins, ⟨pk, sk, rk, ⟨st.mu m1 (nk m1), st.mu m2 (nk m2), st.mu m3 (nk m3)⟩, ls, h1.mono st.g, h2.step st (fun i r er => ?_), h3.mono st.g⟩, n1, n2, n3⟩
  obtain ⟨dx, pa, _, se⟩ := h2.1 i r er
  obtain ⟨sl, mu⟩ := se.mu
  exact no mu (by intro ys z; cases z)
def spAnsw (K : PySem.W.Frag) : Sp := fun vs H Q _ => vs.length = 1 ∧ ∃ (G : Hp) (a : Addr) (bs : List (List UInt8)), vs = [.ref a] ∧ Same G H ∧ SqL K G a (flatC bs) ∧ bs.length ≤ 200 ∧ (flatC bs).length ≤ 100000 ∧ Rust.goes Rust.start 4000000 bs = true ∧
  ∀ p H', H' p = some (.lst (outC Rust.start bs)) → Q (.ref p) H'
end Ck
namespace Ck
open PySem PySem.Spec PyProof.Rows L2
open He (ga ma fAd)
section
variable {P : Program} {w : World} {K : PySem.W.Frag} {mg : Str → Option Value} {base : Heap}
theorem fn_answers (T : Txt K mg) {fd : FuncData} (F : FunD K d_answers.name d_answers.qual d_answers.params d_answers.body d_answers.scope [] [] (fAd K d_answers.at_) fd) : FnOk P w K mg base CX0 62 (fAd K d_answers.at_) fd ["calls"] (spAnsw K) := by
  refine F.ok (N := N_answers) sc_answers (fun vs H Q E h => h.1) (fun cdv A outer s H vs Q E hr h => ?_)
  refine ⟨_, PSs.nox (pss_cons (ps_set (i := 1) sc_answers.nd rfl (Or.inl rfl) (pmake0 (has_Library_init T) (mk_Library T) (hr.mono (by omega)) rfl (gl_Library T) pass0))
 (pss_cons (ps_set (i := 2) sc_answers.nd rfl (Or.inl rfl) (pe_lst pa_nil))
 (pss_cons (ps_set (i := 3) sc_answers.nd rfl (Or.inl rfl) pe_int)
 (pss_cons (ps_while PassesOwn.never (pt_cmpR op_lt (pv 3) (pe_callB c_len (by rfl) (fr_len T) PySem.boot_len (pa_cons (pv 0) pa_nil)) (nomark _)) (pss_cons (ps_set (i := 4) sc_answers.nd rfl (Or.inl rfl) (pe_ix ix_list (pv 0) (pe_op op_add (pv 3) pe_int) (fun _ _ => rfl)))
 (pss_cons (ps_set (i := 5) sc_answers.nd rfl (Or.inl rfl) (pcall (has_answered T) (hr.mono (by omega)) rfl (gl_answered T) pass0 (pa_cons (pv 1) (pa_cons (pe_callTy c_list (by rfl) (fr_list T) (by decide +kernel) (pa_cons (pe_slice sl_list (pv 0) (po_some (pe_op op_add (pv 3) pe_int)) (po_some (pe_op op_add (pe_op op_add (pv 3) pe_int) (pv 4)))) pa_nil)) pa_nil))))
 (pss_cons (ps_aug (i := 3) sc_answers.nd rfl (Or.inl rfl) (pe_op op_add pe_int (pv 4)) ip_add)
 (pss_cons (ps_expr (pe_bm PySem.F.plainAttrs_list PySem.F.slot_list_append PySem.F.type_list_append mt_append (pv 2) (pa_cons (pe_callB c_len (by rfl) (fr_len T) PySem.boot_len (pa_cons (pv 5) pa_nil)) pa_nil)))
 (pss_one (ps_expr (pe_bm PySem.F.plainAttrs_list PySem.F.slot_list_extend PySem.F.type_list_extend mt_extend (pv 2) (pa_cons (pv 5) pa_nil)))))))))
 (pss_one (ps_ret (pv 2))))))), ?_⟩
  obtain ⟨_, G, a, bs, rfl, gs, ha, hl, hfl, hgo, kk⟩ := h
  have : Cur G H := ⟨gs⟩
  walk_at "w"
  refine u_make fun x dx G1 H1 s1 _ _ hx mx => ?_
  walk_at "w"
  refine ⟨rfl, G1, x, dx, rfl, s1.s, mx, fun pd sd rd G2 H2 s2 _ _ mi mp ms mr n1 n2 n3 n4 n5 n6 => ⟨rfl, ?_⟩⟩
  have s02 : Stp [] G H G2 H2 := (s1.nil.trans s2).drop hx
  have s03 : Stp [] G H (upd G2 x (.ins (ga K "Library") dx (FLibrary (.ref pd) (.ref sd) (.ref rd)))) H2 := s02.keep hx mi.h
  have m3 : LibM K (upd G2 x (.ins (ga K "Library") dx (FLibrary (.ref pd) (.ref sd) (.ref rd)))) H2 ⟨x, dx, pd, sd, rd, fun _ => pd⟩ Rust.start 0 := lib_start upd_same (mp.kept n4) (ms.kept n5) (mr.kept n6) n1 n2 n3
  generalize hG3 : upd G2 x (.ins (ga K "Library") dx (FLibrary (.ref pd) (.ref sd) (.ref rd))) = G3 at s03 m3
  have : Cur G3 H2 := ⟨s03.s⟩
  walk_at "w"
  refine u_lst (Nat.zero_le _) fun fl G4 H4 s4 _ _ hfl4 mfl => ?_
  walk_at "w"
  refine ⟨fun m σ H' => ∃ (G' : Hp) (A : LibA) (pre suf : List (List UInt8)) (wd : SWld) (left n : Nat) (acc : List V) (v4 v5 : Option V), suf.length = m ∧ bs = pre ++ suf ∧ σ = [some (.ref a), some (.ref x), some (.ref fl), some (.int ((flatC pre).length : Nat)), v4, v5] ∧ Same G G' ∧ Same G' H' ∧ LibM K G' H' A wd n ∧ A.a = x ∧ n ≤ pre.length ∧ Mu G' H' fl (.lst acc) ∧ acc ++ outC wd suf = outC Rust.start bs ∧ acc.length + left ≤ 4000000 + pre.length ∧ Rust.goes wd left suf = true,
    ⟨bs.length, G4, _, [], bs, Rust.start, 4000000, 0, [], none, none, rfl, rfl, rfl, s03.g.trans s4.g, s4.s, m3.step s4, rfl, Nat.le_refl _, mfl, rfl, by decide, hgo⟩, ?_⟩
  rintro m σ H5 ⟨G5, A, pre, suf, wd, left, n, acc, v4, v5, rfl, rfl, rfl, g5, s5, lm, rfl, hn, mf, hout, hacc, hg⟩
  have : Cur G5 H5 := ⟨s5⟩
  have ha5 := s5.seq (g5.seq ha)
  walk_at "w"
  refine u_lenL ha5 ?_
  walk_at "w"
  have hfp : (flatC (pre ++ suf)).length = (flatC pre).length + (flatC suf).length := by rw [flat_app, List.length_append]
  have hpl : pre.length + suf.length ≤ 200 := by rw [← List.length_append]; exact hl
  cases suf with
  | nil =>
    rw [List.append_nil]
    rw [show decide (((flatC pre).length : Int) < ((flatC pre).length : Int)) = false from decide_eq_false (by omega)]
    refine iteF ?_
    walk_at "w"
    refine kk fl H5 ?_
    rw [← hout]
    show _ = some (HO.lst (acc ++ []))
    rw [List.append_nil]
    exact mf.h
  | cons b r =>
    have hcl : (flatC (b :: r)).length = 2 + b.length + (flatC r).length := by
      show (V.int 0 :: V.int _ :: (octs b ++ flatC r)).length = _
      simp only [List.length_cons, List.length_append, octs_len]; omega
    rw [show decide (((flatC pre).length : Int) < ((flatC (pre ++ b :: r)).length : Int)) = true from decide_eq_true (by omega)]
    refine iteT ?_
    obtain ⟨c, hask, hcan, htell, h65, hleft, hg2⟩ := goes_cons hg
    have hbl : b.length ≤ 100000 := by omega
    have hrl : pre.length + (r.length + 1) ≤ 200 := hpl
    refine ⟨fun σ' H' => ∃ (G' : Hp) (A' : LibA) (v4 v5 : Option V), σ' = [some (.ref a), some (.ref A.a), some (.ref fl), some (.int ((flatC (pre ++ [b])).length : Nat)), v4, v5] ∧ Same G G' ∧ Same G' H' ∧ LibM K G' H' A' (Rust.step wd b).1 (n + 1) ∧ A'.a = A.a ∧ Mu G' H' fl (.lst (acc ++ [V.int ((Rust.step wd b).2.length : Nat)] ++ octs (Rust.step wd b).2)), ?_, ?_⟩
    · rintro σ' H' ⟨G', A', v4, v5, e1, e2, e3, e4, e5, e6⟩
      refine ⟨r.length, by rw [List.length_cons]; omega, G', A', pre ++ [b], r, (Rust.step wd b).1, left - (Rust.step wd b).2.length, n + 1, _, v4, v5, rfl, by simp, e1, e2, e3, e4, e5, by rw [List.length_append]; show _ ≤ _ + 1; omega, e6, ?_, ?_, hg2⟩
      · rw [← hout]
        show _ = acc ++ (V.int _ :: (octs _ ++ outC _ r))
        simp [List.append_assoc]
      · simp only [List.length_append, List.length_singleton, octs_len]; omega
    have hat : atI (flatC (pre ++ b :: r)) (((flatC pre).length : Int) + 1) = some (.int (b.length : Nat)) := by
      have e : ((flatC pre).length : Int) + 1 = (((flatC pre).length + 1 : Nat) : Int) := by omega
      rw [e]
      exact atI_nat flat_many
    walk_at "w"
    refine w_ixL ha5 hat ?_
    walk_at "w"
    refine u_slL ha5 fun p6 G6 H6 s6 _ _ hp6 => ?_
    walk_at "w"
    rw [flat_cut] at hp6
    refine u_lstF (.inl (SqL.of (on (H := H6) hp6))) fun p7 G7 H7 s7 _ _ hp7 => ?_
    walk_at "w"
    have s67 := s6.trans s7
    refine ⟨rfl, G7, A, p7, b, wd, n, c, rfl, s7.s, lm.step s67, by omega, hp7, hbl, hask, hcan, htell, h65, fun q A' G8 H8 sL m8 ha8 hq => ?_⟩
    have : Cur G8 H8 := ⟨sL.s⟩
    have mf8 := sL.l _ _ (s67.mu mf List.not_mem_nil)
    walk_at "w"
    refine ⟨_, rfl, ?_⟩
    walk_at "w"
    refine ⟨_, _, rfl, rfl, ?_⟩
    walk_at "w"
    refine u_bmL mf8.h ?_
    walk_at "w"
    refine u_lenL (SqL.of (on (H := H8) hq)) ?_
    walk_at "w"
    rw [octs_len]
    refine u_app mf8 (by rw [sizeLine_eq]; omega) fun G9 H9 s9 _ _ mf9 => ?_
    walk_at "w"
    refine u_bmL mf9.h ?_
    walk_at "w"
    refine u_ext mf9 (on (H := H9) (s9.g _ _ hq)) (by rw [List.length_append, octs_len, sizeLine_eq]; show _ + 1 + _ ≤ _; omega) fun Ga Ha sa _ _ mfa => ?_
    walk_at "w"
    refine ⟨Ga, A', some (.int (b.length : Nat)), some (.ref q), ?_, ((g5.trans s67.g).trans sL.g).trans (s9.g.trans sa.g), sa.s, ?_, ha8, mfa⟩
    · have e : (((flatC (pre ++ [b])).length : Nat) : Int) = ((flatC pre).length : Int) + (2 + (b.length : Int)) := by
        rw [flat_app, List.length_append]
        have : (flatC [b]).length = 2 + b.length := by
          show (V.int 0 :: V.int _ :: (octs b ++ [])).length = _
          simp only [List.length_cons, List.length_append, octs_len, List.length_nil]; omega
        omega
      rw [e]; rfl
    · exact (m8.stepL mf8.h s9).stepL mf9.h sa
end
end Ck
namespace Ck
open PySem PySem.Spec PyProof.Rows L2
/-! ### the statement's row of numbers and the requests in it -/
theorem pf_call {p : Int} {r t : List Int} {c : List (List Int)} (h : PyFlat.call PyZr24.shape (p :: r) = some (c, t)) : ∃ x : List Int, p = 0 ∧ r = (x.length : Int) :: (x ++ t) ∧ c = [[0], x] := by
  unfold PyFlat.call PyZr24.shape at h
  by_cases hp : p = 0
  · subst hp
    simp only [if_pos] at h
    rw [if_neg (Nat.not_lt_zero _)] at h
    rw [List.drop_zero, List.take_zero] at h
    cases r with
    | nil => cases h
    | cons n r =>
      have e : PyFlat.rows 1 (n :: r) = if 0 ≤ n ∧ n.toNat ≤ r.length then some ([r.take n.toNat], r.drop n.toNat) else none := by
        have er : PyFlat.row (n :: r) = if 0 ≤ n ∧ n.toNat ≤ r.length then some (r.take n.toNat, r.drop n.toNat) else none := rfl
        unfold PyFlat.rows
        rw [er]
        by_cases hn : 0 ≤ n ∧ n.toNat ≤ r.length
        · rw [if_pos hn, if_pos hn]; rfl
        · rw [if_neg hn, if_neg hn]
      rw [e] at h
      split at h
      · cases h
      · rename_i xs t' hh
        split at hh
        · rename_i hn
          obtain ⟨rfl, rfl⟩ := Prod.mk.inj (Option.some.inj hh)
          obtain ⟨rfl, rfl⟩ := Prod.mk.inj (Option.some.inj h)
          refine ⟨r.take n.toNat, rfl, ?_, rfl⟩
          rw [List.take_append_drop, List.length_take]
          have e2 : ((min n.toNat r.length : Nat) : Int) = n := by omega
          rw [e2]
        · cases hh
  · dsimp only at h
    rw [if_neg hp] at h
    cases h
def flatI (rs : List (List Int)) : List Int := rs.flatMap fun x => 0 :: (x.length : Int) :: x
theorem pf_calls : ∀ (f : Nat) (l : List Int) (cs : List (List (List Int))), PyFlat.calls PyZr24.shape f l = some cs → ∃ rs : List (List Int), l = flatI rs ∧ cs = rs.map fun x => [[0], x]
  | f, [], cs, h => by
    have h : some [] = some cs := by cases f <;> exact h
    cases h
    exact ⟨[], rfl, rfl⟩
  | 0, _ :: _, cs, h => by cases h
  | f + 1, p :: r, cs, h => by
    unfold PyFlat.calls at h
    split at h
    · cases h
    · rename_i c t hc
      obtain ⟨x, rfl, rfl, rfl⟩ := pf_call hc
      split at h
      · cases h
      · rename_i cs' hcs
        obtain ⟨rs, rfl, rfl⟩ := pf_calls f _ _ hcs
        cases h
        exact ⟨x :: rs, rfl, rfl⟩
theorem whole_map (rs : List (List Int)) : (rs.map fun x => ([[0], x] : List (List Int))).map PyZr24.whole = rs.map fun x => [x] := by
  rw [List.map_map]
  exact List.map_congr_left fun x _ => rfl
theorem z_calls {l : List Int} {cs : List (List (List Int))} (h : PyZr24.calls l = some cs) : ∃ rs : List (List Int), l = flatI rs ∧ cs = rs.map fun x => [x] := by
  unfold PyZr24.calls at h
  split at h
  · cases h
  · rename_i cs' hc
    obtain ⟨rs, e, rfl⟩ := pf_calls _ _ _ hc
    cases h
    exact ⟨rs, e, whole_map rs⟩
theorem byt_octs {x : List Int} (h : NeutralIO.bytes x = true) : octs (Zr24Neutral.bytesOf x) = x.map V.int := by
  unfold octs Zr24Neutral.bytesOf
  rw [List.map_map]
  refine List.map_congr_left fun n hn => ?_
  have hb := List.all_eq_true.mp h n hn
  obtain ⟨h0, h1⟩ := Bool.and_eq_true_iff.mp hb
  have h0 := of_decide_eq_true h0
  have h1 := of_decide_eq_true h1
  show V.int ((UInt8.ofNat n.toNat).toNat : Int) = V.int n
  rw [UInt8.toNat_ofNat']
  have e : ((n.toNat % 2 ^ 8 : Nat) : Int) = n := by omega
  rw [e]
theorem flat_eq : ∀ {rs : List (List Int)}, (∀ x ∈ rs, NeutralIO.bytes x = true) → (flatI rs).map V.int = flatC (rs.map Zr24Neutral.bytesOf)
  | [], _ => rfl
  | x :: rs, h => by
    show V.int 0 :: V.int _ :: ((x ++ flatI rs).map V.int) = V.int 0 :: V.int ((Zr24Neutral.bytesOf x).length : Nat) :: (octs (Zr24Neutral.bytesOf x) ++ flatC (rs.map Zr24Neutral.bytesOf))
    rw [List.map_append, flat_eq fun y hy => h y (List.mem_cons_of_mem _ hy), byt_octs (h x List.mem_cons_self)]
    unfold Zr24Neutral.bytesOf
    rw [List.length_map]
theorem out_eq : ∀ (rs : List (List Int)) (s : SWld), (PyFlat.told (PyFlat.played (fun s c => Zr24Neutral.step s (c.headD [])) s (rs.map fun x => [x]))).map V.int = outC s (rs.map Zr24Neutral.bytesOf)
  | [], _ => rfl
  | x :: rs, s => by
    have ih := out_eq rs (Rust.step s (Zr24Neutral.bytesOf x)).1
    show V.int ((Zr24Neutral.numbersOf (Rust.step s (Zr24Neutral.bytesOf x)).2).length : Nat) :: ((Zr24Neutral.numbersOf (Rust.step s (Zr24Neutral.bytesOf x)).2 ++ PyFlat.told (PyFlat.played (fun s c => Zr24Neutral.step s (c.headD [])) (Rust.step s (Zr24Neutral.bytesOf x)).1 (rs.map fun x => [x]))).map V.int) = V.int _ :: (octs _ ++ outC _ _)
    rw [List.map_append, ih]
    unfold Zr24Neutral.numbersOf octs
    rw [List.map_map, List.length_map]
    rfl
/-- what is asked of the arguments, and what is due -/
theorem z_all {l : List Int} (h : PyZr24.answers_asked l = true) : ∃ bs : List (List UInt8), l.map V.int = flatC bs ∧ bs.length ≤ 200 ∧ Rust.goes Rust.start 4000000 bs = true ∧ (PyZr24.answers l).map V.int = outC Rust.start bs := by
  unfold PyZr24.answers_asked at h
  cases hc : PyZr24.calls l with
  | none => rw [hc] at h; cases h
  | some cs =>
    rw [hc] at h
    obtain ⟨rs, e, rfl⟩ := z_calls hc
    obtain ⟨h, _⟩ := Bool.and_eq_true_iff.mp h
    obtain ⟨_, h⟩ := Bool.and_eq_true_iff.mp h
    have em : (rs.map fun x => ([x] : List (List Int))).map (fun c => c.headD []) = rs := by
      rw [List.map_map]
      exact (List.map_congr_left fun x _ => rfl).trans (List.map_id _)
    rw [em] at h
    obtain ⟨h1, h⟩ := Bool.and_eq_true_iff.mp h
    obtain ⟨_, h⟩ := Bool.and_eq_true_iff.mp h
    obtain ⟨h, h5⟩ := Bool.and_eq_true_iff.mp h
    obtain ⟨h, _⟩ := Bool.and_eq_true_iff.mp h
    obtain ⟨h3, _⟩ := Bool.and_eq_true_iff.mp h
    refine ⟨rs.map Zr24Neutral.bytesOf, ?_, Nat.le_of_ble_eq_true h3, h5, ?_⟩
    · rw [e]
      exact flat_eq fun x hx => List.all_eq_true.mp h1 x hx
    · unfold PyZr24.answers
      rw [hc]
      exact out_eq rs Rust.start
end Ck
namespace Ck
open PySem PySem.Spec PyProof.Rows L2
open PySem.W (WData Codec OpenSpec)
open He (ga ma fAd)
/-! ### the end -/
theorem walk_ex {r : OpenSpec} {k : Nat} {q : Program} {loose : List Str} {XP : (Str → Option Value) → Heap → Prop} {YP : World → Heap → Prop} {d : DefRec} {ps : List Str} {sp : PySem.W.Frag → Sp} (hwell : r.wellSaid = true) (hlen : r.args.length = ps.length) (hr : Room k callerA)
    (F : ∀ (w : World) (mg : Str → Option Value) (fa : Addr) (h : Heap), YP w h → h.Ns mainGlobals mg → mg d.name = some (.ref fa) → ∃ (K : PySem.W.Frag) (fd : FuncData), K.In h ∧ (∀ (s : Shared) (us : List Value), us.length = ps.length → BindsTo s fd ⟨us, []⟩ (ps.zip us)) ∧ ∀ base : Heap, FnOk r.prog w K mg base CX0 k fa fd ps (sp K))
    (S : ∀ (K : PySem.W.Frag) (H : Hp) (xs : List V) (a : Codec.denoteAll r.args), Codec.withinAll r.args a = true → Codec.app r.args r.asked a = true → DwAll K H xs (Codec.encAll r.args a) → sp K xs H (fun v H' => Dw K H' v (r.ret.enc (Codec.app r.args r.f a))) fun _ _ _ => False) :
    PySem.W.WalkOS q loose XP YP r d [] (fun f vs => PySem.call f vs) := by
  intro w s₀ s₁ mg mb G Y fa o pm cd doc dV kV ho hd hcd hD hmg hg args vals as hpre hlay hrd hwl hlo
  obtain ⟨a, e1, e2⟩ := PySem.W.os_pre_some hpre
  obtain ⟨rfl, hwi⟩ := Codec.encAll_of_decAll r.args args a e1
  obtain ⟨K, fd, KX, hb, hF⟩ := F w mg fa _ Y G.T.g hmg
  have hl : (Codec.encAll r.args a).length = ps.length := (encAll_len r.args a).trans hlen
  have main := spec_call (R := []) (cl := classAt s₀.heap) (d0 := r.ret.enc (Codec.app r.args r.f a)) KX G.T.g G.T.b G.T.builtins G.T.nolimit hg hwl (pl_encAll _ _) (layable_weight hlay) hr (fun base _ _ => hF base) hb hl (fun H xs _ hS => S K H xs a hwi e2 hS) fun _ _ _ z => z
  refine PySem.W.enter_call (codeAny_mono main fun res st hq => ?_)
  obtain ⟨u, as', rfl, h1, h2, h3, h4⟩ := hq
  exact ⟨.inl ⟨u, _, as', rfl, fun _ => rfl, h1, (OpenSpec.post_iff hwell hwi _ _).mpr rfl, fun z => Bool.noConfusion (show false = true from z)⟩, h2, h3, h4⟩
theorem call {d : DefRec} (hd : d.name = ("answers" : Str)) : PySem.W.WalkOS qv names (PySem.W.XL qv []) hk.says R d [] (fun f vs => PySem.call f vs) := by
  refine walk_ex (k := 62) (ps := ["calls"]) (sp := spAnsw) said rfl ⟨by decide, by decide, by decide⟩ (fun w mg fa h Y G hmg => ?_) (fun K H xs a hwi hask hx => ?_)
  · obtain ⟨K, KX, c⟩ := Y
    have T : Txt K mg := txt_of KX G c
    rw [hd, gl_answers T] at hmg
    have e := Value.ref.inj (Option.some.inj hmg)
    obtain ⟨fd, F⟩ := T.fn d_answers (by
      unfold fnL
      simp only [List.mem_append]
      exact .inr (.inr (List.mem_of_getElem? (i := fn2.length - 1) rfl)))
    have F' : FunD K d_answers.name d_answers.qual d_answers.params d_answers.body d_answers.scope [] [] (fAd K d_answers.at_) fd := F
    refine ⟨K, fd, KX, F'.bindsA (ps := ["calls"]) (fun _ _ _ _ _ _ us hl => match us, hl with | [_], _ => rfl), fun base => ?_⟩
    rw [← e]
    exact fn_answers T F'
  · obtain ⟨l, u⟩ := a
    cases hx with
    | cons h1 h2 =>
      cases h2
      cases h1 with
      | lst hs hall =>
        have e := ints_dw l _ hall
        subst e
        have hl : l.length ≤ 61000 := by
          have q := (Bool.and_eq_true_iff.mp hwi).1
          have q := (Bool.and_eq_true_iff.mp q).1
          exact (Codec.inNat_iff.mp q).2
        obtain ⟨bs, e1, h3, h4, e2⟩ := z_all (l := l) hask
        refine ⟨rfl, H, _, bs, rfl, Same.refl H, ?_, h3, ?_, h4, fun p H' hp => ?_⟩
        · rw [← e1]; exact hs
        · rw [← e1, List.length_map]; omega
        · refine Dw.lst (SqL.of hp) ?_
          rw [← e2]
          exact dw_ints _
end Ck
open PySem PySem.W PySem.Calls PyProof.Rows in
set_option maxHeartbeats 0 in
theorem PySem.Challenge.cw_clickchains_s01_answers_holds : PySem.Challenge.rw_clickchains_s01_answers.Holds := by
  exact HandSHeadRun.head_spec (r := Ck.R) (q := Ck.qv) (H := Ck.hk) (M := 8000) (loose := Ck.names) (kwd := []) Ck.ob_eq rfl (fun s => fenceModules_id _ (by rfl) s) Ck.run (by rfl) (by rfl) (by rfl) os_shapes Ck.said Ck.chains Ck.bare Ck.some_call (Ck.call (by rfl))
