import PyProof.Rows.All
import Wide.All
import OpenK.AllK
import Wide.FinOn
import HandS.ForMost
import HandS.Exc
import HandS.ExcOwn
import HandS.TryOnly
import HandS.WordsExc
import HandS.Defaults
import HandS.Nested
import HandS.HeadHook4
import PySem.Challenge.RW_backline_k12_what_may_not_be_done
import HandS.ExcIs
import HandS.Deep
import HandS.Conv
import HandS.Walk
import HandS.Codes
import HandS.DictTup
import HandS.TupSets
import HandS.More
import KE.KDictSum
import KE.SortData
import KE.KDictCopyH
import HandS.IsInst
import HandS.ExcValue
import HandS.ListEq
import HandS.DictEq
import PyProof.EqAt
import PyProof.EqKinds
import PyProof.NeKinds
import PyProof.DictFindH
import PyProof.DictRoadsH
import KE.KEqNest
import HandS.New0
import HandS.HeadWalk
import HandS.Head0
import HandS.Head1
import HandS.Head2
set_option Elab.async false
set_option linter.all false
set_option maxRecDepth 100000
set_option maxHeartbeats 4000000
namespace Bk
open PySem L2
def top (i : Nat) : Stmt := PySem.Challenge.pw_backline_k12_what_may_not_be_done.main.body.getD i (.Pass ⟨0, 0, 0, 0⟩)
abbrev sEventInit : Stmt := inClass (top 14) 0
abbrev sThreadInit : Stmt := inClass (top 15) 0
abbrev sThreadHere : Stmt := inClass (top 15) 1
abbrev sThreadEvents : Stmt := inClass (top 15) 2
abbrev sThreadDo : Stmt := inClass (top 15) 3
abbrev sThreadWrite : Stmt := inClass (top 15) 4
abbrev sThreadPoints : Stmt := inClass (top 15) 5
abbrev sThreadStateat : Stmt := inClass (top 15) 6
abbrev sThreadCut : Stmt := inClass (top 15) 7
abbrev sThreadThrowahead : Stmt := inClass (top 15) 8
abbrev sLoomInit : Stmt := inClass (top 17) 0
abbrev sLoomThreadof : Stmt := inClass (top 17) 1
abbrev sLoomAdd : Stmt := inClass (top 17) 2
abbrev sLoomOwn : Stmt := inClass (top 17) 3
abbrev sLoomUse : Stmt := inClass (top 17) 4
abbrev sLoomWrite : Stmt := inClass (top 17) 5
abbrev sLoomPlaces : Stmt := inClass (top 17) 6
abbrev sLoomStates : Stmt := inClass (top 17) 7
abbrev sLoomLetterssent : Stmt := inClass (top 17) 8
abbrev sLoomLettersused : Stmt := inClass (top 17) 9
abbrev sLoomRoad : Stmt := inClass (top 17) 10
abbrev sLoomWordsof : Stmt := inClass (top 17) 11
abbrev sLoomPoints : Stmt := inClass (top 17) 12
abbrev sLoomRows : Stmt := inClass (top 17) 13
abbrev sLoomGoto : Stmt := inClass (top 17) 14
abbrev sLoomThrowahead : Stmt := inClass (top 17) 15
abbrev sHabitWritesevents : Stmt := inClass (top 27) 0
abbrev sHabitPiledup : Stmt := inClass (top 27) 1
abbrev sEachWritesevents : Stmt := inClass (top 29) 0
abbrev sEachPiledup : Stmt := inClass (top 29) 1
abbrev sBundleInit : Stmt := inClass (top 30) 0
abbrev sBundleWritesevents : Stmt := inClass (top 30) 1
abbrev sBundlePiledup : Stmt := inClass (top 30) 2
abbrev sNeverWritesevents : Stmt := sHabitWritesevents
abbrev sNeverPiledup : Stmt := sHabitPiledup
abbrev sbrokenby : Stmt := top 19
abbrev sallowedpoints : Stmt := top 21
abbrev spointahead : Stmt := top 22
abbrev sgreatestline : Stmt := top 23
abbrev sfall : Stmt := top 25
abbrev sLcellat : Stmt := top 32
abbrev sLmixed : Stmt := top 33
abbrev sLdigits : Stmt := top 34
abbrev sLprogram : Stmt := top 35
abbrev sLhabits : Stmt := top 36
abbrev sLbegun : Stmt := top 37
abbrev sLstate : Stmt := top 38
abbrev sLsent : Stmt := top 39
abbrev sLused : Stmt := top 40
abbrev sLfree : Stmt := top 41
abbrev sLoptions : Stmt := top 42
abbrev sLfollow : Stmt := top 43
abbrev sLact : Stmt := top 44
abbrev sLasked : Stmt := top 45
abbrev sLcut : Stmt := top 46
abbrev sLrefused : Stmt := top 47
abbrev sLbad : Stmt := top 48
abbrev sLtold : Stmt := top 49
abbrev sLlet : Stmt := top 50
abbrev slaw : Stmt := top 51
/-! the defs: where each stands, its texts -/
def dEventInit : He.DefD := ⟨("Event", some "__init__"), "__init__", "Event.__init__", defArgs sEventInit, defBody sEventInit, defScope sEventInit, [], []⟩
def dThreadInit : He.DefD := ⟨("Thread", some "__init__"), "__init__", "Thread.__init__", defArgs sThreadInit, defBody sThreadInit, defScope sThreadInit, [], []⟩
def dThreadHere : He.DefD := ⟨("Thread", some "here"), "here", "Thread.here", defArgs sThreadHere, defBody sThreadHere, defScope sThreadHere, [], []⟩
def dThreadEvents : He.DefD := ⟨("Thread", some "events"), "events", "Thread.events", defArgs sThreadEvents, defBody sThreadEvents, defScope sThreadEvents, [], []⟩
def dThreadDo : He.DefD := ⟨("Thread", some "do"), "do", "Thread.do", defArgs sThreadDo, defBody sThreadDo, defScope sThreadDo, [], []⟩
def dThreadWrite : He.DefD := ⟨("Thread", some "write"), "write", "Thread.write", defArgs sThreadWrite, defBody sThreadWrite, defScope sThreadWrite, [], []⟩
def dThreadPoints : He.DefD := ⟨("Thread", some "points"), "points", "Thread.points", defArgs sThreadPoints, defBody sThreadPoints, defScope sThreadPoints, [], []⟩
def dThreadStateat : He.DefD := ⟨("Thread", some "state_at"), "state_at", "Thread.state_at", defArgs sThreadStateat, defBody sThreadStateat, defScope sThreadStateat, [], []⟩
def dThreadCut : He.DefD := ⟨("Thread", some "cut"), "cut", "Thread.cut", defArgs sThreadCut, defBody sThreadCut, defScope sThreadCut, [], []⟩
def dThreadThrowahead : He.DefD := ⟨("Thread", some "throw_ahead"), "throw_ahead", "Thread.throw_ahead", defArgs sThreadThrowahead, defBody sThreadThrowahead, defScope sThreadThrowahead, [], []⟩
def dLoomInit : He.DefD := ⟨("Loom", some "__init__"), "__init__", "Loom.__init__", defArgs sLoomInit, defBody sLoomInit, defScope sLoomInit, [], []⟩
def dLoomThreadof : He.DefD := ⟨("Loom", some "thread_of"), "thread_of", "Loom.thread_of", defArgs sLoomThreadof, defBody sLoomThreadof, defScope sLoomThreadof, [], []⟩
def dLoomAdd : He.DefD := ⟨("Loom", some "add"), "add", "Loom.add", defArgs sLoomAdd, defBody sLoomAdd, defScope sLoomAdd, [], []⟩
def dLoomOwn : He.DefD := ⟨("Loom", some "own"), "own", "Loom.own", defArgs sLoomOwn, defBody sLoomOwn, defScope sLoomOwn, [], []⟩
def dLoomUse : He.DefD := ⟨("Loom", some "use"), "use", "Loom.use", defArgs sLoomUse, defBody sLoomUse, defScope sLoomUse, [], []⟩
def dLoomWrite : He.DefD := ⟨("Loom", some "write"), "write", "Loom.write", defArgs sLoomWrite, defBody sLoomWrite, defScope sLoomWrite, [], []⟩
def dLoomPlaces : He.DefD := ⟨("Loom", some "places"), "places", "Loom.places", defArgs sLoomPlaces, defBody sLoomPlaces, defScope sLoomPlaces, [], []⟩
def dLoomStates : He.DefD := ⟨("Loom", some "states"), "states", "Loom.states", defArgs sLoomStates, defBody sLoomStates, defScope sLoomStates, [], []⟩
def dLoomLetterssent : He.DefD := ⟨("Loom", some "letters_sent"), "letters_sent", "Loom.letters_sent", defArgs sLoomLetterssent, defBody sLoomLetterssent, defScope sLoomLetterssent, [], []⟩
def dLoomLettersused : He.DefD := ⟨("Loom", some "letters_used"), "letters_used", "Loom.letters_used", defArgs sLoomLettersused, defBody sLoomLettersused, defScope sLoomLettersused, [], []⟩
def dLoomRoad : He.DefD := ⟨("Loom", some "road"), "road", "Loom.road", defArgs sLoomRoad, defBody sLoomRoad, defScope sLoomRoad, [], []⟩
def dLoomWordsof : He.DefD := ⟨("Loom", some "words_of"), "words_of", "Loom.words_of", defArgs sLoomWordsof, defBody sLoomWordsof, defScope sLoomWordsof, [], []⟩
def dLoomPoints : He.DefD := ⟨("Loom", some "points"), "points", "Loom.points", defArgs sLoomPoints, defBody sLoomPoints, defScope sLoomPoints, [], []⟩
def dLoomRows : He.DefD := ⟨("Loom", some "rows"), "rows", "Loom.rows", defArgs sLoomRows, defBody sLoomRows, defScope sLoomRows, [], []⟩
def dLoomGoto : He.DefD := ⟨("Loom", some "go_to"), "go_to", "Loom.go_to", defArgs sLoomGoto, defBody sLoomGoto, defScope sLoomGoto, [], []⟩
def dLoomThrowahead : He.DefD := ⟨("Loom", some "throw_ahead"), "throw_ahead", "Loom.throw_ahead", defArgs sLoomThrowahead, defBody sLoomThrowahead, defScope sLoomThrowahead, [], []⟩
def dEachWritesevents : He.DefD := ⟨("Each", some "writes_events"), "writes_events", "Each.writes_events", defArgs sEachWritesevents, defBody sEachWritesevents, defScope sEachWritesevents, [], []⟩
def dEachPiledup : He.DefD := ⟨("Each", some "piled_up"), "piled_up", "Each.piled_up", defArgs sEachPiledup, defBody sEachPiledup, defScope sEachPiledup, [], []⟩
def dBundleInit : He.DefD := ⟨("Bundle", some "__init__"), "__init__", "Bundle.__init__", defArgs sBundleInit, defBody sBundleInit, defScope sBundleInit, [], []⟩
def dBundleWritesevents : He.DefD := ⟨("Bundle", some "writes_events"), "writes_events", "Bundle.writes_events", defArgs sBundleWritesevents, defBody sBundleWritesevents, defScope sBundleWritesevents, [], []⟩
def dBundlePiledup : He.DefD := ⟨("Bundle", some "piled_up"), "piled_up", "Bundle.piled_up", defArgs sBundlePiledup, defBody sBundlePiledup, defScope sBundlePiledup, [], []⟩
def dNeverWritesevents : He.DefD := ⟨("Never", some "writes_events"), "writes_events", "Habit.writes_events", defArgs sNeverWritesevents, defBody sNeverWritesevents, defScope sNeverWritesevents, [], []⟩
def dNeverPiledup : He.DefD := ⟨("Never", some "piled_up"), "piled_up", "Habit.piled_up", defArgs sNeverPiledup, defBody sNeverPiledup, defScope sNeverPiledup, [], []⟩
def dbrokenby : He.DefD := ⟨("broken_by", none), "broken_by", "broken_by", defArgs sbrokenby, defBody sbrokenby, defScope sbrokenby, [], []⟩
def dallowedpoints : He.DefD := ⟨("allowed_points", none), "allowed_points", "allowed_points", defArgs sallowedpoints, defBody sallowedpoints, defScope sallowedpoints, [], []⟩
def dpointahead : He.DefD := ⟨("point_ahead", none), "point_ahead", "point_ahead", defArgs spointahead, defBody spointahead, defScope spointahead, [], []⟩
def dgreatestline : He.DefD := ⟨("greatest_line", none), "greatest_line", "greatest_line", defArgs sgreatestline, defBody sgreatestline, defScope sgreatestline, [], []⟩
def dfall : He.DefD := ⟨("fall", none), "fall", "fall", defArgs sfall, defBody sfall, defScope sfall, [], []⟩
def dLcellat : He.DefD := ⟨("_law_cell_at", none), "_law_cell_at", "_law_cell_at", defArgs sLcellat, defBody sLcellat, defScope sLcellat, [], []⟩
def dLmixed : He.DefD := ⟨("_law_mixed", none), "_law_mixed", "_law_mixed", defArgs sLmixed, defBody sLmixed, defScope sLmixed, [], []⟩
def dLdigits : He.DefD := ⟨("_law_digits", none), "_law_digits", "_law_digits", defArgs sLdigits, defBody sLdigits, defScope sLdigits, [], []⟩
def dLprogram : He.DefD := ⟨("_law_program", none), "_law_program", "_law_program", defArgs sLprogram, defBody sLprogram, defScope sLprogram, [], []⟩
def dLhabits : He.DefD := ⟨("_law_habits", none), "_law_habits", "_law_habits", defArgs sLhabits, defBody sLhabits, defScope sLhabits, [], []⟩
def dLbegun : He.DefD := ⟨("_law_begun", none), "_law_begun", "_law_begun", defArgs sLbegun, defBody sLbegun, defScope sLbegun, [], []⟩
def dLstate : He.DefD := ⟨("_law_state", none), "_law_state", "_law_state", defArgs sLstate, defBody sLstate, defScope sLstate, [], []⟩
def dLsent : He.DefD := ⟨("_law_sent", none), "_law_sent", "_law_sent", defArgs sLsent, defBody sLsent, defScope sLsent, [], []⟩
def dLused : He.DefD := ⟨("_law_used", none), "_law_used", "_law_used", defArgs sLused, defBody sLused, defScope sLused, [], []⟩
def dLfree : He.DefD := ⟨("_law_free", none), "_law_free", "_law_free", defArgs sLfree, defBody sLfree, defScope sLfree, [], []⟩
def dLoptions : He.DefD := ⟨("_law_options", none), "_law_options", "_law_options", defArgs sLoptions, defBody sLoptions, defScope sLoptions, [], []⟩
def dLfollow : He.DefD := ⟨("_law_follow", none), "_law_follow", "_law_follow", defArgs sLfollow, defBody sLfollow, defScope sLfollow, [], []⟩
def dLact : He.DefD := ⟨("_law_act", none), "_law_act", "_law_act", defArgs sLact, defBody sLact, defScope sLact, [], []⟩
def dLasked : He.DefD := ⟨("_law_asked", none), "_law_asked", "_law_asked", defArgs sLasked, defBody sLasked, defScope sLasked, [], []⟩
def dLcut : He.DefD := ⟨("_law_cut", none), "_law_cut", "_law_cut", defArgs sLcut, defBody sLcut, defScope sLcut, [], []⟩
def dLrefused : He.DefD := ⟨("_law_refused", none), "_law_refused", "_law_refused", defArgs sLrefused, defBody sLrefused, defScope sLrefused, [], []⟩
def dLbad : He.DefD := ⟨("_law_bad", none), "_law_bad", "_law_bad", defArgs sLbad, defBody sLbad, defScope sLbad, [], []⟩
def dLtold : He.DefD := ⟨("_law_told", none), "_law_told", "_law_told", defArgs sLtold, defBody sLtold, defScope sLtold, [], []⟩
def dLlet : He.DefD := ⟨("_law_let", none), "_law_let", "_law_let", defArgs sLlet, defBody sLlet, defScope sLlet, [], []⟩
def dlaw : He.DefD := ⟨("law", none), "law", "law", defArgs slaw, defBody slaw, defScope slaw, [], []⟩
def fn : List He.DefD := [dEventInit, dThreadInit, dThreadHere, dThreadEvents, dThreadDo, dThreadWrite, dThreadPoints, dThreadStateat, dThreadCut, dThreadThrowahead, dLoomInit, dLoomThreadof, dLoomAdd, dLoomOwn, dLoomUse, dLoomWrite, dLoomPlaces, dLoomStates, dLoomLetterssent, dLoomLettersused, dLoomRoad, dLoomWordsof, dLoomPoints, dLoomRows, dLoomGoto, dLoomThrowahead, dEachWritesevents, dEachPiledup, dBundleInit, dBundleWritesevents, dBundlePiledup, dNeverWritesevents, dNeverPiledup, dbrokenby, dallowedpoints, dpointahead, dgreatestline, dfall, dLcellat, dLmixed, dLdigits, dLprogram, dLhabits, dLbegun, dLstate, dLsent, dLused, dLfree, dLoptions, dLfollow, dLact, dLasked, dLcut, dLrefused, dLbad, dLtold, dLlet, dlaw]
def fa : List He.Fa := [.glo "Event", .glo "Thread", .glo "Loom", .glo "Never", .glo "Each", .glo "Bundle", .glo "WeaveError", .glo "NoSize", .glo "NoPoint", .glo "NoHand", .glo "NoLetter", .glo "NoOrder", .glo "NoMark", .glo "TooSoon", .glo "NotDone", .glo "NoText", .glo "NoRow", .glo "NoLoom", .glo "broken_by", .glo "allowed_points", .glo "point_ahead", .glo "greatest_line", .glo "fall", .glo "_law_cell_at", .glo "_law_mixed", .glo "_law_digits", .glo "_law_program", .glo "_law_habits", .glo "_law_begun", .glo "_law_state", .glo "_law_sent", .glo "_law_used", .glo "_law_free", .glo "_law_options", .glo "_law_follow", .glo "_law_act", .glo "_law_asked", .glo "_law_cut", .glo "_law_refused", .glo "_law_bad", .glo "_law_told", .glo "_law_let", .glo "law", .free "len", .free "list", .free "range", .free "zip", .free "enumerate", .free "sorted", .free "max", .free "isinstance", .free "int", .free "ValueError", .cls "Event", .cls "Thread", .cls "Loom", .cls "Never", .cls "Each", .cls "Bundle", .noat "Event" "used", .noat "Event" "state", .noat "Event" "sent", .noat "Event" "said", .noat "Thread" "start", .noat "Thread" "habit", .noat "Thread" "done", .noat "Thread" "writings", .noat "Thread" "pile", .noat "Loom" "does", .noat "Loom" "many", .noat "Loom" "ordered", .noat "Loom" "threads", .noat "Loom" "done", .noat "Loom" "order", .noat "Bundle" "size", .meth "Thread" "here", .meth "Thread" "events", .meth "Thread" "do", .meth "Thread" "write", .meth "Thread" "points", .meth "Thread" "state_at", .meth "Thread" "cut", .meth "Thread" "throw_ahead", .meth "Loom" "thread_of", .meth "Loom" "add", .meth "Loom" "own", .meth "Loom" "use", .meth "Loom" "write", .meth "Loom" "places", .meth "Loom" "states", .meth "Loom" "letters_sent", .meth "Loom" "letters_used", .meth "Loom" "road", .meth "Loom" "words_of", .meth "Loom" "points", .meth "Loom" "rows", .meth "Loom" "go_to", .meth "Loom" "throw_ahead", .meth "Each" "writes_events", .meth "Each" "piled_up", .meth "Bundle" "writes_events", .meth "Bundle" "piled_up", .meth "Never" "writes_events", .meth "Never" "piled_up", .mkr "Event", .mkr "Thread", .mkr "Loom", .mkr "Bundle", .exm "NoHand" "WeaveError" true, .exm "NoHand" "NoSize" false, .exm "NoHand" "NoPoint" false, .exm "NoHand" "NoHand" true, .exm "NoHand" "NoLetter" false, .exm "NoHand" "NoOrder" false, .exm "NoHand" "NoMark" false, .exm "NoHand" "TooSoon" false, .exm "NoHand" "NotDone" false, .exm "NoHand" "NoText" false, .exm "NoHand" "NoRow" false, .exm "NoHand" "NoLoom" false, .exm "NoLetter" "WeaveError" true, .exm "NoLetter" "NoSize" false, .exm "NoLetter" "NoPoint" false, .exm "NoLetter" "NoHand" false, .exm "NoLetter" "NoLetter" true, .exm "NoLetter" "NoOrder" false, .exm "NoLetter" "NoMark" false, .exm "NoLetter" "TooSoon" false, .exm "NoLetter" "NotDone" false, .exm "NoLetter" "NoText" false, .exm "NoLetter" "NoRow" false, .exm "NoLetter" "NoLoom" false, .keep "WeaveError", .keep "NoSize", .keep "NoPoint", .keep "NoHand", .keep "NoLetter", .keep "NoOrder", .keep "NoMark", .keep "TooSoon", .keep "NotDone", .keep "NoText", .keep "NoRow", .keep "NoLoom"]
def exNames : List Str := ["WeaveError", "NoSize", "NoPoint", "NoHand", "NoLetter", "NoOrder", "NoMark", "TooSoon", "NotDone", "NoText", "NoRow", "NoLoom"]
/-- the extras: the two errors' classes, the classes that have no own __init__ -/
def exOne (K : PySem.W.Frag) (x : Str) : Bool := PySem.W.excIn K (He.ga K x) He.veBase "ValueError.__new__" && (decide (PySem.W.subIn K (.ref (He.ga K x)) (.type "BaseException") = some true) && (decide (PySem.W.typeIn K (.ref (He.ga K x)) = some (.type "type")) &&
  (He.eqO (PySem.W.findIn K (.ref (He.ga K x)) "__getattribute__") (some (some (.builtin "BaseException.__getattribute__"))) && (He.eqO (PySem.W.findIn K (.ref (He.ga K x)) "__getattr__") (some none) && (PySem.W.hasDictIn K (He.ga K x) &&
  (He.eqO (PySem.W.findIn K (.ref (He.ga K x)) "__class__") (some (some (.builtin "object.__class__"))) && (He.eqO (PySem.W.specialIn K (.builtin "object.__class__") "__get__") (some (some (.builtin "getset_descriptor.__get__"))) &&
  (decide (PySem.W.takesIn K (.builtin "object.__class__") = some true) && (decide (PySem.W.mroIn K (He.ga K x) (.type "object") = some true) && decide (PySem.W.kitOne K (.ref (He.ga K x)) (.type "ValueError") = some true))))))))))
def exKit (K : PySem.W.Frag) (x : Str) : Bool := exNames.all fun y => decide (PySem.W.kitOne K (.ref (He.ga K x)) (.ref (He.ga K y)) = some (decide (y = x) || decide (y = "WeaveError")))
def exNew (K : PySem.W.Frag) (x : Str) : Bool := PySem.W.makesIn K (He.ga K x) && (PySem.W.keepIn K (.ref (He.ga K x)) && (decide (PySem.W.mroIn K (He.ga K x) (.type "object") = some true) && He.eqO (PySem.W.findIn K (.ref (He.ga K x)) "__init__") (some (some (.builtin "object.__init__")))))
def exB (K : PySem.W.Frag) : Bool := (exOne K "NoHand" && exOne K "NoLetter") && ((exKit K "NoHand" && exKit K "NoLetter") && (exNew K "Never" && exNew K "Each"))
def tf : List He.Defn := [("_law_program", none)]
def names0 : List Str := ["WeaveError", "NoSize", "NoPoint", "NoHand", "NoLetter", "NoOrder", "NoMark", "TooSoon", "NotDone", "NoText", "NoRow", "NoLoom", "Event", "Thread", "Loom", "Habit", "Never", "Each", "Bundle", "broken_by"]
def names1 : List Str := ["allowed_points", "point_ahead", "greatest_line", "fall", "_law_cell_at", "_law_mixed", "_law_digits", "_law_program", "_law_habits", "_law_begun", "_law_state", "_law_sent", "_law_used", "_law_free", "_law_options", "_law_follow", "_law_act", "_law_asked", "_law_cut", "_law_refused"]
def names2 : List Str := ["_law_bad", "_law_told", "_law_let"]
def names : List Str := names0 ++ names1 ++ names2
end Bk
set_option Elab.async false
set_option linter.all false
set_option maxRecDepth 100000
set_option maxHeartbeats 4000000
namespace Bk
open PySem PySem.Spec PyProof.Rows L2
/-- what the walks ask of the text's objects -/
structure Txt (K : PySem.W.Frag) (mg : Str → Option Value) : Prop where
  d : He.SaysD fa fn K
  g : ∀ x : Str, (He.Fa.glo x).ok K = true → mg x = some (.ref (He.ga K x))
  n : ∀ x : Str, (He.Fa.free x).ok K = true → mg x = none
  ex : exB K = true
/-- a class without an own __init__ -/
structure MkN (K : PySem.W.Frag) (C : Addr) : Prop where
  makes : PySem.W.makesIn K C = true
  kp : PySem.W.keepIn K (.ref C) = true
  mro : PySem.W.mroIn K C (.type "object") = some true
  init : PySem.W.findIn K (.ref C) "__init__" = some (some (.builtin "object.__init__"))
abbrev FnP (K : PySem.W.Frag) (m ql : Str) (st : Stmt) (p : Str × Option Str) (fd : FuncData) : Prop := FunD K m ql (defArgs st) (defBody st) (defScope st) [] [] (He.fAd K p) fd
namespace Txt
variable {K : PySem.W.Frag} {mg : Str → Option Value} (T : Txt K mg)
include T
theorem g_Event : mg "Event" = some (.ref (He.ga K "Event")) := T.g _ (T.d.fact 0)
theorem g_Thread : mg "Thread" = some (.ref (He.ga K "Thread")) := T.g _ (T.d.fact 1)
theorem g_Loom : mg "Loom" = some (.ref (He.ga K "Loom")) := T.g _ (T.d.fact 2)
theorem g_Never : mg "Never" = some (.ref (He.ga K "Never")) := T.g _ (T.d.fact 3)
theorem g_Each : mg "Each" = some (.ref (He.ga K "Each")) := T.g _ (T.d.fact 4)
theorem g_Bundle : mg "Bundle" = some (.ref (He.ga K "Bundle")) := T.g _ (T.d.fact 5)
theorem g_WeaveError : mg "WeaveError" = some (.ref (He.ga K "WeaveError")) := T.g _ (T.d.fact 6)
theorem g_NoSize : mg "NoSize" = some (.ref (He.ga K "NoSize")) := T.g _ (T.d.fact 7)
theorem g_NoPoint : mg "NoPoint" = some (.ref (He.ga K "NoPoint")) := T.g _ (T.d.fact 8)
theorem g_NoHand : mg "NoHand" = some (.ref (He.ga K "NoHand")) := T.g _ (T.d.fact 9)
theorem g_NoLetter : mg "NoLetter" = some (.ref (He.ga K "NoLetter")) := T.g _ (T.d.fact 10)
theorem g_NoOrder : mg "NoOrder" = some (.ref (He.ga K "NoOrder")) := T.g _ (T.d.fact 11)
theorem g_NoMark : mg "NoMark" = some (.ref (He.ga K "NoMark")) := T.g _ (T.d.fact 12)
theorem g_TooSoon : mg "TooSoon" = some (.ref (He.ga K "TooSoon")) := T.g _ (T.d.fact 13)
theorem g_NotDone : mg "NotDone" = some (.ref (He.ga K "NotDone")) := T.g _ (T.d.fact 14)
theorem g_NoText : mg "NoText" = some (.ref (He.ga K "NoText")) := T.g _ (T.d.fact 15)
theorem g_NoRow : mg "NoRow" = some (.ref (He.ga K "NoRow")) := T.g _ (T.d.fact 16)
theorem g_NoLoom : mg "NoLoom" = some (.ref (He.ga K "NoLoom")) := T.g _ (T.d.fact 17)
theorem g_brokenby : mg "broken_by" = some (.ref (He.ga K "broken_by")) := T.g _ (T.d.fact 18)
theorem g_allowedpoints : mg "allowed_points" = some (.ref (He.ga K "allowed_points")) := T.g _ (T.d.fact 19)
theorem g_pointahead : mg "point_ahead" = some (.ref (He.ga K "point_ahead")) := T.g _ (T.d.fact 20)
theorem g_greatestline : mg "greatest_line" = some (.ref (He.ga K "greatest_line")) := T.g _ (T.d.fact 21)
theorem g_fall : mg "fall" = some (.ref (He.ga K "fall")) := T.g _ (T.d.fact 22)
theorem g_Lcellat : mg "_law_cell_at" = some (.ref (He.ga K "_law_cell_at")) := T.g _ (T.d.fact 23)
theorem g_Lmixed : mg "_law_mixed" = some (.ref (He.ga K "_law_mixed")) := T.g _ (T.d.fact 24)
theorem g_Ldigits : mg "_law_digits" = some (.ref (He.ga K "_law_digits")) := T.g _ (T.d.fact 25)
theorem g_Lprogram : mg "_law_program" = some (.ref (He.ga K "_law_program")) := T.g _ (T.d.fact 26)
theorem g_Lhabits : mg "_law_habits" = some (.ref (He.ga K "_law_habits")) := T.g _ (T.d.fact 27)
theorem g_Lbegun : mg "_law_begun" = some (.ref (He.ga K "_law_begun")) := T.g _ (T.d.fact 28)
theorem g_Lstate : mg "_law_state" = some (.ref (He.ga K "_law_state")) := T.g _ (T.d.fact 29)
theorem g_Lsent : mg "_law_sent" = some (.ref (He.ga K "_law_sent")) := T.g _ (T.d.fact 30)
theorem g_Lused : mg "_law_used" = some (.ref (He.ga K "_law_used")) := T.g _ (T.d.fact 31)
theorem g_Lfree : mg "_law_free" = some (.ref (He.ga K "_law_free")) := T.g _ (T.d.fact 32)
theorem g_Loptions : mg "_law_options" = some (.ref (He.ga K "_law_options")) := T.g _ (T.d.fact 33)
theorem g_Lfollow : mg "_law_follow" = some (.ref (He.ga K "_law_follow")) := T.g _ (T.d.fact 34)
theorem g_Lact : mg "_law_act" = some (.ref (He.ga K "_law_act")) := T.g _ (T.d.fact 35)
theorem g_Lasked : mg "_law_asked" = some (.ref (He.ga K "_law_asked")) := T.g _ (T.d.fact 36)
theorem g_Lcut : mg "_law_cut" = some (.ref (He.ga K "_law_cut")) := T.g _ (T.d.fact 37)
theorem g_Lrefused : mg "_law_refused" = some (.ref (He.ga K "_law_refused")) := T.g _ (T.d.fact 38)
theorem g_Lbad : mg "_law_bad" = some (.ref (He.ga K "_law_bad")) := T.g _ (T.d.fact 39)
theorem g_Ltold : mg "_law_told" = some (.ref (He.ga K "_law_told")) := T.g _ (T.d.fact 40)
theorem g_Llet : mg "_law_let" = some (.ref (He.ga K "_law_let")) := T.g _ (T.d.fact 41)
theorem g_law : mg "law" = some (.ref (He.ga K "law")) := T.g _ (T.d.fact 42)
theorem n_len : mg "len" = none := T.n _ (T.d.fact 43)
theorem n_list : mg "list" = none := T.n _ (T.d.fact 44)
theorem n_range : mg "range" = none := T.n _ (T.d.fact 45)
theorem n_zip : mg "zip" = none := T.n _ (T.d.fact 46)
theorem n_enumerate : mg "enumerate" = none := T.n _ (T.d.fact 47)
theorem n_sorted : mg "sorted" = none := T.n _ (T.d.fact 48)
theorem n_max : mg "max" = none := T.n _ (T.d.fact 49)
theorem n_isinstance : mg "isinstance" = none := T.n _ (T.d.fact 50)
theorem n_int : mg "int" = none := T.n _ (T.d.fact 51)
theorem n_ValueError : mg "ValueError" = none := T.n _ (T.d.fact 52)
theorem c_Event : Cls K (He.ga K "Event") := He.cls_ok (T.d.fact 53)
theorem c_Thread : Cls K (He.ga K "Thread") := He.cls_ok (T.d.fact 54)
theorem c_Loom : Cls K (He.ga K "Loom") := He.cls_ok (T.d.fact 55)
theorem c_Never : Cls K (He.ga K "Never") := He.cls_ok (T.d.fact 56)
theorem c_Each : Cls K (He.ga K "Each") := He.cls_ok (T.d.fact 57)
theorem c_Bundle : Cls K (He.ga K "Bundle") := He.cls_ok (T.d.fact 58)
theorem a_Event_used : NoAttr K (He.ga K "Event") "used" := He.noat_ok (T.d.fact 59)
theorem a_Event_state : NoAttr K (He.ga K "Event") "state" := He.noat_ok (T.d.fact 60)
theorem a_Event_sent : NoAttr K (He.ga K "Event") "sent" := He.noat_ok (T.d.fact 61)
theorem a_Event_said : NoAttr K (He.ga K "Event") "said" := He.noat_ok (T.d.fact 62)
theorem a_Thread_start : NoAttr K (He.ga K "Thread") "start" := He.noat_ok (T.d.fact 63)
theorem a_Thread_habit : NoAttr K (He.ga K "Thread") "habit" := He.noat_ok (T.d.fact 64)
theorem a_Thread_done : NoAttr K (He.ga K "Thread") "done" := He.noat_ok (T.d.fact 65)
theorem a_Thread_writings : NoAttr K (He.ga K "Thread") "writings" := He.noat_ok (T.d.fact 66)
theorem a_Thread_pile : NoAttr K (He.ga K "Thread") "pile" := He.noat_ok (T.d.fact 67)
theorem a_Loom_does : NoAttr K (He.ga K "Loom") "does" := He.noat_ok (T.d.fact 68)
theorem a_Loom_many : NoAttr K (He.ga K "Loom") "many" := He.noat_ok (T.d.fact 69)
theorem a_Loom_ordered : NoAttr K (He.ga K "Loom") "ordered" := He.noat_ok (T.d.fact 70)
theorem a_Loom_threads : NoAttr K (He.ga K "Loom") "threads" := He.noat_ok (T.d.fact 71)
theorem a_Loom_done : NoAttr K (He.ga K "Loom") "done" := He.noat_ok (T.d.fact 72)
theorem a_Loom_order : NoAttr K (He.ga K "Loom") "order" := He.noat_ok (T.d.fact 73)
theorem a_Bundle_size : NoAttr K (He.ga K "Bundle") "size" := He.noat_ok (T.d.fact 74)
theorem m_Thread_here : Meth K (He.ga K "Thread") "here" (He.fAd K ("Thread", some "here")) := He.meth_ok (T.d.fact 75)
theorem m_Thread_events : Meth K (He.ga K "Thread") "events" (He.fAd K ("Thread", some "events")) := He.meth_ok (T.d.fact 76)
theorem m_Thread_do : Meth K (He.ga K "Thread") "do" (He.fAd K ("Thread", some "do")) := He.meth_ok (T.d.fact 77)
theorem m_Thread_write : Meth K (He.ga K "Thread") "write" (He.fAd K ("Thread", some "write")) := He.meth_ok (T.d.fact 78)
theorem m_Thread_points : Meth K (He.ga K "Thread") "points" (He.fAd K ("Thread", some "points")) := He.meth_ok (T.d.fact 79)
theorem m_Thread_state_at : Meth K (He.ga K "Thread") "state_at" (He.fAd K ("Thread", some "state_at")) := He.meth_ok (T.d.fact 80)
theorem m_Thread_cut : Meth K (He.ga K "Thread") "cut" (He.fAd K ("Thread", some "cut")) := He.meth_ok (T.d.fact 81)
theorem m_Thread_throw_ahead : Meth K (He.ga K "Thread") "throw_ahead" (He.fAd K ("Thread", some "throw_ahead")) := He.meth_ok (T.d.fact 82)
theorem m_Loom_thread_of : Meth K (He.ga K "Loom") "thread_of" (He.fAd K ("Loom", some "thread_of")) := He.meth_ok (T.d.fact 83)
theorem m_Loom_add : Meth K (He.ga K "Loom") "add" (He.fAd K ("Loom", some "add")) := He.meth_ok (T.d.fact 84)
theorem m_Loom_own : Meth K (He.ga K "Loom") "own" (He.fAd K ("Loom", some "own")) := He.meth_ok (T.d.fact 85)
theorem m_Loom_use : Meth K (He.ga K "Loom") "use" (He.fAd K ("Loom", some "use")) := He.meth_ok (T.d.fact 86)
theorem m_Loom_write : Meth K (He.ga K "Loom") "write" (He.fAd K ("Loom", some "write")) := He.meth_ok (T.d.fact 87)
theorem m_Loom_places : Meth K (He.ga K "Loom") "places" (He.fAd K ("Loom", some "places")) := He.meth_ok (T.d.fact 88)
theorem m_Loom_states : Meth K (He.ga K "Loom") "states" (He.fAd K ("Loom", some "states")) := He.meth_ok (T.d.fact 89)
theorem m_Loom_letters_sent : Meth K (He.ga K "Loom") "letters_sent" (He.fAd K ("Loom", some "letters_sent")) := He.meth_ok (T.d.fact 90)
theorem m_Loom_letters_used : Meth K (He.ga K "Loom") "letters_used" (He.fAd K ("Loom", some "letters_used")) := He.meth_ok (T.d.fact 91)
theorem m_Loom_road : Meth K (He.ga K "Loom") "road" (He.fAd K ("Loom", some "road")) := He.meth_ok (T.d.fact 92)
theorem m_Loom_words_of : Meth K (He.ga K "Loom") "words_of" (He.fAd K ("Loom", some "words_of")) := He.meth_ok (T.d.fact 93)
theorem m_Loom_points : Meth K (He.ga K "Loom") "points" (He.fAd K ("Loom", some "points")) := He.meth_ok (T.d.fact 94)
theorem m_Loom_rows : Meth K (He.ga K "Loom") "rows" (He.fAd K ("Loom", some "rows")) := He.meth_ok (T.d.fact 95)
theorem m_Loom_go_to : Meth K (He.ga K "Loom") "go_to" (He.fAd K ("Loom", some "go_to")) := He.meth_ok (T.d.fact 96)
theorem m_Loom_throw_ahead : Meth K (He.ga K "Loom") "throw_ahead" (He.fAd K ("Loom", some "throw_ahead")) := He.meth_ok (T.d.fact 97)
theorem m_Each_writes_events : Meth K (He.ga K "Each") "writes_events" (He.fAd K ("Each", some "writes_events")) := He.meth_ok (T.d.fact 98)
theorem m_Each_piled_up : Meth K (He.ga K "Each") "piled_up" (He.fAd K ("Each", some "piled_up")) := He.meth_ok (T.d.fact 99)
theorem m_Bundle_writes_events : Meth K (He.ga K "Bundle") "writes_events" (He.fAd K ("Bundle", some "writes_events")) := He.meth_ok (T.d.fact 100)
theorem m_Bundle_piled_up : Meth K (He.ga K "Bundle") "piled_up" (He.fAd K ("Bundle", some "piled_up")) := He.meth_ok (T.d.fact 101)
theorem m_Never_writes_events : Meth K (He.ga K "Never") "writes_events" (He.fAd K ("Never", some "writes_events")) := He.meth_ok (T.d.fact 102)
theorem m_Never_piled_up : Meth K (He.ga K "Never") "piled_up" (He.fAd K ("Never", some "piled_up")) := He.meth_ok (T.d.fact 103)
theorem k_Event : Mk K (He.ga K "Event") (He.fAd K ("Event", some "__init__")) := He.mkr_ok (T.d.fact 104)
theorem k_Thread : Mk K (He.ga K "Thread") (He.fAd K ("Thread", some "__init__")) := He.mkr_ok (T.d.fact 105)
theorem k_Loom : Mk K (He.ga K "Loom") (He.fAd K ("Loom", some "__init__")) := He.mkr_ok (T.d.fact 106)
theorem k_Bundle : Mk K (He.ga K "Bundle") (He.fAd K ("Bundle", some "__init__")) := He.mkr_ok (T.d.fact 107)
theorem x_NoHand_WeaveError : PySem.W.exmOne K (.ref (He.ga K "NoHand")) (.ref (He.ga K "WeaveError")) = some true := He.exm_ok (T.d.fact 108)
theorem x_NoHand_NoSize : PySem.W.exmOne K (.ref (He.ga K "NoHand")) (.ref (He.ga K "NoSize")) = some false := He.exm_ok (T.d.fact 109)
theorem x_NoHand_NoPoint : PySem.W.exmOne K (.ref (He.ga K "NoHand")) (.ref (He.ga K "NoPoint")) = some false := He.exm_ok (T.d.fact 110)
theorem x_NoHand_NoHand : PySem.W.exmOne K (.ref (He.ga K "NoHand")) (.ref (He.ga K "NoHand")) = some true := He.exm_ok (T.d.fact 111)
theorem x_NoHand_NoLetter : PySem.W.exmOne K (.ref (He.ga K "NoHand")) (.ref (He.ga K "NoLetter")) = some false := He.exm_ok (T.d.fact 112)
theorem x_NoHand_NoOrder : PySem.W.exmOne K (.ref (He.ga K "NoHand")) (.ref (He.ga K "NoOrder")) = some false := He.exm_ok (T.d.fact 113)
theorem x_NoHand_NoMark : PySem.W.exmOne K (.ref (He.ga K "NoHand")) (.ref (He.ga K "NoMark")) = some false := He.exm_ok (T.d.fact 114)
theorem x_NoHand_TooSoon : PySem.W.exmOne K (.ref (He.ga K "NoHand")) (.ref (He.ga K "TooSoon")) = some false := He.exm_ok (T.d.fact 115)
theorem x_NoHand_NotDone : PySem.W.exmOne K (.ref (He.ga K "NoHand")) (.ref (He.ga K "NotDone")) = some false := He.exm_ok (T.d.fact 116)
theorem x_NoHand_NoText : PySem.W.exmOne K (.ref (He.ga K "NoHand")) (.ref (He.ga K "NoText")) = some false := He.exm_ok (T.d.fact 117)
theorem x_NoHand_NoRow : PySem.W.exmOne K (.ref (He.ga K "NoHand")) (.ref (He.ga K "NoRow")) = some false := He.exm_ok (T.d.fact 118)
theorem x_NoHand_NoLoom : PySem.W.exmOne K (.ref (He.ga K "NoHand")) (.ref (He.ga K "NoLoom")) = some false := He.exm_ok (T.d.fact 119)
theorem x_NoLetter_WeaveError : PySem.W.exmOne K (.ref (He.ga K "NoLetter")) (.ref (He.ga K "WeaveError")) = some true := He.exm_ok (T.d.fact 120)
theorem x_NoLetter_NoSize : PySem.W.exmOne K (.ref (He.ga K "NoLetter")) (.ref (He.ga K "NoSize")) = some false := He.exm_ok (T.d.fact 121)
theorem x_NoLetter_NoPoint : PySem.W.exmOne K (.ref (He.ga K "NoLetter")) (.ref (He.ga K "NoPoint")) = some false := He.exm_ok (T.d.fact 122)
theorem x_NoLetter_NoHand : PySem.W.exmOne K (.ref (He.ga K "NoLetter")) (.ref (He.ga K "NoHand")) = some false := He.exm_ok (T.d.fact 123)
theorem x_NoLetter_NoLetter : PySem.W.exmOne K (.ref (He.ga K "NoLetter")) (.ref (He.ga K "NoLetter")) = some true := He.exm_ok (T.d.fact 124)
theorem x_NoLetter_NoOrder : PySem.W.exmOne K (.ref (He.ga K "NoLetter")) (.ref (He.ga K "NoOrder")) = some false := He.exm_ok (T.d.fact 125)
theorem x_NoLetter_NoMark : PySem.W.exmOne K (.ref (He.ga K "NoLetter")) (.ref (He.ga K "NoMark")) = some false := He.exm_ok (T.d.fact 126)
theorem x_NoLetter_TooSoon : PySem.W.exmOne K (.ref (He.ga K "NoLetter")) (.ref (He.ga K "TooSoon")) = some false := He.exm_ok (T.d.fact 127)
theorem x_NoLetter_NotDone : PySem.W.exmOne K (.ref (He.ga K "NoLetter")) (.ref (He.ga K "NotDone")) = some false := He.exm_ok (T.d.fact 128)
theorem x_NoLetter_NoText : PySem.W.exmOne K (.ref (He.ga K "NoLetter")) (.ref (He.ga K "NoText")) = some false := He.exm_ok (T.d.fact 129)
theorem x_NoLetter_NoRow : PySem.W.exmOne K (.ref (He.ga K "NoLetter")) (.ref (He.ga K "NoRow")) = some false := He.exm_ok (T.d.fact 130)
theorem x_NoLetter_NoLoom : PySem.W.exmOne K (.ref (He.ga K "NoLetter")) (.ref (He.ga K "NoLoom")) = some false := He.exm_ok (T.d.fact 131)
theorem kp_WeaveError : PySem.W.keepIn K (.ref (He.ga K "WeaveError")) = true := He.keep_ok (T.d.fact 132)
theorem kp_NoSize : PySem.W.keepIn K (.ref (He.ga K "NoSize")) = true := He.keep_ok (T.d.fact 133)
theorem kp_NoPoint : PySem.W.keepIn K (.ref (He.ga K "NoPoint")) = true := He.keep_ok (T.d.fact 134)
theorem kp_NoHand : PySem.W.keepIn K (.ref (He.ga K "NoHand")) = true := He.keep_ok (T.d.fact 135)
theorem kp_NoLetter : PySem.W.keepIn K (.ref (He.ga K "NoLetter")) = true := He.keep_ok (T.d.fact 136)
theorem kp_NoOrder : PySem.W.keepIn K (.ref (He.ga K "NoOrder")) = true := He.keep_ok (T.d.fact 137)
theorem kp_NoMark : PySem.W.keepIn K (.ref (He.ga K "NoMark")) = true := He.keep_ok (T.d.fact 138)
theorem kp_TooSoon : PySem.W.keepIn K (.ref (He.ga K "TooSoon")) = true := He.keep_ok (T.d.fact 139)
theorem kp_NotDone : PySem.W.keepIn K (.ref (He.ga K "NotDone")) = true := He.keep_ok (T.d.fact 140)
theorem kp_NoText : PySem.W.keepIn K (.ref (He.ga K "NoText")) = true := He.keep_ok (T.d.fact 141)
theorem kp_NoRow : PySem.W.keepIn K (.ref (He.ga K "NoRow")) = true := He.keep_ok (T.d.fact 142)
theorem kp_NoLoom : PySem.W.keepIn K (.ref (He.ga K "NoLoom")) = true := He.keep_ok (T.d.fact 143)
theorem f_EventInit : ∃ fd, FnP K "__init__" "Event.__init__" sEventInit ("Event", some "__init__") fd := T.d.def_ 0 (d := dEventInit) rfl
theorem f_ThreadInit : ∃ fd, FnP K "__init__" "Thread.__init__" sThreadInit ("Thread", some "__init__") fd := T.d.def_ 1 (d := dThreadInit) rfl
theorem f_ThreadHere : ∃ fd, FnP K "here" "Thread.here" sThreadHere ("Thread", some "here") fd := T.d.def_ 2 (d := dThreadHere) rfl
theorem f_ThreadEvents : ∃ fd, FnP K "events" "Thread.events" sThreadEvents ("Thread", some "events") fd := T.d.def_ 3 (d := dThreadEvents) rfl
theorem f_ThreadDo : ∃ fd, FnP K "do" "Thread.do" sThreadDo ("Thread", some "do") fd := T.d.def_ 4 (d := dThreadDo) rfl
theorem f_ThreadWrite : ∃ fd, FnP K "write" "Thread.write" sThreadWrite ("Thread", some "write") fd := T.d.def_ 5 (d := dThreadWrite) rfl
theorem f_ThreadPoints : ∃ fd, FnP K "points" "Thread.points" sThreadPoints ("Thread", some "points") fd := T.d.def_ 6 (d := dThreadPoints) rfl
theorem f_ThreadStateat : ∃ fd, FnP K "state_at" "Thread.state_at" sThreadStateat ("Thread", some "state_at") fd := T.d.def_ 7 (d := dThreadStateat) rfl
theorem f_ThreadCut : ∃ fd, FnP K "cut" "Thread.cut" sThreadCut ("Thread", some "cut") fd := T.d.def_ 8 (d := dThreadCut) rfl
theorem f_ThreadThrowahead : ∃ fd, FnP K "throw_ahead" "Thread.throw_ahead" sThreadThrowahead ("Thread", some "throw_ahead") fd := T.d.def_ 9 (d := dThreadThrowahead) rfl
theorem f_LoomInit : ∃ fd, FnP K "__init__" "Loom.__init__" sLoomInit ("Loom", some "__init__") fd := T.d.def_ 10 (d := dLoomInit) rfl
theorem f_LoomThreadof : ∃ fd, FnP K "thread_of" "Loom.thread_of" sLoomThreadof ("Loom", some "thread_of") fd := T.d.def_ 11 (d := dLoomThreadof) rfl
theorem f_LoomAdd : ∃ fd, FnP K "add" "Loom.add" sLoomAdd ("Loom", some "add") fd := T.d.def_ 12 (d := dLoomAdd) rfl
theorem f_LoomOwn : ∃ fd, FnP K "own" "Loom.own" sLoomOwn ("Loom", some "own") fd := T.d.def_ 13 (d := dLoomOwn) rfl
theorem f_LoomUse : ∃ fd, FnP K "use" "Loom.use" sLoomUse ("Loom", some "use") fd := T.d.def_ 14 (d := dLoomUse) rfl
theorem f_LoomWrite : ∃ fd, FnP K "write" "Loom.write" sLoomWrite ("Loom", some "write") fd := T.d.def_ 15 (d := dLoomWrite) rfl
theorem f_LoomPlaces : ∃ fd, FnP K "places" "Loom.places" sLoomPlaces ("Loom", some "places") fd := T.d.def_ 16 (d := dLoomPlaces) rfl
theorem f_LoomStates : ∃ fd, FnP K "states" "Loom.states" sLoomStates ("Loom", some "states") fd := T.d.def_ 17 (d := dLoomStates) rfl
theorem f_LoomLetterssent : ∃ fd, FnP K "letters_sent" "Loom.letters_sent" sLoomLetterssent ("Loom", some "letters_sent") fd := T.d.def_ 18 (d := dLoomLetterssent) rfl
theorem f_LoomLettersused : ∃ fd, FnP K "letters_used" "Loom.letters_used" sLoomLettersused ("Loom", some "letters_used") fd := T.d.def_ 19 (d := dLoomLettersused) rfl
theorem f_LoomRoad : ∃ fd, FnP K "road" "Loom.road" sLoomRoad ("Loom", some "road") fd := T.d.def_ 20 (d := dLoomRoad) rfl
theorem f_LoomWordsof : ∃ fd, FnP K "words_of" "Loom.words_of" sLoomWordsof ("Loom", some "words_of") fd := T.d.def_ 21 (d := dLoomWordsof) rfl
theorem f_LoomPoints : ∃ fd, FnP K "points" "Loom.points" sLoomPoints ("Loom", some "points") fd := T.d.def_ 22 (d := dLoomPoints) rfl
theorem f_LoomRows : ∃ fd, FnP K "rows" "Loom.rows" sLoomRows ("Loom", some "rows") fd := T.d.def_ 23 (d := dLoomRows) rfl
theorem f_LoomGoto : ∃ fd, FnP K "go_to" "Loom.go_to" sLoomGoto ("Loom", some "go_to") fd := T.d.def_ 24 (d := dLoomGoto) rfl
theorem f_LoomThrowahead : ∃ fd, FnP K "throw_ahead" "Loom.throw_ahead" sLoomThrowahead ("Loom", some "throw_ahead") fd := T.d.def_ 25 (d := dLoomThrowahead) rfl
theorem f_EachWritesevents : ∃ fd, FnP K "writes_events" "Each.writes_events" sEachWritesevents ("Each", some "writes_events") fd := T.d.def_ 26 (d := dEachWritesevents) rfl
theorem f_EachPiledup : ∃ fd, FnP K "piled_up" "Each.piled_up" sEachPiledup ("Each", some "piled_up") fd := T.d.def_ 27 (d := dEachPiledup) rfl
theorem f_BundleInit : ∃ fd, FnP K "__init__" "Bundle.__init__" sBundleInit ("Bundle", some "__init__") fd := T.d.def_ 28 (d := dBundleInit) rfl
theorem f_BundleWritesevents : ∃ fd, FnP K "writes_events" "Bundle.writes_events" sBundleWritesevents ("Bundle", some "writes_events") fd := T.d.def_ 29 (d := dBundleWritesevents) rfl
theorem f_BundlePiledup : ∃ fd, FnP K "piled_up" "Bundle.piled_up" sBundlePiledup ("Bundle", some "piled_up") fd := T.d.def_ 30 (d := dBundlePiledup) rfl
theorem f_NeverWritesevents : ∃ fd, FnP K "writes_events" "Habit.writes_events" sNeverWritesevents ("Never", some "writes_events") fd := T.d.def_ 31 (d := dNeverWritesevents) rfl
theorem f_NeverPiledup : ∃ fd, FnP K "piled_up" "Habit.piled_up" sNeverPiledup ("Never", some "piled_up") fd := T.d.def_ 32 (d := dNeverPiledup) rfl
theorem f_brokenby : ∃ fd, FnP K "broken_by" "broken_by" sbrokenby ("broken_by", none) fd := T.d.def_ 33 (d := dbrokenby) rfl
theorem f_allowedpoints : ∃ fd, FnP K "allowed_points" "allowed_points" sallowedpoints ("allowed_points", none) fd := T.d.def_ 34 (d := dallowedpoints) rfl
theorem f_pointahead : ∃ fd, FnP K "point_ahead" "point_ahead" spointahead ("point_ahead", none) fd := T.d.def_ 35 (d := dpointahead) rfl
theorem f_greatestline : ∃ fd, FnP K "greatest_line" "greatest_line" sgreatestline ("greatest_line", none) fd := T.d.def_ 36 (d := dgreatestline) rfl
theorem f_fall : ∃ fd, FnP K "fall" "fall" sfall ("fall", none) fd := T.d.def_ 37 (d := dfall) rfl
theorem f_Lcellat : ∃ fd, FnP K "_law_cell_at" "_law_cell_at" sLcellat ("_law_cell_at", none) fd := T.d.def_ 38 (d := dLcellat) rfl
theorem f_Lmixed : ∃ fd, FnP K "_law_mixed" "_law_mixed" sLmixed ("_law_mixed", none) fd := T.d.def_ 39 (d := dLmixed) rfl
theorem f_Ldigits : ∃ fd, FnP K "_law_digits" "_law_digits" sLdigits ("_law_digits", none) fd := T.d.def_ 40 (d := dLdigits) rfl
theorem f_Lprogram : ∃ fd, FnP K "_law_program" "_law_program" sLprogram ("_law_program", none) fd := T.d.def_ 41 (d := dLprogram) rfl
theorem f_Lhabits : ∃ fd, FnP K "_law_habits" "_law_habits" sLhabits ("_law_habits", none) fd := T.d.def_ 42 (d := dLhabits) rfl
theorem f_Lbegun : ∃ fd, FnP K "_law_begun" "_law_begun" sLbegun ("_law_begun", none) fd := T.d.def_ 43 (d := dLbegun) rfl
theorem f_Lstate : ∃ fd, FnP K "_law_state" "_law_state" sLstate ("_law_state", none) fd := T.d.def_ 44 (d := dLstate) rfl
theorem f_Lsent : ∃ fd, FnP K "_law_sent" "_law_sent" sLsent ("_law_sent", none) fd := T.d.def_ 45 (d := dLsent) rfl
theorem f_Lused : ∃ fd, FnP K "_law_used" "_law_used" sLused ("_law_used", none) fd := T.d.def_ 46 (d := dLused) rfl
theorem f_Lfree : ∃ fd, FnP K "_law_free" "_law_free" sLfree ("_law_free", none) fd := T.d.def_ 47 (d := dLfree) rfl
theorem f_Loptions : ∃ fd, FnP K "_law_options" "_law_options" sLoptions ("_law_options", none) fd := T.d.def_ 48 (d := dLoptions) rfl
theorem f_Lfollow : ∃ fd, FnP K "_law_follow" "_law_follow" sLfollow ("_law_follow", none) fd := T.d.def_ 49 (d := dLfollow) rfl
theorem f_Lact : ∃ fd, FnP K "_law_act" "_law_act" sLact ("_law_act", none) fd := T.d.def_ 50 (d := dLact) rfl
theorem f_Lasked : ∃ fd, FnP K "_law_asked" "_law_asked" sLasked ("_law_asked", none) fd := T.d.def_ 51 (d := dLasked) rfl
theorem f_Lcut : ∃ fd, FnP K "_law_cut" "_law_cut" sLcut ("_law_cut", none) fd := T.d.def_ 52 (d := dLcut) rfl
theorem f_Lrefused : ∃ fd, FnP K "_law_refused" "_law_refused" sLrefused ("_law_refused", none) fd := T.d.def_ 53 (d := dLrefused) rfl
theorem f_Lbad : ∃ fd, FnP K "_law_bad" "_law_bad" sLbad ("_law_bad", none) fd := T.d.def_ 54 (d := dLbad) rfl
theorem f_Ltold : ∃ fd, FnP K "_law_told" "_law_told" sLtold ("_law_told", none) fd := T.d.def_ 55 (d := dLtold) rfl
theorem f_Llet : ∃ fd, FnP K "_law_let" "_law_let" sLlet ("_law_let", none) fd := T.d.def_ 56 (d := dLlet) rfl
theorem f_law : ∃ fd, FnP K "law" "law" slaw ("law", none) fd := T.d.def_ 57 (d := dlaw) rfl
theorem ex1_NoHand : exOne K "NoHand" = true := (He.ba (He.ba T.ex).1).1
theorem xi_NoHand : PySem.W.excIn K (He.ga K "NoHand") He.veBase "ValueError.__new__" = true := (He.ba T.ex1_NoHand).1
theorem xs_NoHand : PySem.W.subIn K (.ref (He.ga K "NoHand")) (.type "BaseException") = some true := of_decide_eq_true (He.ba (He.ba T.ex1_NoHand).2).1
theorem xt_NoHand : PySem.W.typeIn K (.ref (He.ga K "NoHand")) = some (.type "type") := of_decide_eq_true (He.ba (He.ba (He.ba T.ex1_NoHand).2).2).1
theorem xc_NoHand : ExcC K (He.ga K "NoHand") := by
  obtain ⟨_, h1⟩ := He.ba T.ex1_NoHand
  obtain ⟨h2, h1⟩ := He.ba h1
  obtain ⟨_, h1⟩ := He.ba h1
  obtain ⟨h3, h1⟩ := He.ba h1
  obtain ⟨h4, h1⟩ := He.ba h1
  obtain ⟨h5, h1⟩ := He.ba h1
  obtain ⟨h6, h1⟩ := He.ba h1
  obtain ⟨h7, h1⟩ := He.ba h1
  obtain ⟨h8, h1⟩ := He.ba h1
  obtain ⟨h9, h1⟩ := He.ba h1
  exact ⟨He.eqO_ok h3, He.eqO_ok h4, of_decide_eq_true h2, h5, He.eqO_ok h6, He.eqO_ok h7, of_decide_eq_true h8, of_decide_eq_true h9⟩
theorem xv_NoHand : PySem.W.kitOne K (.ref (He.ga K "NoHand")) (.type "ValueError") = some true := by
  obtain ⟨_, h1⟩ := He.ba T.ex1_NoHand
  obtain ⟨_, h1⟩ := He.ba h1
  obtain ⟨_, h1⟩ := He.ba h1
  obtain ⟨_, h1⟩ := He.ba h1
  obtain ⟨_, h1⟩ := He.ba h1
  obtain ⟨_, h1⟩ := He.ba h1
  obtain ⟨_, h1⟩ := He.ba h1
  obtain ⟨_, h1⟩ := He.ba h1
  obtain ⟨_, h1⟩ := He.ba h1
  exact of_decide_eq_true (He.ba h1).2
theorem kit_NoHand (y : Str) (h : y ∈ exNames) : PySem.W.kitOne K (.ref (He.ga K "NoHand")) (.ref (He.ga K y)) = some (decide (y = "NoHand") || decide (y = "WeaveError")) := of_decide_eq_true (List.all_eq_true.mp (He.ba (He.ba (He.ba T.ex).2).1).1 y h)
theorem ex1_NoLetter : exOne K "NoLetter" = true := (He.ba (He.ba T.ex).1).2
theorem xi_NoLetter : PySem.W.excIn K (He.ga K "NoLetter") He.veBase "ValueError.__new__" = true := (He.ba T.ex1_NoLetter).1
theorem xs_NoLetter : PySem.W.subIn K (.ref (He.ga K "NoLetter")) (.type "BaseException") = some true := of_decide_eq_true (He.ba (He.ba T.ex1_NoLetter).2).1
theorem xt_NoLetter : PySem.W.typeIn K (.ref (He.ga K "NoLetter")) = some (.type "type") := of_decide_eq_true (He.ba (He.ba (He.ba T.ex1_NoLetter).2).2).1
theorem xc_NoLetter : ExcC K (He.ga K "NoLetter") := by
  obtain ⟨_, h1⟩ := He.ba T.ex1_NoLetter
  obtain ⟨h2, h1⟩ := He.ba h1
  obtain ⟨_, h1⟩ := He.ba h1
  obtain ⟨h3, h1⟩ := He.ba h1
  obtain ⟨h4, h1⟩ := He.ba h1
  obtain ⟨h5, h1⟩ := He.ba h1
  obtain ⟨h6, h1⟩ := He.ba h1
  obtain ⟨h7, h1⟩ := He.ba h1
  obtain ⟨h8, h1⟩ := He.ba h1
  obtain ⟨h9, h1⟩ := He.ba h1
  exact ⟨He.eqO_ok h3, He.eqO_ok h4, of_decide_eq_true h2, h5, He.eqO_ok h6, He.eqO_ok h7, of_decide_eq_true h8, of_decide_eq_true h9⟩
theorem xv_NoLetter : PySem.W.kitOne K (.ref (He.ga K "NoLetter")) (.type "ValueError") = some true := by
  obtain ⟨_, h1⟩ := He.ba T.ex1_NoLetter
  obtain ⟨_, h1⟩ := He.ba h1
  obtain ⟨_, h1⟩ := He.ba h1
  obtain ⟨_, h1⟩ := He.ba h1
  obtain ⟨_, h1⟩ := He.ba h1
  obtain ⟨_, h1⟩ := He.ba h1
  obtain ⟨_, h1⟩ := He.ba h1
  obtain ⟨_, h1⟩ := He.ba h1
  obtain ⟨_, h1⟩ := He.ba h1
  exact of_decide_eq_true (He.ba h1).2
theorem kit_NoLetter (y : Str) (h : y ∈ exNames) : PySem.W.kitOne K (.ref (He.ga K "NoLetter")) (.ref (He.ga K y)) = some (decide (y = "NoLetter") || decide (y = "WeaveError")) := of_decide_eq_true (List.all_eq_true.mp (He.ba (He.ba (He.ba T.ex).2).1).2 y h)
theorem mkN_Never : MkN K (He.ga K "Never") := by
  obtain ⟨h1, h2⟩ := He.ba ((He.ba (He.ba (He.ba T.ex).2).2).1)
  obtain ⟨h2, h3⟩ := He.ba h2
  obtain ⟨h3, h4⟩ := He.ba h3
  exact ⟨h1, h2, of_decide_eq_true h3, He.eqO_ok h4⟩
theorem mkN_Each : MkN K (He.ga K "Each") := by
  obtain ⟨h1, h2⟩ := He.ba ((He.ba (He.ba (He.ba T.ex).2).2).2)
  obtain ⟨h2, h3⟩ := He.ba h2
  obtain ⟨h3, h4⟩ := He.ba h3
  exact ⟨h1, h2, of_decide_eq_true h3, He.eqO_ok h4⟩
end Txt
/-- a def keeps its promise; how it is called -/
structure OK (P : Program) (w : World) (K : PySem.W.Frag) (mg : Str → Option Value) (base : Heap) (CX : CXT) (k : Nat) (p : Str × Option Str) (ps : List Str) (sp : Sp) : Prop where
  ex : ∃ fd, FnOk P w K mg base CX k (He.fAd K p) fd ps sp ∧ L2.Binds K fd ps [] ∧ PySem.W.keepIn K (.ref (He.fAd K p)) = true
section
variable {P : Program} {w : World} {K : PySem.W.Frag} {mg : Str → Option Value} {base : Heap} {k : Nat} {m ql : Str} {st : Stmt} {p : Str × Option Str} {N ps : List Str} {sp : Sp}
/-- a def that lets no error out -/
theorem OK.mk0 (F : ∃ fd, FnP K m ql st p fd) (S : FnScope N ps (defScope st))
    (hb : ∀ (kV doc pm : Value) (an : Option Addr) (cdv ct : Value) (us : List Value), us.length = ps.length → bindArgs (PySem.W.fnOf m ql (defArgs st) (defBody st) (defScope st) .none kV doc pm an cdv ct) ⟨us, []⟩ = pure (ps.zip us))
    (len : ∀ vs H Q E, sp vs H Q E → vs.length = ps.length)
    (body : ∀ (cdv : Value) (A : Around) (outer : List Env) (s : Shared) (H : Hp) (vs : List V) (Q : VK) (E : XK), Room k (A.deeper (envOfC ql (defScope st) s.heap.objs.size (He.fAd K p) cdv)) → sp vs H Q E →
      ∃ t, PSs (cxOf CX0 P w K mg base N ql (defScope st) (He.fAd K p) cdv A outer s H E).nox (defBody st) t ∧ t { nx := fun _ H' => Q .non H', rt := Q } (L2.start N vs) H) :
    OK P w K mg base CX0 (k + 1) p ps sp := by
  obtain ⟨fd, F⟩ := F
  refine ⟨fd, F.ok S len fun cdv A outer s H vs Q E hr h => ?_, F.bindsN hb, F.kp⟩
  obtain ⟨t, ht, q⟩ := body cdv A outer s H vs Q E hr h
  exact ⟨t, ht.nox, q⟩
/-- a def that may raise -/
theorem OK.mkX (F : ∃ fd, FnP K m ql st p fd) (S : FnScope N ps (defScope st))
    (hb : ∀ (kV doc pm : Value) (an : Option Addr) (cdv ct : Value) (us : List Value), us.length = ps.length → bindArgs (PySem.W.fnOf m ql (defArgs st) (defBody st) (defScope st) .none kV doc pm an cdv ct) ⟨us, []⟩ = pure (ps.zip us))
    (len : ∀ vs H Q E, sp vs H Q E → vs.length = ps.length)
    (body : ∀ (cdv : Value) (A : Around) (outer : List Env) (s : Shared) (H : Hp) (vs : List V) (Q : VK) (E : XK), Room k (A.deeper (envOfC ql (defScope st) s.heap.objs.size (He.fAd K p) cdv)) → sp vs H Q E →
      ∃ t, PSs (cxOf (L2.CX P w) P w K mg base N ql (defScope st) (He.fAd K p) cdv A outer s H E) (defBody st) t ∧ t { nx := fun _ H' => Q .non H', rt := Q } (L2.start N vs) H) :
    OK P w K mg base (L2.CX P w) (k + 1) p ps sp := by
  obtain ⟨fd, F⟩ := F
  exact ⟨fd, F.ok S len fun cdv A outer s H vs Q E hr h => body cdv A outer s H vs Q E hr h, F.bindsN hb, F.kp⟩
end
end Bk
set_option Elab.async false
set_option linter.all false
set_option maxRecDepth 100000
set_option maxHeartbeats 4000000
namespace Bk
open PySem PySem.Spec PyProof.Rows L2
/-! ### the data -/
abbrev Nm := Int × Int × Int
abbrev Lt := Int × Int
def nmV (n : Nm) : List V := [.int n.1, .int n.2.1, .int n.2.2]
def nmK (n : Nm) : List Key := [.inl n.1, .inl n.2.1, .inl n.2.2]
theorem nmK_map (n : Nm) : (nmK n).map kV = nmV n := rfl
theorem nmK_inj {n m : Nm} (h : nmK n = nmK m) : n = m := by
  obtain ⟨a, b, c⟩ := n
  obtain ⟨d, e, f⟩ := m
  simp only [nmK, List.cons.injEq, Sum.inl.injEq, and_true] at h
  obtain ⟨rfl, rfl, rfl⟩ := h
  rfl
structure Ev where
  used : Option Nm
  state : Int
  sent : List Lt
  said : List Int
inductive Hab where
  | never | each | bundle (n : Int)
inductive Row where
  | own (h : Int) | use (h : Int) (n : Nm) | write (h : Int)
/-- a thread as plain data -/
structure Thr where
  start : Int
  hab : Hab
  evs : List Ev
  wr : List Int
  pile : Int
/-- a loom as plain data -/
structure Lm where
  many : Nat
  ord : Bool
  thr : List Thr
  done : List (Row × Int)
  order : List Nm
def Hab.writes : Hab → Bool
  | .never => false
  | _ => true
def Hab.piled : Hab → Int → Int
  | .never, p => p + 1
  | .each, _ => 0
  | .bundle n, p => if p + 1 ≥ n then 0 else p + 1
def Thr.here (t : Thr) : Int := (t.evs.length : Nat)
def Thr.state (t : Thr) : Int := match t.evs.getLast? with
  | some e => e.state
  | none => t.start
def Thr.doEv (t : Thr) (e : Ev) : Thr := { t with evs := t.evs ++ [e], pile := t.hab.piled t.pile }
def Thr.write (t : Thr) : Thr := { t with wr := if t.here ∈ t.wr then t.wr else t.wr ++ [t.here], pile := if t.hab.writes then 0 else t.pile }
def upTo (a b : Int) : List Int := (List.range (b - a).toNat).map fun k => a + (k : Nat)
def Thr.points (t : Thr) : List Int := if t.hab.writes then upTo (t.wr.headD 0) (t.here - t.pile + 1) else t.wr
def Thr.cut (t : Thr) (p : Int) (stands : Bool) : Thr :=
  if stands = true ∧ p = t.here then t else { t with evs := t.evs.take p.toNat, wr := t.wr.filter fun x => decide (x ≤ p), pile := 0 }
/-! ### roles: who may write where -/
inductive Role where
  | no | fz | lo | ld | lor | th (i : Nat) | td (i : Nat) | tw (i : Nat) | md | me | mi (i : Nat) | mo
  deriving DecidableEq
abbrev Rl := Addr → Role
def rset (ρ : Rl) (a : Addr) (r : Role) : Rl := fun b => if b = a then r else ρ b
theorem rset_same {ρ : Rl} {a : Addr} {r : Role} : rset ρ a r a = r := by
  unfold rset
  rw [if_pos rfl]
theorem rset_ne {ρ : Rl} {a b : Addr} {r : Role} (h : b ≠ a) : rset ρ a r b = ρ b := by
  unfold rset
  rw [if_neg h]
/-- what nobody writes, whatever its role -/
def Stb : HO → Prop
  | .tup _ => True
  | .ext _ => True
  | .frz _ _ => True
  | .own _ => True
  | _ => False
def Wf (ρ : Rl) (H : Hp) : Prop := ∀ b, H b = none → ρ b = .no
/-- from (ρ, H) on nothing but what has a role in M was written; new objects may have a role -/
structure Step (M : Role → Prop) (ρ : Rl) (H : Hp) (ρ' : Rl) (H' : Hp) : Prop where
  keep : ∀ b o, H b = some o → ¬ M (ρ b) → H' b = some o
  stab : ∀ b o, H b = some o → Stb o → H' b = some o
  dom : ∀ b, H' b = none → H b = none
  ext : ∀ b, H b ≠ none → ρ' b = ρ b
  wf : Wf ρ' H'
section
variable {M N : Role → Prop} {ρ ρ1 ρ2 ρ' : Rl} {H H1 H2 H' : Hp} {a b : Addr} {o o' : HO} {r : Role}
theorem Step.same (wf : Wf ρ H) (s : Same H H') : Step M ρ H ρ H' :=
  ⟨fun b o e _ => s b o e, fun b o e _ => s b o e, fun b e => s.free e, fun _ _ => rfl, fun b e => wf b (s.free e)⟩
theorem Step.refl (wf : Wf ρ H) : Step M ρ H ρ H := Step.same wf (Same.refl H)
theorem Step.trans (x : Step M ρ H ρ1 H1) (y : Step M ρ1 H1 ρ2 H2) : Step M ρ H ρ2 H2 where
  keep := fun b o e n => y.keep b o (x.keep b o e n) (by rw [x.ext b (by rw [e]; simp)]; exact n)
  stab := fun b o e n => y.stab b o (x.stab b o e n) n
  dom := fun b e => x.dom b (y.dom b e)
  ext := fun b e => (y.ext b fun z => e (x.dom b z)).trans (x.ext b e)
  wf := y.wf
theorem Step.mono (x : Step M ρ H ρ' H') (h : ∀ r, M r → N r) : Step N ρ H ρ' H' :=
  ⟨fun b o e n => x.keep b o e fun z => n (h _ z), x.stab, x.dom, x.ext, x.wf⟩
/-- an object is written -/
theorem Step.write (wf : Wf ρ H) (e : H a = some o) (m : M (ρ a)) (ns : ¬ Stb o) : Step M ρ H ρ (upd H a o') where
  keep := fun b u q n => by
    have hb : b ≠ a := fun z => n (by rw [z]; exact m)
    rw [upd_ne hb]
    exact q
  stab := fun b u q n => by
    have hb : b ≠ a := fun z => by
      rw [z, e] at q
      cases q
      exact ns n
    rw [upd_ne hb]
    exact q
  dom := fun b q => by
    by_cases hb : b = a
    · rw [hb, upd_same] at q
      cases q
    · rw [upd_ne hb] at q
      exact q
  ext := fun _ _ => rfl
  wf := fun b q => by
    by_cases hb : b = a
    · rw [hb, upd_same] at q
      cases q
    · rw [upd_ne hb] at q
      exact wf b q
/-- a new object with a role -/
theorem Step.new (wf : Wf ρ H) (e : H a = none) (r : Role) : Step M ρ H (rset ρ a r) (upd H a o) where
  keep := fun b u q _ => by
    rw [upd_ne (ne_of_none q e)]
    exact q
  stab := fun b u q _ => by
    rw [upd_ne (ne_of_none q e)]
    exact q
  dom := fun b q => by
    by_cases hb : b = a
    · rw [hb]
      exact e
    · rw [upd_ne hb] at q
      exact q
  ext := fun b q => rset_ne fun z => q (by rw [z]; exact e)
  wf := fun b q => by
    by_cases hb : b = a
    · rw [hb, upd_same] at q
      cases q
    · rw [upd_ne hb] at q
      rw [rset_ne hb]
      exact wf b q
theorem Step.new0 (wf : Wf ρ H) (e : H a = none) : Step M ρ H ρ (upd H a o) where
  keep := fun b u q _ => by
    rw [upd_ne (ne_of_none q e)]
    exact q
  stab := fun b u q _ => by
    rw [upd_ne (ne_of_none q e)]
    exact q
  dom := fun b q => by
    by_cases hb : b = a
    · rw [hb]
      exact e
    · rw [upd_ne hb] at q
      exact q
  ext := fun _ _ => rfl
  wf := fun b q => by
    by_cases hb : b = a
    · rw [hb, upd_same] at q
      cases q
    · rw [upd_ne hb] at q
      exact wf b q
/-- a role is given to what was not there at H -/
theorem Step.role (x : Step M ρ H ρ' H') (e : H a = none) (t : H' a ≠ none) (r : Role) : Step M ρ H (rset ρ' a r) H' where
  keep := x.keep
  stab := x.stab
  dom := x.dom
  ext := fun b q => by
    rw [rset_ne fun z => q (by rw [z]; exact e)]
    exact x.ext b q
  wf := fun b q => by
    rw [rset_ne fun z => t (by rw [← z]; exact q)]
    exact x.wf b q
/-- a is an object of the role r, this one -/
structure Own (ρ : Rl) (H : Hp) (a : Addr) (r : Role) (o : HO) : Prop where
  role : ρ a = r
  at_ : H a = some o
theorem Own.step (x : Own ρ H a r o) (s : Step M ρ H ρ' H') (n : ¬ M r) : Own ρ' H' a r o :=
  ⟨(s.ext a (by rw [x.at_]; simp)).trans x.role, s.keep a o x.at_ (by rw [x.role]; exact n)⟩
theorem Own.ne {r' : Role} (x : Own ρ H a r o) (y : Own ρ H b r' o') (h : r ≠ r') : a ≠ b := fun e => h (by rw [← x.role, ← y.role, e])
end
/-! ### tuples -/
def TupAt (H : Hp) (v : V) (xs : List V) : Prop := ∃ a, v = .ref a ∧ H a = some (.tup xs)
abbrev NmAt (H : Hp) (v : V) (n : Nm) : Prop := TupAt H v (nmV n)
abbrev LtAt (H : Hp) (v : V) (l : Lt) : Prop := TupAt H v [.int l.1, .int l.2]
def UsAt (H : Hp) (v : V) : Option Nm → Prop
  | none => v = .non
  | some n => NmAt H v n
def RowAt (H : Hp) (v : V) : Row → Prop
  | .own h => TupAt H v [.str "own", .int h]
  | .use h n => ∃ nv, NmAt H nv n ∧ TupAt H v [.str "use", .int h, nv]
  | .write h => TupAt H v [.str "write", .int h]
def DoneAt (H : Hp) (v : V) (d : Row × Int) : Prop := ∃ rv, RowAt H rv d.1 ∧ TupAt H v [rv, .int d.2]
/-- all tuples stay -/
def TupK (H H' : Hp) : Prop := ∀ b xs, H b = some (.tup xs) → H' b = some (.tup xs)
section
variable {M : Role → Prop} {ρ ρ' : Rl} {H H' : Hp}
theorem Step.tk (s : Step M ρ H ρ' H') : TupK H H' := fun b xs e => s.stab b _ e trivial
theorem tk_same (s : Same H H') : TupK H H' := fun b xs e => s b _ e
theorem TupAt.tk {v : V} {xs : List V} (x : TupAt H v xs) (k : TupK H H') : TupAt H' v xs := let ⟨a, e, h⟩ := x; ⟨a, e, k _ _ h⟩
theorem UsAt.tk {v : V} : ∀ {u : Option Nm}, UsAt H v u → TupK H H' → UsAt H' v u
  | none, x, _ => x
  | some _, x, k => TupAt.tk x k
theorem RowAt.tk {v : V} : ∀ {r : Row}, RowAt H v r → TupK H H' → RowAt H' v r
  | .own _, x, k => TupAt.tk x k
  | .use _ _, ⟨nv, a, b⟩, k => ⟨nv, a.tk k, b.tk k⟩
  | .write _, x, k => TupAt.tk x k
theorem DoneAt.tk {v : V} {d : Row × Int} (x : DoneAt H v d) (k : TupK H H') : DoneAt H' v d := let ⟨rv, a, b⟩ := x; ⟨rv, a.tk k, b.tk k⟩
theorem Paired.imp {α β : Type} {R S : α → β → Prop} {xs : List α} {ys : List β} (p : Paired R xs ys) (h : ∀ x y, R x y → S x y) : Paired S xs ys := L2.Paired.mapP p h
theorem Paired.tkN {xs : List V} {ys : List Nm} (p : Paired (NmAt H) xs ys) (k : TupK H H') : Paired (NmAt H') xs ys := Paired.imp p fun _ _ z => z.tk k
theorem Paired.tkL {xs : List V} {ys : List Lt} (p : Paired (LtAt H) xs ys) (k : TupK H H') : Paired (LtAt H') xs ys := Paired.imp p fun _ _ z => z.tk k
end
/-! ### events, habits, threads, looms in the heap -/
def evF (u st s w : V) : List (Str × V) := [("used", u), ("state", st), ("sent", s), ("said", w)]
def thF (st hb d wr p : V) : List (Str × V) := [("start", st), ("habit", hb), ("done", d), ("writings", wr), ("pile", p)]
def lmF (d m o t dn od : V) : List (Str × V) := [("does", d), ("many", m), ("ordered", o), ("threads", t), ("done", dn), ("order", od)]
section
variable (K : PySem.W.Frag)
abbrev CEv : Addr := He.ga K "Event"
abbrev CTh : Addr := He.ga K "Thread"
abbrev CLm : Addr := He.ga K "Loom"
abbrev CNv : Addr := He.ga K "Never"
abbrev CEa : Addr := He.ga K "Each"
abbrev CBu : Addr := He.ga K "Bundle"
def EvAt (ρ : Rl) (H : Hp) (v : V) (e : Ev) : Prop := ∃ (a dx sl wl : Addr) (u : V) (sv : List V), v = .ref a ∧ Own ρ H a .fz (.ins (CEv K) dx (evF u (.int e.state) (.ref sl) (.ref wl))) ∧ UsAt H u e.used ∧
  Own ρ H sl .fz (.lst sv) ∧ Paired (LtAt H) sv e.sent ∧ Own ρ H wl .fz (.lst (e.said.map V.int))
def HabAt (ρ : Rl) (H : Hp) (v : V) : Hab → Prop
  | .never => ∃ (a dx : Addr), v = .ref a ∧ Own ρ H a .fz (.ins (CNv K) dx [])
  | .each => ∃ (a dx : Addr), v = .ref a ∧ Own ρ H a .fz (.ins (CEa K) dx [])
  | .bundle n => ∃ (a dx : Addr), v = .ref a ∧ Own ρ H a .fz (.ins (CBu K) dx [("size", .int n)])
structure ThrAt (ρ : Rl) (H : Hp) (i : Nat) (a : Addr) (t : Thr) (dx dl wl : Addr) (hb : V) (vs : List V) : Prop where
  ob : Own ρ H a (.th i) (.ins (CTh K) dx (thF (.int t.start) hb (.ref dl) (.ref wl) (.int t.pile)))
  hab : HabAt K ρ H hb t.hab
  don : Own ρ H dl (.td i) (.lst vs)
  evs : Paired (EvAt K ρ H) vs t.evs
  wri : Own ρ H wl (.tw i) (.lst (t.wr.map V.int))
def ThrIs (ρ : Rl) (H : Hp) (i : Nat) (a : Addr) (t : Thr) : Prop := ∃ dx dl wl hb vs, ThrAt K ρ H i a t dx dl wl hb vs
end
section
variable {K : PySem.W.Frag} {M : Role → Prop} {ρ ρ' : Rl} {H H' : Hp}
theorem EvAt.step {v : V} {e : Ev} (x : EvAt K ρ H v e) (s : Step M ρ H ρ' H') (n : ¬ M .fz) : EvAt K ρ' H' v e := by
  obtain ⟨a, dx, sl, wl, u, sv, rfl, h1, h2, h3, h4, h5⟩ := x
  exact ⟨a, dx, sl, wl, u, sv, rfl, h1.step s n, h2.tk s.tk, h3.step s n, Paired.tkL h4 s.tk, h5.step s n⟩
theorem HabAt.step {v : V} : ∀ {b : Hab}, HabAt K ρ H v b → Step M ρ H ρ' H' → ¬ M .fz → HabAt K ρ' H' v b
  | .never, ⟨a, dx, e, o⟩, s, n => ⟨a, dx, e, o.step s n⟩
  | .each, ⟨a, dx, e, o⟩, s, n => ⟨a, dx, e, o.step s n⟩
  | .bundle _, ⟨a, dx, e, o⟩, s, n => ⟨a, dx, e, o.step s n⟩
theorem ThrAt.step {i : Nat} {a dx dl wl : Addr} {hb : V} {t : Thr} {vs : List V} (x : ThrAt K ρ H i a t dx dl wl hb vs) (s : Step M ρ H ρ' H') (n : ¬ M .fz) (n1 : ¬ M (.th i)) (n2 : ¬ M (.td i)) (n3 : ¬ M (.tw i)) : ThrAt K ρ' H' i a t dx dl wl hb vs :=
  ⟨x.ob.step s n1, x.hab.step s n, x.don.step s n2, Paired.imp x.evs fun _ _ z => z.step s n, x.wri.step s n3⟩
theorem ThrIs.step {i : Nat} {a : Addr} {t : Thr} (x : ThrIs K ρ H i a t) (s : Step M ρ H ρ' H') (n : ¬ M .fz) (n1 : ¬ M (.th i)) (n2 : ¬ M (.td i)) (n3 : ¬ M (.tw i)) : ThrIs K ρ' H' i a t :=
  let ⟨dx, dl, wl, hb, vs, y⟩ := x; ⟨dx, dl, wl, hb, vs, y.step s n n1 n2 n3⟩
end
/-- the roles of the i-th thread -/
def MT (i : Nat) : Role → Prop := fun r => r = .th i ∨ r = .td i ∨ r = .tw i
theorem MT_fz {i : Nat} : ¬ MT i .fz := by
  rintro (h | h | h) <;> cases h
/-- the roles of a loom -/
def ML : Role → Prop := fun r => r = .lo ∨ r = .ld ∨ r = .lor ∨ ∃ i, MT i r
theorem ML_fz : ¬ ML .fz := by
  rintro (h | h | h | ⟨i, h⟩)
  · cases h
  · cases h
  · cases h
  · exact MT_fz h
def No : Role → Prop := fun _ => False
/-! ### fields by their names -/
theorem lu_ev_used (u st s w : V) : (evF u st s w).lookup ("used" : Str) = some u := rfl
theorem put_ev_used (u st s w z : V) : putF "used" z (evF u st s w) = evF z st s w := rfl
theorem lu_ev_state (u st s w : V) : (evF u st s w).lookup ("state" : Str) = some st := rfl
theorem put_ev_state (u st s w z : V) : putF "state" z (evF u st s w) = evF u z s w := rfl
theorem lu_ev_sent (u st s w : V) : (evF u st s w).lookup ("sent" : Str) = some s := rfl
theorem put_ev_sent (u st s w z : V) : putF "sent" z (evF u st s w) = evF u st z w := rfl
theorem lu_ev_said (u st s w : V) : (evF u st s w).lookup ("said" : Str) = some w := rfl
theorem put_ev_said (u st s w z : V) : putF "said" z (evF u st s w) = evF u st s z := rfl
theorem lu_th_start (st hb d wr p : V) : (thF st hb d wr p).lookup ("start" : Str) = some st := rfl
theorem put_th_start (st hb d wr p z : V) : putF "start" z (thF st hb d wr p) = thF z hb d wr p := rfl
theorem lu_th_habit (st hb d wr p : V) : (thF st hb d wr p).lookup ("habit" : Str) = some hb := rfl
theorem put_th_habit (st hb d wr p z : V) : putF "habit" z (thF st hb d wr p) = thF st z d wr p := rfl
theorem lu_th_done (st hb d wr p : V) : (thF st hb d wr p).lookup ("done" : Str) = some d := rfl
theorem put_th_done (st hb d wr p z : V) : putF "done" z (thF st hb d wr p) = thF st hb z wr p := rfl
theorem lu_th_writings (st hb d wr p : V) : (thF st hb d wr p).lookup ("writings" : Str) = some wr := rfl
theorem put_th_writings (st hb d wr p z : V) : putF "writings" z (thF st hb d wr p) = thF st hb d z p := rfl
theorem lu_th_pile (st hb d wr p : V) : (thF st hb d wr p).lookup ("pile" : Str) = some p := rfl
theorem put_th_pile (st hb d wr p z : V) : putF "pile" z (thF st hb d wr p) = thF st hb d wr z := rfl
theorem no_th_here (st hb d wr p : V) : (thF st hb d wr p).lookup ("here" : Str) = none := rfl
theorem no_th_events (st hb d wr p : V) : (thF st hb d wr p).lookup ("events" : Str) = none := rfl
theorem no_th_do (st hb d wr p : V) : (thF st hb d wr p).lookup ("do" : Str) = none := rfl
theorem no_th_write (st hb d wr p : V) : (thF st hb d wr p).lookup ("write" : Str) = none := rfl
theorem no_th_points (st hb d wr p : V) : (thF st hb d wr p).lookup ("points" : Str) = none := rfl
theorem no_th_state_at (st hb d wr p : V) : (thF st hb d wr p).lookup ("state_at" : Str) = none := rfl
theorem no_th_cut (st hb d wr p : V) : (thF st hb d wr p).lookup ("cut" : Str) = none := rfl
theorem no_th_throw_ahead (st hb d wr p : V) : (thF st hb d wr p).lookup ("throw_ahead" : Str) = none := rfl
theorem lu_lm_does (d m o t dn od : V) : (lmF d m o t dn od).lookup ("does" : Str) = some d := rfl
theorem put_lm_does (d m o t dn od z : V) : putF "does" z (lmF d m o t dn od) = lmF z m o t dn od := rfl
theorem lu_lm_many (d m o t dn od : V) : (lmF d m o t dn od).lookup ("many" : Str) = some m := rfl
theorem put_lm_many (d m o t dn od z : V) : putF "many" z (lmF d m o t dn od) = lmF d z o t dn od := rfl
theorem lu_lm_ordered (d m o t dn od : V) : (lmF d m o t dn od).lookup ("ordered" : Str) = some o := rfl
theorem put_lm_ordered (d m o t dn od z : V) : putF "ordered" z (lmF d m o t dn od) = lmF d m z t dn od := rfl
theorem lu_lm_threads (d m o t dn od : V) : (lmF d m o t dn od).lookup ("threads" : Str) = some t := rfl
theorem put_lm_threads (d m o t dn od z : V) : putF "threads" z (lmF d m o t dn od) = lmF d m o z dn od := rfl
theorem lu_lm_done (d m o t dn od : V) : (lmF d m o t dn od).lookup ("done" : Str) = some dn := rfl
theorem put_lm_done (d m o t dn od z : V) : putF "done" z (lmF d m o t dn od) = lmF d m o t z od := rfl
theorem lu_lm_order (d m o t dn od : V) : (lmF d m o t dn od).lookup ("order" : Str) = some od := rfl
theorem put_lm_order (d m o t dn od z : V) : putF "order" z (lmF d m o t dn od) = lmF d m o t dn z := rfl
theorem no_lm_thread_of (d m o t dn od : V) : (lmF d m o t dn od).lookup ("thread_of" : Str) = none := rfl
theorem no_lm_add (d m o t dn od : V) : (lmF d m o t dn od).lookup ("add" : Str) = none := rfl
theorem no_lm_own (d m o t dn od : V) : (lmF d m o t dn od).lookup ("own" : Str) = none := rfl
theorem no_lm_use (d m o t dn od : V) : (lmF d m o t dn od).lookup ("use" : Str) = none := rfl
theorem no_lm_write (d m o t dn od : V) : (lmF d m o t dn od).lookup ("write" : Str) = none := rfl
theorem no_lm_places (d m o t dn od : V) : (lmF d m o t dn od).lookup ("places" : Str) = none := rfl
theorem no_lm_states (d m o t dn od : V) : (lmF d m o t dn od).lookup ("states" : Str) = none := rfl
theorem no_lm_letters_sent (d m o t dn od : V) : (lmF d m o t dn od).lookup ("letters_sent" : Str) = none := rfl
theorem no_lm_letters_used (d m o t dn od : V) : (lmF d m o t dn od).lookup ("letters_used" : Str) = none := rfl
theorem no_lm_road (d m o t dn od : V) : (lmF d m o t dn od).lookup ("road" : Str) = none := rfl
theorem no_lm_words_of (d m o t dn od : V) : (lmF d m o t dn od).lookup ("words_of" : Str) = none := rfl
theorem no_lm_points (d m o t dn od : V) : (lmF d m o t dn od).lookup ("points" : Str) = none := rfl
theorem no_lm_rows (d m o t dn od : V) : (lmF d m o t dn od).lookup ("rows" : Str) = none := rfl
theorem no_lm_go_to (d m o t dn od : V) : (lmF d m o t dn od).lookup ("go_to" : Str) = none := rfl
theorem no_lm_throw_ahead (d m o t dn od : V) : (lmF d m o t dn od).lookup ("throw_ahead" : Str) = none := rfl
theorem put_ev0 (u st s w : V) : putF "said" w (putF "sent" s (putF "state" st (putF "used" u []))) = evF u st s w := rfl
theorem put_th0 (st hb d wr p : V) : putF "pile" p (putF "writings" wr (putF "done" d (putF "habit" hb (putF "start" st [])))) = thF st hb d wr p := rfl
theorem put_lm0 (d m o t dn od : V) : putF "order" od (putF "done" dn (putF "threads" t (putF "ordered" o (putF "many" m (putF "does" d []))))) = lmF d m o t dn od := rfl
end Bk
set_option Elab.async false
set_option linter.all false
set_option maxRecDepth 100000
set_option maxHeartbeats 4000000
namespace Bk
open PySem PySem.Spec PyProof.Rows L2
/-- all but x stays -/
structure But (x : Addr) (H H' : Hp) : Prop where
  keep : ∀ b o, H b = some o → b ≠ x → H' b = some o
  dom : ∀ b, H' b = none → H b = none
def sp_EventInit (K : PySem.W.Frag) : Sp := fun vs H Q _ => ∃ (x dx l m : Addr) (u : V) (st : Int) (sv wv : List V), vs = [.ref x, u, .int st, .ref l, .ref m] ∧ H x = some (.ins (CEv K) dx []) ∧
  H l = some (.lst sv) ∧ H m = some (.lst wv) ∧
  ∀ (s w : Addr) (H' : Hp), H s = none → H w = none → s ≠ w → But x H H' → H' x = some (.ins (CEv K) dx (evF u (.int st) (.ref s) (.ref w))) → H' s = some (.lst sv) → H' w = some (.lst wv) → Q .non H'
section
variable {P : Program} {w : World} {K : PySem.W.Frag} {mg : Str → Option Value} {base : Heap}
theorem scEventInit : FnScope ["self", "used", "state", "sent", "said"] ["self", "used", "state", "sent", "said"] (defScope sEventInit) := ⟨rfl, rfl, rfl, by decide +kernel, rfl, by decide +kernel, by decide +kernel⟩
theorem ok_EventInit (T : Txt K mg) : OK P w K mg base CX0 1 ("Event", some "__init__") ["self", "used", "state", "sent", "said"] (sp_EventInit K) := by
  refine OK.mk0 T.f_EventInit scEventInit (fun _ _ _ _ _ _ us hl => match us, hl with | [_, _, _, _, _], _ => rfl) (fun vs H Q E h => ?_) (fun cdv A outer s H vs Q E hr h => ?_)
  · obtain ⟨x, dx, l, m, u, st, sv, wv, rfl, _⟩ := h
    rfl
  · obtain ⟨x, dx, l, m, u, st, sv, wv, rfl, hx, hl, hm, k⟩ := h
    have nlx : l ≠ x := ne_of hl hx (by intro z; cases z)
    have nmx : m ≠ x := ne_of hm hx (by intro z; cases z)
    refine ⟨_, (pss_cons (ps_fld (pv 0) (pv 1) rfl)
      (pss_cons (ps_fld (pv 0) (pv 2) rfl)
      (pss_cons (ps_fld (pv 0) (pe_callTy call_list_of (by rfl) T.n_list (by decide +kernel) (pa_cons (pv 3) pa_nil)) rfl)
      (pss_one (ps_fld (pv 0) (pe_callTy call_list_of (by rfl) T.n_list (by decide +kernel) (pa_cons (pv 4) pa_nil)) rfl))))), ?_⟩
    refine ⟨_, rfl, _, rfl, x, CEv K, dx, [], rfl, hx, T.c_Event, T.a_Event_used, (by show 0 < 1000; decide), ?_⟩
    refine ⟨_, rfl, _, rfl, x, CEv K, dx, _, rfl, upd_same, T.c_Event, T.a_Event_state, (by show 1 < 1000; decide), ?_⟩
    rw [upd_upd]
    refine ⟨_, rfl, l, sv, rfl, .inl (SqL.of (by rw [upd_ne nlx]; exact hl)), fun s hs => ?_⟩
    have nxs : x ≠ s := fun z => by
      rw [← z, upd_same] at hs
      cases hs
    have hs0 : H s = Option.none := by
      rw [upd_ne nxs.symm] at hs
      exact hs
    refine ⟨_, rfl, x, CEv K, dx, _, rfl, Eq.trans (upd_ne nxs) upd_same, T.c_Event, T.a_Event_sent, (by show 2 < 1000; decide), ?_⟩
    refine ⟨_, rfl, m, wv, rfl, .inl (SqL.of (by rw [upd_ne nmx, upd_ne (ne_of_none hm hs0), upd_ne nmx]; exact hm)), fun w hw => ?_⟩
    have nxw : x ≠ w := fun z => by
      rw [← z, upd_same] at hw
      cases hw
    have nsw : s ≠ w := fun z => by
      rw [← z, upd_ne nxs.symm, upd_same] at hw
      cases hw
    have hw0 : H w = Option.none := by
      rw [upd_ne nxw.symm, upd_ne nsw.symm, upd_ne nxw.symm] at hw
      exact hw
    refine ⟨_, rfl, x, CEv K, dx, _, rfl, Eq.trans (upd_ne nxw) upd_same, T.c_Event, T.a_Event_said, (by show 3 < 1000; decide), ?_⟩
    refine k s w _ hs0 hw0 nsw ⟨fun b o e hb => ?_, fun b e => ?_⟩ upd_same ?_ ?_
    · rw [upd_ne hb, upd_ne (ne_of_none e hw0), upd_ne hb, upd_ne (ne_of_none e hs0), upd_ne hb]
      exact e
    · by_cases b1 : b = x
      · rw [b1, upd_same] at e
        cases e
      · by_cases b2 : b = w
        · rw [b2]
          exact hw0
        · by_cases b3 : b = s
          · rw [b3]
            exact hs0
          · rw [upd_ne b1, upd_ne b2, upd_ne b1, upd_ne b3, upd_ne b1] at e
            exact e
    · rw [upd_ne nxs.symm, upd_ne nsw, upd_ne nxs.symm, upd_same]
    · rw [upd_ne nxw.symm, upd_same]
end
/-! ### habits -/
def sp_NeverWritesevents (K : PySem.W.Frag) : Sp := fun vs H Q _ => ∃ a : Addr, vs = [.ref a] ∧ Q (.bl false) H
def sp_EachWritesevents (K : PySem.W.Frag) : Sp := fun vs H Q _ => ∃ a : Addr, vs = [.ref a] ∧ Q (.bl true) H
def sp_BundleWritesevents (K : PySem.W.Frag) : Sp := fun vs H Q _ => ∃ a : Addr, vs = [.ref a] ∧ Q (.bl true) H
def sp_NeverPiledup (K : PySem.W.Frag) : Sp := fun vs H Q _ => ∃ (a : Addr) (p : Int), vs = [.ref a, .int p] ∧ Q (.int (p + 1)) H
def sp_EachPiledup (K : PySem.W.Frag) : Sp := fun vs H Q _ => ∃ (a : Addr) (p : Int), vs = [.ref a, .int p] ∧ Q (.int 0) H
def sp_BundlePiledup (K : PySem.W.Frag) : Sp := fun vs H Q _ => ∃ (a dx : Addr) (p n : Int), vs = [.ref a, .int p] ∧ H a = some (.ins (CBu K) dx [("size", .int n)]) ∧ Q (.int (Hab.piled (.bundle n) p)) H
def sp_BundleInit (K : PySem.W.Frag) : Sp := fun vs H Q _ => ∃ (x dx : Addr) (n : Int), vs = [.ref x, .int n] ∧ 1 ≤ n ∧ n ≤ 20 ∧ H x = some (.ins (CBu K) dx []) ∧ Q .non (upd H x (.ins (CBu K) dx [("size", .int n)]))
section
variable {P : Program} {w : World} {K : PySem.W.Frag} {mg : Str → Option Value} {base : Heap}
theorem scNeverWritesevents : FnScope ["self"] ["self"] (defScope sNeverWritesevents) := ⟨rfl, rfl, rfl, by decide +kernel, rfl, by decide +kernel, by decide +kernel⟩
theorem ok_NeverWritesevents (T : Txt K mg) : OK P w K mg base CX0 1 ("Never", some "writes_events") ["self"] (sp_NeverWritesevents K) := by
  refine OK.mk0 T.f_NeverWritesevents scNeverWritesevents (fun _ _ _ _ _ _ us hl => match us, hl with | [_], _ => rfl) (fun vs H Q E h => ?_) (fun cdv A outer s H vs Q E hr h => ?_)
  · obtain ⟨a, rfl, _⟩ := h
    rfl
  · obtain ⟨a, rfl, k⟩ := h
    exact ⟨_, (pss_one (ps_ret pe_bl)), k⟩
theorem scEachWritesevents : FnScope ["self"] ["self"] (defScope sEachWritesevents) := ⟨rfl, rfl, rfl, by decide +kernel, rfl, by decide +kernel, by decide +kernel⟩
theorem ok_EachWritesevents (T : Txt K mg) : OK P w K mg base CX0 1 ("Each", some "writes_events") ["self"] (sp_EachWritesevents K) := by
  refine OK.mk0 T.f_EachWritesevents scEachWritesevents (fun _ _ _ _ _ _ us hl => match us, hl with | [_], _ => rfl) (fun vs H Q E h => ?_) (fun cdv A outer s H vs Q E hr h => ?_)
  · obtain ⟨a, rfl, _⟩ := h
    rfl
  · obtain ⟨a, rfl, k⟩ := h
    exact ⟨_, (pss_one (ps_ret pe_bl)), k⟩
theorem scBundleWritesevents : FnScope ["self"] ["self"] (defScope sBundleWritesevents) := ⟨rfl, rfl, rfl, by decide +kernel, rfl, by decide +kernel, by decide +kernel⟩
theorem ok_BundleWritesevents (T : Txt K mg) : OK P w K mg base CX0 1 ("Bundle", some "writes_events") ["self"] (sp_BundleWritesevents K) := by
  refine OK.mk0 T.f_BundleWritesevents scBundleWritesevents (fun _ _ _ _ _ _ us hl => match us, hl with | [_], _ => rfl) (fun vs H Q E h => ?_) (fun cdv A outer s H vs Q E hr h => ?_)
  · obtain ⟨a, rfl, _⟩ := h
    rfl
  · obtain ⟨a, rfl, k⟩ := h
    exact ⟨_, (pss_one (ps_ret pe_bl)), k⟩
theorem scNeverPiledup : FnScope ["self", "pile"] ["self", "pile"] (defScope sNeverPiledup) := ⟨rfl, rfl, rfl, by decide +kernel, rfl, by decide +kernel, by decide +kernel⟩
theorem ok_NeverPiledup (T : Txt K mg) : OK P w K mg base CX0 1 ("Never", some "piled_up") ["self", "pile"] (sp_NeverPiledup K) := by
  refine OK.mk0 T.f_NeverPiledup scNeverPiledup (fun _ _ _ _ _ _ us hl => match us, hl with | [_, _], _ => rfl) (fun vs H Q E h => ?_) (fun cdv A outer s H vs Q E hr h => ?_)
  · obtain ⟨a, p, rfl, _⟩ := h
    rfl
  · obtain ⟨a, p, rfl, k⟩ := h
    exact ⟨_, (pss_one (ps_ret (pe_op op_add (pv 1) pe_int))), _, rfl, _, _, rfl, rfl, k⟩
theorem scEachPiledup : FnScope ["self", "pile"] ["self", "pile"] (defScope sEachPiledup) := ⟨rfl, rfl, rfl, by decide +kernel, rfl, by decide +kernel, by decide +kernel⟩
theorem ok_EachPiledup (T : Txt K mg) : OK P w K mg base CX0 1 ("Each", some "piled_up") ["self", "pile"] (sp_EachPiledup K) := by
  refine OK.mk0 T.f_EachPiledup scEachPiledup (fun _ _ _ _ _ _ us hl => match us, hl with | [_, _], _ => rfl) (fun vs H Q E h => ?_) (fun cdv A outer s H vs Q E hr h => ?_)
  · obtain ⟨a, p, rfl, _⟩ := h
    rfl
  · obtain ⟨a, p, rfl, k⟩ := h
    exact ⟨_, (pss_one (ps_ret pe_int)), k⟩
theorem scBundlePiledup : FnScope ["self", "pile"] ["self", "pile"] (defScope sBundlePiledup) := ⟨rfl, rfl, rfl, by decide +kernel, rfl, by decide +kernel, by decide +kernel⟩
theorem ok_BundlePiledup (T : Txt K mg) : OK P w K mg base CX0 1 ("Bundle", some "piled_up") ["self", "pile"] (sp_BundlePiledup K) := by
  refine OK.mk0 T.f_BundlePiledup scBundlePiledup (fun _ _ _ _ _ _ us hl => match us, hl with | [_, _], _ => rfl) (fun vs H Q E h => ?_) (fun cdv A outer s H vs Q E hr h => ?_)
  · obtain ⟨a, dx, p, n, rfl, _⟩ := h
    rfl
  · obtain ⟨a, dx, p, n, rfl, ha, k⟩ := h
    refine ⟨_, (pss_cons (ps_if (pt_cmpR op_ge (pe_op op_add (pv 1) pe_int) (pe_fld (pv 0) rfl) (nomark _)) (pss_one (ps_ret pe_int)) pss_nil)
      (pss_one (ps_ret (pe_op op_add (pv 1) pe_int)))), ?_⟩
    refine ⟨_, rfl, _, _, rfl, rfl, _, rfl, a, CBu K, dx, _, _, rfl, ha, T.c_Bundle, T.a_Bundle_size, rfl, _, _, rfl, rfl, _, rfl, ?_⟩
    by_cases q : p + 1 ≥ n
    · have e : Hab.piled (.bundle n) p = 0 := if_pos q
      rw [e] at k
      rw [decide_eq_true (show n ≤ p + 1 from q)]
      exact iteT k
    · have e : Hab.piled (.bundle n) p = p + 1 := if_neg q
      rw [e] at k
      rw [decide_eq_false (show ¬ n ≤ p + 1 from q)]
      exact iteF ⟨_, rfl, _, _, rfl, rfl, k⟩
theorem scBundleInit : FnScope ["self", "size"] ["self", "size"] (defScope sBundleInit) := ⟨rfl, rfl, rfl, by decide +kernel, rfl, by decide +kernel, by decide +kernel⟩
theorem ok_BundleInit (T : Txt K mg) : OK P w K mg base CX0 1 ("Bundle", some "__init__") ["self", "size"] (sp_BundleInit K) := by
  refine OK.mk0 T.f_BundleInit scBundleInit (fun _ _ _ _ _ _ us hl => match us, hl with | [_, _], _ => rfl) (fun vs H Q E h => ?_) (fun cdv A outer s H vs Q E hr h => ?_)
  · obtain ⟨x, dx, n, rfl, _⟩ := h
    rfl
  · obtain ⟨x, dx, n, rfl, h1, h2, hx, k⟩ := h
    refine ⟨_, (pss_cons (ps_if (PW.pt (pw_or (pt_cmpR op_lt (pv 1) pe_int (nomark _)) (pw_or1 (pt_cmpR op_gt (pv 1) pe_int (nomark _))))) (pss_one ps_never) pss_nil)
      (pss_one (ps_fld (pv 0) (pv 1) rfl))), ?_⟩
    refine ⟨_, rfl, _, _, rfl, rfl, _, rfl, ?_⟩
    rw [decide_eq_false (show ¬ n < 1 by omega)]
    refine iteF ⟨_, rfl, _, _, rfl, rfl, _, rfl, ?_⟩
    rw [decide_eq_false (show ¬ 20 < n by omega)]
    exact iteF ⟨_, rfl, _, rfl, x, CBu K, dx, [], rfl, hx, T.c_Bundle, T.a_Bundle_size, (by show 0 < 1000; decide), k⟩
end
/-! ### threads -/
def sp_ThreadInit (K : PySem.W.Frag) : Sp := fun vs H Q _ => ∃ (x dx : Addr) (st : Int) (hb : V), vs = [.ref x, .int st, hb] ∧ H x = some (.ins (CTh K) dx []) ∧
  ∀ (d r : Addr) (H' : Hp), H d = none → H r = none → d ≠ r → But x H H' → H' x = some (.ins (CTh K) dx (thF (.int st) hb (.ref d) (.ref r) (.int 0))) → H' d = some (.lst []) → H' r = some (.lst [.int 0]) → Q .non H'
def sp_ThreadHere (K : PySem.W.Frag) : Sp := fun vs H Q _ => ∃ (ρ : Rl) (i : Nat) (a : Addr) (t : Thr), vs = [.ref a] ∧ ThrIs K ρ H i a t ∧ Q (.int t.here) H
def sp_ThreadEvents (K : PySem.W.Frag) : Sp := fun vs H Q _ => ∃ (ρ : Rl) (i : Nat) (a : Addr) (t : Thr) (dx dl wl : Addr) (hb : V) (es : List V), vs = [.ref a] ∧ ThrAt K ρ H i a t dx dl wl hb es ∧ ∀ p : Addr, H p = none → Q (.ref p) (upd H p (.lst es))
def sp_ThreadDo (K : PySem.W.Frag) : Sp := fun vs H Q _ => ∃ (ρ : Rl) (i : Nat) (a : Addr) (t : Thr) (v : V) (e : Ev), vs = [.ref a, v] ∧ Wf ρ H ∧ ThrIs K ρ H i a t ∧ EvAt K ρ H v e ∧ t.evs.length < 1000 ∧
  ∀ H' : Hp, Step (MT i) ρ H ρ H' → ThrIs K ρ H' i a (t.doEv e) → Q .non H'
theorem paired_snoc {α β : Type} {R : α → β → Prop} {x : α} {y : β} (r : R x y) : ∀ {xs : List α} {ys : List β}, Paired R xs ys → Paired R (xs ++ [x]) (ys ++ [y])
  | _, _, .nil => .cons r .nil
  | _, _, .cons h t => .cons h (paired_snoc r t)
theorem paired_len {α β : Type} {R : α → β → Prop} {xs : List α} {ys : List β} (p : Paired R xs ys) : xs.length = ys.length := PySem.Paired.length p
section
variable {P : Program} {w : World} {K : PySem.W.Frag} {mg : Str → Option Value} {base : Heap}
theorem scThreadInit : FnScope ["self", "start", "habit"] ["self", "start", "habit"] (defScope sThreadInit) := ⟨rfl, rfl, rfl, by decide +kernel, rfl, by decide +kernel, by decide +kernel⟩
theorem ok_ThreadInit (T : Txt K mg) : OK P w K mg base CX0 1 ("Thread", some "__init__") ["self", "start", "habit"] (sp_ThreadInit K) := by
  refine OK.mk0 T.f_ThreadInit scThreadInit (fun _ _ _ _ _ _ us hl => match us, hl with | [_, _, _], _ => rfl) (fun vs H Q E h => ?_) (fun cdv A outer s H vs Q E hr h => ?_)
  · obtain ⟨x, dx, st, hb, rfl, _⟩ := h
    rfl
  · obtain ⟨x, dx, st, hb, rfl, hx, k⟩ := h
    refine ⟨_, (pss_cons (ps_fld (pv 0) (pv 1) rfl)
      (pss_cons (ps_fld (pv 0) (pv 2) rfl)
      (pss_cons (ps_fld (pv 0) (pe_lst pa_nil) rfl)
      (pss_cons (ps_fld (pv 0) (pe_lst (pa_cons pe_int pa_nil)) rfl)
      (pss_one (ps_fld (pv 0) pe_int rfl)))))), ?_⟩
    refine ⟨_, rfl, _, rfl, x, CTh K, dx, [], rfl, hx, T.c_Thread, T.a_Thread_start, (by show 0 < 1000; decide), ?_⟩
    refine ⟨_, rfl, _, rfl, x, CTh K, dx, _, rfl, upd_same, T.c_Thread, T.a_Thread_habit, (by show 1 < 1000; decide), ?_⟩
    rw [upd_upd]
    refine ⟨Nat.zero_le _, fun d hd => ?_⟩
    have nxd : x ≠ d := fun z => by
      rw [← z, upd_same] at hd
      cases hd
    have hd0 : H d = Option.none := by
      rw [upd_ne nxd.symm] at hd
      exact hd
    refine ⟨_, rfl, x, CTh K, dx, _, rfl, Eq.trans (upd_ne nxd) upd_same, T.c_Thread, T.a_Thread_done, (by show 2 < 1000; decide), ?_⟩
    refine ⟨(by show 1 ≤ sizeLine; decide), fun r hr' => ?_⟩
    have nxr : x ≠ r := fun z => by
      rw [← z, upd_same] at hr'
      cases hr'
    have ndr : d ≠ r := fun z => by
      rw [← z, upd_ne nxd.symm, upd_same] at hr'
      cases hr'
    have hr0 : H r = Option.none := by
      rw [upd_ne nxr.symm, upd_ne ndr.symm, upd_ne nxr.symm] at hr'
      exact hr'
    refine ⟨_, rfl, x, CTh K, dx, _, rfl, Eq.trans (upd_ne nxr) upd_same, T.c_Thread, T.a_Thread_writings, (by show 3 < 1000; decide), ?_⟩
    refine ⟨_, rfl, x, CTh K, dx, _, rfl, upd_same, T.c_Thread, T.a_Thread_pile, (by show 4 < 1000; decide), ?_⟩
    rw [upd_upd]
    refine k d r _ hd0 hr0 ndr ⟨fun b o e hb => ?_, fun b e => ?_⟩ upd_same ?_ ?_
    · rw [upd_ne hb, upd_ne (ne_of_none e hr0), upd_ne hb, upd_ne (ne_of_none e hd0), upd_ne hb]
      exact e
    · by_cases b1 : b = x
      · rw [b1, upd_same] at e
        cases e
      · by_cases b2 : b = r
        · rw [b2]
          exact hr0
        · by_cases b3 : b = d
          · rw [b3]
            exact hd0
          · rw [upd_ne b1, upd_ne b2, upd_ne b1, upd_ne b3, upd_ne b1] at e
            exact e
    · rw [upd_ne nxd.symm, upd_ne ndr, upd_ne nxd.symm, upd_same]
    · rw [upd_ne nxr.symm, upd_same]
theorem scThreadHere : FnScope ["self"] ["self"] (defScope sThreadHere) := ⟨rfl, rfl, rfl, by decide +kernel, rfl, by decide +kernel, by decide +kernel⟩
theorem ok_ThreadHere (T : Txt K mg) : OK P w K mg base CX0 1 ("Thread", some "here") ["self"] (sp_ThreadHere K) := by
  refine OK.mk0 T.f_ThreadHere scThreadHere (fun _ _ _ _ _ _ us hl => match us, hl with | [_], _ => rfl) (fun vs H Q E h => ?_) (fun cdv A outer s H vs Q E hr h => ?_)
  · obtain ⟨ρ, i, a, t, rfl, _⟩ := h
    rfl
  · obtain ⟨ρ, i, a, t, rfl, ⟨dx, dl, wl, hb, vs, X⟩, k⟩ := h
    refine ⟨_, (pss_one (ps_ret (pe_callB call_len_seq (by rfl) T.n_len PySem.boot_len (pa_cons (pe_fld (pv 0) rfl) pa_nil)))), ?_⟩
    refine ⟨_, rfl, a, CTh K, dx, _, _, rfl, X.ob.at_, T.c_Thread, T.a_Thread_done, rfl, dl, _, rfl, .inl (SqL.of X.don.at_), ?_⟩
    have e : ((vs.length : Nat) : Int) = t.here := congrArg Int.ofNat (paired_len X.evs)
    rw [e]
    exact k
theorem scThreadEvents : FnScope ["self"] ["self"] (defScope sThreadEvents) := ⟨rfl, rfl, rfl, by decide +kernel, rfl, by decide +kernel, by decide +kernel⟩
theorem ok_ThreadEvents (T : Txt K mg) : OK P w K mg base CX0 1 ("Thread", some "events") ["self"] (sp_ThreadEvents K) := by
  refine OK.mk0 T.f_ThreadEvents scThreadEvents (fun _ _ _ _ _ _ us hl => match us, hl with | [_], _ => rfl) (fun vs H Q E h => ?_) (fun cdv A outer s H vs Q E hr h => ?_)
  · obtain ⟨ρ, i, a, t, dx, dl, wl, hb, es, rfl, _⟩ := h
    rfl
  · obtain ⟨ρ, i, a, t, dx, dl, wl, hb, es, rfl, X, k⟩ := h
    refine ⟨_, (pss_one (ps_ret (pe_callTy call_list_of (by rfl) T.n_list (by decide +kernel) (pa_cons (pe_fld (pv 0) rfl) pa_nil)))), ?_⟩
    exact ⟨_, rfl, a, CTh K, dx, _, _, rfl, X.ob.at_, T.c_Thread, T.a_Thread_done, rfl, dl, _, rfl, .inl (SqL.of X.don.at_), fun p hp => k p hp⟩
theorem scThreadDo : FnScope ["self", "event"] ["self", "event"] (defScope sThreadDo) := ⟨rfl, rfl, rfl, by decide +kernel, rfl, by decide +kernel, by decide +kernel⟩
theorem do_end {ρ : Rl} {H : Hp} {i : Nat} {a dx dl wl : Addr} {t : Thr} {hb v : V} {e : Ev} {vs : List V} (wf : Wf ρ H) (X : ThrAt K ρ H i a t dx dl wl hb vs) (he : EvAt K ρ H v e) {p : Int} (hp : p = t.hab.piled t.pile) :
    Step (MT i) ρ H ρ (upd (upd H dl (.lst (vs ++ [v]))) a (.ins (CTh K) dx (thF (.int t.start) hb (.ref dl) (.ref wl) (.int p)))) ∧ ThrIs K ρ (upd (upd H dl (.lst (vs ++ [v]))) a (.ins (CTh K) dx (thF (.int t.start) hb (.ref dl) (.ref wl) (.int p)))) i a (t.doEv e) := by
  have nda : dl ≠ a := ne_of X.don.at_ X.ob.at_ (by intro z; cases z)
  have s1 : Step (MT i) ρ H ρ (upd H dl (.lst (vs ++ [v]))) := Step.write wf X.don.at_ (.inr (.inl X.don.role)) (fun z => z)
  have s2 : Step (MT i) ρ (upd H dl (.lst (vs ++ [v]))) ρ (upd (upd H dl (.lst (vs ++ [v]))) a (.ins (CTh K) dx (thF (.int t.start) hb (.ref dl) (.ref wl) (.int p)))) :=
    Step.write s1.wf ((upd_ne nda.symm).trans X.ob.at_) (.inl X.ob.role) (fun z => z)
  have s := s1.trans s2
  have nwd : wl ≠ dl := X.wri.ne X.don (by intro z; cases z)
  have nwa : wl ≠ a := X.wri.ne X.ob (by intro z; cases z)
  refine ⟨s, dx, dl, wl, hb, vs ++ [v], ⟨X.ob.role, by rw [upd_same, hp]; rfl⟩, X.hab.step s MT_fz, ⟨X.don.role, by rw [upd_ne nda, upd_same]⟩, paired_snoc (he.step s MT_fz) (Paired.imp X.evs fun _ _ z => z.step s MT_fz), ⟨X.wri.role, ?_⟩⟩
  rw [upd_ne nwa, upd_ne nwd]
  exact X.wri.at_
theorem ok_ThreadDo (T : Txt K mg) : OK P w K mg base CX0 2 ("Thread", some "do") ["self", "event"] (sp_ThreadDo K) := by
  obtain ⟨fdNeverPiledup, GNeverPiledup, bNeverPiledup, kNeverPiledup⟩ := (ok_NeverPiledup (P := P) (w := w) (base := base) T).ex
  obtain ⟨fdEachPiledup, GEachPiledup, bEachPiledup, kEachPiledup⟩ := (ok_EachPiledup (P := P) (w := w) (base := base) T).ex
  obtain ⟨fdBundlePiledup, GBundlePiledup, bBundlePiledup, kBundlePiledup⟩ := (ok_BundlePiledup (P := P) (w := w) (base := base) T).ex
  refine OK.mk0 T.f_ThreadDo scThreadDo (fun _ _ _ _ _ _ us hl => match us, hl with | [_, _], _ => rfl) (fun vs H Q E h => ?_) (fun cdv A outer s H vs Q E hr h => ?_)
  · obtain ⟨ρ, i, a, t, v, e, rfl, _⟩ := h
    rfl
  · obtain ⟨ρ, i, a, t, v, e, rfl, wf, ⟨dx, dl, wl, hb, vs, X⟩, he, hl, k⟩ := h
    have nda : dl ≠ a := ne_of X.don.at_ X.ob.at_ (by intro z; cases z)
    have hln : vs.length < sizeLine := small1000 (by rw [paired_len X.evs]; omega)
    have ha1 : upd H dl (.lst (vs ++ [v])) a = some (.ins (CTh K) dx (thF (.int t.start) hb (.ref dl) (.ref wl) (.int t.pile))) := (upd_ne nda.symm).trans X.ob.at_
    cases hh : t.hab with
    | never =>
      obtain ⟨b, db, rfl, ob⟩ : ∃ (b db : Addr), hb = .ref b ∧ Own ρ H b .fz (.ins (CNv K) db []) := by
        have z := X.hab
        rw [hh] at z
        exact z
      have nbd : b ≠ dl := ob.ne X.don (by intro z; cases z)
      refine ⟨_, (pss_cons (ps_expr (pe_bm PySem.F.plainAttrs_list PySem.F.slot_list_append PySem.F.type_list_append mt_append (pe_fld (pv 0) rfl) (pa_cons (pv 1) pa_nil)))
      (pss_one (ps_fld (pv 0) (pe_meth (pe_fld (pv 0) rfl) T.c_Never T.m_Never_piled_up GNeverPiledup (hr.mono (by decide)) bNeverPiledup .nil pass0 (pa_cons (pe_fld (pv 0) rfl) pa_nil)) rfl))), ?_⟩
      refine ⟨_, rfl, a, CTh K, dx, _, _, rfl, X.ob.at_, T.c_Thread, T.a_Thread_done, rfl, .inl ⟨rfl, _, SqL.of X.don.at_⟩, _, rfl, dl, _, _, rfl, rfl, X.don.at_, hln, ?_⟩
      refine ⟨_, rfl, a, CTh K, dx, _, _, rfl, ha1, T.c_Thread, T.a_Thread_habit, rfl, b, db, _, rfl, (upd_ne nbd).trans ob.at_, rfl, _, rfl, a, CTh K, dx, _, _, rfl, ha1, T.c_Thread, T.a_Thread_pile, rfl, b, _, rfl, ?_⟩
      refine ⟨_, rfl, a, CTh K, dx, _, rfl, ha1, T.c_Thread, T.a_Thread_pile, (by show 5 < 1000; decide), ?_⟩
      obtain ⟨q1, q2⟩ := do_end wf X he (p := t.pile + 1) (by rw [hh]; rfl)
      exact k _ q1 q2
    | each =>
      obtain ⟨b, db, rfl, ob⟩ : ∃ (b db : Addr), hb = .ref b ∧ Own ρ H b .fz (.ins (CEa K) db []) := by
        have z := X.hab
        rw [hh] at z
        exact z
      have nbd : b ≠ dl := ob.ne X.don (by intro z; cases z)
      refine ⟨_, (pss_cons (ps_expr (pe_bm PySem.F.plainAttrs_list PySem.F.slot_list_append PySem.F.type_list_append mt_append (pe_fld (pv 0) rfl) (pa_cons (pv 1) pa_nil)))
      (pss_one (ps_fld (pv 0) (pe_meth (pe_fld (pv 0) rfl) T.c_Each T.m_Each_piled_up GEachPiledup (hr.mono (by decide)) bEachPiledup .nil pass0 (pa_cons (pe_fld (pv 0) rfl) pa_nil)) rfl))), ?_⟩
      refine ⟨_, rfl, a, CTh K, dx, _, _, rfl, X.ob.at_, T.c_Thread, T.a_Thread_done, rfl, .inl ⟨rfl, _, SqL.of X.don.at_⟩, _, rfl, dl, _, _, rfl, rfl, X.don.at_, hln, ?_⟩
      refine ⟨_, rfl, a, CTh K, dx, _, _, rfl, ha1, T.c_Thread, T.a_Thread_habit, rfl, b, db, _, rfl, (upd_ne nbd).trans ob.at_, rfl, _, rfl, a, CTh K, dx, _, _, rfl, ha1, T.c_Thread, T.a_Thread_pile, rfl, b, _, rfl, ?_⟩
      refine ⟨_, rfl, a, CTh K, dx, _, rfl, ha1, T.c_Thread, T.a_Thread_pile, (by show 5 < 1000; decide), ?_⟩
      obtain ⟨q1, q2⟩ := do_end wf X he (p := 0) (by rw [hh]; rfl)
      exact k _ q1 q2
    | bundle n =>
      obtain ⟨b, db, rfl, ob⟩ : ∃ (b db : Addr), hb = .ref b ∧ Own ρ H b .fz (.ins (CBu K) db [("size", .int n)]) := by
        have z := X.hab
        rw [hh] at z
        exact z
      have nbd : b ≠ dl := ob.ne X.don (by intro z; cases z)
      refine ⟨_, (pss_cons (ps_expr (pe_bm PySem.F.plainAttrs_list PySem.F.slot_list_append PySem.F.type_list_append mt_append (pe_fld (pv 0) rfl) (pa_cons (pv 1) pa_nil)))
      (pss_one (ps_fld (pv 0) (pe_meth (pe_fld (pv 0) rfl) T.c_Bundle T.m_Bundle_piled_up GBundlePiledup (hr.mono (by decide)) bBundlePiledup .nil pass0 (pa_cons (pe_fld (pv 0) rfl) pa_nil)) rfl))), ?_⟩
      refine ⟨_, rfl, a, CTh K, dx, _, _, rfl, X.ob.at_, T.c_Thread, T.a_Thread_done, rfl, .inl ⟨rfl, _, SqL.of X.don.at_⟩, _, rfl, dl, _, _, rfl, rfl, X.don.at_, hln, ?_⟩
      refine ⟨_, rfl, a, CTh K, dx, _, _, rfl, ha1, T.c_Thread, T.a_Thread_habit, rfl, b, db, _, rfl, (upd_ne nbd).trans ob.at_, rfl, _, rfl, a, CTh K, dx, _, _, rfl, ha1, T.c_Thread, T.a_Thread_pile, rfl, b, db, _, n, rfl, (upd_ne nbd).trans ob.at_, ?_⟩
      refine ⟨_, rfl, a, CTh K, dx, _, rfl, ha1, T.c_Thread, T.a_Thread_pile, (by show 5 < 1000; decide), ?_⟩
      obtain ⟨q1, q2⟩ := do_end wf X he (p := Hab.piled (.bundle n) t.pile) (by rw [hh])
      exact k _ q1 q2
end
end Bk
set_option Elab.async false
set_option linter.all false
set_option maxRecDepth 100000
set_option maxHeartbeats 4000000
namespace Bk
open PySem PySem.Spec PyProof.Rows L2
/-- a thread of at most n deeds and writings that can always go back to 0 -/
structure Thr.Ok (n : Nat) (t : Thr) : Prop where
  hd : ∃ r, t.wr = 0 :: r
  rg : ∀ x ∈ t.wr, 0 ≤ x ∧ x ≤ t.here
  pl : 0 ≤ t.pile ∧ t.pile ≤ t.here
  ln : t.evs.length ≤ n
  lw : t.wr.length ≤ n + 1
  sn : ∀ e ∈ t.evs, e.sent.length ≤ 3
theorem inV_ints (x : Int) : ∀ xs : List Int, inV (.int x) (xs.map V.int) = decide (x ∈ xs)
  | [] => rfl
  | y :: r => by
    have ih := inV_ints x r
    unfold inV at ih ⊢
    rw [List.map_cons, List.any_cons, ih]
    by_cases h : y = x
    · subst h
      simp [eqV]
    · have h' : ¬ x = y := fun z => h z.symm
      simp [eqV, h, h']
theorem flat_ints (xs : List Int) : (xs.map V.int).all flatV = true := by
  rw [List.all_map]
  exact List.all_eq_true.mpr fun _ _ => rfl
theorem rgV_upTo (a b : Int) : rgV a b = (upTo a b).map V.int := by
  unfold rgV upTo
  rw [List.map_map]
  rfl
def sp_ThreadWrite (K : PySem.W.Frag) : Sp := fun vs H Q _ => ∃ (ρ : Rl) (i : Nat) (a : Addr) (t : Thr), vs = [.ref a] ∧ Wf ρ H ∧ ThrIs K ρ H i a t ∧ t.Ok 100 ∧
  ∀ H' : Hp, Step (MT i) ρ H ρ H' → ThrIs K ρ H' i a t.write → Q .non H'
def sp_ThreadPoints (K : PySem.W.Frag) : Sp := fun vs H Q _ => ∃ (ρ : Rl) (i : Nat) (a : Addr) (t : Thr), vs = [.ref a] ∧ ThrIs K ρ H i a t ∧ t.Ok 100 ∧
  ∀ p : Addr, H p = none → Q (.ref p) (upd H p (.lst (t.points.map V.int)))
def sp_ThreadStateat (K : PySem.W.Frag) : Sp := fun vs H Q _ => ∃ (ρ : Rl) (i : Nat) (a : Addr) (t : Thr), vs = [.ref a, .int t.here] ∧ ThrIs K ρ H i a t ∧ Q (.int t.state) H
/-- it may be cut there -/
def Thr.CutOk (t : Thr) (p : Int) (stands : Bool) : Prop := (stands = true ∧ p = t.here) ∨ p ∈ t.points
def sp_ThreadCut (K : PySem.W.Frag) : Sp := fun vs H Q _ => ∃ (ρ : Rl) (i : Nat) (a : Addr) (t : Thr) (p : Int) (st : Bool), vs = [.ref a, .int p, .bl st] ∧ Wf ρ H ∧ ThrIs K ρ H i a t ∧ t.Ok 100 ∧ t.CutOk p st ∧
  ∀ (ρ' : Rl) (H' : Hp), Step (MT i) ρ H ρ' H' → ThrIs K ρ' H' i a (t.cut p st) → Q .non H'
theorem paired_at {α β : Type} {R : α → β → Prop} : ∀ {xs : List α} {ys : List β} {i : Nat} {y : β}, Paired R xs ys → ys[i]? = some y → ∃ x, xs[i]? = some x ∧ R x y
  | _, _, _, _, .nil, e => by simp at e
  | _, _, 0, _, .cons r _, e => by
    simp at e
    subst e
    exact ⟨_, rfl, r⟩
  | _, _, i + 1, y, .cons _ t, e => by
    obtain ⟨x, h1, h2⟩ := paired_at (i := i) (y := y) t (by simpa using e)
    exact ⟨x, by simpa using h1, h2⟩
theorem ite_and {st : Bool} {A B : Prop} (h : B) (h2 : st = true → B → A) : if st = true then A else B := by
  cases st with
  | true => exact iteT (h2 rfl h)
  | false => exact iteF h
theorem ints_at {xs : List Int} {i : Nat} {x : V} (h : (xs.map V.int)[i]? = some x) : ∃ y, xs[i]? = some y ∧ x = .int y := by
  rw [List.getElem?_map] at h
  cases e : xs[i]? with
  | none =>
    rw [e] at h
    cases h
  | some y =>
    rw [e] at h
    exact ⟨y, rfl, (Option.some.inj h).symm⟩
theorem take_snoc {α : Type} {xs : List α} {i : Nat} {x : α} (h : xs[i]? = some x) : xs.take (i + 1) = xs.take i ++ [x] := by
  rw [List.take_add_one, h]
  rfl
theorem upTo_mem {a b x : Int} : x ∈ upTo a b ↔ a ≤ x ∧ x < b := by
  unfold upTo
  rw [List.mem_map]
  constructor
  · rintro ⟨k, hk, rfl⟩
    rw [List.mem_range] at hk
    omega
  · rintro ⟨h1, h2⟩
    exact ⟨(x - a).toNat, List.mem_range.mpr (by omega), by omega⟩
theorem points_rg {n : Nat} {t : Thr} {p : Int} (ok : t.Ok n) (h : p ∈ t.points) : 0 ≤ p ∧ p ≤ t.here := by
  unfold Thr.points at h
  split at h
  · obtain ⟨r, hw⟩ := ok.hd
    rw [hw] at h
    have h := upTo_mem.mp h
    have := ok.pl
    exact ⟨h.1, by omega⟩
  · exact ok.rg p h
theorem cut_to (vs : List V) {p : Int} (h : 0 ≤ p) : cutV vs none (some p) = vs.take p.toNat := by
  obtain ⟨k, rfl⟩ : ∃ k : Nat, p = (k : Int) := ⟨p.toNat, by omega⟩
  unfold cutV
  rw [HT.sIx_none, HT.sIx_nat, List.drop_zero, Nat.sub_zero, Int.toNat_natCast]
  by_cases hk : k ≤ vs.length
  · rw [Nat.min_eq_left hk]
  · rw [Nat.min_eq_right (by omega), List.take_of_length_le (Nat.le_refl _), List.take_of_length_le (by omega)]
theorem paired_take {α β : Type} {R : α → β → Prop} : ∀ (n : Nat) {xs : List α} {ys : List β}, Paired R xs ys → Paired R (xs.take n) (ys.take n)
  | 0, _, _, _ => .nil
  | _ + 1, _, _, .nil => .nil
  | n + 1, _, _, .cons r t => .cons r (paired_take n t)
theorem here_nn (t : Thr) : 0 ≤ t.here := Int.natCast_nonneg _
section
variable {P : Program} {w : World} {K : PySem.W.Frag} {mg : Str → Option Value} {base : Heap}
theorem scThreadWrite : FnScope ["self"] ["self"] (defScope sThreadWrite) := ⟨rfl, rfl, rfl, by decide +kernel, rfl, by decide +kernel, by decide +kernel⟩
theorem ok_ThreadWrite (T : Txt K mg) : OK P w K mg base CX0 2 ("Thread", some "write") ["self"] (sp_ThreadWrite K) := by
  obtain ⟨fdThreadHere, GThreadHere, bThreadHere, kThreadHere⟩ := (ok_ThreadHere (P := P) (w := w) (base := base) T).ex
  obtain ⟨fdNeverWritesevents, GNeverWritesevents, bNeverWritesevents, kNeverWritesevents⟩ := (ok_NeverWritesevents (P := P) (w := w) (base := base) T).ex
  obtain ⟨fdThreadHere, GThreadHere, bThreadHere, kThreadHere⟩ := (ok_ThreadHere (P := P) (w := w) (base := base) T).ex
  obtain ⟨fdEachWritesevents, GEachWritesevents, bEachWritesevents, kEachWritesevents⟩ := (ok_EachWritesevents (P := P) (w := w) (base := base) T).ex
  obtain ⟨fdThreadHere, GThreadHere, bThreadHere, kThreadHere⟩ := (ok_ThreadHere (P := P) (w := w) (base := base) T).ex
  obtain ⟨fdBundleWritesevents, GBundleWritesevents, bBundleWritesevents, kBundleWritesevents⟩ := (ok_BundleWritesevents (P := P) (w := w) (base := base) T).ex
  refine OK.mk0 T.f_ThreadWrite scThreadWrite (fun _ _ _ _ _ _ us hl => match us, hl with | [_], _ => rfl) (fun vs H Q E h => ?_) (fun cdv A outer s H vs Q E hr h => ?_)
  · obtain ⟨ρ, i, a, t, rfl, _⟩ := h
    rfl
  · obtain ⟨ρ, i, a, t, rfl, wf, X, ok, k⟩ := h
    obtain ⟨dx, dl, wl, hb, vs, Y⟩ := id X
    have nwa : wl ≠ a := ne_of Y.wri.at_ Y.ob.at_ (by intro z; cases z)
    have nwd : wl ≠ dl := Y.wri.ne Y.don (by intro z; cases z)
    -- what the first statement leaves
    have first : ∃ H1 : Hp, Step (MT i) ρ H ρ H1 ∧ ThrAt K ρ H1 i a { t with wr := t.write.wr } dx dl wl hb vs ∧
        (if t.here ∈ t.wr then H1 = H else H1 = upd H wl (.lst (t.wr.map V.int ++ [.int t.here]))) := by
      by_cases q : t.here ∈ t.wr
      · have e : t.write.wr = t.wr := if_pos q
        refine ⟨H, Step.refl wf, ?_, by rw [if_pos q]⟩
        rw [e]
        exact Y
      · have e : t.write.wr = t.wr ++ [t.here] := if_neg q
        have s1 : Step (MT i) ρ H ρ (upd H wl (.lst (t.wr.map V.int ++ [.int t.here]))) := Step.write wf Y.wri.at_ (.inr (.inr Y.wri.role)) (fun z => z)
        refine ⟨_, s1, ⟨⟨Y.ob.role, (upd_ne nwa.symm).trans Y.ob.at_⟩, Y.hab.step s1 MT_fz, ⟨Y.don.role, (upd_ne nwd.symm).trans Y.don.at_⟩, Paired.imp Y.evs fun _ _ z => z.step s1 MT_fz, ⟨Y.wri.role, ?_⟩⟩, by rw [if_neg q]⟩
        rw [upd_same, e, List.map_append]
        rfl
    obtain ⟨H1, s1, Y1, e1⟩ := first
    have rest : ∀ (b : Bool), b = t.hab.writes → (b = true → ∀ H2 : Hp, H2 = upd H1 a (.ins (CTh K) dx (thF (.int t.start) hb (.ref dl) (.ref wl) (.int 0))) → Q .non H2) ∧ (b = false → Q .non H1) := by
      intro b eb
      refine ⟨fun hb1 H2 e2 => ?_, fun hb0 => ?_⟩
      · have ew : t.write = { t with wr := t.write.wr, pile := 0 } := by
          unfold Thr.write
          rw [← eb, hb1]
          rfl
        have s2 : Step (MT i) ρ H1 ρ H2 := by
          rw [e2]
          exact Step.write s1.wf Y1.ob.at_ (.inl Y1.ob.role) (fun z => z)
        refine k H2 (s1.trans s2) ?_
        rw [ew]
        have nda : dl ≠ a := ne_of Y.don.at_ Y.ob.at_ (by intro z; cases z)
        refine ⟨dx, dl, wl, hb, vs, ⟨Y1.ob.role, by rw [e2]; exact upd_same⟩, Y1.hab.step s2 MT_fz, ⟨Y1.don.role, by rw [e2, upd_ne nda]; exact Y1.don.at_⟩, Paired.imp Y1.evs fun _ _ z => z.step s2 MT_fz, ⟨Y1.wri.role, by rw [e2, upd_ne nwa]; exact Y1.wri.at_⟩⟩
      · have ew : t.write = { t with wr := t.write.wr } := by
          unfold Thr.write
          rw [← eb, hb0]
          rfl
        refine k H1 s1 ?_
        rw [ew]
        exact ⟨dx, dl, wl, hb, vs, Y1⟩
    have hlw : (t.wr.map V.int).length < sizeLine := small1000 (by rw [List.length_map]; have := ok.lw; omega)
    cases hh : t.hab with
    | never =>
      obtain ⟨b, db, rfl, ob⟩ : ∃ (b db : Addr), hb = .ref b ∧ Own ρ H b .fz (.ins (CNv K) db []) := by
        have z := Y.hab
        rw [hh] at z
        exact z
      obtain ⟨r1, r2⟩ := rest false (by rw [hh]; rfl)
      refine ⟨_, (pss_cons (ps_if (pt_cmpR op_notIn_seq (pe_meth0 (pv 0) T.c_Thread T.m_Thread_here GThreadHere (hr.mono (by decide)) bThreadHere .nil pass0) (pe_fld (pv 0) rfl) (by with_unfolding_all rfl)) (pss_one (ps_expr (pe_bm PySem.F.plainAttrs_list PySem.F.slot_list_append PySem.F.type_list_append mt_append (pe_fld (pv 0) rfl) (pa_cons (pe_meth0 (pv 0) T.c_Thread T.m_Thread_here GThreadHere (hr.mono (by decide)) bThreadHere .nil pass0) pa_nil)))) pss_nil)
      (pss_one (ps_if (pt_val (pe_meth0 (pe_fld (pv 0) rfl) T.c_Never T.m_Never_writes_events GNeverWritesevents (hr.mono (by decide)) bNeverWritesevents .nil pass0)) (pss_one (ps_fld (pv 0) pe_int rfl)) pss_nil))), ?_⟩
      refine ⟨_, rfl, a, dx, _, rfl, Y.ob.at_, rfl, ρ, i, a, t, rfl, X, _, rfl, a, CTh K, dx, _, _, rfl, Y.ob.at_, T.c_Thread, T.a_Thread_writings, rfl, wl, _, rfl, .inl (SqL.of Y.wri.at_), rfl, flat_ints _, _, rfl, ?_⟩
      rw [inV_ints]
      by_cases q : t.here ∈ t.wr
      · rw [decide_eq_true q]
        rw [if_pos q] at e1
        subst e1
        refine iteF ?_
        refine ⟨_, rfl, a, CTh K, dx, _, _, rfl, Y1.ob.at_, T.c_Thread, T.a_Thread_habit, rfl, b, db, _, rfl, (s1.keep b _ ob.at_ (by rw [ob.role]; exact MT_fz)), rfl, b, rfl, _, rfl, ?_⟩
        first
          | exact iteF (r2 rfl)
          | exact iteT ⟨_, rfl, a, CTh K, dx, _, rfl, Y1.ob.at_, T.c_Thread, T.a_Thread_pile, (by show 5 < 1000; decide), r1 rfl _ rfl⟩
      · rw [decide_eq_false q]
        rw [if_neg q] at e1
        subst e1
        refine iteT ⟨_, rfl, a, CTh K, dx, _, _, rfl, Y.ob.at_, T.c_Thread, T.a_Thread_writings, rfl, .inl ⟨rfl, _, SqL.of Y.wri.at_⟩, _, rfl, a, dx, _, rfl, Y.ob.at_, rfl, ρ, i, a, t, rfl, X, wl, _, _, rfl, rfl, Y.wri.at_, hlw, ?_⟩
        refine ⟨_, rfl, a, CTh K, dx, _, _, rfl, Y1.ob.at_, T.c_Thread, T.a_Thread_habit, rfl, b, db, _, rfl, (s1.keep b _ ob.at_ (by rw [ob.role]; exact MT_fz)), rfl, b, rfl, _, rfl, ?_⟩
        first
          | exact iteF (r2 rfl)
          | exact iteT ⟨_, rfl, a, CTh K, dx, _, rfl, Y1.ob.at_, T.c_Thread, T.a_Thread_pile, (by show 5 < 1000; decide), r1 rfl _ rfl⟩
    | each =>
      obtain ⟨b, db, rfl, ob⟩ : ∃ (b db : Addr), hb = .ref b ∧ Own ρ H b .fz (.ins (CEa K) db []) := by
        have z := Y.hab
        rw [hh] at z
        exact z
      obtain ⟨r1, r2⟩ := rest true (by rw [hh]; rfl)
      refine ⟨_, (pss_cons (ps_if (pt_cmpR op_notIn_seq (pe_meth0 (pv 0) T.c_Thread T.m_Thread_here GThreadHere (hr.mono (by decide)) bThreadHere .nil pass0) (pe_fld (pv 0) rfl) (by with_unfolding_all rfl)) (pss_one (ps_expr (pe_bm PySem.F.plainAttrs_list PySem.F.slot_list_append PySem.F.type_list_append mt_append (pe_fld (pv 0) rfl) (pa_cons (pe_meth0 (pv 0) T.c_Thread T.m_Thread_here GThreadHere (hr.mono (by decide)) bThreadHere .nil pass0) pa_nil)))) pss_nil)
      (pss_one (ps_if (pt_val (pe_meth0 (pe_fld (pv 0) rfl) T.c_Each T.m_Each_writes_events GEachWritesevents (hr.mono (by decide)) bEachWritesevents .nil pass0)) (pss_one (ps_fld (pv 0) pe_int rfl)) pss_nil))), ?_⟩
      refine ⟨_, rfl, a, dx, _, rfl, Y.ob.at_, rfl, ρ, i, a, t, rfl, X, _, rfl, a, CTh K, dx, _, _, rfl, Y.ob.at_, T.c_Thread, T.a_Thread_writings, rfl, wl, _, rfl, .inl (SqL.of Y.wri.at_), rfl, flat_ints _, _, rfl, ?_⟩
      rw [inV_ints]
      by_cases q : t.here ∈ t.wr
      · rw [decide_eq_true q]
        rw [if_pos q] at e1
        subst e1
        refine iteF ?_
        refine ⟨_, rfl, a, CTh K, dx, _, _, rfl, Y1.ob.at_, T.c_Thread, T.a_Thread_habit, rfl, b, db, _, rfl, (s1.keep b _ ob.at_ (by rw [ob.role]; exact MT_fz)), rfl, b, rfl, _, rfl, ?_⟩
        first
          | exact iteF (r2 rfl)
          | exact iteT ⟨_, rfl, a, CTh K, dx, _, rfl, Y1.ob.at_, T.c_Thread, T.a_Thread_pile, (by show 5 < 1000; decide), r1 rfl _ rfl⟩
      · rw [decide_eq_false q]
        rw [if_neg q] at e1
        subst e1
        refine iteT ⟨_, rfl, a, CTh K, dx, _, _, rfl, Y.ob.at_, T.c_Thread, T.a_Thread_writings, rfl, .inl ⟨rfl, _, SqL.of Y.wri.at_⟩, _, rfl, a, dx, _, rfl, Y.ob.at_, rfl, ρ, i, a, t, rfl, X, wl, _, _, rfl, rfl, Y.wri.at_, hlw, ?_⟩
        refine ⟨_, rfl, a, CTh K, dx, _, _, rfl, Y1.ob.at_, T.c_Thread, T.a_Thread_habit, rfl, b, db, _, rfl, (s1.keep b _ ob.at_ (by rw [ob.role]; exact MT_fz)), rfl, b, rfl, _, rfl, ?_⟩
        first
          | exact iteF (r2 rfl)
          | exact iteT ⟨_, rfl, a, CTh K, dx, _, rfl, Y1.ob.at_, T.c_Thread, T.a_Thread_pile, (by show 5 < 1000; decide), r1 rfl _ rfl⟩
    | bundle n =>
      obtain ⟨b, db, rfl, ob⟩ : ∃ (b db : Addr), hb = .ref b ∧ Own ρ H b .fz (.ins (CBu K) db [("size", .int n)]) := by
        have z := Y.hab
        rw [hh] at z
        exact z
      obtain ⟨r1, r2⟩ := rest true (by rw [hh]; rfl)
      refine ⟨_, (pss_cons (ps_if (pt_cmpR op_notIn_seq (pe_meth0 (pv 0) T.c_Thread T.m_Thread_here GThreadHere (hr.mono (by decide)) bThreadHere .nil pass0) (pe_fld (pv 0) rfl) (by with_unfolding_all rfl)) (pss_one (ps_expr (pe_bm PySem.F.plainAttrs_list PySem.F.slot_list_append PySem.F.type_list_append mt_append (pe_fld (pv 0) rfl) (pa_cons (pe_meth0 (pv 0) T.c_Thread T.m_Thread_here GThreadHere (hr.mono (by decide)) bThreadHere .nil pass0) pa_nil)))) pss_nil)
      (pss_one (ps_if (pt_val (pe_meth0 (pe_fld (pv 0) rfl) T.c_Bundle T.m_Bundle_writes_events GBundleWritesevents (hr.mono (by decide)) bBundleWritesevents .nil pass0)) (pss_one (ps_fld (pv 0) pe_int rfl)) pss_nil))), ?_⟩
      refine ⟨_, rfl, a, dx, _, rfl, Y.ob.at_, rfl, ρ, i, a, t, rfl, X, _, rfl, a, CTh K, dx, _, _, rfl, Y.ob.at_, T.c_Thread, T.a_Thread_writings, rfl, wl, _, rfl, .inl (SqL.of Y.wri.at_), rfl, flat_ints _, _, rfl, ?_⟩
      rw [inV_ints]
      by_cases q : t.here ∈ t.wr
      · rw [decide_eq_true q]
        rw [if_pos q] at e1
        subst e1
        refine iteF ?_
        refine ⟨_, rfl, a, CTh K, dx, _, _, rfl, Y1.ob.at_, T.c_Thread, T.a_Thread_habit, rfl, b, db, _, rfl, (s1.keep b _ ob.at_ (by rw [ob.role]; exact MT_fz)), rfl, b, rfl, _, rfl, ?_⟩
        first
          | exact iteF (r2 rfl)
          | exact iteT ⟨_, rfl, a, CTh K, dx, _, rfl, Y1.ob.at_, T.c_Thread, T.a_Thread_pile, (by show 5 < 1000; decide), r1 rfl _ rfl⟩
      · rw [decide_eq_false q]
        rw [if_neg q] at e1
        subst e1
        refine iteT ⟨_, rfl, a, CTh K, dx, _, _, rfl, Y.ob.at_, T.c_Thread, T.a_Thread_writings, rfl, .inl ⟨rfl, _, SqL.of Y.wri.at_⟩, _, rfl, a, dx, _, rfl, Y.ob.at_, rfl, ρ, i, a, t, rfl, X, wl, _, _, rfl, rfl, Y.wri.at_, hlw, ?_⟩
        refine ⟨_, rfl, a, CTh K, dx, _, _, rfl, Y1.ob.at_, T.c_Thread, T.a_Thread_habit, rfl, b, db, _, rfl, (s1.keep b _ ob.at_ (by rw [ob.role]; exact MT_fz)), rfl, b, rfl, _, rfl, ?_⟩
        first
          | exact iteF (r2 rfl)
          | exact iteT ⟨_, rfl, a, CTh K, dx, _, rfl, Y1.ob.at_, T.c_Thread, T.a_Thread_pile, (by show 5 < 1000; decide), r1 rfl _ rfl⟩
theorem scThreadPoints : FnScope ["self"] ["self"] (defScope sThreadPoints) := ⟨rfl, rfl, rfl, by decide +kernel, rfl, by decide +kernel, by decide +kernel⟩
theorem ok_ThreadPoints (T : Txt K mg) : OK P w K mg base CX0 2 ("Thread", some "points") ["self"] (sp_ThreadPoints K) := by
  obtain ⟨fdNeverWritesevents, GNeverWritesevents, bNeverWritesevents, kNeverWritesevents⟩ := (ok_NeverWritesevents (P := P) (w := w) (base := base) T).ex
  obtain ⟨fdThreadHere, GThreadHere, bThreadHere, kThreadHere⟩ := (ok_ThreadHere (P := P) (w := w) (base := base) T).ex
  obtain ⟨fdEachWritesevents, GEachWritesevents, bEachWritesevents, kEachWritesevents⟩ := (ok_EachWritesevents (P := P) (w := w) (base := base) T).ex
  obtain ⟨fdThreadHere, GThreadHere, bThreadHere, kThreadHere⟩ := (ok_ThreadHere (P := P) (w := w) (base := base) T).ex
  obtain ⟨fdBundleWritesevents, GBundleWritesevents, bBundleWritesevents, kBundleWritesevents⟩ := (ok_BundleWritesevents (P := P) (w := w) (base := base) T).ex
  obtain ⟨fdThreadHere, GThreadHere, bThreadHere, kThreadHere⟩ := (ok_ThreadHere (P := P) (w := w) (base := base) T).ex
  refine OK.mk0 T.f_ThreadPoints scThreadPoints (fun _ _ _ _ _ _ us hl => match us, hl with | [_], _ => rfl) (fun vs H Q E h => ?_) (fun cdv A outer s H vs Q E hr h => ?_)
  · obtain ⟨ρ, i, a, t, rfl, _⟩ := h
    rfl
  · obtain ⟨ρ, i, a, t, rfl, X, ok, k⟩ := h
    obtain ⟨dx, dl, wl, hb, vs, Y⟩ := id X
    have hrg : RgOk 0 (t.here - t.pile + 1) := RgOk.of_le (by omega) (by
      have := ok.ln
      have := ok.pl
      unfold Thr.here
      omega) (by omega) (by have := ok.pl; omega)
    obtain ⟨r, hw⟩ := ok.hd
    have e0 : (t.wr.map V.int)[0]? = some (.int 0) := by rw [hw]; rfl
    cases hh : t.hab with
    | never =>
      obtain ⟨b, db, rfl, ob⟩ : ∃ (b db : Addr), hb = .ref b ∧ Own ρ H b .fz (.ins (CNv K) db []) := by
        have z := Y.hab
        rw [hh] at z
        exact z
      refine ⟨_, (pss_cons (ps_if (pt_not (pt_val (pe_meth0 (pe_fld (pv 0) rfl) T.c_Never T.m_Never_writes_events GNeverWritesevents (hr.mono (by decide)) bNeverWritesevents .nil pass0))) (pss_one (ps_ret (pe_callTy call_list_of (by rfl) T.n_list (by decide +kernel) (pa_cons (pe_fld (pv 0) rfl) pa_nil)))) pss_nil)
      (pss_one (ps_ret (pe_listRg rfl rfl T.n_list (prg_2 rfl T.n_range (pe_ix ix_list (pe_fld (pv 0) rfl) pe_int (fun _ _ => rfl)) (pe_op op_add (pe_op op_sub (pe_meth0 (pv 0) T.c_Thread T.m_Thread_here GThreadHere (hr.mono (by decide)) bThreadHere .nil pass0) (pe_fld (pv 0) rfl)) pe_int)))))), ?_⟩
      refine ⟨_, rfl, a, CTh K, dx, _, _, rfl, Y.ob.at_, T.c_Thread, T.a_Thread_habit, rfl, b, db, _, rfl, ob.at_, rfl, b, rfl, _, rfl, ?_⟩
      have ep : t.points = (if false = true then upTo 0 (t.here - t.pile + 1) else t.wr) := by
        unfold Thr.points
        rw [hh, hw]
        rfl
      rw [ep] at k
      first
        | exact iteT ⟨_, rfl, a, CTh K, dx, _, _, rfl, Y.ob.at_, T.c_Thread, T.a_Thread_writings, rfl, wl, _, rfl, .inl (SqL.of Y.wri.at_), fun p hp => k p hp⟩
        | exact iteF ⟨_, rfl, a, CTh K, dx, _, _, rfl, Y.ob.at_, T.c_Thread, T.a_Thread_writings, rfl, wl, _, _, _, rfl, rfl, SqL.of Y.wri.at_, atI_nat (j := 0) e0, _, rfl, a, dx, _, rfl, Y.ob.at_, rfl, ρ, i, a, t, rfl, X,
            _, rfl, a, CTh K, dx, _, _, rfl, Y.ob.at_, T.c_Thread, T.a_Thread_pile, rfl, _, _, rfl, rfl, _, _, rfl, rfl, _, _, rfl, rfl, hrg, fun p hp => (by rw [rgV_upTo]; exact k p hp)⟩
    | each =>
      obtain ⟨b, db, rfl, ob⟩ : ∃ (b db : Addr), hb = .ref b ∧ Own ρ H b .fz (.ins (CEa K) db []) := by
        have z := Y.hab
        rw [hh] at z
        exact z
      refine ⟨_, (pss_cons (ps_if (pt_not (pt_val (pe_meth0 (pe_fld (pv 0) rfl) T.c_Each T.m_Each_writes_events GEachWritesevents (hr.mono (by decide)) bEachWritesevents .nil pass0))) (pss_one (ps_ret (pe_callTy call_list_of (by rfl) T.n_list (by decide +kernel) (pa_cons (pe_fld (pv 0) rfl) pa_nil)))) pss_nil)
      (pss_one (ps_ret (pe_listRg rfl rfl T.n_list (prg_2 rfl T.n_range (pe_ix ix_list (pe_fld (pv 0) rfl) pe_int (fun _ _ => rfl)) (pe_op op_add (pe_op op_sub (pe_meth0 (pv 0) T.c_Thread T.m_Thread_here GThreadHere (hr.mono (by decide)) bThreadHere .nil pass0) (pe_fld (pv 0) rfl)) pe_int)))))), ?_⟩
      refine ⟨_, rfl, a, CTh K, dx, _, _, rfl, Y.ob.at_, T.c_Thread, T.a_Thread_habit, rfl, b, db, _, rfl, ob.at_, rfl, b, rfl, _, rfl, ?_⟩
      have ep : t.points = (if true = true then upTo 0 (t.here - t.pile + 1) else t.wr) := by
        unfold Thr.points
        rw [hh, hw]
        rfl
      rw [ep] at k
      first
        | exact iteT ⟨_, rfl, a, CTh K, dx, _, _, rfl, Y.ob.at_, T.c_Thread, T.a_Thread_writings, rfl, wl, _, rfl, .inl (SqL.of Y.wri.at_), fun p hp => k p hp⟩
        | exact iteF ⟨_, rfl, a, CTh K, dx, _, _, rfl, Y.ob.at_, T.c_Thread, T.a_Thread_writings, rfl, wl, _, _, _, rfl, rfl, SqL.of Y.wri.at_, atI_nat (j := 0) e0, _, rfl, a, dx, _, rfl, Y.ob.at_, rfl, ρ, i, a, t, rfl, X,
            _, rfl, a, CTh K, dx, _, _, rfl, Y.ob.at_, T.c_Thread, T.a_Thread_pile, rfl, _, _, rfl, rfl, _, _, rfl, rfl, _, _, rfl, rfl, hrg, fun p hp => (by rw [rgV_upTo]; exact k p hp)⟩
    | bundle n =>
      obtain ⟨b, db, rfl, ob⟩ : ∃ (b db : Addr), hb = .ref b ∧ Own ρ H b .fz (.ins (CBu K) db [("size", .int n)]) := by
        have z := Y.hab
        rw [hh] at z
        exact z
      refine ⟨_, (pss_cons (ps_if (pt_not (pt_val (pe_meth0 (pe_fld (pv 0) rfl) T.c_Bundle T.m_Bundle_writes_events GBundleWritesevents (hr.mono (by decide)) bBundleWritesevents .nil pass0))) (pss_one (ps_ret (pe_callTy call_list_of (by rfl) T.n_list (by decide +kernel) (pa_cons (pe_fld (pv 0) rfl) pa_nil)))) pss_nil)
      (pss_one (ps_ret (pe_listRg rfl rfl T.n_list (prg_2 rfl T.n_range (pe_ix ix_list (pe_fld (pv 0) rfl) pe_int (fun _ _ => rfl)) (pe_op op_add (pe_op op_sub (pe_meth0 (pv 0) T.c_Thread T.m_Thread_here GThreadHere (hr.mono (by decide)) bThreadHere .nil pass0) (pe_fld (pv 0) rfl)) pe_int)))))), ?_⟩
      refine ⟨_, rfl, a, CTh K, dx, _, _, rfl, Y.ob.at_, T.c_Thread, T.a_Thread_habit, rfl, b, db, _, rfl, ob.at_, rfl, b, rfl, _, rfl, ?_⟩
      have ep : t.points = (if true = true then upTo 0 (t.here - t.pile + 1) else t.wr) := by
        unfold Thr.points
        rw [hh, hw]
        rfl
      rw [ep] at k
      first
        | exact iteT ⟨_, rfl, a, CTh K, dx, _, _, rfl, Y.ob.at_, T.c_Thread, T.a_Thread_writings, rfl, wl, _, rfl, .inl (SqL.of Y.wri.at_), fun p hp => k p hp⟩
        | exact iteF ⟨_, rfl, a, CTh K, dx, _, _, rfl, Y.ob.at_, T.c_Thread, T.a_Thread_writings, rfl, wl, _, _, _, rfl, rfl, SqL.of Y.wri.at_, atI_nat (j := 0) e0, _, rfl, a, dx, _, rfl, Y.ob.at_, rfl, ρ, i, a, t, rfl, X,
            _, rfl, a, CTh K, dx, _, _, rfl, Y.ob.at_, T.c_Thread, T.a_Thread_pile, rfl, _, _, rfl, rfl, _, _, rfl, rfl, _, _, rfl, rfl, hrg, fun p hp => (by rw [rgV_upTo]; exact k p hp)⟩
theorem scThreadStateat : FnScope ["self", "place"] ["self", "place"] (defScope sThreadStateat) := ⟨rfl, rfl, rfl, by decide +kernel, rfl, by decide +kernel, by decide +kernel⟩
theorem ok_ThreadStateat (T : Txt K mg) : OK P w K mg base CX0 3 ("Thread", some "state_at") ["self", "place"] (sp_ThreadStateat K) := by
  obtain ⟨fdThreadPoints, GThreadPoints, bThreadPoints, kThreadPoints⟩ := (ok_ThreadPoints (P := P) (w := w) (base := base) T).ex
  obtain ⟨fdThreadHere, GThreadHere, bThreadHere, kThreadHere⟩ := (ok_ThreadHere (P := P) (w := w) (base := base) T).ex
  refine OK.mk0 T.f_ThreadStateat scThreadStateat (fun _ _ _ _ _ _ us hl => match us, hl with | [_, _], _ => rfl) (fun vs H Q E h => ?_) (fun cdv A outer s H vs Q E hr h => ?_)
  · obtain ⟨ρ, i, a, t, rfl, _⟩ := h
    rfl
  · obtain ⟨ρ, i, a, t, rfl, X, k⟩ := h
    obtain ⟨dx, dl, wl, hb, vs, Y⟩ := id X
    refine ⟨_, (pss_cons (ps_if (PW.pt (pw_and (pt_cmpR op_ne (pv 1) (pe_meth0 (pv 0) T.c_Thread T.m_Thread_here GThreadHere (hr.mono (by decide)) bThreadHere .nil pass0) (nomark _)) (pw_and1 (pt_cmpR op_notIn_seq (pv 1) (pe_meth0 (pv 0) T.c_Thread T.m_Thread_points GThreadPoints (hr.mono (by decide)) bThreadPoints .nil pass0) (by with_unfolding_all rfl))))) (pss_one ps_never) pss_nil)
      (pss_cons (ps_if (pt_cmpR op_eq (pv 1) pe_int (nomark _)) (pss_one (ps_ret (pe_fld (pv 0) rfl))) pss_nil)
      (pss_one (ps_ret (pe_fld (pe_ix ix_list (pe_fld (pv 0) rfl) (pe_op op_sub (pv 1) pe_int) (fun _ _ => rfl)) rfl))))), ?_⟩
    refine ⟨_, rfl, _, rfl, a, dx, _, rfl, Y.ob.at_, rfl, ρ, i, a, t, rfl, X, rfl, _, rfl, ?_⟩
    rw [decide_eq_true (show V.int t.here = V.int t.here from rfl)]
    refine iteF (iteF ⟨_, rfl, rfl, _, rfl, ?_⟩)
    by_cases q : t.evs = []
    · have e : t.here = 0 := by
        unfold Thr.here
        rw [q]
        rfl
      have e2 : t.state = t.start := by
        unfold Thr.state
        rw [q]
        rfl
      rw [decide_eq_true (show V.int t.here = V.int 0 from congrArg V.int e)]
      rw [e2] at k
      exact iteT ⟨_, rfl, a, CTh K, dx, _, _, rfl, Y.ob.at_, T.c_Thread, T.a_Thread_start, rfl, k⟩
    · have hpos : 0 < t.evs.length := List.length_pos_iff.mpr q
      have e : ¬ t.here = 0 := by
        unfold Thr.here
        omega
      obtain ⟨ev, hev⟩ : ∃ ev, t.evs.getLast? = some ev := ⟨t.evs.getLast q, List.getLast?_eq_some_getLast q⟩
      have hev2 : t.evs[t.evs.length - 1]? = some ev := by
        rw [← List.getLast?_eq_getElem?]
        exact hev
      have e2 : t.state = ev.state := by
        unfold Thr.state
        rw [hev]
      rw [decide_eq_false (show ¬ V.int t.here = V.int 0 from fun z => e (V.int.inj z))]
      obtain ⟨v, hv, b, db, sl, sw, u, sv, rfl, ho, _⟩ := paired_at Y.evs hev2
      have hi : (t.here - 1 : Int) = ((t.evs.length - 1 : Nat) : Int) := by
        unfold Thr.here
        omega
      rw [e2] at k
      exact iteF ⟨_, rfl, a, CTh K, dx, _, _, rfl, Y.ob.at_, T.c_Thread, T.a_Thread_done, rfl, _, rfl, _, _, rfl, rfl, dl, _, _, _, rfl, rfl, SqL.of Y.don.at_, (by rw [hi]; exact atI_nat hv), b, CEv K, db, _, _, rfl, ho.at_, T.c_Event, T.a_Event_state, rfl, k⟩
theorem scThreadCut : FnScope ["self", "place", "stands", "one"] ["self", "place", "stands"] (defScope sThreadCut) := ⟨rfl, rfl, rfl, by decide +kernel, rfl, by decide +kernel, by decide +kernel⟩
theorem ok_ThreadCut (T : Txt K mg) : OK P w K mg base CX0 3 ("Thread", some "cut") ["self", "place", "stands"] (sp_ThreadCut K) := by
  obtain ⟨fdThreadHere, GThreadHere, bThreadHere, kThreadHere⟩ := (ok_ThreadHere (P := P) (w := w) (base := base) T).ex
  obtain ⟨fdThreadPoints, GThreadPoints, bThreadPoints, kThreadPoints⟩ := (ok_ThreadPoints (P := P) (w := w) (base := base) T).ex
  refine OK.mk0 T.f_ThreadCut scThreadCut (fun _ _ _ _ _ _ us hl => match us, hl with | [_, _, _], _ => rfl) (fun vs H Q E h => ?_) (fun cdv A outer s H vs Q E hr h => ?_)
  · obtain ⟨ρ, i, a, t, p, st, rfl, _⟩ := h
    rfl
  · obtain ⟨ρ, i, a, t, p, st, rfl, wf, X, ok, co, k⟩ := h
    obtain ⟨dx, dl, wl, hb, vs, Y⟩ := id X
    refine ⟨_, (pss_cons (ps_if (PW.pt (pw_and (pt_val (pv 2)) (pw_and1 (pt_cmpR op_eq (pv 1) (pe_meth0 (pv 0) T.c_Thread T.m_Thread_here GThreadHere (hr.mono (by decide)) bThreadHere .nil pass0) (nomark _))))) (pss_one ps_retN) pss_nil)
      (pss_cons (ps_if (pt_cmpR op_notIn_seq (pv 1) (pe_meth0 (pv 0) T.c_Thread T.m_Thread_points GThreadPoints (hr.mono (by decide)) bThreadPoints .nil pass0) (by with_unfolding_all rfl)) (pss_one ps_never) pss_nil)
      (pss_cons (ps_fld (pv 0) (pe_slice sl_list (pe_fld (pv 0) rfl) po_none (po_some (pv 1))) rfl)
      (pss_cons (ps_fld (pv 0) (pe_lc (own := [("one", 3)]) rfl scThreadCut.nd (pi_list (pe_fld (pv 0) rfl)) (blkOk_by (N := ["self", "place", "stands", "one"]) (sc := defScope sThreadCut) (by decide +kernel)) (fun _ _ _ _ _ => (pg_name (i := 3) scThreadCut.nd rfl (Or.inl rfl) (Or.inr rfl))) (fun _ _ _ _ _ => (pts_one (pt_cmpR op_le (pv 3) (pv 1) (nomark _)))) (fun _ _ _ _ _ => (pv 3))) rfl)
      (pss_one (ps_fld (pv 0) pe_int rfl)))))), ?_⟩
    by_cases c : st = true ∧ p = t.here
    · obtain ⟨c1, c2⟩ := c
      subst c1
      have ec : t.cut p true = t := if_pos ⟨rfl, c2⟩
      rw [ec] at k
      refine ⟨_, rfl, true, rfl, iteT ⟨_, rfl, _, rfl, a, dx, _, rfl, Y.ob.at_, rfl, ρ, i, a, t, rfl, X, rfl, _, rfl, ?_⟩⟩
      rw [c2, decide_eq_true (show V.int t.here = V.int t.here from rfl)]
      exact iteT (k ρ H (Step.refl wf) X)
    · have hp : p ∈ t.points := co.resolve_left c
      have ec : t.cut p st = { t with evs := t.evs.take p.toNat, wr := t.wr.filter fun x => decide (x ≤ p), pile := 0 } := if_neg c
      obtain ⟨hp0, hp1⟩ := points_rg ok hp
      rw [ec] at k
      refine ⟨_, rfl, st, rfl, ite_and ?_ fun e1 hB => ⟨_, rfl, _, rfl, a, dx, _, rfl, Y.ob.at_, rfl, ρ, i, a, t, rfl, X, rfl, _, rfl, ?_⟩⟩
      · refine iteF ⟨_, rfl, _, rfl, a, dx, _, rfl, Y.ob.at_, rfl, ρ, i, a, t, rfl, X, ok, fun q hq => ⟨q, _, rfl, .inl (SqL.of upd_same), rfl, flat_ints _, _, rfl, ?_⟩⟩
        rw [inV_ints, decide_eq_true hp]
        have nqa : a ≠ q := ne_of_none Y.ob.at_ hq
        have nqd : dl ≠ q := ne_of_none Y.don.at_ hq
        have nqw : wl ≠ q := ne_of_none Y.wri.at_ hq
        have nda : dl ≠ a := ne_of Y.don.at_ Y.ob.at_ (by intro z; cases z)
        have nwa : wl ≠ a := ne_of Y.wri.at_ Y.ob.at_ (by intro z; cases z)
        refine iteF ⟨_, rfl, a, CTh K, dx, _, _, rfl, (upd_ne nqa).trans Y.ob.at_, T.c_Thread, T.a_Thread_done, rfl, _, rfl, p, rfl, dl, vs, rfl, SqL.of ((upd_ne nqd).trans Y.don.at_), fun d hd => ?_⟩
        have nad : a ≠ d := ne_of_none ((upd_ne nqa).trans Y.ob.at_) hd
        have nwd : wl ≠ d := ne_of_none ((upd_ne nqw).trans Y.wri.at_) hd
        refine ⟨_, rfl, a, CTh K, dx, _, rfl, (upd_ne nad).trans ((upd_ne nqa).trans Y.ob.at_), T.c_Thread, T.a_Thread_done, (by show 5 < 1000; decide), ?_⟩
        have hw3 : upd (upd (upd H q (.lst (t.points.map V.int))) d (.lst (cutV vs none (some p)))) a (.ins (CTh K) dx (putF "done" (.ref d) (thF (.int t.start) hb (.ref dl) (.ref wl) (.int t.pile)))) wl = some (.lst (t.wr.map V.int)) := by
          rw [upd_ne nwa, upd_ne nwd, upd_ne nqw]
          exact Y.wri.at_
        refine ⟨_, rfl, a, CTh K, dx, _, _, rfl, upd_same, T.c_Thread, T.a_Thread_writings, rfl, wl, rfl, ⟨_, SqL.of hw3⟩, fun D hD => ?_⟩
        have naD : a ≠ D := ne_of_none upd_same hD
        have nwD : wl ≠ D := ne_of_none hw3 hD
        refine lc_list (K := K) (a := wl) (xs := t.wr.map V.int) (fun j H' => H' = upd (upd (upd (upd H q (.lst (t.points.map V.int))) d (.lst (cutV vs none (some p)))) a (.ins (CTh K) dx (putF "done" (.ref d) (thF (.int t.start) hb (.ref dl) (.ref wl) (.int t.pile)))))
            D (.lst (((t.wr.take j).filter fun x => decide (x ≤ p)).map V.int))) rfl (fun j H' _ e => ?_) (fun j x H' hx e => ?_) (fun H' e => ?_)
        · rw [e]
          exact SqL.of ((upd_ne nwD).trans hw3)
        · subst e
          obtain ⟨y, hy, rfl⟩ := ints_at hx
          refine ⟨rfl, _, rfl, _, rfl, _, _, rfl, rfl, _, rfl, ?_⟩
          have et : t.wr.take (j + 1) = t.wr.take j ++ [y] := take_snoc hy
          by_cases c2 : y ≤ p
          · rw [decide_eq_true c2]
            refine iteT ⟨_, rfl, _, upd_same, small1000 ?_, ?_⟩
            · rw [List.length_map]
              have h1 := List.length_filter_le (fun x => decide (x ≤ p)) (t.wr.take j)
              have h2 := List.length_take_le j t.wr
              have h3 := List.length_take_le' j t.wr
              have h4 := ok.lw
              omega
            · rw [upd_upd, et, List.filter_append, List.map_append]
              simp [c2]
          · rw [decide_eq_false c2]
            refine iteF ?_
            rw [et, List.filter_append]
            simp [c2]
        · subst e
          rw [List.length_map, List.take_length]
          refine ⟨_, rfl, a, CTh K, dx, _, rfl, (upd_ne naD).trans upd_same, T.c_Thread, T.a_Thread_writings, (by show 5 < 1000; decide), ?_⟩
          refine ⟨_, rfl, a, CTh K, dx, _, rfl, upd_same, T.c_Thread, T.a_Thread_pile, (by show 5 < 1000; decide), ?_⟩
          have hcut : cutV vs none (some p) = vs.take p.toNat := cut_to vs hp0
          rw [hcut] at hD ⊢
          have hq0 : H d = none := by
            by_cases z : d = q
            · rw [z, upd_same] at hd
              cases hd
            · rw [upd_ne z] at hd
              exact hd
          have s1 : Step (MT i) ρ H ρ (upd H q (.lst (t.points.map V.int))) := Step.new0 wf hq
          have s2 := s1.trans (Step.new (M := MT i) (o := .lst (vs.take p.toNat)) s1.wf hd (.td i))
          have rad : rset ρ d (.td i) a = .th i := (rset_ne nad).trans Y.ob.role
          have s3 := s2.trans (Step.write (M := MT i) (a := a) (o' := .ins (CTh K) dx (putF "done" (.ref d) (thF (.int t.start) hb (.ref dl) (.ref wl) (.int t.pile)))) s2.wf ((upd_ne nad).trans ((upd_ne nqa).trans Y.ob.at_)) (.inl rad) (fun z => z))
          have s4 := s3.trans (Step.new (M := MT i) (o := .lst ((t.wr.filter fun x => decide (x ≤ p)).map V.int)) s3.wf hD (.tw i))
          have raD : rset (rset ρ d (.td i)) D (.tw i) a = .th i := (rset_ne naD).trans rad
          have s5 := s4.trans (Step.write (M := MT i) (a := a) (o' := .ins (CTh K) dx (putF "pile" (.int 0) (putF "writings" (.ref D) (putF "done" (.ref d) (thF (.int t.start) hb (.ref dl) (.ref wl) (.int t.pile)))))) s4.wf ((upd_ne naD).trans upd_same) (.inl raD) (fun z => z))
          rw [upd_upd]
          have ndD : d ≠ D := fun z => by
            rw [← z, upd_ne nad.symm, upd_same] at hD
            cases hD
          refine k _ _ s5 ⟨dx, d, D, hb, vs.take p.toNat, ⟨raD, upd_same⟩, Y.hab.step s5 MT_fz, ⟨(rset_ne ndD).trans rset_same, ?_⟩, ?_, ⟨rset_same, ?_⟩⟩
          · rw [upd_ne nad.symm, upd_ne ndD, upd_ne nad.symm, upd_same]
          · exact paired_take p.toNat (Paired.imp Y.evs fun _ _ z => z.step s5 MT_fz)
          · rw [upd_ne naD.symm, upd_same]
      · rw [decide_eq_false (fun z => c ⟨e1, V.int.inj z⟩)]
        exact hB
end
end Bk
set_option Elab.async false
set_option linter.all false
set_option maxRecDepth 100000
set_option maxHeartbeats 4000000
/-! rules whose reading names K (within comprehensions) -/
namespace Bk
open PySem PySem.Spec PyProof.Rows L2
section
variable {X : Cx} {K : PySem.W.Frag}
theorem ix_tupK (h : X.K = K) : IxR X (rIxT K) := h ▸ ix_tup
theorem ix_listK (h : X.K = K) : IxR X (rIxL K) := h ▸ ix_list
theorem pg_tupK {es : List Expr} {k n : Nat} {pos : Pos} {t : TGs} (h : X.K = K) (hc : X.calm = true) (hp : PGs X es t) (hn : (assignEach es X.env).length = n := by rfl) (hst : (assignEach es X.env).findIdx? (·.1) = none := by rfl) :
    PG X (.Tuple es k pos) (gTup K n t) := h ▸ pg_tup hc hp hn hst
end
end Bk
/-! Letters sent, letters used, as plain lists; how they stand in a dict. -/
namespace Bk
open PySem PySem.Spec PyProof.Rows L2
theorem paired_at' {α β : Type} {R : α → β → Prop} : ∀ {xs : List α} {ys : List β} {i : Nat} {x : α}, Paired R xs ys → xs[i]? = some x → ∃ y, ys[i]? = some y ∧ R x y
  | _, _, _, _, .nil, e => by simp at e
  | _, _, 0, _, .cons r _, e => by
    simp at e
    subst e
    exact ⟨_, rfl, r⟩
  | _, _, i + 1, x, .cons _ t, e => by
    obtain ⟨y, h1, h2⟩ := paired_at' (i := i) (x := x) t (by simpa using e)
    exact ⟨y, by simpa using h1, h2⟩
def sentEv (h p : Int) : Nat → List Lt → List (Nm × Lt)
  | _, [] => []
  | k, l :: r => ((h, p, (k : Int)), l) :: sentEv h p (k + 1) r
def sentEvs (h : Int) : Nat → List Ev → List (Nm × Lt)
  | _, [] => []
  | p, e :: r => sentEv h ((p : Int) + 1) 0 e.sent ++ sentEvs h (p + 1) r
def sentAll : Nat → List (List Ev) → List (Nm × Lt)
  | _, [] => []
  | h, es :: r => sentEvs (h : Int) 0 es ++ sentAll (h + 1) r
theorem sentEv_snoc (h p : Int) (l : Lt) : ∀ (k : Nat) (xs : List Lt), sentEv h p k (xs ++ [l]) = sentEv h p k xs ++ [((h, p, ((k + xs.length : Nat) : Int)), l)]
  | k, [] => rfl
  | k, x :: r => by
    show ((h, p, (k : Int)), x) :: sentEv h p (k + 1) (r ++ [l]) = ((h, p, (k : Int)), x) :: sentEv h p (k + 1) r ++ _
    rw [sentEv_snoc h p l (k + 1) r, List.length_cons, show k + 1 + r.length = k + (r.length + 1) by omega]
    rfl
theorem sentEvs_snoc (h : Int) (e : Ev) : ∀ (p : Nat) (xs : List Ev), sentEvs h p (xs ++ [e]) = sentEvs h p xs ++ sentEv h (((p + xs.length : Nat) : Int) + 1) 0 e.sent
  | p, [] => by
    show sentEv h ((p : Int) + 1) 0 e.sent ++ [] = [] ++ _
    rw [List.append_nil, List.nil_append]
    rfl
  | p, x :: r => by
    show sentEv h ((p : Int) + 1) 0 x.sent ++ sentEvs h (p + 1) (r ++ [e]) = (sentEv h ((p : Int) + 1) 0 x.sent ++ sentEvs h (p + 1) r) ++ _
    rw [sentEvs_snoc h e (p + 1) r, List.append_assoc, List.length_cons, show p + 1 + r.length = p + (r.length + 1) by omega]
theorem sentAll_snoc (es : List Ev) : ∀ (h : Nat) (xs : List (List Ev)), sentAll h (xs ++ [es]) = sentAll h xs ++ sentEvs ((h + xs.length : Nat) : Int) 0 es
  | h, [] => by
    show sentEvs (h : Int) 0 es ++ [] = [] ++ _
    rw [List.append_nil, List.nil_append]
    rfl
  | h, x :: r => by
    show sentEvs (h : Int) 0 x ++ sentAll (h + 1) (r ++ [es]) = (sentEvs (h : Int) 0 x ++ sentAll (h + 1) r) ++ _
    rw [sentAll_snoc es (h + 1) r, List.append_assoc, List.length_cons, show h + 1 + r.length = h + (r.length + 1) by omega]
theorem sentEv_mem {h p : Int} {x : Nm × Lt} : ∀ {k : Nat} {xs : List Lt}, x ∈ sentEv h p k xs → x.1.1 = h ∧ x.1.2.1 = p ∧ (k : Int) ≤ x.1.2.2 ∧ x.1.2.2 < ((k + xs.length : Nat) : Int)
  | _, [], m => nomatch m
  | k, l :: r, m => by
    rcases List.mem_cons.mp m with e | m
    · rw [e]
      refine ⟨rfl, rfl, Int.le_refl _, ?_⟩
      show (k : Int) < _
      rw [List.length_cons]
      omega
    · have ⟨a, b, c, d⟩ := sentEv_mem (k := k + 1) (xs := r) m
      rw [List.length_cons]
      exact ⟨a, b, by omega, by omega⟩
theorem sentEvs_mem {h : Int} {x : Nm × Lt} : ∀ {p : Nat} {xs : List Ev}, x ∈ sentEvs h p xs → x.1.1 = h ∧ (p : Int) + 1 ≤ x.1.2.1 ∧ x.1.2.1 ≤ ((p + xs.length : Nat) : Int)
  | _, [], m => nomatch m
  | p, e :: r, m => by
    rcases List.mem_append.mp (show x ∈ sentEv h ((p : Int) + 1) 0 e.sent ++ sentEvs h (p + 1) r from m) with m | m
    · have ⟨a, b, _, _⟩ := sentEv_mem m
      rw [List.length_cons]
      exact ⟨a, by omega, by omega⟩
    · have ⟨a, b, c⟩ := sentEvs_mem (p := p + 1) (xs := r) m
      rw [List.length_cons]
      exact ⟨a, by omega, by omega⟩
theorem sentAll_mem {x : Nm × Lt} : ∀ {h : Nat} {xs : List (List Ev)}, x ∈ sentAll h xs → (h : Int) ≤ x.1.1 ∧ x.1.1 < ((h + xs.length : Nat) : Int)
  | _, [], m => nomatch m
  | h, es :: r, m => by
    rcases List.mem_append.mp (show x ∈ sentEvs (h : Int) 0 es ++ sentAll (h + 1) r from m) with m | m
    · have ⟨a, _, _⟩ := sentEvs_mem m
      rw [List.length_cons]
      exact ⟨by omega, by omega⟩
    · have ⟨a, b⟩ := sentAll_mem (h := h + 1) (xs := r) m
      rw [List.length_cons]
      exact ⟨by omega, by omega⟩
theorem sentEv_len (h p : Int) : ∀ (k : Nat) (xs : List Lt), (sentEv h p k xs).length = xs.length
  | _, [] => rfl
  | k, _ :: r => congrArg Nat.succ (sentEv_len h p (k + 1) r)
theorem sentEvs_len (h : Int) : ∀ (p : Nat) (xs : List Ev), (∀ e ∈ xs, e.sent.length ≤ 3) → (sentEvs h p xs).length ≤ 3 * xs.length
  | _, [], _ => Nat.le_refl _
  | p, e :: r, hx => by
    have h1 := hx e List.mem_cons_self
    have h2 := sentEvs_len h (p + 1) r fun y hy => hx y (List.mem_cons_of_mem _ hy)
    show (sentEv h ((p : Int) + 1) 0 e.sent ++ sentEvs h (p + 1) r).length ≤ _
    rw [List.length_append, sentEv_len, List.length_cons]
    omega
theorem sentAll_len (n : Nat) : ∀ (h : Nat) (xs : List (List Ev)), (∀ es ∈ xs, es.length ≤ n ∧ ∀ e ∈ es, e.sent.length ≤ 3) → (sentAll h xs).length ≤ 3 * n * xs.length
  | _, [], _ => Nat.zero_le _
  | h, es :: r, hx => by
    have h1 := hx es List.mem_cons_self
    have h2 := sentEvs_len (h : Int) 0 es h1.2
    have h3 := sentAll_len n (h + 1) r fun y hy => hx y (List.mem_cons_of_mem _ hy)
    show (sentEvs (h : Int) 0 es ++ sentAll (h + 1) r).length ≤ _
    rw [List.length_append, List.length_cons, Nat.mul_succ]
    have h4 := h1.1
    omega
/-- the letter of a name -/
def lookS (l : List (Nm × Lt)) (n : Nm) : Option Lt := (l.find? fun x => decide (x.1 = n)).map (·.2)
theorem lookS_nil {n : Nm} : lookS [] n = none := rfl
theorem lookS_cons {n : Nm} {x : Nm × Lt} {r : List (Nm × Lt)} : lookS (x :: r) n = if x.1 = n then some x.2 else lookS r n := by
  unfold lookS
  rw [List.find?_cons]
  by_cases h : x.1 = n
  · rw [decide_eq_true h, if_pos h]
    rfl
  · rw [decide_eq_false h, if_neg h]
/-- a dict with the names as keys holds these letters -/
def SentKV (H : Hp) (kvs : List (List Key × V)) (l : List (Nm × Lt)) : Prop := Paired (fun (kv : List Key × V) (x : Nm × Lt) => kv.1 = nmK x.1 ∧ LtAt H kv.2 x.2) kvs l
theorem SentKV.tk {H H' : Hp} {kvs : List (List Key × V)} {l : List (Nm × Lt)} (x : SentKV H kvs l) (k : TupK H H') : SentKV H' kvs l := Paired.imp x fun _ _ z => ⟨z.1, z.2.tk k⟩
theorem SentKV.look {H : Hp} {n : Nm} : ∀ {kvs : List (List Key × V)} {l : List (Nm × Lt)}, SentKV H kvs l → (∃ v lt, valV kvs (nmK n) = some v ∧ lookS l n = some lt ∧ LtAt H v lt) ∨ (valV kvs (nmK n) = none ∧ lookS l n = none)
  | _, _, .nil => .inr ⟨rfl, rfl⟩
  | (k, v) :: r1, (m, lt) :: _, .cons ⟨h1, h2⟩ t => by
    have h1 : k = nmK m := h1
    subst h1
    by_cases e : m = n
    · subst e
      exact .inl ⟨v, lt, valV_pos rfl, by rw [lookS_cons, if_pos rfl], h2⟩
    · have e2 : ¬ nmK m = nmK n := fun z => e (nmK_inj z)
      have e3 : valV ((nmK m, v) :: r1) (nmK n) = valV r1 (nmK n) := valV_neg e2
      rw [e3, lookS_cons, if_neg e]
      exact SentKV.look t
theorem SentKV.put {H : Hp} {kvs : List (List Key × V)} {l : List (Nm × Lt)} {n : Nm} {lt : Lt} {v : V} (x : SentKV H kvs l) (new : ∀ y ∈ l, y.1 ≠ n) (hv : LtAt H v lt) : putK kvs (nmK n) v = kvs ++ [(nmK n, v)] ∧ SentKV H (kvs ++ [(nmK n, v)]) (l ++ [(n, lt)]) := by
  refine ⟨putK_new v ?_, paired_snoc ⟨rfl, hv⟩ x⟩
  rcases x.look (n := n) with ⟨_, lt', _, h, _⟩ | ⟨h, _⟩
  · unfold lookS at h
    cases q : l.find? fun x => decide (x.1 = n) with
    | none =>
      rw [q] at h
      cases h
    | some y =>
      have h0 := List.find?_some q
      exact absurd (of_decide_eq_true h0) (new y (List.mem_of_find?_eq_some q))
  · exact h
/-! ### used ones -/
def putU (l : List (Nm × Int)) (n : Nm) (p : Int) : List (Nm × Int) := if (l.any fun x => decide (x.1 = n)) = true then l.map (fun x => if x.1 = n then (x.1, p) else x) else l ++ [(n, p)]
def usedStep (acc : List (Nm × Int)) (p : Nat) (e : Ev) : List (Nm × Int) := match e.used with
  | none => acc
  | some n => putU acc n ((p : Int) + 1)
def usedEvs (acc : List (Nm × Int)) : Nat → List Ev → List (Nm × Int)
  | _, [] => acc
  | p, e :: r => usedEvs (usedStep acc p e) (p + 1) r
def usedAll (acc : List (Nm × Int)) : List (List Ev) → List (Nm × Int)
  | [] => acc
  | es :: r => usedAll (usedEvs acc 0 es) r
theorem usedEvs_snoc (e : Ev) : ∀ (acc : List (Nm × Int)) (p : Nat) (xs : List Ev), usedEvs acc p (xs ++ [e]) = usedStep (usedEvs acc p xs) (p + xs.length) e
  | _, _, [] => rfl
  | acc, p, x :: r => by
    show usedEvs (usedStep acc p x) (p + 1) (r ++ [e]) = usedStep (usedEvs (usedStep acc p x) (p + 1) r) _ e
    rw [usedEvs_snoc e _ (p + 1) r, List.length_cons, show p + 1 + r.length = p + (r.length + 1) by omega]
theorem usedAll_snoc (es : List Ev) : ∀ (acc : List (Nm × Int)) (xs : List (List Ev)), usedAll acc (xs ++ [es]) = usedEvs (usedAll acc xs) 0 es
  | _, [] => rfl
  | acc, x :: r => usedAll_snoc es (usedEvs acc 0 x) r
def usedKV (l : List (Nm × Int)) : List (List Key × V) := l.map fun x => (nmK x.1, V.int x.2)
theorem usedKV_put (l : List (Nm × Int)) (n : Nm) (p : Int) : putK (usedKV l) (nmK n) (.int p) = usedKV (putU l n p) := by
  have hd : ∀ m : Nm, decide (nmK m = nmK n) = decide (m = n) := fun m => by
    by_cases e : m = n
    · subst e
      simp
    · rw [decide_eq_false e, decide_eq_false fun z => e (nmK_inj z)]
  have ha : ((usedKV l).any fun kv => decide (kv.1 = nmK n)) = l.any fun x => decide (x.1 = n) := by
    unfold usedKV
    rw [List.any_map]
    congr 1
    funext x
    exact hd x.1
  unfold putK putU
  rw [ha]
  split
  · unfold usedKV
    rw [List.map_map, List.map_map]
    apply List.map_congr_left
    intro x _
    show (if nmK x.1 = nmK n then (nmK x.1, V.int p) else (nmK x.1, V.int x.2)) = _
    by_cases e : x.1 = n
    · rw [if_pos (congrArg nmK e)]
      show _ = (fun y : Nm × Int => (nmK y.1, V.int y.2)) (if x.1 = n then (x.1, p) else x)
      rw [if_pos e]
    · rw [if_neg fun z => e (nmK_inj z)]
      show _ = (fun y : Nm × Int => (nmK y.1, V.int y.2)) (if x.1 = n then (x.1, p) else x)
      rw [if_neg e]
  · unfold usedKV
    rw [List.map_append]
    rfl
/-- where a name was used -/
def lookU (l : List (Nm × Int)) (n : Nm) : Option Int := (l.find? fun x => decide (x.1 = n)).map (·.2)
theorem usedKV_look (n : Nm) : ∀ l : List (Nm × Int), valV (usedKV l) (nmK n) = (lookU l n).map V.int
  | [] => rfl
  | (m, p) :: r => by
    unfold lookU
    rw [List.find?_cons]
    by_cases e : m = n
    · subst e
      rw [show valV (usedKV ((m, p) :: r)) (nmK m) = some (.int p) from valV_pos rfl]
      simp
    · rw [show valV (usedKV ((m, p) :: r)) (nmK n) = valV (usedKV r) (nmK n) from valV_neg fun z => e (nmK_inj z), usedKV_look n r]
      simp [e, lookU]
theorem putU_len (l : List (Nm × Int)) (n : Nm) (p : Int) : (putU l n p).length ≤ l.length + 1 := by
  unfold putU
  split
  · rw [List.length_map]
    omega
  · rw [List.length_append]
    exact Nat.le_refl _
theorem usedStep_len (acc : List (Nm × Int)) (p : Nat) (e : Ev) : (usedStep acc p e).length ≤ acc.length + 1 := by
  unfold usedStep
  split
  · omega
  · exact putU_len _ _ _
theorem usedEvs_len : ∀ (acc : List (Nm × Int)) (p : Nat) (xs : List Ev), (usedEvs acc p xs).length ≤ acc.length + xs.length
  | _, _, [] => Nat.le_refl _
  | acc, p, x :: r => by
    have h1 := usedStep_len acc p x
    have h2 := usedEvs_len (usedStep acc p x) (p + 1) r
    show (usedEvs (usedStep acc p x) (p + 1) r).length ≤ _
    rw [List.length_cons]
    omega
theorem usedAll_len (n : Nat) : ∀ (acc : List (Nm × Int)) (xs : List (List Ev)), (∀ es ∈ xs, es.length ≤ n) → (usedAll acc xs).length ≤ acc.length + n * xs.length
  | _, [], _ => Nat.le_add_right _ _
  | acc, es :: r, hx => by
    have h1 := hx es List.mem_cons_self
    have h2 := usedEvs_len acc 0 es
    have h3 := usedAll_len n (usedEvs acc 0 es) r fun y hy => hx y (List.mem_cons_of_mem _ hy)
    show (usedAll (usedEvs acc 0 es) r).length ≤ _
    rw [List.length_cons, Nat.mul_succ]
    omega
theorem small6 {n : Nat} (h : n ≤ 100000) : n < sizeLine := Nat.lt_of_le_of_lt h (by decide)
end Bk
namespace Bk
open PySem PySem.Spec PyProof.Rows L2
theorem hu65 {k : Nat} {A : Around} (r : Room k A) : A.units + 65 < cLine := by have := r.un; omega
end Bk
set_option Elab.async false
set_option linter.all false
set_option maxRecDepth 100000
set_option maxHeartbeats 4000000
/-! A def within a def that is handed out: its captured cells are tracked once the maker's frame is gone; it is called by a name that holds it. -/
namespace Bk
open PySem PySem.Spec PyProof.Rows L2 LamX NdefX
section
variable {M : Model} {A : Around} {E : Value → Shared → Prop}
theorem lookup_snoc {x n : Str} {v : Value} (r : List (Str × Value)) (m : Str → Option Value) :
    (((n, v) :: r).reverse.lookup x).or (m x) = (r.reverse.lookup x).or (if x = n then some v else m x) := by
  rw [List.reverse_cons, List.lookup_append]
  cases r.reverse.lookup x with
  | some u => rfl
  | none =>
    by_cases h : x = n
    · subst h
      simp [List.lookup]
    · have hb : (x == n) = false := beq_eq_false_iff_ne.mpr h
      simp [List.lookup, hb, h]
/-- plain parameters are stored -/
theorem bind_plain {env : Env} (f : Str × Value → PUnit → Sem (ForInStep PUnit)) (hf : ∀ n v u, f (n, v) u = (do storeName env n v; pure (.yield ⟨⟩))) (hk : env.scope.kind = .function) :
    ∀ (binds : List (Str × Value)) (m : Str → Option Value) (s : Shared) (Q : PUnit → Shared → Prop), s.heap.Ns env.locals m → (∀ x ∈ binds, env.kindOf x.1 = some .local) →
      (∀ (h' : Heap) (t' : Nat), h'.Ns env.locals (fun x => (binds.reverse.lookup x).or (m x)) → Heap.SameBut env.locals s.heap h' → Q ⟨⟩ { s with heap := h', toks := t' }) → wpAny M A (forIn binds ⟨⟩ f) Q E s
  | [], m, s, Q, hn, _, h => by
    rw [List.forIn_nil]
    exact wpAny_pure (h s.heap s.toks hn (Heap.SameBut.refl ..))
  | (n, v) :: r, m, s, Q, hn, hl, h => by
    rw [List.forIn_cons, hf]
    refine wpAny_bind (wpAny_bind (wpAny_storeName_local (hl (n, v) List.mem_cons_self) hn (fun h1 n1 s1 => wpAny_pure ?_) (by rw [hk]; rfl)))
    refine bind_plain f hf hk r _ _ Q n1 (fun y hy => hl y (List.mem_cons_of_mem _ hy)) fun h2 t2 n2 s2 => h h2 t2 ?_ ⟨s2.1.trans s1.1, fun b hb => (s2.2 b hb).trans (s1.2 b hb)⟩
    have e : (fun x => (((n, v) :: r).reverse.lookup x).or (m x)) = fun x => (r.reverse.lookup x).or (if x = n then some v else m x) := funext fun x => lookup_snoc r m
    rw [e]
    exact n2
/-- a frame whose cells are its own and captured ones; its parameters are plain -/
theorem env_cc {s : Shared} {scope : Scope} {globals builtins : Addr} {closure : List (Str × Addr)} {binds : List (Str × Value)} {qual : Str} {func : Option Addr} {code : Value} {Q : Env → Shared → Prop}
    (hk : scope.kind = .function) (hl : ∀ x ∈ binds, scope.names.lookup x.1 = some .local)
    (hQ : ∀ (h' : Heap) (t' : Nat), h'.Ns s.heap.objs.size (fun x => binds.reverse.lookup x) →
      (∀ b o, b ≠ s.heap.objs.size → (pushCells (s.heap.push { cls := .type "frame", data := .dict #[] }) scope.names).get? b = some o → h'.get? b = some o) →
      Q (newEnv scope s.heap.objs.size globals (cellsFrom (s.heap.objs.size + 1) scope.names closure) qual func code none builtins) { s with heap := h', toks := t' }) :
    wpAny M A (newFunctionEnv scope globals closure binds qual func code none builtins) Q E s := by
  simp only [newFunctionEnv, Option.isSome_none, Bool.false_eq_true, if_false]
  refine wpAny_bind (wpAny_alloc (wpAny_bind (wpAny_layCells _ (fun name kind cells => by cases hkc : kind == NameKind.cell <;> simp [hkc]) _ _ _ _ ?_)))
  have hs : ({ s with heap := s.heap.push { cls := .type "frame", data := .dict #[] } } : Shared).heap.objs.size = s.heap.objs.size + 1 := Heap.size_push ..
  rw [hs]
  refine wpAny_bind (bind_plain (env := newEnv scope s.heap.objs.size globals (cellsFrom (s.heap.objs.size + 1) scope.names closure) qual func code none builtins) _ (fun _ _ _ => rfl) hk binds (fun _ => none) _ _
    ((Heap.Ns.new s.heap (.type "frame")).keeps (pushCells_keeps _ _)) hl fun h' t' n' s' => wpAny_pure (hQ h' t' ?_ fun b o hb e => (s'.2 b hb).trans e))
  have e : (fun x => (binds.reverse.lookup x).or (none : Option Value)) = fun x => binds.reverse.lookup x := funext fun x => by cases binds.reverse.lookup x <;> rfl
  rw [← e]
  exact n'
end
/-! ### the cells of a frame: its own ones in front -/
theorem cells_split : ∀ (names : List (Str × NameKind)) (n : Nat) (acc : List (Str × Addr)), cellsFrom n names acc = cellsFrom n names [] ++ acc
  | [], _, _ => rfl
  | (x, k) :: r, n, acc => by
    unfold cellsFrom
    split
    · rw [cells_split r (n + 1) ((x, n) :: acc), cells_split r (n + 1) [(x, n)], List.append_assoc]
      rfl
    · exact cells_split r n acc
theorem cells_names : ∀ (names : List (Str × NameKind)) (n : Nat) {x : Str} {c : Addr}, (x, c) ∈ cellsFrom n names [] → (x, NameKind.cell) ∈ names
  | [], _, _, _, h => nomatch h
  | (y, k) :: r, n, x, c, h => by
    unfold cellsFrom at h
    split at h
    · rename_i hk
      rw [cells_split] at h
      rcases List.mem_append.mp h with h | h
      · exact List.mem_cons_of_mem _ (cells_names r _ h)
      · have e := List.mem_singleton.mp h
        cases e
        rw [show k = NameKind.cell from eq_of_beq hk]
        exact List.mem_cons_self
    · exact List.mem_cons_of_mem _ (cells_names r _ h)
theorem lookup_app {x : Str} (l m : List (Str × Addr)) : (l ++ m).lookup x = (l.lookup x).or (m.lookup x) := by
  rw [List.lookup_append]
/-- a cell that holds v -/
def CellO (c : Addr) (v : V) : HO := .ext fun h => ∃ (o : Obj) (u : Value), h.get? c = some o ∧ o.data = .cell (some u) ∧ RelV v u
theorem cellO_ok {P : Program} {w : World} {H : Hp} {h : Heap} {c : Addr} {v : V} {o : Obj} {u : Value} (e : h.get? c = some o) (d : o.data = .cell (some u)) (r : RelV v u) : ObjOk P w H h c (CellO c v) :=
  ⟨⟨o, u, e, d, r⟩, ⟨o, e⟩, fun _ _ ⟨o', u', e', d', r'⟩ st => ⟨o', u', st _ e', d', r'⟩⟩
theorem cellO_at {P : Program} {w : World} {H : Hp} {h : Heap} {c : Addr} {v : V} (hok : HOk P w H h) (e : H c = some (CellO c v)) : ∃ u, RelV v u ∧ h.IsCell c (some u) := by
  obtain ⟨⟨o, u, e1, d, r⟩, _, _⟩ := hok c _ e
  exact ⟨u, r, o, e1, d⟩
/-- the abstract heap without some addresses -/
def hideH (H : Hp) (cs : List Addr) : Hp := fun b => if b ∈ cs then none else H b
theorem hide_in {H : Hp} {cs : List Addr} {b : Addr} (h : b ∈ cs) : hideH H cs b = none := if_pos h
theorem hide_out {H : Hp} {cs : List Addr} {b : Addr} (h : b ∉ cs) : hideH H cs b = H b := if_neg h
theorem hide_some {H : Hp} {cs : List Addr} {b : Addr} {o : HO} (h : hideH H cs b = some o) : b ∉ cs ∧ H b = some o := by
  by_cases hb : b ∈ cs
  · rw [hide_in hb] at h
    cases h
  · rw [hide_out hb] at h
    exact ⟨hb, h⟩
/-- .. and with them again, as H has them -/
def giveH (H H' : Hp) (cs : List Addr) : Hp := fun b => if b ∈ cs then H b else H' b
theorem give_in {H H' : Hp} {cs : List Addr} {b : Addr} (h : b ∈ cs) : giveH H H' cs b = H b := if_pos h
theorem give_out {H H' : Hp} {cs : List Addr} {b : Addr} (h : b ∉ cs) : giveH H H' cs b = H' b := if_neg h
/-- only tracked cells are hidden -/
def AllCells (H : Hp) (cs : List Addr) : Prop := ∀ b ∈ cs, ∃ v, H b = some (CellO b v)
theorem hide_ok {P : Program} {w : World} {H : Hp} {h : Heap} {cs : List Addr} (a : AllCells H cs) (x : HOk P w H h) : HOk P w (hideH H cs) h := fun b o e => by
  obtain ⟨hb, e⟩ := hide_some e
  refine (x b o e).stay (fun _ _ _ q => q) (fun c q => ?_) fun c xs q => ?_
  · have hc : c ∉ cs := fun z => by
      obtain ⟨v, e2⟩ := a c z
      rw [q] at e2
      cases e2
    rw [hide_out hc]
    exact q
  · have hc : c ∉ cs := fun z => by
      obtain ⟨v, e2⟩ := a c z
      rw [q] at e2
      cases e2
    rw [hide_out hc]
    exact q
section
variable {P : Program} {w : World} {K : PySem.W.Frag} {mg : Str → Option Value} {base : Heap} {A : Around} {outer : List Env} {s s' : Shared} {H H' : Hp} {cs : List Addr}
theorem hide_env (a : AllCells H cs) (e : Env0 P w K mg base A outer s H) : Env0 P w K mg base A outer s (hideH H cs) := by
  have no : ∀ b, H b = none → hideH H cs b = none := fun b q => by
    by_cases hb : b ∈ cs
    · exact hide_in hb
    · rw [hide_out hb]
      exact q
  exact ⟨e.frames, e.mod, fun b o q => ⟨(e.bs b o q).1, no b (e.bs b o q).2⟩, e.bsz, e.funs, fun b q => no b (e.frf b q), hide_ok a e.hok, e.bare⟩
/-- what a call did with the cells hidden, told with them -/
theorem give_end (a : AllCells H cs) (e : Env0 P w K mg base A outer s H) (un : Un (frs outer) [] (hideH H cs) H' s.heap s'.heap) (hok : HOk P w H' s'.heap) :
    (∀ b ∈ cs, H' b = none) ∧ Un (frs outer) [] H (giveH H H' cs) s.heap s'.heap ∧ HOk P w (giveH H H' cs) s'.heap := by
  have cell : ∀ b ∈ cs, ∃ v u o, H b = some (CellO b v) ∧ RelV v u ∧ s.heap.get? b = some o ∧ o.data = .cell (some u) := fun b hb => by
    obtain ⟨v, q⟩ := a b hb
    obtain ⟨u, r, o, e1, d⟩ := cellO_at e.hok q
    exact ⟨v, u, o, q, r, e1, d⟩
  have gone : ∀ b ∈ cs, H' b = none := fun b hb => by
    obtain ⟨v, u, o, q, r, e1, d⟩ := cell b hb
    exact un.free b o e1 (hide_in hb) (by simp)
  have nfr : ∀ b ∈ cs, b ∉ frs outer := fun b hb z => by
    obtain ⟨v, q⟩ := a b hb
    rw [e.frf b z] at q
    cases q
  have kept : ∀ b ∈ cs, ∀ o, s.heap.get? b = some o → s'.heap.get? b = some o := fun b hb o q => un.keep b o q (hide_in hb) (nfr b hb) (by simp)
  have nin : ∀ b, H b = none → b ∉ cs := fun b q z => by
    obtain ⟨v, q2⟩ := a b z
    rw [q] at q2
    cases q2
  have tbl : ∀ b o, H b = some o → (∀ v, o ≠ CellO b v) → b ∉ cs := fun b o q n z => by
    obtain ⟨v, q2⟩ := a b z
    rw [q] at q2
    exact n v (Option.some.inj q2)
  refine ⟨gone, ⟨fun b o q n hb hx => ?_, fun b o q n hb hx => ?_, fun b o q n hx => ?_, fun b o q hx => un.there b o q hx, fun b xs q => ?_, fun b o u q => ?_, fun b ps q => ?_⟩, fun b o q => ?_⟩
  · exact un.keep b o q (by rw [hide_out (nin b n)]; exact n) hb hx
  · exact un.slot b o q (by rw [hide_out (nin b n)]; exact n) hb hx
  · rw [give_out (nin b n)]
    exact un.free b o q (by rw [hide_out (nin b n)]; exact n) hx
  · have hb := tbl b _ q fun v z => by cases z
    rw [give_out hb]
    exact un.tups b xs (by rw [hide_out hb]; exact q)
  · have hb := tbl b _ q fun v z => by cases z
    rw [give_out hb]
    exact un.frzs b o u (by rw [hide_out hb]; exact q)
  · have hb := tbl b _ q fun v z => by cases z
    rw [give_out hb]
    exact un.tbls b ps (by rw [hide_out hb]; exact q)
  · by_cases hb : b ∈ cs
    · rw [give_in hb] at q
      obtain ⟨v, u, ob, q2, r, e1, d⟩ := cell b hb
      rw [q] at q2
      cases q2
      exact cellO_ok (kept b hb ob e1) d r
    · rw [give_out hb] at q
      refine (hok b o q).stay (fun _ _ _ z => z) (fun c z => ?_) fun c xs z => ?_
      · have hc : c ∉ cs := fun y => by
          rw [gone c y] at z
          cases z
        rw [give_out hc]
        exact z
      · have hc : c ∉ cs := fun y => by
          rw [gone c y] at z
          cases z
        rw [give_out hc]
        exact z
end
end Bk
set_option Elab.async false
set_option linter.all false
set_option maxRecDepth 100000
set_option maxHeartbeats 4000000
/-! A handed-out def: its body's context (own cells and captured ones), its call. -/
namespace Bk
open PySem PySem.Spec PyProof.Rows L2 LamX NdefX
/-- its names: the parameters (plain), the captured ones, then its own -/
structure GScope (N ps fr : List Str) (sc : Scope) : Prop where
  kind : sc.kind = .function
  co : sc.isCoroutine = false
  gen : sc.isGenerator = false
  nd : N.Nodup
  pre : N.take (ps.length + fr.length) = ps ++ fr
  par : ∀ x ∈ ps, sc.names.lookup x = some .local
  uniq : ∀ y ∈ sc.names, sc.names.lookup y.1 = some y.2
  free : ∀ y ∈ sc.names, y.2 = .free → y.1 ∈ fr
  frk : ∀ x ∈ fr, sc.names.lookup x = some .free
def gscB (N ps fr : List Str) (sc : Scope) : Bool :=
  decide (sc.kind = .function) && (!sc.isCoroutine && (!sc.isGenerator && (decide N.Nodup && (decide (N.take (ps.length + fr.length) = ps ++ fr) && (ps.all (fun x => decide (sc.names.lookup x = some .local)) &&
    (sc.names.all (fun y => decide (sc.names.lookup y.1 = some y.2)) && (sc.names.all (fun y => !decide (y.2 = .free) || decide (y.1 ∈ fr)) && fr.all (fun x => decide (sc.names.lookup x = some .free)))))))))
theorem gscope_by {N ps fr : List Str} {sc : Scope} (h : gscB N ps fr sc = true) : GScope N ps fr sc := by
  unfold gscB at h
  simp only [Bool.and_eq_true, Bool.not_eq_true', decide_eq_true_eq, List.all_eq_true, Bool.or_eq_true, decide_eq_false_iff_not] at h
  obtain ⟨a, b, c, d, e, f, g, i, j⟩ := h
  exact ⟨a, b, c, d, e, f, g, fun y hy z => (i y hy).elim (fun q => absurd z q) id, j⟩
abbrev envG (F : NF) (f L : Addr) : Env := PySem.W.envX F.qual F.scope L f (.ref F.c) (cellsFrom (L + 1) F.scope.names F.cl)
def gcx (CX : CXT) (P : Program) (w : World) (K : PySem.W.Frag) (mg : Str → Option Value) (base : Heap) (N : List Str) (F : NF) (f : Addr) (A : Around) (outer : List Env) (s : Shared) (H : Hp) (E : XK) : Cx where
  prog := P
  w := w
  K := K
  mg := mg
  base := base
  A := A.deeper (envG F f s.heap.objs.size)
  N := N
  s_0 := s
  H_0 := H
  env := envG F f s.heap.objs.size
  outer := outer
  stack := envG F f s.heap.objs.size :: outer
  ex := []
  calm := true
  fn := fun x => decide (F.scope.names.lookup x = some .cell)
  pn := []
  xe := fun e s' => wpAny (model P w) (A.deeper (envG F f s.heap.objs.size)) (leaving (envG F f s.heap.objs.size) e) (fun _ s'' => CX outer H s E e s'') (fun e' s'' => CX outer H s E e' s'') s'
section
variable {CX : CXT} {P : Program} {w : World} {K : PySem.W.Frag} {mg : Str → Option Value} {base : Heap} {N ps fr : List Str} {F : NF} {f : Addr} {A : Around} {outer : List Env} {s : Shared} {H : Hp} {E : XK} {us : List Value} {vs : List V} {ws : List (Option V)}
/-- at the body's start -/
theorem inv_startG {h' : Heap} {tk : Nat} (S : GScope N ps fr F.scope) (hd : A.handled = none) (e0 : Env0 P w K mg base A outer s H) (hl : vs.length = ps.length) (r : Vals vs us) (C : CellsAt F.cl fr ws s.heap H)
    (hns : h'.Ns s.heap.objs.size fun y => (ps.zip us).reverse.lookup y)
    (hk : ∀ b o, b ≠ s.heap.objs.size → (pushCells (s.heap.push { cls := .type "frame", data := .dict #[] }) F.scope.names).get? b = some o → h'.get? b = some o) :
    Inv (gcx CX P w K mg base N F f A outer s H E) [] (startF N vs ws) H { s with heap := h', toks := tk } := by
  have hpl : ps.length + fr.length ≤ N.length := by
    have q := congrArg List.length S.pre
    rw [List.length_take, List.length_append] at q
    omega
  have kp : ∀ b o, s.heap.get? b = some o → h'.get? b = some o := fun b o e =>
    hk b o (Nat.ne_of_lt (Heap.lt_size e)) (pushCells_keeps _ _ b o (Heap.get?_push_of_some _ e))
  have okc := cellsFrom_ok F.scope.names (s.heap.push { cls := .type "frame", data := .dict #[] }) (s.heap.objs.size + 1) [] ⟨fun _ _ hm => (nomatch hm), List.Pairwise.nil⟩ (by rw [Heap.size_push]; exact Nat.le_refl _)
  rw [Heap.size_push] at okc
  have spl : (gcx CX P w K mg base N F f A outer s H E).env.cells = cellsFrom (s.heap.objs.size + 1) F.scope.names [] ++ F.cl := cells_split _ _ _
  -- where a name's cell comes from
  have two : ∀ y c, (gcx CX P w K mg base N F f A outer s H E).env.cells.lookup y = some c → (cellsFrom (s.heap.objs.size + 1) F.scope.names []).lookup y = some c ∨ ((cellsFrom (s.heap.objs.size + 1) F.scope.names []).lookup y = none ∧ F.cl.lookup y = some c) := fun y c e => by
    rw [spl, lookup_app] at e
    cases q : (cellsFrom (s.heap.objs.size + 1) F.scope.names []).lookup y with
    | some d =>
      rw [q] at e
      exact .inl e
    | none =>
      rw [q] at e
      exact .inr ⟨rfl, e⟩
  have own : ∀ y c, (cellsFrom (s.heap.objs.size + 1) F.scope.names []).lookup y = some c → s.heap.objs.size < c ∧ h'.IsCell c none := fun y c e => by
    obtain ⟨⟨o, h1, h2⟩, h3⟩ := okc.empty y c (PySem.mem_of_lookup e)
    exact ⟨h3, o, hk c o (Nat.ne_of_gt h3) h1, h2⟩
  have cap : ∀ y c, F.cl.lookup y = some c → c < s.heap.objs.size ∧ ∃ v, h'.IsCell c v := fun y c e => by
    obtain ⟨_, v, z⟩ := C.all y c e
    exact ⟨z.lt, v, z.keeps kp⟩
  have noA : ∀ b : Addr, b ∉ (gcx CX P w K mg base N F f A outer s H E).ex := fun b z => absurd (show b ∈ ([] : List Addr) from z) (by simp)
  -- a captured name's cell is the captured one
  have frc : ∀ y c, F.scope.names.lookup y = some .free → F.cl.lookup y = some c → (gcx CX P w K mg base N F f A outer s H E).env.cells.lookup y = some c := fun y c h1 h2 => by
    rw [spl, lookup_app]
    cases q : (cellsFrom (s.heap.objs.size + 1) F.scope.names []).lookup y with
    | none => exact h2
    | some d =>
      have z := S.uniq _ (cells_names _ _ (PySem.mem_of_lookup q))
      rw [show (F.scope.names.lookup (y, NameKind.cell).1) = some NameKind.free from h1] at z
      cases z
  refine ⟨⟨e0.mod, S.kind, rfl, rfl, Nat.le_refl _, fun x y c e1 e2 => ?_, fun y hy => ?_, fun y c z e => ?_, fun _ => hd, Around.frames_deeper e0.frames, .inr ⟨rfl, rfl⟩, fun b z => absurd z (noA b), e0.bs, e0.bsz, fun b _ _ => noA b,
      fun b z => absurd z (noA b), e0.funs, e0.frf⟩,
    rfl, e0.bare, Un.kept kp, ⟨_, hns, fun i y v e1 e2 e3 => ?_⟩, fun y c e => ?_, e0.hok.fresh (Nat.le_refl _), fun y c e => ?_, fun q hq => absurd (show q ∈ ([] : List (Addr × Obj)) ++ [] from hq) (by simp), e0.hok.kept kp, ?_⟩
  · rcases two x c e1 with a | ⟨_, a⟩
    · rcases two y c e2 with b | ⟨_, b⟩
      · exact name_of_addr okc.apart (PySem.mem_of_lookup a) (PySem.mem_of_lookup b)
      · exact absurd (Nat.lt_trans (own x c a).1 (cap y c b).1) (Nat.lt_irrefl _)
    · rcases two y c e2 with b | ⟨_, b⟩
      · exact absurd (Nat.lt_trans (own y c b).1 (cap x c a).1) (Nat.lt_irrefl _)
      · exact C.inj x y c a b
  · have hy : F.scope.names.lookup y = some .cell ∨ F.scope.names.lookup y = some .free := hy
    rcases hy with hy | hy
    · obtain ⟨c, hc⟩ := cell_has (n := s.heap.objs.size + 1) hy
      exact ⟨c, by rw [spl, lookup_app, hc]; rfl⟩
    · obtain ⟨i, hi⟩ := List.mem_iff_getElem?.mp (S.free _ (PySem.mem_of_lookup hy) rfl)
      obtain ⟨c, hc, _⟩ := C.has i y hi
      exact ⟨c, frc y c hy hc⟩
  · have hy : F.scope.names.lookup y = some .cell := of_decide_eq_true (show decide (F.scope.names.lookup y = some .cell) = true from z)
    obtain ⟨d, hd⟩ := cell_has (n := s.heap.objs.size + 1) hy
    rcases two y c e with a | ⟨a, _⟩
    · exact Nat.le_of_lt (own y c a).1
    · rw [hd] at a
      cases a
  · have e1 : N[i]? = some y := e1
    have clen := C.len
    unfold startF at e2
    by_cases h1 : i < ps.length
    · have hq : (ps ++ fr)[i]? = some y := by
        rw [← S.pre, List.getElem?_take_of_lt (by omega)]
        exact e1
      rw [List.getElem?_append_left h1] at hq
      rw [List.getElem?_append_left (by rw [List.length_map]; omega), List.getElem?_map] at e2
      have ha : vs[i]? = some v := by
        cases e : vs[i]? with
        | none =>
          rw [e] at e2
          cases e2
        | some a =>
          rw [e] at e2
          cases e2
          rfl
      obtain ⟨u, hu, rv⟩ := r.get ha
      have ndP : ps.Nodup := by
        have q := S.nd.sublist (List.take_sublist (ps.length + fr.length) N)
        rw [S.pre] at q
        exact (List.nodup_append.mp q).1
      exact ⟨u, rv, .inl ⟨S.par y (List.mem_of_getElem? hq), zip_look ndP hq hu⟩⟩
    · rw [List.getElem?_append_right (by rw [List.length_map]; omega), List.length_map] at e2
      by_cases h2 : i < ps.length + fr.length
      · have hq : (ps ++ fr)[i]? = some y := by
          rw [← S.pre, List.getElem?_take_of_lt (by omega)]
          exact e1
        rw [List.getElem?_append_right (by omega)] at hq
        rw [List.getElem?_append_left (by omega), hl] at e2
        obtain ⟨c, hc, hv⟩ := C.has (i - ps.length) y hq
        obtain ⟨u, ru, hu⟩ := hv v e2
        have hfr := S.frk y (List.mem_of_getElem? hq)
        exact ⟨u, ru, .inr ⟨.inr hfr, c, frc y c hfr hc, hu.keeps kp⟩⟩
      · rw [List.getElem?_append_right (by omega), List.getElem?_replicate] at e2
        split at e2 <;> cases e2
  · rcases two y c e with a | ⟨_, a⟩
    · exact ⟨_, (own y c a).2⟩
    · exact (cap y c a).2
  · rcases two y c e with a | ⟨_, a⟩
    · exact e0.hok.fresh (Nat.le_of_lt (own y c a).1)
    · exact (C.all y c a).1
  · have clen := C.len
    unfold startF
    show _ = N.length
    rw [List.length_append, List.length_append, List.length_map, List.length_replicate]
    omega
/-- its call, by its body -/
theorem gcall {k : Nat} {Q : VK} (S : GScope N ps fr F.scope) (hb : ∀ (doc pm ctv : Value) (us : List Value), us.length = ps.length → bindArgs (F.fd doc pm ctv) ⟨us, []⟩ = pure (ps.zip us))
    (hr : Room (k + 1) A) (e0 : Env0 P w K mg base A outer s H) (hf : H f = some (FnO f F)) (hc : H F.c = some (CodeO F.c F.qual)) (C : CellsAt F.cl fr ws s.heap H) (hl : vs.length = ps.length) (r : Vals vs us)
    (body : Room k (A.deeper (envG F f s.heap.objs.size)) → ∃ t, PSs (gcx CX P w K mg base N F f A outer s H E) F.body t ∧ t { nx := fun _ H' => Q .non H', rt := Q } (startF N vs ws) H) :
    codeAny (model P w) A (.call (.ref f) ⟨us, []⟩) (CR CX outer P w H s Q E) s := by
  have lim : s.heap.NoLimit := e0.mod.nolimit.keeps fun b o e => (e0.bs b o e).1
  obtain ⟨od, sl, doc, pm, ctv, ho⟩ := fnO_at e0.hok hf
  refine codeAny_call_function hr.depth ho rfl S.co S.gen rfl (codeO_at e0.hok hc) ?_
  rw [hb doc pm ctv us (by rw [← r.length]; exact hl)]
  refine wpAny_pure (env_cc S.kind (fun ⟨n, _⟩ hy => S.par n (List.of_mem_zip hy).1) fun h' t' hns hk => ⟨?_, codeAny_func ?_⟩)
  · exact lim.keeps fun b o e => hk b o (Nat.ne_of_lt (Heap.lt_size e)) (pushCells_keeps _ _ b o (Heap.get?_push_of_some _ e))
  · obtain ⟨t, ht, hq⟩ := body (hr.deeper _)
    have I : Inv (gcx CX P w K mg base N F f A outer s H E) [] (startF N vs ws) H { s with heap := h', toks := t' } := inv_startG S hr.hd e0 hl r C hns hk
    refine wpAny_mono (ht.run [] _ (startF N vs ws) H _ I hq) (fun fl s2 hs => ?_) fun _ _ z => z
    cases fl with
    | ret u =>
      obtain ⟨v, σ2, H2, J, rv, q⟩ := hs
      exact ⟨v, H2, J.os, J.bare, J.base, J.hok, rv, q⟩
    | next =>
      obtain ⟨σ2, H2, J, q⟩ := hs
      exact ⟨.non, H2, J.os, J.bare, J.base, J.hok, rfl, q⟩
    | brk =>
      obtain ⟨_, _, _, q⟩ := hs
      exact q.elim
    | cont =>
      obtain ⟨_, _, _, q⟩ := hs
      exact q.elim
end
end Bk
set_option Elab.async false
set_option linter.all false
set_option maxRecDepth 100000
set_option maxHeartbeats 4000000
/-! The law's programs: what a deed leads to. -/
namespace Bk
open PySem PySem.Spec PyProof.Rows L2 LamX NdefX
abbrev sLdoes : Stmt := (defBody sLprogram).getD 4 (.Pass ⟨0, 0, 0, 0⟩)
def frD : List Str := ["_law_a", "_law_b", "_law_cell", "_law_digits_here", "_law_m", "_law_many"]
theorem scLdoes : GScope ["_law_hand", "_law_state_here", "_law_word", "_law_a", "_law_b", "_law_cell", "_law_digits_here", "_law_m", "_law_many", "_law_heard", "_law_new", "_law_digit", "_law_step", "_law_letters", "_law_k"]
    ["_law_hand", "_law_state_here", "_law_word"] frD (C8.fnScope sLdoes) := gscope_by (by decide +kernel)
def qDoes : Str := ("_law_program" : Str) ++ ".<locals>." ++ "_law_does"
abbrev nfD (cl : List (Str × Addr)) (c : Addr) : NF := NF.of sLdoes "_law_does" qDoes cl c
/-- a program's numbers -/
structure DP where
  many : Int
  cell : Int
  ds : List Int
structure DP.Ok (d : DP) : Prop where
  lo : 2 ≤ d.many
  hi : d.many ≤ 5
  len : d.ds.length = 60
def DP.a (d : DP) : Int := 1 + d.cell / 2 % 97
def DP.b (d : DP) : Int := 1 + d.cell / 194 % 89
def DP.m (d : DP) : Int := 101 + d.cell / 17266 % (10 ^ (9 : Int).toNat)
def DP.new0 (d : DP) (h st heard : Int) : Int := (d.a * st + d.b * heard + h + 1) % d.m
def DP.digit (d : DP) (h st heard : Int) : Int := if d.cell % 2 = 0 then (d.ds[((st * d.many + h) % 60).toNat]?).getD 0 else d.new0 h st heard
def DP.new (d : DP) (h st heard : Int) : Int := if d.cell % 2 = 0 then st + 1 + heard % 2 else d.new0 h st heard
def DP.letters (d : DP) (h st heard : Int) : List Lt :=
  (List.range (d.digit h st heard % 4).toNat).map fun k => ((d.digit h st heard / 4 + (0 + (k : Nat)) * (d.digit h st heard / 8 % 2)) % d.many, d.new h st heard + d.digit h st heard + (0 + (k : Nat)) * (d.digit h st heard / 8 % 2))
def DP.words (d : DP) (h st heard : Int) : List Int := [d.new h st heard, d.digit h st heard].take (d.digit h st heard / 9 % 3).toNat
/-- what a deed leads to -/
def DP.fn (d : DP) (h st : Int) (wd : Option Int) : Int × List Lt × List Int := (d.new h st (wd.getD 0), d.letters h st (wd.getD 0), d.words h st (wd.getD 0))
def wdV : Option Int → V
  | none => .non
  | some w => .int w
def wsD (d : DP) (dl : Addr) : List (Option V) := [some (.int d.a), some (.int d.b), some (.int d.cell), some (.ref dl), some (.int d.m), some (.int d.many)]
def spDoes (d : DP) (dl : Addr) : Sp := fun vs H Q _ => ∃ (h st : Int) (wd : Option Int), vs = [.int h, .int st, wdV wd] ∧ d.Ok ∧ H dl = some (.lst (d.ds.map V.int)) ∧
  ∀ (p l m : Addr) (lv : List V) (H' : Hp), H p = none → H l = none → H m = none → Same H H' → H' p = some (.tup [.int (d.fn h st wd).1, .ref l, .ref m]) → H' l = some (.lst lv) → Paired (LtAt H') lv (d.fn h st wd).2.1 →
    H' m = some (.lst ((d.fn h st wd).2.2.map V.int)) → Q (.ref p) H'
theorem DP.a_rg (d : DP) : 1 ≤ d.a ∧ d.a < 98 := by
  unfold DP.a
  omega
theorem DP.b_rg (d : DP) : 1 ≤ d.b ∧ d.b < 90 := by
  unfold DP.b
  omega
theorem DP.m_rg (d : DP) : 0 < d.m := by
  unfold DP.m
  have : (10 : Int) ^ (9 : Int).toNat = 1000000000 := by decide
  rw [this]
  omega
theorem p2 : (0 : Int) < 2 := by decide
theorem p3 : (0 : Int) < 3 := by decide
theorem p4 : (0 : Int) < 4 := by decide
theorem p60 : (0 : Int) < 60 := by decide
theorem same_upd {H : Hp} {p : Addr} {o : HO} (h : H p = none) : Same H (upd H p o) := fun b u e => by
  rw [upd_ne (ne_of_none e h)]
  exact e
section
variable {P : Program} {w : World} {K : PySem.W.Frag} {mg : Str → Option Value} {base : Heap}
theorem does_body (T : Txt K mg) {d : DP} {dl f : Addr} {cl : List (Str × Addr)} {c : Addr} {A : Around} {outer : List Env} {s : Shared} {H : Hp} {Q : VK} {E : XK} {vs : List V} (h : spDoes d dl vs H Q E) :
    ∃ t, PSs (gcx CX0 P w K mg base ["_law_hand", "_law_state_here", "_law_word", "_law_a", "_law_b", "_law_cell", "_law_digits_here", "_law_m", "_law_many", "_law_heard", "_law_new", "_law_digit", "_law_step", "_law_letters", "_law_k"] (nfD cl c) f A outer s H E).nox (nfD cl c).body t ∧
      t { nx := fun _ H' => Q .non H', rt := Q } (startF ["_law_hand", "_law_state_here", "_law_word", "_law_a", "_law_b", "_law_cell", "_law_digits_here", "_law_m", "_law_many", "_law_heard", "_law_new", "_law_digit", "_law_step", "_law_letters", "_law_k"] vs (wsD d dl)) H := by
  obtain ⟨h, st, wd, rfl, ok, hdl, k⟩ := h
  have ha := d.a_rg
  have hb := d.b_rg
  have hm := d.m_rg
  have hlo := ok.lo
  have hhi := ok.hi
  refine ⟨_, (pss_cons (ps_set (i := 9) scLdoes.nd rfl (Or.inl rfl) (pv 2))
      (C8.pss_cut (ps_if (pt_cmpR op_isN (pv 2) pe_non (nomark _)) (pss_one (ps_set (i := 9) scLdoes.nd rfl (Or.inl rfl) pe_int)) pss_nil)
      (pss_cons (ps_set (i := 10) scLdoes.nd rfl (Or.inr rfl) (pe_op op_mod (pe_op op_add (pe_op op_add (pe_op op_add (pe_op op_mul (pv 3) (pv 1)) (pe_op op_mul (pv 4) (pv 9))) (pv 0)) pe_int) (pv 7)))
      (pss_cons (ps_set (i := 11) scLdoes.nd rfl (Or.inr rfl) (pv 10))
      (C8.pss_cut (ps_if (pt_cmpR op_eq (pe_op op_mod (pv 5) pe_int) pe_int (nomark _)) (pss_cons (ps_set (i := 11) scLdoes.nd rfl (Or.inr rfl) (pe_ix ix_list (pv 6) (pe_op op_mod (pe_op op_add (pe_op op_mul (pv 1) (pv 8)) (pv 0)) pe_int) (fun _ _ => rfl)))
      (pss_one (ps_set (i := 10) scLdoes.nd rfl (Or.inr rfl) (pe_op op_add (pe_op op_add (pv 1) pe_int) (pe_op op_mod (pv 9) pe_int))))) pss_nil)
      (pss_cons (ps_set (i := 12) scLdoes.nd rfl (Or.inr rfl) (pe_op op_mod (pe_op op_fdiv (pv 11) pe_int) pe_int))
      (pss_cons (ps_setLc (own := [("_law_k", 14)]) (i := 13) rfl scLdoes.nd rfl rfl (sw_true rfl rfl rfl (by decide +kernel)) (pi_range1 rfl T.n_range (pa_cons (pe_op op_mod (pv 11) pe_int) pa_nil)) (blkOk_by (N := ["_law_hand", "_law_state_here", "_law_word", "_law_a", "_law_b", "_law_cell", "_law_digits_here", "_law_m", "_law_many", "_law_heard", "_law_new", "_law_digit", "_law_step", "_law_letters", "_law_k"]) (sc := C8.fnScope sLdoes) (by decide +kernel)) (fun _ _ _ _ _ => (pg_name (i := 14) scLdoes.nd rfl (Or.inl rfl) (Or.inr rfl))) (fun _ _ _ _ _ => pts_nil) (fun _ _ _ _ _ => (pe_tup (pa_cons (pe_op op_mod (pe_op op_add (pe_op op_fdiv (pv 11) pe_int) (pe_op op_mul (pv 14) (pv 12))) (pv 8)) (pa_cons (pe_op op_add (pe_op op_add (pv 10) (pv 11)) (pe_op op_mul (pv 14) (pv 12))) pa_nil)))))
      (pss_one (ps_ret (pe_tup (pa_cons (pv 10) (pa_cons (pv 13) (pa_cons (pe_slice sl_list (pe_lst (pa_cons (pv 10) (pa_cons (pv 11) pa_nil))) po_none (po_some (pe_op op_mod (pe_op op_fdiv (pv 11) pe_int) pe_int))) pa_nil))))))))))))), ?_⟩
  refine ⟨_, rfl, ?_⟩
  refine ⟨fun σ' H' => σ' = [some (.int h), some (.int st), some (wdV wd), some (.int d.a), some (.int d.b), some (.int d.cell), some (.ref dl), some (.int d.m), some (.int d.many), some (.int (wd.getD 0)), none, none, none, none, none] ∧ H' = H, ?_, ?_⟩
  · cases wd with
    | none => exact ⟨_, rfl, rfl, _, rfl, iteT ⟨rfl, rfl⟩⟩
    | some x => exact ⟨_, rfl, rfl, _, rfl, iteF ⟨rfl, rfl⟩⟩
  · rintro σ' H' ⟨rfl, rfl⟩
    have e0 : d.new0 h st (wd.getD 0) = (d.a * st + d.b * wd.getD 0 + h + 1) % d.m := rfl
    refine ⟨_, rfl, _, rfl, _, _, rfl, rfl, .inl (by omega), _, rfl, _, rfl, _, _, rfl, rfl, .inl (by omega), _, _, rfl, rfl, _, rfl, _, _, rfl, rfl, _, _, rfl, rfl, _, rfl, _, _, rfl, rfl, hm, ?_⟩
    refine ⟨_, rfl, ?_⟩
    refine ⟨fun σ' H2 => σ' = [some (.int h), some (.int st), some (wdV wd), some (.int d.a), some (.int d.b), some (.int d.cell), some (.ref dl), some (.int d.m), some (.int d.many), some (.int (wd.getD 0)), some (.int (d.new h st (wd.getD 0))), some (.int (d.digit h st (wd.getD 0))), none, none, none] ∧ H2 = H', ?_, ?_⟩
    · refine ⟨_, rfl, _, _, rfl, rfl, p2, rfl, _, rfl, ?_⟩
      by_cases ev : d.cell % 2 = 0
      · have e1 : d.digit h st (wd.getD 0) = (d.ds[((st * d.many + h) % 60).toNat]?).getD 0 := if_pos ev
        have e2 : d.new h st (wd.getD 0) = st + 1 + wd.getD 0 % 2 := if_pos ev
        rw [decide_eq_true (show V.int (d.cell % 2) = V.int 0 from congrArg V.int ev)]
        have hi : ((st * d.many + h) % 60).toNat < d.ds.length := by
          rw [ok.len]
          omega
        have hg : (d.ds.map V.int)[((st * d.many + h) % 60).toNat]? = some (.int (d.digit h st (wd.getD 0))) := by
          rw [e1, List.getElem?_map, List.getElem?_eq_getElem hi]
          rfl
        have hn : (st * d.many + h) % 60 = ((((st * d.many + h) % 60).toNat : Nat) : Int) := by omega
        refine iteT ⟨_, rfl, _, rfl, _, rfl, _, _, rfl, rfl, .inr (by omega), _, rfl, _, _, rfl, rfl, _, _, rfl, rfl, p60, dl, _, _, _, rfl, rfl, SqL.of hdl, (by rw [hn]; exact atI_nat hg), ?_⟩
        refine ⟨_, rfl, _, _, rfl, rfl, _, rfl, _, _, rfl, rfl, p2, _, _, rfl, rfl, ?_⟩
        refine ⟨?_, rfl⟩
        rw [e2] <;> rfl
      · have e1 : d.digit h st (wd.getD 0) = d.new0 h st (wd.getD 0) := if_neg ev
        have e2 : d.new h st (wd.getD 0) = d.new0 h st (wd.getD 0) := if_neg ev
        rw [decide_eq_false (show ¬ V.int (d.cell % 2) = V.int 0 from fun z => ev (V.int.inj z))]
        refine iteF ⟨?_, rfl⟩
        rw [e1, e2] <;> rfl
    · rintro σ' G ⟨rfl, rfl⟩
      refine ⟨_, rfl, _, _, rfl, rfl, ⟨by decide, by decide⟩, _, _, rfl, rfl, p2, ?_⟩
      have hq := Int.emod_nonneg (d.digit h st (wd.getD 0)) (show (4 : Int) ≠ 0 by decide)
      have hq2 := Int.emod_lt_of_pos (d.digit h st (wd.getD 0)) (show (0 : Int) < 4 by decide)
      refine ⟨_, rfl, _, _, rfl, rfl, p4, _, rfl, by omega, by omega, fun l hl => ?_⟩
      have hst : -(2 ^ 64) < d.digit h st (wd.getD 0) / 8 % 2 ∧ d.digit h st (wd.getD 0) / 8 % 2 < 2 ^ 64 := by omega
      refine lc_range (lo := 0) (n := (d.digit h st (wd.getD 0) % 4).toNat) (fun i H2 => ∃ lv, Same G H2 ∧ H2 l = some (.lst lv) ∧ Paired (LtAt H2) lv ((List.range i).map fun k => ((d.digit h st (wd.getD 0) / 4 + (0 + (k : Nat)) * (d.digit h st (wd.getD 0) / 8 % 2)) % d.many, d.new h st (wd.getD 0) + d.digit h st (wd.getD 0) + (0 + (k : Nat)) * (d.digit h st (wd.getD 0) / 8 % 2))))
        ⟨[], same_upd hl, upd_same, .nil⟩ (fun i H2 hi ⟨lv, s2, e2, pv⟩ => ?_) (fun H2 ⟨lv, s2, e2, pv⟩ => ?_)
      · refine ⟨rfl, _, rfl, _, _, rfl, rfl, ⟨by decide, by decide⟩, _, rfl, _, rfl, _, _, rfl, rfl, .inr hst, _, _, rfl, rfl, _, rfl, _, _, rfl, rfl, by omega, ?_⟩
        refine ⟨_, rfl, _, rfl, _, _, rfl, rfl, _, rfl, _, rfl, _, _, rfl, rfl, .inr hst, _, _, rfl, rfl, ?_⟩
        refine ⟨(by show 2 ≤ sizeLine; decide), fun t ht => ⟨lv, ?_, ?_, ?_⟩⟩
        · rw [upd_ne (ne_of_none e2 ht)]
          exact e2
        · refine small1000 ?_
          rw [paired_len pv, List.length_map, List.length_range]
          omega
        · have nlt : l ≠ t := ne_of_none e2 ht
          have hHt : G t = none := s2.free ht
          have s3 : Same G (upd (upd H2 t (.tup [.int ((d.digit h st (wd.getD 0) / 4 + (0 + (i : Nat)) * (d.digit h st (wd.getD 0) / 8 % 2)) % d.many), .int (d.new h st (wd.getD 0) + d.digit h st (wd.getD 0) + (0 + (i : Nat)) * (d.digit h st (wd.getD 0) / 8 % 2))])) l (.lst (lv ++ [V.ref t]))) := fun b o e => by
            rw [upd_ne (ne_of_none e hl), upd_ne (ne_of_none e hHt)]
            exact s2 b o e
          refine ⟨lv ++ [V.ref t], s3, upd_same, ?_⟩
          have tk : TupK H2 (upd (upd H2 t (.tup [.int ((d.digit h st (wd.getD 0) / 4 + (0 + (i : Nat)) * (d.digit h st (wd.getD 0) / 8 % 2)) % d.many), .int (d.new h st (wd.getD 0) + d.digit h st (wd.getD 0) + (0 + (i : Nat)) * (d.digit h st (wd.getD 0) / 8 % 2))])) l (.lst (lv ++ [V.ref t]))) := fun b xs e => by
            rw [upd_ne (ne_of e e2 (by intro z; cases z)), upd_ne (ne_of_none e ht)]
            exact e
          rw [List.range_succ, List.map_append]
          exact paired_snoc ⟨t, rfl, by rw [upd_ne nlt.symm, upd_same]⟩ (Paired.tkL pv tk)
      · refine ⟨_, rfl, _, rfl, _, rfl, _, rfl, (by show 2 ≤ sizeLine; decide), fun q hq => ?_⟩
        have hlq : l ≠ q := ne_of_none e2 hq
        refine ⟨_, rfl, _, _, rfl, rfl, ⟨by decide, by decide⟩, _, _, rfl, rfl, p3, _, rfl, q, _, rfl, SqL.of upd_same, fun m hm' => ?_⟩
        have hqm : q ≠ m := ne_of_none upd_same hm'
        have hlm : l ≠ m := ne_of_none ((upd_ne hlq).trans e2) hm'
        refine ⟨(by show 3 ≤ sizeLine; decide), fun p hp => ?_⟩
        have hmp : m ≠ p := ne_of_none upd_same hp
        have hlp : l ≠ p := ne_of_none ((upd_ne hlm).trans ((upd_ne hlq).trans e2)) hp
        have s4 : Same H2 (upd (upd (upd H2 q (.lst [V.int (d.new h st (wd.getD 0)), V.int (d.digit h st (wd.getD 0))])) m (.lst (cutV [V.int (d.new h st (wd.getD 0)), V.int (d.digit h st (wd.getD 0))] none (some (d.digit h st (wd.getD 0) / 9 % 3))))) p
            (.tup [V.int (d.new h st (wd.getD 0)), V.ref l, V.ref m])) := (same_upd hq).trans ((same_upd hm').trans (same_upd hp))
        have s5 := s2.trans s4
        have hcut : cutV [V.int (d.new h st (wd.getD 0)), V.int (d.digit h st (wd.getD 0))] none (some (d.digit h st (wd.getD 0) / 9 % 3)) = (d.words h st (wd.getD 0)).map V.int := by
          rw [cut_to _ (by omega)]
          unfold DP.words
          rw [List.map_take]
          rfl
        refine k p l m lv _ (s2.free ((same_upd hq).free ((same_upd hm').free hp))) hl (s2.free ((same_upd hq).free hm')) s5 upd_same (s4 _ _ e2) (Paired.tkL pv (tk_same s4)) ?_
        rw [upd_ne hmp, upd_same, hcut]
        rfl
end
end Bk
set_option Elab.async false
set_option linter.all false
set_option maxRecDepth 100000
set_option maxHeartbeats 4000000
/-! The handed-out def: as it stands in the heap, its call, its maker. -/
namespace Bk
open PySem PySem.Spec PyProof.Rows L2 LamX NdefX
/-- at f: the program of the numbers d -/
structure CloAt (ρ : Rl) (H : Hp) (f : Addr) (d : DP) : Prop where
  ok : d.Ok
  ex : ∃ (cl : List (Str × Addr)) (c dl : Addr), H f = some (FnO f (nfD cl c)) ∧ H c = some (CodeO c qDoes) ∧ Own ρ H dl .fz (.lst (d.ds.map V.int)) ∧
    (∀ y a, cl.lookup y = some a → ∃ (i : Nat) (v : V), frD[i]? = some y ∧ (wsD d dl)[i]? = some (some v) ∧ H a = some (CellO a v)) ∧
    (∀ (i : Nat) y, frD[i]? = some y → ∃ a, cl.lookup y = some a) ∧ (∀ x y a, cl.lookup x = some a → cl.lookup y = some a → x = y)
theorem CloAt.step {M : Role → Prop} {ρ ρ' : Rl} {H H' : Hp} {f : Addr} {d : DP} (x : CloAt ρ H f d) (s : Step M ρ H ρ' H') (n : ¬ M .fz) : CloAt ρ' H' f d := by
  obtain ⟨ok, cl, c, dl, h1, h2, h3, h4, h5, h6⟩ := x
  refine ⟨ok, cl, c, dl, s.stab f _ h1 trivial, s.stab c _ h2 trivial, h3.step s n, fun y a e => ?_, h5, h6⟩
  obtain ⟨i, v, e1, e2, e3⟩ := h4 y a e
  exact ⟨i, v, e1, e2, s.stab a _ e3 trivial⟩
theorem frD_nd : frD.Nodup := by decide +kernel
/-- what its call promises -/
def CloQ (d : DP) (vs : List V) (H : Hp) (Q : VK) : Prop := ∃ (h st : Int) (wd : Option Int), vs = [.int h, .int st, wdV wd] ∧
  ∀ (p l m : Addr) (lv : List V) (H' : Hp), H p = none → H l = none → H m = none → Same H H' → H' p = some (.tup [.int (d.fn h st wd).1, .ref l, .ref m]) → H' l = some (.lst lv) → Paired (LtAt H') lv (d.fn h st wd).2.1 →
    H' m = some (.lst ((d.fn h st wd).2.2.map V.int)) → Q (.ref p) H'
section
variable {K : PySem.W.Frag} {mg : Str → Option Value} {X : Cx} {pins : List (Addr × Obj)} {σ : L2.St} {H : Hp} {s : Shared}
theorem does_binds (cl : List (Str × Addr)) (c : Addr) (doc pm ctv : Value) (us : List Value) (hl : us.length = 3) : bindArgs ((nfD cl c).fd doc pm ctv) ⟨us, []⟩ = pure ((["_law_hand", "_law_state_here", "_law_word"] : List Str).zip us) :=
  match us, hl with | [_, _, _], _ => rfl
theorem clo_run {ρ : Rl} {f : Addr} {d : DP} {us : List Value} {vs : List V} {Q : VK} (T : Txt X.K X.mg) (I : Inv X pins σ H s) (hr : Room 2 X.A) (C : CloAt ρ H f d) (r : Vals vs us) (q : CloQ d vs H Q) :
    wpAny (model X.prog X.w) X.A (call (.ref f) us) (EP X pins σ Q) X.xe s := by
  obtain ⟨ok, cl, c, dl, h1, h2, h3, h4, h5, h6⟩ := C
  obtain ⟨h, st, wd, rfl, q⟩ := q
  let cs : List Addr := frD.filterMap fun y => cl.lookup y
  have inCs : ∀ y a, cl.lookup y = some a → a ∈ cs := fun y a e => by
    obtain ⟨i, v, e1, _, _⟩ := h4 y a e
    exact List.mem_filterMap.mpr ⟨y, List.mem_of_getElem? e1, e⟩
  have ac : AllCells H cs := fun b hb => by
    obtain ⟨y, _, e⟩ := List.mem_filterMap.mp hb
    obtain ⟨i, v, _, _, e3⟩ := h4 y b e
    exact ⟨v, e3⟩
  have notCell : ∀ b o, H b = some o → (∀ φ, o ≠ .ext φ) → b ∉ cs := fun b o e n z => by
    obtain ⟨v, e2⟩ := ac b z
    rw [e] at e2
    exact n _ (Option.some.inj e2)
  have dataOf : ∀ b ∈ cs, ∃ o u, s.heap.get? b = some o ∧ o.data = .cell (some u) := fun b hb => by
    obtain ⟨v, e⟩ := ac b hb
    obtain ⟨u, _, o, e1, e2⟩ := cellO_at I.hok e
    exact ⟨o, u, e1, e2⟩
  have hf : f ∉ cs := fun z => by
    obtain ⟨o, u, e1, e2⟩ := dataOf f z
    obtain ⟨od, sl, doc, pm, ctv, e3⟩ := fnO_at I.hok h1
    rw [e1] at e3
    cases e3
    cases e2
  have hc : c ∉ cs := fun z => by
    obtain ⟨o, u, e1, e2⟩ := dataOf c z
    obtain ⟨c1, oc, vs1, t1, ec, e3, e4, _⟩ := codeO_at I.hok h2
    cases ec
    rw [e1] at e3
    cases e3
    rw [e2] at e4
    cases e4
  have hdl : dl ∉ cs := notCell dl _ h3.at_ fun φ z => by cases z
  have e0 := hide_env ac I.env0
  have hCells : CellsAt cl frD (wsD d dl) s.heap (hideH H cs) := by
    refine ⟨rfl, fun y a e => ⟨hide_in (inCs y a e), ?_⟩, h6, fun i y e => ?_⟩
    · obtain ⟨i, v, _, _, e3⟩ := h4 y a e
      obtain ⟨u, _, z⟩ := cellO_at I.hok e3
      exact ⟨_, z⟩
    · obtain ⟨a, ea⟩ := h5 i y e
      refine ⟨a, ea, fun v ev => ?_⟩
      obtain ⟨j, v', e1, e2, e3⟩ := h4 y a ea
      obtain rfl : i = j := nodup_ix frD_nd e e1
      rw [ev] at e2
      cases e2
      obtain ⟨u, ru, z⟩ := cellO_at I.hok e3
      exact ⟨u, ru, z⟩
  refine wpAny_call (codeAny_mono (gcall (CX := CX0) (E := E0) (Q := fun v H' => (∀ b ∈ cs, H' b = none) → Q v (giveH H H' cs)) (F := nfD cl c) (fr := frD) (ws := wsD d dl) (k := 1) scLdoes (does_binds cl c) hr e0 ((hide_out hf).trans h1) ((hide_out hc).trans h2) hCells rfl r fun _ => ?_) fun res s' hq => ?_)
  · have key : spDoes d dl [.int h, .int st, wdV wd] (hideH H cs) (fun v H' => (∀ b ∈ cs, H' b = none) → Q v (giveH H H' cs)) E0 := by
      refine ⟨h, st, wd, rfl, ok, (hide_out hdl).trans h3.at_, fun p l m lv H' hp hl hm sm tp tl pv tm gone => ?_⟩
      have out : ∀ b o, H' b = some o → b ∉ cs := fun b o e z => by
        rw [gone b z] at e
        cases e
      have fre : ∀ b o, H' b = some o → hideH H cs b = none → H b = none := fun b o e n => by
        rw [hide_out (out b o e)] at n
        exact n
      have gv : ∀ b o, H' b = some o → giveH H H' cs b = some o := fun b o e => (give_out (out b o e)).trans e
      refine q p l m lv _ (fre p _ tp hp) (fre l _ tl hl) (fre m _ tm hm) (fun b o e => ?_) (gv p _ tp) (gv l _ tl) (Paired.tkL pv fun b xs e => gv b _ e) (gv m _ tm)
      by_cases hb : b ∈ cs
      · exact (give_in hb).trans e
      · exact (give_out hb).trans (sm b o ((hide_out hb).trans e))
    obtain ⟨t, ht, hw⟩ := does_body (P := X.prog) (w := X.w) (K := X.K) (mg := X.mg) (base := X.base) (f := f) (cl := cl) (c := c) (A := X.A) (outer := X.stack) (s := s) T key
    exact ⟨t, ht.nox, hw⟩
  · cases res with
    | error e => exact (show False from hq).elim
    | ok fl =>
      cases fl with
      | ret u =>
        obtain ⟨v, H', os, bare, un, hok, rv, qv⟩ := hq
        obtain ⟨g1, g2, g3⟩ := give_end ac I.env0 un hok
        exact I.after ⟨v, giveH H H' cs, os, bare, g2, g3, rv, qv g1⟩
      | next => exact False.elim hq
      | brk => exact False.elim hq
      | cont => exact False.elim hq
/-- a call of a name that holds it -/
def tClo (i : Nat) (t : TA) : TE := fun σ H Q => ∃ f, σ[i]? = some (some (.ref f)) ∧ (∃ ρ d, CloAt ρ H f d) ∧ t σ H fun vs H1 => ∃ ρ d, CloAt ρ H1 f d ∧ CloQ d vs H1 Q
theorem clo_fn {ρ : Rl} {f : Addr} {d : DP} (I : Inv X pins σ H s) (C : CloAt ρ H f d) : PySem.W.FnAt f s.heap := by
  obtain ⟨_, cl, c, dl, h1, _⟩ := C
  exact fnAt_of I h1
end
section
variable {X : Cx} {i : Nat} {x : Str} {e : Expr} {es : List Expr} {t : TA} {p pos : Pos}
theorem pe_callClo (T : Txt X.K X.mg) (hr : Room 2 X.A) (hN : X.N[i]? = some x) (hv : Vis X.env.scope x) (ha : PA X (e :: es) t) (hd : (x == ("__debug__" : Str)) = false := by decide) (hcd : (x == ("__classdict__" : Str)) = false := by decide)
    (he : starEach (e :: es) X.env = (false, eval e X.env) :: starEach es X.env := by rfl) (hpl : (backTo pos (starEach es X.env)).any (·.1) = false := by rfl) : PE X (.Call (.Name x p) (e :: es) [] pos) (tClo i t) := by
  constructor
  intro pins s σ H Q I hw
  obtain ⟨f, hf, ⟨ρ, d, C⟩, ht⟩ := hw
  have look := (pe_var (X := X) (pos := p) hN hv hd hcd).run pins s σ H (fun y G => y = V.ref f ∧ G = H) I ⟨_, hf, rfl, rfl⟩
  refine wpAny_Call_Name_kw (thn look fun fv s1 hz => ?_)
  obtain ⟨y, G, J, ry, rfl, rfl⟩ := hz
  cases ry
  refine PySem.W.callWith_F (first := []) (clo_fn J C) (thn (ha.run pos pins s1 σ _ _ J ht) fun us s2 hz => ?_) he hpl
  obtain ⟨vs, G2, J2, rv, ρ2, d2, C2, q2⟩ := hz
  exact ⟨clo_fn J2 C2, clo_run T J2 hr C2 rv q2⟩
end
end Bk
set_option Elab.async false
set_option linter.all false
set_option maxRecDepth 100000
set_option maxHeartbeats 4000000
namespace Bk
open PySem PySem.Spec PyProof.Rows L2 LamX NdefX
theorem pM : (0 : Int) < 2147483647 := by decide
theorem pN : (0 : Int) < 2147483399 := by decide
def sp_Lcellat (K : PySem.W.Frag) : Sp := fun vs H Q _ => ∃ (a : Addr) (k : Nat) (ns : List Int), vs = [.ref a, .int (k : Int)] ∧ SqL K H a (ns.map V.int) ∧ ∀ v : Int, Q (.int v) H
def sp_Lmixed (K : PySem.W.Frag) : Sp := fun vs H Q _ => ∃ (c : Int) (k : Int), vs = [.int c, .int k] ∧ 0 ≤ k ∧ k ≤ 1000 ∧ ∀ v : Int, Q (.int v) H
def sp_Ldigits (K : PySem.W.Frag) : Sp := fun vs H Q _ => ∃ (c n b : Int), vs = [.int c, .int n, .int b] ∧ 0 ≤ n ∧ n ≤ 1000 ∧ 0 < b ∧ b < 1073741824 ∧
  ∀ (p : Addr) (ds : List Int), H p = none → ds.length = n.toNat → (∀ d ∈ ds, 0 ≤ d ∧ d < b) → Q (.ref p) (upd H p (.lst (ds.map V.int)))
section
variable {P : Program} {w : World} {K : PySem.W.Frag} {mg : Str → Option Value} {base : Heap}
theorem scLcellat : FnScope ["_law_script", "_law_k"] ["_law_script", "_law_k"] (defScope sLcellat) := ⟨rfl, rfl, rfl, by decide +kernel, rfl, by decide +kernel, by decide +kernel⟩
theorem ok_Lcellat (T : Txt K mg) : OK P w K mg base CX0 1 ("_law_cell_at", none) ["_law_script", "_law_k"] (sp_Lcellat K) := by
  refine OK.mk0 T.f_Lcellat scLcellat (fun _ _ _ _ _ _ us hl => match us, hl with | [_, _], _ => rfl) (fun vs H Q E h => ?_) (fun cdv A outer s H vs Q E hr h => ?_)
  · obtain ⟨a, k, ns, rfl, _⟩ := h
    rfl
  · obtain ⟨a, k, ns, rfl, hs, q⟩ := h
    refine ⟨_, (pss_cons (ps_if (pt_cmpR op_lt (pv 1) (pe_callB call_len_seq (by rfl) T.n_len PySem.boot_len (pa_cons (pv 0) pa_nil)) (nomark _)) (pss_one (ps_ret (pe_ix ix_list (pv 0) (pv 1) (fun _ _ => rfl)))) pss_nil)
      (pss_one (ps_ret pe_int))), ?_⟩
    refine ⟨_, rfl, _, rfl, a, _, rfl, .inl hs, _, _, rfl, rfl, _, rfl, ?_⟩
    by_cases c : (k : Int) < (((ns.map V.int).length : Nat) : Int)
    · rw [decide_eq_true c]
      have hk : k < ns.length := by
        rw [List.length_map] at c
        omega
      have hg : (ns.map V.int)[k]? = some (.int ns[k]) := by
        rw [List.getElem?_map, List.getElem?_eq_getElem hk]
        rfl
      exact iteT ⟨_, rfl, _, rfl, a, _, _, _, rfl, rfl, hs, atI_nat hg, q _⟩
    · rw [decide_eq_false c]
      exact iteF (q 0)
theorem scLmixed : FnScope ["_law_cell", "_law_k", "_law_number"] ["_law_cell", "_law_k"] (defScope sLmixed) := ⟨rfl, rfl, rfl, by decide +kernel, rfl, by decide +kernel, by decide +kernel⟩
theorem ok_Lmixed (T : Txt K mg) : OK P w K mg base CX0 1 ("_law_mixed", none) ["_law_cell", "_law_k"] (sp_Lmixed K) := by
  refine OK.mk0 T.f_Lmixed scLmixed (fun _ _ _ _ _ _ us hl => match us, hl with | [_, _], _ => rfl) (fun vs H Q E h => ?_) (fun cdv A outer s H vs Q E hr h => ?_)
  · obtain ⟨c, k, rfl, _⟩ := h
    rfl
  · obtain ⟨c, k, rfl, h0, h1, q⟩ := h
    refine ⟨_, (pss_cons (ps_set (i := 2) scLmixed.nd rfl (Or.inl rfl) (pe_op op_mod (pe_op op_mul (pe_op op_add (pe_op op_add (pe_op op_mod (pv 0) pe_int) (pe_op op_mul pe_int (pv 1))) pe_int) pe_int) pe_int))
      (pss_cons (ps_set (i := 2) scLmixed.nd rfl (Or.inl rfl) (pe_op op_mod (pe_op op_mul (pv 2) (pe_op op_add (pe_op op_fdiv (pv 2) pe_int) pe_int)) pe_int))
      (pss_one (ps_ret (pe_op op_mod (pe_op op_mul (pe_op op_add (pv 2) (pe_op op_mul pe_int (pv 1))) (pe_op op_add (pe_op op_fdiv (pv 2) pe_int) pe_int)) pe_int))))), ?_⟩
    refine ⟨_, rfl, _, _, rfl, rfl, pM, _, rfl, _, _, rfl, rfl, .inl ⟨by decide, by decide⟩, _, _, rfl, rfl, _, _, rfl, rfl, _, _, rfl, rfl, .inr ⟨by decide, by decide⟩, _, _, rfl, rfl, pM, ?_⟩
    have r1 := Int.emod_nonneg ((c % 2147483647 + 7919 * k + 1) * 48271) (show (2147483647 : Int) ≠ 0 by decide)
    have r2 := Int.emod_lt_of_pos ((c % 2147483647 + 7919 * k + 1) * 48271) pM
    refine ⟨_, rfl, _, rfl, _, _, rfl, rfl, ⟨by decide, by decide⟩, _, _, rfl, rfl, _, _, rfl, rfl, .inl (by omega), _, _, rfl, rfl, pM, ?_⟩
    have r3 := Int.emod_nonneg ((c % 2147483647 + 7919 * k + 1) * 48271 % 2147483647 * ((c % 2147483647 + 7919 * k + 1) * 48271 % 2147483647 / 1009 + 69621)) (show (2147483647 : Int) ≠ 0 by decide)
    have r4 := Int.emod_lt_of_pos ((c % 2147483647 + 7919 * k + 1) * 48271 % 2147483647 * ((c % 2147483647 + 7919 * k + 1) * 48271 % 2147483647 / 1009 + 69621)) pM
    exact ⟨_, rfl, _, rfl, _, _, rfl, rfl, .inl ⟨by decide, by decide⟩, _, _, rfl, rfl, _, rfl, _, _, rfl, rfl, ⟨by decide, by decide⟩, _, _, rfl, rfl, _, _, rfl, rfl, .inl (by omega), _, _, rfl, rfl, pN, q _⟩
theorem scLdigits : FnScope ["_law_cell", "_law_many", "_law_base", "_law_found", "_law_rest", "_law_k"] ["_law_cell", "_law_many", "_law_base"] (defScope sLdigits) := ⟨rfl, rfl, rfl, by decide +kernel, rfl, by decide +kernel, by decide +kernel⟩
theorem ok_Ldigits (T : Txt K mg) : OK P w K mg base CX0 2 ("_law_digits", none) ["_law_cell", "_law_many", "_law_base"] (sp_Ldigits K) := by
  obtain ⟨fdLmixed, GLmixed, bLmixed, kLmixed⟩ := (ok_Lmixed (P := P) (w := w) (base := base) T).ex
  refine OK.mk0 T.f_Ldigits scLdigits (fun _ _ _ _ _ _ us hl => match us, hl with | [_, _, _], _ => rfl) (fun vs H Q E h => ?_) (fun cdv A outer s H vs Q E hr h => ?_)
  · obtain ⟨c, n, b, rfl, _⟩ := h
    rfl
  · obtain ⟨c, n, b, rfl, h0, h1, hb, hb2, q⟩ := h
    refine ⟨_, (pss_cons (ps_set (i := 3) scLdigits.nd rfl (Or.inl rfl) (pe_lst pa_nil))
      (pss_cons (ps_set (i := 4) scLdigits.nd rfl (Or.inl rfl) (pe_op op_fdiv (pv 0) pe_int))
      (pss_cons (ps_for PassesOwn.never rfl (pi_range1 rfl T.n_range (pa_cons (pv 1) pa_nil)) (pg_name (i := 5) scLdigits.nd rfl (Or.inl rfl)) (C8.pss_cut (ps_if (PW.pt (pw_and (pt_cmpR op_eq (pe_op op_mod (pv 0) pe_int) pe_int (nomark _)) (pw_and1 (pt_cmpR op_gt (pv 4) pe_int (nomark _))))) (pss_one (ps_expr (pe_bm PySem.F.plainAttrs_list PySem.F.slot_list_append PySem.F.type_list_append mt_append (pv 3) (pa_cons (pe_op op_mod (pv 4) (pv 2)) pa_nil)))) (pss_one (ps_expr (pe_bm PySem.F.plainAttrs_list PySem.F.slot_list_append PySem.F.type_list_append mt_append (pv 3) (pa_cons (pe_op op_mod (pe_call GLmixed (hr.mono (by decide)) rfl T.g_Lmixed kLmixed bLmixed .nil pass0 (pa_cons (pe_op op_fdiv (pv 0) pe_int) (pa_cons (pv 5) pa_nil))) (pv 2)) pa_nil)))))
      (pss_one (ps_set (i := 4) scLdigits.nd rfl (Or.inl rfl) (pe_op op_fdiv (pv 4) (pv 2))))))
      (pss_one (ps_ret (pv 3)))))), ?_⟩
    refine ⟨Nat.zero_le _, fun p hp => ⟨_, rfl, _, _, rfl, rfl, ⟨by decide, by decide⟩, _, rfl, _, rfl, by omega, by omega, ?_⟩⟩
    refine for_range (lo := 0) (n := n.toNat) (fun i σ G => ∃ (ds : List Int) (rest : Int) (v : Option V), σ = [some (.int c), some (.int n), some (.int b), some (.ref p), some (.int rest), v] ∧ G = upd H p (.lst (ds.map V.int)) ∧ ds.length = i ∧ ∀ d ∈ ds, 0 ≤ d ∧ d < b)
      ⟨[], _, none, rfl, rfl, rfl, fun _ z => nomatch z⟩ (fun i σ G hi hw => ?_) fun σ G hw => ?_
    · obtain ⟨ds, rest, v, rfl, rfl, hl, hd⟩ := hw
      have hsz : (ds.map V.int).length < sizeLine := small1000 (by rw [List.length_map]; omega)
      refine ⟨fun σ' G' => ∃ d : Int, 0 ≤ d ∧ d < b ∧ σ' = [some (.int c), some (.int n), some (.int b), some (.ref p), some (.int rest), some (.int (0 + (i : Nat)))] ∧ G' = upd H p (.lst ((ds ++ [d]).map V.int)), ?_, ?_⟩
      · refine ⟨_, rfl, _, _, rfl, rfl, p2, rfl, _, rfl, ?_⟩
        have app : ∀ d : Int, upd (upd H p (.lst (ds.map V.int))) p (.lst (ds.map V.int ++ [V.int d])) = upd H p (.lst ((ds ++ [d]).map V.int)) := fun d => by
          rw [upd_upd, List.map_append]
          rfl
        have yes : ∀ d : Int, 0 ≤ d → d < b → ∃ d' : Int, 0 ≤ d' ∧ d' < b ∧ ([some (.int c), some (.int n), some (.int b), some (.ref p), some (.int rest), some (.int (0 + (i : Nat)))] : L2.St) = [some (.int c), some (.int n), some (.int b), some (.ref p), some (.int rest), some (.int (0 + (i : Nat)))] ∧
            upd (upd H p (.lst (ds.map V.int))) p (.lst (ds.map V.int ++ [V.int d])) = upd H p (.lst ((ds ++ [d']).map V.int)) := fun d a1 a2 => ⟨d, a1, a2, rfl, app d⟩
        have no : ∀ v : Int, 0 ≤ v % b ∧ v % b < b := fun v => ⟨Int.emod_nonneg _ (by omega), Int.emod_lt_of_pos _ hb⟩
        have tailA : ∀ v : Int, (∃ d' : Int, 0 ≤ d' ∧ d' < b ∧ ([some (.int c), some (.int n), some (.int b), some (.ref p), some (.int rest), some (.int (0 + (i : Nat)))] : L2.St) = [some (.int c), some (.int n), some (.int b), some (.ref p), some (.int rest), some (.int (0 + (i : Nat)))] ∧
            upd (upd H p (.lst (ds.map V.int))) p (.lst (ds.map V.int ++ [V.int (v % b)])) = upd H p (.lst ((ds ++ [d']).map V.int))) := fun v => yes _ (no v).1 (no v).2
        refine ite2 (fun ev => ⟨_, rfl, _, _, rfl, rfl, _, rfl, ite2 (fun _ => ?_) (fun _ => ?_)⟩) (fun ev => ?_)
        · exact ⟨_, rfl, .inl ⟨rfl, _, SqL.of upd_same⟩, _, rfl, _, rfl, _, _, rfl, rfl, hb, p, _, _, rfl, rfl, upd_same, hsz, tailA rest⟩
        · exact ⟨_, rfl, .inl ⟨rfl, _, SqL.of upd_same⟩, _, rfl, _, _, rfl, rfl, ⟨by decide, by decide⟩, _, rfl, _, _, rfl, by omega, by omega, fun v => ⟨_, rfl, _, _, rfl, rfl, hb, p, _, _, rfl, rfl, upd_same, hsz, tailA v⟩⟩
        · exact ⟨_, rfl, .inl ⟨rfl, _, SqL.of upd_same⟩, _, rfl, _, _, rfl, rfl, ⟨by decide, by decide⟩, _, rfl, _, _, rfl, by omega, by omega, fun v => ⟨_, rfl, _, _, rfl, rfl, hb, p, _, _, rfl, rfl, upd_same, hsz, tailA v⟩⟩
      · rintro σ' G' ⟨d, d0, d1, rfl, rfl⟩
        refine ⟨_, rfl, _, rfl, _, _, rfl, rfl, ⟨hb, hb2⟩, ds ++ [d], _, _, rfl, rfl, ?_, fun x hx => ?_⟩
        · rw [List.length_append, hl]
          rfl
        · rcases List.mem_append.mp hx with z | z
          · exact hd x z
          · rw [List.mem_singleton.mp z]
            exact ⟨d0, d1⟩
    · obtain ⟨ds, rest, v, rfl, rfl, hl, hd⟩ := hw
      exact ⟨_, rfl, q p ds hp hl hd⟩
end
end Bk
set_option Elab.async false
set_option linter.all false
set_option maxRecDepth 100000
set_option maxHeartbeats 4000000
/-! The def that hands out another one: its end tells the captured cells. -/
namespace Bk
open PySem PySem.Spec PyProof.Rows L2 LamX NdefX
/-- a block that ends in a return, told with the names' values -/
def PXs (X : Cx) (sts : List Stmt) (t : (L2.St → VK) → L2.St → Hp → Prop) : Prop := ∀ (pins : List (Addr × Obj)) (s : Shared) (σ : L2.St) (H : Hp) (R : L2.St → VK), Inv X pins σ H s → t R σ H →
  wpAny (model X.prog X.w) X.A (execs sts X.env) (fun fl s' => ∃ u v σ' H', fl = .ret u ∧ Inv X pins σ' H' s' ∧ RelV v u ∧ R σ' v H') X.xe s
section
variable {X : Cx} {st : Stmt} {rest : List Stmt} {e : Expr} {te : TE} {pos : Pos} {t : (L2.St → VK) → L2.St → Hp → Prop} {u : TS}
theorem px_ret (he : PE X e te) : PXs X [.Return (some e) pos] (fun R σ H => te σ H (R σ)) := by
  intro pins s σ H R I h
  refine wpAny_execs_cons (wpAny_Return_some (thn (he.run pins s σ H (R σ) I h) fun y s1 hy => ?_))
  obtain ⟨v, H1, I1, r, q⟩ := hy
  exact ⟨y, v, σ, H1, rfl, I1, r, q⟩
theorem px_cons (h1 : PS X st u) (h2 : PXs X rest t) : PXs X (st :: rest) (fun R σ H => u { nx := fun σ' H' => t R σ' H', rt := fun _ _ => False } σ H) := by
  intro pins s σ H R I h
  refine wpAny_execs_cons (thn (h1.run pins s σ H _ I h) fun fl s1 hf => ?_)
  cases fl with
  | next =>
    obtain ⟨σ1, H1, I1, q⟩ := hf
    exact h2 pins s1 σ1 H1 R I1 q
  | ret y =>
    obtain ⟨_, _, _, _, _, q⟩ := hf
    exact q.elim
  | brk =>
    obtain ⟨_, _, _, q⟩ := hf
    exact q.elim
  | cont =>
    obtain ⟨_, _, _, q⟩ := hf
    exact q.elim
end
/-- the captured cells by their names' values -/
def cellV (cl : List (Str × Addr)) (fr : List Str) (ws : List V) (b : Addr) : Option V := ((fr.zip ws).find? fun p => decide (cl.lookup p.1 = some b)).map (·.2)
theorem cellV_some {cl : List (Str × Addr)} {fr : List Str} {ws : List V} {b : Addr} {v : V} (h : cellV cl fr ws b = some v) : ∃ (i : Nat) (y : Str), fr[i]? = some y ∧ ws[i]? = some v ∧ cl.lookup y = some b := by
  unfold cellV at h
  cases q : (fr.zip ws).find? fun p => decide (cl.lookup p.1 = some b) with
  | none =>
    rw [q] at h
    cases h
  | some p =>
    rw [q] at h
    cases h
    have h0 := List.find?_some q
    have h1 : cl.lookup p.1 = some b := of_decide_eq_true h0
    obtain ⟨i, hi⟩ := List.mem_iff_getElem?.mp (List.mem_of_find?_eq_some q)
    obtain ⟨y, v⟩ := p
    rw [List.getElem?_zip_eq_some] at hi
    exact ⟨i, y, hi.1, hi.2, h1⟩
theorem cellV_of {cl : List (Str × Addr)} {fr : List Str} {ws : List V} {b : Addr} {v : V} {i : Nat} {y : Str} (nd : fr.Nodup) (inj : ∀ x y a, cl.lookup x = some a → cl.lookup y = some a → x = y) (h1 : fr[i]? = some y) (h2 : ws[i]? = some v) (h3 : cl.lookup y = some b) :
    cellV cl fr ws b = some v := by
  cases q : cellV cl fr ws b with
  | some u =>
    obtain ⟨j, z, e1, e2, e3⟩ := cellV_some q
    obtain rfl := inj z y b e3 h3
    obtain rfl := nodup_ix nd h1 e1
    rw [h2] at e2
    exact e2.symm
  | none =>
    unfold cellV at q
    have z := Option.map_eq_none_iff.mp q
    have m : (y, v) ∈ fr.zip ws := List.mem_iff_getElem?.mpr ⟨i, List.getElem?_zip_eq_some.mpr ⟨h1, h2⟩⟩
    have := List.find?_eq_none.mp z (y, v) m
    simp [h3] at this
def withC (H : Hp) (G : Addr → Option V) : Hp := fun b => match G b with
  | some v => some (CellO b v)
  | none => H b
theorem withC_some {H : Hp} {G : Addr → Option V} {b : Addr} {v : V} (h : G b = some v) : withC H G b = some (CellO b v) := by
  unfold withC
  rw [h]
theorem withC_none {H : Hp} {G : Addr → Option V} {b : Addr} (h : G b = none) : withC H G b = H b := by
  unfold withC
  rw [h]
def sp_Lprogram (K : PySem.W.Frag) : Sp := fun vs H Q _ => ∃ (many cell : Int) (ρ : Rl), vs = [.int many, .int cell] ∧ 2 ≤ many ∧ many ≤ 5 ∧ Wf ρ H ∧ H (He.cT K ("_law_program", none)).2 = some (.tbl #[]) ∧
  ∀ (ρ' : Rl) (f : Addr) (d : DP) (H' : Hp), ExtN H H' → (∀ b, H' b = none → H b = none) → (∀ b, H b ≠ none → ρ' b = ρ b) → Wf ρ' H' → CloAt ρ' H' f d → d.many = many → Q (.ref f) H'
section
variable {P : Program} {w : World} {K : PySem.W.Frag} {mg : Str → Option Value} {base : Heap}
theorem scLprogram : FnScope ["_law_many", "_law_cell", "_law_does", "_law_a", "_law_b", "_law_digits_here", "_law_m"] ["_law_many", "_law_cell"] (defScope sLprogram) := ⟨rfl, rfl, rfl, by decide +kernel, rfl, by decide +kernel, by decide +kernel⟩
theorem ok_Lprogram (T : Txt K mg) (TB : TabB base mg (He.cT K ("_law_program", none)).1 (He.cT K ("_law_program", none)).2) : OK P w K mg base CX0 5 ("_law_program", none) ["_law_many", "_law_cell"] (sp_Lprogram K) := by
  obtain ⟨fdLdigits, GLdigits, bLdigits, kLdigits⟩ := (ok_Ldigits (P := P) (w := w) (base := base) T).ex
  obtain ⟨fd, F⟩ := T.f_Lprogram
  refine ⟨fd, ?_, F.bindsN (fun _ _ _ _ _ _ us hl => match us, hl with | [_, _], _ => rfl), F.kp⟩
  obtain ⟨oc, od, dV, kV, doc, pm, an, cdv, ct, osl, rfl, lk, hcd, _, _⟩ := F.ex
  refine ⟨fun vs H Q E h => ?_, fun A outer s H args us vs Q E hr e0 hb r h => ?_⟩
  · obtain ⟨many, cell, ρ, rfl, _⟩ := h
    rfl
  obtain ⟨many, cell, ρ, rfl, lo, hi, wf, hP, k⟩ := h
  have KX : K.In s.heap := e0.mod.kin.keeps fun b o e => (e0.bs b o e).1
  have lim : s.heap.NoLimit := e0.mod.nolimit.keeps fun b o e => (e0.bs b o e).1
  have hkind : ∀ y ∈ (["_law_many", "_law_cell"] : List Str).zip us, (defScope sLprogram).names.lookup y.1 = some .local ∨ ((defScope sLprogram).names.lookup y.1 = some .cell ∧ ((cellsFrom (s.heap.objs.size + 1) (defScope sLprogram).names []).lookup y.1).isSome = true) := by
    rintro ⟨x, u⟩ hy
    refine (scLprogram.par x (List.of_mem_zip hy).1).elim Or.inl fun q => Or.inr ⟨q, ?_⟩
    exact PySem.W.cellsFrom_some _ _ _ (.inl q)
  refine codeAny_call_function hr.depth (KX _ _ lk) rfl scLprogram.co scLprogram.gen rfl (PySem.W.codeRec_of KX hcd) (hb _ _ _ _ (wpAny_newFunctionEnv_cells scLprogram.kind hkind fun env he s1 x => ?_))
  subst he
  refine ⟨lim.keeps x.toInCall.keep, codeAny_func ?_⟩
  have I : Inv (cxOf CX0 P w K mg base ["_law_many", "_law_cell", "_law_does", "_law_a", "_law_b", "_law_digits_here", "_law_m"] "_law_program" (defScope sLprogram) (He.fAd K ("_law_program", none)) cdv A outer s H E) [] (L2.start ["_law_many", "_law_cell", "_law_does", "_law_a", "_law_b", "_law_digits_here", "_law_m"] [.int many, .int cell]) H s1 :=
    inv_start scLprogram hr.hd e0 rfl r x
  have hr4 : Room 4 (A.deeper (envOfC "_law_program" (defScope sLprogram) s.heap.objs.size (He.fAd K ("_law_program", none)) cdv)) := hr.deeper _
  obtain ⟨cc, ecc⟩ := He.codeIn_ref hcd
  have ecT : (He.cT K ("_law_program", none)).1 = cc := He.codeOf_eq lk ecc
  have TB2 : TabB base mg cc (He.cT K ("_law_program", none)).2 := by
    rw [← ecT]
    exact TB
  let cl : List (Str × Addr) := cloFrom (cellsFrom (s.heap.objs.size + 1) (defScope sLprogram).names []) (C8.fnScope sLdoes).names []
  let R : L2.St → VK := fun σ v H1 => ∃ (f c dl : Addr) (ds : List Int), v = .ref f ∧ σ = [some (.int many), some (.int cell), some (.ref f), some (.int (DP.a ⟨many, cell, ds⟩)), some (.int (DP.b ⟨many, cell, ds⟩)), some (.ref dl), some (.int (DP.m ⟨many, cell, ds⟩))] ∧
    ds.length = 60 ∧ H dl = none ∧ H1 dl = some (.lst (ds.map V.int)) ∧ ExtN H H1 ∧ (∀ b, H1 b = none → H b = none) ∧ H1 f = some (FnO f (nfD cl c)) ∧ H1 c = some (CodeO c qDoes)
  have run : wpAny (model P w) (A.deeper (envOfC "_law_program" (defScope sLprogram) s.heap.objs.size (He.fAd K ("_law_program", none)) cdv)) (execs (defBody sLprogram) (envOfC "_law_program" (defScope sLprogram) s.heap.objs.size (He.fAd K ("_law_program", none)) cdv))
      (fun fl s' => ∃ u v σ' H', fl = .ret u ∧ Inv (cxOf CX0 P w K mg base ["_law_many", "_law_cell", "_law_does", "_law_a", "_law_b", "_law_digits_here", "_law_m"] "_law_program" (defScope sLprogram) (He.fAd K ("_law_program", none)) cdv A outer s H E).nox [] σ' H' s' ∧ RelV v u ∧ R σ' v H') (fun _ _ => False) s1 := by
    have Sd : PS (cxOf CX0 P w K mg base ["_law_many", "_law_cell", "_law_does", "_law_a", "_law_b", "_law_digits_here", "_law_m"] "_law_program" (defScope sLprogram) (He.fAd K ("_law_program", none)) cdv A outer s H E).nox sLdoes
        (tNdefM [((He.cT K ("_law_program", none)).2, fun _ _ => qDoes)] 2 (NF.of sLdoes "_law_does" qDoes cl)) :=
      ps_ndefMS (nm := fun _ _ => qDoes) (i := 2) rfl TB2 ecc (List.mem_singleton.mpr rfl) rfl (fun p hp _ => by rw [List.mem_singleton.mp hp]) (ndef_free (sc := defScope sLprogram) (nsc := C8.fnScope sLdoes) (fr := frD) (by decide +kernel)) rfl rfl rfl scLprogram.nd rfl (.inl rfl) (.inl rfl)
    have px : PXs (cxOf CX0 P w K mg base ["_law_many", "_law_cell", "_law_does", "_law_a", "_law_b", "_law_digits_here", "_law_m"] "_law_program" (defScope sLprogram) (He.fAd K ("_law_program", none)) cdv A outer s H E).nox (defBody sLprogram) _ := (px_cons (ps_set (i := 5) scLprogram.nd rfl (Or.inr rfl) (pe_call GLdigits (hr4.mono (by decide)) rfl T.g_Ldigits kLdigits bLdigits .nil pass0 (pa_cons (pe_op op_fdiv (pv 1) pe_int) (pa_cons pe_int (pa_cons pe_int pa_nil)))))
      (px_cons (ps_set (i := 3) scLprogram.nd rfl (Or.inr rfl) (pe_op op_add pe_int (pe_op op_mod (pe_op op_fdiv (pv 1) pe_int) pe_int)))
      (px_cons (ps_set (i := 4) scLprogram.nd rfl (Or.inr rfl) (pe_op op_add pe_int (pe_op op_mod (pe_op op_fdiv (pv 1) pe_int) pe_int)))
      (px_cons (ps_set (i := 6) scLprogram.nd rfl (Or.inr rfl) (pe_op op_add pe_int (pe_op op_mod (pe_op op_fdiv (pv 1) pe_int) (pe_op op_pow pe_int pe_int))))
      (px_cons Sd
      (px_ret (pv 2)))))))
    refine px [] s1 _ H R (I.wish _) ?_
    refine ⟨_, rfl, _, _, rfl, rfl, ⟨by decide, by decide⟩, _, _, _, rfl, by decide, by decide, by decide, by decide, fun dl ds hdl hlen hds => ?_⟩
    refine ⟨_, rfl, _, _, rfl, rfl, ⟨by decide, by decide⟩, _, _, rfl, rfl, (show (0 : Int) < 97 by decide), _, _, rfl, rfl, ?_⟩
    refine ⟨_, rfl, _, _, rfl, rfl, ⟨by decide, by decide⟩, _, _, rfl, rfl, (show (0 : Int) < 89 by decide), _, _, rfl, rfl, ?_⟩
    refine ⟨_, rfl, _, _, rfl, rfl, ⟨by decide, by decide⟩, _, _, rfl, rfl, ⟨by decide, by decide, by decide⟩, _, _, rfl, rfl, (show (0 : Int) < 10 ^ (9 : Int).toNat by decide), _, _, rfl, rfl, ?_⟩
    have hPd : (He.cT K ("_law_program", none)).2 ≠ dl := ne_of_none hP hdl
    refine ⟨fun p hp => ?_, fun f c H1 eN nn T1 f0 f1 c1 => ?_⟩
    · rw [List.mem_singleton.mp hp]
      exact TabN.nil ((upd_ne hPd).trans hP)
    · have e1 : H1 dl = some (.lst (ds.map V.int)) := eN dl _ upd_same (fun ps z => by cases z)
      refine ⟨_, rfl, f, c, dl, ds, rfl, rfl, hlen, hdl, e1, fun b o e n => eN b o ((upd_ne (ne_of_none e hdl)).trans e) n, fun b e => ?_, f1, c1⟩
      have z := nn b e
      by_cases hb : b = dl
      · rw [hb]
        exact hdl
      · rw [upd_ne hb] at z
        exact z
  refine wpAny_mono run (fun fl s2 hs => ?_) fun _ _ z => z.elim
  obtain ⟨u, v, σ2, H1, rfl, J, rv, f, c, dl, ds, rfl, rfl, hlen, hdl, e1, eN, nn, f1, c1⟩ := hs
  have J : Inv (cxOf CX0 P w K mg base ["_law_many", "_law_cell", "_law_does", "_law_a", "_law_b", "_law_digits_here", "_law_m"] "_law_program" (defScope sLprogram) (He.fAd K ("_law_program", none)) cdv A outer s H E) [] _ H1 s2 := J.unwish
  have cps := Caps.made (X := cxOf CX0 P w K mg base ["_law_many", "_law_cell", "_law_does", "_law_a", "_law_b", "_law_digits_here", "_law_m"] "_law_program" (defScope sLprogram) (He.fAd K ("_law_program", none)) cdv A outer s H E) (scope := C8.fnScope sLdoes) (fr := frD) (js := [3, 4, 1, 5, 6, 0]) J.ok
    (ndef_free (sc := defScope sLprogram) (nsc := C8.fnScope sLdoes) (fr := frD) (by decide +kernel)) (ndef_fr (sc := defScope sLprogram) (by decide +kernel)) rfl
  have C := cells_of J cps
  have C : CellsAt cl frD (wsD ⟨many, cell, ds⟩ dl) s2.heap H1 := C
  let ws : List V := [.int (DP.a ⟨many, cell, ds⟩), .int (DP.b ⟨many, cell, ds⟩), .int cell, .ref dl, .int (DP.m ⟨many, cell, ds⟩), .int many]
  have ews : wsD ⟨many, cell, ds⟩ dl = ws.map some := rfl
  have capIs : ∀ y a, cl.lookup y = some a → (cellsFrom (s.heap.objs.size + 1) (defScope sLprogram).names []).lookup y = some a := cps.sub
  have isFr : ∀ y a, cl.lookup y = some a → y ∈ frD := fun y a e => by
    rcases cloFrom_mem (PySem.mem_of_lookup e) with z | ⟨z, _⟩
    · cases z
    · exact scLdoes.free _ z rfl
  have gOf : ∀ (i : Nat) y v a, frD[i]? = some y → ws[i]? = some v → cl.lookup y = some a → cellV cl frD ws a = some v := fun i y v a h1 h2 h3 => cellV_of frD_nd C.inj h1 h2 h3
  have cellIs : ∀ b v, cellV cl frD ws b = some v → H1 b = none ∧ s.heap.objs.size ≤ b ∧ ∃ u o, RelV v u ∧ s2.heap.get? b = some o ∧ o.data = .cell (some u) := fun b v e => by
    obtain ⟨i, y, h1, h2, h3⟩ := cellV_some e
    obtain ⟨a, h4, h5⟩ := C.has i y h1
    rw [h3] at h4
    cases h4
    obtain ⟨u, ru, o, h6, h7⟩ := h5 v (by rw [ews, List.getElem?_map, h2]; rfl)
    exact ⟨(C.all y b h3).1, J.ok.cab y b rfl (capIs y b h3), u, o, ru, h6, h7⟩
  have old : ∀ b o, s.heap.get? b = some o → cellV cl frD ws b = none := fun b o e => by
    cases q : cellV cl frD ws b with
    | none => rfl
    | some v => exact absurd (Nat.lt_of_lt_of_le (Heap.lt_size e) (cellIs b v q).2.1) (Nat.lt_irrefl _)
  have trk : ∀ b o, H1 b = some o → cellV cl frD ws b = none := fun b o e => by
    cases q : cellV cl frD ws b with
    | none => rfl
    | some v =>
      rw [(cellIs b v q).1] at e
      cases e
  have keepW : ∀ b o, H1 b = some o → withC H1 (cellV cl frD ws) b = some o := fun b o e => (withC_none (trk b o e)).trans e
  have un := J.base
  refine ⟨.ref f, withC H1 (cellV cl frD ws), J.os, J.bare, ⟨un.keep, un.slot, fun b o e n hx => (withC_none (old b o e)).trans (un.free b o e n hx), un.there, fun b xs e => keepW b _ (un.tups b xs e), fun b o z e => keepW b _ (un.frzs b o z e), fun b ps e => ?_⟩, fun b o e => ?_, rv, ?_⟩
  · obtain ⟨more, z⟩ := un.tbls b ps e
    exact ⟨more, keepW b _ z⟩
  · cases q : cellV cl frD ws b with
    | some v =>
      rw [withC_some q] at e
      cases e
      obtain ⟨_, _, u, o, ru, h1, h2⟩ := cellIs b v q
      exact cellO_ok h1 h2 ru
    | none =>
      rw [withC_none q] at e
      exact (J.hok b o e).stay (fun _ _ _ z => z) (fun c z => keepW c _ z) fun c xs z => keepW c _ z
  · have dom : ∀ b, withC H1 (cellV cl frD ws) b = none → H b = none := fun b e => by
      cases q : cellV cl frD ws b with
      | some v =>
        rw [withC_some q] at e
        cases e
      | none =>
        rw [withC_none q] at e
        exact nn b e
    refine k (rset ρ dl .fz) f ⟨many, cell, ds⟩ _ (fun b o e n => keepW b o (eN b o e n)) dom (fun b z => rset_ne fun q => z (by rw [q]; exact hdl)) (fun b e => ?_) ⟨⟨lo, hi, hlen⟩, cl, c, dl, keepW _ _ f1, keepW _ _ c1, ⟨rset_same, keepW _ _ e1⟩, fun y a e => ?_, fun i y e => ?_, C.inj⟩ rfl
    · have hb : b ≠ dl := fun z => by
        rw [z, keepW _ _ e1] at e
        cases e
      rw [rset_ne hb]
      exact wf b (dom b e)
    · obtain ⟨i, hi⟩ := List.mem_iff_getElem?.mp (isFr y a e)
      have hlt : i < 6 := (List.getElem?_eq_some_iff.mp hi).1
      obtain ⟨v, hv⟩ : ∃ v, ws[i]? = some v := ⟨ws[i]'hlt, List.getElem?_eq_getElem hlt⟩
      exact ⟨i, v, hi, by rw [ews, List.getElem?_map, hv]; rfl, withC_some (gOf i y v a hi hv e)⟩
    · obtain ⟨a, h, _⟩ := C.has i y e
      exact ⟨a, h⟩
end
end Bk
set_option Elab.async false
set_option linter.all false
set_option maxRecDepth 100000
set_option maxHeartbeats 4000000
/-! A loom in the heap; its small methods. -/
namespace Bk
open PySem PySem.Spec PyProof.Rows L2
structure LmAt (K : PySem.W.Frag) (ρ : Rl) (H : Hp) (p : Addr) (L : Lm) (d : DP) (dx f tl dl ol : Addr) (tas : List Addr) (dvs ovs : List V) : Prop where
  ob : Own ρ H p .lo (.ins (CLm K) dx (lmF (.ref f) (.int (L.many : Nat)) (.bl L.ord) (.ref tl) (.ref dl) (.ref ol)))
  clo : CloAt ρ H f d
  many : d.many = (L.many : Nat)
  tls : Own ρ H tl .fz (.lst (tas.map V.ref))
  len : tas.length = L.many
  tlen : L.thr.length = L.many
  thr : ∀ (i : Nat) (a : Addr) (t : Thr), tas[i]? = some a → L.thr[i]? = some t → ThrIs K ρ H i a t
  don : Own ρ H dl .ld (.lst dvs)
  dn : Paired (DoneAt H) dvs L.done
  odr : Own ρ H ol .lor (.lst ovs)
  od : Paired (NmAt H) ovs L.order
def LmIs (K : PySem.W.Frag) (ρ : Rl) (H : Hp) (p : Addr) (L : Lm) (d : DP) : Prop := ∃ dx f tl dl ol tas dvs ovs, LmAt K ρ H p L d dx f tl dl ol tas dvs ovs
section
variable {K : PySem.W.Frag} {M : Role → Prop} {ρ ρ' : Rl} {H H' : Hp} {p dx f tl dl ol : Addr} {L : Lm} {d : DP} {tas : List Addr} {dvs ovs : List V}
theorem LmAt.step (x : LmAt K ρ H p L d dx f tl dl ol tas dvs ovs) (s : Step M ρ H ρ' H') (n : ∀ r, M r → r ≠ .fz ∧ ¬ ML r) : LmAt K ρ' H' p L d dx f tl dl ol tas dvs ovs where
  ob := x.ob.step s fun z => (n _ z).2 (.inl rfl)
  clo := x.clo.step s fun z => (n _ z).1 rfl
  many := x.many
  tls := x.tls.step s fun z => (n _ z).1 rfl
  len := x.len
  tlen := x.tlen
  thr := fun i a t h1 h2 => (x.thr i a t h1 h2).step s (fun z => (n _ z).1 rfl) (fun z => (n _ z).2 (.inr (.inr (.inr ⟨i, .inl rfl⟩)))) (fun z => (n _ z).2 (.inr (.inr (.inr ⟨i, .inr (.inl rfl)⟩)))) (fun z => (n _ z).2 (.inr (.inr (.inr ⟨i, .inr (.inr rfl)⟩))))
  don := x.don.step s fun z => (n _ z).2 (.inr (.inl rfl))
  dn := Paired.imp x.dn fun _ _ z => z.tk s.tk
  odr := x.odr.step s fun z => (n _ z).2 (.inr (.inr (.inl rfl)))
  od := Paired.tkN x.od s.tk
theorem noNo : ∀ r, No r → r ≠ .fz ∧ ¬ ML r := fun _ z => z.elim
theorem LmIs.step (x : LmIs K ρ H p L d) (s : Step M ρ H ρ' H') (n : ∀ r, M r → r ≠ .fz ∧ ¬ ML r) : LmIs K ρ' H' p L d := by
  obtain ⟨dx, f, tl, dl, ol, tas, dvs, ovs, y⟩ := x
  exact ⟨dx, f, tl, dl, ol, tas, dvs, ovs, y.step s n⟩
theorem LmAt.same (x : LmAt K ρ H p L d dx f tl dl ol tas dvs ovs) (wf : Wf ρ H) (s : Same H H') : LmAt K ρ H' p L d dx f tl dl ol tas dvs ovs := x.step (Step.same (M := No) wf s) noNo
theorem LmIs.same (x : LmIs K ρ H p L d) (wf : Wf ρ H) (s : Same H H') : LmIs K ρ H' p L d := x.step (Step.same (M := No) wf s) noNo
/-- the i-th thread has changed -/
theorem LmAt.thread (x : LmAt K ρ H p L d dx f tl dl ol tas dvs ovs) {i : Nat} {a : Addr} {t' : Thr} (ha : tas[i]? = some a) (s : Step (MT i) ρ H ρ' H') (y : ThrIs K ρ' H' i a t') : LmAt K ρ' H' p { L with thr := L.thr.set i t' } d dx f tl dl ol tas dvs ovs where
  ob := x.ob.step s (by rintro (h | h | h) <;> cases h)
  clo := x.clo.step s MT_fz
  many := x.many
  tls := x.tls.step s MT_fz
  len := x.len
  tlen := by
    show (L.thr.set i t').length = _
    rw [List.length_set]
    exact x.tlen
  thr := fun j b u h1 h2 => by
    by_cases e : j = i
    · subst e
      rw [ha] at h1
      cases h1
      have hlt : j < L.thr.length := by
        have := (List.getElem?_eq_some_iff.mp h2).1
        rwa [List.length_set] at this
      have h2 : (L.thr.set j t')[j]? = some u := h2
      rw [List.getElem?_set_self hlt] at h2
      cases h2
      exact y
    · have h2 : (L.thr.set i t')[j]? = some u := h2
      rw [List.getElem?_set_ne (fun z => e z.symm)] at h2
      refine (x.thr j b u h1 h2).step s MT_fz ?_ ?_ ?_ <;> (rintro (h | h | h) <;> cases h <;> exact e rfl)
  don := x.don.step s (by rintro (h | h | h) <;> cases h)
  dn := Paired.imp x.dn fun _ _ z => z.tk s.tk
  odr := x.odr.step s (by rintro (h | h | h) <;> cases h)
  od := Paired.tkN x.od s.tk
theorem LmAt.at_ (x : LmAt K ρ H p L d dx f tl dl ol tas dvs ovs) {i : Nat} (h : i < L.many) : ∃ a t, tas[i]? = some a ∧ L.thr[i]? = some t ∧ ThrIs K ρ H i a t := by
  have h1 : i < tas.length := by rw [x.len]; exact h
  have h2 : i < L.thr.length := by rw [x.tlen]; exact h
  exact ⟨tas[i], L.thr[i], List.getElem?_eq_getElem h1, List.getElem?_eq_getElem h2, x.thr i _ _ (List.getElem?_eq_getElem h1) (List.getElem?_eq_getElem h2)⟩
end
/-- a thread is as it was where something new was laid -/
theorem thr_upd {K : PySem.W.Frag} {ρ : Rl} {H : Hp} {D : Addr} {o : HO} {i : Nat} {a : Addr} {t : Thr} (x : ThrIs K ρ H i a t) (h : H D = none) : ThrIs K (fun b => if b = D then .no else ρ b) (upd H D o) i a t := by
  have st : ∀ {b : Addr} {r : Role} {u : HO}, Own ρ H b r u → Own (fun b => if b = D then .no else ρ b) (upd H D o) b r u := fun {b r u} y => by
    have hb : b ≠ D := ne_of_none y.at_ h
    exact ⟨by rw [if_neg hb]; exact y.role, (upd_ne hb).trans y.at_⟩
  have tk : TupK H (upd H D o) := fun b xs e => (upd_ne (ne_of_none e h)).trans e
  obtain ⟨dx, dl, wl, hb, vs, X⟩ := x
  refine ⟨dx, dl, wl, hb, vs, st X.ob, ?_, st X.don, Paired.imp X.evs ?_, st X.wri⟩
  · have := X.hab
    cases q : t.hab with
    | never =>
      rw [q] at this
      obtain ⟨b, db, e, y⟩ := this
      exact ⟨b, db, e, st y⟩
    | each =>
      rw [q] at this
      obtain ⟨b, db, e, y⟩ := this
      exact ⟨b, db, e, st y⟩
    | bundle n =>
      rw [q] at this
      obtain ⟨b, db, e, y⟩ := this
      exact ⟨b, db, e, st y⟩
  · rintro v e ⟨b, db, sl, sw, u, sv, rfl, h1, h2, h3, h4, h5⟩
    exact ⟨b, db, sl, sw, u, sv, rfl, st h1, h2.tk tk, st h3, Paired.tkL h4 tk, st h5⟩
/-- every thread of it can go back to 0, none has more than n deeds -/
structure Lm.Ok (n : Nat) (L : Lm) : Prop where
  thr : ∀ t ∈ L.thr, t.Ok n
  done : L.done.length ≤ n
  order : L.order.length ≤ 3 * n
def sp_LoomThreadof (K : PySem.W.Frag) : Sp := fun vs H Q E => ∃ (ρ : Rl) (p : Addr) (h : Int) (L : Lm) (d : DP) (dx f tl dl ol : Addr) (tas : List Addr) (dvs ovs : List V), vs = [.ref p, .int h] ∧ LmAt K ρ H p L d dx f tl dl ol tas dvs ovs ∧
  (h < 0 ∨ (L.many : Nat) ≤ h → E (.ref (He.ga K "NoHand")) none H) ∧ ∀ (i : Nat) (a : Addr), h = (i : Nat) → tas[i]? = some a → Q (.ref a) H
def sp_LoomPlaces (K : PySem.W.Frag) : Sp := fun vs H Q _ => ∃ (ρ : Rl) (p : Addr) (L : Lm) (d : DP), vs = [.ref p] ∧ LmIs K ρ H p L d ∧ L.many ≤ 5 ∧
  ∀ q : Addr, H q = none → Q (.ref q) (upd H q (.lst ((L.thr.map Thr.here).map V.int)))
def sp_LoomStates (K : PySem.W.Frag) : Sp := fun vs H Q _ => ∃ (ρ : Rl) (p : Addr) (L : Lm) (d : DP), vs = [.ref p] ∧ LmIs K ρ H p L d ∧ L.many ≤ 5 ∧
  ∀ q : Addr, H q = none → Q (.ref q) (upd H q (.lst ((L.thr.map Thr.state).map V.int)))
section
variable {P : Program} {w : World} {K : PySem.W.Frag} {mg : Str → Option Value} {base : Heap}
theorem scLoomThreadof : FnScope ["self", "hand"] ["self", "hand"] (defScope sLoomThreadof) := ⟨rfl, rfl, rfl, by decide +kernel, rfl, by decide +kernel, by decide +kernel⟩
theorem ok_LoomThreadof (T : Txt K mg) : OK P w K mg base (L2.CX P w) 1 ("Loom", some "thread_of") ["self", "hand"] (sp_LoomThreadof K) := by
  refine OK.mkX T.f_LoomThreadof scLoomThreadof (fun _ _ _ _ _ _ us hl => match us, hl with | [_, _], _ => rfl) (fun vs H Q E h => ?_) (fun cdv A outer s H vs Q E hr h => ?_)
  · obtain ⟨ρ, p, h, L, d, dx, f, tl, dl, ol, tas, dvs, ovs, rfl, _⟩ := h
    rfl
  · obtain ⟨ρ, p, h, L, d, dx, f, tl, dl, ol, tas, dvs, ovs, rfl, X, bad, good⟩ := h
    refine ⟨_, (pss_cons (ps_if (PW.pt (pw_or (pt_cmpR op_lt (pv 1) pe_int (nomark _)) (pw_or1 (pt_cmpR op_ge (pv 1) (pe_fld (pv 0) rfl) (nomark _))))) (pss_one (ps_raise rfl (takes_of rfl rfl rfl rfl) (pmk_own PySem.F.excBase_ValueError T.xi_NoHand T.g_NoHand T.kp_NoHand (raises_own T.xs_NoHand T.xt_NoHand) rfl))) pss_nil)
      (pss_one (ps_ret (pe_ix ix_list (pe_fld (pv 0) rfl) (pv 1) (fun _ _ => rfl))))), ?_⟩
    refine ⟨_, rfl, _, _, rfl, rfl, _, rfl, ?_⟩
    by_cases h0 : h < 0
    · rw [decide_eq_true h0]
      exact iteT (iteT (bad (.inl h0)))
    · rw [decide_eq_false h0]
      refine iteF ⟨_, rfl, _, rfl, p, CLm K, dx, _, _, rfl, X.ob.at_, T.c_Loom, T.a_Loom_many, rfl, _, _, rfl, rfl, _, rfl, ?_⟩
      by_cases h1 : ((L.many : Nat) : Int) ≤ h
      · rw [decide_eq_true h1]
        exact iteT (bad (.inr h1))
      · rw [decide_eq_false h1]
        obtain ⟨i, rfl⟩ : ∃ i : Nat, h = (i : Nat) := ⟨h.toNat, by omega⟩
        obtain ⟨a, t, ha, _, _⟩ := X.at_ (i := i) (by omega)
        exact iteF ⟨_, rfl, p, CLm K, dx, _, _, rfl, X.ob.at_, T.c_Loom, T.a_Loom_threads, rfl, _, rfl, tl, _, _, _, rfl, rfl, SqL.of X.tls.at_, atI_nat (j := i) (v := V.ref a) (by rw [List.getElem?_map, ha]; rfl), good i a rfl ha⟩
theorem thr_take {tas : List Addr} {L : Lm} (l1 : tas.length = L.many) (l2 : L.thr.length = L.many) {i : Nat} {x : V} (h : (tas.map V.ref)[i]? = some x) : ∃ a t, tas[i]? = some a ∧ L.thr[i]? = some t ∧ x = .ref a ∧ L.thr.take (i + 1) = L.thr.take i ++ [t] := by
  rw [List.getElem?_map] at h
  cases e : tas[i]? with
  | none =>
    rw [e] at h
    cases h
  | some a =>
    rw [e] at h
    have hi : i < L.thr.length := by
      rw [l2, ← l1]
      exact (List.getElem?_eq_some_iff.mp e).1
    exact ⟨a, L.thr[i], rfl, List.getElem?_eq_getElem hi, (Option.some.inj h).symm, take_snoc (List.getElem?_eq_getElem hi)⟩
theorem scLoomPlaces : FnScope ["self", "thread"] ["self"] (defScope sLoomPlaces) := ⟨rfl, rfl, rfl, by decide +kernel, rfl, by decide +kernel, by decide +kernel⟩
theorem ok_LoomPlaces (T : Txt K mg) : OK P w K mg base CX0 2 ("Loom", some "places") ["self"] (sp_LoomPlaces K) := by
  obtain ⟨fdThreadHere, GThreadHere, bThreadHere, kThreadHere⟩ := (ok_ThreadHere (P := P) (w := w) (base := base) T).ex
  refine OK.mk0 T.f_LoomPlaces scLoomPlaces (fun _ _ _ _ _ _ us hl => match us, hl with | [_], _ => rfl) (fun vs H Q E h => ?_) (fun cdv A outer s H vs Q E hr h => ?_)
  · obtain ⟨ρ, p, L, d, rfl, _⟩ := h
    rfl
  · obtain ⟨ρ, p, L, d, rfl, ⟨dx, f, tl, dl, ol, tas, dvs, ovs, X⟩, hm, k⟩ := h
    refine ⟨_, (pss_one (ps_ret (pe_lc (own := [("thread", 1)]) rfl scLoomPlaces.nd (pi_list (pe_fld (pv 0) rfl)) (blkOk_by (N := ["self", "thread"]) (sc := defScope sLoomPlaces) (by decide +kernel)) (fun _ _ _ _ _ => (pg_name (i := 1) scLoomPlaces.nd rfl (Or.inl rfl) (Or.inr rfl))) (fun _ _ _ _ _ => pts_nil) (fun _ _ _ _ _ => (pe_meth0 (pv 1) T.c_Thread T.m_Thread_here GThreadHere (hr.mono (by decide)) bThreadHere .nil pass0))))), ?_⟩
    refine ⟨_, rfl, p, CLm K, dx, _, _, rfl, X.ob.at_, T.c_Loom, T.a_Loom_threads, rfl, tl, rfl, ⟨_, SqL.of X.tls.at_⟩, fun D hD => ?_⟩
    have ntD : tl ≠ D := ne_of_none X.tls.at_ hD
    refine lc_list (K := K) (a := tl) (xs := tas.map V.ref) (fun j G => G = upd H D (.lst (((L.thr.take j).map Thr.here).map V.int))) rfl (fun j G _ e => ?_) (fun j x G hx e => ?_) (fun G e => ?_)
    · rw [e]
      exact SqL.of ((upd_ne ntD).trans X.tls.at_)
    · subst e
      obtain ⟨a, t, ha, ht, rfl, et⟩ := thr_take X.len X.tlen hx
      have Y := X.thr j a t ha ht
      have Y2 : ThrIs K (fun b => if b = D then .no else ρ b) (upd H D (.lst (((L.thr.take j).map Thr.here).map V.int))) j a t := thr_upd Y hD
      obtain ⟨dy, dl2, wl2, hb2, vs2, Z⟩ := id Y2
      refine ⟨rfl, _, rfl, a, dy, _, rfl, Z.ob.at_, rfl, _, j, a, t, rfl, Y2, _, upd_same, small1000 ?_, ?_⟩
      · rw [List.length_map, List.length_map]
        have := List.length_take_le j L.thr
        have := List.length_take_le' j L.thr
        have := X.tlen
        omega
      · rw [upd_upd, et, List.map_append, List.map_append]
        rfl
    · subst e
      rw [List.length_map, X.len, ← X.tlen, List.take_length]
      exact k D hD
theorem scLoomStates : FnScope ["self", "thread"] ["self"] (defScope sLoomStates) := ⟨rfl, rfl, rfl, by decide +kernel, rfl, by decide +kernel, by decide +kernel⟩
theorem ok_LoomStates (T : Txt K mg) : OK P w K mg base CX0 4 ("Loom", some "states") ["self"] (sp_LoomStates K) := by
  obtain ⟨fdThreadStateat, GThreadStateat, bThreadStateat, kThreadStateat⟩ := (ok_ThreadStateat (P := P) (w := w) (base := base) T).ex
  obtain ⟨fdThreadHere, GThreadHere, bThreadHere, kThreadHere⟩ := (ok_ThreadHere (P := P) (w := w) (base := base) T).ex
  refine OK.mk0 T.f_LoomStates scLoomStates (fun _ _ _ _ _ _ us hl => match us, hl with | [_], _ => rfl) (fun vs H Q E h => ?_) (fun cdv A outer s H vs Q E hr h => ?_)
  · obtain ⟨ρ, p, L, d, rfl, _⟩ := h
    rfl
  · obtain ⟨ρ, p, L, d, rfl, ⟨dx, f, tl, dl, ol, tas, dvs, ovs, X⟩, hm, k⟩ := h
    refine ⟨_, (pss_one (ps_ret (pe_lc (own := [("thread", 1)]) rfl scLoomStates.nd (pi_list (pe_fld (pv 0) rfl)) (blkOk_by (N := ["self", "thread"]) (sc := defScope sLoomStates) (by decide +kernel)) (fun _ _ _ _ _ => (pg_name (i := 1) scLoomStates.nd rfl (Or.inl rfl) (Or.inr rfl))) (fun _ _ _ _ _ => pts_nil) (fun _ _ _ _ _ => (pe_meth (pv 1) T.c_Thread T.m_Thread_state_at GThreadStateat (hr.mono (by decide)) bThreadStateat .nil pass0 (pa_cons (pe_meth0 (pv 1) T.c_Thread T.m_Thread_here GThreadHere (hr.mono (by decide)) bThreadHere .nil pass0) pa_nil)))))), ?_⟩
    refine ⟨_, rfl, p, CLm K, dx, _, _, rfl, X.ob.at_, T.c_Loom, T.a_Loom_threads, rfl, tl, rfl, ⟨_, SqL.of X.tls.at_⟩, fun D hD => ?_⟩
    have ntD : tl ≠ D := ne_of_none X.tls.at_ hD
    refine lc_list (K := K) (a := tl) (xs := tas.map V.ref) (fun j G => G = upd H D (.lst (((L.thr.take j).map Thr.state).map V.int))) rfl (fun j G _ e => ?_) (fun j x G hx e => ?_) (fun G e => ?_)
    · rw [e]
      exact SqL.of ((upd_ne ntD).trans X.tls.at_)
    · subst e
      obtain ⟨a, t, ha, ht, rfl, et⟩ := thr_take X.len X.tlen hx
      have Y := X.thr j a t ha ht
      have Y2 : ThrIs K (fun b => if b = D then .no else ρ b) (upd H D (.lst (((L.thr.take j).map Thr.state).map V.int))) j a t := thr_upd Y hD
      obtain ⟨dy, dl2, wl2, hb2, vs2, Z⟩ := id Y2
      refine ⟨rfl, _, rfl, a, dy, _, rfl, Z.ob.at_, rfl, _, rfl, a, dy, _, rfl, Z.ob.at_, rfl, _, j, a, t, rfl, Y2, _, j, a, t, rfl, Y2, _, upd_same, small1000 ?_, ?_⟩
      · rw [List.length_map, List.length_map]
        have := List.length_take_le j L.thr
        have := List.length_take_le' j L.thr
        have := X.tlen
        omega
      · rw [upd_upd, et, List.map_append, List.map_append]
        rfl
    · subst e
      rw [List.length_map, X.len, ← X.tlen, List.take_length]
      exact k D hD
end
end Bk
set_option Elab.async false
set_option linter.all false
set_option maxRecDepth 100000
set_option maxHeartbeats 4000000
namespace Bk
open PySem PySem.Spec PyProof.Rows L2
def Lm.evss (L : Lm) : List (List Ev) := L.thr.map (·.evs)
def sp_LoomPoints (K : PySem.W.Frag) : Sp := fun vs H Q E => ∃ (ρ : Rl) (p : Addr) (h : Int) (L : Lm) (d : DP), vs = [.ref p, .int h] ∧ LmIs K ρ H p L d ∧ L.Ok 100 ∧
  (h < 0 ∨ (L.many : Nat) ≤ h → E (.ref (He.ga K "NoHand")) none H) ∧ ∀ (i : Nat) (t : Thr) (q : Addr), h = (i : Nat) → L.thr[i]? = some t → H q = none → Q (.ref q) (upd H q (.lst (t.points.map V.int)))
def sp_LoomRows (K : PySem.W.Frag) : Sp := fun vs H Q _ => ∃ (ρ : Rl) (p : Addr) (L : Lm) (d : DP), vs = [.ref p] ∧ LmIs K ρ H p L d ∧ L.Ok 100 ∧
  ∀ (q : Addr) (rv : List V), H q = none → Paired (RowAt H) rv (L.done.map (·.1)) → Q (.ref q) (upd H q (.lst rv))
def sp_LoomLetterssent (K : PySem.W.Frag) : Sp := fun vs H Q _ => ∃ (ρ : Rl) (p : Addr) (L : Lm) (d : DP), vs = [.ref p] ∧ Wf ρ H ∧ LmIs K ρ H p L d ∧ L.many ≤ 5 ∧ L.Ok 100 ∧
  ∀ (q : Addr) (kvs : List (List Key × V)) (H' : Hp), H q = none → Same H H' → H' q = some (.dT kvs) → SentKV H' kvs (sentAll 0 L.evss) → Q (.ref q) H'
def sp_LoomLettersused (K : PySem.W.Frag) : Sp := fun vs H Q _ => ∃ (ρ : Rl) (p : Addr) (L : Lm) (d : DP), vs = [.ref p] ∧ Wf ρ H ∧ LmIs K ρ H p L d ∧ L.many ≤ 5 ∧ L.Ok 100 ∧
  ∀ (q : Addr) (H' : Hp), H q = none → Same H H' → H' q = some (.dT (usedKV (usedAll [] L.evss))) → Q (.ref q) H'
section
variable {P : Program} {w : World} {K : PySem.W.Frag} {mg : Str → Option Value} {base : Heap}
theorem scLoomPoints : FnScope ["self", "hand"] ["self", "hand"] (defScope sLoomPoints) := ⟨rfl, rfl, rfl, by decide +kernel, rfl, by decide +kernel, by decide +kernel⟩
theorem ok_LoomPoints (T : Txt K mg) : OK P w K mg base (L2.CX P w) 3 ("Loom", some "points") ["self", "hand"] (sp_LoomPoints K) := by
  obtain ⟨fdThreadPoints, GThreadPoints, bThreadPoints, kThreadPoints⟩ := (ok_ThreadPoints (P := P) (w := w) (base := base) T).ex
  obtain ⟨fdLoomThreadof, GLoomThreadof, bLoomThreadof, kLoomThreadof⟩ := (ok_LoomThreadof (P := P) (w := w) (base := base) T).ex
  refine OK.mkX T.f_LoomPoints scLoomPoints (fun _ _ _ _ _ _ us hl => match us, hl with | [_, _], _ => rfl) (fun vs H Q E h => ?_) (fun cdv A outer s H vs Q E hr h => ?_)
  · obtain ⟨ρ, p, h, L, d, rfl, _⟩ := h
    rfl
  · obtain ⟨ρ, p, h, L, d, rfl, ⟨dx, f, tl, dl, ol, tas, dvs, ovs, X⟩, ok, bad, good⟩ := h
    refine ⟨_, (pss_one (ps_ret (pe_meth0 (pe_meth (pv 0) T.c_Loom T.m_Loom_thread_of GLoomThreadof (hr.mono (by decide)) bLoomThreadof .nil (passes_call (takes_of rfl rfl rfl rfl) fun _ _ _ _ h => h) (pa_cons (pv 1) pa_nil)) T.c_Thread T.m_Thread_points GThreadPoints (hr.mono (by decide)) bThreadPoints .nil pass0))), ?_⟩
    refine ⟨_, rfl, p, dx, _, rfl, X.ob.at_, rfl, _, rfl, ρ, p, h, L, d, dx, f, tl, dl, ol, tas, dvs, ovs, rfl, X, bad, fun i a hi ha => ?_⟩
    have hlt : i < L.thr.length := by
      rw [X.tlen, ← X.len]
      exact (List.getElem?_eq_some_iff.mp ha).1
    have ht : L.thr[i]? = some L.thr[i] := List.getElem?_eq_getElem hlt
    have Y := X.thr i a _ ha ht
    obtain ⟨dy, dl2, wl2, hb2, vs2, Z⟩ := id Y
    exact ⟨a, dy, _, rfl, Z.ob.at_, rfl, ρ, i, a, _, rfl, Y, ok.thr _ (List.getElem_mem hlt), fun q hq => good i _ q hi ht hq⟩
theorem scLoomRows : FnScope ["self", "row", "place"] ["self"] (defScope sLoomRows) := ⟨rfl, rfl, rfl, by decide +kernel, rfl, by decide +kernel, by decide +kernel⟩
theorem ok_LoomRows (T : Txt K mg) : OK P w K mg base CX0 1 ("Loom", some "rows") ["self"] (sp_LoomRows K) := by
  refine OK.mk0 T.f_LoomRows scLoomRows (fun _ _ _ _ _ _ us hl => match us, hl with | [_], _ => rfl) (fun vs H Q E h => ?_) (fun cdv A outer s H vs Q E hr h => ?_)
  · obtain ⟨ρ, p, L, d, rfl, _⟩ := h
    rfl
  · obtain ⟨ρ, p, L, d, rfl, ⟨dx, f, tl, dl, ol, tas, dvs, ovs, X⟩, ok, k⟩ := h
    refine ⟨_, (pss_one (ps_ret (pe_lc (own := [("row", 1), ("place", 2)]) rfl scLoomRows.nd (pi_list (pe_fld (pv 0) rfl)) (blkOk_by (N := ["self", "row", "place"]) (sc := defScope sLoomRows) (by decide +kernel)) (fun _ _ _ _ _ => (pg_tupK (K := K) (n := 2) rfl rfl (pgs_cons (pg_name (i := 1) scLoomRows.nd rfl (Or.inl rfl) (Or.inr rfl)) (pgs_cons (pg_name (i := 2) scLoomRows.nd rfl (Or.inl rfl) (Or.inr rfl)) pgs_nil)))) (fun _ _ _ _ _ => pts_nil) (fun _ _ _ _ _ => (pv 1))))), ?_⟩
    refine ⟨_, rfl, p, CLm K, dx, _, _, rfl, X.ob.at_, T.c_Loom, T.a_Loom_done, rfl, dl, rfl, ⟨_, SqL.of X.don.at_⟩, fun D hD => ?_⟩
    have ntD : dl ≠ D := ne_of_none X.don.at_ hD
    refine lc_list (K := K) (a := dl) (xs := dvs) (fun j G => ∃ rv, G = upd H D (.lst rv) ∧ Paired (RowAt H) rv ((L.done.take j).map (·.1))) ⟨[], rfl, .nil⟩ (fun j G _ e => ?_) (fun j x G hx e => ?_) (fun G e => ?_)
    · obtain ⟨rv, e, _⟩ := e
      rw [e]
      exact SqL.of ((upd_ne ntD).trans X.don.at_)
    · obtain ⟨rv, rfl, pr⟩ := e
      obtain ⟨y, hy, rw_, hrow, a, rfl, ht⟩ := paired_at' X.dn hx
      have haD : a ≠ D := ne_of_none ht hD
      refine ⟨a, _, rfl, SqT.of ((upd_ne haD).trans ht), rfl, _, _, rfl, _, _, rfl, rfl, rfl, _, rfl, rv, upd_same, small1000 ?_, rv ++ [rw_], upd_upd, ?_⟩
      · rw [paired_len pr, List.length_map]
        have := List.length_take_le' j L.done
        have := ok.done
        omega
      · rw [take_snoc hy, List.map_append]
        exact paired_snoc hrow pr
    · obtain ⟨rv, rfl, pr⟩ := e
      rw [paired_len X.dn, List.take_length] at pr
      exact k D rv hD pr
theorem thr_at0 {ρ : Rl} {H : Hp} {p dx f tl dl ol : Addr} {L : Lm} {d : DP} {tas : List Addr} {dvs ovs : List V} (X : LmAt K ρ H p L d dx f tl dl ol tas dvs ovs) {i : Nat} (h : i < L.many) :
    ∃ a t, atI (tas.map V.ref) (0 + (i : Nat) : Int) = some (.ref a) ∧ L.thr[i]? = some t ∧ L.evss[i]? = some t.evs ∧ ThrIs K ρ H i a t := by
  obtain ⟨a, t, h1, h2, h3⟩ := X.at_ h
  refine ⟨a, t, ?_, h2, ?_, h3⟩
  · rw [Int.zero_add]
    exact atI_nat (by rw [List.getElem?_map, h1]; rfl)
  · unfold Lm.evss
    rw [List.getElem?_map, h2]
    rfl
theorem new_name {i j m : Nat} {A : List (List Ev)} {B : List Ev} {C : List Lt} (hA : A.length ≤ i) (hB : B.length ≤ j) (hC : C.length ≤ m) :
    ∀ y ∈ (sentAll 0 A ++ sentEvs (0 + (i : Nat) : Int) 0 B) ++ sentEv (0 + (i : Nat) : Int) ((j : Nat) + 1) 0 C, y.1 ≠ ((0 + (i : Nat) : Int), ((j : Nat) : Int) + 1, ((m : Nat) : Int)) := by
  intro y hy e
  have e1 : y.1.1 = 0 + (i : Nat) := by rw [e]
  have e2 : y.1.2.1 = ((j : Nat) : Int) + 1 := by rw [e]
  have e3 : y.1.2.2 = (m : Nat) := by rw [e]
  rcases List.mem_append.mp hy with z | z
  · rcases List.mem_append.mp z with z | z
    · have := (sentAll_mem z).2
      omega
    · have := (sentEvs_mem z).2.2
      omega
  · have := (sentEv_mem z).2.2.2
    omega
theorem evs_of_ok {n : Nat} {L : Lm} (ok : L.Ok n) : ∀ es ∈ L.evss, es.length ≤ n ∧ ∀ e ∈ es, e.sent.length ≤ 3 := by
  intro es hes
  obtain ⟨t, ht, rfl⟩ := List.mem_map.mp hes
  exact ⟨(ok.thr t ht).ln, (ok.thr t ht).sn⟩
theorem scLoomLetterssent : FnScope ["self", "found", "hand", "place", "event", "k", "letter"] ["self"] (defScope sLoomLetterssent) := ⟨rfl, rfl, rfl, by decide +kernel, rfl, by decide +kernel, by decide +kernel⟩
set_option maxHeartbeats 8000000 in
theorem ok_LoomLetterssent (T : Txt K mg) : OK P w K mg base CX0 2 ("Loom", some "letters_sent") ["self"] (sp_LoomLetterssent K) := by
  obtain ⟨fdThreadEvents, GThreadEvents, bThreadEvents, kThreadEvents⟩ := (ok_ThreadEvents (P := P) (w := w) (base := base) T).ex
  refine OK.mk0 T.f_LoomLetterssent scLoomLetterssent (fun _ _ _ _ _ _ us hl => match us, hl with | [_], _ => rfl) (fun vs H Q E h => ?_) (fun cdv A outer s H vs Q E hr h => ?_)
  · obtain ⟨ρ, p, L, d, rfl, _⟩ := h
    rfl
  · obtain ⟨ρ, p, L, d, rfl, wf, ⟨dx, f, tl, dl, ol, tas, dvs, ovs, X⟩, hm, ok, k⟩ := h
    have hlen : L.evss.length = L.many := by
      unfold Lm.evss
      rw [List.length_map, X.tlen]
    refine ⟨_, (pss_cons (ps_set (i := 1) scLoomLetterssent.nd rfl (Or.inl rfl) pe_dnewT)
      (pss_cons (ps_for PassesOwn.never rfl (pi_range1 rfl T.n_range (pa_cons (pe_fld (pv 0) rfl) pa_nil)) (pg_name (i := 2) scLoomLetterssent.nd rfl (Or.inl rfl)) (pss_one (ps_for PassesOwn.never rfl (pi_enum rfl T.n_enumerate (pa_cons (pe_meth0 (pe_ix ix_list (pe_fld (pv 0) rfl) (pv 2) (fun _ _ => rfl)) T.c_Thread T.m_Thread_events GThreadEvents (hr.mono (by decide)) bThreadEvents .nil pass0) pa_nil)) (pg_tup rfl (pgs_cons (pg_name (i := 3) scLoomLetterssent.nd rfl (Or.inl rfl)) (pgs_cons (pg_name (i := 4) scLoomLetterssent.nd rfl (Or.inl rfl)) pgs_nil))) (pss_one (ps_for PassesOwn.never rfl (pi_enum rfl T.n_enumerate (pa_cons (pe_fld (pv 4) rfl) pa_nil)) (pg_tup rfl (pgs_cons (pg_name (i := 5) scLoomLetterssent.nd rfl (Or.inl rfl)) (pgs_cons (pg_name (i := 6) scLoomLetterssent.nd rfl (Or.inl rfl)) pgs_nil))) (pss_one (ps_dput (hu_of hr) (pv 1) (pe_tup (pa_cons (pv 2) (pa_cons (pe_op op_add (pv 3) pe_int) (pa_cons (pv 5) pa_nil)))) (pv 6) rfl)))))))
      (pss_one (ps_ret (pv 1))))), ?_⟩
    intro q hq
    refine ⟨_, rfl, p, CLm K, dx, _, _, rfl, (same_upd hq) _ _ X.ob.at_, T.c_Loom, T.a_Loom_many, rfl, _, rfl, by omega, by omega, ?_⟩
    refine for_range (lo := 0) (n := ((L.many : Nat) : Int).toNat) (fun i σ G => ∃ (kvs : List (List Key × V)) (v2 v3 v4 v5 v6 : Option V), σ = [some (.ref p), some (.ref q), v2, v3, v4, v5, v6] ∧ Same H G ∧ G q = some (.dT kvs) ∧ SentKV G kvs (sentAll 0 (L.evss.take i)))
      ⟨[], none, none, none, none, none, rfl, same_upd hq, upd_same, .nil⟩ (fun i σ G hi hw => ?_) fun σ G hw => ?_
    · obtain ⟨kvs, v2, v3, v4, v5, v6, rfl, sG, eq, sk⟩ := hw
      have hi' : i < L.many := by omega
      obtain ⟨a, t, hat, ht, hev, Y⟩ := thr_at0 X hi'
      obtain ⟨dy, dl2, wl2, hb2, es, Y0⟩ := Y
      have Z := Y0.step (Step.same (M := No) wf sG) (fun z => z) (fun z => z) (fun z => z) (fun z => z)
      refine ⟨_, rfl, p, CLm K, dx, _, _, rfl, sG _ _ X.ob.at_, T.c_Loom, T.a_Loom_threads, rfl, _, rfl, tl, _, _, _, rfl, rfl, SqL.of (sG _ _ X.tls.at_), hat, a, dy, _, rfl, Z.ob.at_, rfl, ρ, i, a, t, dy, dl2, wl2, hb2, es, rfl, Z, fun e he => ?_⟩
      have pe := Y0.evs
      have tok := ok.thr t (List.mem_of_getElem? ht)
      have neq : q ≠ e := ne_of_none eq he
      refine ⟨e, es, rfl, SqL.of upd_same, ?_⟩
      refine for_it (walk_enum (K := K) (a := e) (xs := es)) (fun j σ' G' => ∃ (kvs : List (List Key × V)) (v3 v4 v5 v6 : Option V), σ' = [some (.ref p), some (.ref q), some (.int (0 + (i : Nat))), v3, v4, v5, v6] ∧ Same H G' ∧ G' q = some (.dT kvs) ∧
          SentKV G' kvs (sentAll 0 (L.evss.take i) ++ sentEvs (0 + (i : Nat) : Int) 0 (t.evs.take j)) ∧ G' e = some (.lst es))
        ⟨kvs, v3, v4, v5, v6, rfl, sG.trans (same_upd he), (upd_ne neq).trans eq, (by rw [List.take_zero]; show SentKV _ kvs (sentAll 0 (L.evss.take i) ++ []); rw [List.append_nil]; exact sk.tk (tk_same (same_upd he))), upd_same⟩
        (fun j σ' G' _ hw => ?_) (fun j x σ' G' G2 hj hw hy => ?_) (fun σ' G' hw => ?_)
      · obtain ⟨_, _, _, _, _, _, _, _, _, z⟩ := hw
        exact SqL.of z
      · obtain ⟨kvs, v3, v4, v5, v6, rfl, sG', eq', sk', ee⟩ := hw
        obtain ⟨T1, x1, y1, rfl, hT1, rfl, hx1, hy1⟩ := hy
        cases hx1
        obtain ⟨ev, hev2, hE⟩ := paired_at' pe hy1
        obtain ⟨b, db, sl, sw, u, sv, rfl, h1, h2, h3, h4, h5⟩ := hE
        have hTs := same_upd (o := .tup [V.int (j : Nat), V.ref b]) hT1
        have sG2 := sG'.trans hTs
        have hqT : q ≠ T1 := ne_of_none eq' hT1
        refine ⟨T1, _, rfl, SqT.of upd_same, rfl, _, _, rfl, _, _, rfl, rfl, ?_⟩
        refine ⟨_, rfl, b, CEv K, db, _, _, rfl, sG2 _ _ h1.at_, T.c_Event, T.a_Event_sent, rfl, sl, sv, rfl, SqL.of (sG2 _ _ h3.at_), ?_⟩
        refine for_it (walk_enum (K := K) (a := sl) (xs := sv)) (fun m σ' G3 => ∃ (kvs : List (List Key × V)) (v5 v6 : Option V), σ' = [some (.ref p), some (.ref q), some (.int (0 + (i : Nat))), some (.int (j : Nat)), some (.ref b), v5, v6] ∧ Same H G3 ∧ G3 q = some (.dT kvs) ∧
            SentKV G3 kvs ((sentAll 0 (L.evss.take i) ++ sentEvs (0 + (i : Nat) : Int) 0 (t.evs.take j)) ++ sentEv (0 + (i : Nat) : Int) ((j : Nat) + 1) 0 (ev.sent.take m)) ∧ G3 e = some (.lst es))
          ⟨kvs, v5, v6, rfl, sG2, (upd_ne hqT).trans eq', (by rw [List.take_zero]; show SentKV _ kvs (_ ++ []); rw [List.append_nil]; exact sk'.tk (tk_same hTs)), hTs _ _ ee⟩
          (fun m σ' G3 _ hw => ?_) (fun m x σ' G3 G4 hmm hw hy => ?_) (fun σ' G3 hw => ?_)
        · obtain ⟨_, _, _, _, z, _⟩ := hw
          exact SqL.of (z _ _ h3.at_)
        · obtain ⟨kvs, v5, v6, rfl, sG3, eq3, sk3, ee3⟩ := hw
          obtain ⟨T2, x2, y2, rfl, hT2, rfl, hx2, hy2⟩ := hy
          cases hx2
          obtain ⟨lt, hlt, hL⟩ := paired_at' h4 hy2
          have hTs2 := same_upd (o := .tup [V.int (m : Nat), y2]) hT2
          have hqT2 : q ≠ T2 := ne_of_none eq3 hT2
          refine ⟨T2, _, rfl, SqT.of upd_same, rfl, _, _, rfl, _, _, rfl, rfl, ?_⟩
          refine ⟨_, rfl, _, rfl, _, rfl, _, rfl, _, _, rfl, rfl, _, rfl, (by show 3 ≤ sizeLine; decide), fun t3 ht3 => ?_⟩
          have hTs3 := same_upd (o := .tup [V.int (0 + (i : Nat)), V.int ((j : Nat) + 1), V.int (m : Nat)]) ht3
          have hqt3 : q ≠ t3 := ne_of_none ((upd_ne hqT2).trans eq3) ht3
          have eq5 : upd (upd G3 T2 (.tup [V.int (m : Nat), y2])) t3 (.tup [V.int (0 + (i : Nat)), V.int ((j : Nat) + 1), V.int (m : Nat)]) q = some (.dT kvs) := (upd_ne hqt3).trans ((upd_ne hqT2).trans eq3)
          have sS : Same G3 (upd (upd G3 T2 (.tup [V.int (m : Nat), y2])) t3 (.tup [V.int (0 + (i : Nat)), V.int ((j : Nat) + 1), V.int (m : Nat)])) := hTs2.trans hTs3
          have sk5 := sk3.tk (tk_same sS)
          have hsz : kvs.length < sizeLine := by
            refine small6 ?_
            have c1 := sentAll_len 100 0 (L.evss.take i) fun y hy => evs_of_ok ok y (List.mem_of_mem_take hy)
            have c2 := sentEvs_len (0 + (i : Nat) : Int) 0 (t.evs.take j) fun y hy => tok.sn y (List.mem_of_mem_take hy)
            have c3 := tok.sn ev (List.mem_of_getElem? hev2)
            have c4 := tok.ln
            have c5 := List.length_take_le' i L.evss
            have c6 := List.length_take_le' j t.evs
            have c7 := List.length_take_le' m ev.sent
            rw [paired_len sk3, List.length_append, List.length_append, sentEv_len]
            omega
          have hl3 : LtAt (upd (upd G3 T2 (.tup [V.int (m : Nat), y2])) t3 (.tup [V.int (0 + (i : Nat)), V.int ((j : Nat) + 1), V.int (m : Nat)])) y2 lt := hL.tk fun b xs z => sS b _ (sG3 b _ z)
          obtain ⟨pn, sk6⟩ := sk5.put (n := ((0 + (i : Nat) : Int), ((j : Nat) : Int) + 1, ((m : Nat) : Int))) (new_name (by have := List.length_take_le i L.evss; omega) (by have := List.length_take_le j t.evs; omega) (by have := List.length_take_le m ev.sent; omega)) hl3
          refine ⟨q, _, rfl, DPut.t (k := nmK ((0 + (i : Nat) : Int), ((j : Nat) : Int) + 1, ((m : Nat) : Int))) eq5 upd_same hsz, ?_⟩
          rw [pn]
          have tk6 : TupK (upd (upd G3 T2 (.tup [V.int (m : Nat), y2])) t3 (.tup [V.int (0 + (i : Nat)), V.int ((j : Nat) + 1), V.int (m : Nat)])) (upd (upd (upd G3 T2 (.tup [V.int (m : Nat), y2])) t3 (.tup [V.int (0 + (i : Nat)), V.int ((j : Nat) + 1), V.int (m : Nat)])) q (.dT (kvs ++ [(nmK ((0 + (i : Nat) : Int), ((j : Nat) : Int) + 1, ((m : Nat) : Int)), y2)]))) := fun b xs z => (upd_ne (ne_of z eq5 (by intro y; cases y))).trans z
          refine ⟨_, _, _, rfl, fun b o z => ?_, upd_same, ?_, ?_⟩
          · rw [upd_ne (ne_of_none z hq)]
            exact sS b o (sG3 b o z)
          · rw [take_snoc hlt, sentEv_snoc, List.length_take, Nat.min_eq_left (Nat.le_of_lt (List.getElem?_eq_some_iff.mp hlt).1), Nat.zero_add, ← List.append_assoc]
            exact sk6.tk tk6
          · rw [upd_ne (ne_of (sS _ _ ee3) eq5 (by intro y; cases y))]
            exact sS _ _ ee3
        · obtain ⟨kvs, v5, v6, rfl, sG3, eq3, sk3, ee3⟩ := hw
          refine ⟨kvs, _, _, _, _, rfl, sG3, eq3, ?_, ee3⟩
          rw [paired_len h4, List.take_length] at sk3
          rw [take_snoc hev2, sentEvs_snoc, List.length_take, Nat.min_eq_left (Nat.le_of_lt (List.getElem?_eq_some_iff.mp hev2).1), Nat.zero_add, ← List.append_assoc]
          exact sk3
      · obtain ⟨kvs, v3, v4, v5, v6, rfl, sG', eq', sk', ee⟩ := hw
        refine ⟨kvs, _, v3, v4, v5, v6, rfl, sG', eq', ?_⟩
        rw [take_snoc hev, sentAll_snoc, List.length_take, Nat.min_eq_left (by omega)]
        have e2 : t.evs.take es.length = t.evs := by rw [paired_len pe, List.take_length]
        rw [e2] at sk'
        have e3 : ((0 + i : Nat) : Int) = 0 + (i : Nat) := by omega
        rw [e3]
        exact sk'
    · obtain ⟨kvs, v2, v3, v4, v5, v6, rfl, sG, eq, sk⟩ := hw
      refine ⟨_, rfl, k q kvs G hq sG eq ?_⟩
      have e : L.evss.take ((L.many : Nat) : Int).toNat = L.evss := by
        rw [Int.toNat_natCast, ← hlen, List.take_length]
      rw [e] at sk
      exact sk
theorem scLoomLettersused : FnScope ["self", "found", "thread", "place", "event"] ["self"] (defScope sLoomLettersused) := ⟨rfl, rfl, rfl, by decide +kernel, rfl, by decide +kernel, by decide +kernel⟩
set_option maxHeartbeats 8000000 in
theorem ok_LoomLettersused (T : Txt K mg) : OK P w K mg base CX0 2 ("Loom", some "letters_used") ["self"] (sp_LoomLettersused K) := by
  obtain ⟨fdThreadEvents, GThreadEvents, bThreadEvents, kThreadEvents⟩ := (ok_ThreadEvents (P := P) (w := w) (base := base) T).ex
  refine OK.mk0 T.f_LoomLettersused scLoomLettersused (fun _ _ _ _ _ _ us hl => match us, hl with | [_], _ => rfl) (fun vs H Q E h => ?_) (fun cdv A outer s H vs Q E hr h => ?_)
  · obtain ⟨ρ, p, L, d, rfl, _⟩ := h
    rfl
  · obtain ⟨ρ, p, L, d, rfl, wf, ⟨dx, f, tl, dl, ol, tas, dvs, ovs, X⟩, hm, ok, k⟩ := h
    have hlen : L.evss.length = L.many := by
      unfold Lm.evss
      rw [List.length_map, X.tlen]
    refine ⟨_, (pss_cons (ps_set (i := 1) scLoomLettersused.nd rfl (Or.inl rfl) pe_dnewT)
      (pss_cons (ps_for PassesOwn.never rfl (pi_list (pe_fld (pv 0) rfl)) (pg_name (i := 2) scLoomLettersused.nd rfl (Or.inl rfl)) (pss_one (ps_for PassesOwn.never rfl (pi_enum rfl T.n_enumerate (pa_cons (pe_meth0 (pv 2) T.c_Thread T.m_Thread_events GThreadEvents (hr.mono (by decide)) bThreadEvents .nil pass0) pa_nil)) (pg_tup rfl (pgs_cons (pg_name (i := 3) scLoomLettersused.nd rfl (Or.inl rfl)) (pgs_cons (pg_name (i := 4) scLoomLettersused.nd rfl (Or.inl rfl)) pgs_nil))) (pss_one (ps_if (pt_cmpR op_notN (pe_fld (pv 4) rfl) pe_non (nomark _)) (pss_one (ps_dput (hu_of hr) (pv 1) (pe_fld (pv 4) rfl) (pe_op op_add (pv 3) pe_int) rfl)) pss_nil)))))
      (pss_one (ps_ret (pv 1))))), ?_⟩
    intro q hq
    have ntq : tl ≠ q := ne_of_none X.tls.at_ hq
    refine ⟨_, rfl, p, CLm K, dx, _, _, rfl, (same_upd hq) _ _ X.ob.at_, T.c_Loom, T.a_Loom_threads, rfl, tl, rfl, ⟨_, SqL.of ((same_upd hq) _ _ X.tls.at_)⟩, ?_⟩
    refine for_list (K := K) (a := tl) (xs := tas.map V.ref) (fun i σ G => ∃ v2 v3 v4 : Option V, σ = [some (.ref p), some (.ref q), v2, v3, v4] ∧ Same H G ∧ G q = some (.dT (usedKV (usedAll [] (L.evss.take i)))))
      ⟨none, none, none, rfl, same_upd hq, upd_same⟩ (fun i σ G _ hw => ?_) (fun i x σ G hx hw => ?_) fun σ G hw => ?_
    · obtain ⟨_, _, _, _, z, _⟩ := hw
      exact SqL.of (z _ _ X.tls.at_)
    · obtain ⟨v2, v3, v4, rfl, sG, eq⟩ := hw
      obtain ⟨a, t, ha, ht, rfl, _⟩ := thr_take X.len X.tlen hx
      have hev : L.evss[i]? = some t.evs := by
        unfold Lm.evss
        rw [List.getElem?_map, ht]
        rfl
      obtain ⟨dy, dl2, wl2, hb2, es, Y0⟩ := X.thr i a t ha ht
      have Z := Y0.step (Step.same (M := No) wf sG) (fun z => z) (fun z => z) (fun z => z) (fun z => z)
      refine ⟨_, rfl, a, dy, _, rfl, Z.ob.at_, rfl, ρ, i, a, t, dy, dl2, wl2, hb2, es, rfl, Z, fun e he => ?_⟩
      have pe := Y0.evs
      have tok := ok.thr t (List.mem_of_getElem? ht)
      have neq : q ≠ e := ne_of_none eq he
      refine ⟨e, es, rfl, SqL.of upd_same, ?_⟩
      refine for_it (walk_enum (K := K) (a := e) (xs := es)) (fun j σ' G' => ∃ (v3 v4 : Option V), σ' = [some (.ref p), some (.ref q), some (.ref a), v3, v4] ∧ Same H G' ∧ G' q = some (.dT (usedKV (usedEvs (usedAll [] (L.evss.take i)) 0 (t.evs.take j)))) ∧ G' e = some (.lst es))
        ⟨v3, v4, rfl, sG.trans (same_upd he), (upd_ne neq).trans eq, upd_same⟩
        (fun j σ' G' _ hw => ?_) (fun j x σ' G' G2 hj hw hy => ?_) (fun σ' G' hw => ?_)
      · obtain ⟨_, _, _, _, _, z⟩ := hw
        exact SqL.of z
      · obtain ⟨v3, v4, rfl, sG', eq', ee⟩ := hw
        obtain ⟨T1, x1, y1, rfl, hT1, rfl, hx1, hy1⟩ := hy
        cases hx1
        obtain ⟨ev, hev2, hE⟩ := paired_at' pe hy1
        obtain ⟨b, db, sl, sw, u, sv, rfl, h1, h2, h3, h4, h5⟩ := hE
        have hTs := same_upd (o := .tup [V.int (j : Nat), V.ref b]) hT1
        have sG2 := sG'.trans hTs
        have hqT : q ≠ T1 := ne_of_none eq' hT1
        have eqT := (upd_ne (o := .tup [V.int (j : Nat), V.ref b]) hqT).trans eq'
        have hus : usedEvs (usedAll [] (L.evss.take i)) 0 (t.evs.take (j + 1)) = usedStep (usedEvs (usedAll [] (L.evss.take i)) 0 (t.evs.take j)) j ev := by
          rw [take_snoc hev2, usedEvs_snoc, List.length_take, Nat.min_eq_left (Nat.le_of_lt (List.getElem?_eq_some_iff.mp hev2).1), Nat.zero_add]
        refine ⟨T1, _, rfl, SqT.of upd_same, rfl, _, _, rfl, _, _, rfl, rfl, ?_⟩
        refine ⟨_, rfl, b, CEv K, db, _, _, rfl, sG2 _ _ h1.at_, T.c_Event, T.a_Event_used, rfl, rfl, _, rfl, ?_⟩
        cases hu : ev.used with
        | none =>
          rw [hu] at h2
          have h2 : u = V.non := h2
          subst h2
          have e0 : usedStep (usedEvs (usedAll [] (L.evss.take i)) 0 (t.evs.take j)) j ev = usedEvs (usedAll [] (L.evss.take i)) 0 (t.evs.take j) := by
            unfold usedStep
            rw [hu]
          refine iteF ⟨_, _, rfl, sG2, ?_, hTs _ _ ee⟩
          rw [hus, e0]
          exact eqT
        | some n =>
          rw [hu] at h2
          obtain ⟨na, rfl, hna⟩ := h2
          have e0 : usedStep (usedEvs (usedAll [] (L.evss.take i)) 0 (t.evs.take j)) j ev = putU (usedEvs (usedAll [] (L.evss.take i)) 0 (t.evs.take j)) n ((j : Int) + 1) := by
            unfold usedStep
            rw [hu]
          have hsz : (usedKV (usedEvs (usedAll [] (L.evss.take i)) 0 (t.evs.take j))).length < sizeLine := by
            refine small6 ?_
            have c1 := usedEvs_len (usedAll [] (L.evss.take i)) 0 (t.evs.take j)
            have c2 := usedAll_len 100 [] (L.evss.take i) fun y hy => (evs_of_ok ok y (List.mem_of_mem_take hy)).1
            have c4 := tok.ln
            have c5 := List.length_take_le' i L.evss
            have c6 := List.length_take_le' j t.evs
            unfold usedKV
            rw [List.length_map]
            rw [List.length_nil] at c2
            omega
          have hnG : upd G' T1 (.tup [V.int (j : Nat), V.ref b]) na = some (.tup ((nmK n).map kV)) := sG2 _ _ hna
          refine iteT ⟨_, rfl, _, _, rfl, rfl, _, rfl, _, rfl, b, CEv K, db, _, _, rfl, sG2 _ _ h1.at_, T.c_Event, T.a_Event_used, rfl, q, _, rfl, DPut.t eqT hnG hsz, ?_⟩
          rw [usedKV_put, hus, e0]
          refine ⟨_, _, rfl, fun c o z => ?_, upd_same, ?_⟩
          · rw [upd_ne (ne_of_none z hq)]
            exact sG2 c o z
          · rw [upd_ne neq.symm]
            exact hTs _ _ ee
      · obtain ⟨v3, v4, rfl, sG', eq', ee⟩ := hw
        refine ⟨_, v3, v4, rfl, sG', ?_⟩
        rw [take_snoc hev, usedAll_snoc]
        rw [paired_len pe, List.take_length] at eq'
        exact eq'
    · obtain ⟨v2, v3, v4, rfl, sG, eq⟩ := hw
      refine ⟨_, rfl, k q G hq sG ?_⟩
      have e : L.evss.take (tas.map V.ref).length = L.evss := by
        rw [List.length_map, X.len, ← hlen, List.take_length]
      rw [e] at eq
      exact eq
end
end Bk
set_option Elab.async false
set_option linter.all false
set_option maxRecDepth 100000
set_option maxHeartbeats 4000000
namespace Bk
open PySem PySem.Spec PyProof.Rows L2
theorem rset_keep {ρ : Rl} {a b : Addr} {r : Role} (h : ρ b = r) : rset ρ a r b = r := by
  unfold rset
  split
  · rfl
  · exact h
theorem DP.letters_len (d : DP) (h st heard : Int) : (d.letters h st heard).length ≤ 3 := by
  unfold DP.letters
  rw [List.length_map, List.length_range]
  have := Int.emod_lt_of_pos (d.digit h st heard) (show (0 : Int) < 4 by decide)
  omega
/-- the names of a deed's letters -/
def namesOf (h p : Int) (n : Nat) : List Nm := (List.range n).map fun k => (h, p, ((k : Nat) : Int))
def Lm.addEv (L : Lm) (d : DP) (i : Nat) (us : Option Nm) (wd : Option Int) : Lm := match L.thr[i]? with
  | none => L
  | some t => { L with thr := L.thr.set i (t.doEv ⟨us, (d.fn (i : Nat) t.state wd).1, (d.fn (i : Nat) t.state wd).2.1, (d.fn (i : Nat) t.state wd).2.2⟩), order := L.order ++ namesOf (i : Nat) (t.here + 1) (d.fn (i : Nat) t.state wd).2.1.length }
section
variable {K : PySem.W.Frag} {ρ ρ' : Rl} {H H' : Hp} {p dx f tl dl ol : Addr} {L : Lm} {d : DP} {tas : List Addr} {dvs ovs : List V}
theorem LmAt.pushOrder (x : LmAt K ρ H p L d dx f tl dl ol tas dvs ovs) (wf : Wf ρ H) {v : V} {n : Nm} (h : NmAt H v n) :
    Step ML ρ H ρ (upd H ol (.lst (ovs ++ [v]))) ∧ LmAt K ρ (upd H ol (.lst (ovs ++ [v]))) p { L with order := L.order ++ [n] } d dx f tl dl ol tas dvs (ovs ++ [v]) := by
  have s : Step (fun r => r = .lor) ρ H ρ (upd H ol (.lst (ovs ++ [v]))) := Step.write wf x.odr.at_ x.odr.role fun z => z
  refine ⟨s.mono fun r e => .inr (.inr (.inl e)), x.ob.step s (by intro z; cases z), x.clo.step s (by intro z; cases z), x.many, x.tls.step s (by intro z; cases z), x.len, x.tlen, fun i a t h1 h2 => (x.thr i a t h1 h2).step s (by intro z; cases z) (by intro z; cases z) (by intro z; cases z) (by intro z; cases z),
    x.don.step s (by intro z; cases z), Paired.imp x.dn fun _ _ z => z.tk s.tk, ⟨x.odr.role, upd_same⟩, paired_snoc (R := NmAt (upd H ol (.lst (ovs ++ [v])))) (h.tk s.tk) (Paired.tkN x.od s.tk)⟩
theorem LmAt.pushDone (x : LmAt K ρ H p L d dx f tl dl ol tas dvs ovs) (wf : Wf ρ H) {v : V} {r : Row × Int} (h : DoneAt H v r) :
    Step ML ρ H ρ (upd H dl (.lst (dvs ++ [v]))) ∧ LmAt K ρ (upd H dl (.lst (dvs ++ [v]))) p { L with done := L.done ++ [r] } d dx f tl dl ol tas (dvs ++ [v]) ovs := by
  have s : Step (fun r => r = .ld) ρ H ρ (upd H dl (.lst (dvs ++ [v]))) := Step.write wf x.don.at_ x.don.role fun z => z
  refine ⟨s.mono fun r e => .inr (.inl e), x.ob.step s (by intro z; cases z), x.clo.step s (by intro z; cases z), x.many, x.tls.step s (by intro z; cases z), x.len, x.tlen, fun i a t h1 h2 => (x.thr i a t h1 h2).step s (by intro z; cases z) (by intro z; cases z) (by intro z; cases z) (by intro z; cases z),
    ⟨x.don.role, upd_same⟩, paired_snoc (h.tk s.tk) (Paired.imp x.dn fun _ _ z => z.tk s.tk), x.odr.step s (by intro z; cases z), Paired.tkN x.od s.tk⟩
theorem LmAt.new0 (x : LmAt K ρ H p L d dx f tl dl ol tas dvs ovs) (wf : Wf ρ H) {a : Addr} {o : HO} (h : H a = none) : LmAt K ρ (upd H a o) p L d dx f tl dl ol tas dvs ovs := x.step (Step.new0 (M := No) wf h) noNo
end
theorem MT_ML {i : Nat} : ∀ r, MT i r → ML r := fun _ h => .inr (.inr (.inr ⟨i, h⟩))
def sp_LoomAdd (K : PySem.W.Frag) : Sp := fun vs H Q _ => ∃ (ρ : Rl) (p : Addr) (L : Lm) (d : DP) (i : Nat) (uv : V) (us : Option Nm) (wd : Option Int), vs = [.ref p, .int (i : Nat), uv, wdV wd] ∧ Wf ρ H ∧ LmIs K ρ H p L d ∧ L.Ok 50 ∧ i < L.many ∧ UsAt H uv us ∧
  ∀ (ρ' : Rl) (H' : Hp), Step ML ρ H ρ' H' → LmIs K ρ' H' p (L.addEv d i us wd) d → Q .non H'
section
variable {P : Program} {w : World} {K : PySem.W.Frag} {mg : Str → Option Value} {base : Heap}
theorem scLoomAdd : FnScope ["self", "hand", "name", "word", "thread", "does", "state", "letters", "words", "k"] ["self", "hand", "name", "word"] (defScope sLoomAdd) := ⟨rfl, rfl, rfl, by decide +kernel, rfl, by decide +kernel, by decide +kernel⟩
theorem ok_LoomAdd (T : Txt K mg) : OK P w K mg base CX0 4 ("Loom", some "add") ["self", "hand", "name", "word"] (sp_LoomAdd K) := by
  obtain ⟨fdThreadStateat, GThreadStateat, bThreadStateat, kThreadStateat⟩ := (ok_ThreadStateat (P := P) (w := w) (base := base) T).ex
  obtain ⟨fdThreadHere, GThreadHere, bThreadHere, kThreadHere⟩ := (ok_ThreadHere (P := P) (w := w) (base := base) T).ex
  obtain ⟨fdThreadDo, GThreadDo, bThreadDo, kThreadDo⟩ := (ok_ThreadDo (P := P) (w := w) (base := base) T).ex
  obtain ⟨fdEventInit, GEventInit, bEventInit, kEventInit⟩ := (ok_EventInit (P := P) (w := w) (base := base) T).ex
  refine OK.mk0 T.f_LoomAdd scLoomAdd (fun _ _ _ _ _ _ us hl => match us, hl with | [_, _, _, _], _ => rfl) (fun vs H Q E h => ?_) (fun cdv A outer s H vs Q E hr h => ?_)
  · obtain ⟨ρ, p, L, d, i, uv, us, wd, rfl, _⟩ := h
    rfl
  · obtain ⟨ρ, p, L, d, i, uv, us, wd, rfl, wf, ⟨dx, f, tl, dl, ol, tas, dvs, ovs, X⟩, ok, hi, hus, k⟩ := h
    obtain ⟨a, t, ha, ht, Y⟩ := X.at_ hi
    have tok := ok.thr t (List.mem_of_getElem? ht)
    obtain ⟨dy, dl2, wl2, hb2, vs2, Z⟩ := id Y
    have hat : atI (tas.map V.ref) ((i : Nat) : Int) = some (.ref a) := atI_nat (by rw [List.getElem?_map, ha]; rfl)
    refine ⟨_, (pss_cons (ps_set (i := 4) scLoomAdd.nd rfl (Or.inl rfl) (pe_ix ix_list (pe_fld (pv 0) rfl) (pv 1) (fun _ _ => rfl)))
      (pss_cons (ps_set (i := 5) scLoomAdd.nd rfl (Or.inl rfl) (pe_fld (pv 0) rfl))
      (pss_cons (ps_asg (pe_callClo (i := 5) T (hr.mono (by decide)) rfl (by first | exact Or.inl rfl | exact Or.inr (Or.inl rfl)) (pa_cons (pv 1) (pa_cons (pe_meth (pv 4) T.c_Thread T.m_Thread_state_at GThreadStateat (hr.mono (by decide)) bThreadStateat .nil pass0 (pa_cons (pe_meth0 (pv 4) T.c_Thread T.m_Thread_here GThreadHere (hr.mono (by decide)) bThreadHere .nil pass0) pa_nil)) (pa_cons (pv 3) pa_nil)))) (pg_tup rfl (pgs_cons (pg_name (i := 6) scLoomAdd.nd rfl (Or.inl rfl)) (pgs_cons (pg_name (i := 7) scLoomAdd.nd rfl (Or.inl rfl)) (pgs_cons (pg_name (i := 8) scLoomAdd.nd rfl (Or.inl rfl)) pgs_nil)))))
      (pss_cons (ps_expr (pe_meth (pv 4) T.c_Thread T.m_Thread_do GThreadDo (hr.mono (by decide)) bThreadDo .nil pass0 (pa_cons (pe_make T.k_Event GEventInit (hr.mono (by decide)) rfl T.g_Event bEventInit .nil pass0 (pa_cons (pv 2) (pa_cons (pv 6) (pa_cons (pv 7) (pa_cons (pv 8) pa_nil))))) pa_nil)))
      (pss_one (ps_for PassesOwn.never rfl (pi_range1 rfl T.n_range (pa_cons (pe_callB call_len_seq (by rfl) T.n_len PySem.boot_len (pa_cons (pv 7) pa_nil)) pa_nil)) (pg_name (i := 9) scLoomAdd.nd rfl (Or.inl rfl)) (pss_one (ps_expr (pe_bm PySem.F.plainAttrs_list PySem.F.slot_list_append PySem.F.type_list_append mt_append (pe_fld (pv 0) rfl) (pa_cons (pe_tup (pa_cons (pv 1) (pa_cons (pe_meth0 (pv 4) T.c_Thread T.m_Thread_here GThreadHere (hr.mono (by decide)) bThreadHere .nil pass0) (pa_cons (pv 9) pa_nil)))) pa_nil)))))))))), ?_⟩
    refine ⟨_, rfl, p, CLm K, dx, _, _, rfl, X.ob.at_, T.c_Loom, T.a_Loom_threads, rfl, _, rfl, tl, _, _, _, rfl, rfl, SqL.of X.tls.at_, hat, ?_⟩
    refine ⟨_, rfl, p, CLm K, dx, _, _, rfl, X.ob.at_, T.c_Loom, T.a_Loom_does, rfl, ?_⟩
    refine ⟨f, rfl, ⟨ρ, d, X.clo⟩, _, rfl, _, rfl, a, dy, _, rfl, Z.ob.at_, rfl, _, rfl, a, dy, _, rfl, Z.ob.at_, rfl, ρ, i, a, t, rfl, Y, ρ, i, a, t, rfl, Y, _, rfl, ρ, d, X.clo, _, _, wd, rfl, fun q l m lv H1 hq hl hm s1 eq el pl em => ?_⟩
    refine ⟨q, _, rfl, SqT.of eq, rfl, _, _, rfl, _, _, rfl, _, _, rfl, rfl, ?_⟩
    have Z1 := Z.step (Step.same (M := No) wf s1) (fun z => z) (fun z => z) (fun z => z) (fun z => z)
    refine ⟨_, rfl, a, dy, _, rfl, Z1.ob.at_, rfl, _, rfl, _, rfl, _, rfl, _, rfl, fun x ex hx hex nex => ?_⟩
    have hx1 : upd (upd H1 ex (.own x)) x (.ins (CEv K) ex []) l = some (.lst lv) := by
      rw [upd_ne (ne_of_none el hx), upd_ne (ne_of_none el hex)]
      exact el
    have hx2 : upd (upd H1 ex (.own x)) x (.ins (CEv K) ex []) m = some (.lst ((d.fn (i : Nat) t.state wd).2.2.map V.int)) := by
      rw [upd_ne (ne_of_none em hx), upd_ne (ne_of_none em hex)]
      exact em
    refine ⟨x, ex, l, m, uv, _, lv, _, rfl, upd_same, hx1, hx2, fun sl sw H2 hsl hsw nss bt e1 e2 e3 => ⟨rfl, ?_⟩⟩
    -- all that stood ahead stands
    have nxs : x ≠ sl := fun z => by
      rw [← z, upd_same] at hsl
      cases hsl
    have nxw : x ≠ sw := fun z => by
      rw [← z, upd_same] at hsw
      cases hsw
    have s12 : Same H1 H2 := fun b o e => bt.keep b o (by rw [upd_ne (ne_of_none e hx), upd_ne (ne_of_none e hex)]; exact e) (ne_of_none e hx)
    have d12 : ∀ b, H2 b = none → H1 b = none := fun b e => s12.free e
    have s2 : Same H H2 := s1.trans s12
    have hx0 : H x = none := s1.free hx
    have fs : ∀ b, upd (upd H1 ex (.own x)) x (.ins (CEv K) ex []) b = none → b ≠ x → H1 b = none := fun b e hb => by
      by_cases hb2 : b = ex
      · rw [hb2]
        exact hex
      · rw [upd_ne hb, upd_ne hb2] at e
        exact e
    have hs0 : H sl = none := s1.free (fs sl hsl nxs.symm)
    have hw0 : H sw = none := s1.free (fs sw hsw nxw.symm)
    have st1 : Step No ρ H (rset (rset (rset ρ x .fz) sl .fz) sw .fz) H2 := (((Step.same wf s2).role hx0 (by rw [e1]; simp) .fz).role hs0 (by rw [e2]; simp) .fz).role hw0 (by rw [e3]; simp) .fz
    obtain ⟨ρ1, eρ⟩ : ∃ ρ1, ρ1 = rset (rset (rset ρ x .fz) sl .fz) sw .fz := ⟨_, rfl⟩
    rw [← eρ] at st1
    have rx : ρ1 x = .fz := by
      rw [eρ]
      exact rset_keep (rset_keep rset_same)
    have rs : ρ1 sl = .fz := by
      rw [eρ]
      exact rset_keep rset_same
    have rw_ : ρ1 sw = .fz := by
      rw [eρ]
      exact rset_same
    have hE : EvAt K ρ1 H2 (.ref x) ⟨us, (d.fn (i : Nat) t.state wd).1, (d.fn (i : Nat) t.state wd).2.1, (d.fn (i : Nat) t.state wd).2.2⟩ :=
      ⟨x, ex, sl, sw, uv, lv, rfl, ⟨rx, e1⟩, hus.tk (tk_same s2), ⟨rs, e2⟩, Paired.tkL pl (tk_same s12), ⟨rw_, e3⟩⟩
    have X2 := X.step st1 noNo
    have Y2 : ThrIs K ρ1 H2 i a t := ⟨dy, dl2, wl2, hb2, vs2, Z.step st1 (fun z => z) (fun z => z) (fun z => z) (fun z => z)⟩
    refine ⟨ρ1, i, a, t, _, _, rfl, st1.wf, Y2, hE, by have := tok.ln; omega, fun H3 st2 Y3 => ?_⟩
    have X3 := X2.thread ha st2 Y3
    have st3 : Step ML ρ H ρ1 H3 := (st1.mono fun _ z => z.elim).trans (st2.mono MT_ML)
    have el2 : H2 l = some (.lst lv) := s12 l _ el
    have rl : ρ1 l = .no := by
      have nlx : l ≠ x := ne_of_none el hx
      have nls : l ≠ sl := fun z => by
        rw [← z] at hsl
        rw [hx1] at hsl
        cases hsl
      have nlw : l ≠ sw := fun z => by
        rw [← z] at hsw
        rw [hx1] at hsw
        cases hsw
      rw [eρ, rset_ne nlw, rset_ne nls, rset_ne nlx]
      exact wf l hl
    have el3 : H3 l = some (.lst lv) := st2.keep l _ el2 (by
      rw [rl]
      rintro (z | z | z) <;> cases z)
    have hlv : lv.length = (d.fn (i : Nat) t.state wd).2.1.length := paired_len pl
    have hl3 : (d.fn (i : Nat) t.state wd).2.1.length ≤ 3 := DP.letters_len _ _ _ _
    refine ⟨_, rfl, l, _, rfl, .inl (SqL.of el3), _, rfl, by omega, by omega, ?_⟩
    have eadd : L.addEv d i us wd = { L with thr := L.thr.set i (t.doEv ⟨us, (d.fn (i : Nat) t.state wd).1, (d.fn (i : Nat) t.state wd).2.1, (d.fn (i : Nat) t.state wd).2.2⟩), order := L.order ++ namesOf (i : Nat) (t.here + 1) (d.fn (i : Nat) t.state wd).2.1.length } := by
      unfold Lm.addEv
      rw [ht]
    have hi2 : i < L.thr.length := (List.getElem?_eq_some_iff.mp ht).1
    have hh : (t.doEv ⟨us, (d.fn (i : Nat) t.state wd).1, (d.fn (i : Nat) t.state wd).2.1, (d.fn (i : Nat) t.state wd).2.2⟩).here = t.here + 1 := by
      unfold Thr.doEv Thr.here
      show (((t.evs ++ [_]).length : Nat) : Int) = _
      rw [List.length_append]
      rfl
    refine for_range (lo := 0) (n := ((lv.length : Nat) : Int).toNat) (fun j σ G => ∃ (v9 : Option V) (ovs' : List V), σ = [some (.ref p), some (.int (i : Nat)), some uv, some (wdV wd), some (.ref a), some (.ref f), some (.int (d.fn (i : Nat) t.state wd).1), some (.ref l), some (.ref m), v9] ∧ Step ML ρ H ρ1 G ∧
        LmAt K ρ1 G p { L with thr := L.thr.set i (t.doEv ⟨us, (d.fn (i : Nat) t.state wd).1, (d.fn (i : Nat) t.state wd).2.1, (d.fn (i : Nat) t.state wd).2.2⟩), order := L.order ++ namesOf (i : Nat) (t.here + 1) j } d dx f tl dl ol tas dvs ovs')
      ⟨none, ovs, rfl, st3, by
        have e0 : L.order ++ namesOf (i : Nat) (t.here + 1) 0 = L.order := List.append_nil _
        rw [e0]
        exact X3⟩ (fun j σ G hj hw => ?_) fun σ G hw => ?_
    · obtain ⟨v9, ovs', rfl, stG, XG⟩ := hw
      have YG := XG.thr i a _ ha (List.getElem?_set_self hi2)
      obtain ⟨dg, dlg, wlg, hbg, vsg, ZG⟩ := id YG
      refine ⟨_, rfl, p, CLm K, dx, _, _, rfl, XG.ob.at_, T.c_Loom, T.a_Loom_order, rfl, .inl ⟨rfl, _, SqL.of XG.odr.at_⟩, _, rfl, _, rfl, a, dg, _, rfl, ZG.ob.at_, rfl, ρ1, i, a, _, rfl, YG, _, rfl, (by show 3 ≤ sizeLine; decide), fun q2 hq2 => ?_⟩
      have XG2 := XG.new0 stG.wf (o := .tup [V.int (i : Nat), V.int (t.doEv ⟨us, (d.fn (i : Nat) t.state wd).1, (d.fn (i : Nat) t.state wd).2.1, (d.fn (i : Nat) t.state wd).2.2⟩).here, V.int (0 + (j : Nat))]) hq2
      have stq := Step.new0 (M := ML) (o := .tup [V.int (i : Nat), V.int (t.doEv ⟨us, (d.fn (i : Nat) t.state wd).1, (d.fn (i : Nat) t.state wd).2.1, (d.fn (i : Nat) t.state wd).2.2⟩).here, V.int (0 + (j : Nat))]) stG.wf hq2
      obtain ⟨stp, XG3⟩ := XG2.pushOrder stq.wf (n := (((i : Nat) : Int), t.here + 1, ((j : Nat) : Int))) (v := .ref q2) ⟨q2, rfl, by rw [upd_same, hh, Int.zero_add]; rfl⟩
      have ovl : ovs'.length < sizeLine := small6 (by
        rw [paired_len XG.od]
        show (L.order ++ namesOf _ _ j).length ≤ _
        rw [List.length_append]
        unfold namesOf
        rw [List.length_map, List.length_range]
        have := ok.order
        omega)
      refine ⟨ol, _, _, rfl, rfl, XG2.odr.at_, ovl, some (.int (0 + (j : Nat))), ovs' ++ [V.ref q2], rfl, (stG.trans stq).trans stp, ?_⟩
      have en : L.order ++ namesOf (i : Nat) (t.here + 1) (j + 1) = (L.order ++ namesOf (i : Nat) (t.here + 1) j) ++ [(((i : Nat) : Int), t.here + 1, ((j : Nat) : Int))] := by
        unfold namesOf
        rw [List.range_succ, List.map_append, List.append_assoc]
        rfl
      rw [en]
      exact XG3
    · obtain ⟨v9, ovs', rfl, stG, XG⟩ := hw
      refine k ρ1 G stG ⟨dx, f, tl, dl, ol, tas, dvs, ovs', ?_⟩
      rw [eadd, ← hlv]
      rw [Int.toNat_natCast] at XG
      exact XG
end
/-- a deed of its own; a writing: what the rows and the threads are behind it -/
def Lm.hereOf (L : Lm) (i : Nat) : Int := match L.thr[i]? with
  | some t => t.here
  | none => 0
def Lm.log (L : Lm) (r : Row) (i : Nat) : Lm := { L with done := L.done ++ [(r, L.hereOf i)] }
def Lm.doOwn (L : Lm) (d : DP) (i : Nat) : Lm := (L.addEv d i none none).log (.own (i : Nat)) i
def Lm.doUse (L : Lm) (d : DP) (i : Nat) (n : Nm) (w : Int) : Lm := (L.addEv d i (some n) (some w)).log (.use (i : Nat) n) i
def Lm.doWrite (L : Lm) (i : Nat) : Lm := match L.thr[i]? with
  | none => L
  | some t => ({ L with thr := L.thr.set i t.write } : Lm).log (.write (i : Nat)) i
theorem addEv_many (L : Lm) (d : DP) (i : Nat) (us : Option Nm) (wd : Option Int) : (L.addEv d i us wd).many = L.many := by
  unfold Lm.addEv
  split <;> rfl
theorem addEv_done (L : Lm) (d : DP) (i : Nat) (us : Option Nm) (wd : Option Int) : (L.addEv d i us wd).done = L.done := by
  unfold Lm.addEv
  split <;> rfl
/-- no such hand: refused -/
def BadHand (L : Lm) (h : Int) : Prop := h < 0 ∨ (L.many : Nat) ≤ h
def sp_LoomOwn (K : PySem.W.Frag) : Sp := fun vs H Q E => ∃ (ρ : Rl) (p : Addr) (L : Lm) (d : DP) (h : Int), vs = [.ref p, .int h] ∧ Wf ρ H ∧ LmIs K ρ H p L d ∧ L.Ok 50 ∧ (BadHand L h → E (.ref (He.ga K "NoHand")) none H) ∧
  ∀ (i : Nat) (ρ' : Rl) (H' : Hp), h = (i : Nat) → i < L.many → Step ML ρ H ρ' H' → LmIs K ρ' H' p (L.doOwn d i) d → Q .non H'
def sp_LoomWrite (K : PySem.W.Frag) : Sp := fun vs H Q E => ∃ (ρ : Rl) (p : Addr) (L : Lm) (d : DP) (h : Int), vs = [.ref p, .int h] ∧ Wf ρ H ∧ LmIs K ρ H p L d ∧ L.Ok 50 ∧ (BadHand L h → E (.ref (He.ga K "NoHand")) none H) ∧
  ∀ (i : Nat) (ρ' : Rl) (H' : Hp), h = (i : Nat) → i < L.many → Step ML ρ H ρ' H' → LmIs K ρ' H' p (L.doWrite i) d → Q .non H'
section
variable {P : Program} {w : World} {K : PySem.W.Frag} {mg : Str → Option Value} {base : Heap}
theorem Lm.Ok.mono {n m : Nat} {L : Lm} (ok : L.Ok n) (h : n ≤ m) : L.Ok m :=
  ⟨fun t ht => ⟨(ok.thr t ht).hd, (ok.thr t ht).rg, (ok.thr t ht).pl, Nat.le_trans (ok.thr t ht).ln h, Nat.le_trans (ok.thr t ht).lw (by omega), (ok.thr t ht).sn⟩, Nat.le_trans ok.done h, Nat.le_trans ok.order (by omega)⟩
theorem scLoomOwn : FnScope ["self", "hand"] ["self", "hand"] (defScope sLoomOwn) := ⟨rfl, rfl, rfl, by decide +kernel, rfl, by decide +kernel, by decide +kernel⟩
theorem ok_LoomOwn (T : Txt K mg) : OK P w K mg base (L2.CX P w) 5 ("Loom", some "own") ["self", "hand"] (sp_LoomOwn K) := by
  obtain ⟨fdLoomThreadof, GLoomThreadof, bLoomThreadof, kLoomThreadof⟩ := (ok_LoomThreadof (P := P) (w := w) (base := base) T).ex
  obtain ⟨fdLoomAdd, GLoomAdd, bLoomAdd, kLoomAdd⟩ := (ok_LoomAdd (P := P) (w := w) (base := base) T).ex
  obtain ⟨fdThreadHere, GThreadHere, bThreadHere, kThreadHere⟩ := (ok_ThreadHere (P := P) (w := w) (base := base) T).ex
  refine OK.mkX T.f_LoomOwn scLoomOwn (fun _ _ _ _ _ _ us hl => match us, hl with | [_, _], _ => rfl) (fun vs H Q E h => ?_) (fun cdv A outer s H vs Q E hr h => ?_)
  · obtain ⟨ρ, p, L, d, h, rfl, _⟩ := h
    rfl
  · obtain ⟨ρ, p, L, d, h, rfl, wf, ⟨dx, f, tl, dl, ol, tas, dvs, ovs, X⟩, ok, bad, k⟩ := h
    refine ⟨_, (pss_cons (ps_expr (pe_meth (pv 0) T.c_Loom T.m_Loom_thread_of GLoomThreadof (hr.mono (by decide)) bLoomThreadof .nil (passes_call (takes_of rfl rfl rfl rfl) fun _ _ _ _ h => h) (pa_cons (pv 1) pa_nil)))
      (pss_cons (ps_expr (pe_meth (pv 0) T.c_Loom T.m_Loom_add GLoomAdd (hr.mono (by decide)) bLoomAdd .nil pass0 (pa_cons (pv 1) (pa_cons pe_non (pa_cons pe_non pa_nil)))))
      (pss_one (ps_expr (pe_bm PySem.F.plainAttrs_list PySem.F.slot_list_append PySem.F.type_list_append mt_append (pe_fld (pv 0) rfl) (pa_cons (pe_tup (pa_cons (pe_tup (pa_cons pe_str (pa_cons (pv 1) pa_nil))) (pa_cons (pe_meth0 (pe_ix ix_list (pe_fld (pv 0) rfl) (pv 1) (fun _ _ => rfl)) T.c_Thread T.m_Thread_here GThreadHere (hr.mono (by decide)) bThreadHere .nil pass0) pa_nil))) pa_nil)))))), ?_⟩
    refine ⟨_, rfl, p, dx, _, rfl, X.ob.at_, rfl, _, rfl, ρ, p, h, L, d, dx, f, tl, dl, ol, tas, dvs, ovs, rfl, X, bad, fun i a hi ha => ?_⟩
    subst hi
    have hi : i < L.many := by
      rw [← X.len]
      exact (List.getElem?_eq_some_iff.mp ha).1
    refine ⟨_, rfl, p, dx, _, rfl, X.ob.at_, rfl, _, rfl, ρ, p, L, d, i, .non, none, none, rfl, wf, ⟨dx, f, tl, dl, ol, tas, dvs, ovs, X⟩, ok, hi, rfl, fun ρ1 H1 s1 X1 => ?_⟩
    obtain ⟨dx1, f1, tl1, dl1, ol1, tas1, dvs1, ovs1, X1⟩ := X1
    obtain ⟨a1, t1, ha1, ht1, Y1⟩ := X1.at_ (i := i) (by rw [addEv_many]; exact hi)
    have eh : (L.addEv d i none none).hereOf i = t1.here := by
      unfold Lm.hereOf
      rw [ht1]
    refine ⟨_, rfl, p, CLm K, dx1, _, _, rfl, X1.ob.at_, T.c_Loom, T.a_Loom_done, rfl, .inl ⟨rfl, _, SqL.of X1.don.at_⟩, _, rfl, (by show 2 ≤ sizeLine; decide), fun q hq => ?_⟩
    have s2 := Step.new0 (M := ML) (o := .tup [.str "own", .int (i : Nat)]) s1.wf hq
    have X2 := X1.new0 s1.wf (o := .tup [.str "own", .int (i : Nat)]) hq
    have Y2 := Y1.step s2 ML_fz
    obtain ⟨a2, t2, ha2, ht2, Y2⟩ := X2.at_ (i := i) (by rw [addEv_many]; exact hi)
    rw [ha1] at ha2
    cases ha2
    rw [ht1] at ht2
    cases ht2
    obtain ⟨dy, dl2, wl2, hb2, vs2, Z2⟩ := id Y2
    refine ⟨_, rfl, p, CLm K, dx1, _, _, rfl, X2.ob.at_, T.c_Loom, T.a_Loom_threads, rfl, _, rfl, tl1, _, _, _, rfl, rfl, SqL.of X2.tls.at_, atI_nat (j := i) (v := V.ref a1) (by rw [List.getElem?_map, ha1]; rfl), a1, dy, _, rfl, Z2.ob.at_, rfl, ρ1, i, a1, t1, rfl, Y2, (by show 2 ≤ sizeLine; decide), fun q2 hq2 => ?_⟩
    have s3 := s2.trans (Step.new0 (M := ML) (o := .tup [.ref q, .int t1.here]) s2.wf hq2)
    have X3 := X2.new0 s2.wf (o := .tup [.ref q, .int t1.here]) hq2
    have hq12 : q ≠ q2 := ne_of_none upd_same hq2
    obtain ⟨s4, X4⟩ := X3.pushDone s3.wf (v := .ref q2) (r := (.own (i : Nat), t1.here)) ⟨.ref q, ⟨q, rfl, (upd_ne hq12).trans upd_same⟩, q2, rfl, upd_same⟩
    refine ⟨dl1, _, _, rfl, rfl, X3.don.at_, small6 ?_, k i ρ1 _ rfl hi (s1.trans (s3.trans s4)) ⟨dx1, f1, tl1, dl1, ol1, tas1, dvs1 ++ [V.ref q2], ovs1, ?_⟩⟩
    · have := ok.done
      rw [paired_len X3.dn, addEv_done]
      omega
    · unfold Lm.doOwn Lm.log
      rw [eh]
      exact X4
theorem scLoomWrite : FnScope ["self", "hand"] ["self", "hand"] (defScope sLoomWrite) := ⟨rfl, rfl, rfl, by decide +kernel, rfl, by decide +kernel, by decide +kernel⟩
theorem ok_LoomWrite (T : Txt K mg) : OK P w K mg base (L2.CX P w) 3 ("Loom", some "write") ["self", "hand"] (sp_LoomWrite K) := by
  obtain ⟨fdThreadWrite, GThreadWrite, bThreadWrite, kThreadWrite⟩ := (ok_ThreadWrite (P := P) (w := w) (base := base) T).ex
  obtain ⟨fdLoomThreadof, GLoomThreadof, bLoomThreadof, kLoomThreadof⟩ := (ok_LoomThreadof (P := P) (w := w) (base := base) T).ex
  obtain ⟨fdThreadHere, GThreadHere, bThreadHere, kThreadHere⟩ := (ok_ThreadHere (P := P) (w := w) (base := base) T).ex
  refine OK.mkX T.f_LoomWrite scLoomWrite (fun _ _ _ _ _ _ us hl => match us, hl with | [_, _], _ => rfl) (fun vs H Q E h => ?_) (fun cdv A outer s H vs Q E hr h => ?_)
  · obtain ⟨ρ, p, L, d, h, rfl, _⟩ := h
    rfl
  · obtain ⟨ρ, p, L, d, h, rfl, wf, ⟨dx, f, tl, dl, ol, tas, dvs, ovs, X⟩, ok, bad, k⟩ := h
    refine ⟨_, (pss_cons (ps_expr (pe_meth0 (pe_meth (pv 0) T.c_Loom T.m_Loom_thread_of GLoomThreadof (hr.mono (by decide)) bLoomThreadof .nil (passes_call (takes_of rfl rfl rfl rfl) fun _ _ _ _ h => h) (pa_cons (pv 1) pa_nil)) T.c_Thread T.m_Thread_write GThreadWrite (hr.mono (by decide)) bThreadWrite .nil pass0))
      (pss_one (ps_expr (pe_bm PySem.F.plainAttrs_list PySem.F.slot_list_append PySem.F.type_list_append mt_append (pe_fld (pv 0) rfl) (pa_cons (pe_tup (pa_cons (pe_tup (pa_cons pe_str (pa_cons (pv 1) pa_nil))) (pa_cons (pe_meth0 (pe_ix ix_list (pe_fld (pv 0) rfl) (pv 1) (fun _ _ => rfl)) T.c_Thread T.m_Thread_here GThreadHere (hr.mono (by decide)) bThreadHere .nil pass0) pa_nil))) pa_nil))))), ?_⟩
    refine ⟨_, rfl, p, dx, _, rfl, X.ob.at_, rfl, _, rfl, ρ, p, h, L, d, dx, f, tl, dl, ol, tas, dvs, ovs, rfl, X, bad, fun i a hi ha => ?_⟩
    subst hi
    have hi : i < L.many := by
      rw [← X.len]
      exact (List.getElem?_eq_some_iff.mp ha).1
    obtain ⟨a0, t, ha0, ht, Y⟩ := X.at_ hi
    rw [ha] at ha0
    cases ha0
    have tok := ok.thr t (List.mem_of_getElem? ht)
    have tok : t.Ok 100 := ⟨tok.hd, tok.rg, tok.pl, Nat.le_trans tok.ln (by omega), Nat.le_trans tok.lw (by omega), tok.sn⟩
    obtain ⟨dy, dl2, wl2, hb2, vs2, Z⟩ := id Y
    refine ⟨a, dy, _, rfl, Z.ob.at_, rfl, ρ, i, a, t, rfl, wf, Y, tok, fun H1 s1 Y1 => ?_⟩
    have X1 := X.thread ha s1 Y1
    have s1 : Step ML ρ H ρ H1 := s1.mono MT_ML
    refine ⟨_, rfl, p, CLm K, dx, _, _, rfl, X1.ob.at_, T.c_Loom, T.a_Loom_done, rfl, .inl ⟨rfl, _, SqL.of X1.don.at_⟩, _, rfl, (by show 2 ≤ sizeLine; decide), fun q hq => ?_⟩
    have s2 := Step.new0 (M := ML) (o := .tup [.str "write", .int (i : Nat)]) s1.wf hq
    have X2 := X1.new0 s1.wf (o := .tup [.str "write", .int (i : Nat)]) hq
    have hi2 : i < L.thr.length := (List.getElem?_eq_some_iff.mp ht).1
    have Y2 := X2.thr i a _ ha (List.getElem?_set_self hi2)
    obtain ⟨dy, dl2, wl2, hb2, vs2, Z2⟩ := id Y2
    refine ⟨_, rfl, p, CLm K, dx, _, _, rfl, X2.ob.at_, T.c_Loom, T.a_Loom_threads, rfl, _, rfl, tl, _, _, _, rfl, rfl, SqL.of X2.tls.at_, atI_nat (j := i) (v := V.ref a) (by rw [List.getElem?_map, ha]; rfl), a, dy, _, rfl, Z2.ob.at_, rfl, ρ, i, a, _, rfl, Y2, (by show 2 ≤ sizeLine; decide), fun q2 hq2 => ?_⟩
    have s3 := s2.trans (Step.new0 (M := ML) (o := .tup [.ref q, .int t.write.here]) s2.wf hq2)
    have X3 := X2.new0 s2.wf (o := .tup [.ref q, .int t.write.here]) hq2
    have hq12 : q ≠ q2 := ne_of_none upd_same hq2
    obtain ⟨s4, X4⟩ := X3.pushDone s3.wf (v := .ref q2) (r := (.write (i : Nat), t.write.here)) ⟨.ref q, ⟨q, rfl, (upd_ne hq12).trans upd_same⟩, q2, rfl, upd_same⟩
    refine ⟨dl, _, _, rfl, rfl, X3.don.at_, small6 ?_, k i ρ _ rfl hi (s1.trans (s3.trans s4)) ⟨dx, f, tl, dl, ol, tas, dvs ++ [V.ref q2], ovs, ?_⟩⟩
    · have := ok.done
      rw [paired_len X3.dn]
      show L.done.length ≤ _
      omega
    · have e : L.doWrite i = { L with thr := L.thr.set i t.write, done := L.done ++ [(.write (i : Nat), t.write.here)] } := by
        unfold Lm.doWrite
        rw [ht]
        show Lm.log _ _ _ = _
        unfold Lm.log Lm.hereOf
        rw [List.getElem?_set_self hi2]
      rw [e]
      exact X4
end
end Bk
set_option Elab.async false
set_option linter.all false
set_option maxRecDepth 100000
set_option maxHeartbeats 4000000
/-! A letter is used: who may, and what comes of it. -/
namespace Bk
open PySem PySem.Spec PyProof.Rows L2
/-! ### names as data -/
def nmD (n : Nm) : PyData := .tuple [.int n.1, .int n.2.1, .int n.2.2]
theorem nmD_shaped (n : Nm) : SeqAt.shaped (nmD n) = true := by
  have h2 : (nmD n).depth ≤ 64 := by
    have : (nmD n).depth = 1 := by simp [nmD, PyData.depth, PyData.depthAll]
    omega
  show ((nmD n).canLay0 && decide ((nmD n).depth ≤ 64)) = true
  rw [Bool.and_eq_true]
  exact ⟨by simp [nmD, PyData.canLay0, PyData.canLayAll0], decide_eq_true h2⟩
theorem nmDs_lay : ∀ zs : List Nm, PyData.canLayAll0 (zs.map nmD) = true
  | [] => by simp [PyData.canLayAll0]
  | z :: zs => by
    have h1 := nmDs_lay zs
    simp only [List.map_cons, PyData.canLayAll0, h1, Bool.and_true]
    simp [nmD, PyData.canLay0, PyData.canLayAll0]
theorem nmDs_depth : ∀ zs : List Nm, PyData.depthAll (zs.map nmD) ≤ 1
  | [] => by simp [PyData.depthAll]
  | z :: zs => by
    have h1 := nmDs_depth zs
    have h2 : (nmD z).depth = 1 := by simp [nmD, PyData.depth, PyData.depthAll]
    simp only [List.map_cons, PyData.depthAll]
    omega
theorem nmDs_shaped (zs : List Nm) : SeqAt.shaped (.list (zs.map nmD)) = true := by
  have h1 := nmDs_depth zs
  have h2 : PyData.depth (.list (zs.map nmD)) ≤ 64 := by
    simp only [PyData.depth]
    omega
  show (PyData.canLay0 (.list (zs.map nmD)) && decide (PyData.depth (.list (zs.map nmD)) ≤ 64)) = true
  rw [Bool.and_eq_true]
  refine ⟨?_, decide_eq_true h2⟩
  simp only [PyData.canLay0]
  exact nmDs_lay zs
theorem nmD_eqv (n m : Nm) : PyData.eqv (nmD n) (nmD m) = decide (n = m) := by
  have e : PyData.eqv (nmD n) (nmD m) = ((n.1 == m.1) && ((n.2.1 == m.2.1) && ((n.2.2 == m.2.2) && true))) := by simp only [nmD, PyData.eqv, PyData.eqvAll]
  rw [e, Bool.and_true]
  by_cases h : n = m
  · subst h
    simp
  · rw [decide_eq_false h]
    by_cases h1 : n.1 = m.1
    · by_cases h2 : n.2.1 = m.2.1
      · by_cases h3 : n.2.2 = m.2.2
        · exact absurd (Prod.ext h1 (Prod.ext h2 h3)) h
        · simp [h3]
      · simp [h2]
    · simp [h1]
theorem nmD_any (n : Nm) : ∀ zs : List Nm, ((zs.map nmD).any fun z => PyData.eqv z (nmD n)) = decide (n ∈ zs)
  | [] => rfl
  | z :: r => by
    rw [List.map_cons, List.any_cons, nmD_any n r, nmD_eqv]
    by_cases h : z = n
    · subst h
      simp
    · have h' : ¬ n = z := fun e => h e.symm
      simp [h, h']
section
variable {K : PySem.W.Frag} {H : Hp}
theorem nm_dp {v : V} {n : Nm} (h : NmAt H v n) : Dp K H v (nmD n) := by
  obtain ⟨a, rfl, e⟩ := h
  exact .tup (SqT.of e) (.cons (.int _) (.cons (.int _) (.cons (.int _) .nil)))
theorem nms_dp : ∀ {xs : List V} {ns : List Nm}, Paired (NmAt H) xs ns → DpAll K H xs (ns.map nmD)
  | _, _, .nil => .nil
  | _, _, .cons h t => .cons (nm_dp h) (nms_dp t)
end
/-! ### who waits -/
def to1 (S : List (Nm × Lt)) (h : Int) (n : Nm) : Bool := match lookS S n with
  | some lt => decide (lt.1 = h)
  | none => false
def wait1 (L : Lm) (h : Int) : List Nm := L.order.filter (to1 (sentAll 0 L.evss) h)
def wait2 (L : Lm) (h : Int) : List Nm := (wait1 L h).filter fun n => !(lookU (usedAll [] L.evss) n).isSome
def way (L : Lm) (h : Int) (n : Nm) : List Nm := (wait2 L h).filter fun m => decide (m.1 = n.1)
def UseOk (L : Lm) (h : Int) (n : Nm) : Prop := n ∈ wait2 L h ∧ (L.ord = true → (way L h n)[0]? = some n)
theorem wait_to {L : Lm} {h : Int} {n : Nm} (m : n ∈ wait2 L h) : ∃ w, lookS (sentAll 0 L.evss) n = some (h, w) := by
  have h1 := (List.mem_filter.mp (List.mem_filter.mp m).1).2
  unfold to1 at h1
  split at h1
  · next lt e =>
    obtain ⟨a, b⟩ := lt
    have := of_decide_eq_true h1
    subst this
    exact ⟨b, e⟩
  · cases h1
def sp_LoomUse (K : PySem.W.Frag) : Sp := fun vs H Q E => ∃ (ρ : Rl) (p : Addr) (L : Lm) (d : DP) (h : Int) (nv : V) (n : Nm), vs = [.ref p, .int h, nv] ∧ NmAt H nv n ∧ Wf ρ H ∧ LmIs K ρ H p L d ∧ L.many ≤ 5 ∧ L.Ok 50 ∧ (BadHand L h → E (.ref (He.ga K "NoHand")) none H) ∧
  (∀ H' : Hp, ¬ BadHand L h → ¬ UseOk L h n → Same H H' → E (.ref (He.ga K "NoLetter")) none H') ∧
  ∀ (i : Nat) (w : Int) (ρ' : Rl) (H' : Hp), h = (i : Nat) → i < L.many → UseOk L h n → lookS (sentAll 0 L.evss) n = some (h, w) → Step ML ρ H ρ' H' → LmIs K ρ' H' p (L.doUse d i n w) d → Q .non H'
section
variable {P : Program} {w : World} {K : PySem.W.Frag} {mg : Str → Option Value} {base : Heap}
/-- a filter, item by item -/
theorem filter_snoc {α : Type} {f : α → Bool} {xs : List α} {i : Nat} {x : α} (h : xs[i]? = some x) : (xs.take (i + 1)).filter f = (xs.take i).filter f ++ (if f x = true then [x] else []) := by
  rw [take_snoc h, List.filter_append]
  congr 1
  cases q : f x with
  | true => rw [List.filter_cons, q]; rfl
  | false => rw [List.filter_cons, q]; rfl
theorem filter_len {α : Type} (f : α → Bool) (xs : List α) (i : Nat) : ((xs.take i).filter f).length ≤ xs.length :=
  Nat.le_trans (List.length_filter_le _ _) (List.length_take_le' i xs)
theorem scLoomUse : FnScope ["self", "hand", "name", "sent", "waiting", "used", "one"] ["self", "hand", "name"] (defScope sLoomUse) := ⟨rfl, rfl, rfl, by decide +kernel, rfl, by decide +kernel, by decide +kernel⟩
set_option maxHeartbeats 8000000 in
theorem ok_LoomUse (T : Txt K mg) : OK P w K mg base (L2.CX P w) 5 ("Loom", some "use") ["self", "hand", "name"] (sp_LoomUse K) := by
  obtain ⟨fdLoomThreadof, GLoomThreadof, bLoomThreadof, kLoomThreadof⟩ := (ok_LoomThreadof (P := P) (w := w) (base := base) T).ex
  obtain ⟨fdLoomLetterssent, GLoomLetterssent, bLoomLetterssent, kLoomLetterssent⟩ := (ok_LoomLetterssent (P := P) (w := w) (base := base) T).ex
  obtain ⟨fdLoomLettersused, GLoomLettersused, bLoomLettersused, kLoomLettersused⟩ := (ok_LoomLettersused (P := P) (w := w) (base := base) T).ex
  obtain ⟨fdLoomAdd, GLoomAdd, bLoomAdd, kLoomAdd⟩ := (ok_LoomAdd (P := P) (w := w) (base := base) T).ex
  obtain ⟨fdThreadHere, GThreadHere, bThreadHere, kThreadHere⟩ := (ok_ThreadHere (P := P) (w := w) (base := base) T).ex
  refine OK.mkX T.f_LoomUse scLoomUse (fun _ _ _ _ _ _ us hl => match us, hl with | [_, _, _], _ => rfl) (fun vs H Q E h => ?_) (fun cdv A outer s H vs Q E hr h => ?_)
  · obtain ⟨ρ, p, L, d, h, nv, n, rfl, _⟩ := h
    rfl
  · obtain ⟨ρ, p, L, d, h, nv, n, rfl, hn, wf, ⟨dx, f, tl, dl, ol, tas, dvs, ovs, X⟩, hm, ok, bad, no, k⟩ := h
    have ok100 := ok.mono (m := 100) (by omega)
    refine ⟨_, (pss_cons (ps_expr (pe_meth (pv 0) T.c_Loom T.m_Loom_thread_of GLoomThreadof (hr.mono (by decide)) bLoomThreadof .nil (passes_call (takes_of rfl rfl rfl rfl) fun _ _ _ _ h => h) (pa_cons (pv 1) pa_nil)))
      (pss_cons (ps_set (i := 3) scLoomUse.nd rfl (Or.inr rfl) (pe_meth0 (pv 0) T.c_Loom T.m_Loom_letters_sent GLoomLetterssent (hr.mono (by decide)) bLoomLetterssent .nil pass0))
      (pss_cons (ps_setLc (own := [("one", 6)]) (i := 4) rfl scLoomUse.nd rfl rfl (sw_true rfl rfl rfl (by decide +kernel)) (pi_list (pe_fld (pv 0) rfl)) (blkOk_by (N := ["self", "hand", "name", "sent", "waiting", "used", "one"]) (sc := defScope sLoomUse) (by decide +kernel)) (fun _ _ _ _ _ => (pg_name (i := 6) scLoomUse.nd rfl (Or.inl rfl) (Or.inr rfl))) (fun _ _ _ _ _ => (pts_one (PW.pt (pw_and (pt_cmp (pc_din (hu_of hr) (pv 6) (pv 3))) (pw_and1 (pt_cmpR op_eq (pe_ix (ix_tupK (K := K) rfl) (pe_dget (hu_of hr) (pv 3) (pv 6) (fun _ _ => rfl)) pe_int (fun _ _ => rfl)) (pv 1) (nomark _))))))) (fun _ _ _ _ _ => (pv 6)))
      (pss_cons (ps_set (i := 5) scLoomUse.nd rfl (Or.inr rfl) (pe_meth0 (pv 0) T.c_Loom T.m_Loom_letters_used GLoomLettersused (hr.mono (by decide)) bLoomLettersused .nil pass0))
      (pss_cons (ps_setLc (own := [("one", 6)]) (i := 4) rfl scLoomUse.nd rfl rfl (sw_true rfl rfl rfl (by decide +kernel)) (pi_list (pv 4)) (blkOk_by (N := ["self", "hand", "name", "sent", "waiting", "used", "one"]) (sc := defScope sLoomUse) (by decide +kernel)) (fun _ _ _ _ _ => (pg_name (i := 6) scLoomUse.nd rfl (Or.inl rfl) (Or.inr rfl))) (fun _ _ _ _ _ => (pts_one (pt_cmp (pc_dnotin (hu_of hr) (pv 6) (pv 5))))) (fun _ _ _ _ _ => (pv 6)))
      (C8.pss_cut (ps_if (pt_cmpR (op_notInD (hu65 hr)) (pv 2) (pv 4) (by with_unfolding_all rfl)) (pss_one (ps_raise rfl (takes_of rfl rfl rfl rfl) (pmk_own PySem.F.excBase_ValueError T.xi_NoLetter T.g_NoLetter T.kp_NoLetter (raises_own T.xs_NoLetter T.xt_NoLetter) rfl))) pss_nil)
      (C8.pss_cut (ps_if (PW.pt (pw_and (pt_val (pe_fld (pv 0) rfl)) (pw_and1 (pt_cmpR (op_neD hr.units) (pe_ix ix_list (pe_lc (own := [("one", 6)]) rfl scLoomUse.nd (pi_list (pv 4)) (blkOk_by (N := ["self", "hand", "name", "sent", "waiting", "used", "one"]) (sc := defScope sLoomUse) (by decide +kernel)) (fun _ _ _ _ _ => (pg_name (i := 6) scLoomUse.nd rfl (Or.inl rfl) (Or.inr rfl))) (fun _ _ _ _ _ => (pts_one (pt_cmpR op_eq (pe_ix (ix_tupK (K := K) rfl) (pv 6) pe_int (fun _ _ => rfl)) (pe_ix (ix_tupK (K := K) rfl) (pv 2) pe_int (fun _ _ => rfl)) (nomark _)))) (fun _ _ _ _ _ => (pv 6))) pe_int (fun _ _ => rfl)) (pv 2) (nomark _))))) (pss_one (ps_raise rfl (takes_of rfl rfl rfl rfl) (pmk_own PySem.F.excBase_ValueError T.xi_NoLetter T.g_NoLetter T.kp_NoLetter (raises_own T.xs_NoLetter T.xt_NoLetter) rfl))) pss_nil)
      (pss_cons (ps_expr (pe_meth (pv 0) T.c_Loom T.m_Loom_add GLoomAdd (hr.mono (by decide)) bLoomAdd .nil pass0 (pa_cons (pv 1) (pa_cons (pv 2) (pa_cons (pe_ix ix_tup (pe_dget (hu_of hr) (pv 3) (pv 2) (fun _ _ => rfl)) pe_int (fun _ _ => rfl)) pa_nil)))))
      (pss_one (ps_expr (pe_bm PySem.F.plainAttrs_list PySem.F.slot_list_append PySem.F.type_list_append mt_append (pe_fld (pv 0) rfl) (pa_cons (pe_tup (pa_cons (pe_tup (pa_cons pe_str (pa_cons (pv 1) (pa_cons (pv 2) pa_nil)))) (pa_cons (pe_meth0 (pe_ix ix_list (pe_fld (pv 0) rfl) (pv 1) (fun _ _ => rfl)) T.c_Thread T.m_Thread_here GThreadHere (hr.mono (by decide)) bThreadHere .nil pass0) pa_nil))) pa_nil)))))))))))), ?_⟩
    refine ⟨_, rfl, p, dx, _, rfl, X.ob.at_, rfl, _, rfl, ρ, p, h, L, d, dx, f, tl, dl, ol, tas, dvs, ovs, rfl, X, bad, fun i a hi ha => ?_⟩
    subst hi
    have hi : i < L.many := by
      rw [← X.len]
      exact (List.getElem?_eq_some_iff.mp ha).1
    have nb : ¬ BadHand L ((i : Nat) : Int) := by
      rintro (z | z) <;> omega
    refine ⟨_, rfl, p, dx, _, rfl, X.ob.at_, rfl, ρ, p, L, d, rfl, wf, ⟨dx, f, tl, dl, ol, tas, dvs, ovs, X⟩, hm, ok100, fun q1 kvs H1 hq1 s1 eq1 sk1 => ?_⟩
    have X1 := X.same wf s1
    refine ⟨_, rfl, p, CLm K, dx, _, _, rfl, X1.ob.at_, T.c_Loom, T.a_Loom_order, rfl, ol, rfl, ⟨_, SqL.of X1.odr.at_⟩, fun D hD => ?_⟩
    have nq1 : q1 ≠ D := ne_of_none eq1 hD
    have nol : ol ≠ D := ne_of_none X1.odr.at_ hD
    refine lc_list (K := K) (a := ol) (xs := ovs) (fun j G => ∃ xs, G = upd H1 D (.lst xs) ∧ Paired (NmAt H1) xs ((L.order.take j).filter (to1 (sentAll 0 L.evss) (i : Nat)))) ⟨[], rfl, .nil⟩ (fun j G _ e => ?_) (fun j x G hx e => ?_) (fun G e => ?_)
    · obtain ⟨xs, rfl, _⟩ := e
      exact SqL.of ((upd_ne nol).trans X1.odr.at_)
    · obtain ⟨xs, rfl, pr⟩ := e
      obtain ⟨m, hm2, xa, rfl, hxa⟩ := paired_at' X1.od hx
      have nxa : xa ≠ D := ne_of_none hxa hD
      have hxa2 : upd H1 D (.lst xs) xa = some (.tup ((nmK m).map kV)) := (upd_ne nxa).trans hxa
      have eq2 : upd H1 D (.lst xs) q1 = some (.dT kvs) := (upd_ne nq1).trans eq1
      have hlen : xs.length < sizeLine := small6 (by
        rw [paired_len pr]
        have := filter_len (to1 (sentAll 0 L.evss) (i : Nat)) L.order j
        have := ok.order
        omega)
      refine ⟨rfl, _, rfl, _, rfl, q1, _, rfl, DGet.t eq2 hxa2, ?_⟩
      rcases sk1.look (n := m) with ⟨v, lt, hv, hl, la, rfl, hla⟩ | ⟨hv, hl⟩
      · rw [hv]
        have nla : la ≠ D := ne_of_none hla hD
        refine ⟨_, rfl, iteT ⟨_, rfl, _, rfl, q1, _, rfl, (by have := DGet.t eq2 hxa2; rw [hv] at this; exact this), la, _, _, _, rfl, rfl, SqT.of ((upd_ne nla).trans hla), rfl, _, rfl, rfl, _, rfl, ?_⟩⟩
        rw [filter_snoc hm2]
        have et : to1 (sentAll 0 L.evss) (i : Nat) m = decide (lt.1 = (i : Nat)) := by
          unfold to1
          rw [hl]
        rw [et]
        by_cases hh : lt.1 = (i : Nat)
        · rw [decide_eq_true hh]
          rw [decide_eq_true (show V.int lt.1 = V.int (i : Nat) from congrArg V.int hh)]
          exact iteT ⟨_, rfl, xs, upd_same, hlen, xs ++ [V.ref xa], upd_upd, paired_snoc ⟨xa, rfl, hxa⟩ pr⟩
        · rw [decide_eq_false hh]
          rw [decide_eq_false (fun z : V.int lt.1 = V.int (i : Nat) => hh (V.int.inj z))]
          refine iteF ⟨xs, rfl, ?_⟩
          rw [if_neg (by simp), List.append_nil]
          exact pr
      · rw [hv]
        have et : to1 (sentAll 0 L.evss) (i : Nat) m = false := by
          unfold to1
          rw [hl]
        refine ⟨_, rfl, iteF (iteF ⟨xs, rfl, ?_⟩)⟩
        rw [filter_snoc hm2, et, if_neg (by simp), List.append_nil]
        exact pr
    · obtain ⟨xs1, rfl, pr1⟩ := e
      have sD : Same H1 (upd H1 D (.lst xs1)) := same_upd hD
      rw [paired_len X1.od, List.take_length] at pr1
      obtain ⟨H2, eH2⟩ : ∃ H2, H2 = upd H1 D (.lst xs1) := ⟨_, rfl⟩
      rw [← eH2] at sD ⊢
      have eD : H2 D = some (.lst xs1) := by rw [eH2, upd_same]
      have s2 := s1.trans sD
      have X2 := X.same wf s2
      have pr1 : Paired (NmAt H2) xs1 (wait1 L (i : Nat)) := Paired.tkN pr1 (tk_same sD)
      have wf2 : Wf ρ H2 := fun b e => wf b (s2.free e)
      refine ⟨_, rfl, p, dx, _, rfl, X2.ob.at_, rfl, ρ, p, L, d, rfl, wf2, ⟨dx, f, tl, dl, ol, tas, dvs, ovs, X2⟩, hm, ok100, fun q3 H3 hq3 s23 eq3 => ?_⟩
      have s3 := s2.trans s23
      have eD3 := s23 _ _ eD
      refine ⟨_, rfl, D, rfl, ⟨_, SqL.of eD3⟩, fun D2 hD2 => ?_⟩
      have nq3 : q3 ≠ D2 := ne_of_none eq3 hD2
      have nD : D ≠ D2 := ne_of_none eD3 hD2
      have pr13 := Paired.tkN pr1 (tk_same s23)
      refine lc_list (K := K) (a := D) (xs := xs1) (fun j G => ∃ xs, G = upd H3 D2 (.lst xs) ∧ Paired (NmAt H3) xs (((wait1 L (i : Nat)).take j).filter fun n => !(lookU (usedAll [] L.evss) n).isSome)) ⟨[], rfl, .nil⟩ (fun j G _ e => ?_) (fun j x G hx e => ?_) (fun G e => ?_)
      · obtain ⟨xs, rfl, _⟩ := e
        exact SqL.of ((upd_ne nD).trans eD3)
      · obtain ⟨xs, rfl, pr⟩ := e
        obtain ⟨m, hm2, xa, rfl, hxa⟩ := paired_at' pr13 hx
        have nxa : xa ≠ D2 := ne_of_none hxa hD2
        have hxa2 : upd H3 D2 (.lst xs) xa = some (.tup ((nmK m).map kV)) := (upd_ne nxa).trans hxa
        have eq4 : upd H3 D2 (.lst xs) q3 = some (.dT (usedKV (usedAll [] L.evss))) := (upd_ne nq3).trans eq3
        have hlen : xs.length < sizeLine := small6 (by
          rw [paired_len pr]
          have h1 := filter_len (fun n => !(lookU (usedAll [] L.evss) n).isSome) (wait1 L (i : Nat)) j
          have h2 : (wait1 L (i : Nat)).length ≤ L.order.length := List.length_filter_le _ _
          have := ok.order
          omega)
        refine ⟨rfl, _, rfl, _, rfl, q3, _, rfl, DGet.t eq4 hxa2, ?_⟩
        rw [usedKV_look]
        rw [filter_snoc hm2]
        cases hu : lookU (usedAll [] L.evss) m with
        | none => exact ⟨_, rfl, iteT ⟨_, rfl, xs, upd_same, hlen, xs ++ [V.ref xa], upd_upd, paired_snoc ⟨xa, rfl, hxa⟩ pr⟩⟩
        | some u =>
          refine ⟨_, rfl, iteF ⟨xs, rfl, ?_⟩⟩
          rw [if_neg (by simp), List.append_nil]
          exact pr
      · obtain ⟨xs2, rfl, pr2⟩ := e
        have sD2 : Same H3 (upd H3 D2 (.lst xs2)) := same_upd hD2
        rw [paired_len pr13, List.take_length] at pr2
        obtain ⟨H4, eH4⟩ : ∃ H4, H4 = upd H3 D2 (.lst xs2) := ⟨_, rfl⟩
        rw [← eH4] at sD2 ⊢
        have eD2 : H4 D2 = some (.lst xs2) := by rw [eH4, upd_same]
        have s4 := s3.trans sD2
        have X4 := X.same wf s4
        have pr2 : Paired (NmAt H4) xs2 (wait2 L (i : Nat)) := Paired.tkN pr2 (tk_same sD2)
        have wf4 : Wf ρ H4 := fun b e => wf b (s4.free e)
        have hn4 := hn.tk (tk_same s4)
        have eq14 : H4 q1 = some (.dT kvs) := sD2 _ _ (s23 _ _ (sD _ _ eq1))
        have sk4 : SentKV H4 kvs (sentAll 0 L.evss) := sk1.tk (tk_same ((sD.trans s23).trans sD2))
        refine ⟨fun σ' H' => σ' = [some (.ref p), some (.int (i : Nat)), some nv, some (.ref q1), some (.ref D2), some (.ref q3), none] ∧ H' = H4 ∧ n ∈ wait2 L (i : Nat), ⟨_, rfl, _, rfl, nmD n, _, nm_dp hn4, .lst (SqL.of eD2) (nms_dp pr2), nmD_shaped n, nmDs_shaped _, ?_⟩, ?_⟩
        · rw [nmD_any]
          by_cases hw : n ∈ wait2 L (i : Nat)
          · rw [decide_eq_true hw]
            exact ⟨_, rfl, iteF ⟨rfl, rfl, hw⟩⟩
          · rw [decide_eq_false hw]
            exact ⟨_, rfl, iteT (no H4 nb (fun z => hw z.1) s4)⟩
        · rintro σ' H' ⟨rfl, e, hw⟩
          rw [e]
          clear e
          refine ⟨fun σ' H' => σ' = [some (.ref p), some (.int (i : Nat)), some nv, some (.ref q1), some (.ref D2), some (.ref q3), none] ∧ Same H4 H' ∧ UseOk L (i : Nat) n, ⟨_, rfl, p, CLm K, dx, _, _, rfl, X4.ob.at_, T.c_Loom, T.a_Loom_ordered, rfl, ?_⟩, ?_⟩
          · refine ⟨_, rfl, ?_⟩
            cases ho : L.ord with
            | false =>
              exact iteF (iteF ⟨rfl, Same.refl _, hw, fun z => by rw [ho] at z; cases z⟩)
            | true =>
              refine iteT ⟨_, rfl, D2, rfl, ⟨_, SqL.of eD2⟩, fun D3 hD3 => ?_⟩
              have nD3 : D2 ≠ D3 := ne_of_none eD2 hD3
              refine lc_list (K := K) (a := D2) (xs := xs2) (fun j G => ∃ xs, G = upd H4 D3 (.lst xs) ∧ Paired (NmAt H4) xs (((wait2 L (i : Nat)).take j).filter fun m => decide (m.1 = n.1))) ⟨[], rfl, .nil⟩ (fun j G _ e => ?_) (fun j x G hx e => ?_) (fun G e => ?_)
              · obtain ⟨xs, rfl, _⟩ := e
                exact SqL.of ((upd_ne nD3).trans eD2)
              · obtain ⟨xs, rfl, pr⟩ := e
                obtain ⟨m, hm2, xa, rfl, hxa⟩ := paired_at' pr2 hx
                obtain ⟨na, rfl, hna⟩ := id hn4
                have nxa : xa ≠ D3 := ne_of_none hxa hD3
                have nna : na ≠ D3 := ne_of_none hna hD3
                have hlen : xs.length < sizeLine := small6 (by
                  rw [paired_len pr]
                  have h1 := filter_len (fun m : Nm => decide (m.1 = n.1)) (wait2 L (i : Nat)) j
                  have h2 : (wait1 L (i : Nat)).length ≤ L.order.length := List.length_filter_le _ _
                  have h3 : (wait2 L (i : Nat)).length ≤ (wait1 L (i : Nat)).length := List.length_filter_le _ _
                  have := ok.order
                  omega)
                refine ⟨rfl, _, rfl, xa, _, _, _, rfl, rfl, SqT.of ((upd_ne nxa).trans hxa), rfl, _, rfl, na, _, _, _, rfl, rfl, SqT.of ((upd_ne nna).trans hna), rfl, rfl, _, rfl, ?_⟩
                rw [filter_snoc hm2]
                by_cases hh : m.1 = n.1
                · rw [decide_eq_true (show V.int m.1 = V.int n.1 from congrArg V.int hh), decide_eq_true hh]
                  exact iteT ⟨_, rfl, xs, upd_same, hlen, xs ++ [V.ref xa], upd_upd, paired_snoc ⟨xa, rfl, hxa⟩ pr⟩
                · rw [decide_eq_false (fun z : V.int m.1 = V.int n.1 => hh (V.int.inj z)), decide_eq_false hh]
                  refine iteF ⟨xs, rfl, ?_⟩
                  rw [if_neg (by simp), List.append_nil]
                  exact pr
              · obtain ⟨xs3, rfl, pr3⟩ := e
                rw [paired_len pr2, List.take_length] at pr3
                have s5 : Same H4 (upd H4 D3 (.lst xs3)) := same_upd hD3
                have pr3 : Paired (NmAt H4) xs3 (way L (i : Nat) n) := pr3
                have hin : n ∈ way L (i : Nat) n := List.mem_filter.mpr ⟨hw, decide_eq_true rfl⟩
                obtain ⟨m, hm0⟩ : ∃ m, (way L (i : Nat) n)[0]? = some m := by
                  cases q : way L (i : Nat) n with
                  | nil =>
                    rw [q] at hin
                    cases hin
                  | cons y r => exact ⟨y, rfl⟩
                obtain ⟨x0, hx0, hm0'⟩ := paired_at pr3 hm0
                refine ⟨D3, _, 0, x0, rfl, rfl, SqL.of upd_same, atI_nat (j := 0) hx0, _, rfl, nmD m, nmD n, nm_dp (hm0'.tk (tk_same s5)), nm_dp (hn4.tk (tk_same s5)), nmD_shaped m, nmD_shaped n, ?_⟩
                rw [nmD_eqv]
                by_cases hh : m = n
                · subst hh
                  rw [decide_eq_true rfl]
                  exact ⟨_, rfl, iteF ⟨rfl, s5, hw, fun _ => hm0⟩⟩
                · rw [decide_eq_false hh]
                  refine ⟨_, rfl, iteT (no _ nb (fun z => hh ?_) (s4.trans s5))⟩
                  have := z.2 ho
                  rw [hm0] at this
                  exact Option.some.inj this
          · rintro σ' H5 ⟨rfl, s45, hok⟩
            obtain ⟨wd, hlook⟩ := wait_to hw
            have s5 := s4.trans s45
            have wf5 : Wf ρ H5 := fun b e => wf b (s5.free e)
            have X5 := X.same wf s5
            have hn5 := hn.tk (tk_same s5)
            obtain ⟨na, rfl, hna⟩ := id hn5
            have eq15 : H5 q1 = some (.dT kvs) := s45 _ _ eq14
            have sk5 := sk4.tk (tk_same s45)
            obtain ⟨lv, lt, hv, hl, hla⟩ : ∃ v lt, valV kvs (nmK n) = some v ∧ lookS (sentAll 0 L.evss) n = some lt ∧ LtAt H5 v lt := by
              rcases sk5.look (n := n) with z | ⟨_, z⟩
              · exact z
              · rw [hlook] at z
                cases z
            rw [hlook] at hl
            cases hl
            obtain ⟨la, rfl, hla⟩ := hla
            have g5 : DGet H5 q1 (.ref na) (some (.ref la)) := by
              rw [← hv]
              exact DGet.t (k := nmK n) eq15 hna
            refine ⟨_, rfl, p, dx, _, rfl, X5.ob.at_, rfl, _, rfl, _, rfl, _, rfl, _, rfl, q1, _, rfl, g5, la, _, _, _, rfl, rfl, SqT.of hla, rfl, ρ, p, L, d, i, .ref na, some n, some wd, rfl, wf5, ⟨dx, f, tl, dl, ol, tas, dvs, ovs, X5⟩, ok, hi, hn5, fun ρ1 H6 st1 X6 => ?_⟩
            obtain ⟨dx1, f1, tl1, dl1, ol1, tas1, dvs1, ovs1, X1⟩ := X6
            obtain ⟨a1, t1, ha1, ht1, Y1⟩ := X1.at_ (i := i) (by rw [addEv_many]; exact hi)
            have eh : (L.addEv d i (some n) (some wd)).hereOf i = t1.here := by
              unfold Lm.hereOf
              rw [ht1]
            have hn6 : NmAt H6 (.ref na) n := hn5.tk st1.tk
            refine ⟨_, rfl, p, CLm K, dx1, _, _, rfl, X1.ob.at_, T.c_Loom, T.a_Loom_done, rfl, .inl ⟨rfl, _, SqL.of X1.don.at_⟩, _, rfl, _, rfl, (by show 3 ≤ sizeLine; decide), fun q hq => ?_⟩
            have s2 := Step.new0 (M := ML) (o := .tup [.str "use", .int (i : Nat), .ref na]) st1.wf hq
            have X2 := X1.new0 st1.wf (o := .tup [.str "use", .int (i : Nat), .ref na]) hq
            have Y2 := Y1.step s2 ML_fz
            obtain ⟨a2, t2, ha2, ht2, Y2⟩ := X2.at_ (i := i) (by rw [addEv_many]; exact hi)
            rw [ha1] at ha2
            cases ha2
            rw [ht1] at ht2
            cases ht2
            obtain ⟨dy, dl2, wl2, hb2, vs2, Z2⟩ := id Y2
            refine ⟨_, rfl, p, CLm K, dx1, _, _, rfl, X2.ob.at_, T.c_Loom, T.a_Loom_threads, rfl, _, rfl, tl1, _, _, _, rfl, rfl, SqL.of X2.tls.at_, atI_nat (j := i) (v := V.ref a1) (by rw [List.getElem?_map, ha1]; rfl), a1, dy, _, rfl, Z2.ob.at_, rfl, ρ1, i, a1, t1, rfl, Y2, (by show 2 ≤ sizeLine; decide), fun q2 hq2 => ?_⟩
            have s3 := s2.trans (Step.new0 (M := ML) (o := .tup [.ref q, .int t1.here]) s2.wf hq2)
            have X3 := X2.new0 s2.wf (o := .tup [.ref q, .int t1.here]) hq2
            have hq12 : q ≠ q2 := ne_of_none upd_same hq2
            obtain ⟨s4', X4'⟩ := X3.pushDone s3.wf (v := .ref q2) (r := (.use (i : Nat) n, t1.here)) ⟨.ref q, ⟨.ref na, hn6.tk s3.tk, ⟨q, rfl, (upd_ne hq12).trans upd_same⟩⟩, q2, rfl, upd_same⟩
            refine ⟨dl1, _, _, rfl, rfl, X3.don.at_, small6 ?_, k i wd ρ1 _ rfl hi hok hlook ((Step.same wf s5).trans (st1.trans (s3.trans s4'))) ⟨dx1, f1, tl1, dl1, ol1, tas1, dvs1 ++ [V.ref q2], ovs1, ?_⟩⟩
            · have := ok.done
              rw [paired_len X3.dn, addEv_done]
              omega
            · unfold Lm.doUse Lm.log
              rw [eh]
              exact X4'
end
end Bk
set_option Elab.async false
set_option linter.all false
set_option maxRecDepth 100000
set_option maxHeartbeats 4000000
/-! A new loom; a loom goes back to a line. -/
namespace Bk
open PySem PySem.Spec PyProof.Rows L2
section
variable {M N : Role → Prop} {ρ ρ1 ρ' : Rl} {H H0 G H' : Hp} {a b : Addr} {o o' : HO} {r : Role}
/-- what was not there at H0 is written -/
theorem Step.fresh (x : Step M ρ H0 ρ1 G) (e : H0 a = none) (t : G a ≠ none) : Step M ρ H0 ρ1 (upd G a o) where
  keep := fun b u q n => by
    rw [upd_ne (ne_of_none q e)]
    exact x.keep b u q n
  stab := fun b u q n => by
    rw [upd_ne (ne_of_none q e)]
    exact x.stab b u q n
  dom := fun b q => by
    by_cases hb : b = a
    · rw [hb]
      exact e
    · rw [upd_ne hb] at q
      exact x.dom b q
  ext := x.ext
  wf := fun b q => by
    by_cases hb : b = a
    · rw [hb, upd_same] at q
      cases q
    · rw [upd_ne hb] at q
      exact x.wf b q
def M0 : Role → Prop := fun r => r = .no
/-- a local object is written -/
theorem Step.loc (wf : Wf ρ H) (e : H a = some o) (m : ρ a = .no) (ns : ¬ Stb o) : Step M0 ρ H ρ (upd H a o') := Step.write wf e m ns
theorem M0_fz : ¬ M0 .fz := by intro z; cases z
theorem M0_ML : ∀ r, M0 r → r ≠ .fz ∧ ¬ ML r := by
  intro r e
  have e : r = .no := e
  subst e
  refine ⟨(by intro z; cases z), ?_⟩
  rintro (z | z | z | ⟨i, z | z | z⟩) <;> cases z
theorem M0_MT {i : Nat} : ∀ r, M0 r → ¬ MT i r := by
  intro r e
  have e : r = .no := e
  subst e
  rintro (z | z | z) <;> cases z
/-- nothing but a, that was not there at H0, is written -/
theorem Step.but (x : Step M ρ H0 ρ1 G) (e : H0 a = none) (t : But a G H') : Step M ρ H0 ρ1 H' where
  keep := fun b u q n => t.keep b u (x.keep b u q n) (ne_of_none q e)
  stab := fun b u q n => t.keep b u (x.stab b u q n) (ne_of_none q e)
  dom := fun b q => x.dom b (t.dom b q)
  ext := x.ext
  wf := fun b q => x.wf b (t.dom b q)
theorem ThrIs.loc {K : PySem.W.Frag} {i : Nat} {t : Thr} (x : ThrIs K ρ H i a t) (s : Step M0 ρ H ρ' H') : ThrIs K ρ' H' i a t := x.step s M0_fz (by intro z; cases z) (by intro z; cases z) (by intro z; cases z)
theorem ThrIs.non {K : PySem.W.Frag} {i : Nat} {t : Thr} (x : ThrIs K ρ H i a t) (s : Step No ρ H ρ' H') : ThrIs K ρ' H' i a t := x.step s (fun z => z) (fun z => z) (fun z => z) (fun z => z)
end
section
variable {K : PySem.W.Frag} {ρ ρ' : Rl} {H : Hp}
theorem Own.roles {a : Addr} {r : Role} {o : HO} (x : Own ρ H a r o) (n : r ≠ .no) (h : ∀ b, ρ b ≠ .no → ρ' b = ρ b) : Own ρ' H a r o := ⟨(h a (by rw [x.role]; exact n)).trans x.role, x.at_⟩
/-- what has no role is given one -/
theorem ThrIs.roles {i : Nat} {a : Addr} {t : Thr} (x : ThrIs K ρ H i a t) (h : ∀ b, ρ b ≠ .no → ρ' b = ρ b) : ThrIs K ρ' H i a t := by
  have nf : Role.fz ≠ .no := by intro z; cases z
  obtain ⟨dx, dl, wl, hb, vs, X⟩ := x
  refine ⟨dx, dl, wl, hb, vs, X.ob.roles (by intro z; cases z) h, ?_, X.don.roles (by intro z; cases z) h, Paired.imp X.evs ?_, X.wri.roles (by intro z; cases z) h⟩
  · have := X.hab
    cases q : t.hab with
    | never =>
      rw [q] at this
      obtain ⟨b, db, e, y⟩ := this
      exact ⟨b, db, e, y.roles nf h⟩
    | each =>
      rw [q] at this
      obtain ⟨b, db, e, y⟩ := this
      exact ⟨b, db, e, y.roles nf h⟩
    | bundle n =>
      rw [q] at this
      obtain ⟨b, db, e, y⟩ := this
      exact ⟨b, db, e, y.roles nf h⟩
  · rintro v e ⟨b, db, sl, sw, u, sv, rfl, h1, h2, h3, h4, h5⟩
    exact ⟨b, db, sl, sw, u, sv, rfl, h1.roles nf h, h2, h3.roles nf h, h4, h5.roles nf h⟩
theorem rset_no {b : Addr} {r : Role} (h : ρ b = .no) : ∀ c, ρ c ≠ .no → rset ρ b r c = ρ c := fun c n => rset_ne fun z => n (by rw [z]; exact h)
end
def Thr.new (st : Int) (hb : Hab) : Thr := ⟨st, hb, [], [0], 0⟩
def Lm.new (o : Bool) (sts : List Int) (hbs : List Hab) : Lm := ⟨sts.length, o, (sts.zip hbs).map fun z => Thr.new z.1 z.2, [], []⟩
def sp_LoomInit (K : PySem.W.Frag) : Sp := fun vs H Q _ => ∃ (ρ0 ρ : Rl) (H0 : Hp) (x dx f sl hl : Addr) (o : Bool) (sts : List Int) (hvs : List V) (hbs : List Hab) (d : DP), vs = [.ref x, .ref f, .ref sl, .ref hl, .bl o] ∧ H x = some (.ins (CLm K) dx []) ∧ H0 x = none ∧
  Step No ρ0 H0 ρ H ∧ ρ x = .no ∧ CloAt ρ0 H0 f d ∧ d.many = (sts.length : Nat) ∧ H sl = some (.lst (sts.map V.int)) ∧ H hl = some (.lst hvs) ∧ H0 sl ≠ none ∧ H0 hl ≠ none ∧ Paired (HabAt K ρ H) hvs hbs ∧ hbs.length = sts.length ∧ sts.length ≤ 5 ∧
  ∀ (ρ' : Rl) (H' : Hp), Step No ρ0 H0 ρ' H' → LmIs K ρ' H' x (Lm.new o sts hbs) d → Q .non H'
section
variable {P : Program} {w : World} {K : PySem.W.Frag} {mg : Str → Option Value} {base : Heap}
theorem scLoomInit : FnScope ["self", "does", "starts", "habits", "ordered", "start", "habit"] ["self", "does", "starts", "habits", "ordered"] (defScope sLoomInit) := ⟨rfl, rfl, rfl, by decide +kernel, rfl, by decide +kernel, by decide +kernel⟩
set_option maxHeartbeats 8000000 in
theorem ok_LoomInit (T : Txt K mg) : OK P w K mg base CX0 3 ("Loom", some "__init__") ["self", "does", "starts", "habits", "ordered"] (sp_LoomInit K) := by
  obtain ⟨fdThreadInit, GThreadInit, bThreadInit, kThreadInit⟩ := (ok_ThreadInit (P := P) (w := w) (base := base) T).ex
  refine OK.mk0 T.f_LoomInit scLoomInit (fun _ _ _ _ _ _ us hl => match us, hl with | [_, _, _, _, _], _ => rfl) (fun vs H Q E h => ?_) (fun cdv A outer s H vs Q E hr h => ?_)
  · obtain ⟨ρ0, ρ, H0, x, dx, f, sl, hl, o, sts, hvs, hbs, d, rfl, _⟩ := h
    rfl
  · obtain ⟨ρ0, ρ, H0, x, dx, f, sl, hl, o, sts, hvs, hbs, d, rfl, hx, hx0, s0, rx, clo, hmany, hsl, hhl, nsl, nhl, hab, hlb, h5, k⟩ := h
    have nslx : sl ≠ x := fun z => nsl (by rw [z]; exact hx0)
    have nhlx : hl ≠ x := fun z => nhl (by rw [z]; exact hx0)
    have lhv : hvs.length = hbs.length := paired_len hab
    refine ⟨_, (pss_cons (ps_fld (pv 0) (pv 1) rfl)
      (pss_cons (ps_fld (pv 0) (pe_callB call_len_seq (by rfl) T.n_len PySem.boot_len (pa_cons (pv 2) pa_nil)) rfl)
      (pss_cons (ps_fld (pv 0) (pv 4) rfl)
      (pss_cons (ps_fld (pv 0) (pe_lc (own := [("start", 5), ("habit", 6)]) rfl scLoomInit.nd (pi_zip rfl T.n_zip (pa_cons (pv 2) (pa_cons (pv 3) pa_nil))) (blkOk_by (N := ["self", "does", "starts", "habits", "ordered", "start", "habit"]) (sc := defScope sLoomInit) (by decide +kernel)) (fun _ _ _ _ _ => (pg_tupK (K := K) (n := 2) rfl rfl (pgs_cons (pg_name (i := 5) scLoomInit.nd rfl (Or.inl rfl) (Or.inr rfl)) (pgs_cons (pg_name (i := 6) scLoomInit.nd rfl (Or.inl rfl) (Or.inr rfl)) pgs_nil)))) (fun _ _ _ _ _ => pts_nil) (fun _ _ _ _ _ => (pe_make T.k_Thread GThreadInit (hr.mono (by decide)) rfl T.g_Thread bThreadInit .nil pass0 (pa_cons (pv 5) (pa_cons (pv 6) pa_nil))))) rfl)
      (pss_cons (ps_fld (pv 0) (pe_lst pa_nil) rfl)
      (pss_one (ps_fld (pv 0) (pe_lst pa_nil) rfl))))))), ?_⟩
    refine ⟨_, rfl, _, rfl, x, CLm K, dx, [], rfl, hx, T.c_Loom, T.a_Loom_does, (by show 0 < 1000; decide), ?_⟩
    have s1 := Step.loc (o' := .ins (CLm K) dx (putF "does" (.ref f) [])) s0.wf hx rx (fun z => z)
    have r1 := s0.fresh (o := .ins (CLm K) dx (putF "does" (.ref f) [])) hx0 (by rw [hx]; simp)
    refine ⟨_, rfl, sl, _, rfl, .inl (SqL.of ((upd_ne nslx).trans hsl)), _, rfl, x, CLm K, dx, _, rfl, upd_same, T.c_Loom, T.a_Loom_many, (by show 1 < 1000; decide), ?_⟩
    refine ⟨_, rfl, _, rfl, x, CLm K, dx, _, rfl, upd_same, T.c_Loom, T.a_Loom_ordered, (by show 2 < 1000; decide), ?_⟩
    rw [upd_upd, upd_upd]
    rw [List.length_map]
    obtain ⟨F3, eF3⟩ : ∃ F3, F3 = putF "ordered" (.bl o) (putF "many" (.int ((sts.length : Nat) : Int)) (putF "does" (.ref f) [])) := ⟨_, rfl⟩
    rw [← eF3]
    obtain ⟨H1, eH1⟩ : ∃ H1, H1 = upd H x (.ins (CLm K) dx F3) := ⟨_, rfl⟩
    rw [← eH1]
    have s1 : Step M0 ρ H ρ H1 := by
      rw [eH1]
      exact Step.loc s0.wf hx rx (fun z => z)
    have r1 : Step No ρ0 H0 ρ H1 := by
      rw [eH1]
      exact s0.fresh hx0 (by rw [hx]; simp)
    have ex1 : H1 x = some (.ins (CLm K) dx F3) := by rw [eH1, upd_same]
    have esl : H1 sl = some (.lst (sts.map V.int)) := by rw [eH1, upd_ne nslx]; exact hsl
    have ehl : H1 hl = some (.lst hvs) := by rw [eH1, upd_ne nhlx]; exact hhl
    have hab1 : Paired (HabAt K ρ H1) hvs hbs := Paired.imp hab fun _ _ z => z.step s1 M0_fz
    clear s1 eH1
    have keep0 : ∀ {b : Addr} {u : HO}, H0 b ≠ none → H1 b = some u → H0 b = some u := fun {b u} h1 h2 => by
      cases q : H0 b with
      | none => exact absurd q h1
      | some v =>
        have := r1.keep b v q (fun z => z)
        rw [h2] at this
        rw [this]
    refine ⟨_, rfl, _, rfl, sl, hl, _, _, rfl, SqL.of esl, SqL.of ehl, fun D hD => ?_⟩
    have hD0 := r1.dom _ hD
    have rD : ρ D = .no := r1.wf _ hD
    have nxD : x ≠ D := ne_of_none ex1 hD
    obtain ⟨thrs, eth⟩ : ∃ thrs, thrs = (sts.zip hbs).map fun z => Thr.new z.1 z.2 := ⟨_, rfl⟩
    refine lc_it (walk_zip (K := K) (a := sl) (b := hl) (xs := sts.map V.int) (ys := hvs) (n := sts.length) (by rw [List.length_map]; omega)) (fun j G => ∃ (ρj : Rl) (tas : List Addr), Step No ρ0 H0 ρj G ∧ Step M0 ρ H1 ρj G ∧ G D = some (.lst (tas.map V.ref)) ∧ tas.length = j ∧ G x = some (.ins (CLm K) dx F3) ∧ ρj D = .no ∧ ∀ (i : Nat) (a : Addr) (t : Thr), tas[i]? = some a → thrs[i]? = some t → ThrIs K ρj G i a t)
      ⟨ρ, [], r1.trans (Step.new0 r1.wf hD), Step.new0 r1.wf hD, upd_same, rfl, (upd_ne nxD).trans ex1, rD, fun i a t h => by simp at h⟩ (fun j G _ e => ?_) (fun j y G G1 hj e hy => ?_) (fun G e => ?_)
    · obtain ⟨ρj, tas, sg, _⟩ := e
      exact ⟨SqL.of (sg.keep _ _ (keep0 nsl esl) (fun z => z)), SqL.of (sg.keep _ _ (keep0 nhl ehl) (fun z => z))⟩
    · obtain ⟨ρj, tas, sg, sm, eD, elen, ex, rDj, hth⟩ := e
      obtain ⟨T1, x1, y1, rfl, hT1, rfl, hx1, hy1⟩ := hy
      obtain ⟨st, hst, rfl⟩ := ints_at hx1
      obtain ⟨hb, hhb, hH⟩ := paired_at' hab1 hy1
      have hH := hH.step sm M0_fz
      refine ⟨T1, _, rfl, SqT.of upd_same, rfl, _, _, rfl, _, _, rfl, rfl, rfl, _, rfl, _, rfl, fun z ez hz hez nez => ?_⟩
      have t1 : Step No ρj G ρj (upd G T1 (.tup [.int st, y1])) := Step.new0 sg.wf hT1
      have t2 := t1.trans (Step.new0 (M := No) (o := .own z) t1.wf hez)
      have t3 := t2.trans (Step.new0 (M := No) (o := .ins (CTh K) ez []) t2.wf ((upd_ne nez.symm).trans hz))
      refine ⟨z, ez, st, y1, rfl, upd_same, fun dd rr H' hdd hrr ndr bt e1 e2 e3 => ⟨rfl, ?_⟩⟩
      have hz0 : G z = none := t1.dom _ hz
      have hd0 : G dd = none := t3.dom _ hdd
      have hr0 : G rr = none := t3.dom _ hrr
      have nzd : z ≠ dd := ne_of_none upd_same hdd
      have nzr : z ≠ rr := ne_of_none upd_same hrr
      have sj : Step No ρj G (rset (rset (rset ρj z (.th j)) dd (.td j)) rr (.tw j)) H' := (((t3.but hz0 bt).role hz0 (by rw [e1]; simp) _).role hd0 (by rw [e2]; simp) _).role hr0 (by rw [e3]; simp) _
      obtain ⟨ρ', eρ⟩ : ∃ ρ', ρ' = rset (rset (rset ρj z (.th j)) dd (.td j)) rr (.tw j) := ⟨_, rfl⟩
      have rz : ρ' z = .th j := by rw [eρ, rset_ne nzr, rset_ne nzd, rset_same]
      have rdd : ρ' dd = .td j := by rw [eρ, rset_ne ndr, rset_same]
      have rrr : ρ' rr = .tw j := by rw [eρ, rset_same]
      rw [← eρ] at sj
      have hD' : H' D = some (.lst (tas.map V.ref)) := sj.keep _ _ eD (fun z => z)
      have rD' : ρ' D = .no := (sj.ext D (by rw [eD]; simp)).trans rDj
      have hth' : ∀ (i : Nat) (a : Addr) (t : Thr), (tas ++ [z])[i]? = some a → thrs[i]? = some t → ThrIs K ρ' H' i a t := fun i a t h1 h2 => by
        by_cases hi : i < tas.length
        · rw [List.getElem?_append_left hi] at h1
          exact (hth i a t h1 h2).non sj
        · have : i = tas.length := by
            have := (List.getElem?_eq_some_iff.mp h1).1
            rw [List.length_append] at this
            simp at this
            omega
          subst this
          rw [List.getElem?_concat_length] at h1
          cases h1
          rw [elen] at h2 ⊢
          have e : thrs[j]? = some (Thr.new st hb) := by
            have ezp : (sts.zip hbs)[j]? = some (st, hb) := List.getElem?_zip_eq_some.mpr ⟨hst, hhb⟩
            rw [eth, List.getElem?_map, ezp]
            rfl
          rw [e] at h2
          cases h2
          exact ⟨ez, dd, rr, y1, [], ⟨rz, e1⟩, hH.step sj (fun z => z), ⟨rdd, e2⟩, .nil, ⟨rrr, e3⟩⟩
      have sl := Step.loc (o' := .lst (tas.map V.ref ++ [.ref z])) sj.wf hD' rD' (fun z => z)
      refine ⟨_, hD', small6 ?_, ρ', tas ++ [z], (sg.trans sj).fresh hD0 (by rw [hD']; simp), (sm.trans (sj.mono fun _ z => z.elim)).trans sl, ?_, ?_, ?_, rD', fun i a t h1 h2 => (hth' i a t h1 h2).loc sl⟩
      · rw [List.length_map, elen]
        omega
      · rw [upd_same, List.map_append]
        rfl
      · rw [List.length_append, elen]
        rfl
      · rw [upd_ne nxD]
        exact sj.keep _ _ ex (fun z => z)
    · obtain ⟨ρ1, tas, sg, sm, eD, elen, ex, rDj, hth⟩ := e
      have rx1 : ρ1 x = .no := (sm.ext x (by rw [ex1]; simp)).trans rx
      refine ⟨_, rfl, x, CLm K, dx, _, rfl, ex, T.c_Loom, T.a_Loom_threads, (by rw [eF3]; show 3 < 1000; decide), ?_⟩
      obtain ⟨F4, eF4⟩ : ∃ F4, F4 = putF "threads" (.ref D) F3 := ⟨_, rfl⟩
      rw [← eF4]
      have m1 := Step.loc (o' := .ins (CLm K) dx F4) sg.wf ex rx1 (fun z => z)
      have g1 := sg.fresh (o := .ins (CLm K) dx F4) hx0 (by rw [ex]; simp)
      refine ⟨Nat.zero_le _, fun dl hdl => ?_⟩
      have m2 := m1.trans (Step.new0 (M := M0) (o := .lst []) m1.wf hdl)
      have g2 := g1.trans (Step.new0 (M := No) (o := .lst []) g1.wf hdl)
      have nxl : x ≠ dl := ne_of_none upd_same hdl
      have nDl : D ≠ dl := ne_of_none ((upd_ne nxD.symm).trans eD) hdl
      refine ⟨_, rfl, x, CLm K, dx, _, rfl, (upd_ne nxl).trans upd_same, T.c_Loom, T.a_Loom_done, (by rw [eF4, eF3]; show 4 < 1000; decide), ?_⟩
      obtain ⟨F5, eF5⟩ : ∃ F5, F5 = putF "done" (.ref dl) F4 := ⟨_, rfl⟩
      rw [← eF5]
      have ex2 : upd (upd G x (.ins (CLm K) dx F4)) dl (.lst []) x = some (.ins (CLm K) dx F4) := (upd_ne nxl).trans upd_same
      have m3 := m2.trans (Step.loc (o' := .ins (CLm K) dx F5) m2.wf ex2 rx1 (fun z => z))
      have g3 := g2.fresh (o := .ins (CLm K) dx F5) hx0 (by rw [ex2]; simp)
      refine ⟨Nat.zero_le _, fun ol hol => ?_⟩
      have m4 := m3.trans (Step.new0 (M := M0) (o := .lst []) m3.wf hol)
      have g4 := g3.trans (Step.new0 (M := No) (o := .lst []) g3.wf hol)
      have nxo : x ≠ ol := ne_of_none upd_same hol
      have nlo : dl ≠ ol := ne_of_none ((upd_ne nxl.symm).trans upd_same) hol
      have nDo : D ≠ ol := ne_of_none ((upd_ne nxD.symm).trans ((upd_ne nDl).trans ((upd_ne nxD.symm).trans eD))) hol
      refine ⟨_, rfl, x, CLm K, dx, _, rfl, (upd_ne nxo).trans upd_same, T.c_Loom, T.a_Loom_order, (by rw [eF5, eF4, eF3]; show 5 < 1000; decide), ?_⟩
      have ex3 := Eq.trans (upd_ne (H := upd (upd (upd G x (.ins (CLm K) dx F4)) dl (.lst [])) x (.ins (CLm K) dx F5)) (o := .lst []) nxo) upd_same
      obtain ⟨Hf, eHf⟩ : ∃ Hf, Hf = upd (upd (upd (upd (upd G x (.ins (CLm K) dx F4)) dl (.lst [])) x (.ins (CLm K) dx F5)) ol (.lst [])) x (.ins (CLm K) dx (putF "order" (.ref ol) F5)) := ⟨_, rfl⟩
      have m5 : Step M0 ρ1 G ρ1 Hf := by
        rw [eHf]
        exact m4.trans (Step.loc m4.wf ex3 rx1 (fun z => z))
      have g5 : Step No ρ0 H0 ρ1 Hf := by
        rw [eHf]
        exact g4.fresh hx0 (by rw [ex3]; simp)
      rw [← eHf]
      have fD : Hf D = some (.lst (tas.map V.ref)) := by rw [eHf, upd_ne nxD.symm, upd_ne nDo, upd_ne nxD.symm, upd_ne nDl, upd_ne nxD.symm, eD]
      have fx : Hf x = some (.ins (CLm K) dx (putF "order" (.ref ol) F5)) := by rw [eHf, upd_same]
      have fl : Hf dl = some (.lst []) := by rw [eHf, upd_ne nxl.symm, upd_ne nlo, upd_ne nxl.symm, upd_same]
      have fo : Hf ol = some (.lst []) := by rw [eHf, upd_ne nxo.symm, upd_same]
      have rl1 : ρ1 dl = .no := m1.wf _ hdl
      have ro1 : ρ1 ol = .no := m3.wf _ hol
      have hl0 : H0 dl = none := g1.dom _ hdl
      have ho0 : H0 ol = none := g3.dom _ hol
      have gR : Step No ρ0 H0 (rset (rset (rset (rset ρ1 D .fz) x .lo) dl .ld) ol .lor) Hf := (((g5.role hD0 (by rw [fD]; simp) _).role hx0 (by rw [fx]; simp) _).role hl0 (by rw [fl]; simp) _).role ho0 (by rw [fo]; simp) _
      have hr' : ∀ b, ρ1 b ≠ .no → rset (rset (rset (rset ρ1 D .fz) x .lo) dl .ld) ol .lor b = ρ1 b := fun b n => by
        rw [rset_ne fun z => n (by rw [z]; exact ro1), rset_ne fun z => n (by rw [z]; exact rl1), rset_ne fun z => n (by rw [z]; exact rx1), rset_ne fun z => n (by rw [z]; exact rDj)]
      refine k _ Hf gR ⟨dx, f, D, dl, ol, tas, [], [], ⟨⟨?_, ?_⟩, clo.step gR (fun z => z), hmany, ⟨?_, fD⟩, elen, ?_, fun i a t h1 h2 => ?_, ⟨?_, fl⟩, .nil, ⟨rset_same, fo⟩, .nil⟩⟩
      · rw [rset_ne nxo, rset_ne nxl, rset_same]
      · rw [fx, eF5, eF4, eF3]
        rfl
      · rw [rset_ne nDo, rset_ne nDl, rset_ne nxD.symm, rset_same]
      · show ((sts.zip hbs).map _).length = sts.length
        rw [List.length_map, List.length_zip]
        omega
      · rw [eth] at hth
        exact ((hth i a t h1 h2).loc m5).roles hr'
      · rw [rset_ne nlo, rset_same]
end
end Bk
set_option Elab.async false
set_option linter.all false
set_option maxRecDepth 100000
set_option maxHeartbeats 4000000
/-! All hands go back to a line. -/
namespace Bk
open PySem PySem.Spec PyProof.Rows L2
def Row.hand : Row → Int
  | .own h => h
  | .use h _ => h
  | .write h => h
def lineAt (line : List Int) (h : Int) : Int := line.getD h.toNat 0
def Lm.cutN (L : Lm) (line fallen : List Int) (j : Nat) : List Thr := L.thr.mapIdx fun i t => if i < j then t.cut (line.getD i 0) (!decide (((i : Nat) : Int) ∈ fallen)) else t
def keepD (line : List Int) (r : Row × Int) : Bool := decide (r.2 ≤ lineAt line r.1.hand)
def keepO (line : List Int) (n : Nm) : Bool := decide (n.2.1 ≤ lineAt line n.1)
def Lm.goTo (L : Lm) (line fallen : List Int) : Lm := { L with thr := L.cutN line fallen L.many, done := L.done.filter (keepD line), order := L.order.filter (keepO line) }
/-- the line may be had, and all rows and names are of hands -/
structure Lm.LineOk (L : Lm) (line fallen : List Int) : Prop where
  len : line.length = L.many
  cut : ∀ (i : Nat) (t : Thr), L.thr[i]? = some t → t.CutOk (line.getD i 0) (!decide (((i : Nat) : Int) ∈ fallen))
  rows : ∀ r ∈ L.done, ∃ i : Nat, r.1.hand = (i : Nat) ∧ i < L.many
  ord : ∀ n ∈ L.order, ∃ i : Nat, n.1 = (i : Nat) ∧ i < L.many
def sp_LoomGoto (K : PySem.W.Frag) : Sp := fun vs H Q _ => ∃ (ρ : Rl) (p ll fl : Addr) (L : Lm) (d : DP) (line fallen : List Int), vs = [.ref p, .ref ll, .ref fl] ∧ Wf ρ H ∧ LmIs K ρ H p L d ∧ L.many ≤ 5 ∧ L.Ok 50 ∧ L.LineOk line fallen ∧
  H ll = some (.lst (line.map V.int)) ∧ ¬ ML (ρ ll) ∧ H fl = some (.lst (fallen.map V.int)) ∧ ¬ ML (ρ fl) ∧
  ∀ (ρ' : Rl) (H' : Hp), Step ML ρ H ρ' H' → LmIs K ρ' H' p (L.goTo line fallen) d → Q .non H'
section
variable {K : PySem.W.Frag} {ρ ρ' : Rl} {H H' : Hp} {p dx f tl dl ol : Addr} {L : Lm} {d : DP} {tas : List Addr} {dvs ovs : List V}
theorem LmAt.setDone (x : LmAt K ρ H p L d dx f tl dl ol tas dvs ovs) (wf : Wf ρ H) {D : Addr} {rv : List V} {ds : List (Row × Int)} (hD : Own ρ H D .ld (.lst rv)) (pr : Paired (DoneAt H) rv ds) :
    Step ML ρ H ρ (upd H p (.ins (CLm K) dx (lmF (.ref f) (.int (L.many : Nat)) (.bl L.ord) (.ref tl) (.ref D) (.ref ol)))) ∧ LmAt K ρ (upd H p (.ins (CLm K) dx (lmF (.ref f) (.int (L.many : Nat)) (.bl L.ord) (.ref tl) (.ref D) (.ref ol)))) p { L with done := ds } d dx f tl D ol tas rv ovs := by
  have s : Step (fun r => r = .lo) ρ H ρ (upd H p (.ins (CLm K) dx (lmF (.ref f) (.int (L.many : Nat)) (.bl L.ord) (.ref tl) (.ref D) (.ref ol)))) := Step.write wf x.ob.at_ x.ob.role fun z => z
  exact ⟨s.mono fun r e => .inl e, ⟨x.ob.role, upd_same⟩, x.clo.step s (by intro z; cases z), x.many, x.tls.step s (by intro z; cases z), x.len, x.tlen, fun i a t h1 h2 => (x.thr i a t h1 h2).step s (by intro z; cases z) (by intro z; cases z) (by intro z; cases z) (by intro z; cases z),
    hD.step s (by intro z; cases z), Paired.imp pr fun _ _ z => z.tk s.tk, x.odr.step s (by intro z; cases z), Paired.tkN x.od s.tk⟩
theorem LmAt.setOrder (x : LmAt K ρ H p L d dx f tl dl ol tas dvs ovs) (wf : Wf ρ H) {D : Addr} {rv : List V} {ds : List Nm} (hD : Own ρ H D .lor (.lst rv)) (pr : Paired (NmAt H) rv ds) :
    Step ML ρ H ρ (upd H p (.ins (CLm K) dx (lmF (.ref f) (.int (L.many : Nat)) (.bl L.ord) (.ref tl) (.ref dl) (.ref D)))) ∧ LmAt K ρ (upd H p (.ins (CLm K) dx (lmF (.ref f) (.int (L.many : Nat)) (.bl L.ord) (.ref tl) (.ref dl) (.ref D)))) p { L with order := ds } d dx f tl dl D tas dvs rv := by
  have s : Step (fun r => r = .lo) ρ H ρ (upd H p (.ins (CLm K) dx (lmF (.ref f) (.int (L.many : Nat)) (.bl L.ord) (.ref tl) (.ref dl) (.ref D)))) := Step.write wf x.ob.at_ x.ob.role fun z => z
  exact ⟨s.mono fun r e => .inl e, ⟨x.ob.role, upd_same⟩, x.clo.step s (by intro z; cases z), x.many, x.tls.step s (by intro z; cases z), x.len, x.tlen, fun i a t h1 h2 => (x.thr i a t h1 h2).step s (by intro z; cases z) (by intro z; cases z) (by intro z; cases z) (by intro z; cases z),
    x.don.step s (by intro z; cases z), Paired.imp x.dn fun _ _ z => z.tk s.tk, hD.step s (by intro z; cases z), Paired.tkN pr s.tk⟩
theorem row_hand {v : V} : ∀ {r : Row}, RowAt H v r → ∃ (a : Addr) (xs : List V), v = .ref a ∧ H a = some (.tup xs) ∧ atI xs 1 = some (.int r.hand)
  | .own h, ⟨a, e, h1⟩ => ⟨a, _, e, h1, rfl⟩
  | .use h n, ⟨nv, _, a, e, h1⟩ => ⟨a, _, e, h1, rfl⟩
  | .write h, ⟨a, e, h1⟩ => ⟨a, _, e, h1, rfl⟩
theorem cutN_set {line fallen : List Int} {j : Nat} {t : Thr} (h : L.thr[j]? = some t) : (L.cutN line fallen j).set j (t.cut (line.getD j 0) (!decide (((j : Nat) : Int) ∈ fallen))) = L.cutN line fallen (j + 1) := by
  apply List.ext_getElem?
  intro i
  unfold Lm.cutN
  rw [List.getElem?_set, List.length_mapIdx]
  have hj := (List.getElem?_eq_some_iff.mp h).1
  by_cases e : j = i
  · subst e
    rw [if_pos rfl, if_pos hj, List.getElem?_mapIdx, h]
    show _ = some (if j < j + 1 then _ else _)
    rw [if_pos (Nat.lt_succ_self j)]
  · rw [if_neg e, List.getElem?_mapIdx, List.getElem?_mapIdx]
    congr 1
    funext u
    by_cases q : i < j
    · rw [if_pos q, if_pos (by omega)]
    · rw [if_neg q, if_neg (by omega)]
theorem cutN_at {line fallen : List Int} {j : Nat} {t : Thr} (h : L.thr[j]? = some t) : (L.cutN line fallen j)[j]? = some t := by
  unfold Lm.cutN
  rw [List.getElem?_mapIdx, h]
  show some (if j < j then _ else _) = _
  rw [if_neg (Nat.lt_irrefl j)]
theorem cutN_zero {line fallen : List Int} : L.cutN line fallen 0 = L.thr := by
  apply List.ext_getElem?
  intro i
  unfold Lm.cutN
  rw [List.getElem?_mapIdx]
  cases L.thr[i]? with
  | none => rfl
  | some t => rfl
end
section
variable {P : Program} {w : World} {K : PySem.W.Frag} {mg : Str → Option Value} {base : Heap}
theorem scLoomGoto : FnScope ["self", "line", "fallen", "hand", "row", "place", "name"] ["self", "line", "fallen"] (defScope sLoomGoto) := ⟨rfl, rfl, rfl, by decide +kernel, rfl, by decide +kernel, by decide +kernel⟩
set_option maxHeartbeats 8000000 in
theorem ok_LoomGoto (T : Txt K mg) : OK P w K mg base CX0 4 ("Loom", some "go_to") ["self", "line", "fallen"] (sp_LoomGoto K) := by
  obtain ⟨fdThreadCut, GThreadCut, bThreadCut, kThreadCut⟩ := (ok_ThreadCut (P := P) (w := w) (base := base) T).ex
  refine OK.mk0 T.f_LoomGoto scLoomGoto (fun _ _ _ _ _ _ us hl => match us, hl with | [_, _, _], _ => rfl) (fun vs H Q E h => ?_) (fun cdv A outer s H vs Q E hr h => ?_)
  · obtain ⟨ρ, p, ll, fl, L, d, line, fallen, rfl, _⟩ := h
    rfl
  · obtain ⟨ρ, p, ll, fl, L, d, line, fallen, rfl, wf, ⟨dx, f, tl, dl, ol, tas, dvs, ovs, X⟩, hm, ok, lok, hll, rll, hfl, rfl_, k⟩ := h
    refine ⟨_, (pss_cons (ps_for PassesOwn.never rfl (pi_range1 rfl T.n_range (pa_cons (pe_fld (pv 0) rfl) pa_nil)) (pg_name (i := 3) scLoomGoto.nd rfl (Or.inl rfl)) (pss_one (ps_expr (pe_meth (pe_ix ix_list (pe_fld (pv 0) rfl) (pv 3) (fun _ _ => rfl)) T.c_Thread T.m_Thread_cut GThreadCut (hr.mono (by decide)) bThreadCut .nil pass0 (pa_cons (pe_ix ix_list (pv 1) (pv 3) (fun _ _ => rfl)) (pa_cons (pe_cmpR op_notIn_seq (pv 3) (pv 2) (by with_unfolding_all rfl)) pa_nil))))))
      (pss_cons (ps_fld (pv 0) (pe_lc (own := [("row", 4), ("place", 5)]) rfl scLoomGoto.nd (pi_list (pe_fld (pv 0) rfl)) (blkOk_by (N := ["self", "line", "fallen", "hand", "row", "place", "name"]) (sc := defScope sLoomGoto) (by decide +kernel)) (fun _ _ _ _ _ => (pg_tupK (K := K) (n := 2) rfl rfl (pgs_cons (pg_name (i := 4) scLoomGoto.nd rfl (Or.inl rfl) (Or.inr rfl)) (pgs_cons (pg_name (i := 5) scLoomGoto.nd rfl (Or.inl rfl) (Or.inr rfl)) pgs_nil)))) (fun _ _ _ _ _ => (pts_one (pt_cmpR op_le (pv 5) (pe_ix (ix_listK (K := K) rfl) (pv 1) (pe_ix (ix_tupK (K := K) rfl) (pv 4) pe_int (fun _ _ => rfl)) (fun _ _ => rfl)) (nomark _)))) (fun _ _ _ _ _ => (pe_tup (pa_cons (pv 4) (pa_cons (pv 5) pa_nil))))) rfl)
      (pss_one (ps_fld (pv 0) (pe_lc (own := [("name", 6)]) rfl scLoomGoto.nd (pi_list (pe_fld (pv 0) rfl)) (blkOk_by (N := ["self", "line", "fallen", "hand", "row", "place", "name"]) (sc := defScope sLoomGoto) (by decide +kernel)) (fun _ _ _ _ _ => (pg_name (i := 6) scLoomGoto.nd rfl (Or.inl rfl) (Or.inr rfl))) (fun _ _ _ _ _ => (pts_one (pt_cmpR op_le (pe_ix (ix_tupK (K := K) rfl) (pv 6) pe_int (fun _ _ => rfl)) (pe_ix (ix_listK (K := K) rfl) (pv 1) (pe_ix (ix_tupK (K := K) rfl) (pv 6) pe_int (fun _ _ => rfl)) (fun _ _ => rfl)) (nomark _)))) (fun _ _ _ _ _ => (pv 6))) rfl)))), ?_⟩
    refine ⟨_, rfl, p, CLm K, dx, _, _, rfl, X.ob.at_, T.c_Loom, T.a_Loom_many, rfl, _, rfl, by omega, by omega, ?_⟩
    refine for_range (lo := 0) (n := ((L.many : Nat) : Int).toNat) (fun j σ G => ∃ (ρj : Rl) (v3 : Option V), σ = [some (.ref p), some (.ref ll), some (.ref fl), v3, none, none, none] ∧ Step ML ρ H ρj G ∧ LmAt K ρj G p { L with thr := L.cutN line fallen j } d dx f tl dl ol tas dvs ovs)
      ⟨ρ, none, rfl, Step.refl wf, by rw [cutN_zero]; exact X⟩ (fun j σ G hj hw => ?_) fun σ H1 hw => ?_
    · obtain ⟨ρj, v3, rfl, sj, Xj⟩ := hw
      have hj' : j < L.many := by omega
      obtain ⟨a, t0, ha, ht0, _⟩ := X.at_ hj'
      have Y := Xj.thr j a t0 ha (cutN_at ht0)
      obtain ⟨dy, dl2, wl2, hb2, vs2, Z⟩ := id Y
      have hat : atI (tas.map V.ref) (0 + (j : Nat) : Int) = some (.ref a) := by
        rw [Int.zero_add]
        exact atI_nat (by rw [List.getElem?_map, ha]; rfl)
      have hlj : j < line.length := by rw [lok.len]; exact hj'
      have hli : atI (line.map V.int) (0 + (j : Nat) : Int) = some (.int (line.getD j 0)) := by
        rw [Int.zero_add]
        refine atI_nat ?_
        rw [List.getElem?_map, List.getD_eq_getElem?_getD, List.getElem?_eq_getElem hlj]
        rfl
      have tok := ok.thr t0 (List.mem_of_getElem? ht0)
      have tok : t0.Ok 100 := ⟨tok.hd, tok.rg, tok.pl, Nat.le_trans tok.ln (by omega), Nat.le_trans tok.lw (by omega), tok.sn⟩
      refine ⟨_, rfl, p, CLm K, dx, _, _, rfl, Xj.ob.at_, T.c_Loom, T.a_Loom_threads, rfl, _, rfl, tl, _, _, _, rfl, rfl, SqL.of Xj.tls.at_, hat, a, dy, _, rfl, Z.ob.at_, rfl, ?_⟩
      refine ⟨_, rfl, _, rfl, ll, _, _, _, rfl, rfl, SqL.of (sj.keep _ _ hll rll), hli, _, rfl, _, rfl, fl, _, rfl, .inl (SqL.of (sj.keep _ _ hfl rfl_)), rfl, flat_ints _, ?_⟩
      rw [inV_ints, Int.zero_add]
      refine ⟨ρj, j, a, t0, _, _, rfl, sj.wf, Y, tok, lok.cut j t0 ht0, fun ρ2 G2 s2 Y2 => ?_⟩
      refine ⟨ρ2, _, rfl, sj.trans (s2.mono MT_ML), ?_⟩
      have := Xj.thread ha s2 Y2
      rw [show ({ L with thr := L.cutN line fallen (j + 1) } : Lm) = { L with thr := (L.cutN line fallen j).set j (t0.cut (line.getD j 0) (!decide (((j : Nat) : Int) ∈ fallen))) } by rw [cutN_set ht0]]
      exact this
    · obtain ⟨ρ1, v3, rfl, s1, X1⟩ := hw
      have hll1 := s1.keep _ _ hll rll
      have rll1 : ¬ ML (ρ1 ll) := by rw [s1.ext ll (by rw [hll]; simp)]; exact rll
      have lat : ∀ {i : Nat}, i < L.many → atI (line.map V.int) ((i : Nat) : Int) = some (.int (lineAt line ((i : Nat) : Int))) := fun {i} hi => by
        have h1 : i < line.length := by rw [lok.len]; exact hi
        refine atI_nat ?_
        unfold lineAt
        rw [List.getElem?_map, List.getD_eq_getElem?_getD, Int.toNat_natCast, List.getElem?_eq_getElem h1]
        rfl
      refine ⟨_, rfl, p, CLm K, dx, _, _, rfl, X1.ob.at_, T.c_Loom, T.a_Loom_done, rfl, dl, rfl, ⟨_, SqL.of X1.don.at_⟩, fun D hD => ?_⟩
      have rD : ρ1 D = .no := s1.wf _ hD
      refine lc_list (K := K) (a := dl) (xs := dvs) (fun j G => ∃ rv, Step No ρ1 H1 ρ1 G ∧ G D = some (.lst rv) ∧ Paired (DoneAt G) rv ((L.done.take j).filter (keepD line))) ⟨[], Step.new0 s1.wf hD, upd_same, .nil⟩ (fun j G _ e => ?_) (fun j x G hx e => ?_) (fun G e => ?_)
      · obtain ⟨rv, sg, _⟩ := e
        exact SqL.of (X1.don.step sg (fun z => z)).at_
      · obtain ⟨rv, sg, eD, pr⟩ := e
        obtain ⟨y, hy, rw_, hrow, a, rfl, ht⟩ := paired_at' X1.dn hx
        have hrow := hrow.tk sg.tk
        obtain ⟨i, hi1, hi2⟩ := lok.rows y (List.mem_of_getElem? hy)
        obtain ⟨b, xs, rfl, hb, hb1⟩ := row_hand hrow
        rw [hi1] at hb1
        refine ⟨a, _, rfl, SqT.of (sg.tk _ _ ht), rfl, _, _, rfl, _, _, rfl, rfl, rfl, ?_⟩
        refine ⟨_, rfl, _, rfl, _, rfl, b, _, _, _, rfl, rfl, SqT.of hb, hb1, ll, _, _, _, rfl, rfl, SqL.of (sg.keep _ _ hll1 (fun z => z)), lat hi2, _, _, rfl, rfl, _, rfl, ?_⟩
        rw [filter_snoc hy]
        have ek : keepD line y = decide (y.2 ≤ lineAt line ((i : Nat) : Int)) := by
          unfold keepD
          rw [hi1]
        rw [ek]
        by_cases hk : y.2 ≤ lineAt line ((i : Nat) : Int)
        · rw [decide_eq_true hk]
          refine iteT ⟨_, rfl, _, rfl, (by show 2 ≤ sizeLine; decide), fun q hq => ⟨rv, ?_, small6 ?_, rv ++ [V.ref q], ?_, upd_same, ?_⟩⟩
          · rw [upd_ne (ne_of_none eD hq)]
            exact eD
          · rw [paired_len pr]
            have := filter_len (keepD line) L.done j
            have := ok.done
            omega
          · exact (sg.trans (Step.new0 sg.wf hq)).fresh hD (by rw [upd_ne (ne_of_none eD hq), eD]; simp)
          · have nDq : D ≠ q := ne_of_none eD hq
            have tk : TupK G (upd (upd G q (.tup [.ref b, .int y.2])) D (.lst (rv ++ [V.ref q]))) := fun c zs z => by
              rw [upd_ne (ne_of z eD (by intro u; cases u)), upd_ne (ne_of_none z hq)]
              exact z
            exact paired_snoc ⟨.ref b, hrow.tk tk, q, rfl, by rw [upd_ne nDq.symm, upd_same]⟩ (Paired.imp pr fun _ _ z => z.tk tk)
        · rw [decide_eq_false hk]
          refine iteF ⟨rv, sg, eD, ?_⟩
          rw [if_neg (by simp), List.append_nil]
          exact pr
      · obtain ⟨rv, sg, eD, pr⟩ := e
        rw [paired_len X1.dn, List.take_length] at pr
        have sR : Step No ρ1 H1 (rset ρ1 D .ld) G := sg.role hD (by rw [eD]; simp) _
        have X2 := X1.step sR noNo
        obtain ⟨s3, X3⟩ := X2.setDone sR.wf ⟨rset_same, eD⟩ pr
        refine ⟨_, rfl, p, CLm K, dx, _, rfl, X2.ob.at_, T.c_Loom, T.a_Loom_done, (by show 6 < 1000; decide), ?_⟩
        rw [put_lm_done]
        have s13 : Step ML ρ H (rset ρ1 D .ld) _ := (s1.trans (sR.mono fun _ z => z.elim)).trans s3
        have hll3 := s13.keep _ _ hll rll
        obtain ⟨ρ3, eρ3⟩ : ∃ ρ3, ρ3 = rset ρ1 D .ld := ⟨_, rfl⟩
        rw [← eρ3] at X3 s13
        refine ⟨_, rfl, p, CLm K, dx, _, _, rfl, X3.ob.at_, T.c_Loom, T.a_Loom_order, rfl, ol, rfl, ⟨_, SqL.of X3.odr.at_⟩, fun D2 hD2 => ?_⟩
        have podl : ovs.length = L.order.length := paired_len X1.od
        refine lc_list (K := K) (a := ol) (xs := ovs) (fun j G2 => ∃ rv, Step No ρ3 _ ρ3 G2 ∧ G2 D2 = some (.lst rv) ∧ Paired (NmAt G2) rv ((L.order.take j).filter (keepO line))) ⟨[], Step.new0 s13.wf hD2, upd_same, .nil⟩ (fun j G _ e => ?_) (fun j x G hx e => ?_) (fun G e => ?_)
        · obtain ⟨rv, sg, _⟩ := e
          exact SqL.of (X3.odr.step sg (fun z => z)).at_
        · obtain ⟨rv, sg, eD, pr⟩ := e
          obtain ⟨y, hy, a, rfl, ht⟩ := paired_at' X3.od hx
          obtain ⟨i, hi1, hi2⟩ := lok.ord y (List.mem_of_getElem? hy)
          have ht := sg.tk _ _ ht
          have e0 : atI (nmV y) 0 = some (.int ((i : Nat) : Int)) := by
            rw [← hi1]
            rfl
          refine ⟨rfl, _, rfl, a, _, _, _, rfl, rfl, SqT.of ht, rfl, _, rfl, _, rfl, a, _, _, _, rfl, rfl, SqT.of ht, e0, ll, _, _, _, rfl, rfl, SqL.of (sg.keep _ _ hll3 (fun z => z)), lat hi2, _, _, rfl, rfl, _, rfl, ?_⟩
          have hy : L.order[j]? = some y := hy
          rw [filter_snoc hy]
          have ek : keepO line y = decide (y.2.1 ≤ lineAt line ((i : Nat) : Int)) := by
            unfold keepO
            rw [hi1]
          rw [ek]
          by_cases hk : y.2.1 ≤ lineAt line ((i : Nat) : Int)
          · rw [decide_eq_true hk]
            refine iteT ⟨_, rfl, rv, eD, small6 ?_, rv ++ [V.ref a], ?_, upd_same, ?_⟩
            · rw [paired_len pr]
              have := filter_len (keepO line) L.order j
              have := ok.order
              omega
            · exact sg.fresh hD2 (by rw [eD]; simp)
            · have tk : TupK G (upd G D2 (.lst (rv ++ [V.ref a]))) := fun c zs z => by
                rw [upd_ne (ne_of z eD (by intro u; cases u))]
                exact z
              exact paired_snoc (R := NmAt (upd G D2 (.lst (rv ++ [V.ref a])))) ⟨a, rfl, tk _ _ ht⟩ (Paired.tkN pr tk)
          · rw [decide_eq_false hk]
            refine iteF ⟨rv, sg, eD, ?_⟩
            rw [if_neg (by simp), List.append_nil]
            exact pr
        · obtain ⟨rv2, sg, eD2, pr2⟩ := e
          rw [podl, List.take_length] at pr2
          have sR2 : Step No ρ3 _ (rset ρ3 D2 .lor) G := sg.role hD2 (by rw [eD2]; simp) _
          have X4 := X3.step sR2 noNo
          obtain ⟨s5, X5⟩ := X4.setOrder sR2.wf ⟨rset_same, eD2⟩ pr2
          refine ⟨_, rfl, p, CLm K, dx, _, rfl, X4.ob.at_, T.c_Loom, T.a_Loom_order, (by show 6 < 1000; decide), ?_⟩
          rw [put_lm_order]
          exact k _ _ ((s13.trans (sR2.mono fun _ z => z.elim)).trans s5) ⟨dx, f, tl, D, D2, tas, rv, rv2, X5⟩
end
end Bk
set_option Elab.async false
set_option linter.all false
set_option maxRecDepth 100000
set_option maxHeartbeats 4000000
/-! The plain law: events and letters as plain lists. -/
namespace Bk
open PySem PySem.Spec PyProof.Rows L2
/-! ### the letter of a name, by its place -/
theorem lookS_app (a b : List (Nm × Lt)) (n : Nm) : lookS (a ++ b) n = (lookS a n).or (lookS b n) := by
  induction a with
  | nil => rfl
  | cons x r ih =>
    rw [List.cons_append, lookS_cons, lookS_cons]
    split
    · rfl
    · exact ih
def sgn (b : Bool) {α : Type} (x : Option α) : Option α := if b = true then x else none
def letEv (n : Nm) (e : Ev) : Option Lt := if 0 ≤ n.2.2 then e.sent[n.2.2.toNat]? else none
def letEs (n : Nm) (es : List Ev) : Option Lt := if 1 ≤ n.2.1 then (es[(n.2.1 - 1).toNat]?).bind (letEv n) else none
def letAt (E : List (List Ev)) (n : Nm) : Option Lt := if 0 ≤ n.1 then (E[n.1.toNat]?).bind (letEs n) else none
theorem lookS_ev (h p : Int) (n : Nm) : ∀ (k : Nat) (xs : List Lt), lookS (sentEv h p k xs) n = if n.1 = h ∧ n.2.1 = p ∧ (k : Int) ≤ n.2.2 then xs[(n.2.2 - k).toNat]? else none
  | k, [] => by
    show none = _
    split
    · simp
    · rfl
  | k, l :: r => by
    show lookS (((h, p, (k : Int)), l) :: sentEv h p (k + 1) r) n = _
    rw [lookS_cons, lookS_ev h p n (k + 1) r]
    obtain ⟨a, b, c⟩ := n
    by_cases h1 : a = h
    · by_cases h2 : b = p
      · by_cases h3 : c = (k : Int)
        · subst h1 h2 h3
          simp
        · have e1 : ¬ ((h, p, (k : Int)) : Nm) = (a, b, c) := fun z => h3 (by cases z; rfl)
          rw [if_neg e1]
          by_cases h4 : (k : Int) ≤ c
          · have h5 : ((k + 1 : Nat) : Int) ≤ c := by omega
            rw [if_pos ⟨h1, h2, h5⟩, if_pos ⟨h1, h2, h4⟩]
            show r[(c - ((k + 1 : Nat) : Int)).toNat]? = (l :: r)[(c - (k : Int)).toNat]?
            have e : (c - (k : Int)).toNat = (c - ((k + 1 : Nat) : Int)).toNat + 1 := by omega
            rw [e, List.getElem?_cons_succ]
          · have n1 : ¬ (((a, b, c) : Nm).1 = h ∧ ((a, b, c) : Nm).2.1 = p ∧ ((k + 1 : Nat) : Int) ≤ ((a, b, c) : Nm).2.2) := fun z => h4 (by have z : ((k + 1 : Nat) : Int) ≤ c := z.2.2; omega)
            have n2 : ¬ (((a, b, c) : Nm).1 = h ∧ ((a, b, c) : Nm).2.1 = p ∧ (k : Int) ≤ ((a, b, c) : Nm).2.2) := fun z => h4 z.2.2
            rw [if_neg n1, if_neg n2]
      · have e1 : ¬ ((h, p, (k : Int)) : Nm) = (a, b, c) := fun z => h2 (by cases z; rfl)
        rw [if_neg e1, if_neg (fun z => h2 z.2.1), if_neg (fun z => h2 z.2.1)]
    · have e1 : ¬ ((h, p, (k : Int)) : Nm) = (a, b, c) := fun z => h1 (by cases z; rfl)
      rw [if_neg e1, if_neg (fun z => h1 z.1), if_neg (fun z => h1 z.1)]
theorem lookS_evs (h : Int) (n : Nm) : ∀ (p : Nat) (xs : List Ev), lookS (sentEvs h p xs) n = if n.1 = h ∧ (p : Int) + 1 ≤ n.2.1 then (xs[(n.2.1 - 1 - p).toNat]?).bind (letEv n) else none
  | p, [] => by
    show none = _
    split
    · simp
    · rfl
  | p, e :: r => by
    show lookS (sentEv h ((p : Int) + 1) 0 e.sent ++ sentEvs h (p + 1) r) n = _
    rw [lookS_app, lookS_ev, lookS_evs h n (p + 1) r]
    by_cases h1 : n.1 = h
    · by_cases h2 : n.2.1 = (p : Int) + 1
      · have c1 : ¬ (n.1 = h ∧ ((p + 1 : Nat) : Int) + 1 ≤ n.2.1) := by omega
        have c2 : n.1 = h ∧ (p : Int) + 1 ≤ n.2.1 := ⟨h1, by omega⟩
        rw [if_neg c1, if_pos c2]
        have e1 : (n.2.1 - 1 - (p : Int)).toNat = 0 := by omega
        rw [e1, List.getElem?_cons_zero, Option.or_none]
        show _ = letEv n e
        unfold letEv
        by_cases h4 : 0 ≤ n.2.2
        · have c3 : n.1 = h ∧ n.2.1 = (p : Int) + 1 ∧ ((0 : Nat) : Int) ≤ n.2.2 := ⟨h1, h2, h4⟩
          rw [if_pos h4, if_pos c3]
          rw [show n.2.2 - ((0 : Nat) : Int) = n.2.2 by omega]
        · have c3 : ¬ (n.1 = h ∧ n.2.1 = (p : Int) + 1 ∧ ((0 : Nat) : Int) ≤ n.2.2) := fun z => h4 z.2.2
          rw [if_neg h4, if_neg c3]
      · have c1 : ¬ (n.1 = h ∧ n.2.1 = (p : Int) + 1 ∧ ((0 : Nat) : Int) ≤ n.2.2) := fun z => h2 z.2.1
        rw [if_neg c1, Option.none_or]
        by_cases h3 : (p : Int) + 1 ≤ n.2.1
        · have c2 : n.1 = h ∧ ((p + 1 : Nat) : Int) + 1 ≤ n.2.1 := ⟨h1, by omega⟩
          have c3 : n.1 = h ∧ (p : Int) + 1 ≤ n.2.1 := ⟨h1, h3⟩
          rw [if_pos c2, if_pos c3]
          have e1 : (n.2.1 - 1 - (p : Int)).toNat = (n.2.1 - 1 - ((p + 1 : Nat) : Int)).toNat + 1 := by omega
          rw [e1, List.getElem?_cons_succ]
        · have c2 : ¬ (n.1 = h ∧ ((p + 1 : Nat) : Int) + 1 ≤ n.2.1) := by omega
          have c3 : ¬ (n.1 = h ∧ (p : Int) + 1 ≤ n.2.1) := fun z => h3 z.2
          rw [if_neg c2, if_neg c3]
    · have c1 : ¬ (n.1 = h ∧ n.2.1 = (p : Int) + 1 ∧ ((0 : Nat) : Int) ≤ n.2.2) := fun z => h1 z.1
      have c2 : ¬ (n.1 = h ∧ ((p + 1 : Nat) : Int) + 1 ≤ n.2.1) := fun z => h1 z.1
      have c3 : ¬ (n.1 = h ∧ (p : Int) + 1 ≤ n.2.1) := fun z => h1 z.1
      rw [if_neg c1, if_neg c2, if_neg c3]
      rfl
theorem lookS_all0 (n : Nm) : ∀ (h : Nat) (E : List (List Ev)), lookS (sentAll h E) n = if (h : Int) ≤ n.1 then (E[(n.1 - h).toNat]?).bind (letEs n) else none
  | h, [] => by
    show none = _
    split
    · simp
    · rfl
  | h, es :: r => by
    show lookS (sentEvs (h : Int) 0 es ++ sentAll (h + 1) r) n = _
    rw [lookS_app, lookS_evs, lookS_all0 n (h + 1) r]
    by_cases h1 : n.1 = (h : Int)
    · have h3 : ¬ (((h + 1 : Nat) : Int) ≤ n.1) := by omega
      rw [if_neg h3, if_pos (show (h : Int) ≤ n.1 by omega), Option.or_none]
      have e1 : (n.1 - (h : Int)).toNat = 0 := by omega
      rw [e1, List.getElem?_cons_zero]
      show _ = letEs n es
      unfold letEs
      by_cases h4 : 1 ≤ n.2.1
      · rw [if_pos h4, if_pos ⟨h1, by omega⟩]
        rw [show n.2.1 - 1 - ((0 : Nat) : Int) = n.2.1 - 1 by omega]
      · rw [if_neg h4, if_neg (fun z => h4 (by have := z.2; omega))]
    · rw [if_neg (fun z => h1 z.1), Option.none_or]
      by_cases h3 : (h : Int) ≤ n.1
      · rw [if_pos h3, if_pos (show ((h + 1 : Nat) : Int) ≤ n.1 by omega)]
        have e1 : (n.1 - (h : Int)).toNat = (n.1 - ((h + 1 : Nat) : Int)).toNat + 1 := by omega
        rw [e1, List.getElem?_cons_succ]
      · rw [if_neg h3, if_neg (by omega)]
theorem lookS_all (E : List (List Ev)) (n : Nm) : lookS (sentAll 0 E) n = letAt E n := by
  rw [lookS_all0]
  unfold letAt
  rw [show n.1 - ((0 : Nat) : Int) = n.1 by omega]
  rfl
theorem letAt_some {E : List (List Ev)} {n : Nm} {lt : Lt} (h : letAt E n = some lt) : ∃ (s p k : Nat) (es : List Ev) (e : Ev), n = ((s : Int), (p : Int) + 1, (k : Int)) ∧ E[s]? = some es ∧ es[p]? = some e ∧ e.sent[k]? = some lt := by
  unfold letAt at h
  split at h
  · next h1 =>
    obtain ⟨es, e1, h⟩ := Option.bind_eq_some_iff.mp h
    unfold letEs at h
    split at h
    · next h2 =>
      obtain ⟨e, e2, h⟩ := Option.bind_eq_some_iff.mp h
      unfold letEv at h
      split at h
      · next h3 =>
        refine ⟨n.1.toNat, (n.2.1 - 1).toNat, n.2.2.toNat, es, e, ?_, e1, e2, h⟩
        obtain ⟨a, b, c⟩ := n
        have h1 : 0 ≤ a := h1
        have h2 : 1 ≤ b := h2
        have h3 : 0 ≤ c := h3
        show (a, b, c) = ((a.toNat : Int), ((b - 1).toNat : Int) + 1, (c.toNat : Int))
        rw [show (a.toNat : Int) = a by omega, show ((b - 1).toNat : Int) + 1 = b by omega, show (c.toNat : Int) = c by omega]
      · cases h
    · cases h
  · cases h
theorem letAt_of {E : List (List Ev)} {s p k : Nat} {es : List Ev} {e : Ev} {lt : Lt} (h1 : E[s]? = some es) (h2 : es[p]? = some e) (h3 : e.sent[k]? = some lt) : letAt E ((s : Int), (p : Int) + 1, (k : Int)) = some lt := by
  unfold letAt
  rw [if_pos (show 0 ≤ ((s : Int), (p : Int) + 1, (k : Int)).1 from Int.natCast_nonneg s)]
  show (E[((s : Int)).toNat]?).bind _ = _
  rw [Int.toNat_natCast, h1]
  show letEs _ es = _
  unfold letEs
  rw [if_pos (show 1 ≤ (p : Int) + 1 by omega)]
  show (es[((p : Int) + 1 - 1).toNat]?).bind _ = _
  rw [show ((p : Int) + 1 - 1).toNat = p by omega, h2]
  show letEv _ e = _
  unfold letEv
  rw [if_pos (show 0 ≤ (k : Int) from Int.natCast_nonneg k)]
  show e.sent[((k : Int)).toNat]? = _
  rw [Int.toNat_natCast, h3]
/-! ### who used what -/
def UsedAt (E : List (List Ev)) (h p : Nat) (n : Nm) : Prop := ∃ es e, E[h]? = some es ∧ es[p]? = some e ∧ e.used = some n
theorem putU_mem {l : List (Nm × Int)} {n m : Nm} {p q : Int} (h : (m, q) ∈ putU l n p) : (m, q) ∈ l ∨ (m = n ∧ q = p) := by
  unfold putU at h
  split at h
  · obtain ⟨x, hx, e⟩ := List.mem_map.mp h
    by_cases c : x.1 = n
    · rw [if_pos c] at e
      cases e
      exact .inr ⟨c, rfl⟩
    · rw [if_neg c] at e
      subst e
      exact .inl hx
  · rcases List.mem_append.mp h with h | h
    · exact .inl h
    · have := List.mem_singleton.mp h
      cases this
      exact .inr ⟨rfl, rfl⟩
theorem putU_key (l : List (Nm × Int)) (n : Nm) (p : Int) : (∃ q, (n, q) ∈ putU l n p) ∧ ∀ m q, (m, q) ∈ l → ∃ q', (m, q') ∈ putU l n p := by
  unfold putU
  split
  · next c =>
    obtain ⟨x, hx, e⟩ := List.any_eq_true.mp c
    have e := of_decide_eq_true e
    refine ⟨⟨p, List.mem_map.mpr ⟨x, hx, by rw [if_pos e, e]⟩⟩, fun m q h => ?_⟩
    by_cases c2 : m = n
    · exact ⟨p, List.mem_map.mpr ⟨(m, q), h, by rw [if_pos c2]⟩⟩
    · exact ⟨q, List.mem_map.mpr ⟨(m, q), h, by rw [if_neg c2]⟩⟩
  · exact ⟨⟨p, List.mem_append.mpr (.inr List.mem_cons_self)⟩, fun m q h => ⟨q, List.mem_append.mpr (.inl h)⟩⟩
theorem usedStep_mem {acc : List (Nm × Int)} {p : Nat} {e : Ev} {m : Nm} {q : Int} (h : (m, q) ∈ usedStep acc p e) : (m, q) ∈ acc ∨ (e.used = some m ∧ q = (p : Int) + 1) := by
  unfold usedStep at h
  split at h
  · exact .inl h
  · next n e1 =>
    rcases putU_mem h with h | ⟨rfl, rfl⟩
    · exact .inl h
    · exact .inr ⟨e1, rfl⟩
theorem usedStep_key (acc : List (Nm × Int)) (p : Nat) (e : Ev) : (∀ n, e.used = some n → ∃ q, (n, q) ∈ usedStep acc p e) ∧ ∀ m q, (m, q) ∈ acc → ∃ q', (m, q') ∈ usedStep acc p e := by
  unfold usedStep
  split
  · next e1 => exact ⟨fun n h => by rw [e1] at h; (try cases h), fun m q h => ⟨q, h⟩⟩
  · next n e1 =>
    obtain ⟨h1, h2⟩ := putU_key acc n ((p : Int) + 1)
    refine ⟨fun m h => ?_, h2⟩
    rw [e1] at h
    cases h
    exact h1
theorem usedEvs_mem {m : Nm} {q : Int} : ∀ {acc : List (Nm × Int)} {p : Nat} {xs : List Ev}, (m, q) ∈ usedEvs acc p xs → (m, q) ∈ acc ∨ ∃ (j : Nat) (e : Ev), xs[j]? = some e ∧ e.used = some m ∧ q = ((p + j : Nat) : Int) + 1
  | _, _, [], h => .inl h
  | acc, p, e :: r, h => by
    rcases usedEvs_mem (acc := usedStep acc p e) (p := p + 1) (xs := r) h with h | ⟨j, e', h1, h2, h3⟩
    · rcases usedStep_mem h with h | ⟨h1, h2⟩
      · exact .inl h
      · exact .inr ⟨0, e, rfl, h1, h2⟩
    · refine .inr ⟨j + 1, e', h1, h2, ?_⟩
      rw [h3, show p + 1 + j = p + (j + 1) by omega]
theorem usedEvs_key : ∀ (acc : List (Nm × Int)) (p : Nat) (xs : List Ev), (∀ (j : Nat) (e : Ev) n, xs[j]? = some e → e.used = some n → ∃ q, (n, q) ∈ usedEvs acc p xs) ∧ ∀ m q, (m, q) ∈ acc → ∃ q', (m, q') ∈ usedEvs acc p xs
  | acc, p, [] => ⟨fun j e n h => by simp at h, fun m q h => ⟨q, h⟩⟩
  | acc, p, e :: r => by
    obtain ⟨h1, h2⟩ := usedStep_key acc p e
    obtain ⟨h3, h4⟩ := usedEvs_key (usedStep acc p e) (p + 1) r
    refine ⟨fun j e' n a b => ?_, fun m q h => ?_⟩
    · cases j with
      | zero =>
        cases a
        obtain ⟨q, hq⟩ := h1 n b
        exact h4 n q hq
      | succ j => exact h3 j e' n (by simpa using a) b
    · obtain ⟨q', hq⟩ := h2 m q h
      exact h4 m q' hq
theorem usedAll_mem0 {m : Nm} {q : Int} : ∀ {acc : List (Nm × Int)} {E : List (List Ev)}, (m, q) ∈ usedAll acc E → (m, q) ∈ acc ∨ ∃ h p : Nat, UsedAt E h p m ∧ q = (p : Int) + 1
  | _, [], h => .inl h
  | acc, es :: r, h => by
    rcases usedAll_mem0 (acc := usedEvs acc 0 es) (E := r) h with h | ⟨i, p, ⟨es', e, h1, h2, h3⟩, h4⟩
    · rcases usedEvs_mem h with h | ⟨j, e, h1, h2, h3⟩
      · exact .inl h
      · exact .inr ⟨0, j, ⟨es, e, rfl, h1, h2⟩, by rw [h3, Nat.zero_add]⟩
    · exact .inr ⟨i + 1, p, ⟨es', e, h1, h2, h3⟩, h4⟩
theorem usedAll_key0 : ∀ (acc : List (Nm × Int)) (E : List (List Ev)), (∀ (h p : Nat) n, UsedAt E h p n → ∃ q, (n, q) ∈ usedAll acc E) ∧ ∀ m q, (m, q) ∈ acc → ∃ q', (m, q') ∈ usedAll acc E
  | acc, [] => ⟨fun h p n ⟨es, e, a, _⟩ => by simp at a, fun m q h => ⟨q, h⟩⟩
  | acc, es :: r => by
    obtain ⟨h1, h2⟩ := usedEvs_key acc 0 es
    obtain ⟨h3, h4⟩ := usedAll_key0 (usedEvs acc 0 es) r
    refine ⟨fun h p n ⟨es', e, a, b, c⟩ => ?_, fun m q h => ?_⟩
    · cases h with
      | zero =>
        cases a
        obtain ⟨q, hq⟩ := h1 p e n b c
        exact h4 n q hq
      | succ h => exact h3 h p n ⟨es', e, by simpa using a, b, c⟩
    · obtain ⟨q', hq⟩ := h2 m q h
      exact h4 m q' hq
theorem lookU_some {l : List (Nm × Int)} {n : Nm} {q : Int} (h : lookU l n = some q) : (n, q) ∈ l := by
  unfold lookU at h
  obtain ⟨x, hx, e⟩ := Option.map_eq_some_iff.mp h
  have h1 := List.find?_some hx
  have h1 : x.1 = n := of_decide_eq_true h1
  have h2 := List.mem_of_find?_eq_some hx
  rw [← h1, ← e]
  exact h2
theorem lookU_isSome {l : List (Nm × Int)} {n : Nm} : (lookU l n).isSome = true ↔ ∃ q, (n, q) ∈ l := by
  constructor
  · intro h
    obtain ⟨q, e⟩ := Option.isSome_iff_exists.mp h
    exact ⟨q, lookU_some e⟩
  · rintro ⟨q, h⟩
    unfold lookU
    rw [Option.isSome_map]
    rw [List.find?_isSome]
    exact ⟨(n, q), h, decide_eq_true rfl⟩
/-- used somewhere -/
def UsedIn (E : List (List Ev)) (n : Nm) : Prop := ∃ h p : Nat, UsedAt E h p n
theorem lookU_all (E : List (List Ev)) (n : Nm) : (lookU (usedAll [] E) n).isSome = true ↔ UsedIn E n := by
  rw [lookU_isSome]
  constructor
  · rintro ⟨q, h⟩
    rcases usedAll_mem0 h with h | ⟨i, p, h, _⟩
    · cases h
    · exact ⟨i, p, h⟩
  · rintro ⟨i, p, h⟩
    exact (usedAll_key0 [] E).1 i p n h
theorem usedAll_mem {E : List (List Ev)} {n : Nm} {q : Int} (h : (n, q) ∈ usedAll [] E) : ∃ h p : Nat, UsedAt E h p n ∧ q = (p : Int) + 1 := by
  rcases usedAll_mem0 h with h | h
  · cases h
  · exact h
end Bk
set_option Elab.async false
set_option linter.all false
set_option maxRecDepth 100000
set_option maxHeartbeats 4000000
/-! The plain law: what rows lead to; going back to a line and doing the kept rows again lead to the same. -/
namespace Bk
open PySem PySem.Spec PyProof.Rows L2
structure Co where
  E : List (List Ev)
  O : List Nm
def Lm.co (L : Lm) : Co := ⟨L.evss, L.order⟩
def Co.evs (c : Co) (i : Nat) : List Ev := c.E.getD i []
def stOf (sts : List Int) (c : Co) (i : Nat) : Int := match (c.evs i).getLast? with
  | some e => e.state
  | none => sts.getD i 0
def Co.ev (d : DP) (sts : List Int) (c : Co) (i : Nat) (us : Option Nm) (wd : Option Int) : Ev := ⟨us, (d.fn (i : Nat) (stOf sts c i) wd).1, (d.fn (i : Nat) (stOf sts c i) wd).2.1, (d.fn (i : Nat) (stOf sts c i) wd).2.2⟩
def Co.add (d : DP) (sts : List Int) (c : Co) (i : Nat) (us : Option Nm) (wd : Option Int) : Co :=
  ⟨c.E.set i (c.evs i ++ [c.ev d sts i us wd]), c.O ++ namesOf (i : Nat) (((c.evs i).length : Nat) + 1) (c.ev d sts i us wd).sent.length⟩
def Co.word (c : Co) (n : Nm) : Option Int := (letAt c.E n).map (·.2)
def Co.step (d : DP) (sts : List Int) (c : Co) : Row → Co
  | .own h => c.add d sts h.toNat none none
  | .use h n => c.add d sts h.toNat (some n) (c.word n)
  | .write _ => c
/-- it waits for h -/
def Wait (c : Co) (h : Int) (n : Nm) : Prop := n ∈ c.O ∧ (∃ w, letAt c.E n = some (h, w)) ∧ ¬ UsedIn c.E n
/-- none ahead of it on its way -/
def First (c : Co) (h : Int) (n : Nm) : Prop := ∃ A B, c.O = A ++ n :: B ∧ ∀ m ∈ A, m.1 = n.1 → ¬ Wait c h m
def MayUse (o : Bool) (c : Co) (h : Int) (n : Nm) : Prop := Wait c h n ∧ (o = true → First c h n)
def RowOk (o : Bool) (many : Nat) (c : Co) (r : Row) : Prop := (∃ i : Nat, r.hand = (i : Nat) ∧ i < many) ∧ ∀ h n, r = .use h n → MayUse o c h n
inductive Hist (d : DP) (sts : List Int) (o : Bool) : Co → List (Row × Int) → Prop
  | nil : Hist d sts o ⟨List.replicate sts.length [], []⟩ []
  | snoc {c : Co} {D : List (Row × Int)} {r : Row} : Hist d sts o c D → RowOk o sts.length c r → Hist d sts o (c.step d sts r) (D ++ [(r, ((((c.step d sts r).evs r.hand.toNat).length : Nat) : Int))])
/-! ### the loom's own words for it -/
theorem to1_iff {E : List (List Ev)} {h : Int} {n : Nm} : to1 (sentAll 0 E) h n = true ↔ ∃ w, letAt E n = some (h, w) := by
  unfold to1
  rw [lookS_all]
  cases e : letAt E n with
  | none => simp
  | some lt =>
    obtain ⟨a, b⟩ := lt
    simp
theorem wait2_iff {L : Lm} {h : Int} {n : Nm} : n ∈ wait2 L h ↔ Wait L.co h n := by
  unfold wait2 wait1 Wait
  rw [List.mem_filter, List.mem_filter, to1_iff, Bool.not_eq_true', Bool.eq_false_iff]
  show (n ∈ L.order ∧ _) ∧ ¬ _ ↔ n ∈ L.order ∧ _ ∧ ¬ _
  rw [show ((lookU (usedAll [] L.evss) n).isSome = true) = UsedIn L.evss n from propext (lookU_all _ _), and_assoc]
  exact Iff.rfl
theorem filter_first {α : Type} {p : α → Bool} {l : List α} {n : α} : (l.filter p)[0]? = some n ↔ p n = true ∧ ∃ A B, l = A ++ n :: B ∧ ∀ m ∈ A, p m = false := by
  rw [← List.head?_eq_getElem?, List.head?_filter, List.find?_eq_some_iff_append]
  simp
theorem useOk_iff {L : Lm} {h : Int} {n : Nm} : UseOk L h n ↔ MayUse L.ord L.co h n := by
  unfold UseOk MayUse
  rw [wait2_iff]
  refine and_congr_right fun hw => ⟨fun f o => ?_, fun f o => ?_⟩
  · have f := f o
    unfold way wait2 wait1 at f
    rw [List.filter_filter, List.filter_filter, filter_first] at f
    obtain ⟨_, A, B, e, ha⟩ := f
    refine ⟨A, B, e, fun m hm e1 w => ?_⟩
    have := ha m hm
    have w2 := wait2_iff.mpr w
    unfold wait2 wait1 at w2
    rw [List.mem_filter, List.mem_filter] at w2
    rw [w2.1.2, w2.2, decide_eq_true e1] at this
    cases this
  · obtain ⟨A, B, e, ha⟩ := f o
    unfold way wait2 wait1
    rw [List.filter_filter, List.filter_filter, filter_first]
    have pm : ∀ m, m ∈ L.order → m.1 = n.1 → ((decide (m.1 = n.1) && (!(lookU (usedAll [] L.evss) m).isSome) && to1 (sentAll 0 L.evss) h m) = true ↔ Wait L.co h m) := fun m hm e1 => by
      rw [← wait2_iff]
      unfold wait2 wait1
      rw [List.mem_filter, List.mem_filter, decide_eq_true e1, Bool.true_and, Bool.and_eq_true]
      exact ⟨fun z => ⟨⟨hm, z.2⟩, z.1⟩, fun z => ⟨z.2, z.1.2⟩⟩
    have e' : L.order = A ++ n :: B := e
    refine ⟨(pm n hw.1 rfl).mpr hw, A, B, e', fun m hm => ?_⟩
    by_cases e1 : m.1 = n.1
    · rw [Bool.eq_false_iff]
      exact fun z => ha m hm e1 ((pm m (by rw [e']; exact List.mem_append.mpr (.inl hm)) e1).mp z)
    · rw [decide_eq_false e1, Bool.false_and, Bool.false_and]
/-! ### one event more -/
section
variable {E : List (List Ev)} {i : Nat} {es : List Ev} {e : Ev}
theorem usedAt_set {h p : Nat} {n : Nm} (hi : E[i]? = some es) : UsedAt (E.set i (es ++ [e])) h p n ↔ UsedAt E h p n ∨ (h = i ∧ p = es.length ∧ e.used = some n) := by
  have hlt : i < E.length := (List.getElem?_eq_some_iff.mp hi).1
  constructor
  · rintro ⟨es', e', h1, h2, h3⟩
    by_cases c : h = i
    · subst c
      rw [List.getElem?_set_self hlt] at h1
      cases h1
      by_cases c2 : p < es.length
      · rw [List.getElem?_append_left c2] at h2
        exact .inl ⟨es, e', hi, h2, h3⟩
      · have hp : p = es.length := by
          have := (List.getElem?_eq_some_iff.mp h2).1
          rw [List.length_append] at this
          simp at this
          omega
        subst hp
        rw [List.getElem?_concat_length] at h2
        cases h2
        exact .inr ⟨rfl, rfl, h3⟩
    · rw [List.getElem?_set_ne (fun z => c z.symm)] at h1
      exact .inl ⟨es', e', h1, h2, h3⟩
  · rintro (⟨es', e', h1, h2, h3⟩ | ⟨rfl, rfl, h3⟩)
    · by_cases c : h = i
      · subst c
        rw [hi] at h1
        cases h1
        exact ⟨_, e', List.getElem?_set_self hlt, by rw [List.getElem?_append_left (List.getElem?_eq_some_iff.mp h2).1]; exact h2, h3⟩
      · exact ⟨es', e', by rw [List.getElem?_set_ne (fun z => c z.symm)]; exact h1, h2, h3⟩
    · exact ⟨_, e, List.getElem?_set_self hlt, List.getElem?_concat_length .., h3⟩
theorem letAt_set {n : Nm} {lt : Lt} (hi : E[i]? = some es) (h : letAt E n = some lt) : letAt (E.set i (es ++ [e])) n = some lt := by
  have hlt : i < E.length := (List.getElem?_eq_some_iff.mp hi).1
  obtain ⟨s, p, k, es', e', rfl, h1, h2, h3⟩ := letAt_some h
  by_cases c : s = i
  · subst c
    rw [hi] at h1
    cases h1
    exact letAt_of (List.getElem?_set_self hlt) (by rw [List.getElem?_append_left (List.getElem?_eq_some_iff.mp h2).1]; exact h2) h3
  · exact letAt_of (by rw [List.getElem?_set_ne (fun z => c z.symm)]; exact h1) h2 h3
theorem letAt_new {k : Nat} {lt : Lt} (hi : E[i]? = some es) (h : e.sent[k]? = some lt) : letAt (E.set i (es ++ [e])) ((i : Int), ((es.length : Nat) : Int) + 1, (k : Int)) = some lt :=
  letAt_of (List.getElem?_set_self (List.getElem?_eq_some_iff.mp hi).1) (List.getElem?_concat_length ..) h
end
theorem namesOf_mem {h p : Int} {n : Nat} {m : Nm} (x : m ∈ namesOf h p n) : ∃ k : Nat, k < n ∧ m = (h, p, ((k : Nat) : Int)) := by
  obtain ⟨k, hk, e⟩ := List.mem_map.mp x
  exact ⟨k, List.mem_range.mp hk, e.symm⟩
theorem evs_at {c : Co} {i : Nat} (h : i < c.E.length) : c.E[i]? = some (c.evs i) := by
  unfold Co.evs
  rw [List.getD_eq_getElem?_getD, List.getElem?_eq_getElem h]
  rfl
/-! ### what holds of all that rows lead to -/
structure CInv (many : Nat) (c : Co) (D : List (Row × Int)) : Prop where
  lenE : c.E.length = many
  uniq : ∀ h p h' p' n, UsedAt c.E h p n → UsedAt c.E h' p' n → h = h' ∧ p = p'
  used : ∀ (h p : Nat) n, UsedAt c.E h p n → ∃ w, letAt c.E n = some ((h : Int), w)
  sent : ∀ n ∈ c.O, ∃ lt, letAt c.E n = some lt
  rows : ∀ x ∈ D, ∃ i : Nat, x.1.hand = (i : Nat) ∧ i < many
  useD : ∀ h n pl, (Row.use h n, pl) ∈ D → ∃ i p : Nat, h = (i : Int) ∧ pl = (p : Int) + 1 ∧ UsedAt c.E i p n
  len : ∀ es ∈ c.E, es.length ≤ D.length ∧ ∀ e ∈ es, e.sent.length ≤ 3
  lenO : c.O.length ≤ 3 * D.length
theorem DP.fn_len (d : DP) (h st : Int) (wd : Option Int) : (d.fn h st wd).2.1.length ≤ 3 := DP.letters_len _ _ _ _
theorem CInv.add {many : Nat} {c : Co} {D : List (Row × Int)} {d : DP} {sts : List Int} {i : Nat} {us : Option Nm} {wd : Option Int} {r : Row} (I : CInv many c D) (hi : i < many) (hr : r.hand = (i : Nat))
    (hu : ∀ n, us = some n → (∃ w, letAt c.E n = some ((i : Int), w)) ∧ ¬ UsedIn c.E n) (hrow : ∀ h n, r = .use h n → us = some n) :
    CInv many (c.add d sts i us wd) (D ++ [(r, (((((c.add d sts i us wd).evs i).length : Nat)) : Int))]) := by
  have hlt : i < c.E.length := by rw [I.lenE]; exact hi
  have he := evs_at hlt
  have hev : (c.add d sts i us wd).evs i = c.evs i ++ [c.ev d sts i us wd] := by
    show (c.E.set i _).getD i [] = _
    rw [List.getD_eq_getElem?_getD, List.getElem?_set_self hlt]
    rfl
  have hlen : (((c.add d sts i us wd).evs i).length : Int) = ((c.evs i).length : Int) + 1 := by
    rw [hev, List.length_append]
    rfl
  refine ⟨?_, fun h p h' p' n a b => ?_, fun h p n a => ?_, fun n hn => ?_, fun x hx => ?_, fun h n pl hx => ?_, fun es hes => ?_, ?_⟩
  · show (c.E.set i _).length = _
    rw [List.length_set, I.lenE]
  · rcases (usedAt_set he).mp a with a2 | ⟨e1, e2, a2⟩
    · rcases (usedAt_set he).mp b with b2 | ⟨e3, e4, b2⟩
      · exact I.uniq _ _ _ _ _ a2 b2
      · exact absurd ⟨h, p, a2⟩ (hu n b2).2
    · rcases (usedAt_set he).mp b with b2 | ⟨e3, e4, b2⟩
      · exact absurd ⟨h', p', b2⟩ (hu n a2).2
      · exact ⟨e1.trans e3.symm, e2.trans e4.symm⟩
  · rcases (usedAt_set he).mp a with a2 | ⟨e1, e2, a2⟩
    · obtain ⟨w, hw⟩ := I.used h p n a2
      exact ⟨w, letAt_set he hw⟩
    · obtain ⟨w, hw⟩ := (hu n a2).1
      rw [e1]
      exact ⟨w, letAt_set he hw⟩
  · rcases List.mem_append.mp (show n ∈ c.O ++ namesOf _ _ _ from hn) with hn | hn
    · obtain ⟨lt, h⟩ := I.sent n hn
      exact ⟨lt, letAt_set he h⟩
    · obtain ⟨k, hk, rfl⟩ := namesOf_mem hn
      exact ⟨_, letAt_new he (List.getElem?_eq_getElem hk)⟩
  · rcases List.mem_append.mp hx with hx | hx
    · exact I.rows x hx
    · rw [List.mem_singleton.mp hx]
      exact ⟨i, hr, hi⟩
  · rcases List.mem_append.mp hx with hx | hx
    · obtain ⟨j, p, h1, h2, h3⟩ := I.useD h n pl hx
      exact ⟨j, p, h1, h2, (usedAt_set he).mpr (.inl h3)⟩
    · have e := List.mem_singleton.mp hx
      have e1 : r = .use h n := (congrArg Prod.fst e).symm
      have e2 : pl = ((((c.add d sts i us wd).evs i).length : Nat) : Int) := congrArg Prod.snd e
      refine ⟨i, (c.evs i).length, ?_, ?_, (usedAt_set he).mpr (.inr ⟨rfl, rfl, hrow h n e1⟩)⟩
      · rw [← hr, e1]
        rfl
      · rw [e2, hlen]
  · rw [List.length_append]
    rcases List.mem_or_eq_of_mem_set (show es ∈ c.E.set i _ from hes) with h | h
    · exact ⟨Nat.le_trans (I.len es h).1 (Nat.le_add_right _ _), (I.len es h).2⟩
    · have hm := I.len (c.evs i) (List.mem_of_getElem? he)
      rw [h]
      refine ⟨?_, fun x hx => ?_⟩
      · rw [List.length_append]
        exact Nat.add_le_add_right hm.1 1
      · rcases List.mem_append.mp hx with hx | hx
        · exact hm.2 x hx
        · rw [List.mem_singleton.mp hx]
          exact DP.fn_len _ _ _ _
  · show (c.O ++ namesOf _ _ _).length ≤ _
    rw [List.length_append, List.length_append]
    have h1 : (namesOf (i : Nat) (((c.evs i).length : Nat) + 1) (c.ev d sts i us wd).sent.length).length = (c.ev d sts i us wd).sent.length := by
      unfold namesOf
      rw [List.length_map, List.length_range]
    have h2 : (c.ev d sts i us wd).sent.length ≤ 3 := DP.fn_len _ _ _ _
    have := I.lenO
    rw [h1]
    simp only [List.length_cons, List.length_nil]
    omega
theorem Hist.inv {d : DP} {sts : List Int} {o : Bool} {c : Co} {D : List (Row × Int)} (h : Hist d sts o c D) : CInv sts.length c D := by
  induction h with
  | nil =>
    have no : ∀ h p n, ¬ UsedAt (List.replicate sts.length ([] : List Ev)) h p n := by
      rintro h p n ⟨es, e, h1, h2, _⟩
      rw [List.getElem?_replicate] at h1
      split at h1
      · cases h1
        simp at h2
      · cases h1
    refine ⟨by simp, fun h p h' p' n a => (no _ _ _ a).elim, fun h p n a => (no _ _ _ a).elim, (fun n hn => nomatch hn), (fun x hx => nomatch hx), (fun h n pl hx => nomatch hx), fun es hes => ?_, Nat.le_refl _⟩
    rw [(List.mem_replicate.mp hes).2]
    exact ⟨Nat.zero_le _, (fun e he => nomatch he)⟩
  | @snoc c D r _ ok I =>
    obtain ⟨⟨i, hr, hi⟩, ok2⟩ := ok
    have ht : r.hand.toNat = i := by rw [hr]; exact Int.toNat_natCast i
    cases r with
    | own h =>
      have ht : h.toNat = i := ht
      show CInv _ (c.add d sts h.toNat none none) (D ++ [(Row.own h, ((((c.add d sts h.toNat none none).evs h.toNat).length : Nat) : Int))])
      rw [ht]
      exact I.add hi hr (fun n z => nomatch z) (fun h n z => nomatch z)
    | use h n =>
      have ht : h.toNat = i := ht
      have hr' : h = (i : Int) := hr
      obtain ⟨⟨_, w1, w2⟩, _⟩ := ok2 h n rfl
      show CInv _ (c.add d sts h.toNat (some n) (c.word n)) (D ++ [(Row.use h n, ((((c.add d sts h.toNat (some n) (c.word n)).evs h.toNat).length : Nat) : Int))])
      rw [ht]
      refine I.add hi hr (fun m z => ?_) (fun h' m z => by cases z; rfl)
      cases z
      rw [← hr']
      exact ⟨w1, w2⟩
    | write h =>
      refine ⟨I.lenE, I.uniq, I.used, I.sent, fun x hx => ?_, fun h' n pl hx => ?_, fun es hes => ?_, ?_⟩
      · rcases List.mem_append.mp hx with hx | hx
        · exact I.rows x hx
        · rw [List.mem_singleton.mp hx]
          exact ⟨i, hr, hi⟩
      · rcases List.mem_append.mp hx with hx | hx
        · exact I.useD h' n pl hx
        · have e := congrArg Prod.fst (List.mem_singleton.mp hx)
          cases e
      · rw [List.length_append]
        exact ⟨Nat.le_trans (I.len es hes).1 (Nat.le_add_right _ _), (I.len es hes).2⟩
      · rw [List.length_append]
        have := I.lenO
        show c.O.length ≤ _
        simp only [List.length_cons, List.length_nil]
        omega
end Bk
set_option Elab.async false
set_option linter.all false
set_option maxRecDepth 100000
set_option maxHeartbeats 4000000
/-! The plain law: the rows that are kept lead to the cut. -/
namespace Bk
open PySem PySem.Spec PyProof.Rows L2
def cutE (line : List Int) (E : List (List Ev)) : List (List Ev) := E.mapIdx fun i es => es.take (line.getD i 0).toNat
def cutC (line : List Int) (c : Co) : Co := ⟨cutE line c.E, c.O.filter (keepO line)⟩
section
variable {line : List Int} {E : List (List Ev)}
theorem cutE_at {i : Nat} {es : List Ev} (h : E[i]? = some es) : (cutE line E)[i]? = some (es.take (line.getD i 0).toNat) := by
  unfold cutE
  rw [List.getElem?_mapIdx, h]
  rfl
theorem cutE_of {i : Nat} {es : List Ev} (h : (cutE line E)[i]? = some es) : ∃ es', E[i]? = some es' ∧ es = es'.take (line.getD i 0).toNat := by
  unfold cutE at h
  rw [List.getElem?_mapIdx] at h
  obtain ⟨x, h1, h2⟩ := Option.map_eq_some_iff.mp h
  exact ⟨x, h1, h2.symm⟩
theorem cutE_len : (cutE line E).length = E.length := by
  unfold cutE
  rw [List.length_mapIdx]
theorem take_at {α : Type} {l : List α} {k p : Nat} {x : α} (h : (l.take k)[p]? = some x) : p < k ∧ l[p]? = some x := by
  rw [List.getElem?_take] at h
  split at h
  · next c => exact ⟨c, h⟩
  · cases h
theorem usedAt_cut {h p : Nat} {n : Nm} : UsedAt (cutE line E) h p n ↔ UsedAt E h p n ∧ (p : Int) + 1 ≤ line.getD h 0 := by
  constructor
  · rintro ⟨es, e, h1, h2, h3⟩
    obtain ⟨es', h4, rfl⟩ := cutE_of h1
    obtain ⟨h5, h6⟩ := take_at h2
    exact ⟨⟨es', e, h4, h6, h3⟩, by omega⟩
  · rintro ⟨⟨es, e, h1, h2, h3⟩, h4⟩
    refine ⟨_, e, cutE_at h1, ?_, h3⟩
    rw [List.getElem?_take, if_pos (by omega)]
    exact h2
theorem letAt_cut {n : Nm} {lt : Lt} : letAt (cutE line E) n = some lt ↔ letAt E n = some lt ∧ n.2.1 ≤ lineAt line n.1 := by
  constructor
  · intro h
    obtain ⟨s, p, k, es, e, rfl, h1, h2, h3⟩ := letAt_some h
    obtain ⟨es', h4, rfl⟩ := cutE_of h1
    obtain ⟨h5, h6⟩ := take_at h2
    refine ⟨letAt_of h4 h6 h3, ?_⟩
    show (p : Int) + 1 ≤ line.getD ((s : Int)).toNat 0
    rw [Int.toNat_natCast]
    omega
  · rintro ⟨h, hl⟩
    obtain ⟨s, p, k, es, e, rfl, h1, h2, h3⟩ := letAt_some h
    have hl : (p : Int) + 1 ≤ line.getD ((s : Int)).toNat 0 := hl
    rw [Int.toNat_natCast] at hl
    refine letAt_of (cutE_at h1) ?_ h3
    rw [List.getElem?_take, if_pos (by omega)]
    exact h2
theorem cutE_set {i : Nat} {es : List Ev} {e : Ev} (h : E[i]? = some es) (k : ((es.length : Nat) : Int) + 1 ≤ line.getD i 0) : cutE line (E.set i (es ++ [e])) = (cutE line E).set i (es ++ [e]) := by
  have hlt := (List.getElem?_eq_some_iff.mp h).1
  apply List.ext_getElem?
  intro j
  by_cases c : j = i
  · subst c
    rw [cutE_at (List.getElem?_set_self hlt), List.getElem?_set_self (by rw [cutE_len]; exact hlt), List.take_of_length_le]
    rw [List.length_append]
    simp only [List.length_cons, List.length_nil]
    omega
  · rw [List.getElem?_set_ne (fun z => c z.symm)]
    unfold cutE
    rw [List.getElem?_mapIdx, List.getElem?_mapIdx, List.getElem?_set_ne (fun z => c z.symm)]
theorem cutE_set_no {i : Nat} {es : List Ev} {e : Ev} (h : E[i]? = some es) (k : ¬ ((es.length : Nat) : Int) + 1 ≤ line.getD i 0) : cutE line (E.set i (es ++ [e])) = cutE line E := by
  have hlt := (List.getElem?_eq_some_iff.mp h).1
  apply List.ext_getElem?
  intro j
  by_cases c : j = i
  · subst c
    rw [cutE_at (List.getElem?_set_self hlt), cutE_at h, List.take_append_of_le_length (by omega)]
  · unfold cutE
    rw [List.getElem?_mapIdx, List.getElem?_mapIdx, List.getElem?_set_ne (fun z => c z.symm)]
theorem cut_evs {c : Co} {i : Nat} (h : i < c.E.length) (k : ((c.evs i).length : Int) ≤ line.getD i 0) : (cutC line c).evs i = c.evs i := by
  have e := cutE_at (line := line) (evs_at h)
  show (cutE line c.E).getD i [] = _
  rw [List.getD_eq_getElem?_getD, e, List.take_of_length_le (by omega)]
  rfl
theorem names_keep {i : Nat} {q : Int} {n : Nat} (k : q ≤ line.getD i 0) : (namesOf (i : Nat) q n).filter (keepO line) = namesOf (i : Nat) q n := by
  rw [List.filter_eq_self]
  intro m hm
  obtain ⟨j, _, rfl⟩ := namesOf_mem hm
  refine decide_eq_true ?_
  show q ≤ line.getD ((i : Int)).toNat 0
  rw [Int.toNat_natCast]
  exact k
theorem names_drop {i : Nat} {q : Int} {n : Nat} (k : ¬ q ≤ line.getD i 0) : (namesOf (i : Nat) q n).filter (keepO line) = [] := by
  rw [List.filter_eq_nil_iff]
  intro m hm z
  obtain ⟨j, _, rfl⟩ := namesOf_mem hm
  have z : q ≤ line.getD ((i : Int)).toNat 0 := of_decide_eq_true z
  rw [Int.toNat_natCast] at z
  exact k z
theorem cut_add {d : DP} {sts : List Int} {c : Co} {i : Nat} {us : Option Nm} {wd : Option Int} (h : i < c.E.length) (k : ((c.evs i).length : Int) + 1 ≤ line.getD i 0) : cutC line (c.add d sts i us wd) = (cutC line c).add d sts i us wd := by
  have e1 := cut_evs (line := line) h (by omega)
  have e2 : stOf sts (cutC line c) i = stOf sts c i := by
    unfold stOf
    rw [e1]
  have e3 : (cutC line c).ev d sts i us wd = c.ev d sts i us wd := by
    unfold Co.ev
    rw [e2]
  unfold Co.add
  rw [e1, e3]
  unfold cutC
  show Co.mk (cutE line (c.E.set i _)) ((c.O ++ _).filter _) = Co.mk _ _
  rw [cutE_set (evs_at h) k, List.filter_append, names_keep k]
theorem cut_add_no {d : DP} {sts : List Int} {c : Co} {i : Nat} {us : Option Nm} {wd : Option Int} (h : i < c.E.length) (k : ¬ ((c.evs i).length : Int) + 1 ≤ line.getD i 0) : cutC line (c.add d sts i us wd) = cutC line c := by
  unfold cutC
  show Co.mk (cutE line (c.E.set i _)) ((c.O ++ namesOf _ _ _).filter _) = Co.mk _ _
  rw [cutE_set_no (evs_at h) k, List.filter_append, names_drop k, List.append_nil]
end
theorem evs_add {d : DP} {sts : List Int} {c : Co} {i : Nat} {us : Option Nm} {wd : Option Int} (h : i < c.E.length) : (c.add d sts i us wd).evs i = c.evs i ++ [c.ev d sts i us wd] := by
  show (c.E.set i _).getD i [] = _
  rw [List.getD_eq_getElem?_getD, List.getElem?_set_self h]
  rfl
/-- a line at which no kept use is of a letter that is not kept -/
def SoundD (D : List (Row × Int)) (line : List Int) : Prop := ∀ h n pl, (Row.use h n, pl) ∈ D → pl ≤ lineAt line h → n.2.1 ≤ lineAt line n.1
theorem mayUse_cut {o : Bool} {c : Co} {D : List (Row × Int)} {many : Nat} {line : List Int} {i : Nat} {n : Nm} (I : CInv many c D) (hi : i < many) (u : MayUse o c ((i : Nat) : Int) n) (k : ((c.evs i).length : Int) ≤ line.getD i 0) (s : n.2.1 ≤ lineAt line n.1) :
    MayUse o (cutC line c) ((i : Nat) : Int) n := by
  obtain ⟨⟨w1, ⟨w, w2⟩, w3⟩, f⟩ := u
  refine ⟨⟨List.mem_filter.mpr ⟨w1, decide_eq_true s⟩, ⟨w, letAt_cut.mpr ⟨w2, s⟩⟩, ?_⟩, fun ho => ?_⟩
  · rintro ⟨h, p, z⟩
    exact w3 ⟨h, p, (usedAt_cut.mp z).1⟩
  · obtain ⟨A, B, e, ha⟩ := f ho
    refine ⟨A.filter (keepO line), B.filter (keepO line), ?_, fun m hm e1 => ?_⟩
    · show c.O.filter (keepO line) = _
      rw [e, List.filter_append, List.filter_cons_of_pos (show keepO line n = true from decide_eq_true s)]
    · have hm := (List.mem_filter.mp hm).1
      rintro ⟨_, ⟨w', z2⟩, z3⟩
      have z2 := (letAt_cut.mp z2).1
      refine ha m hm e1 ⟨by rw [e]; exact List.mem_append.mpr (.inl hm), ⟨w', z2⟩, ?_⟩
      rintro ⟨h', p', z4⟩
      obtain ⟨w'', z5⟩ := I.used h' p' m z4
      rw [z2] at z5
      have e2 : h' = i := by
        have z6 := congrArg Prod.fst (Option.some.inj z5)
        have z6 : ((i : Nat) : Int) = ((h' : Nat) : Int) := z6
        omega
      subst e2
      refine z3 ⟨h', p', usedAt_cut.mpr ⟨z4, ?_⟩⟩
      obtain ⟨es, ev, z7, z8, _⟩ := z4
      have z9 := evs_at (c := c) (List.getElem?_eq_some_iff.mp z7).1
      rw [z7] at z9
      have z9 := Option.some.inj z9
      have z10 := (List.getElem?_eq_some_iff.mp z8).1
      rw [z9] at z10
      omega
theorem hist_cut {d : DP} {sts : List Int} {o : Bool} {line : List Int} {c : Co} {D : List (Row × Int)} (H : Hist d sts o c D) : SoundD D line → Hist d sts o (cutC line c) (D.filter (keepD line)) := by
  induction H with
  | nil =>
    intro _
    have e : cutC line ⟨List.replicate sts.length [], []⟩ = ⟨List.replicate sts.length [], []⟩ := by
      unfold cutC
      have e1 : cutE line (List.replicate sts.length ([] : List Ev)) = List.replicate sts.length [] := by
        apply List.ext_getElem?
        intro i
        unfold cutE
        rw [List.getElem?_mapIdx, List.getElem?_replicate]
        split <;> simp
      show Co.mk (cutE line (List.replicate sts.length [])) (([] : List Nm).filter _) = _
      rw [e1]
      rfl
    rw [e]
    exact .nil
  | @snoc c D r H ok ih =>
    intro S
    have I := H.inv
    have S0 : SoundD D line := fun h n pl m => S h n pl (List.mem_append.mpr (.inl m))
    have K := ih S0
    obtain ⟨⟨i, hr, hi⟩, ok2⟩ := ok
    have hiE : i < c.E.length := by rw [I.lenE]; exact hi
    have hand : ∀ {x : Row}, x.hand = (i : Nat) → x.hand.toNat = i := fun {x} e => by rw [e]; exact Int.toNat_natCast i
    rw [List.filter_append]
    have one : ∀ (pl : Int), keepD line (r, pl) = decide (pl ≤ line.getD i 0) := fun pl => by
      show decide (pl ≤ line.getD r.hand.toNat 0) = _
      rw [hand hr]
    have filt : ∀ (pl : Int), [(r, pl)].filter (keepD line) = if pl ≤ line.getD i 0 then [(r, pl)] else [] := fun pl => by
      rw [List.filter_cons, one]
      by_cases z : pl ≤ line.getD i 0
      · rw [decide_eq_true z, if_pos z]
        rfl
      · rw [decide_eq_false z, if_neg z]
        rfl
    -- a deed
    have deed : ∀ (us : Option Nm) (wd : Option Int), c.step d sts r = c.add d sts i us wd → (((c.evs i).length : Int) + 1 ≤ line.getD i 0 → (cutC line c).step d sts r = (cutC line c).add d sts i us wd ∧ RowOk o sts.length (cutC line c) r) →
        Hist d sts o (cutC line (c.step d sts r)) (D.filter (keepD line) ++ [(r, ((((c.step d sts r).evs r.hand.toNat).length : Nat) : Int))].filter (keepD line)) := fun us wd e k => by
      rw [filt, e, hand hr, evs_add hiE, List.length_append]
      simp only [List.length_cons, List.length_nil]
      by_cases q : ((c.evs i).length : Int) + 1 ≤ line.getD i 0
      · have q' : (((c.evs i).length + (0 + 1) : Nat) : Int) ≤ line.getD i 0 := by omega
        rw [if_pos q', cut_add hiE q]
        obtain ⟨k1, k2⟩ := k q
        have z := Hist.snoc K k2
        rw [k1, hand hr, evs_add (by show i < (cutE line c.E).length; rw [cutE_len]; exact hiE), cut_evs hiE (by omega), List.length_append] at z
        exact z
      · have q' : ¬ (((c.evs i).length + (0 + 1) : Nat) : Int) ≤ line.getD i 0 := by omega
        rw [if_neg q', cut_add_no hiE q, List.append_nil]
        exact K
    cases r with
    | own h =>
      have hh : h.toNat = i := hand (x := .own h) hr
      refine deed none none ?_ fun _ => ⟨?_, ⟨i, hr, hi⟩, fun h n z => nomatch z⟩
      · show c.add d sts h.toNat none none = _
        rw [hh]
      · show (cutC line c).add d sts h.toNat none none = _
        rw [hh]
    | use h n =>
      have hh : h.toNat = i := hand (x := .use h n) hr
      have hh' : h = (i : Int) := hr
      have u := ok2 h n rfl
      refine deed (some n) (c.word n) ?_ fun q => ?_
      · show c.add d sts h.toNat (some n) (c.word n) = _
        rw [hh]
      · have s : n.2.1 ≤ lineAt line n.1 := by
          refine S h n _ (List.mem_append.mpr (.inr List.mem_cons_self)) ?_
          show ((((c.add d sts h.toNat (some n) (c.word n)).evs h.toNat).length : Nat) : Int) ≤ line.getD h.toNat 0
          rw [hh, evs_add hiE, List.length_append]
          simp only [List.length_cons, List.length_nil]
          omega
        have hw : (cutC line c).word n = c.word n := by
          obtain ⟨⟨_, ⟨w, w2⟩, _⟩, _⟩ := u
          unfold Co.word
          rw [w2, show letAt (cutC line c).E n = some (h, w) from letAt_cut.mpr ⟨w2, s⟩]
        refine ⟨?_, ⟨i, hr, hi⟩, fun h' n' z => ?_⟩
        · show (cutC line c).add d sts h.toNat (some n) ((cutC line c).word n) = _
          rw [hh, hw]
        · cases z
          rw [hh'] at u ⊢
          exact mayUse_cut I hi u (by omega) s
    | write h =>
      have hh : h.toNat = i := hand (x := .write h) hr
      show Hist d sts o (cutC line c) (D.filter (keepD line) ++ [(Row.write h, (((c.evs h.toNat).length : Nat) : Int))].filter (keepD line))
      rw [filt, hh]
      by_cases q : (((c.evs i).length : Nat) : Int) ≤ line.getD i 0
      · rw [if_pos q]
        have z := Hist.snoc K (r := .write h) ⟨⟨i, hr, hi⟩, fun h n z => nomatch z⟩
        have e : ((cutC line c).step d sts (.write h)).evs (Row.write h).hand.toNat = c.evs i := by
          show (cutC line c).evs h.toNat = _
          rw [hh]
          exact cut_evs hiE q
        rw [e] at z
        exact z
      · rw [if_neg q, List.append_nil]
        exact K
/-! ### a history, row by row -/
theorem Hist.det {d : DP} {sts : List Int} {o : Bool} {c : Co} {D : List (Row × Int)} (H : Hist d sts o c D) : c = (D.map (·.1)).foldl (fun c r => c.step d sts r) ⟨List.replicate sts.length [], []⟩ := by
  induction H with
  | nil => rfl
  | @snoc c D r H ok ih =>
    rw [List.map_append, List.foldl_append, ← ih]
    rfl
theorem Hist.part {d : DP} {sts : List Int} {o : Bool} {c : Co} {D : List (Row × Int)} (H : Hist d sts o c D) : ∀ i, i ≤ D.length → ∃ ci, Hist d sts o ci (D.take i) ∧ ∀ x, D[i]? = some x → RowOk o sts.length ci x.1 := by
  induction H with
  | nil =>
    intro i hi
    have : i = 0 := Nat.le_zero.mp hi
    subst this
    exact ⟨_, .nil, (fun x h => by simp at h)⟩
  | @snoc c D r H ok ih =>
    intro i hi
    rw [List.length_append] at hi
    simp only [List.length_cons, List.length_nil] at hi
    by_cases q : i ≤ D.length
    · by_cases q2 : i = D.length
      · subst q2
        refine ⟨c, ?_, fun x hx => ?_⟩
        · rw [List.take_append_of_le_length (Nat.le_refl _), List.take_length]
          exact H
        · rw [List.getElem?_concat_length] at hx
          cases hx
          exact ok
      · obtain ⟨ci, h1, h2⟩ := ih i q
        refine ⟨ci, ?_, fun x hx => ?_⟩
        · rw [List.take_append_of_le_length q]
          exact h1
        · rw [List.getElem?_append_left (by omega)] at hx
          exact h2 x hx
    · have : i = D.length + 1 := by omega
      subst this
      refine ⟨c.step d sts r, ?_, fun x hx => ?_⟩
      · rw [List.take_of_length_le (by rw [List.length_append]; exact Nat.le_refl _)]
        exact .snoc H ok
      · rw [List.getElem?_eq_none (by rw [List.length_append]; exact Nat.le_refl _)] at hx
        cases hx
end Bk
set_option Elab.async false
set_option linter.all false
set_option maxRecDepth 100000
set_option maxHeartbeats 4000000
/-! The plain law: the loom and what rows lead to; who may use what. -/
namespace Bk
open PySem PySem.Spec PyProof.Rows L2
def Lm.act (d : DP) (L : Lm) : Row → Lm
  | .own h => L.doOwn d h.toNat
  | .use h n => L.doUse d h.toNat n ((L.co.word n).getD 0)
  | .write h => L.doWrite h.toNat
structure LmInv (d : DP) (sts : List Int) (o : Bool) (c : Co) (D : List (Row × Int)) (m : Nat) (L : Lm) : Prop where
  many : L.many = sts.length
  ord : L.ord = o
  starts : L.thr.map (·.start) = sts
  co : L.co = c
  done : L.done = D
  thr : ∀ t ∈ L.thr, t.Ok m
  h : Hist d sts o c D
  mD : D.length ≤ m
theorem LmInv.ok {d : DP} {sts : List Int} {o : Bool} {c : Co} {D : List (Row × Int)} {m : Nat} {L : Lm} (X : LmInv d sts o c D m L) : L.Ok m := by
  refine ⟨X.thr, by rw [X.done]; exact X.mD, ?_⟩
  have h1 := X.h.inv.lenO
  have h2 : L.order.length = c.O.length := by rw [← X.co]; rfl
  have := X.mD
  omega
theorem Thr.Ok.mono {m n : Nat} {t : Thr} (k : t.Ok m) (h : m ≤ n) : t.Ok n := ⟨k.hd, k.rg, k.pl, Nat.le_trans k.ln h, Nat.le_trans k.lw (by omega), k.sn⟩
theorem here_do (t : Thr) (e : Ev) : (t.doEv e).here = t.here + 1 := by
  unfold Thr.doEv Thr.here
  show (((t.evs ++ [e]).length : Nat) : Int) = _
  rw [List.length_append]
  rfl
theorem Thr.Ok.doEv {m : Nat} {t : Thr} {e : Ev} (k : t.Ok m) (he : e.sent.length ≤ 3) : (t.doEv e).Ok (m + 1) := by
  have hp := k.pl
  refine ⟨k.hd, fun x hx => ?_, ?_, ?_, Nat.le_trans k.lw (by omega), fun x hx => ?_⟩
  · have := k.rg x hx
    rw [here_do]
    omega
  · rw [here_do]
    show 0 ≤ t.hab.piled t.pile ∧ t.hab.piled t.pile ≤ t.here + 1
    cases t.hab with
    | never => exact ⟨by show 0 ≤ t.pile + 1; omega, by show t.pile + 1 ≤ t.here + 1; omega⟩
    | each => exact ⟨Int.le_refl _, by show 0 ≤ t.here + 1; omega⟩
    | bundle n =>
      show 0 ≤ (if t.pile + 1 ≥ n then 0 else t.pile + 1) ∧ (if t.pile + 1 ≥ n then 0 else t.pile + 1) ≤ t.here + 1
      split <;> omega
  · show (t.evs ++ [e]).length ≤ m + 1
    rw [List.length_append]
    exact Nat.add_le_add_right k.ln 1
  · rcases List.mem_append.mp (show x ∈ t.evs ++ [e] from hx) with hx | hx
    · exact k.sn x hx
    · rw [List.mem_singleton.mp hx]
      exact he
theorem Thr.Ok.write {m : Nat} {t : Thr} (k : t.Ok m) : t.write.Ok (m + 1) := by
  have hp := k.pl
  have hh := here_nn t
  refine ⟨?_, fun x hx => ?_, ?_, Nat.le_trans k.ln (by omega), ?_, k.sn⟩
  · obtain ⟨r, e⟩ := k.hd
    show ∃ r, (if t.here ∈ t.wr then t.wr else t.wr ++ [t.here]) = 0 :: r
    split
    · exact ⟨r, e⟩
    · exact ⟨r ++ [t.here], by rw [e]; rfl⟩
  · have hx : x ∈ (if t.here ∈ t.wr then t.wr else t.wr ++ [t.here]) := hx
    show 0 ≤ x ∧ x ≤ t.here
    split at hx
    · exact k.rg x hx
    · rcases List.mem_append.mp hx with hx | hx
      · exact k.rg x hx
      · rw [List.mem_singleton.mp hx]
        omega
  · show 0 ≤ (if t.hab.writes then 0 else t.pile) ∧ (if t.hab.writes then 0 else t.pile) ≤ t.here
    split <;> omega
  · show (if t.here ∈ t.wr then t.wr else t.wr ++ [t.here]).length ≤ _
    have := k.lw
    split
    · omega
    · rw [List.length_append]
      simp only [List.length_cons, List.length_nil]
      omega
theorem map_set {α β : Type} (f : α → β) {l : List α} {i : Nat} {x y : α} (h : l[i]? = some x) (e : f y = f x) : (l.set i y).map f = l.map f := by
  apply List.ext_getElem?
  intro j
  rw [List.getElem?_map, List.getElem?_map]
  by_cases c : j = i
  · subst c
    rw [List.getElem?_set_self (List.getElem?_eq_some_iff.mp h).1, h]
    exact congrArg some e
  · rw [List.getElem?_set_ne (fun z => c z.symm)]
theorem mem_set_or {α : Type} {l : List α} {i : Nat} {x y : α} (h : x ∈ l.set i y) : x ∈ l ∨ x = y := List.mem_or_eq_of_mem_set h
section
variable {d : DP} {sts : List Int} {o : Bool} {c : Co} {D : List (Row × Int)} {m : Nat} {L : Lm}
theorem LmInv.at_ (X : LmInv d sts o c D m L) {i : Nat} (hi : i < sts.length) : ∃ t, L.thr[i]? = some t ∧ c.evs i = t.evs ∧ sts.getD i 0 = t.start ∧ i < c.E.length ∧ stOf sts c i = t.state := by
  have hl : i < L.thr.length := by
    have := congrArg List.length X.starts
    rw [List.length_map] at this
    omega
  have h1 : L.thr[i]? = some L.thr[i] := List.getElem?_eq_getElem hl
  have h2 : c.evs i = L.thr[i].evs := by
    rw [← X.co]
    show (L.thr.map (·.evs)).getD i [] = _
    rw [List.getD_eq_getElem?_getD, List.getElem?_map, h1]
    rfl
  have h3 : sts.getD i 0 = L.thr[i].start := by
    have e : sts[i]? = some L.thr[i].start := by
      rw [← X.starts, List.getElem?_map, h1]
      rfl
    rw [List.getD_eq_getElem?_getD, e]
    rfl
  refine ⟨L.thr[i], h1, h2, h3, by rw [X.h.inv.lenE]; exact hi, ?_⟩
  unfold stOf Thr.state
  rw [h2, h3]
  all_goals (cases L.thr[i].evs.getLast? <;> rfl)
theorem addEv_eq (X : LmInv d sts o c D m L) {i : Nat} (hi : i < sts.length) (us : Option Nm) (wd : Option Int) : ∃ t e, L.thr[i]? = some t ∧ e = c.ev d sts i us wd ∧
    L.addEv d i us wd = { L with thr := L.thr.set i (t.doEv e), order := L.order ++ namesOf (i : Nat) (t.here + 1) e.sent.length } ∧ t.here = ((c.evs i).length : Nat) := by
  obtain ⟨t, h1, h2, h3, h4, h5⟩ := X.at_ hi
  refine ⟨t, _, h1, rfl, ?_, ?_⟩
  · unfold Lm.addEv Co.ev
    rw [h1, h5]
  · rw [h2]
    rfl
theorem addEv_inv (X : LmInv d sts o c D m L) {i : Nat} (hi : i < sts.length) (us : Option Nm) (wd : Option Int) :
    (L.addEv d i us wd).many = sts.length ∧ (L.addEv d i us wd).ord = o ∧ (L.addEv d i us wd).thr.map (·.start) = sts ∧ (L.addEv d i us wd).co = c.add d sts i us wd ∧ (L.addEv d i us wd).done = D ∧ (∀ t ∈ (L.addEv d i us wd).thr, t.Ok (m + 1)) ∧
      (L.addEv d i us wd).hereOf i = ((((c.add d sts i us wd).evs i).length : Nat) : Int) := by
  obtain ⟨t, e, h1, he, h2, h3⟩ := addEv_eq X hi us wd
  have hiE : i < c.E.length := by rw [X.h.inv.lenE]; exact hi
  have hsl : e.sent.length ≤ 3 := by rw [he]; exact DP.fn_len _ _ _ _
  have het : c.evs i = t.evs := by
    obtain ⟨t', h1', h2', _⟩ := X.at_ hi
    rw [h1] at h1'
    cases h1'
    exact h2'
  rw [h2]
  refine ⟨X.many, X.ord, ?_, ?_, X.done, fun u hu => ?_, ?_⟩
  · show (L.thr.set i (t.doEv e)).map _ = _
    rw [map_set (fun z : Thr => z.start) h1 (y := t.doEv e) rfl]
    exact X.starts
  · show Co.mk ((L.thr.set i (t.doEv e)).map (·.evs)) (L.order ++ namesOf (i : Nat) (t.here + 1) e.sent.length) = _
    have e1 : L.thr.map (·.evs) = c.E := congrArg Co.E X.co
    have e2 : L.order = c.O := congrArg Co.O X.co
    have e3 : (L.thr.set i (t.doEv e)).map (·.evs) = c.E.set i (c.evs i ++ [e]) := by
      rw [List.map_set, e1, het]
      rfl
    rw [e3, e2, h3, he]
    rfl
  · rcases mem_set_or (show u ∈ L.thr.set i (t.doEv e) from hu) with hu | rfl
    · exact (X.thr u hu).mono (Nat.le_succ m)
    · exact (X.thr t (List.mem_of_getElem? h1)).doEv hsl
  · unfold Lm.hereOf
    show (match (L.thr.set i (t.doEv e))[i]? with | some t => t.here | none => 0) = _
    rw [List.getElem?_set_self (List.getElem?_eq_some_iff.mp h1).1, evs_add hiE, List.length_append]
    show (t.doEv e).here = _
    rw [here_do, h3]
    rfl
theorem LmInv.step (X : LmInv d sts o c D m L) {r : Row} (ok : RowOk o sts.length c r) : LmInv d sts o (c.step d sts r) (D ++ [(r, ((((c.step d sts r).evs r.hand.toNat).length : Nat) : Int))]) (m + 1) (L.act d r) := by
  have HH := Hist.snoc X.h ok
  have hm : (D ++ [(r, ((((c.step d sts r).evs r.hand.toNat).length : Nat) : Int))]).length ≤ m + 1 := by
    rw [List.length_append]
    exact Nat.add_le_add_right X.mD 1
  obtain ⟨⟨i, hr, hi⟩, ok2⟩ := ok
  have ht : r.hand.toNat = i := by rw [hr]; exact Int.toNat_natCast i
  cases r with
  | own h =>
    have hh : h = (i : Int) := hr
    subst hh
    obtain ⟨a1, a2, a3, a4, a5, a6, a7⟩ := addEv_inv X hi none none
    have ht : ((i : Int)).toNat = i := Int.toNat_natCast i
    have es : c.step d sts (.own (i : Int)) = c.add d sts i none none := by
      show c.add d sts ((i : Int)).toNat none none = _
      rw [ht]
    refine ⟨a1, a2, a3, ?_, ?_, a6, HH, hm⟩
    · rw [es, ← a4, ← ht]
      rfl
    · show (L.addEv d ((i : Int)).toNat none none).done ++ [(Row.own ((((i : Int)).toNat : Nat) : Int), (L.addEv d ((i : Int)).toNat none none).hereOf ((i : Int)).toNat)] = D ++ [(Row.own (i : Int), ((((c.step d sts (.own (i : Int))).evs ((i : Int)).toNat).length : Nat) : Int))]
      rw [ht, a5, a7, es]
  | use h n =>
    have hh : h = (i : Int) := hr
    subst hh
    obtain ⟨⟨_, ⟨w, w2⟩, _⟩, _⟩ := ok2 _ n rfl
    have ew : c.word n = some w := by
      unfold Co.word
      rw [w2]
      rfl
    have ew2 : (L.co.word n).getD 0 = w := by
      rw [X.co, ew]
      rfl
    obtain ⟨a1, a2, a3, a4, a5, a6, a7⟩ := addEv_inv X hi (some n) (some w)
    have ht : ((i : Int)).toNat = i := Int.toNat_natCast i
    have es : c.step d sts (.use (i : Int) n) = c.add d sts i (some n) (some w) := by
      show c.add d sts ((i : Int)).toNat (some n) (c.word n) = _
      rw [ht, ew]
    have ea : L.act d (.use (i : Int) n) = (L.addEv d i (some n) (some w)).log (.use (i : Int) n) i := by
      show L.doUse d ((i : Int)).toNat n ((L.co.word n).getD 0) = _
      rw [ht, ew2]
      rfl
    rw [ea]
    refine ⟨a1, a2, a3, ?_, ?_, a6, HH, hm⟩
    · rw [es, ← a4]
      rfl
    · show (L.addEv d i (some n) (some w)).done ++ [(Row.use (i : Int) n, (L.addEv d i (some n) (some w)).hereOf i)] = D ++ [(Row.use (i : Int) n, ((((c.step d sts (.use (i : Int) n)).evs ((i : Int)).toNat).length : Nat) : Int))]
      rw [ht, a5, a7, es]
  | write h =>
    have hh : h = (i : Int) := hr
    subst hh
    obtain ⟨t, h1, h2, h3, h4, h5⟩ := X.at_ hi
    have hl := (List.getElem?_eq_some_iff.mp h1).1
    have ht : ((i : Int)).toNat = i := Int.toNat_natCast i
    have ea : L.act d (.write (i : Int)) = { L with thr := L.thr.set i t.write, done := L.done ++ [(.write (i : Int), t.write.here)] } := by
      show L.doWrite ((i : Int)).toNat = _
      rw [ht]
      unfold Lm.doWrite
      rw [h1]
      show Lm.log _ _ _ = _
      unfold Lm.log Lm.hereOf
      rw [List.getElem?_set_self hl]
    rw [ea]
    refine ⟨X.many, X.ord, ?_, ?_, ?_, fun u hu => ?_, HH, hm⟩
    · show (L.thr.set i t.write).map _ = _
      rw [map_set (fun z : Thr => z.start) h1 (y := t.write) rfl]
      exact X.starts
    · show Co.mk ((L.thr.set i t.write).map (·.evs)) L.order = c
      rw [map_set (fun z : Thr => z.evs) h1 (y := t.write) rfl]
      exact X.co
    · show L.done ++ [(Row.write (i : Int), t.write.here)] = D ++ [(Row.write (i : Int), (((c.evs ((i : Int)).toNat).length : Nat) : Int))]
      rw [X.done, ht, h2]
      rfl
    · rcases mem_set_or (show u ∈ L.thr.set i t.write from hu) with hu | rfl
      · exact (X.thr u hu).mono (Nat.le_succ m)
      · exact (X.thr t (List.mem_of_getElem? h1)).write
theorem LmInv.new {hbs : List Hab} (hl : hbs.length = sts.length) : LmInv d sts o ⟨List.replicate sts.length [], []⟩ [] 0 (Lm.new o sts hbs) := by
  have e1 : ((sts.zip hbs).map fun z => Thr.new z.1 z.2).map (·.start) = sts := by
    rw [List.map_map]
    have : ((fun z : Thr => z.start) ∘ fun z : Int × Hab => Thr.new z.1 z.2) = Prod.fst := rfl
    rw [this, List.map_fst_zip (by omega)]
  have e2 : ((sts.zip hbs).map fun z => Thr.new z.1 z.2).map (·.evs) = List.replicate sts.length [] := by
    rw [List.map_map]
    have : ((fun z : Thr => z.evs) ∘ fun z : Int × Hab => Thr.new z.1 z.2) = fun _ => [] := rfl
    rw [this, List.map_const', List.length_zip, hl, Nat.min_self]
  refine ⟨rfl, rfl, e1, ?_, rfl, fun t ht => ?_, .nil, Nat.le_refl _⟩
  · show Co.mk (((sts.zip hbs).map fun z => Thr.new z.1 z.2).map (·.evs)) [] = _
    rw [e2]
  · obtain ⟨z, _, rfl⟩ := List.mem_map.mp (show t ∈ (sts.zip hbs).map fun z => Thr.new z.1 z.2 from ht)
    refine ⟨⟨[], rfl⟩, fun x hx => ?_, ⟨Int.le_refl _, Int.le_refl _⟩, Nat.le_refl _, Nat.le_refl _, fun e he => nomatch he⟩
    rw [List.mem_singleton.mp (show x ∈ [0] from hx)]
    exact ⟨Int.le_refl _, Int.le_refl _⟩
/-! ### back to a line -/
theorem cut_evs_eq {t : Thr} {p : Int} {st : Bool} : (t.cut p st).evs = t.evs.take p.toNat := by
  unfold Thr.cut
  split
  · next h =>
    rw [h.2]
    unfold Thr.here
    rw [Int.toNat_natCast, List.take_length]
  · rfl
theorem cut_start {t : Thr} {p : Int} {st : Bool} : (t.cut p st).start = t.start := by
  unfold Thr.cut
  split <;> rfl
theorem Thr.Ok.cut {t : Thr} {p : Int} {st : Bool} (k : t.Ok m) (co : t.CutOk p st) : (t.cut p st).Ok m := by
  by_cases h : st = true ∧ p = t.here
  · have e : t.cut p st = t := if_pos h
    rw [e]
    exact k
  · have e : t.cut p st = { t with evs := t.evs.take p.toNat, wr := t.wr.filter fun x => decide (x ≤ p), pile := 0 } := if_neg h
    obtain ⟨h0, h1⟩ := points_rg k (co.resolve_left h)
    have hh : (t.cut p st).here = p := by
      rw [e]
      show (((t.evs.take p.toNat).length : Nat) : Int) = p
      rw [List.length_take]
      unfold Thr.here at h1
      omega
    refine ⟨?_, fun x hx => ?_, ?_, ?_, ?_, fun x hx => ?_⟩
    · obtain ⟨r, e2⟩ := k.hd
      rw [e]
      show ∃ r, (t.wr.filter fun x => decide (x ≤ p)) = 0 :: r
      refine ⟨r.filter fun x => decide (x ≤ p), ?_⟩
      rw [e2, List.filter_cons]
      show (if decide ((0 : Int) ≤ p) = true then _ else _) = _
      rw [if_pos (decide_eq_true h0)]
    · rw [hh]
      rw [e] at hx
      have hx : x ∈ t.wr.filter fun x => decide (x ≤ p) := hx
      obtain ⟨h2, h3⟩ := List.mem_filter.mp hx
      exact ⟨(k.rg x h2).1, of_decide_eq_true h3⟩
    · rw [hh]
      rw [e]
      exact ⟨Int.le_refl _, h0⟩
    · rw [cut_evs_eq, List.length_take]
      have := k.ln
      omega
    · rw [e]
      show (t.wr.filter fun x => decide (x ≤ p)).length ≤ _
      exact Nat.le_trans (List.length_filter_le _ _) k.lw
    · rw [cut_evs_eq] at hx
      exact k.sn x (List.mem_of_mem_take hx)
/-- no used letter breaks the line -/
def SoundE (E : List (List Ev)) (line : List Int) : Prop := ∀ n q lt, (n, q) ∈ usedAll [] E → letAt E n = some lt → q ≤ lineAt line lt.1 → n.2.1 ≤ lineAt line n.1
theorem CInv.sound {many : Nat} {line : List Int} (I : CInv many c D) (S : SoundE c.E line) : SoundD D line := by
  intro h n pl hx hp
  obtain ⟨i, p, rfl, rfl, hu⟩ := I.useD h n pl hx
  obtain ⟨q, hq⟩ := (usedAll_key0 [] c.E).1 i p n hu
  obtain ⟨i', p', hu', rfl⟩ := usedAll_mem hq
  obtain ⟨rfl, rfl⟩ := I.uniq _ _ _ _ _ hu hu'
  obtain ⟨w, hw⟩ := I.used i p n hu
  exact S n _ _ hq hw hp
theorem LmInv.goTo {line fallen : List Int} (X : LmInv d sts o c D m L) (K : L.LineOk line fallen) (S : SoundE L.evss line) : LmInv d sts o (cutC line c) (D.filter (keepD line)) m (L.goTo line fallen) := by
  have tl : L.thr.length = L.many := by
    have := congrArg List.length X.starts
    rw [List.length_map] at this
    rw [X.many, this]
  have eE : L.evss = c.E := congrArg Co.E X.co
  rw [eE] at S
  have at_ : ∀ i, (L.cutN line fallen L.many)[i]? = (L.thr[i]?).map (fun t : Thr => t.cut (line.getD i 0) (!decide (((i : Nat) : Int) ∈ fallen))) := fun i => by
    unfold Lm.cutN
    rw [List.getElem?_mapIdx]
    cases h : L.thr[i]? with
    | none => rfl
    | some t =>
      have hl := (List.getElem?_eq_some_iff.mp h).1
      show some (if i < L.many then _ else _) = _
      rw [if_pos (by omega)]
      rfl
  refine ⟨X.many, X.ord, ?_, ?_, ?_, fun t ht => ?_, hist_cut X.h (X.h.inv.sound S), Nat.le_trans (List.length_filter_le _ _) X.mD⟩
  · rw [← X.starts]
    apply List.ext_getElem?
    intro i
    show ((L.cutN line fallen L.many).map _)[i]? = _
    rw [List.getElem?_map, List.getElem?_map, at_, Option.map_map]
    congr 1
    funext t
    exact cut_start
  · show Co.mk ((L.cutN line fallen L.many).map (·.evs)) (L.order.filter (keepO line)) = Co.mk (cutE line c.E) (c.O.filter (keepO line))
    have e2 : L.order = c.O := congrArg Co.O X.co
    have e3 : (L.cutN line fallen L.many).map (·.evs) = cutE line c.E := by
      rw [← eE]
      apply List.ext_getElem?
      intro i
      unfold cutE Lm.evss
      rw [List.getElem?_map, at_, List.getElem?_mapIdx, List.getElem?_map, Option.map_map, Option.map_map]
      congr 1
      funext t
      exact cut_evs_eq
    rw [e2, e3]
  · show L.done.filter (keepD line) = _
    rw [X.done]
  · obtain ⟨i, hi⟩ := List.mem_iff_getElem?.mp (show t ∈ L.cutN line fallen L.many from ht)
    rw [at_] at hi
    obtain ⟨t0, h1, rfl⟩ := Option.map_eq_some_iff.mp hi
    exact (X.thr t0 (List.mem_of_getElem? h1)).cut (K.cut i t0 h1)
end
/-! ### the letters that may be used -/
open Classical in
noncomputable def usedB (E : List (List Ev)) (n : Nm) : Bool := (lookU (usedAll [] E) n).isSome
theorem usedB_iff {E : List (List Ev)} {n : Nm} : usedB E n = true ↔ UsedIn E n := lookU_all E n
def recv (E : List (List Ev)) (n : Nm) : Int := ((letAt E n).map (·.1)).getD 0
noncomputable def freeGo (E : List (List Ev)) (o : Bool) : List (Int × Int) → List Nm → List (Int × Nm)
  | _, [] => []
  | ways, n :: r => if usedB E n = true then freeGo E o ways r else (if o = false ∨ (n.1, recv E n) ∉ ways then [(recv E n, n)] else []) ++ freeGo E o (ways ++ [(n.1, recv E n)]) r
theorem freeGo_mem {E : List (List Ev)} {o : Bool} {h : Int} {n : Nm} : ∀ {R : List Nm} {ways : List (Int × Int)}, (h, n) ∈ freeGo E o ways R ↔
    ∃ A B, R = A ++ n :: B ∧ usedB E n = false ∧ recv E n = h ∧ (o = true → (n.1, h) ∉ ways ∧ ∀ m ∈ A, usedB E m = false → ¬ (m.1 = n.1 ∧ recv E m = h))
  | [], ways => by
    constructor
    · intro z
      cases z
    · rintro ⟨A, B, e, _⟩
      cases A <;> cases e
  | x :: r, ways => by
    unfold freeGo
    by_cases u : usedB E x = true
    · rw [if_pos u, freeGo_mem]
      constructor
      · rintro ⟨A, B, e, h1, h2, h3⟩
        refine ⟨x :: A, B, by rw [e]; rfl, h1, h2, fun ho => ⟨(h3 ho).1, fun m hm hu => ?_⟩⟩
        rcases List.mem_cons.mp hm with rfl | hm
        · rw [u] at hu
          cases hu
        · exact (h3 ho).2 m hm hu
      · rintro ⟨A, B, e, h1, h2, h3⟩
        cases A with
        | nil =>
          cases e
          rw [u] at h1
          cases h1
        | cons y A =>
          cases e
          exact ⟨A, B, rfl, h1, h2, fun ho => ⟨(h3 ho).1, fun m hm hu => (h3 ho).2 m (List.mem_cons_of_mem _ hm) hu⟩⟩
    · rw [if_neg u, List.mem_append, freeGo_mem]
      have u' : usedB E x = false := by simpa using u
      constructor
      · rintro (z | ⟨A, B, e, h1, h2, h3⟩)
        · split at z
          · next c =>
            cases List.mem_singleton.mp z
            refine ⟨[], r, rfl, u', rfl, fun ho => ⟨?_, (fun m hm => nomatch hm)⟩⟩
            rcases c with c | c
            · rw [c] at ho
              cases ho
            · exact c
          · cases z
        · refine ⟨x :: A, B, by rw [e]; rfl, h1, h2, fun ho => ⟨fun q => (h3 ho).1 (List.mem_append.mpr (.inl q)), fun m hm hu => ?_⟩⟩
          rcases List.mem_cons.mp hm with rfl | hm
          · rintro ⟨e1, e2⟩
            refine (h3 ho).1 (List.mem_append.mpr (.inr ?_))
            rw [e1, e2]
            exact List.mem_cons_self
          · exact (h3 ho).2 m hm hu
      · rintro ⟨A, B, e, h1, h2, h3⟩
        cases A with
        | nil =>
          cases e
          refine .inl ?_
          have c : o = false ∨ (n.1, recv E n) ∉ ways := by
            cases ho : o with
            | false => exact .inl rfl
            | true =>
              refine .inr ?_
              rw [h2]
              exact (h3 ho).1
          rw [if_pos c, h2]
          exact List.mem_cons_self
        | cons y A =>
          cases e
          refine .inr ⟨A, B, rfl, h1, h2, fun ho => ⟨fun q => ?_, fun m hm hu => (h3 ho).2 m (List.mem_cons_of_mem _ hm) hu⟩⟩
          rcases List.mem_append.mp q with q | q
          · exact (h3 ho).1 q
          · have q := List.mem_singleton.mp q
            have q1 := congrArg Prod.fst q
            have q2 := congrArg Prod.snd q
            exact (h3 ho).2 x List.mem_cons_self u' ⟨q1.symm, q2.symm⟩
theorem recv_iff {c : Co} {h : Int} {n : Nm} (hs : ∃ lt, letAt c.E n = some lt) : recv c.E n = h ↔ ∃ w, letAt c.E n = some (h, w) := by
  obtain ⟨⟨a, b⟩, e⟩ := hs
  unfold recv
  rw [e]
  show a = h ↔ ∃ w, some (a, b) = some (h, w)
  constructor
  · rintro rfl
    exact ⟨b, rfl⟩
  · rintro ⟨w, z⟩
    cases z
    rfl
theorem free_iff {c : Co} {o : Bool} {h : Int} {n : Nm} (hs : ∀ n ∈ c.O, ∃ lt, letAt c.E n = some lt) : (h, n) ∈ freeGo c.E o [] c.O ↔ MayUse o c h n := by
  rw [freeGo_mem]
  have nu : ∀ m, usedB c.E m = false ↔ ¬ UsedIn c.E m := fun m => by
    rw [← usedB_iff]
    cases usedB c.E m <;> simp
  constructor
  · rintro ⟨A, B, e, h1, h2, h3⟩
    have hn : n ∈ c.O := by
      rw [e]
      exact List.mem_append.mpr (.inr List.mem_cons_self)
    refine ⟨⟨hn, (recv_iff (hs n hn)).mp h2, (nu n).mp h1⟩, fun ho => ⟨A, B, e, fun m hm e1 w => ?_⟩⟩
    exact (h3 ho).2 m hm ((nu m).mpr w.2.2) ⟨e1, (recv_iff (hs m w.1)).mpr w.2.1⟩
  · rintro ⟨⟨w1, w2, w3⟩, f⟩
    have go : ∀ A B, c.O = A ++ n :: B → (o = true → ∀ m ∈ A, m.1 = n.1 → ¬ Wait c h m) → ∃ A B, c.O = A ++ n :: B ∧ usedB c.E n = false ∧ recv c.E n = h ∧ (o = true → (n.1, h) ∉ ([] : List (Int × Int)) ∧ ∀ m ∈ A, usedB c.E m = false → ¬ (m.1 = n.1 ∧ recv c.E m = h)) := fun A B e ha =>
      ⟨A, B, e, (nu n).mpr w3, (recv_iff (hs n w1)).mpr w2, fun ho => ⟨(fun z => nomatch z), fun m hm hu z => by
        have hm' : m ∈ c.O := by
          rw [e]
          exact List.mem_append.mpr (.inl hm)
        exact ha ho m hm z.1 ⟨hm', (recv_iff (hs m hm')).mp z.2, (nu m).mp hu⟩⟩⟩
    cases ho : o with
    | false =>
      obtain ⟨A, B, e⟩ := List.append_of_mem w1
      have := go A B e (fun z => by rw [ho] at z; cases z)
      rw [ho] at this
      exact this
    | true =>
      obtain ⟨A, B, e, ha⟩ := f ho
      have := go A B e (fun _ => ha)
      rw [ho] at this
      exact this
end Bk
set_option Elab.async false
set_option linter.all false
set_option maxRecDepth 100000
set_option maxHeartbeats 4000000
/-! Own rules: a dict as a fixed value, its items, its keys sorted. -/
namespace Bk
open PySem PySem.Spec PyProof.Rows L2
/-! ### an expression whose dict is written by nobody from here on -/
def tFrz (t : TE) : TE := fun σ H Q => t σ H fun x H1 => ∃ d u, x = .ref d ∧ H1 d = some u ∧ Mut (some u) ∧ ∀ od, Q x (upd H1 d (.frz od u))
section
variable {X : Cx} {e : Expr} {t : TE}
theorem pe_frz (he : PE X e t) : PE X e (tFrz t) := ⟨fun pins s σ H Q I h => by
  refine thn (he.run pins s σ H _ I h) fun u s1 ⟨x, H1, I1, rx, d, o, ex, hd, mu, q⟩ => ?_
  obtain ⟨od, I2⟩ := I1.lock hd mu
  exact ⟨x, _, I2, rx, q od⟩⟩
end
/-! ### for k, v in d.items(), keys tuples -/
section
variable {X : Cx} {pins : List (Addr × Obj)} {σ : L2.St} {H : Hp} {s : Shared} {d : Addr} {o : Obj}
theorem frz_all {kvs : List (List L2.Key × V)} (I : Inv X pins σ H s) (h : H d = some (.frz o (.dT kvs))) :
    (d == sysModules) = false ∧ ∃ (es : Array DictEntry) (ep : Nat), s.heap.get? d = some o ∧ o.ExactDict ∧ o.data = .dict es ep ∧ es.size = kvs.length ∧
      ∀ (i : Nat) (k : List L2.Key) (v : V), kvs[i]? = some (k, v) → ∃ (en : DictEntry) (q : Addr), es[i]? = some en ∧ en.key = .ref q ∧ H q = some (.tup (k.map kV)) ∧ RelV v en.val := by
  obtain ⟨h1, _, h2, xs, pr, o', es, ep, h3, h4, h5, h6, _⟩ := I.hok d _ h
  rw [h1] at h3
  cases h3
  refine ⟨h2, es, ep, h1, h4, h5, ?_, fun i k v e => ?_⟩
  · have l1 := size_of_entries h6
    have l2 := Paired.length pr
    omega
  · obtain ⟨b, hb, _, e2, e3⟩ := paired_get pr e
    have en := entry_at h6 i
    rw [hb] at en
    exact ⟨_, b.2.1, en, rfl, e2, e3⟩
/-- the pairs of a fixed dict with tuple keys, each a new tuple -/
def ItiT (d : Addr) (o : Obj) (kvs : List (List L2.Key × V)) : It :=
  ⟨fun i G => G d = some (.frz o (.dT kvs)) ∧ i < kvs.length, fun i G x G' => ∃ T q k v, kvs[i]? = some (k, v) ∧ x = .ref T ∧ G q = some (.tup (k.map kV)) ∧ G T = none ∧ G' = upd G T (.tup [.ref q, v]), fun i G => G d = some (.frz o (.dT kvs)) ∧ kvs.length ≤ i⟩
theorem turn_itT {P : Program} {w : World} {K : PySem.W.Frag} {kvs : List (List L2.Key × V)} {elts : List Expr} {kk : Nat} {tpos : Pos} {es : Array DictEntry} {ep : Nat} (it : Addr) (hod : o.data = .dict es ep) :
    Turn P w K (.Tuple elts kk tpos) (ItiT d o kvs) [it] it (fun i h => ∃ x y, IsItemIter h it d i kvs.length ep x y) where
  mem := by simp
  obj := fun i h ⟨x, y, z⟩ b hb => by
    obtain rfl : b = it := by simpa using hb
    exact ⟨_, z, fun v u => nomatch u⟩
  keep := fun i h h' ⟨x, y, z⟩ k => ⟨x, y, k it (by simp) _ z⟩
  item := by
    intro X e1 e2 e3 hc i pins s σ H E I hf ⟨x, y, z⟩ hg
    subst e1 e2 e3
    have gd := hg.1
    have gi := hg.2
    have ff := hf it (by simp)
    obtain ⟨g1, es', ep', g2, g3, g4, g5, g6⟩ := frz_all I gd
    obtain ⟨rfl, rfl⟩ := dict_ep hod g4
    obtain ⟨⟨k, v⟩, hkv⟩ : ∃ p, kvs[i]? = some p := ⟨kvs[i], List.getElem?_eq_getElem gi⟩
    obtain ⟨en, q, g7, g8, g9, g10⟩ := g6 i k v hkv
    have hi : i < es'.size := by omega
    have een : es'[i] = en := by
      rw [Array.getElem?_eq_getElem hi] at g7
      exact Option.some.inj g7
    rw [← g5] at z
    have lt : it < s.heap.objs.size := Heap.lt_size z
    refine DT.nextI z ⟨o, g2, g3, g4⟩ hi fun h' ho hT hz hk => ?_
    refine ⟨_, rfl, wpAny_letOwnedTupleGo_items (s := { s with heap := h' }) ho fun h2 he sb => ?_⟩
    have hT2 := (sb.2 _ (Nat.ne_of_gt lt)).trans hT
    rw [een] at hT2
    have new : ObjOk X.prog X.w (upd H s.heap.objs.size (.tup [.ref q, v])) h2 s.heap.objs.size (.tup [.ref q, v]) :=
      ⟨by show 2 ≤ sizeLine; decide, [en.key, en.val], .cons g8 (.cons g10 .nil), ⟨_, hT2, rfl, _, rfl⟩⟩
    have I1 : Inv X pins σ (upd H s.heap.objs.size (.tup [.ref q, v])) { s with heap := h2 } :=
      I.turnedNew (t' := s.toks) (ch := [it]) (fun b ob hb e => Eq.trans (sb.2 b (by simpa using hb)) (hk b ob (by simpa using hb) e)) hf (Nat.le_refl _) new
    refine ⟨.ref s.heap.objs.size, _, I1, rfl, ⟨_, q, k, v, hkv, rfl, g9, I.hok.fresh (Nat.le_refl _), rfl⟩, ⟨es'[i].key, es'[i].val, ?_⟩, fun b hb => ?_⟩
    · rw [← g5]
      exact he
    · obtain rfl : b = it := by simpa using hb
      rw [upd_ne (Nat.ne_of_lt lt)]
      exact ff.1
  done := by
    intro X e1 e2 e3 hc i pins s σ H E I hf ⟨x, y, z⟩ hg
    subst e1 e2 e3
    have gd := hg.1
    have gi := hg.2
    have ⟨f0, f1, f2, f3, f4, f5⟩ := hf it (by simp)
    obtain ⟨g1, es', ep', g2, g3, g4, g5, g6⟩ := frz_all I gd
    obtain ⟨rfl, rfl⟩ := dict_ep hod g4
    rw [← g5] at z
    exact DT.endI (I.ok.hd hc) z ⟨o, g2, g3, g4⟩ (by omega) fun h' eb => ⟨rfl, I.turned (t' := s.toks) (fun b ob hb e => eb b ob hb e) f0 f1 f3 f4 f5⟩
  self := fun A i s Q E ⟨x, y, z⟩ h => PySem.W.kcp_self z h
def iItemsT (td : TE) : TI := fun σ H R => td σ H fun x H1 => ∃ d o kvs, x = .ref d ∧ H1 d = some (.frz o (.dT kvs)) ∧ R (ItiT d o kvs) H1
theorem pi_itemsT {e : Expr} {td : TE} {apos cpos tpos : Pos} {elts : List Expr} {kk : Nat} (he : PE X e td) (hbase : attributeBase e "items" X.env (eval e X.env) = eval e X.env := by rfl) (hline : (apos.endLine == cpos.line) = true := by rfl) :
    PI X (.Tuple elts kk tpos) (.Call (.Attribute e "items" apos) [] [] cpos) (iItemsT td) := ⟨fun pins s σ H R I h => by
  refine wpAny_Call_method (T := "dict") (id := "dict.items") hbase rfl hline PySem.F.plainAttrs_dict PySem.F.slot_dict_items PySem.F.type_dict_items (thn (he.run pins s σ H _ I h) fun u s1 ⟨x, H1, I1, rx, d, o, kvs, ex, hd, q⟩ => ?_)
  subst ex
  obtain rfl : u = Value.ref d := rx
  obtain ⟨g1, es, ep, g2, g3, g4, g5, g6⟩ := frz_all I1 hd
  have raw : DT.Raw s1.heap d es ep := ⟨o, g2, g3, g4⟩
  refine ⟨raw.typeIs, fun b eb => ?_, ?_⟩
  · cases eb
    exact ⟨o, g2, g3.2.1⟩
  · have I2 : Inv X pins σ H1 { s1 with heap := s1.heap.push { cls := .type "dict_items", data := .fields #[.ref d] } } := I1.kept (t' := s1.toks) fun b ob q => Heap.get?_push_of_some _ q
    have last : wpAny (model X.prog X.w) X.A (pyIter (.ref s1.heap.objs.size)) (PIE X pins σ (.Tuple elts kk tpos) R) X.xe { s1 with heap := s1.heap.push { cls := .type "dict_items", data := .fields #[.ref d] } } := by
      refine DT.iterI (d := d) ⟨_, Heap.get?_push_size _ rfl, rfl, rfl⟩ (raw.push _) (pi_one (tk := s1.toks) I2 _ (turn_itT _ g4) ⟨.none, .none, ?_⟩ q)
      rw [← g5]
      exact Heap.get?_push_size _ rfl
    show wpAny _ _ (callWith cpos (.builtin "dict.items") [.ref d] [] []) _ X.xe s1
    exact method_meetsIn PySem.F.slot_dict_items PySem.F.entry_dict_items rfl (PySem.evalArgs_none ⟨rfl, raw.typeIs, PySem.F.args_dict_items_1 _, _, DT.meetsItems (es := es) (ep := ep) g1, raw, last⟩)⟩
end
/-! ### sorted, of what reads as data -/
section
open PySem.W (EachIs dataLe alike AllAlike Sortable)
theorem each_of_paired {α β γ : Type} {S : α → γ → Prop} {R : α → β → Prop} : ∀ {xs : List α} {us : List γ} {bs : List β}, Paired S xs us → Paired R xs bs → EachIs (fun u b => ∃ x, x ∈ xs ∧ S x u ∧ R x b) us bs
  | _, _, _, .nil, .nil => .nil
  | _, _, _, .cons h1 t1, .cons h2 t2 => .cons ⟨_, List.mem_cons_self, h1, h2⟩ ((each_of_paired t1 t2).mono fun _ _ ⟨x, m, z⟩ => ⟨x, List.mem_cons_of_mem _ m, z⟩)
theorem paired_of_each {α β γ : Type} {Z : α → Prop} {S : α → γ → Prop} {R : α → β → Prop} : ∀ {us : List γ} {bs : List β}, EachIs (fun u b => ∃ x, Z x ∧ S x u ∧ R x b) us bs → ∃ ys, Paired S ys us ∧ Paired R ys bs
  | _, _, .nil => ⟨[], .nil, .nil⟩
  | _, _, .cons ⟨x, _, h1, h2⟩ t => by
    obtain ⟨ys, a, b⟩ := paired_of_each t
    exact ⟨x :: ys, .cons h1 a, .cons h2 b⟩
/-- a new list of the same in their order -/
def rSortB {β : Type} (K : PySem.W.Frag) (enc : β → PyData) : List V → Hp → VK → Prop := fun vs H Q => ∃ (a : Addr) (xs : List V) (bs : List β) (R : V → β → Prop), vs = [V.ref a] ∧ SqL K H a xs ∧ Paired R xs bs ∧ (∀ x b, R x b → Dp K H x (enc b)) ∧ bs.length ≤ sizeLine ∧
  ∀ (ys : List V) (p : Addr), H p = none → Paired R ys (bs.mergeSort (dataLe false enc)) → Q (.ref p) (upd H p (.lst ys))
variable {X : Cx}
theorem cr_sortB {β : Type} {enc : β → PyData} (hal : ∀ b b', alike (enc b) (enc b') = true) (htup : ∀ b, ∃ x r, enc b = .tuple (x :: r)) (hdep : ∀ b, (enc b).depth ≤ 8) (hu : X.A.units + 65 < cLine) : CallR X (.builtin "sorted") (rSortB X.K enc) := by
  intro pins s σ H vs us Q I r h
  obtain ⟨a, xs, bs, R, rfl, hs, pr, dp, hz, q⟩ := h
  obtain ⟨its, rv, hl, hz2⟩ := I.list hs
  rw [Vals.ref1 r]
  have e1 := each_of_paired (S := RelV) (show Paired RelV xs its from rv) pr
  have e2 : EachIs (fun v b => ∃ as, Reads s.heap v (enc b) as) its bs := e1.mono fun u b ⟨x, _, h1, h2⟩ => Dp.reads I (enc b) x u (dp x b h2) h1
  refine PySem.W.sorted_data (enc := enc) (R := fun u b => ∃ x, x ∈ xs ∧ RelV x u ∧ R x b) hl.isList e1 e2 (AllAlike.of hal) (Sortable.tuples htup) hz (fun b _ => by have := hdep b; omega) fun out hlen ho => ?_
  obtain ⟨ys, p1, p2⟩ := paired_of_each ho
  obtain ⟨ep, he'⟩ := PyProof.Rows.sortedAll_at s.heap its out.toArray
  have hyl : ys.length ≤ sizeLine := by
    have := PySem.Paired.length p1
    omega
  exact ⟨.ref _, upd H (s.heap.objs.size + 1) (.lst ys), I.laid (t' := s.toks) (fun _ _ => PyProof.Rows.sortedAll_old) (Nat.le_succ _) ⟨hyl, out, ep, p1, he'⟩, rfl, q ys _ (I.hok.fresh (Nat.le_succ _)) p2⟩
end
/-! ### d.keys() and its sorting -/
def keysO (p d : Addr) : HO := .ext fun h => PySem.W.KdlKeysView h p d
def tKeysT (td : TE) : TE := fun σ H Q => td σ H fun x H1 => ∃ d kvs, x = .ref d ∧ H1 d = some (.dT kvs) ∧ ∀ p, H1 p = none → Q (.ref p) (upd H1 p (keysO p d))
section
variable {X : Cx} {e : Expr} {td : TE} {apos cpos : Pos}
theorem pe_keysT (he : PE X e td) (hbase : attributeBase e "keys" X.env (eval e X.env) = eval e X.env := by rfl) (hline : (apos.endLine == cpos.line) = true := by rfl) : PE X (.Call (.Attribute e "keys" apos) [] [] cpos) (tKeysT td) := ⟨fun pins s σ H Q I h => by
  refine wpAny_Call_method (T := "dict") (id := "dict.keys") hbase rfl hline PySem.F.plainAttrs_dict PySem.F.slot_dict_keys PySem.F.type_dict_keys (thn (he.run pins s σ H _ I h) fun u s1 ⟨x, H1, I1, rx, d, kvs, ex, hd, q⟩ => ?_)
  subst ex
  obtain rfl : u = Value.ref d := rx
  obtain ⟨_, y, xs, rel, o, es, ep, h1, h2, h3, _⟩ := dt_of I1.hok hd
  have raw : s1.heap.DictRaw d es ep := ⟨o, h1, h2, h3⟩
  refine ⟨⟨o, h1, h2.1⟩, fun b eb => ?_, ?_⟩
  · cases eb
    exact ⟨o, h1, h2.2.1⟩
  · have new : (s1.heap.push { cls := .type "dict_keys", data := .fields #[.ref d] }).get? s1.heap.objs.size = some { cls := .type "dict_keys", data := .fields #[.ref d] } := Heap.get?_push_size _ rfl
    have I2 : Inv X pins σ (upd H1 s1.heap.objs.size (keysO s1.heap.objs.size d)) { s1 with heap := s1.heap.push { cls := .type "dict_keys", data := .fields #[.ref d] } } :=
      I1.laid (t' := s1.toks) (fun b ob z => Heap.get?_push_of_some _ z) (Nat.le_refl _) ⟨⟨_, new, rfl, rfl⟩, ⟨_, new⟩, fun _ _ ⟨o', ho, r⟩ k => ⟨o', k o' ho, r⟩⟩
    show wpAny _ _ (callWith cpos (.builtin "dict.keys") [.ref d] [] []) _ X.xe s1
    exact method_meetsIn PySem.F.slot_dict_keys PySem.F.entry_dict_keys rfl (PySem.evalArgs_none ⟨rfl, ⟨o, h1, h2.1⟩, PySem.F.args_dict_keys_1 _, _, PySem.meets_dict_keys_raw d y, ⟨es, ep, raw⟩, ⟨.ref s1.heap.objs.size, _, I2, rfl, q _ (I1.hok.fresh (Nat.le_refl _))⟩⟩)⟩
end
end Bk
set_option Elab.async false
set_option linter.all false
set_option maxRecDepth 100000
set_option maxHeartbeats 4000000
/-! Own rules: the keys of a dict, sorted. -/
namespace Bk
open PySem PySem.Spec PyProof.Rows L2
open PySem.W (EachIs dataLe alike AllAlike Sortable)
theorem alike_nm (n m : Nm) : alike (nmD n) (nmD m) = true := by
  simp [nmD, PySem.W.alike, PySem.W.alikeAll]
theorem tup_nm (n : Nm) : ∃ x r, nmD n = .tuple (x :: r) := ⟨_, _, rfl⟩
theorem depth_nm (n : Nm) : (nmD n).depth ≤ 8 := by
  have : (nmD n).depth = 1 := by simp [nmD, PyData.depth, PyData.depthAll]
  omega
/-- names in their order -/
def sortN (l : List Nm) : List Nm := l.mergeSort (dataLe false nmD)
theorem sortN_len (l : List Nm) : (sortN l).length = l.length := List.length_mergeSort l
theorem sortN_mem {l : List Nm} {n : Nm} : n ∈ sortN l ↔ n ∈ l := List.mem_mergeSort
section
variable {X : Cx} {pins : List (Addr × Obj)} {σ : L2.St} {H : Hp} {s : Shared}
theorem nm_reads (I : Inv X pins σ H s) {x : V} {u : Value} {n : Nm} (h : NmAt H x n) (r : RelV x u) : Reads s.heap u (nmD n) [] := by
  obtain ⟨a, rfl, e⟩ := h
  cases r
  obtain ⟨_, its, rv, o, ho, hc, m, hd⟩ := (show ObjOk X.prog X.w H s.heap a (.tup (nmV n)) from I.hok a _ e)
  cases rv with
  | cons r1 rv =>
    cases rv with
    | cons r2 rv =>
      cases rv with
      | cons r3 rv =>
        cases rv
        obtain ⟨t1, rfl⟩ := r1
        obtain ⟨t2, rfl⟩ := r2
        obtain ⟨t3, rfl⟩ := r3
        exact Reads.tuple (as := [] ++ ([] ++ ([] ++ []))) ho hc hd (ReadsAll.cons (Reads.int _ _) (ReadsAll.cons (Reads.int _ _) (ReadsAll.cons (Reads.int _ _) ReadsAll.nil)))
/-- sorted(d.keys()), the keys names -/
def rSortK : List V → Hp → VK → Prop := fun vs H Q => ∃ (p d : Addr) (kvs : List (List L2.Key × V)) (ns : List Nm), vs = [V.ref p] ∧ H p = some (keysO p d) ∧ H d = some (.dT kvs) ∧ kvs.map (·.1) = ns.map nmK ∧
  ∀ (ys : List V) (q : Addr), H q = none → Paired (NmAt H) ys (sortN ns) → Q (.ref q) (upd H q (.lst ys))
theorem cr_sortK (hc : X.calm = true) (hu : X.A.units + 65 < cLine) : CallR X (.builtin "sorted") rSortK := by
  intro pins s σ H vs us Q I r h
  obtain ⟨p, d, kvs, ns, rfl, hp, hd, ek, q⟩ := h
  rw [Vals.ref1 r]
  have view : PySem.W.KdlKeysView s.heap p d := (show ObjOk X.prog X.w H s.heap p (keysO p d) from I.hok p _ hp).1
  obtain ⟨hz, _, xs, rel, o, es, ep, h1, h2, h3, hes, _, _⟩ := dt_of I.hok hd
  have raw : s.heap.DictRaw d es ep := ⟨o, h1, h2, h3⟩
  have l1 : kvs.length = xs.length := PySem.Paired.length rel
  have l2 : es.size = xs.length := size_of_entries hes
  have l3 : kvs.length = ns.length := by
    have := congrArg List.length ek
    rwa [List.length_map, List.length_map] at this
  -- the keys by their places
  have key : ∀ (j : Nat) (v : Value), (∃ hi : j < es.size, v = es[j].key) → ∃ (n : Nm) (b : Addr), ns[j]? = some n ∧ v = .ref b ∧ NmAt H (.ref b) n := by
    rintro j v ⟨hi, rfl⟩
    have hj : j < kvs.length := by omega
    obtain ⟨kv, hkv⟩ : ∃ kv, kvs[j]? = some kv := ⟨kvs[j], List.getElem?_eq_getElem hj⟩
    obtain ⟨b, hb, e1, e2, _⟩ := paired_get rel hkv
    have en := entry_at hes j
    rw [hb, Array.getElem?_eq_getElem hi] at en
    have en : es[j] = entryOfKey (tupleKind (mixKind X.prog X.w)) b := Option.some.inj en
    obtain ⟨n, hn⟩ : ∃ n, ns[j]? = some n := ⟨ns[j]'(by omega), List.getElem?_eq_getElem (by omega)⟩
    have e3 : kv.1 = nmK n := by
      have z := congrArg (fun l => l[j]?) ek
      simp only [List.getElem?_map, hkv, hn] at z
      exact Option.some.inj z
    refine ⟨n, b.2.1, hn, by rw [en]; rfl, b.2.1, rfl, ?_⟩
    rw [e2, e3, nmK_map]
  refine PySem.Calls.call_function_entry PyProof.Rows.kind_sorted PyProof.Rows.plain_sorted PyProof.Rows.entry_sorted (PyProof.Rows.args_sorted1 _) ?_
  unfold Builtin.«sorted»
  refine wpAny_bind (m := checkCount "sorted" 1 1 _) (wpAny_pure ?_)
  refine wpAny_bind (PySem.W.kdu_collect (A := X.A.in1) KdlSrc.rawKeys (I.ok.hd hc) ⟨view, raw⟩ (by omega) fun h' tk acc hk hacc => ?_)
  have hal : acc.toList.length = es.size := by rw [Array.length_toList]; exact hacc.1
  refine wpAny_bind (wpAny_newList ?_ (by omega))
  have hob : (h'.push { cls := .type "list", data := .seq acc.toList.toArray }).get? h'.objs.size = some (seqObj "list" acc.toList.toArray 0) := Heap.get?_push_size _ rfl
  have kb : ∀ b o, s.heap.get? b = some o → (h'.push { cls := .type "list", data := .seq acc.toList.toArray }).get? b = some o := fun b o e => Heap.get?_push_of_some _ (hk b o e)
  have ne0 : ∀ b o, s.heap.get? b = some o → b ≠ h'.objs.size := fun b o e => Nat.ne_of_lt (Heap.lt_size (hk b o e))
  generalize hh2 : h'.push { cls := .type "list", data := .seq acc.toList.toArray } = h2 at hob kb
  -- each of them reads as its name
  have at_ : ∀ (j : Nat) (u : Value), acc.toList[j]? = some u → ∃ (n : Nm) (b : Addr), ns[j]? = some n ∧ u = .ref b ∧ NmAt H (.ref b) n := fun j u e => key j u (hacc.2 j u (by rw [← Array.getElem?_toList]; exact e))
  have each : EachIs (fun u n => ∃ x, True ∧ RelV x u ∧ NmAt H x n) acc.toList ns := by
    have go : ∀ (as : List Value) (bs : List Nm), as.length = bs.length → (∀ (j : Nat) (u : Value), as[j]? = some u → ∃ (n : Nm) (b : Addr), bs[j]? = some n ∧ u = .ref b ∧ NmAt H (.ref b) n) → EachIs (fun u n => ∃ x, True ∧ RelV x u ∧ NmAt H x n) as bs := by
      intro as
      induction as with
      | nil =>
        intro bs hl _
        cases bs with
        | nil => exact .nil
        | cons _ _ => cases hl
      | cons u as ih =>
        intro bs hl hx
        cases bs with
        | nil => cases hl
        | cons n bs =>
          obtain ⟨n', b, e1, e2, e3⟩ := hx 0 u rfl
          cases e1
          refine .cons ⟨.ref b, trivial, by rw [e2]; exact (rfl : RelV (.ref b) (.ref b)), e3⟩ (ih bs (by simpa using hl) fun j u e => ?_)
          obtain ⟨n2, b2, f1, f2, f3⟩ := hx (j + 1) u (by simpa using e)
          exact ⟨n2, b2, by simpa using f1, f2, f3⟩
    exact go _ _ (by omega) at_
  have er : EachIs (fun u n => ∃ as, Reads h2 u (nmD n) as ∧ h'.objs.size ∉ as) acc.toList ns := each.mono fun u n ⟨x, _, rx, hx⟩ => ⟨[], PyProof.Rows.Reads.keeps kb (nm_reads I hx rx), fun z => nomatch z⟩
  refine wpAny_bind (wpAny_holding (PySem.W.list_sort_data (s := { s with heap := h2, toks := tk }) (enc := nmD) (R := fun u n => ∃ x, True ∧ RelV x u ∧ NmAt H x n) hob each er (AllAlike.of alike_nm) (Sortable.tuples tup_nm) (by omega) (fun b _ => by have := depth_nm b; show X.A.units + 1 + 1 + _ < _; omega) fun out hlen ho => ?_))
  refine wpAny_pure ⟨_, rfl, ?_⟩
  obtain ⟨ys, p1, p2⟩ := paired_of_each ho
  obtain ⟨ee, he⟩ := PyProof.Rows.sortedHeap_at (vs := acc.toList) (out := out.toArray) hob
  have hn0 : s.heap.get? h'.objs.size = none := by
    cases z : s.heap.get? h'.objs.size with
    | none => rfl
    | some o => exact absurd rfl (ne0 _ o z)
  have hyl : ys.length ≤ sizeLine := by
    have := PySem.Paired.length p1
    omega
  have hn1 := I.hok.gone hn0
  exact ⟨.ref h'.objs.size, upd H h'.objs.size (.lst ys), I.laidN (t' := tk) (fun b o e => (PyProof.Rows.sortedHeap_old (ne0 b o e) (Heap.lt_size (kb b o e))).trans (kb b o e)) hn0 hn1 ⟨hyl, out, ee, p1, he⟩, rfl, q ys _ hn1 p2⟩
end
end Bk
set_option Elab.async false
set_option linter.all false
set_option maxRecDepth 100000
set_option maxHeartbeats 4000000
/-! Own rules: an error that is caught and kept under another name; its class is asked behind the try. -/
namespace Bk
open PySem PySem.Spec PyProof.Rows L2
/-- an error of the class cls, not in flight any more, at a -/
def ErO (cls : Value) (a : Addr) : HO := .ext fun h => ∃ oe, h.get? a = some oe ∧ Zc cls none oe ∧ ∃ vs, oe.data = .fields vs
theorem erO_ok {P : Program} {w : World} {H : Hp} {h : Heap} {cls : Value} {a : Addr} {oe : Obj} {vs : Array Value} (e : h.get? a = some oe) (z : Zc cls none oe) (d : oe.data = .fields vs) : ObjOk P w H h a (ErO cls a) :=
  ⟨⟨oe, e, z, vs, d⟩, ⟨oe, e⟩, fun _ _ ⟨o, q, r⟩ k => ⟨o, k o q, r⟩⟩
section
variable {X : Cx} {pins : List (Addr × Obj)} {σ : L2.St} {H : Hp} {s : Shared} {a : Addr} {oe : Obj} {cls : Value} {vs : Array Value}
/-- a pinned object of ours, new since the entry, is tracked -/
theorem Inv.trackE (I : Inv X ((a, oe) :: pins) σ H s) (n0 : X.s_0.heap.get? a = none) (np : ∀ p ∈ X.pn ++ pins, p.1 ≠ a) (z : Zc cls none oe) (d : oe.data = .fields vs) : Inv X pins σ (upd H a (ErO cls a)) s := by
  obtain ⟨ga, na, nL, nF, nC⟩ := I.pin (a, oe) (List.mem_append.mpr (.inr List.mem_cons_self))
  have ga : s.heap.get? a = some oe := ga
  have na : H a = none := na
  have other : ∀ b u, H b = some u → upd H a (ErO cls a) b = some u := fun b u e => (upd_ne (ne_of_none e na)).trans e
  refine ⟨I.ok, I.os, I.bare, ⟨I.base.keep, I.base.slot, fun b o e n hx => ?_, I.base.there, fun b xs e => other _ _ (I.base.tups b xs e), fun b o u e => other _ _ (I.base.frzs b o u e), fun b ps e => ?_⟩, I.loc, I.cell, ?_, fun x c e => ?_, fun p hp => ?_, fun b u e => ?_, I.len⟩
  · have hb : b ≠ a := fun q => by
      rw [q, n0] at e
      cases e
    rw [upd_ne hb]
    exact I.base.free b o e n hx
  · obtain ⟨m, q⟩ := I.base.tbls b ps e
    exact ⟨m, other _ _ q⟩
  · rw [upd_ne (fun q => nL q.symm)]
    exact I.free
  · have hc : c ≠ a := fun q => by
      obtain ⟨v, o, h1, h2⟩ := I.cell x c e
      rw [q, ga] at h1
      cases h1
      exact nC _ h2
    rw [upd_ne hc]
    exact I.freeC x c e
  · obtain ⟨h1, h2, h3, h4, h5⟩ := I.pin p (by
      rcases List.mem_append.mp hp with q | q
      · exact List.mem_append.mpr (.inl q)
      · exact List.mem_append.mpr (.inr (List.mem_cons_of_mem _ q)))
    exact ⟨h1, (upd_ne (np p hp)).trans h2, h3, h4, h5⟩
  · by_cases hb : b = a
    · subst hb
      rw [upd_same] at e
      cases e
      exact erO_ok ga z d
    · rw [upd_ne hb] at e
      exact (I.hok b u e).stay (fun _ _ _ q => q) (fun c q => other _ _ q) fun c xs q => other _ _ q
end
/-- what the clause wishes of an error of the body: slot i is the clause's own name -/
def wKeep (K : PySem.W.Frag) (c : Value) (i : Nat) (ts : Addr → TS) (D : Ends) : WX := fun cls d σ H =>
  d = none ∧ PySem.W.exmOne K cls c = some true ∧ ∀ a, H a = none → ts a { nx := fun σ' H' => D.nx (σ'.set i none) (upd H' a (ErO cls a)), rt := fun _ _ => False, bk := fun _ _ => False, ct := fun _ _ => False } (σ.set i (some (.ref a))) H
section
variable {X : Cx} {x n : Str} {c : Value} {i : Nat} {body rest : List Stmt} {st : Stmt} {p1 p2 p3 : Pos} {tb : WX → TS} {ts : Addr → TS}
theorem ps_try_keep (hex0 : X.ex = []) (hstk : X.stack = X.env :: X.outer) (hfrm : X.env.frame = some X.env.locals) (hN : X.N.Nodup) (hi : X.N[i]? = some n) (hln : X.env.kindOf n = some .local) (hcl : Names X x c)
    (hbody : ∀ (W : WX) (pn : List (Addr × Obj)) (xe : Value → Shared → Prop), Takes (X.tr pn xe) W → PassesOwn (model X.prog X.w) X.A X.env xe → PSs (X.tr pn xe) body (tb W))
    (hsuite : ∀ (a : Addr) (oe : Obj) (pn : List (Addr × Obj)), PSs (X.suite a ((a, oe) :: pn)) (st :: rest) (ts a)) :
    PS X (.Try body [.ExceptHandler (some (.Name x p1)) (some n) (st :: rest) p2] [] [] p3) (fun D σ H => tb (wKeep X.K c i ts D) D σ H) := ⟨fun pins s σ H D I hw => by
  have ok := I.ok
  have hA : X.A.frames = some (X.env :: X.outer) := by rw [ok.frames, hstk]
  have land : Takes (X.tr (X.pn ++ pins) (fun e s₁ => wpAny (model X.prog X.w) X.A (noteFrame e X.env) (fun _ s₂ => wpAny (model X.prog X.w) X.A (setFlight e none) (fun _ s₃ =>
      wpAny (model X.prog X.w) X.A (handleBy e X.env [.ExceptHandler (some (.Name x p1)) (some n) (st :: rest) p2]) (SP X pins D) X.xe s₃) X.xe s₂) X.xe s₁)) (wKeep X.K c i ts D) := by
    rintro _ s' ⟨a, B, sI, pins', σ', H', cls, d, rfl, J', nb, up, sky, na, os, ag, hd0, hex, go⟩
    subst hd0
    have J : Inv X pins σ' H' sI := J'.ofTry ok
    have sky : Sky B (X.env :: X.outer) a (Zc cls none) X.env.locals s'.heap := by rw [← hstk]; exact sky
    show wpAny (model X.prog X.w) X.A (noteFrame (.ref a) X.env) _ _ _
    refine Sky.land Zc.steady hA hfrm sky fun g3 fl3 up3 => ?_
    have J3 : Inv X pins σ' H' { s' with heap := g3 } := J.landed nb fl3.1 (up.trans up3) os ag
    obtain ⟨oe3, vs3, he3, hz3, hd3⟩ := fl3.there
    have nofr : a ∉ frs (X.env :: X.outer) := fun hm => by
      obtain ⟨_, o', e', hnf⟩ := fl3.2.2.1.mem hm
      rw [he3] at e'
      cases e'
      exact hnf _ hd3
    have nL : a ≠ X.env.locals := fun z => nofr (List.mem_filterMap.mpr ⟨X.env, List.mem_cons_self, by rw [hfrm, z]⟩)
    have nF : a ∉ X.fs := fun hm => by
      obtain ⟨e, he, q⟩ := List.mem_filterMap.mp hm
      exact nofr (List.mem_filterMap.mpr ⟨e, List.mem_cons_of_mem _ he, q⟩)
    have Ba : B.get? a = none := fl3.2.1
    have gone : ∀ b o, sI.heap.get? b = some o → b ∉ frs X.stack → b ≠ a := fun b o e hb z => by
      have := nb b o e hb
      rw [z, Ba] at this
      cases this
    have nofr' : a ∉ frs X.stack := by rw [hstk]; exact nofr
    have nI : sI.heap.get? a = none := by
      cases z : sI.heap.get? a with
      | none => rfl
      | some o => exact absurd rfl (gone a o z nofr')
    have n0 : X.s_0.heap.get? a = none := by
      cases z : X.s_0.heap.get? a with
      | none => rfl
      | some o =>
        obtain ⟨o', q⟩ := J.base.there a o z (by rw [hex0]; exact fun t => nomatch t)
        rw [nI] at q
        cases q
    have np : ∀ p ∈ X.pn ++ pins, p.1 ≠ a := fun p hp z => by
      have q := (J.pin p hp).1
      rw [z, nI] at q
      cases q
    have S3 := J3.suite he3 hd3 na nL nF
    refine wpAny_handleBy_cons (codeAny_handlers_test ?_) (by intro q; cases q)
    have LT : PySem.W.Looks (model X.prog X.w) g3 (typeOf (.ref a)) cls := fun A Q E s k q => wpAny_typeOf_ref (k _ _ he3) (by rw [hz3.1]; exact q)
    have LM := PySem.W.exm_one (M := model X.prog X.w) (J3.kIn) LT hex
    have name : ∀ {Q E : Value → Shared → Prop}, Q c { s' with heap := g3 } → wpAny (model X.prog X.w) (X.A.mark (some (.ref a))) (eval (.Name x p1) X.env) Q E { s' with heap := g3 } := fun {Q E} q => by
      obtain ⟨hg, hdbg, hm | ⟨hm, hv, hnn⟩⟩ := hcl
      · exact ld_glob (X := X.suite a ((a, oe3) :: (X.pn ++ pins))) S3 hg hm q hdbg
      · exact ld_blt (X := X.suite a ((a, oe3) :: (X.pn ++ pins))) S3 hg hm hv q hnn hdbg
    refine name (LM.here ?_)
    refine codeAny_handlers_suite_as ?_
    refine HandSPX.lands_againZ fl3 fun g4 fl4 up4 => ?_
    have J4 : Inv X pins σ' H' { s' with heap := g4 } := J.landed nb fl4.1 ((up.trans up3).trans up4) os ag
    obtain ⟨oe4, vs4, he4, hz4, hd4⟩ := fl4.there
    have S4 := J4.suite he4 hd4 na nL nF
    refine store_ok (X := X.suite a ((a, oe4) :: (X.pn ++ pins))) (v := .ref a) S4 hN hi (.inl hln) rfl (fun s5 S5 => ?_) (.inr hln)
    refine wpAny_mono ((hsuite a oe4 (X.pn ++ pins)).run [] s5 _ H' _ S5 (go a na)) (fun f s6 hsp => ?_) (fun _ _ z => False.elim z)
    cases f with
    | next =>
      obtain ⟨σ6, H6, S6, q6⟩ := hsp
      have K6 : Inv X ((a, oe4) :: pins) σ6 H6 s6 := ⟨ok, S6.os, S6.bare, S6.base, S6.loc, S6.cell, S6.free, S6.freeC, fun p hp => S6.pin p (List.mem_append_left _ (by
        rcases List.mem_append.mp hp with q | q
        · exact List.mem_cons_of_mem _ (List.mem_append.mpr (.inl q))
        · rcases List.mem_cons.mp q with q | q
          · rw [q]
            exact List.mem_cons_self
          · exact List.mem_cons_of_mem _ (List.mem_append.mpr (.inr q)))), S6.hok, S6.len⟩
      exact gone_ok K6 hN hi hln fun s7 J7 => ⟨_, _, Inv.trackE J7 n0 np hz4 hd4, q6⟩
    | brk =>
      obtain ⟨_, _, _, q6⟩ := hsp
      exact q6.elim
    | cont =>
      obtain ⟨_, _, _, q6⟩ := hsp
      exact q6.elim
    | ret u =>
      obtain ⟨_, _, _, _, _, q6⟩ := hsp
      exact q6.elim
  refine wpAny_Try_except (wpAny_mono ((hbody (wKeep X.K c i ts D) (X.pn ++ pins) _ land PassesOwn.looking).run [] s σ H D (I.toTry _) hw) (fun f s1 hsp => ?_) (fun e s1 he => he))
  cases f with
  | next =>
    obtain ⟨σ', H', J', q⟩ := hsp
    exact wpAny_execs_nil ⟨σ', H', J'.ofTry ok, q⟩
  | brk =>
    obtain ⟨σ', H', J', q⟩ := hsp
    exact ⟨σ', H', J'.ofTry ok, q⟩
  | cont =>
    obtain ⟨σ', H', J', q⟩ := hsp
    exact ⟨σ', H', J'.ofTry ok, q⟩
  | ret u =>
    obtain ⟨v, σ', H', J', r, q⟩ := hsp
    exact ⟨v, σ', H', J'.ofTry ok, r, q⟩⟩
end
/-! ### isinstance of such an error -/
def rIsEo (K : PySem.W.Frag) : List V → Hp → VK → Prop := fun xs H Q => ∃ (a D : Addr) (c : V) (u : Value) (b : Bool), xs = [.ref a, c] ∧ ClsV c u ∧ H a = some (ErO (.ref D) a) ∧ ExcC K D ∧ PySem.W.kitOne K (.ref D) u = some b ∧ Q (.bl b) H
def rIsEoT (K : PySem.W.Frag) : List V → Hp → VK → Prop := fun xs H Q => ∃ (a D tp : Addr) (cs : List V) (us : List Value) (b : Bool), xs = [.ref a, .ref tp] ∧ H tp = some (.tup cs) ∧ Paired ClsV cs us ∧ H a = some (ErO (.ref D) a) ∧ ExcC K D ∧ PySem.W.kitAny K (.ref D) us = some b ∧ Q (.bl b) H
section
variable {X : Cx}
theorem erO_inst {pins : List (Addr × Obj)} {σ : L2.St} {H : Hp} {s : Shared} {a D : Addr} (I : Inv X pins σ H s) (ha : H a = some (ErO (.ref D) a)) : ∃ oe, PySem.W.InstAt s.heap a oe D none := by
  obtain ⟨⟨oe, h0, hz, vs, hv⟩, _⟩ := (show ObjOk X.prog X.w H s.heap a (ErO (.ref D) a) from I.hok a _ ha)
  obtain ⟨oc, od, oda, osl⟩ := oe
  obtain ⟨h1, h2⟩ := hz
  dsimp only at h1 h2 hv
  subst h1 h2 hv
  exact ⟨_, h0, rfl, rfl, trivial⟩
theorem call_isEo : CallR X (.builtin "isinstance") (rIsEo X.K) := by
  intro pins s σ H xs us Q I r h
  obtain ⟨a, D, c, u, b, rfl, k, ha, C, e, q⟩ := h
  obtain ⟨u1, u2, rfl, r1, r2⟩ := vals2 r
  cases r1
  have e2 := k.eq r2
  subst e2
  obtain ⟨oe, J⟩ := erO_inst I ha
  exact PySem.W.kia_one (PySem.W.handS_kitx_exc C.hg C.hk C.hs C.hd C.ha C.hn C.ht C.hm) I.kIn J e (fun z => nomatch z) fun tk => ⟨.bl b, H, I.tok tk, rfl, q⟩
theorem call_isEoT : CallR X (.builtin "isinstance") (rIsEoT X.K) := by
  intro pins s σ H xs us Q I r h
  obtain ⟨a, D, tp, cs, ws, b, rfl, hT, k, ha, C, e, q⟩ := h
  obtain ⟨u1, u2, rfl, r1, r2⟩ := vals2 r
  cases r1
  cases r2
  obtain ⟨oe, J⟩ := erO_inst I ha
  obtain ⟨_, its, rv, o, h1, h2, n, h3⟩ := (show ObjOk X.prog X.w H s.heap tp (.tup cs) from I.hok tp _ hT)
  have e3 := ClsV.all k rv
  subst e3
  obtain ⟨oc, od, dt, sl⟩ := o
  simp only at h2 h3
  subst h2 h3
  exact PySem.W.kia_tup (PySem.W.handS_kitx_exc C.hg C.hk C.hs C.hd C.ha C.hn C.ht C.hm) I.kIn J h1 e (fun z => nomatch z) fun tk => ⟨.bl b, H, I.tok tk, rfl, q⟩
end
end Bk
set_option Elab.async false
set_option linter.all false
set_option maxRecDepth 100000
set_option maxHeartbeats 4000000
/-! Own rules: two tuples of lists, tuples and dicts of the same content are not unequal. -/
namespace Bk
open PySem PySem.Spec PyProof.Rows L2
open PySem.SeqAt (EqP EqIn)
section
variable {P : Program} {w : World} {K : Type} [DecidableEq K] {knd : HeapKind P w K} {A : Around} {E : Value → Shared → Prop} {s : Shared}
/-- two dicts whose keys stand in the same order, their values equal -/
theorem samePairsT {nm : String} {a b : Addr} {oa ob : Obj} {ea eb : Array DictEntry} {pa pb : Nat} {xa xb : List (K × Addr × Value)} {Q : Bool → Shared → Prop} (hu : knd.room A) (sa : (a == sysModules) = false) (sb : (b == sysModules) = false)
    (ga : s.heap.get? a = some oa) (da : oa.data = .dict ea pa) (la : ea.toList = xa.map (entryOfKey knd)) (ia : ∀ x ∈ xa, knd.is s.heap x.1 x.2.1)
    (gb : s.heap.get? b = some ob) (db : ob.data = .dict eb pb) (lb : eb.toList = xb.map (entryOfKey knd)) (ib : ∀ x ∈ xb, knd.is s.heap x.1 x.2.1) (nb : (xb.map (·.1)).Nodup)
    (hk : xa.map (·.1) = xb.map (·.1)) (hv : ∀ (j : Nat) k p q, xa[j]? = some (k, p) → xb[j]? = some (k, q) → EqP P w A s p.2 q.2 true) (h : Q true s) :
    wpAny (model P w) A (Builtin.Dict.samePairs nm a b) Q E s := by
  have n1 : ea.size = xa.length := size_of_entries la
  have n2 : eb.size = xb.length := size_of_entries lb
  have n3 : xa.length = xb.length := by
    have z := congrArg List.length hk
    rwa [List.length_map, List.length_map] at z
  unfold Builtin.Dict.samePairs Builtin.Dict.showsAll
  rw [if_neg (by rw [sa]; exact Bool.false_ne_true), if_neg (by rw [sb]; exact Bool.false_ne_true)]
  refine wpAny_bind (wpAny_pure (wpAny_bind (wpAny_pure (wpAny_bind (wpAny_dictEntries ga da ?_)))))
  dsimp only
  refine wpAny_bind (wpAny_dictEntries gb db ?_)
  rw [if_neg (by simp only [bne_iff_ne, ne_eq, Decidable.not_not]; omega)]
  refine wpAny_bind (wpAny_dictEpoch ga da (wpAny_bind ?_))
  rw [Std.Legacy.Range.forIn_eq_forIn_range']
  simp only [Std.Legacy.Range.size, Nat.sub_zero, Nat.add_sub_cancel, Nat.div_one]
  refine wpAny_forIn_list _ (fun l q s' => s' = s ∧ q = (none, ()) ∧ ∃ i, l = List.range' i (ea.size - i) ∧ i ≤ ea.size) _ ?_ ?_ _ _ ⟨rfl, rfl, 0, by simp, Nat.zero_le _⟩
  · rintro m l q s' ⟨rfl, rfl, i, hl, hi⟩
    have hlt : i < ea.size := by
      refine Nat.lt_of_not_le fun z => ?_
      rw [Nat.sub_eq_zero_of_le z] at hl
      simp at hl
    rw [show ea.size - i = (ea.size - (i + 1)) + 1 by omega, List.range'_succ] at hl
    injection hl with hm hl
    subst hm
    refine wpAny_bind (wpAny_dictEntries ga da ?_)
    obtain ⟨⟨k, p⟩, hx⟩ : ∃ x, xa[m]? = some x := ⟨xa[m]'(by omega), List.getElem?_eq_getElem (by omega)⟩
    have ent := entry_at la m
    rw [hx] at ent
    rw [ent]
    obtain ⟨⟨k2, q⟩, hy⟩ : ∃ y, xb[m]? = some y := ⟨xb[m]'(by omega), List.getElem?_eq_getElem (by omega)⟩
    have ek : k2 = k := by
      have z := congrArg (fun l => l[m]?) hk
      simp only [List.getElem?_map, hx, hy] at z
      exact (Option.some.inj z).symm
    subst ek
    have at_ : ∀ (j : Nat) (r : Addr × Value), xb[j]? = some (k2, r) → j = m := fun j r hj => by
      have z1 : (xb.map (·.1))[j]? = some k2 := by rw [List.getElem?_map, hj]; rfl
      have z2 : (xb.map (·.1))[m]? = some k2 := by rw [List.getElem?_map, hy]; rfl
      exact (List.getElem?_inj (List.getElem?_eq_some_iff.mp z1).1 nb).mp (z1.trans z2.symm)
    show wpAny _ _ (holding [Value.ref p.1, p.2] _ >>= _) _ _ _
    refine wpAny_bind (wpAny_holding (wpAny_bind (wpAny_dictFind_heap (knd := knd) (k := k2) hu (ia _ (List.mem_of_getElem? hx)) gb db lb ib nb (fun none => absurd hy (none m q)) fun j r hj => ?_)))
    have ej := at_ j r hj
    subst ej
    refine wpAny_bind (wpAny_dictEntries gb db ?_)
    have ent2 := entry_at lb j
    rw [hy] at ent2
    rw [ent2]
    refine wpAny_holding (hv j k2 p q hx hy _ _ ?_)
    show wpAny _ _ (if (!true) = true then _ else _) _ _ _
    rw [if_neg (by decide)]
    refine wpAny_bind (wpAny_dictEpoch ga da ?_)
    rw [if_neg (by simp)]
    exact wpAny_pure ⟨rfl, rfl, j + 1, hl, hlt⟩
  · rintro q s' ⟨rfl, rfl, _⟩
    exact wpAny_pure h
theorem rc_dictsT {a b : Addr} {oa ob : Obj} {ea eb : Array DictEntry} {pa pb : Nat} {xa xb : List (K × Addr × Value)} {Q : Value → Shared → Prop} (hu : knd.room A.in1) (hu2 : A.units < cLine) (sa : (a == sysModules) = false) (sb : (b == sysModules) = false)
    (ga : s.heap.get? a = some oa) (ca : oa.ExactDict) (da : oa.data = .dict ea pa) (la : ea.toList = xa.map (entryOfKey knd)) (ia : ∀ x ∈ xa, knd.is s.heap x.1 x.2.1)
    (gb : s.heap.get? b = some ob) (cb : ob.ExactDict) (db : ob.data = .dict eb pb) (lb : eb.toList = xb.map (entryOfKey knd)) (ib : ∀ x ∈ xb, knd.is s.heap x.1 x.2.1) (nb : (xb.map (·.1)).Nodup)
    (hk : xa.map (·.1) = xb.map (·.1)) (hv : ∀ (j : Nat) k p q, xa[j]? = some (k, p) → xb[j]? = some (k, q) → EqP P w A.in1 s p.2 q.2 true) (h : Q (.bool true) s) :
    wpAny (model P w) A (richCompare .Eq (.ref a) (.ref b)) Q E s := by
  have ta : s.TypeIs (.ref a) "dict" := ⟨oa, ga, ca.1⟩
  have tb : s.TypeIs (.ref b) "dict" := ⟨ob, gb, cb.1⟩
  refine wpAny_richCompare_same_room (op := .Eq) ta tb PySem.F.slot_dict_eq (wpAny_call_entry PySem.F.slot_dict_eq ta PySem.F.entry_dict_eq ?_ (PySem.F.args_dict_eq_2 _ _)) hu2
  show wpAny _ _ (Builtin.Dict.dictSlotArgs "__eq__" ⟨[.ref a, .ref b], []⟩ >>= _) _ _ s
  refine wpAny_bind ?_
  unfold Builtin.Dict.dictSlotArgs
  refine wpAny_bind (wpAny_notOrdered_dict ta ?_)
  show wpAny _ _ (pure (Value.ref a, Value.ref b)) _ _ s
  refine wpAny_pure (wpAny_bind (wpAny_isInstance (T := "dict") tb PySem.F.sub_dict_dict ?_))
  simp only [Bool.not_true, Bool.false_eq_true, if_false]
  refine wpAny_bind (wpAny_pure (wpAny_bind (wpAny_pure (wpAny_bind (samePairsT hu sa sb ga da la ia gb db lb ib nb hk hv ?_)))))
  exact wpAny_pure ⟨_, rfl, (fun x => nomatch x), h⟩
end
end Bk
namespace PySem.SeqAt
open AutoSeq1 (wpAny_loadPart')
open MeetsSeq MeetsSeq2 MeetsSeq3
section
variable {prog : Program} {w : World}
/-- tuple.__ne__ of two tuples of equal items -/
theorem bk_tuple_ne (l b : Addr) (xs ys : Array Value) (n m : Nat) (d1 d2 : Option Addr) (s1 s2 : Array (Option Value)) (hsz : xs.size = ys.size) :
    MeetsIn prog w (Builtin.«tuple.__ne__» ⟨[.ref l, .ref b], []⟩)
      (fun A R s => s.heap.get? l = some { cls := .type "tuple", dict := d1, data := .seq xs n, slots := s1 } ∧ s.heap.get? b = some { cls := .type "tuple", dict := d2, data := .seq ys m, slots := s2 } ∧
        (∀ j (h1 : j < xs.size) (h2 : j < ys.size), EqP prog w A.in1 s xs[j] ys[j] true) ∧ R (.ok (.ret (.bool false))) s) :=
  .of_wp fun A R s h => by
    obtain ⟨hp, g, d, tk, os⟩ := s
    obtain ⟨hl, hb, he, hR⟩ := h
    have f2 := AutoSeq1.sub_tuple_tuple
    have hZ : (xs.toList.zip ys.toList).length = xs.size := by simp [hsz]
    wp_walk using wpAny_loadPart' hl, wpAny_loadPart' hb, wpAny_forIn_list _ (fun rest q s' => q.1 = none ∧ s' = ⟨hp, g, d, tk, os⟩ ∧ ∃ i, rest = (xs.toList.zip ys.toList).drop i) _
    case turn =>
      rintro ⟨y, x⟩ rest q s' ⟨hq, rfl, i, hz⟩
      have hlt : i < (xs.toList.zip ys.toList).length := by
        refine Nat.lt_of_not_le fun z => ?_
        rw [List.drop_of_length_le z] at hz
        cases hz
      have h1 : i < xs.size := hZ ▸ hlt
      have h2 : i < ys.size := hsz ▸ h1
      rw [List.drop_eq_getElem_cons hlt] at hz
      injection hz with hyx hrest
      have e1 : y = xs[i] := by simpa using congrArg Prod.fst hyx
      have e2 : x = ys[i] := by simpa using congrArg Prod.snd hyx
      subst e1 e2
      refine wpAny_bind (he i h1 h2 _ _ ?_)
      wp_walk
      exact ⟨rfl, rfl, i + 1, hrest⟩
    case fin =>
      rintro ⟨b1, b2⟩ s' ⟨hq, rfl, i, hz⟩
      simp only at hq
      subst hq
      wp_walk
      exact ⟨_, rfl, by simpa [Builtin.Tuple.tupleCompareSizes, hsz] using hR⟩
    case h => exact ⟨rfl, rfl, 0, rfl⟩
theorem bk_rc_ne {A : Around} {s : Shared} {E : Value → Shared → Prop} {l b : Addr} {xs ys : Array Value} {Q : Value → Shared → Prop} (hl : s.heap.IsTuple l xs) (hb : s.heap.IsTuple b ys) (hsz : xs.size = ys.size) (hu : A.units < cLine)
    (he : ∀ j (h1 : j < xs.size) (h2 : j < ys.size), EqP prog w A.in1 s xs[j] ys[j] true) (h : Q (.bool false) s) : wpAny (model prog w) A (richCompare .NotEq (.ref l) (.ref b)) Q E s := by
  obtain ⟨⟨c1, d1, t1, s1⟩, ho, hc, n, hd⟩ := id hl
  obtain ⟨⟨c2, d2, t2, s2⟩, ho2, hc2, m, hd2⟩ := id hb
  simp only at hc hd hc2 hd2
  subst hc hd hc2 hd2
  exact wpAny_richCompare_same_room (T := "tuple") (op := .NotEq) ⟨_, ho, rfl⟩ ⟨_, ho2, rfl⟩ F.slot_tuple_ne (call_meetsIn F.slot_tuple_ne ⟨_, ho, rfl⟩ F.entry_tuple_ne (F.args_tuple_ne_2 _ _) (bk_tuple_ne l b xs ys n m d1 d2 s1 s2 hsz)
    ⟨ho, ho2, he, show Value.bool false ≠ Value.notImplemented ∧ Q (.bool false) s from ⟨(fun x => nomatch x), h⟩⟩) hu
end
end PySem.SeqAt
namespace Bk
open PySem PySem.Spec PyProof.Rows L2
open PySem.SeqAt (EqP EqIn)
/-- equal, of nesting below n -/
def EqW (K : PySem.W.Frag) (H : Hp) : Nat → V → V → Prop
  | 0 => fun _ _ => False
  | n + 1 => fun x y => (x = y ∧ flatB x = true) ∨ (∃ a, x = .ref a ∧ y = .ref a) ∨ (∃ a b xs ys, x = .ref a ∧ y = .ref b ∧ SqL K H a xs ∧ SqL K H b ys ∧ Paired (EqW K H n) xs ys) ∨
      (∃ a b xs ys, x = .ref a ∧ y = .ref b ∧ SqT K H a xs ∧ SqT K H b ys ∧ Paired (EqW K H n) xs ys) ∨
      ∃ a b ks ls, x = .ref a ∧ y = .ref b ∧ H a = some (.dT ks) ∧ H b = some (.dT ls) ∧ Paired (fun (p q : List L2.Key × V) => p.1 = q.1 ∧ EqW K H n p.2 q.2) ks ls
section
variable {X : Cx} {pins : List (Addr × Obj)} {σ : L2.St} {H : Hp} {s : Shared}
theorem itemsP {P : Program} {w : World} {A : Around} {s : Shared} {F : V → V → Prop} (ih : ∀ x y v u, F x y → RelV x v → RelV y u → EqP P w A s v u true) : ∀ {xs ys : List V} {us ws : List Value}, Paired F xs ys → Vals xs us → Vals ys ws →
    ∀ j (h1 : j < us.length) (h2 : j < ws.length), EqP P w A s us[j] ws[j] true
  | _, _, _, _, .nil, .nil, .nil, j, h1, _ => absurd h1 (Nat.not_lt_zero j)
  | _, _, _, _, .cons f p, .cons a1 b1, .cons a2 b2, 0, _, _ => ih _ _ _ _ f a1 a2
  | _, _, _, _, .cons f p, .cons a1 b1, .cons a2 b2, j + 1, h1, h2 => itemsP ih p b1 b2 j (Nat.lt_of_succ_lt_succ h1) (Nat.lt_of_succ_lt_succ h2)
theorem kt_fst {H : Hp} : ∀ {kvs : List (List L2.Key × V)} {xs : List (List L2.Key × Addr × Value)}, KT H kvs xs → kvs.map (·.1) = xs.map (·.1)
  | _, _, .nil => rfl
  | _, _, .cons h t => by
    rw [List.map_cons, List.map_cons, kt_fst t, h.1]
theorem paired_fst {F : (List L2.Key × V) → (List L2.Key × V) → Prop} (h : ∀ p q, F p q → p.1 = q.1) : ∀ {ks ls : List (List L2.Key × V)}, Paired F ks ls → ks.map (·.1) = ls.map (·.1)
  | _, _, .nil => rfl
  | _, _, .cons f t => by
    rw [List.map_cons, List.map_cons, paired_fst h t, h _ _ f]
theorem eqW_run (I : Inv X pins σ H s) : ∀ (n : Nat) (A : Around), A.units + 2 * n < cLine → ∀ (x y : V) (v u : Value), EqW X.K H n x y → RelV x v → RelV y u → EqP X.prog X.w A s v u true
  | 0, _, _, _, _, _, _, h, _, _ => (show False from h).elim
  | n + 1, A, hu, x, y, v, u, h, rx, ry => by
    have ih := eqW_run I n A.in1 (by show A.units + 1 + 2 * n < cLine; omega)
    rcases h with ⟨rfl, f⟩ | ⟨a, rfl, rfl⟩ | ⟨a, b, xs, ys, rfl, rfl, ha, hb, hp⟩ | ⟨a, b, xs, ys, rfl, rfl, ha, hb, hp⟩ | ⟨a, b, ks, ls, rfl, rfl, ha, hb, hp⟩
    · exact (eqAt_same rx ry f).eqP
    · cases rx
      cases ry
      exact (PySem.SeqAt.EqAt.same _).eqP
    · cases rx
      cases ry
      by_cases e : a = b
      · subst e
        exact (PySem.SeqAt.EqAt.same _).eqP
      · obtain ⟨us, r1, p1, _⟩ := I.list ha
        obtain ⟨ws, r2, p2, _⟩ := I.list hb
        have l1 := PySem.Paired.length hp
        have l2 := r1.length
        have l3 := r2.length
        refine PySem.SeqAt.eqP_refs e fun E Q q => PySem.SeqAt.rcP_lists (e := fun _ => true) p1.isList p2.isList (by rw [List.size_toArray, List.size_toArray]; omega) (by omega) (fun j h1 h2 => ?_) E Q ?_
        · simpa using itemsP ih hp r1 r2 j (by simpa using h1) (by simpa using h2)
        · rw [show ((List.range us.toArray.size).all fun _ => true) = true from List.all_eq_true.mpr fun _ _ => rfl]
          exact q
    · cases rx
      cases ry
      by_cases e : a = b
      · subst e
        exact (PySem.SeqAt.EqAt.same _).eqP
      · obtain ⟨us, r1, p1, _⟩ := I.tuple ha
        obtain ⟨ws, r2, p2, _⟩ := I.tuple hb
        have l1 := PySem.Paired.length hp
        have l2 := r1.length
        have l3 := r2.length
        refine PySem.SeqAt.eqP_refs e fun E Q q => PySem.SeqAt.rcIn_tuples (e := fun _ => true) p1 p2 (by omega) (fun j h1 h2 => ?_) ?_
        · have z := itemsP ih hp r1 r2 j (by simpa using h1) (by simpa using h2)
          exact fun E Q q => by simpa using z E Q q
        · have e1 : (us.toArray.size == ws.toArray.size) = true := by
            rw [List.size_toArray, List.size_toArray, beq_iff_eq]
            omega
          rw [e1, Bool.and_true, show ((List.range (min us.toArray.size ws.toArray.size)).all fun _ => true) = true from List.all_eq_true.mpr fun _ _ => rfl]
          exact q
    · cases rx
      cases ry
      by_cases e : a = b
      · subst e
        exact (PySem.SeqAt.EqAt.same _).eqP
      · obtain ⟨_, sa, xa, ra, oa, ea, pa, ga, ca, da, la, ia, na⟩ := dt_of I.hok ha
        obtain ⟨_, sb, xb, rb, ob, eb, pb, gb, cb, db, lb, ib, nb⟩ := dt_of I.hok hb
        have hk : xa.map (·.1) = xb.map (·.1) := by
          rw [← kt_fst ra, ← kt_fst rb]
          exact paired_fst (fun _ _ z => z.1) hp
        refine PySem.SeqAt.eqP_refs e fun E Q q => rc_dictsT (knd := tupleKind (mixKind X.prog X.w)) (tupleKind_room_in1 (by omega)) (by omega) sa sb ga ca da la ia gb cb db lb ib nb hk (fun j k p r hj hr => ?_) q
        obtain ⟨kv1, h1, _, _, r1⟩ := paired_at ra hj
        obtain ⟨kv2, h2, z⟩ := paired_at' hp h1
        obtain ⟨kv3, h3, _, _, r3⟩ := paired_at rb hr
        rw [h2] at h3
        cases h3
        exact ih _ _ _ _ z.2 r1 r3
/-- a != b, two tuples that are equal -/
def rNeT (K : PySem.W.Frag) : R2 := fun x y H Q => ∃ (a b : Addr) (xs ys : List V) (n : Nat), x = .ref a ∧ y = .ref b ∧ SqT K H a xs ∧ SqT K H b ys ∧ n ≤ 30 ∧ Paired (EqW K H n) xs ys ∧ Q (.bl false) H
theorem op_neT (hu : X.A.units + 65 < cLine) : OpR X (compareOp .NotEq) (rNeT X.K) := by
  intro pins s σ H x y v u Q I rx ry h
  obtain ⟨a, b, xs, ys, n, rfl, rfl, ha, hb, hn, hp, q⟩ := h
  cases rx
  cases ry
  obtain ⟨us, r1, p1, _⟩ := I.tuple ha
  obtain ⟨ws, r2, p2, _⟩ := I.tuple hb
  have l1 := PySem.Paired.length hp
  have l2 := r1.length
  have l3 := r2.length
  refine PySem.SeqAt.bk_rc_ne p1 p2 (by rw [List.size_toArray, List.size_toArray]; omega) (by omega) (fun j h1 h2 => ?_) ⟨.bl false, H, I, rfl, q⟩
  have z := itemsP (eqW_run I n X.A.in1 (by show X.A.units + 1 + 2 * n < cLine; omega)) hp r1 r2 j (by simpa using h1) (by simpa using h2)
  exact fun E Q q => by simpa using z E Q q
end
end Bk
set_option Elab.async false
set_option linter.all false
set_option maxRecDepth 100000
set_option maxHeartbeats 4000000
/-! The road; what is refused for want of a hand. -/
namespace Bk
open PySem PySem.Spec PyProof.Rows L2
theorem pe_never {X : Cx} {e : Expr} : PE X e (fun _ _ _ => False) := ⟨fun _ _ _ _ _ _ h => h.elim⟩
def rLstK (K : PySem.W.Frag) : List V → Hp → VK → Prop := fun xs H Q => ∃ p ys, xs = [.ref p] ∧ (SqL K H p ys ∨ SqT K H p ys) ∧ ∀ l, H l = none → Q (.ref l) (upd H l (.lst ys))
theorem call_list_ofK {X : Cx} {K : PySem.W.Frag} (h : X.K = K) : CallR X (.type "list") (rLstK K) := h ▸ call_list_of
theorem walk_itT {d : Addr} {o : Obj} {kvs : List (List L2.Key × V)} : Walk (ItiT d o kvs) kvs.length (fun H => H d = some (.frz o (.dT kvs)))
    (fun i H x H' => ∃ T q k v, kvs[i]? = some (k, v) ∧ x = .ref T ∧ H q = some (.tup (k.map kV)) ∧ H T = none ∧ H' = upd H T (.tup [.ref q, v])) :=
  ⟨fun _ _ hi q => ⟨q, hi⟩, fun _ q => ⟨q, Nat.le_refl _⟩, fun _ _ _ _ _ _ y => y⟩
def namesS (L : Lm) : List Nm := (sentAll 0 L.evss).map (·.1)
def roadL (L : Lm) : List Nm := sortN ((namesS L).filter fun n => !(lookU (usedAll [] L.evss) n).isSome)
theorem SentKV.keys {H : Hp} : ∀ {kvs : List (List L2.Key × V)} {l : List (Nm × Lt)}, SentKV H kvs l → kvs.map (·.1) = (l.map (·.1)).map nmK
  | _, _, .nil => rfl
  | _, _, .cons h t => by
    rw [List.map_cons, List.map_cons, List.map_cons, SentKV.keys t, h.1]
theorem SentKV.at_ {H : Hp} {kvs : List (List L2.Key × V)} {l : List (Nm × Lt)} (x : SentKV H kvs l) {j : Nat} {k : List L2.Key} {v : V} (h : kvs[j]? = some (k, v)) : ∃ n, (l.map (·.1))[j]? = some n ∧ k = nmK n := by
  obtain ⟨y, h1, h2, _⟩ := paired_at' x h
  exact ⟨y.1, by rw [List.getElem?_map, h1]; rfl, h2⟩
def sp_LoomRoad (K : PySem.W.Frag) : Sp := fun vs H Q _ => ∃ (ρ : Rl) (p : Addr) (L : Lm) (d : DP), vs = [.ref p] ∧ Wf ρ H ∧ LmIs K ρ H p L d ∧ L.many ≤ 5 ∧ L.Ok 100 ∧
  ∀ (q : Addr) (rv : List V) (H' : Hp), H q = none → Same H H' → H' q = some (.lst rv) → Paired (NmAt H') rv (roadL L) → Q (.ref q) H'
def sp_LoomWordsof (K : PySem.W.Frag) : Sp := fun vs H Q E => ∃ (ρ : Rl) (p : Addr) (h : Int) (L : Lm) (d : DP), vs = [.ref p, .int h] ∧ LmIs K ρ H p L d ∧ BadHand L h ∧ E (.ref (He.ga K "NoHand")) none H
def sp_LoomThrowahead (K : PySem.W.Frag) : Sp := fun vs H Q E => ∃ (ρ : Rl) (p : Addr) (h q : Int) (L : Lm) (d : DP), vs = [.ref p, .int h, .int q] ∧ LmIs K ρ H p L d ∧ BadHand L h ∧ E (.ref (He.ga K "NoHand")) none H
def sp_ThreadThrowahead (K : PySem.W.Frag) : Sp := fun _ _ _ _ => False
section
variable {P : Program} {w : World} {K : PySem.W.Frag} {mg : Str → Option Value} {base : Heap}
theorem sent_len {L : Lm} (hm : L.thr.length ≤ 5) (ok : L.Ok 100) : (sentAll 0 L.evss).length ≤ 1500 := by
  have h := sentAll_len 100 0 L.evss (evs_of_ok ok)
  have : L.evss.length = L.thr.length := by
    unfold Lm.evss
    rw [List.length_map]
  omega
theorem scLoomRoad : FnScope ["self", "used", "name"] ["self"] (defScope sLoomRoad) := ⟨rfl, rfl, rfl, by decide +kernel, rfl, by decide +kernel, by decide +kernel⟩
theorem ok_LoomRoad (T : Txt K mg) : OK P w K mg base CX0 3 ("Loom", some "road") ["self"] (sp_LoomRoad K) := by
  obtain ⟨fdLoomLettersused, GLoomLettersused, bLoomLettersused, kLoomLettersused⟩ := (ok_LoomLettersused (P := P) (w := w) (base := base) T).ex
  obtain ⟨fdLoomLetterssent, GLoomLetterssent, bLoomLetterssent, kLoomLetterssent⟩ := (ok_LoomLetterssent (P := P) (w := w) (base := base) T).ex
  refine OK.mk0 T.f_LoomRoad scLoomRoad (fun _ _ _ _ _ _ us hl => match us, hl with | [_], _ => rfl) (fun vs H Q E h => ?_) (fun cdv A outer s H vs Q E hr h => ?_)
  · obtain ⟨ρ, p, L, d, rfl, _⟩ := h
    rfl
  · obtain ⟨ρ, p, L, d, rfl, wf, X, hm, ok, k⟩ := h
    obtain ⟨dx, f, tl, dl, ol, tas, dvs, ovs, Y⟩ := id X
    have ht5 : L.thr.length ≤ 5 := by rw [Y.tlen]; exact hm
    refine ⟨_, (pss_cons (ps_set (i := 1) scLoomRoad.nd rfl (Or.inr rfl) (pe_meth0 (pv 0) T.c_Loom T.m_Loom_letters_used GLoomLettersused (hr.mono (by decide)) bLoomLettersused .nil pass0))
      (pss_one (ps_ret (pe_callB (cr_sortB alike_nm tup_nm depth_nm (hu65 hr)) (by rfl) T.n_sorted (by decide +kernel) (pa_cons (pe_lc (own := [("name", 2)]) rfl scLoomRoad.nd (pi_keys (pe_frz (pe_meth0 (pv 0) T.c_Loom T.m_Loom_letters_sent GLoomLetterssent (hr.mono (by decide)) bLoomLetterssent .nil pass0))) (blkOk_by (N := ["self", "used", "name"]) (sc := defScope sLoomRoad) (by decide +kernel)) (fun _ _ _ _ _ => (pg_name (i := 2) scLoomRoad.nd rfl (Or.inl rfl) (Or.inr rfl))) (fun _ _ _ _ _ => (pts_one (pt_cmp (pc_dnotin (hu_of hr) (pv 2) (pv 1))))) (fun _ _ _ _ _ => (pv 2))) pa_nil))))), ?_⟩
    refine ⟨_, rfl, p, dx, _, rfl, Y.ob.at_, rfl, ρ, p, L, d, rfl, wf, X, hm, ok, fun q H1 hq s1 eq => ?_⟩
    have X1 := X.same wf s1
    have wf1 : Wf ρ H1 := fun b e => wf b (s1.free e)
    have Y1 := Y.same wf s1
    refine ⟨_, rfl, p, dx, _, rfl, Y1.ob.at_, rfl, ρ, p, L, d, rfl, wf1, X1, hm, ok, fun c kvs H2 hc s2 ec sk => ?_⟩
    have nqc : q ≠ c := ne_of_none eq hc
    refine ⟨c, _, rfl, ec, trivial, fun oc => ⟨c, oc, rfl, .inr ⟨kvs, upd_same, fun D hD => ?_⟩⟩⟩
    have sf : Same H1 (upd H2 c (.frz oc (.dT kvs))) := fun b o e => (upd_ne (ne_of_none e hc)).trans (s2 b o e)
    obtain ⟨H3, e3⟩ : ∃ H3, H3 = upd H2 c (.frz oc (.dT kvs)) := ⟨_, rfl⟩
    rw [← e3] at hD sf ⊢
    have c3 : H3 c = some (.frz oc (.dT kvs)) := by rw [e3, upd_same]
    have q3 : H3 q = some (.dT (usedKV (usedAll [] L.evss))) := sf _ _ eq
    have sk3 : SentKV H3 kvs (sentAll 0 L.evss) := sk.tk fun b xs e => by rw [e3, upd_ne (ne_of e ec (by intro z; cases z))]; exact e
    have nqD : q ≠ D := ne_of_none q3 hD
    have ncD : c ≠ D := ne_of_none c3 hD
    have lk : kvs.length = (namesS L).length := by
      unfold namesS
      rw [List.length_map]
      exact paired_len sk
    have lS := sent_len ht5 ok
    have lN : (namesS L).length ≤ 1500 := by
      unfold namesS
      rw [List.length_map]
      exact lS
    refine lc_it (walk_keysT (d := c) (o := oc) (kvs := kvs)) (fun j G => ∃ xs, G = upd H3 D (.lst xs) ∧ Paired (NmAt H3) xs (((namesS L).take j).filter fun n => !(lookU (usedAll [] L.evss) n).isSome)) ⟨[], rfl, .nil⟩ (fun j G _ e => ?_) (fun j x G G2 hj e hy => ?_) (fun G e => ?_)
    · obtain ⟨xs, rfl, _⟩ := e
      exact (upd_ne ncD).trans c3
    · obtain ⟨xs, rfl, pr⟩ := e
      obtain ⟨rfl, kk, v, a, hkv, rfl, ha⟩ := hy
      obtain ⟨m, hm2, rfl⟩ := sk3.at_ hkv
      have hm2 : (namesS L)[j]? = some m := hm2
      have haD : a ≠ D := fun z => by
        rw [z, upd_same] at ha
        cases ha
      have ha3 : H3 a = some (.tup ((nmK m).map kV)) := by
        rw [upd_ne haD] at ha
        exact ha
      have hlen : xs.length < sizeLine := small6 (by
        rw [paired_len pr]
        have := filter_len (fun n => !(lookU (usedAll [] L.evss) n).isSome) (namesS L) j
        omega)
      refine ⟨rfl, _, rfl, _, rfl, q, _, rfl, DGet.t ((upd_ne nqD).trans q3) ha, ?_⟩
      rw [usedKV_look, filter_snoc hm2]
      cases hu : lookU (usedAll [] L.evss) m with
      | none => exact ⟨_, rfl, iteT ⟨_, rfl, xs, upd_same, hlen, xs ++ [V.ref a], upd_upd, paired_snoc ⟨a, rfl, ha3⟩ pr⟩⟩
      | some u =>
        refine ⟨_, rfl, iteF ⟨xs, rfl, ?_⟩⟩
        rw [if_neg (by simp), List.append_nil]
        exact pr
    · obtain ⟨xs, rfl, pr⟩ := e
      rw [lk, List.take_length] at pr
      have s4 : Same H3 (upd H3 D (.lst xs)) := same_upd hD
      have hz : ((namesS L).filter fun n => !(lookU (usedAll [] L.evss) n).isSome).length ≤ sizeLine := by
        have h1 := List.length_filter_le (fun n => !(lookU (usedAll [] L.evss) n).isSome) (namesS L)
        have := sizeLine_eq
        omega
      refine ⟨D, xs, _, NmAt (upd H3 D (.lst xs)), rfl, SqL.of upd_same, Paired.tkN pr (tk_same s4), fun x n h => nm_dp h, hz, fun ys r hr pr2 => ?_⟩
      have s5 : Same (upd H3 D (.lst xs)) (upd (upd H3 D (.lst xs)) r (.lst ys)) := same_upd hr
      exact k r ys _ (s1.free (sf.free (s4.free hr))) ((s1.trans sf).trans (s4.trans s5)) upd_same (Paired.tkN pr2 (tk_same s5))
theorem scLoomWordsof : FnScope ["self", "hand", "event"] ["self", "hand"] (defScope sLoomWordsof) := ⟨rfl, rfl, rfl, by decide +kernel, rfl, by decide +kernel, by decide +kernel⟩
theorem ok_LoomWordsof (T : Txt K mg) : OK P w K mg base (L2.CX P w) 2 ("Loom", some "words_of") ["self", "hand"] (sp_LoomWordsof K) := by
  obtain ⟨fdThreadEvents, GThreadEvents, bThreadEvents, kThreadEvents⟩ := (ok_ThreadEvents (P := P) (w := w) (base := base) T).ex
  obtain ⟨fdLoomThreadof, GLoomThreadof, bLoomThreadof, kLoomThreadof⟩ := (ok_LoomThreadof (P := P) (w := w) (base := base) T).ex
  refine OK.mkX T.f_LoomWordsof scLoomWordsof (fun _ _ _ _ _ _ us hl => match us, hl with | [_, _], _ => rfl) (fun vs H Q E h => ?_) (fun cdv A outer s H vs Q E hr h => ?_)
  · obtain ⟨ρ, p, h, L, d, rfl, _⟩ := h
    rfl
  · obtain ⟨ρ, p, h, L, d, rfl, ⟨dx, f, tl, dl, ol, tas, dvs, ovs, X⟩, bh, bad⟩ := h
    refine ⟨_, (pss_one (ps_ret (pe_lc (own := [("event", 2)]) rfl scLoomWordsof.nd (pi_list (pe_meth0 (pe_meth (pv 0) T.c_Loom T.m_Loom_thread_of GLoomThreadof (hr.mono (by decide)) bLoomThreadof .nil (passes_call (takes_of rfl rfl rfl rfl) fun _ _ _ _ h => h) (pa_cons (pv 1) pa_nil)) T.c_Thread T.m_Thread_events GThreadEvents (hr.mono (by decide)) bThreadEvents .nil pass0)) (blkOk_by (N := ["self", "hand", "event"]) (sc := defScope sLoomWordsof) (by decide +kernel)) (fun _ _ _ _ _ => (pg_name (i := 2) scLoomWordsof.nd rfl (Or.inl rfl) (Or.inr rfl))) (fun _ _ _ _ _ => pts_nil) (fun _ _ _ _ _ => pe_never)))), ?_⟩
    refine ⟨_, rfl, p, dx, _, rfl, X.ob.at_, rfl, _, rfl, ρ, p, h, L, d, dx, f, tl, dl, ol, tas, dvs, ovs, rfl, X, fun _ => bad, fun i a hi ha => ?_⟩
    have hlt : i < L.many := by
      rw [← X.len]
      exact (List.getElem?_eq_some_iff.mp ha).1
    rcases bh with z | z <;> omega
theorem scThreadThrowahead : FnScope ["self", "place", "early", "one"] ["self", "place"] (defScope sThreadThrowahead) := ⟨rfl, rfl, rfl, by decide +kernel, rfl, by decide +kernel, by decide +kernel⟩
theorem ok_ThreadThrowahead (T : Txt K mg) : OK P w K mg base CX0 1 ("Thread", some "throw_ahead") ["self", "place"] (sp_ThreadThrowahead K) := by
  refine OK.mk0 T.f_ThreadThrowahead scThreadThrowahead (fun _ _ _ _ _ _ us hl => match us, hl with | [_, _], _ => rfl) (fun vs H Q E h => h.elim) (fun cdv A outer s H vs Q E hr h => h.elim)
theorem scLoomThrowahead : FnScope ["self", "hand", "place"] ["self", "hand", "place"] (defScope sLoomThrowahead) := ⟨rfl, rfl, rfl, by decide +kernel, rfl, by decide +kernel, by decide +kernel⟩
theorem ok_LoomThrowahead (T : Txt K mg) : OK P w K mg base (L2.CX P w) 2 ("Loom", some "throw_ahead") ["self", "hand", "place"] (sp_LoomThrowahead K) := by
  obtain ⟨fdThreadThrowahead, GThreadThrowahead, bThreadThrowahead, kThreadThrowahead⟩ := (ok_ThreadThrowahead (P := P) (w := w) (base := base) T).ex
  obtain ⟨fdLoomThreadof, GLoomThreadof, bLoomThreadof, kLoomThreadof⟩ := (ok_LoomThreadof (P := P) (w := w) (base := base) T).ex
  refine OK.mkX T.f_LoomThrowahead scLoomThrowahead (fun _ _ _ _ _ _ us hl => match us, hl with | [_, _, _], _ => rfl) (fun vs H Q E h => ?_) (fun cdv A outer s H vs Q E hr h => ?_)
  · obtain ⟨ρ, p, h, q, L, d, rfl, _⟩ := h
    rfl
  · obtain ⟨ρ, p, h, q, L, d, rfl, ⟨dx, f, tl, dl, ol, tas, dvs, ovs, X⟩, bh, bad⟩ := h
    refine ⟨_, (pss_one (ps_expr (pe_meth (pe_meth (pv 0) T.c_Loom T.m_Loom_thread_of GLoomThreadof (hr.mono (by decide)) bLoomThreadof .nil (passes_call (takes_of rfl rfl rfl rfl) fun _ _ _ _ h => h) (pa_cons (pv 1) pa_nil)) T.c_Thread T.m_Thread_throw_ahead GThreadThrowahead (hr.mono (by decide)) bThreadThrowahead .nil pass0 (pa_cons (pv 2) pa_nil)))), ?_⟩
    refine ⟨_, rfl, p, dx, _, rfl, X.ob.at_, rfl, _, rfl, ρ, p, h, L, d, dx, f, tl, dl, ol, tas, dvs, ovs, rfl, X, fun _ => bad, fun i a hi ha => ?_⟩
    have hlt : i < L.many := by
      rw [← X.len]
      exact (List.getElem?_eq_some_iff.mp ha).1
    rcases bh with z | z <;> omega
end
end Bk
set_option Elab.async false
set_option linter.all false
set_option maxRecDepth 100000
set_option maxHeartbeats 4000000
/-! The letters that break a line; the places to which hands may go. -/
namespace Bk
open PySem PySem.Spec PyProof.Rows L2
theorem passN {X : Cx} : Passes (L2.CX X.prog X.w) X E0 := fun _ _ _ _ _ _ _ ⟨_, _, _, _, _, _, _, _, _, _, _, _, h⟩ => h.elim
def brk (L : Lm) (line : List Int) (x : Nm × Int) : Bool := match lookS (sentAll 0 L.evss) x.1 with
  | some lt => decide (x.2 ≤ lineAt line lt.1) && decide (x.1.2.1 > lineAt line x.1.1)
  | none => false
def brokenL (L : Lm) (line : List Int) : List Nm := sortN (((usedAll [] L.evss).filter (brk L line)).map (·.1))
/-- every used letter was sent, to a hand and by a hand -/
def UsedOk (L : Lm) : Prop := ∀ n q, (n, q) ∈ usedAll [] L.evss → ∃ lt, lookS (sentAll 0 L.evss) n = some lt ∧ (∃ i : Nat, lt.1 = (i : Nat) ∧ i < L.many) ∧ ∃ i : Nat, n.1 = (i : Nat) ∧ i < L.many
def sp_brokenby (K : PySem.W.Frag) : Sp := fun vs H Q _ => ∃ (ρ : Rl) (p ll : Addr) (L : Lm) (d : DP) (line : List Int), vs = [.ref p, .ref ll] ∧ Wf ρ H ∧ LmIs K ρ H p L d ∧ L.many ≤ 5 ∧ L.Ok 100 ∧ UsedOk L ∧ H ll = some (.lst (line.map V.int)) ∧ line.length = L.many ∧
  ∀ (q : Addr) (rv : List V) (H' : Hp), H q = none → Same H H' → H' q = some (.lst rv) → Paired (NmAt H') rv (brokenL L line) → Q (.ref q) H'
theorem line_at {line : List Int} {m i : Nat} {h : Int} (hl : line.length = m) (e : h = (i : Nat)) (hi : i < m) : atI (line.map V.int) h = some (.int (lineAt line h)) := by
  subst e
  refine atI_nat ?_
  unfold lineAt
  rw [List.getElem?_map, List.getD_eq_getElem?_getD, Int.toNat_natCast, List.getElem?_eq_getElem (by omega)]
  rfl
theorem used_len {L : Lm} (hm : L.thr.length ≤ 5) (ok : L.Ok 100) : (usedAll [] L.evss).length ≤ 500 := by
  have h := usedAll_len 100 [] L.evss fun es hes => (evs_of_ok ok es hes).1
  have : L.evss.length = L.thr.length := by
    unfold Lm.evss
    rw [List.length_map]
  rw [List.length_nil] at h
  omega
def allowed (fallen : List Int) (i : Nat) (t : Thr) : List Int := if ((i : Nat) : Int) ∉ fallen ∧ t.here ∉ t.points then t.points ++ [t.here] else t.points
def sp_allowedpoints (K : PySem.W.Frag) : Sp := fun vs H Q _ => ∃ (ρ : Rl) (p fl : Addr) (L : Lm) (d : DP) (fallen : List Int), vs = [.ref p, .ref fl] ∧ Wf ρ H ∧ LmIs K ρ H p L d ∧ L.many ≤ 5 ∧ L.Ok 100 ∧ H fl = some (.lst (fallen.map V.int)) ∧
  ∀ (q : Addr) (as : List Addr) (H' : Hp), H q = none → Same H H' → H' q = some (.lst (as.map V.ref)) → as.length = L.many → (∀ (i : Nat) (a : Addr) (t : Thr), as[i]? = some a → L.thr[i]? = some t → H' a = some (.lst ((allowed fallen i t).map V.int))) → Q (.ref q) H'
def sp_pointahead (K : PySem.W.Frag) : Sp := fun vs H Q _ => ∃ (a : Addr) (ps : List Int) (q : Int), vs = [.ref a, .int q] ∧ H a = some (.lst (ps.map V.int)) ∧ ps.length ≤ 1000 ∧ (∃ x ∈ ps, x < q) ∧
  ∀ (m : Int) (H' : Hp), m ∈ ps → m < q → Same H H' → Q (.int m) H'
theorem points_len {t : Thr} (ok : t.Ok 100) : t.points.length ≤ 102 := by
  unfold Thr.points
  split
  · unfold upTo
    rw [List.length_map, List.length_range]
    obtain ⟨r, hw⟩ := ok.hd
    rw [hw]
    show ((t.here - t.pile + 1 - 0).toNat) ≤ _
    have := ok.ln
    have := ok.pl
    unfold Thr.here at *
    omega
  · have := ok.lw
    omega
theorem allowed_len {t : Thr} (ok : t.Ok 100) (fallen : List Int) (i : Nat) : (allowed fallen i t).length ≤ 103 := by
  have := points_len ok
  unfold allowed
  split
  · rw [List.length_append]
    simp only [List.length_cons, List.length_nil]
    omega
  · omega
section
variable {P : Program} {w : World} {K : PySem.W.Frag} {mg : Str → Option Value} {base : Heap}
theorem scbrokenby : FnScope ["loom", "line", "sent", "found", "name", "place"] ["loom", "line"] (defScope sbrokenby) := ⟨rfl, rfl, rfl, by decide +kernel, rfl, by decide +kernel, by decide +kernel⟩
theorem ok_brokenby (T : Txt K mg) : OK P w K mg base CX0 3 ("broken_by", none) ["loom", "line"] (sp_brokenby K) := by
  obtain ⟨fdLoomLetterssent, GLoomLetterssent, bLoomLetterssent, kLoomLetterssent⟩ := (ok_LoomLetterssent (P := P) (w := w) (base := base) T).ex
  obtain ⟨fdLoomLettersused, GLoomLettersused, bLoomLettersused, kLoomLettersused⟩ := (ok_LoomLettersused (P := P) (w := w) (base := base) T).ex
  refine OK.mk0 T.f_brokenby scbrokenby (fun _ _ _ _ _ _ us hl => match us, hl with | [_, _], _ => rfl) (fun vs H Q E h => ?_) (fun cdv A outer s H vs Q E hr h => ?_)
  · obtain ⟨ρ, p, ll, L, d, line, rfl, _⟩ := h
    rfl
  · obtain ⟨ρ, p, ll, L, d, line, rfl, wf, X, hm, ok, uok, hll, hlen, k⟩ := h
    obtain ⟨dx, f, tl, dl, ol, tas, dvs, ovs, Y⟩ := id X
    have ht5 : L.thr.length ≤ 5 := by rw [Y.tlen]; exact hm
    refine ⟨_, (pss_cons (ps_set (i := 2) scbrokenby.nd rfl (Or.inl rfl) (pe_meth0 (pv 0) T.c_Loom T.m_Loom_letters_sent GLoomLetterssent (hr.mono (by decide)) bLoomLetterssent .nil pass0))
      (pss_cons (ps_set (i := 3) scbrokenby.nd rfl (Or.inl rfl) (pe_lst pa_nil))
      (pss_cons (ps_for PassesOwn.never rfl (pi_itemsT (pe_frz (pe_meth0 (pv 0) T.c_Loom T.m_Loom_letters_used GLoomLettersused (hr.mono (by decide)) bLoomLettersused .nil pass0))) (pg_tup rfl (pgs_cons (pg_name (i := 4) scbrokenby.nd rfl (Or.inl rfl)) (pgs_cons (pg_name (i := 5) scbrokenby.nd rfl (Or.inl rfl)) pgs_nil))) (pss_one (ps_if (PW.pt (pw_and (pt_cmpR op_le (pv 5) (pe_ix ix_list (pv 1) (pe_ix ix_tup (pe_dget (hu_of hr) (pv 2) (pv 4) (fun _ _ => rfl)) pe_int (fun _ _ => rfl)) (fun _ _ => rfl)) (nomark _)) (pw_and1 (pt_cmpR op_gt (pe_ix ix_tup (pv 4) pe_int (fun _ _ => rfl)) (pe_ix ix_list (pv 1) (pe_ix ix_tup (pv 4) pe_int (fun _ _ => rfl)) (fun _ _ => rfl)) (nomark _))))) (pss_one (ps_expr (pe_bm PySem.F.plainAttrs_list PySem.F.slot_list_append PySem.F.type_list_append mt_append (pv 3) (pa_cons (pv 4) pa_nil)))) pss_nil)))
      (pss_one (ps_ret (pe_callB (cr_sortB alike_nm tup_nm depth_nm (hu65 hr)) (by rfl) T.n_sorted (by decide +kernel) (pa_cons (pv 3) pa_nil))))))), ?_⟩
    refine ⟨_, rfl, p, dx, _, rfl, Y.ob.at_, rfl, ρ, p, L, d, rfl, wf, X, hm, ok, fun q1 kvs H1 hq1 s1 eq1 sk1 => ?_⟩
    have wf1 : Wf ρ H1 := fun b e => wf b (s1.free e)
    refine ⟨Nat.zero_le _, fun q2 hq2 => ?_⟩
    have s2 : Same H1 (upd H1 q2 (.lst [])) := same_upd hq2
    obtain ⟨H2, e2⟩ : ∃ H2, H2 = upd H1 q2 (.lst []) := ⟨_, rfl⟩
    rw [← e2] at s2 ⊢
    have c2 : H2 q2 = some (.lst []) := by rw [e2, upd_same]
    have s02 := s1.trans s2
    have wf2 : Wf ρ H2 := fun b e => wf b (s02.free e)
    have X2 := X.same wf s02
    have Y2 := Y.same wf s02
    refine ⟨_, rfl, p, dx, _, rfl, Y2.ob.at_, rfl, ρ, p, L, d, rfl, wf2, X2, hm, ok, fun c H3 hc s3 ec => ?_⟩
    refine ⟨c, _, rfl, ec, trivial, fun oc => ⟨c, oc, _, rfl, upd_same, ?_⟩⟩
    have hc1 : H1 c = none := s2.free hc
    have sf : Same H2 (upd H3 c (.frz oc (.dT (usedKV (usedAll [] L.evss))))) := fun b o e => (upd_ne (ne_of_none e hc)).trans (s3 b o e)
    obtain ⟨H4, e4⟩ : ∃ H4, H4 = upd H3 c (.frz oc (.dT (usedKV (usedAll [] L.evss)))) := ⟨_, rfl⟩
    rw [← e4] at sf ⊢
    have c4 : H4 c = some (.frz oc (.dT (usedKV (usedAll [] L.evss)))) := by rw [e4, upd_same]
    have lU := used_len ht5 ok
    have lkv : (usedKV (usedAll [] L.evss)).length = (usedAll [] L.evss).length := by
      unfold usedKV
      rw [List.length_map]
    have hq20 : H q2 = none := s1.free hq2
    refine for_it (walk_itT (d := c) (o := oc) (kvs := usedKV (usedAll [] L.evss))) (fun j σ G => ∃ (xs : List V) (v4 v5 : Option V), σ = [some (.ref p), some (.ref ll), some (.ref q1), some (.ref q2), v4, v5] ∧ Same H1 G ∧ G c = some (.frz oc (.dT (usedKV (usedAll [] L.evss)))) ∧ G q2 = some (.lst xs) ∧
        Paired (NmAt G) xs ((((usedAll [] L.evss).take j).filter (brk L line)).map (·.1)))
      ⟨[], none, none, rfl, s2.trans sf, c4, sf _ _ c2, .nil⟩ (fun j σ G _ hw => ?_) (fun j x σ G G2 hj hw hy => ?_) (fun σ G hw => ?_)
    · obtain ⟨_, _, _, _, _, z, _⟩ := hw
      exact z
    · obtain ⟨xs, v4, v5, rfl, sG, cG, qG, pr⟩ := hw
      obtain ⟨T1, a, kk, v, hkv, rfl, ha, hT1, rfl⟩ := hy
      obtain ⟨⟨n, pl⟩, hn, hkv2⟩ : ∃ y, (usedAll [] L.evss)[j]? = some y ∧ (nmK y.1, V.int y.2) = (kk, v) := by
        unfold usedKV at hkv
        rw [List.getElem?_map] at hkv
        obtain ⟨y, h1, h2⟩ := Option.map_eq_some_iff.mp hkv
        exact ⟨y, h1, h2⟩
      cases hkv2
      obtain ⟨lt, hlk, ⟨i1, hi1, hi1'⟩, ⟨i2, hi2, hi2'⟩⟩ := uok n pl (List.mem_of_getElem? hn)
      have sT := same_upd (o := .tup [.ref a, .int pl]) hT1
      have sG1 := sG.trans sT
      have q1G := sG1 _ _ eq1
      have haG : upd G T1 (.tup [.ref a, .int pl]) a = some (.tup ((nmK n).map kV)) := sT _ _ ha
      obtain ⟨lv, lt', hv, hl', hla⟩ : ∃ v lt, valV kvs (nmK n) = some v ∧ lookS (sentAll 0 L.evss) n = some lt ∧ LtAt (upd G T1 (.tup [.ref a, .int pl])) v lt := by
        rcases (sk1.tk (tk_same sG1)).look (n := n) with z | ⟨_, z⟩
        · exact z
        · rw [hlk] at z
          cases z
      rw [hlk] at hl'
      cases hl'
      obtain ⟨la, rfl, hla⟩ := hla
      have g : DGet (upd G T1 (.tup [.ref a, .int pl])) q1 (.ref a) (some (.ref la)) := by
        rw [← hv]
        exact DGet.t q1G haG
      have hllG := sG1 _ _ (s1 _ _ hll)
      have ek : brk L line (n, pl) = (decide (pl ≤ lineAt line lt.1) && decide (n.2.1 > lineAt line n.1)) := by
        unfold brk
        rw [hlk]
      have bk : ((((usedAll [] L.evss).take (j + 1)).filter (brk L line)).map (·.1)) = (((usedAll [] L.evss).take j).filter (brk L line)).map (·.1) ++ (if brk L line (n, pl) = true then [n] else []) := by
        rw [filter_snoc hn, List.map_append]
        split <;> rfl
      have no : brk L line (n, pl) = false → (fun (j : Nat) (σ : L2.St) (G : Hp) => ∃ (xs : List V) (v4 v5 : Option V), σ = [some (.ref p), some (.ref ll), some (.ref q1), some (.ref q2), v4, v5] ∧ Same H1 G ∧ G c = some (.frz oc (.dT (usedKV (usedAll [] L.evss)))) ∧ G q2 = some (.lst xs) ∧
          Paired (NmAt G) xs ((((usedAll [] L.evss).take j).filter (brk L line)).map (·.1))) (j + 1) [some (.ref p), some (.ref ll), some (.ref q1), some (.ref q2), some (.ref a), some (.int pl)] (upd G T1 (.tup [.ref a, .int pl])) := fun z => by
        refine ⟨xs, _, _, rfl, sG1, sT _ _ cG, sT _ _ qG, ?_⟩
        rw [bk, z, if_neg (by simp), List.append_nil]
        exact Paired.tkN pr (tk_same sT)
      refine ⟨T1, _, rfl, SqT.of upd_same, rfl, _, _, rfl, _, _, rfl, rfl, ?_⟩
      refine ⟨_, rfl, _, rfl, _, rfl, _, rfl, q1, _, rfl, g, la, _, _, _, rfl, rfl, SqT.of hla, rfl, ll, _, _, _, rfl, rfl, SqL.of hllG, line_at hlen hi1 hi1', _, _, rfl, rfl, _, rfl, ?_⟩
      by_cases c1 : pl ≤ lineAt line lt.1
      · rw [decide_eq_true c1] at ek ⊢
        refine iteT ⟨_, rfl, a, _, _, _, rfl, rfl, SqT.of haG, rfl, _, rfl, _, rfl, a, _, _, _, rfl, rfl, SqT.of haG, (show atI (nmV n) 0 = some (.int n.1) from rfl), ll, _, _, _, rfl, rfl, SqL.of hllG, line_at hlen hi2 hi2', _, _, rfl, rfl, _, rfl, ?_⟩
        by_cases c2 : n.2.1 > lineAt line n.1
        · rw [decide_eq_true (show lineAt line n.1 < n.2.1 from c2)]
          rw [decide_eq_true c2] at ek
          have hxl : xs.length < sizeLine := small6 (by
            rw [paired_len pr, List.length_map]
            have h1 := List.length_filter_le (brk L line) ((usedAll [] L.evss).take j)
            have h2 := List.length_take_le' j (usedAll [] L.evss)
            omega)
          have qG1 : upd G T1 (.tup [.ref a, .int pl]) q2 = some (.lst xs) := sT _ _ qG
          refine iteT ⟨_, rfl, .inl ⟨rfl, _, SqL.of qG1⟩, _, rfl, q2, _, _, rfl, rfl, qG1, hxl, xs ++ [V.ref a], _, _, rfl, fun b o e => ?_, ?_, upd_same, ?_⟩
          · rw [upd_ne (ne_of_none e hq2)]
            exact sG1 b o e
          · rw [upd_ne (ne_of (sT _ _ cG) qG1 (by intro z; cases z))]
            exact sT _ _ cG
          · rw [bk, ek, if_pos (by rfl)]
            have tk : TupK (upd G T1 (.tup [.ref a, .int pl])) (upd (upd G T1 (.tup [.ref a, .int pl])) q2 (.lst (xs ++ [V.ref a]))) := fun b zs e => (upd_ne (ne_of e qG1 (by intro z; cases z))).trans e
            exact paired_snoc (R := NmAt _) ⟨a, rfl, tk _ _ haG⟩ (Paired.tkN (Paired.tkN pr (tk_same sT)) tk)
        · rw [decide_eq_false (show ¬ lineAt line n.1 < n.2.1 from c2)]
          rw [decide_eq_false c2] at ek
          exact iteF (no ek)
      · rw [decide_eq_false c1] at ek ⊢
        exact iteF (iteF (no ek))
    · obtain ⟨xs, v4, v5, rfl, sG, cG, qG, pr⟩ := hw
      rw [lkv, List.take_length] at pr
      have hz : (((usedAll [] L.evss).filter (brk L line)).map (·.1)).length ≤ sizeLine := by
        have h1 := List.length_filter_le (brk L line) (usedAll [] L.evss)
        have := sizeLine_eq
        rw [List.length_map]
        omega
      refine ⟨_, rfl, q2, xs, _, NmAt G, rfl, SqL.of qG, pr, fun x n h => nm_dp h, hz, fun ys r hr pr2 => ?_⟩
      have s5 : Same G (upd G r (.lst ys)) := same_upd hr
      exact k r ys _ (s1.free (sG.free hr)) ((s1.trans sG).trans s5) upd_same (Paired.tkN pr2 (tk_same s5))
end
end Bk
set_option Elab.async false
set_option linter.all false
set_option maxRecDepth 100000
set_option maxHeartbeats 4000000
namespace Bk
open PySem PySem.Spec PyProof.Rows L2
section
variable {P : Program} {w : World} {K : PySem.W.Frag} {mg : Str → Option Value} {base : Heap}
theorem scpointahead : FnScope ["points", "place", "point"] ["points", "place"] (defScope spointahead) := ⟨rfl, rfl, rfl, by decide +kernel, rfl, by decide +kernel, by decide +kernel⟩
theorem ok_pointahead (T : Txt K mg) : OK P w K mg base CX0 1 ("point_ahead", none) ["points", "place"] (sp_pointahead K) := by
  refine OK.mk0 T.f_pointahead scpointahead (fun _ _ _ _ _ _ us hl => match us, hl with | [_, _], _ => rfl) (fun vs H Q E h => ?_) (fun cdv A outer s H vs Q E hr h => ?_)
  · obtain ⟨a, ps, q, rfl, _⟩ := h
    rfl
  · obtain ⟨a, ps, q, rfl, ha, hl, ⟨x0, hx0, hx1⟩, k⟩ := h
    refine ⟨_, (pss_one (ps_ret (pe_callB (cr_max rfl) (by rfl) T.n_max (by decide +kernel) (pa_cons (pe_lc (own := [("point", 2)]) rfl scpointahead.nd (pi_list (pv 0)) (blkOk_by (N := ["points", "place", "point"]) (sc := defScope spointahead) (by decide +kernel)) (fun _ _ _ _ _ => (pg_name (i := 2) scpointahead.nd rfl (Or.inl rfl) (Or.inr rfl))) (fun _ _ _ _ _ => (pts_one (pt_cmpR op_lt (pv 2) (pv 1) (nomark _)))) (fun _ _ _ _ _ => (pv 2))) pa_nil)))), ?_⟩
    refine ⟨_, rfl, a, rfl, ⟨_, SqL.of ha⟩, fun D hD => ?_⟩
    have naD : a ≠ D := ne_of_none ha hD
    refine lc_list (K := K) (a := a) (xs := ps.map V.int) (fun j G => G = upd H D (.lst (((ps.take j).filter fun x => decide (x < q)).map V.int))) rfl (fun j G _ e => ?_) (fun j x G hx e => ?_) (fun G e => ?_)
    · rw [e]
      exact SqL.of ((upd_ne naD).trans ha)
    · subst e
      obtain ⟨y, hy, rfl⟩ := ints_at hx
      refine ⟨rfl, _, rfl, _, rfl, _, _, rfl, rfl, _, rfl, ?_⟩
      rw [filter_snoc hy]
      by_cases c2 : y < q
      · rw [decide_eq_true c2, if_pos rfl]
        refine iteT ⟨_, rfl, _, upd_same, small6 ?_, ?_⟩
        · rw [List.length_map]
          have h1 := filter_len (fun x => decide (x < q)) ps j
          omega
        · rw [upd_upd, List.map_append]
          rfl
      · rw [decide_eq_false c2, if_neg (by simp), List.append_nil]
        exact iteF rfl
    · subst e
      rw [List.length_map, List.take_length]
      refine ⟨D, _, rfl, SqL.of upd_same, List.length_pos_of_mem (List.mem_filter.mpr ⟨hx0, decide_eq_true hx1⟩), fun m hm _ => ?_⟩
      obtain ⟨h1, h2⟩ := List.mem_filter.mp hm
      exact k m _ h1 (of_decide_eq_true h2) (same_upd hD)
theorem scallowedpoints : FnScope ["loom", "fallen", "places", "found", "hand", "points"] ["loom", "fallen"] (defScope sallowedpoints) := ⟨rfl, rfl, rfl, by decide +kernel, rfl, by decide +kernel, by decide +kernel⟩
set_option maxHeartbeats 8000000 in
theorem ok_allowedpoints (T : Txt K mg) : OK P w K mg base CX0 4 ("allowed_points", none) ["loom", "fallen"] (sp_allowedpoints K) := by
  obtain ⟨fdLoomPlaces, GLoomPlaces, bLoomPlaces, kLoomPlaces⟩ := (ok_LoomPlaces (P := P) (w := w) (base := base) T).ex
  obtain ⟨fdLoomPoints, GLoomPoints, bLoomPoints, kLoomPoints⟩ := (ok_LoomPoints (P := P) (w := w) (base := base) T).ex
  refine OK.mk0 T.f_allowedpoints scallowedpoints (fun _ _ _ _ _ _ us hl => match us, hl with | [_, _], _ => rfl) (fun vs H Q E h => ?_) (fun cdv A outer s H vs Q E hr h => ?_)
  · obtain ⟨ρ, p, fl, L, d, fallen, rfl, _⟩ := h
    rfl
  · obtain ⟨ρ, p, fl, L, d, fallen, rfl, wf, X, hm, ok, hfl, k⟩ := h
    obtain ⟨dx, f, tl, dl, ol, tas, dvs, ovs, Y⟩ := id X
    refine ⟨_, (pss_cons (ps_set (i := 2) scallowedpoints.nd rfl (Or.inl rfl) (pe_meth0 (pv 0) T.c_Loom T.m_Loom_places GLoomPlaces (hr.mono (by decide)) bLoomPlaces .nil pass0))
      (pss_cons (ps_set (i := 3) scallowedpoints.nd rfl (Or.inl rfl) (pe_lst pa_nil))
      (pss_cons (ps_for PassesOwn.never rfl (pi_range1 rfl T.n_range (pa_cons (pe_fld (pv 0) rfl) pa_nil)) (pg_name (i := 4) scallowedpoints.nd rfl (Or.inl rfl)) (pss_cons (ps_set (i := 5) scallowedpoints.nd rfl (Or.inl rfl) (pe_meth (pv 0) T.c_Loom T.m_Loom_points GLoomPoints (hr.mono (by decide)) bLoomPoints .nil passN (pa_cons (pv 4) pa_nil)))
      (pss_cons (ps_if (PW.pt (pw_and (pt_cmpR op_notIn_seq (pv 4) (pv 1) (by with_unfolding_all rfl)) (pw_and1 (pt_cmpR op_notIn_seq (pe_ix ix_list (pv 2) (pv 4) (fun _ _ => rfl)) (pv 5) (by with_unfolding_all rfl))))) (pss_one (ps_set (i := 5) scallowedpoints.nd rfl (Or.inl rfl) (pe_op op_cat (pv 5) (pe_lst (pa_cons (pe_ix ix_list (pv 2) (pv 4) (fun _ _ => rfl)) pa_nil))))) pss_nil)
      (pss_one (ps_expr (pe_bm PySem.F.plainAttrs_list PySem.F.slot_list_append PySem.F.type_list_append mt_append (pv 3) (pa_cons (pv 5) pa_nil)))))))
      (pss_one (ps_ret (pv 3)))))), ?_⟩
    refine ⟨_, rfl, p, dx, _, rfl, Y.ob.at_, rfl, ρ, p, L, d, rfl, X, hm, fun q1 hq1 => ?_⟩
    have s1 := same_upd (o := .lst ((L.thr.map Thr.here).map V.int)) hq1
    obtain ⟨H1, e1⟩ : ∃ H1, H1 = upd H q1 (.lst ((L.thr.map Thr.here).map V.int)) := ⟨_, rfl⟩
    rw [← e1] at s1 ⊢
    have c1 : H1 q1 = some (.lst ((L.thr.map Thr.here).map V.int)) := by rw [e1, upd_same]
    refine ⟨Nat.zero_le _, fun q2 hq2 => ?_⟩
    have s2 := s1.trans (same_upd (o := .lst []) hq2)
    have Y2 := Y.same wf s2
    have hq20 : H q2 = none := s1.free hq2
    refine ⟨_, rfl, p, CLm K, dx, _, _, rfl, Y2.ob.at_, T.c_Loom, T.a_Loom_many, rfl, _, rfl, by omega, by omega, ?_⟩
    refine for_range (lo := 0) (n := ((L.many : Nat) : Int).toNat) (fun j σ G => ∃ (as : List Addr) (v4 v5 : Option V), σ = [some (.ref p), some (.ref fl), some (.ref q1), some (.ref q2), v4, v5] ∧ Same H1 G ∧ G q2 = some (.lst (as.map V.ref)) ∧ as.length = j ∧
        ∀ (i : Nat) (a : Addr) (t : Thr), as[i]? = some a → L.thr[i]? = some t → G a = some (.lst ((allowed fallen i t).map V.int)) ∧ a ≠ q2)
      ⟨[], none, none, rfl, same_upd hq2, upd_same, rfl, fun i a t h => by simp at h⟩ (fun j σ G hj hw => ?_) (fun σ G hw => ?_)
    · obtain ⟨as, v4, v5, rfl, sG, qG, la, ha⟩ := hw
      have hj' : j < L.many := by omega
      have XG := X.same wf (s1.trans sG)
      have YG := Y.same wf (s1.trans sG)
      obtain ⟨t, ht⟩ : ∃ t, L.thr[j]? = some t := ⟨L.thr[j]'(by rw [Y.tlen]; exact hj'), List.getElem?_eq_getElem _⟩
      have hth : atI ((L.thr.map Thr.here).map V.int) (0 + (j : Nat) : Int) = some (.int t.here) := by
        rw [Int.zero_add]
        refine atI_nat ?_
        rw [List.getElem?_map, List.getElem?_map, ht]
        rfl
      refine ⟨_, rfl, p, dx, _, rfl, YG.ob.at_, rfl, _, rfl, ρ, p, _, L, d, rfl, XG, ok, fun z => by rcases z with z | z <;> omega, fun i t' q hi ht' hq => ?_⟩
      have ei : i = j := by omega
      subst ei
      rw [ht] at ht'
      cases ht'
      have sq := same_upd (o := .lst (t.points.map V.int)) hq
      have hq1' : ∀ {o}, H1 q = some o → False := fun e => by
        have := sG q _ e
        rw [hq] at this
        cases this
      -- the end of the turn
      have fin : ∀ (G2 : Hp) (r : Addr) (v : Option V), Same G G2 → G2 r = some (.lst ((allowed fallen i t).map V.int)) → r ≠ q2 → ∃ (as' : List Addr) (v4 v5 : Option V), [some (.ref p), some (.ref fl), some (.ref q1), some (.ref q2), some (.int (0 + (i : Nat))), some (.ref r)] = [some (V.ref p), some (.ref fl), some (.ref q1), some (.ref q2), v4, v5] ∧
          Same H1 (upd G2 q2 (.lst (as.map V.ref ++ [.ref r]))) ∧ upd G2 q2 (.lst (as.map V.ref ++ [.ref r])) q2 = some (.lst (as'.map V.ref)) ∧ as'.length = i + 1 ∧
          ∀ (i' : Nat) (a : Addr) (t : Thr), as'[i']? = some a → L.thr[i']? = some t → upd G2 q2 (.lst (as.map V.ref ++ [.ref r])) a = some (.lst ((allowed fallen i' t).map V.int)) ∧ a ≠ q2 := fun G2 r v s3 er nr => by
        refine ⟨as ++ [r], _, _, rfl, fun b o e => ?_, ?_, ?_, fun i' a t' h1 h2 => ?_⟩
        · rw [upd_ne (ne_of_none e hq2)]
          exact s3 b o (sG b o e)
        · rw [upd_same, List.map_append]
          rfl
        · rw [List.length_append, la]
          rfl
        · by_cases hi' : i' < as.length
          · rw [List.getElem?_append_left hi'] at h1
            obtain ⟨z1, z2⟩ := ha i' a t' h1 h2
            exact ⟨(upd_ne z2).trans (s3 _ _ z1), z2⟩
          · have : i' = as.length := by
              have := (List.getElem?_eq_some_iff.mp h1).1
              rw [List.length_append] at this
              simp at this
              omega
            subst this
            rw [List.getElem?_concat_length] at h1
            cases h1
            rw [la] at h2 ⊢
            rw [ht] at h2
            cases h2
            exact ⟨(upd_ne nr).trans er, nr⟩
      have lsm : (as.map V.ref).length < sizeLine := small6 (by rw [List.length_map, la]; omega)
      have nq2 : q ≠ q2 := fun z => by
        rw [z, qG] at hq
        cases hq
      have qG1 : upd G q (.lst (t.points.map V.int)) q2 = some (.lst (as.map V.ref)) := (upd_ne nq2.symm).trans qG
      have tok := ok.thr t (List.mem_of_getElem? ht)
      have lp := points_len tok
      have hfG : upd G q (.lst (t.points.map V.int)) fl = some (.lst (fallen.map V.int)) := sq _ _ (sG _ _ (s1 _ _ hfl))
      have h1G : upd G q (.lst (t.points.map V.int)) q1 = some (.lst ((L.thr.map Thr.here).map V.int)) := sq _ _ (sG _ _ c1)
      refine ⟨_, rfl, _, rfl, fl, _, rfl, .inl (SqL.of hfG), rfl, flat_ints _, _, rfl, ?_⟩
      rw [inV_ints]
      have plain : allowed fallen i t = t.points → ∃ x, (some (V.ref q) : Option V) = some x → True := fun _ => ⟨.non, fun _ => trivial⟩
      by_cases b1 : (0 + (i : Nat) : Int) ∈ fallen
      · rw [decide_eq_true b1]
        have ea : allowed fallen i t = t.points := if_neg (fun z => z.1 (by rw [Int.zero_add] at b1; exact b1))
        refine iteF (iteF ⟨_, rfl, .inl ⟨rfl, _, SqL.of qG1⟩, _, rfl, q2, _, _, rfl, rfl, qG1, lsm, ?_⟩)
        exact fin _ q none sq (by rw [upd_same, ea]) nq2
      · rw [decide_eq_false b1]
        refine iteT ⟨_, rfl, _, rfl, q1, _, _, _, rfl, rfl, SqL.of h1G, hth, _, rfl, q, _, rfl, .inl (SqL.of upd_same), rfl, flat_ints _, _, rfl, ?_⟩
        rw [inV_ints]
        by_cases b2 : t.here ∈ t.points
        · rw [decide_eq_true b2]
          have ea : allowed fallen i t = t.points := if_neg (fun z => z.2 b2)
          refine iteF ⟨_, rfl, .inl ⟨rfl, _, SqL.of qG1⟩, _, rfl, q2, _, _, rfl, rfl, qG1, lsm, ?_⟩
          exact fin _ q none sq (by rw [upd_same, ea]) nq2
        · rw [decide_eq_false b2]
          have ea : allowed fallen i t = t.points ++ [t.here] := if_pos ⟨(by rw [Int.zero_add] at b1; exact b1), b2⟩
          refine iteT ⟨_, rfl, _, rfl, _, rfl, q1, _, _, _, rfl, rfl, SqL.of h1G, hth, (by show 1 ≤ sizeLine; decide), fun r1 hr1 => ?_⟩
          have sr1 := same_upd (o := .lst [.int t.here]) hr1
          refine ⟨q, r1, _, _, rfl, rfl, sr1 _ _ upd_same, upd_same, ?_, fun r2 hr2 => ?_⟩
          · rw [List.length_map]
            have := sizeLine_eq
            show t.points.length + 1 ≤ _
            omega
          · have sr2 := same_upd (o := .lst (t.points.map V.int ++ [.int t.here])) hr2
            have qG2 := sr2 _ _ (sr1 _ _ qG1)
            have nr2 : r2 ≠ q2 := fun z => by
              rw [z] at hr2
              have := sr1 _ _ qG1
              rw [hr2] at this
              cases this
            refine ⟨_, rfl, .inl ⟨rfl, _, SqL.of qG2⟩, _, rfl, q2, _, _, rfl, rfl, qG2, lsm, ?_⟩
            refine fin _ r2 none (sq.trans (sr1.trans sr2)) ?_ nr2
            rw [upd_same, ea, List.map_append]
            rfl
    · obtain ⟨as, v4, v5, rfl, sG, qG, la, ha⟩ := hw
      refine ⟨_, rfl, k q2 as G hq20 (s1.trans sG) qG (by omega) fun i a t h1 h2 => (ha i a t h1 h2).1⟩
end
end Bk
set_option Elab.async false
set_option linter.all false
set_option maxRecDepth 100000
set_option maxHeartbeats 4000000
/-! The greatest line, and going back to it. -/
namespace Bk
open PySem PySem.Spec PyProof.Rows L2
/-! ### each used name stands once -/
theorem putU_keys {l : List (Nm × Int)} {n : Nm} {p : Int} (h : (l.map (·.1)).Nodup) : ((putU l n p).map (·.1)).Nodup := by
  unfold putU
  split
  · have e : (l.map (fun x => if x.1 = n then (x.1, p) else x)).map (·.1) = l.map (·.1) := by
      rw [List.map_map]
      apply List.map_congr_left
      intro x _
      show (if x.1 = n then (x.1, p) else x).1 = x.1
      split <;> rfl
    rw [e]
    exact h
  · next c =>
    rw [List.map_append]
    refine List.nodup_append.mpr ⟨h, List.pairwise_singleton _ _, fun a ha b hb e => c ?_⟩
    obtain ⟨x, hx, rfl⟩ := List.mem_map.mp ha
    have hb := List.mem_singleton.mp hb
    rw [hb] at e
    exact List.any_eq_true.mpr ⟨x, hx, decide_eq_true e⟩
theorem usedEvs_keys : ∀ {acc : List (Nm × Int)} (p : Nat) (xs : List Ev), (acc.map (·.1)).Nodup → ((usedEvs acc p xs).map (·.1)).Nodup
  | _, _, [], h => h
  | acc, p, e :: r, h => by
    refine usedEvs_keys (acc := usedStep acc p e) (p + 1) r ?_
    unfold usedStep
    split
    · exact h
    · exact putU_keys h
theorem usedAll_keys : ∀ {acc : List (Nm × Int)} (E : List (List Ev)), (acc.map (·.1)).Nodup → ((usedAll acc E).map (·.1)).Nodup
  | _, [], h => h
  | acc, es :: r, h => usedAll_keys (acc := usedEvs acc 0 es) r (usedEvs_keys 0 es h)
theorem lookU_of {n : Nm} {q : Int} : ∀ {l : List (Nm × Int)}, (l.map (·.1)).Nodup → (n, q) ∈ l → lookU l n = some q
  | [], _, h => nomatch h
  | (m, p) :: r, nd, h => by
    rw [List.map_cons, List.nodup_cons] at nd
    unfold lookU
    rw [List.find?_cons]
    rcases List.mem_cons.mp h with e | h
    · cases e
      rw [decide_eq_true (rfl : n = n)]
      rfl
    · have hn : ¬ m = n := fun z => nd.1 (by
        show m ∈ r.map (·.1)
        rw [z]
        exact List.mem_map.mpr ⟨(n, q), h, rfl⟩)
      show Option.map _ (match decide (m = n) with | true => some (m, p) | false => _) = _
      rw [decide_eq_false hn]
      exact lookU_of nd.2 h
theorem zero_points {n : Nat} {t : Thr} (ok : t.Ok n) : 0 ∈ t.points := by
  obtain ⟨r, hw⟩ := ok.hd
  have := ok.pl
  unfold Thr.points
  rw [hw]
  split
  · exact upTo_mem.mpr ⟨Int.le_refl _, by omega⟩
  · exact List.mem_cons_self
theorem allowed_mem {fallen : List Int} {i : Nat} {t : Thr} {x : Int} : x ∈ allowed fallen i t ↔ x ∈ t.points ∨ (((i : Nat) : Int) ∉ fallen ∧ x = t.here) := by
  unfold allowed
  split
  · next c =>
    rw [List.mem_append, List.mem_singleton]
    exact ⟨fun z => z.imp id fun e => ⟨c.1, e⟩, fun z => z.imp id fun e => e.2⟩
  · next c =>
    refine ⟨.inl, fun z => z.elim id fun ⟨z1, z2⟩ => ?_⟩
    rw [z2]
    exact Classical.byContradiction fun z3 => c ⟨z1, z3⟩
theorem allowed_rg {n : Nat} {fallen : List Int} {i : Nat} {t : Thr} {x : Int} (ok : t.Ok n) (h : x ∈ allowed fallen i t) : 0 ≤ x ∧ x ≤ t.here := by
  rcases allowed_mem.mp h with h | ⟨_, rfl⟩
  · exact points_rg ok h
  · exact ⟨here_nn t, Int.le_refl _⟩
/-- a line of allowed places -/
def LineAl (L : Lm) (fallen line : List Int) : Prop := line.length = L.many ∧ ∀ (i : Nat) (t : Thr), L.thr[i]? = some t → line.getD i 0 ∈ allowed fallen i t
theorem LineAl.ok {L : Lm} {fallen line : List Int} (x : LineAl L fallen line) (rows : ∀ r ∈ L.done, ∃ i : Nat, r.1.hand = (i : Nat) ∧ i < L.many) (ord : ∀ n ∈ L.order, ∃ i : Nat, n.1 = (i : Nat) ∧ i < L.many) : L.LineOk line fallen := by
  refine ⟨x.1, fun i t h => ?_, rows, ord⟩
  rcases allowed_mem.mp (x.2 i t h) with z | ⟨z1, z2⟩
  · exact .inr z
  · exact .inl ⟨by rw [decide_eq_false z1]; rfl, z2⟩
def sumL (line : List Int) : Nat := (line.map Int.toNat).sum
theorem sumL_set {line : List Int} {i : Nat} {m : Int} (h : i < line.length) (h0 : 0 ≤ m) (hm : m < line.getD i 0) : sumL (line.set i m) < sumL line := by
  induction line generalizing i with
  | nil => simp at h
  | cons x r ih =>
    unfold sumL at ih ⊢
    cases i with
    | zero =>
      have hm : m < x := by simpa using hm
      rw [List.set_cons_zero, List.map_cons, List.map_cons, List.sum_cons, List.sum_cons]
      omega
    | succ i =>
      have := ih (i := i) (by simpa using h) (by simpa using hm)
      rw [List.set_cons_succ, List.map_cons, List.map_cons, List.sum_cons, List.sum_cons]
      omega
theorem eqv_nil (zs : List Nm) : PyData.eqv (.list (zs.map nmD)) (.list []) = zs.isEmpty := by
  cases zs with
  | nil => simp [PyData.eqv, PyData.eqvAll]
  | cons z r => simp [PyData.eqv, PyData.eqvAll]
theorem brokenL_mem {L : Lm} {line : List Int} {n : Nm} (h : n ∈ brokenL L line) : ∃ q lt, (n, q) ∈ usedAll [] L.evss ∧ lookS (sentAll 0 L.evss) n = some lt ∧ q ≤ lineAt line lt.1 ∧ lineAt line n.1 < n.2.1 := by
  obtain ⟨⟨m, q⟩, h1, h2⟩ := List.mem_map.mp (sortN_mem.mp h)
  have h2 : m = n := h2
  subst h2
  obtain ⟨h3, h4⟩ := List.mem_filter.mp h1
  unfold brk at h4
  dsimp only at h4
  split at h4
  · next lt e =>
    rw [Bool.and_eq_true] at h4
    exact ⟨q, lt, h3, e, of_decide_eq_true h4.1, of_decide_eq_true h4.2⟩
  · cases h4
theorem sound_of {L : Lm} {line : List Int} (h : brokenL L line = []) : SoundE L.evss line := by
  intro n q lt hq hl hp
  refine Int.not_lt.mp fun z => ?_
  have hm : n ∈ brokenL L line := by
    refine sortN_mem.mpr (List.mem_map.mpr ⟨(n, q), List.mem_filter.mpr ⟨hq, ?_⟩, rfl⟩)
    unfold brk
    dsimp only
    rw [lookS_all, hl]
    show (decide (q ≤ lineAt line lt.1) && decide (n.2.1 > lineAt line n.1)) = true
    rw [decide_eq_true hp, decide_eq_true (show n.2.1 > lineAt line n.1 from z)]
    rfl
  rw [h] at hm
  cases hm
def sp_greatestline (K : PySem.W.Frag) : Sp := fun vs H Q _ => ∃ (ρ : Rl) (p fl : Addr) (L : Lm) (d : DP) (fallen : List Int), vs = [.ref p, .ref fl] ∧ Wf ρ H ∧ LmIs K ρ H p L d ∧ L.many ≤ 5 ∧ L.Ok 100 ∧ UsedOk L ∧ H fl = some (.lst (fallen.map V.int)) ∧
  ∀ (q ll pp : Addr) (line : List Int) (H' : Hp), H q = none → H ll = none → Same H H' → H' q = some (.tup [.ref ll, .ref pp]) → H' ll = some (.lst (line.map V.int)) → LineAl L fallen line → SoundE L.evss line → Q (.ref q) H'
def sp_fall (K : PySem.W.Frag) : Sp := fun vs H Q _ => ∃ (ρ : Rl) (p fl : Addr) (L : Lm) (d : DP) (fallen : List Int), vs = [.ref p, .ref fl] ∧ Wf ρ H ∧ LmIs K ρ H p L d ∧ L.many ≤ 5 ∧ L.Ok 50 ∧ UsedOk L ∧ H fl = some (.lst (fallen.map V.int)) ∧ ¬ ML (ρ fl) ∧
  (∀ r ∈ L.done, ∃ i : Nat, r.1.hand = (i : Nat) ∧ i < L.many) ∧ (∀ n ∈ L.order, ∃ i : Nat, n.1 = (i : Nat) ∧ i < L.many) ∧
  ∀ (q ll pp : Addr) (line : List Int) (ρ' : Rl) (H' : Hp), Step ML ρ H ρ' H' → H' q = some (.tup [.ref ll, .ref pp]) → H' ll = some (.lst (line.map V.int)) → ρ' ll = .no → L.LineOk line fallen → SoundE L.evss line → LmIs K ρ' H' p (L.goTo line fallen) d → Q (.ref q) H'
section
variable {P : Program} {w : World} {K : PySem.W.Frag} {mg : Str → Option Value} {base : Heap}
theorem at_last {xs : List Int} {x : Int} (h : xs.getLast? = some x) : atI (xs.map V.int) (-1) = some (.int x) := by
  obtain ⟨ys, rfl⟩ := List.getLast?_eq_some_iff.mp h
  rw [List.map_append]
  exact atI_last _ _
theorem scgreatestline : FnScope ["loom", "fallen", "allowed", "line", "used", "sent", "paper", "names", "name", "user", "points"] ["loom", "fallen"] (defScope sgreatestline) := ⟨rfl, rfl, rfl, by decide +kernel, rfl, by decide +kernel, by decide +kernel⟩
set_option maxHeartbeats 8000000 in
theorem ok_greatestline (T : Txt K mg) : OK P w K mg base CX0 5 ("greatest_line", none) ["loom", "fallen"] (sp_greatestline K) := by
  obtain ⟨fdallowedpoints, Gallowedpoints, ballowedpoints, kallowedpoints⟩ := (ok_allowedpoints (P := P) (w := w) (base := base) T).ex
  obtain ⟨fdLoomLettersused, GLoomLettersused, bLoomLettersused, kLoomLettersused⟩ := (ok_LoomLettersused (P := P) (w := w) (base := base) T).ex
  obtain ⟨fdLoomLetterssent, GLoomLetterssent, bLoomLetterssent, kLoomLetterssent⟩ := (ok_LoomLetterssent (P := P) (w := w) (base := base) T).ex
  obtain ⟨fdbrokenby, Gbrokenby, bbrokenby, kbrokenby⟩ := (ok_brokenby (P := P) (w := w) (base := base) T).ex
  obtain ⟨fdpointahead, Gpointahead, bpointahead, kpointahead⟩ := (ok_pointahead (P := P) (w := w) (base := base) T).ex
  refine OK.mk0 T.f_greatestline scgreatestline (fun _ _ _ _ _ _ us hl => match us, hl with | [_, _], _ => rfl) (fun vs H Q E h => ?_) (fun cdv A outer s H vs Q E hr h => ?_)
  · obtain ⟨ρ, p, fl, L, d, fallen, rfl, _⟩ := h
    rfl
  · obtain ⟨ρ, p, fl, L, d, fallen, rfl, wf, X, hm, ok, uok, hfl, k⟩ := h
    obtain ⟨dx, f, tl, dl, ol, tas, dvs, ovs, Y⟩ := id X
    have ht5 : L.thr.length ≤ 5 := by rw [Y.tlen]; exact hm
    have nd := usedAll_keys L.evss (acc := []) List.nodup_nil
    refine ⟨_, (pss_cons (ps_set (i := 2) scgreatestline.nd rfl (Or.inl rfl) (pe_call Gallowedpoints (hr.mono (by decide)) rfl T.g_allowedpoints kallowedpoints ballowedpoints .nil pass0 (pa_cons (pv 0) (pa_cons (pv 1) pa_nil))))
      (pss_cons (ps_setLc (own := [("points", 10)]) (i := 3) rfl scgreatestline.nd rfl rfl (sw_true rfl rfl rfl (by decide +kernel)) (pi_list (pv 2)) (blkOk_by (N := ["loom", "fallen", "allowed", "line", "used", "sent", "paper", "names", "name", "user", "points"]) (sc := defScope sgreatestline) (by decide +kernel)) (fun _ _ _ _ _ => (pg_name (i := 10) scgreatestline.nd rfl (Or.inl rfl) (Or.inr rfl))) (fun _ _ _ _ _ => pts_nil) (fun _ _ _ _ _ => (pe_ix (ix_listK (K := K) rfl) (pv 10) (pe_un un_neg pe_int) (fun _ _ => rfl))))
      (pss_cons (ps_set (i := 4) scgreatestline.nd rfl (Or.inl rfl) (pe_meth0 (pv 0) T.c_Loom T.m_Loom_letters_used GLoomLettersused (hr.mono (by decide)) bLoomLettersused .nil pass0))
      (pss_cons (ps_set (i := 5) scgreatestline.nd rfl (Or.inl rfl) (pe_meth0 (pv 0) T.c_Loom T.m_Loom_letters_sent GLoomLetterssent (hr.mono (by decide)) bLoomLetterssent .nil pass0))
      (pss_cons (ps_set (i := 6) scgreatestline.nd rfl (Or.inl rfl) (pe_lst pa_nil))
      (pss_cons (ps_set (i := 7) scgreatestline.nd rfl (Or.inl rfl) (pe_call Gbrokenby (hr.mono (by decide)) rfl T.g_brokenby kbrokenby bbrokenby .nil pass0 (pa_cons (pv 0) (pa_cons (pv 3) pa_nil))))
      (pss_cons (ps_while PassesOwn.never (pt_cmpR (op_neD hr.units) (pv 7) (pe_lst pa_nil) (nomark _)) (pss_cons (ps_set (i := 8) scgreatestline.nd rfl (Or.inl rfl) (pe_ix ix_list (pv 7) pe_int (fun _ _ => rfl)))
      (pss_cons (ps_expr (pe_bm PySem.F.plainAttrs_list PySem.F.slot_list_append PySem.F.type_list_append mt_append (pv 6) (pa_cons (pv 8) pa_nil)))
      (pss_cons (ps_set (i := 9) scgreatestline.nd rfl (Or.inl rfl) (pe_ix ix_tup (pe_dget (hu_of hr) (pv 5) (pv 8) (fun _ _ => rfl)) pe_int (fun _ _ => rfl)))
      (pss_cons (ps_asg (pe_call Gpointahead (hr.mono (by decide)) rfl T.g_pointahead kpointahead bpointahead .nil pass0 (pa_cons (pe_ix ix_list (pv 2) (pv 9) (fun _ _ => rfl)) (pa_cons (pe_dget (hu_of hr) (pv 4) (pv 8) (fun _ _ => rfl)) pa_nil))) (pg_sub (pv 3) (pv 9) set_list))
      (pss_one (ps_set (i := 7) scgreatestline.nd rfl (Or.inl rfl) (pe_call Gbrokenby (hr.mono (by decide)) rfl T.g_brokenby kbrokenby bbrokenby .nil pass0 (pa_cons (pv 0) (pa_cons (pv 3) pa_nil))))))))))
      (pss_one (ps_ret (pe_tup (pa_cons (pv 3) (pa_cons (pv 6) pa_nil)))))))))))), ?_⟩
    refine ⟨_, rfl, _, rfl, ρ, p, fl, L, d, fallen, rfl, wf, X, hm, ok, hfl, fun qA as H1 hqA s1 eA la hA => ?_⟩
    have thr_ : ∀ {i : Nat}, i < L.many → ∃ t, L.thr[i]? = some t := fun {i} hi => ⟨L.thr[i]'(by rw [Y.tlen]; exact hi), List.getElem?_eq_getElem _⟩
    have lastOf : ∀ (i : Nat) (t : Thr), L.thr[i]? = some t → ∃ x, (allowed fallen i t).getLast? = some x ∧ x ∈ allowed fallen i t := fun i t ht => by
      have z : 0 ∈ allowed fallen i t := allowed_mem.mpr (.inl (zero_points (ok.thr t (List.mem_of_getElem? ht))))
      cases e : (allowed fallen i t).getLast? with
      | none =>
        rw [List.getLast?_eq_none_iff] at e
        rw [e] at z
        cases z
      | some x => exact ⟨x, rfl, List.mem_of_getLast? e⟩
    refine ⟨_, rfl, qA, rfl, ⟨_, SqL.of eA⟩, fun qL hqL => ?_⟩
    have nAL : qA ≠ qL := ne_of_none eA hqL
    refine lc_list (K := K) (a := qA) (xs := as.map V.ref) (fun j G => ∃ xs : List Int, G = upd H1 qL (.lst (xs.map V.int)) ∧ xs.length = j ∧ ∀ (i : Nat) (t : Thr), i < j → L.thr[i]? = some t → xs.getD i 0 ∈ allowed fallen i t) ⟨[], rfl, rfl, fun i t h => by omega⟩ (fun j G _ e => ?_) (fun j x G hx e => ?_) (fun G e => ?_)
    · obtain ⟨xs, rfl, _⟩ := e
      exact SqL.of ((upd_ne nAL).trans eA)
    · obtain ⟨xs, rfl, lx, hxs⟩ := e
      obtain ⟨a, ha, rfl⟩ : ∃ a, as[j]? = some a ∧ x = .ref a := by
        rw [List.getElem?_map] at hx
        obtain ⟨a, h1, h2⟩ := Option.map_eq_some_iff.mp hx
        exact ⟨a, h1, h2.symm⟩
      have hj : j < L.many := by rw [← la]; exact (List.getElem?_eq_some_iff.mp ha).1
      obtain ⟨t, ht⟩ := thr_ hj
      have eAa := hA j a t ha ht
      obtain ⟨x, hx1, hx2⟩ := lastOf j t ht
      refine ⟨rfl, _, rfl, _, rfl, a, _, _, _, rfl, rfl, SqL.of ((upd_ne (ne_of_none eAa hqL)).trans eAa), at_last hx1, _, upd_same, small6 (by rw [List.length_map, lx]; omega), xs ++ [x], ?_, by rw [List.length_append, lx]; rfl, fun i t' hi ht' => ?_⟩
      · rw [upd_upd, List.map_append]
        rfl
      · rw [List.getD_eq_getElem?_getD]
        by_cases hi2 : i < xs.length
        · rw [List.getElem?_append_left hi2, ← List.getD_eq_getElem?_getD]
          exact hxs i t' (by omega) ht'
        · have : i = xs.length := by omega
          subst this
          rw [List.getElem?_concat_length]
          rw [lx] at ht'
          rw [ht] at ht'
          cases ht'
          rw [lx]
          exact hx2
    · obtain ⟨line0, rfl, ll0, hl0⟩ := e
      rw [List.length_map, la] at ll0 hl0
      have s2 := same_upd (o := .lst (line0.map V.int)) hqL
      obtain ⟨H2, e2⟩ : ∃ H2, H2 = upd H1 qL (.lst (line0.map V.int)) := ⟨_, rfl⟩
      rw [← e2] at s2 ⊢
      have c2 : H2 qL = some (.lst (line0.map V.int)) := by rw [e2, upd_same]
      have s02 := s1.trans s2
      have wf2 : Wf ρ H2 := fun b e => wf b (s02.free e)
      have X2 := X.same wf s02
      have Y2 := Y.same wf s02
      refine ⟨_, rfl, p, dx, _, rfl, Y2.ob.at_, rfl, ρ, p, L, d, rfl, wf2, X2, hm, ok, fun qU H3 hqU s3 eU => ?_⟩
      have s03 := s02.trans s3
      have wf3 : Wf ρ H3 := fun b e => wf b (s03.free e)
      refine ⟨_, rfl, p, dx, _, rfl, (Y.same wf s03).ob.at_, rfl, ρ, p, L, d, rfl, wf3, X.same wf s03, hm, ok, fun qS kvs H4 hqS s4 eS sk => ?_⟩
      have s04 := s03.trans s4
      refine ⟨Nat.zero_le _, fun qP hqP => ?_⟩
      have s5 := same_upd (o := .lst []) hqP
      have s05 := s04.trans s5
      have wf5 : Wf ρ (upd H4 qP (.lst [])) := fun b e => wf b (s05.free e)
      have c5 := s5 _ _ (s4 _ _ (s3 _ _ c2))
      refine ⟨_, rfl, _, rfl, ρ, p, qL, L, d, line0, rfl, wf5, X.same wf s05, hm, ok, uok, c5, ll0, fun r0 rv0 H6 hr0 s6 er0 pr0 => ?_⟩
      have hqL0 : H qL = none := s1.free hqL
      have hqP0 : H1 qP = none := s2.free (s3.free (s4.free hqP))
      have nLP : qL ≠ qP := fun z => by
        rw [← z, s4 _ _ (s3 _ _ c2)] at hqP
        cases hqP
      have s16 : Same H1 H6 := s2.trans (s3.trans (s4.trans (s5.trans s6)))
      have hsum0 : sumL line0 ≤ 500 := by
        have h1 : ∀ (m : Nat) (l : List Int), l.length ≤ m → (∀ x ∈ l, x ≤ 100) → sumL l ≤ 100 * m := by
          intro m
          induction m with
          | zero =>
            intro l hl _
            have : l = [] := List.length_eq_zero_iff.mp (Nat.le_zero.mp hl)
            subst this
            exact Nat.le_refl _
          | succ m ih =>
            intro l hl hx
            cases l with
            | nil => exact Nat.zero_le _
            | cons x r =>
              have := ih r (by simpa using hl) fun y hy => hx y (List.mem_cons_of_mem _ hy)
              have h2 := hx x List.mem_cons_self
              unfold sumL at this ⊢
              rw [List.map_cons, List.sum_cons]
              omega
        refine h1 5 line0 (by omega) fun x hx => ?_
        obtain ⟨i, hi⟩ := List.mem_iff_getElem?.mp hx
        have hi' := (List.getElem?_eq_some_iff.mp hi).1
        obtain ⟨t, ht⟩ := thr_ (show i < L.many by omega)
        have z := hl0 i t (by omega) ht
        rw [List.getD_eq_getElem?_getD, hi] at z
        have tok := ok.thr t (List.mem_of_getElem? ht)
        have := (allowed_rg tok z).2
        have := tok.ln
        unfold Thr.here at *
        simp only [Option.getD_some] at *
        omega
      -- the loop
      refine ⟨fun m σ G => ∃ (line : List Int) (pv : List V) (r : Addr) (rv : List V) (v8 v9 : Option V), σ = [some (.ref p), some (.ref fl), some (.ref qA), some (.ref qL), some (.ref qU), some (.ref qS), some (.ref qP), some (.ref r), v8, v9, none] ∧ m = sumL line ∧
          (∀ b o, H1 b = some o → G b = some o) ∧ LineAl L fallen line ∧ G qL = some (.lst (line.map V.int)) ∧ G qU = some (.dT (usedKV (usedAll [] L.evss))) ∧ G qS = some (.dT kvs) ∧ SentKV G kvs (sentAll 0 L.evss) ∧ G qP = some (.lst pv) ∧ pv.length + sumL line ≤ 500 ∧
          G r = some (.lst rv) ∧ Paired (NmAt G) rv (brokenL L line) ∧ r ≠ qL ∧ r ≠ qP,
        ⟨_, line0, [], r0, rv0, none, none, rfl, rfl, fun b o e => s16 b o e, ⟨ll0, fun i t ht => hl0 i t (by rw [← Y.tlen]; exact (List.getElem?_eq_some_iff.mp ht).1) ht⟩, s6 _ _ c5, s6 _ _ (s5 _ _ (s4 _ _ eU)), s6 _ _ (s5 _ _ eS), (sk.tk (tk_same s5)).tk (tk_same s6), s6 _ _ upd_same, by simp only [List.length_nil]; omega, er0, pr0,
          (fun z => by rw [z, c5] at hr0; cases hr0), (fun z => by rw [z, upd_same] at hr0; cases hr0)⟩, ?_⟩
      rintro m σ G ⟨line, pv, r, rv, v8, v9, rfl, rfl, sG, al, gL, gU, gS, skG, gP, lp, gr, pr, nrL, nrP⟩
      refine ⟨_, rfl, Nat.zero_le _, fun q0 hq0 => ⟨_, _, .lst (SqL.of ((upd_ne (ne_of_none gr hq0)).trans gr)) (nms_dp (Paired.tkN pr (tk_same (same_upd hq0)))), .lst (SqL.of upd_same) .nil, nmDs_shaped _, nmDs_shaped [], ?_⟩⟩
      have sQ := same_upd (o := .lst []) hq0
      rw [eqv_nil]
      obtain ⟨G1, eG1⟩ : ∃ G1, G1 = upd G q0 (.lst []) := ⟨_, rfl⟩
      rw [← eG1] at sQ ⊢
      have gL := sQ _ _ gL
      have gU := sQ _ _ gU
      have gS := sQ _ _ gS
      have gP := sQ _ _ gP
      have gr := sQ _ _ gr
      have pr := Paired.tkN pr (tk_same sQ)
      have skG := skG.tk (tk_same sQ)
      have sG : ∀ b o, H1 b = some o → G1 b = some o := fun b o e => sQ _ _ (sG b o e)
      clear eG1 sQ
      have sH : Same H G1 := fun b o e => sG b o (s1 b o e)
      cases hb : brokenL L line with
      | nil =>
        refine ⟨_, rfl, _, rfl, _, rfl, (by show 2 ≤ sizeLine; decide), fun t ht => ?_⟩
        refine k t qL qP line _ (sH.free ht) hqL0 (fun b o e => (same_upd ht) _ _ (sH b o e)) upd_same ((same_upd ht) _ _ gL) al (sound_of hb)
      | cons n rest =>
        have hbm : n ∈ brokenL L line := by rw [hb]; exact List.mem_cons_self
        obtain ⟨q, lt, hq, hlk, hle, hgt⟩ := brokenL_mem hbm
        obtain ⟨lt', hlk', ⟨i, hi, hi'⟩, _⟩ := uok n q hq
        rw [hlk] at hlk'
        cases hlk'
        obtain ⟨p0, hp0⟩ : ∃ p0 : Nat, q = (p0 : Int) + 1 := by
          obtain ⟨_, p0, _, e⟩ := usedAll_mem hq
          exact ⟨p0, e⟩
        obtain ⟨x0, hx0, a0, rfl, hna⟩ := paired_at (i := 0) pr (by rw [hb]; rfl)
        obtain ⟨t, ht⟩ := thr_ hi'
        have tok := ok.thr t (List.mem_of_getElem? ht)
        refine ⟨true, rfl, ⟨fun σ' G' => ∃ (line' : List Int) (pv : List V) (r : Addr) (rv : List V) (v8 v9 : Option V), sumL line' < sumL line ∧ σ' = [some (.ref p), some (.ref fl), some (.ref qA), some (.ref qL), some (.ref qU), some (.ref qS), some (.ref qP), some (.ref r), v8, v9, none] ∧
          (∀ b o, H1 b = some o → G' b = some o) ∧ LineAl L fallen line' ∧ G' qL = some (.lst (line'.map V.int)) ∧ G' qU = some (.dT (usedKV (usedAll [] L.evss))) ∧ G' qS = some (.dT kvs) ∧ SentKV G' kvs (sentAll 0 L.evss) ∧ G' qP = some (.lst pv) ∧ pv.length + sumL line' ≤ 500 ∧
          G' r = some (.lst rv) ∧ Paired (NmAt G') rv (brokenL L line') ∧ r ≠ qL ∧ r ≠ qP, ?_, ?_⟩⟩
        · rintro σ' G' ⟨line', pv, r, rv, v8, v9, hlt, z⟩
          obtain ⟨z1, z2⟩ := z
          exact ⟨sumL line', hlt, line', pv, r, rv, v8, v9, z1, rfl, z2⟩
        · refine ⟨_, rfl, r, _, 0, .ref a0, rfl, rfl, SqL.of gr, atI_nat (j := 0) hx0, ?_⟩
          -- paper.append(name)
          have hsz : pv.length < sizeLine := small6 (by omega)
          refine ⟨_, rfl, .inl ⟨rfl, _, SqL.of gP⟩, _, rfl, qP, _, _, rfl, rfl, gP, hsz, ?_⟩
          have othP : ∀ {b : Addr} {o : HO}, b ≠ qP → G1 b = some o → upd G1 qP (.lst (pv ++ [V.ref a0])) b = some o := fun h e => (upd_ne h).trans e
          have tkP : TupK G1 (upd G1 qP (.lst (pv ++ [V.ref a0]))) := fun b zs e => (upd_ne (ne_of e gP (by intro z; cases z))).trans e
          obtain ⟨G2, eG2⟩ : ∃ G2, G2 = upd G1 qP (.lst (pv ++ [V.ref a0])) := ⟨_, rfl⟩
          have nqUP : qU ≠ qP := ne_of gU gP (by intro z; cases z)
          have nqSP : qS ≠ qP := ne_of gS gP (by intro z; cases z)
          have gL2 : G2 qL = some (.lst (line.map V.int)) := by rw [eG2]; exact othP nLP gL
          have gU2 : G2 qU = some (.dT (usedKV (usedAll [] L.evss))) := by rw [eG2]; exact othP nqUP gU
          have gS2 : G2 qS = some (.dT kvs) := by rw [eG2]; exact othP nqSP gS
          have gP2 : G2 qP = some (.lst (pv ++ [V.ref a0])) := by rw [eG2, upd_same]
          have tkP : TupK G1 G2 := by rw [eG2]; exact tkP
          have s12 : ∀ b o, H1 b = some o → G2 b = some o := fun b o e => by
            rw [eG2]
            exact othP (ne_of_none e hqP0) (sG b o e)
          rw [← eG2]
          have sk2 := skG.tk tkP
          have hna2 : G2 a0 = some (.tup ((nmK n).map kV)) := tkP _ _ hna
          obtain ⟨lv, lt', hv, hl', hla⟩ : ∃ v lt, valV kvs (nmK n) = some v ∧ lookS (sentAll 0 L.evss) n = some lt ∧ LtAt G2 v lt := by
            rcases sk2.look (n := n) with z | ⟨_, z⟩
            · exact z
            · rw [hlk] at z
              cases z
          rw [hlk] at hl'
          cases hl'
          obtain ⟨la2, rfl, hla⟩ := hla
          have g : DGet G2 qS (.ref a0) (some (.ref la2)) := by
            rw [← hv]
            exact DGet.t gS2 hna2
          refine ⟨_, rfl, _, rfl, qS, _, rfl, g, la2, _, _, _, rfl, rfl, SqT.of hla, rfl, ?_⟩
          have gu : DGet G2 qU (.ref a0) (some (.int q)) := by
            have z := DGet.t (k := nmK n) gU2 hna2
            rw [usedKV_look, lookU_of nd hq] at z
            exact z
          obtain ⟨ai, hai⟩ : ∃ ai, as[i]? = some ai := ⟨as[i]'(by omega), List.getElem?_eq_getElem (by omega)⟩
          have eai := s12 _ _ (hA i ai t hai ht)
          have hil : lt.1 = (i : Int) := hi
          have hati : atI (as.map V.ref) lt.1 = some (.ref ai) := by
            rw [hil]
            exact atI_nat (by rw [List.getElem?_map, hai]; rfl)
          have hz0 : 0 ∈ allowed fallen i t := allowed_mem.mpr (.inl (zero_points tok))
          refine ⟨_, rfl, _, rfl, qA, _, _, _, rfl, rfl, SqL.of (s12 _ _ eA), hati, _, rfl, _, rfl, qU, _, rfl, gu, ai, _, q, rfl, eai, by have := allowed_len tok fallen i; omega, ⟨0, hz0, by omega⟩, fun mm G3 hmm hmq s23 => ?_⟩
          have hlen : line.length = L.many := al.1
          have gL3 := s23 _ _ gL2
          have hix : ixN (line.map V.int).length lt.1 = some i := by
            rw [hil]
            unfold ixN
            rw [if_pos (Int.natCast_nonneg i), if_pos (by rw [List.length_map]; omega), Int.toNat_natCast]
          refine ⟨_, rfl, _, rfl, qL, _, lt.1, i, rfl, rfl, gL3, hix, ?_⟩
          have eset : (line.map V.int).set i (.int mm) = (line.set i mm).map V.int := by rw [List.map_set]
          rw [eset]
          obtain ⟨G4, eG4⟩ : ∃ G4, G4 = upd G3 qL (.lst ((line.set i mm).map V.int)) := ⟨_, rfl⟩
          rw [← eG4]
          have gP3 := s23 _ _ gP2
          have gU3 := s23 _ _ gU2
          have gS3 := s23 _ _ gS2
          have oth4 : ∀ {b : Addr} {o : HO}, b ≠ qL → G3 b = some o → G4 b = some o := fun h e => by rw [eG4]; exact (upd_ne h).trans e
          have tk4 : TupK G3 G4 := fun b zs e => oth4 (ne_of e gL3 (by intro z; cases z)) e
          have s14 : ∀ b o, H1 b = some o → G4 b = some o := fun b o e => oth4 (ne_of_none e hqL) (s23 _ _ (s12 b o e))
          have sH4 : Same H G4 := fun b o e => s14 b o (s1 b o e)
          have wf4 : Wf ρ G4 := fun b e => wf b (sH4.free e)
          have hla0 : lineAt line lt.1 = line.getD i 0 := by
            unfold lineAt
            rw [hil, Int.toNat_natCast]
          have mm0 := (allowed_rg tok hmm).1
          have hdec : sumL (line.set i mm) < sumL line := sumL_set (by omega) mm0 (by rw [← hla0]; omega)
          have al4 : LineAl L fallen (line.set i mm) := by
            refine ⟨by rw [List.length_set]; exact hlen, fun i' t' ht' => ?_⟩
            rw [List.getD_eq_getElem?_getD]
            by_cases hii : i' = i
            · subst hii
              rw [ht] at ht'
              cases ht'
              rw [List.getElem?_set_self (by omega)]
              exact hmm
            · rw [List.getElem?_set_ne (fun z => hii z.symm), ← List.getD_eq_getElem?_getD]
              exact al.2 i' t' ht'
          have gL4 : G4 qL = some (.lst ((line.set i mm).map V.int)) := by rw [eG4, upd_same]
          refine ⟨_, rfl, _, rfl, ρ, p, qL, L, d, line.set i mm, rfl, wf4, X.same wf sH4, hm, ok, uok, gL4, al4.1, fun r' rv' G5 hr' s45 er' pr' => ?_⟩
          have gP4 := oth4 nLP.symm gP3
          refine ⟨line.set i mm, pv ++ [V.ref a0], r', rv', _, _, hdec, rfl, fun b o e => s45 _ _ (s14 b o e), al4, s45 _ _ gL4, s45 _ _ (oth4 (ne_of gU3 gL3 (by intro z; cases z)) gU3), s45 _ _ (oth4 (ne_of gS3 gL3 (by intro z; cases z)) gS3),
            ((sk2.tk (tk_same s23)).tk tk4).tk (tk_same s45), s45 _ _ gP4, ?_, er', pr', fun z => ?_, fun z => ?_⟩
          · rw [List.length_append]
            simp only [List.length_cons, List.length_nil]
            omega
          · rw [z, gL4] at hr'
            cases hr'
          · rw [z, gP4] at hr'
            cases hr'
theorem scfall : FnScope ["loom", "fallen", "line", "paper"] ["loom", "fallen"] (defScope sfall) := ⟨rfl, rfl, rfl, by decide +kernel, rfl, by decide +kernel, by decide +kernel⟩
theorem ok_fall (T : Txt K mg) : OK P w K mg base CX0 6 ("fall", none) ["loom", "fallen"] (sp_fall K) := by
  obtain ⟨fdgreatestline, Ggreatestline, bgreatestline, kgreatestline⟩ := (ok_greatestline (P := P) (w := w) (base := base) T).ex
  obtain ⟨fdLoomGoto, GLoomGoto, bLoomGoto, kLoomGoto⟩ := (ok_LoomGoto (P := P) (w := w) (base := base) T).ex
  refine OK.mk0 T.f_fall scfall (fun _ _ _ _ _ _ us hl => match us, hl with | [_, _], _ => rfl) (fun vs H Q E h => ?_) (fun cdv A outer s H vs Q E hr h => ?_)
  · obtain ⟨ρ, p, fl, L, d, fallen, rfl, _⟩ := h
    rfl
  · obtain ⟨ρ, p, fl, L, d, fallen, rfl, wf, X, hm, ok, uok, hfl, rfl_, rows, ord, k⟩ := h
    obtain ⟨dx, f, tl, dl, ol, tas, dvs, ovs, Y⟩ := id X
    refine ⟨_, (pss_cons (ps_asg (pe_call Ggreatestline (hr.mono (by decide)) rfl T.g_greatestline kgreatestline bgreatestline .nil pass0 (pa_cons (pv 0) (pa_cons (pv 1) pa_nil))) (pg_tup rfl (pgs_cons (pg_name (i := 2) scfall.nd rfl (Or.inl rfl)) (pgs_cons (pg_name (i := 3) scfall.nd rfl (Or.inl rfl)) pgs_nil))))
      (pss_cons (ps_expr (pe_meth (pv 0) T.c_Loom T.m_Loom_go_to GLoomGoto (hr.mono (by decide)) bLoomGoto .nil pass0 (pa_cons (pv 2) (pa_cons (pv 1) pa_nil))))
      (pss_one (ps_ret (pe_tup (pa_cons (pv 2) (pa_cons (pv 3) pa_nil))))))), ?_⟩
    refine ⟨_, rfl, _, rfl, ρ, p, fl, L, d, fallen, rfl, wf, X, hm, ok.mono (by omega), uok, hfl, fun q ll pp line H1 hq hll s1 eq ell al snd => ?_⟩
    have lok := al.ok rows ord
    have st1 : Step No ρ H ρ H1 := Step.same wf s1
    have rl : ρ ll = .no := wf ll hll
    refine ⟨q, _, rfl, SqT.of eq, rfl, _, _, rfl, _, _, rfl, rfl, ?_⟩
    have nlo : ¬ ML (ρ ll) := by
      rw [rl]
      rintro (z | z | z | ⟨i, z | z | z⟩) <;> cases z
    refine ⟨_, rfl, p, dx, _, rfl, (Y.same wf s1).ob.at_, rfl, _, rfl, _, rfl, ρ, p, ll, fl, L, d, line, fallen, rfl, st1.wf, X.same wf s1, hm, ok, lok, ell, nlo, s1 _ _ hfl, rfl_, fun ρ' H2 s2 X2 => ?_⟩
    have ell2 := s2.keep _ _ ell nlo
    refine ⟨_, rfl, _, rfl, (by show 2 ≤ sizeLine; decide), fun t ht => ?_⟩
    have s3 := s2.trans (Step.new0 (M := ML) (o := .tup [.ref ll, .ref pp]) s2.wf ht)
    refine k t ll pp line ρ' _ ((st1.mono fun _ z => z.elim).trans s3) upd_same ((upd_ne (ne_of_none ell2 ht)).trans ell2) ?_ lok snd (X2.step (Step.new0 (M := No) s2.wf ht) noNo)
    rw [s2.ext ll (by rw [ell]; simp)]
    exact rl
end
end Bk
set_option Elab.async false
set_option linter.all false
set_option maxRecDepth 100000
set_option maxHeartbeats 4000000
/-! Own rules: an object of a class without own __init__; a list against the empty one. -/
namespace Bk
open PySem PySem.Spec PyProof.Rows L2
def tMakeO (C : Addr) : TE := fun σ H Q => ∀ x dx, H x = none → H dx = none → dx ≠ x → Q (.ref x) (upd (upd H dx (.own x)) x (.ins C dx []))
section
variable {X : Cx} {pins : List (Addr × Obj)} {σ : L2.St} {H : Hp} {s : Shared} {C : Addr} {x : Str} {p pos : Pos}
theorem run_makeO {Q : VK} (M : MkN X.K C) (hr : Room 1 X.A) (I : Inv X pins σ H s) (h : ∀ x dx, H x = none → H dx = none → dx ≠ x → Q (.ref x) (upd (upd H dx (.own x)) x (.ins C dx []))) :
    wpAny (model X.prog X.w) X.A (call (.ref C) []) (EP X pins σ Q) X.xe s := by
  have q := h (s.heap.objs.size + 1) s.heap.objs.size (I.hok.fresh (Nat.le_succ _)) (I.hok.fresh (Nat.le_refl _)) (Nat.ne_of_lt (Nat.lt_succ_self _))
  have I2 := Inv.made (C := C) I
  have e2 : ((s.heap.push PySem.W.emptyDict).push (PySem.W.instObj C s.heap.objs.size)).get? (s.heap.objs.size + 1) = some (PySem.W.instObj C s.heap.objs.size) := by
    have z := Heap.get?_push_size (s.heap.push PySem.W.emptyDict) (o := PySem.W.instObj C s.heap.objs.size) rfl
    rwa [Heap.size_push] at z
  refine wpAny_call (make_map0 I.kIn M.makes M.init (fun self => PySem.W.Looks.of_pure (PySem.W.oi_bind _)) ?_)
  have top : PySem.W.Looks (model X.prog X.w) ((s.heap.push PySem.W.emptyDict).push (PySem.W.instObj C s.heap.objs.size)) (isInstance (.ref (s.heap.objs.size + 1)) (.type "object")) true := (NwA.type_at e2 rfl).andThen (PySem.W.looks_mroIn I2.kIn M.mro)
  refine codeAny_call_builtin PySem.W.oi_plain PySem.W.entry_oi (@PySem.W.check_slot (model X.prog X.w) _ _ _ "object.__init__" "object" "__init__" (.ref (s.heap.objs.size + 1)) [] [] _ PySem.W.oi_kind PySem.W.oi_split top (NwA.oi_args_any (.ref (s.heap.objs.size + 1)) [] []) ?_)
  rw [PySem.W.oi_run]
  exact wpAny_pure ⟨rfl, ⟨.ref (s.heap.objs.size + 1), _, I2, rfl, q⟩⟩
theorem pe_makeO (M : MkN X.K C) (hr : Room 1 X.A) (hg : Gl X x) (hm : X.mg x = some (.ref C)) (hdb : (x == ("__debug__" : Str)) = false := by decide) : PE X (.Call (.Name x p) [] [] pos) (tMakeO C) :=
  ⟨fun pins s σ H Q I h => wpAny_Call_Name_kw (ld_glob I hg hm (PySem.W.callWith_K0 I.kIn M.kp (run_makeO M hr I h)) hdb)⟩
/-- xs == [] -/
def rEqNil (K : PySem.W.Frag) : R2 := fun x y H Q => ∃ (a b : Addr) (xs : List V), x = .ref a ∧ y = .ref b ∧ SqL K H a xs ∧ SqL K H b [] ∧ Q (.bl xs.isEmpty) H
theorem op_eqNil (hu : X.A.units + 65 < cLine) : OpR X (compareOp .Eq) (rEqNil X.K) := by
  intro pins s σ H x y v u Q I rx ry h
  obtain ⟨a, b, xs, rfl, rfl, ha, hb, q⟩ := h
  cases rx
  cases ry
  obtain ⟨us, r1, p1, _⟩ := I.list ha
  obtain ⟨ws, r2, p2, _⟩ := I.list hb
  cases r2
  cases r1 with
  | nil =>
    refine PySem.SeqAt.RcAt.lists (e := fun _ => true) p1.isList p2.isList rfl (by omega) (fun j h1 h2 => absurd h1 (Nat.not_lt_zero j)) _ _ _ _ ⟨.bl true, H, I, rfl, q⟩
  | cons z zs => exact PySem.SeqAt.RcAt.lists_lengths p1.isList p2.isList rfl (by omega) _ _ _ _ ⟨.bl false, H, I, rfl, q⟩
end
end Bk
set_option Elab.async false
set_option linter.all false
set_option maxRecDepth 100000
set_option maxHeartbeats 4000000
/-! The law's model in the heap; the habits; the model at first; a hand's state in it. -/
namespace Bk
open PySem PySem.Spec PyProof.Rows L2
def kEv : L2.Key := .inr "events"
def kOr : L2.Key := .inr "order"
def kSt : L2.Key := .inr "starts"
def mdD (E O S : Addr) : List (L2.Key × V) := [(kEv, .ref E), (kOr, .ref O), (kSt, .ref S)]
theorem kOE : ¬ kEv = kOr := by decide
theorem kES : ¬ kEv = kSt := by decide
theorem kOS : ¬ kOr = kSt := by decide
theorem md_ev (E O S : Addr) : valV (mdD E O S) kEv = some (.ref E) := valV_pos rfl
theorem md_or (E O S : Addr) : valV (mdD E O S) kOr = some (.ref O) := (valV_neg kOE).trans (valV_pos rfl)
theorem md_st (E O S : Addr) : valV (mdD E O S) kSt = some (.ref S) := (valV_neg kES).trans ((valV_neg kOS).trans (valV_pos rfl))
theorem md_put (E O S O' : Addr) : putK (mdD E O S) kOr (.ref O') = mdD E O' S := by
  unfold putK mdD
  have h2 : ¬ kSt = kOr := fun z => kOS z.symm
  simp [kOE, h2]
def MevAt (ρ : Rl) (H : Hp) (v : V) (e : Ev) : Prop := ∃ (t sl wl : Addr) (u : V) (sv : List V), v = .ref t ∧ H t = some (.tup [u, .int e.state, .ref sl, .ref wl]) ∧ UsAt H u e.used ∧ Own ρ H sl .fz (.lst sv) ∧ Paired (LtAt H) sv e.sent
structure MdAt (ρ : Rl) (H : Hp) (m : Addr) (c : Co) (sts : List Int) (E O S : Addr) (es : List Addr) (ovs : List V) : Prop where
  ob : Own ρ H m .md (.dK (mdD E O S))
  ev : Own ρ H E .me (.lst (es.map V.ref))
  len : es.length = c.E.length
  row : ∀ (i : Nat) (a : Addr) (xs : List Ev), es[i]? = some a → c.E[i]? = some xs → ∃ vs, Own ρ H a (.mi i) (.lst vs) ∧ Paired (MevAt ρ H) vs xs
  or : Own ρ H O .mo (.lst ovs)
  od : Paired (NmAt H) ovs c.O
  st : Own ρ H S .fz (.lst (sts.map V.int))
def MdIs (ρ : Rl) (H : Hp) (m : Addr) (c : Co) (sts : List Int) : Prop := ∃ E O S es ovs, MdAt ρ H m c sts E O S es ovs
/-- the roles of the model -/
def MM : Role → Prop := fun r => r = .md ∨ r = .me ∨ r = .mo ∨ ∃ i, r = .mi i
theorem MM_ML : ∀ r, MM r → r ≠ .fz ∧ ¬ ML r := by
  rintro r (rfl | rfl | rfl | ⟨i, rfl⟩) <;> refine ⟨(by intro z; cases z), ?_⟩ <;> rintro (z | z | z | ⟨j, z | z | z⟩) <;> cases z
theorem ML_MM : ∀ r, ML r → r ≠ .fz ∧ ¬ MM r := by
  intro r h
  refine ⟨fun z => ML_fz (by rw [← z]; exact h), fun z => (MM_ML r z).2 h⟩
theorem No_MM : ∀ r, No r → r ≠ .fz ∧ ¬ MM r := fun _ z => z.elim
section
variable {M : Role → Prop} {ρ ρ' : Rl} {H H' : Hp} {m E O S : Addr} {c : Co} {sts : List Int} {es : List Addr} {ovs : List V}
theorem MevAt.step {v : V} {e : Ev} (x : MevAt ρ H v e) (s : Step M ρ H ρ' H') (n : ¬ M .fz) : MevAt ρ' H' v e := by
  obtain ⟨t, sl, wl, u, sv, rfl, h1, h2, h3, h4⟩ := x
  exact ⟨t, sl, wl, u, sv, rfl, s.tk _ _ h1, h2.tk s.tk, h3.step s n, Paired.tkL h4 s.tk⟩
theorem MdAt.step (x : MdAt ρ H m c sts E O S es ovs) (s : Step M ρ H ρ' H') (n : ∀ r, M r → r ≠ .fz ∧ ¬ MM r) : MdAt ρ' H' m c sts E O S es ovs where
  ob := x.ob.step s fun z => (n _ z).2 (.inl rfl)
  ev := x.ev.step s fun z => (n _ z).2 (.inr (.inl rfl))
  len := x.len
  row := fun i a xs h1 h2 => by
    obtain ⟨vs, h3, h4⟩ := x.row i a xs h1 h2
    exact ⟨vs, h3.step s fun z => (n _ z).2 (.inr (.inr (.inr ⟨i, rfl⟩))), Paired.imp h4 fun _ _ z => z.step s fun z => (n _ z).1 rfl⟩
  or := x.or.step s fun z => (n _ z).2 (.inr (.inr (.inl rfl)))
  od := Paired.tkN x.od s.tk
  st := x.st.step s fun z => (n _ z).1 rfl
theorem MdIs.step (x : MdIs ρ H m c sts) (s : Step M ρ H ρ' H') (n : ∀ r, M r → r ≠ .fz ∧ ¬ MM r) : MdIs ρ' H' m c sts := by
  obtain ⟨E, O, S, es, ovs, y⟩ := x
  exact ⟨E, O, S, es, ovs, y.step s n⟩
theorem MdAt.same (x : MdAt ρ H m c sts E O S es ovs) (wf : Wf ρ H) (s : Same H H') : MdAt ρ H' m c sts E O S es ovs := x.step (Step.same (M := No) wf s) No_MM
theorem MdAt.at_ (x : MdAt ρ H m c sts E O S es ovs) {i : Nat} (h : i < c.E.length) : ∃ a vs, es[i]? = some a ∧ c.E[i]? = some (c.evs i) ∧ Own ρ H a (.mi i) (.lst vs) ∧ Paired (MevAt ρ H) vs (c.evs i) := by
  have h1 : i < es.length := by rw [x.len]; exact h
  have h2 := evs_at h
  obtain ⟨vs, h3, h4⟩ := x.row i es[i] _ (List.getElem?_eq_getElem h1) h2
  exact ⟨es[i], vs, List.getElem?_eq_getElem h1, h2, h3, h4⟩
end
theorem No_fz : ¬ No .fz := fun z => z
def sp_Lhabits (K : PySem.W.Frag) : Sp := fun vs H Q _ => ∃ (ρ : Rl) (n : Nat) (cell : Int), vs = [.int (n : Nat), .int cell] ∧ Wf ρ H ∧ n ≤ 5 ∧
  ∀ (ρ' : Rl) (q : Addr) (hvs : List V) (hbs : List Hab) (H' : Hp), Step No ρ H ρ' H' → Own ρ' H' q .fz (.lst hvs) → Paired (HabAt K ρ' H') hvs hbs → hbs.length = n → Q (.ref q) H'
def sp_Lbegun (K : PySem.W.Frag) : Sp := fun vs H Q _ => ∃ (ρ : Rl) (S : Addr) (sts : List Int), vs = [.ref S] ∧ Wf ρ H ∧ Own ρ H S .fz (.lst (sts.map V.int)) ∧ sts.length ≤ 5 ∧
  ∀ (ρ' : Rl) (m : Addr) (H' : Hp), Step No ρ H ρ' H' → MdIs ρ' H' m ⟨List.replicate sts.length [], []⟩ sts → Q (.ref m) H'
def sp_Lstate (K : PySem.W.Frag) : Sp := fun vs H Q _ => ∃ (ρ : Rl) (m : Addr) (c : Co) (sts : List Int) (i : Nat), vs = [.ref m, .int (i : Nat)] ∧ Wf ρ H ∧ MdIs ρ H m c sts ∧ c.E.length = sts.length ∧ i < sts.length ∧
  ∀ H' : Hp, Same H H' → Q (.int (stOf sts c i)) H'
section
variable {P : Program} {w : World} {K : PySem.W.Frag} {mg : Str → Option Value} {base : Heap}
theorem scLhabits : FnScope ["_law_many", "_law_cell", "_law_found", "_law_hand", "_law_way"] ["_law_many", "_law_cell"] (defScope sLhabits) := ⟨rfl, rfl, rfl, by decide +kernel, rfl, by decide +kernel, by decide +kernel⟩
set_option maxHeartbeats 8000000 in
theorem ok_Lhabits (T : Txt K mg) : OK P w K mg base CX0 3 ("_law_habits", none) ["_law_many", "_law_cell"] (sp_Lhabits K) := by
  obtain ⟨fdBundleInit, GBundleInit, bBundleInit, kBundleInit⟩ := (ok_BundleInit (P := P) (w := w) (base := base) T).ex
  refine OK.mk0 T.f_Lhabits scLhabits (fun _ _ _ _ _ _ us hl => match us, hl with | [_, _], _ => rfl) (fun vs H Q E h => ?_) (fun cdv A outer s H vs Q E hr h => ?_)
  · obtain ⟨ρ, n, cell, rfl, _⟩ := h
    rfl
  · obtain ⟨ρ, n, cell, rfl, wf, hn, k⟩ := h
    refine ⟨_, (pss_cons (ps_set (i := 2) scLhabits.nd rfl (Or.inl rfl) (pe_lst pa_nil))
      (pss_cons (ps_for PassesOwn.never rfl (pi_range1 rfl T.n_range (pa_cons (pv 0) pa_nil)) (pg_name (i := 3) scLhabits.nd rfl (Or.inl rfl)) (pss_cons (ps_set (i := 4) scLhabits.nd rfl (Or.inl rfl) (pe_op op_mod (pe_op op_shr (pv 1) (pe_op op_mul pe_int (pv 3))) pe_int))
      (pss_one (ps_if (pt_cmpR op_lt (pv 4) pe_int (nomark _)) (pss_one (ps_expr (pe_bm PySem.F.plainAttrs_list PySem.F.slot_list_append PySem.F.type_list_append mt_append (pv 2) (pa_cons (pe_ix ix_list (pe_lst (pa_cons (pe_makeO T.mkN_Never (hr.mono (by decide)) rfl T.g_Never) (pa_cons (pe_makeO T.mkN_Each (hr.mono (by decide)) rfl T.g_Each) pa_nil))) (pv 4) (fun _ _ => rfl)) pa_nil)))) (pss_one (ps_expr (pe_bm PySem.F.plainAttrs_list PySem.F.slot_list_append PySem.F.type_list_append mt_append (pv 2) (pa_cons (pe_make T.k_Bundle GBundleInit (hr.mono (by decide)) rfl T.g_Bundle bBundleInit .nil pass0 (pa_cons (pe_ix ix_list (pe_lst (pa_cons pe_int (pa_cons pe_int (pa_cons pe_int (pa_cons pe_int pa_nil))))) (pe_op op_sub (pv 4) pe_int) (fun _ _ => rfl)) pa_nil)) pa_nil))))))))
      (pss_one (ps_ret (pv 2))))), ?_⟩
    refine ⟨Nat.zero_le _, fun q hq => ⟨_, rfl, _, rfl, by omega, by omega, ?_⟩⟩
    refine for_range (lo := 0) (n := ((n : Nat) : Int).toNat) (fun j σ G => ∃ (ρj : Rl) (hvs : List V) (hbs : List Hab) (v3 v4 : Option V), σ = [some (.int (n : Nat)), some (.int cell), some (.ref q), v3, v4] ∧ Step No ρ H ρj G ∧ G q = some (.lst hvs) ∧ ρj q = .no ∧ Paired (HabAt K ρj G) hvs hbs ∧ hbs.length = j)
      ⟨ρ, [], [], none, none, rfl, Step.new0 wf hq, upd_same, wf q hq, .nil, rfl⟩ (fun j σ G hj hw => ?_) (fun σ G hw => ?_)
    · obtain ⟨ρj, hvs, hbs, v3, v4, rfl, sj, gq, rq, pr, lb⟩ := hw
      have hlv : hvs.length < sizeLine := small6 (by rw [paired_len pr]; omega)
      -- the habit v stands in G2: it is appended
      have fin : ∀ (ρ2 : Rl) (G2 : Hp) (v : V) (b : Hab) (way : Int), Step No ρj G ρ2 G2 → HabAt K ρ2 G2 v b → ∃ (ρj' : Rl) (hvs' : List V) (hbs' : List Hab) (v3' v4' : Option V), [some (.int (n : Nat)), some (.int cell), some (.ref q), some (.int (0 + (j : Nat))), some (.int way)] = [some (V.int (n : Nat)), some (V.int cell), some (V.ref q), v3', v4'] ∧
          Step No ρ H ρj' (upd G2 q (.lst (hvs ++ [v]))) ∧ upd G2 q (.lst (hvs ++ [v])) q = some (.lst hvs') ∧ ρj' q = .no ∧ Paired (HabAt K ρj' (upd G2 q (.lst (hvs ++ [v])))) hvs' hbs' ∧ hbs'.length = j + 1 := fun ρ2 G2 v b way s2 hb => by
        have gq2 := s2.keep _ _ gq (fun z => z)
        have rq2 : ρ2 q = .no := (s2.ext q (by rw [gq]; simp)).trans rq
        have sl := Step.loc (o' := .lst (hvs ++ [v])) s2.wf gq2 rq2 (fun z => z)
        refine ⟨ρ2, hvs ++ [v], hbs ++ [b], _, _, rfl, (sj.trans s2).fresh hq (by rw [gq2]; simp), upd_same, rq2, paired_snoc (R := HabAt K ρ2 _) (hb.step sl M0_fz) (Paired.imp pr fun _ _ z => (z.step s2 (fun z => z)).step sl M0_fz), ?_⟩
        rw [List.length_append, lb]
        rfl
      refine ⟨_, rfl, _, rfl, _, _, rfl, rfl, .inl ⟨by decide, by decide⟩, _, _, rfl, rfl, by omega, _, _, rfl, rfl, (show (0 : Int) < 6 by decide), ?_⟩
      obtain ⟨way, hway⟩ : ∃ way, way = cell / 2 ^ (8 * (0 + (j : Nat) : Int)).toNat % 6 := ⟨_, rfl⟩
      change gName 4 (V.int (cell / 2 ^ (8 * (0 + (j : Nat) : Int)).toNat % 6)) _ _ _
      rw [← hway]
      have w0 : 0 ≤ way ∧ way < 6 := by rw [hway]; omega
      clear hway
      refine ⟨_, rfl, _, _, rfl, rfl, _, rfl, ?_⟩
      by_cases c1 : way < 2
      · rw [decide_eq_true c1]
        refine iteT ⟨_, rfl, .inl ⟨rfl, _, SqL.of gq⟩, fun x dx hx hdx ne => fun y dy hy hdy ne2 => ⟨(by show 2 ≤ sizeLine; decide), fun l hl => ?_⟩⟩
        have t1 := Step.new0 (M := No) (o := .own x) sj.wf hdx
        have hx1 : upd G dx (.own x) x = none := (upd_ne ne.symm).trans hx
        have t2 := t1.trans (Step.new0 (M := No) (o := .ins (CNv K) dx []) t1.wf hx1)
        have t3 := t2.trans (Step.new0 (M := No) (o := .own y) t2.wf hdy)
        have hy1 : upd (upd (upd G dx (.own x)) x (.ins (CNv K) dx [])) dy (.own y) y = none := (upd_ne ne2.symm).trans hy
        have t4 := t3.trans (Step.new0 (M := No) (o := .ins (CEa K) dy []) t3.wf hy1)
        have t5 := t4.trans (Step.new0 (M := No) (o := .lst [.ref x, .ref y]) t4.wf hl)
        obtain ⟨G2, eG2⟩ : ∃ G2, G2 = upd (upd (upd (upd (upd G dx (.own x)) x (.ins (CNv K) dx [])) dy (.own y)) y (.ins (CEa K) dy [])) l (.lst [.ref x, .ref y]) := ⟨_, rfl⟩
        have nxdy : x ≠ dy := fun z => by rw [← z, upd_same] at hdy; cases hdy
        have nxy : x ≠ y := fun z => by rw [← z, upd_same] at hy; cases hy
        have nxl : x ≠ l := fun z => by rw [← z, upd_ne nxy, upd_ne nxdy, upd_same] at hl; cases hl
        have nyl : y ≠ l := fun z => by rw [← z, upd_same] at hl; cases hl
        have gx : G2 x = some (.ins (CNv K) dx []) := by rw [eG2, upd_ne nxl, upd_ne nxy, upd_ne nxdy, upd_same]
        have gy : G2 y = some (.ins (CEa K) dy []) := by rw [eG2, upd_ne nyl, upd_same]
        have gl : G2 l = some (.lst [.ref x, .ref y]) := by rw [eG2, upd_same]
        rw [← eG2] at t5 ⊢
        have hy0 : G y = none := t2.dom _ hy
        have gq2 := t5.keep _ _ gq (fun z => z)
        by_cases c2 : way = 0
        · subst c2
          have sr := t5.role hx (by rw [gx]; simp) .fz
          refine ⟨_, rfl, l, _, 0, .ref x, rfl, rfl, SqL.of gl, atI_nat (j := 0) rfl, q, _, _, rfl, rfl, gq2, hlv, fin _ G2 _ .never 0 sr ⟨x, dx, rfl, rset_same, gx⟩⟩
        · have : way = 1 := by omega
          subst this
          have sr := t5.role hy0 (by rw [gy]; simp) .fz
          refine ⟨_, rfl, l, _, 1, .ref y, rfl, rfl, SqL.of gl, atI_nat (j := 1) rfl, q, _, _, rfl, rfl, gq2, hlv, fin _ G2 _ .each 1 sr ⟨y, dy, rfl, rset_same, gy⟩⟩
      · rw [decide_eq_false c1]
        have hat : ∃ z : Int, atI [V.int 1, V.int 2, V.int 3, V.int 5] (way - 2) = some (.int z) ∧ 1 ≤ z ∧ z ≤ 20 := by
          have : way = 2 ∨ way = 3 ∨ way = 4 ∨ way = 5 := by omega
          rcases this with rfl | rfl | rfl | rfl
          · exact ⟨1, rfl, by omega, by omega⟩
          · exact ⟨2, rfl, by omega, by omega⟩
          · exact ⟨3, rfl, by omega, by omega⟩
          · exact ⟨5, rfl, by omega, by omega⟩
        obtain ⟨z, hz, z1, z2⟩ := hat
        refine iteF ⟨_, rfl, .inl ⟨rfl, _, SqL.of gq⟩, (by show 4 ≤ sizeLine; decide), fun l hl => ⟨_, rfl, _, _, rfl, rfl, l, _, _, _, rfl, rfl, SqL.of upd_same, hz, fun x dx hx hdx ne => ?_⟩⟩
        have t1 := Step.new0 (M := No) (o := .lst [V.int 1, V.int 2, V.int 3, V.int 5]) sj.wf hl
        have t2 := t1.trans (Step.new0 (M := No) (o := .own x) t1.wf hdx)
        have hx1 : upd (upd G l (.lst [V.int 1, V.int 2, V.int 3, V.int 5])) dx (.own x) x = none := (upd_ne ne.symm).trans hx
        have t3 := t2.trans (Step.new0 (M := No) (o := .ins (CBu K) dx []) t2.wf hx1)
        have hx0 : G x = none := t1.dom _ hx
        refine ⟨x, dx, z, rfl, z1, z2, upd_same, rfl, ?_⟩
        rw [upd_upd]
        have t4 : Step No ρj G ρj (upd (upd (upd G l (.lst [V.int 1, V.int 2, V.int 3, V.int 5])) dx (.own x)) x (.ins (CBu K) dx [("size", .int z)])) := t2.trans (Step.new0 t2.wf hx1)
        have sr := t4.role hx0 (by rw [upd_same]; simp) .fz
        exact ⟨q, _, _, rfl, rfl, t4.keep _ _ gq (fun z => z), hlv, fin _ _ _ (.bundle z) way sr ⟨x, dx, rfl, rset_same, upd_same⟩⟩
    · obtain ⟨ρj, hvs, hbs, v3, v4, rfl, sj, gq, rq, pr, lb⟩ := hw
      have sr := sj.role hq (by rw [gq]; simp) .fz
      have up : ∀ b, ρj b ≠ .no → rset ρj q .fz b = ρj b := rset_no rq
      refine ⟨_, rfl, k _ q hvs hbs G sr ⟨rset_same, gq⟩ (Paired.imp pr fun v b z => ?_) (by omega)⟩
      cases b with
      | never =>
        obtain ⟨a, da, e, y⟩ := z
        exact ⟨a, da, e, y.roles (by intro z; cases z) up⟩
      | each =>
        obtain ⟨a, da, e, y⟩ := z
        exact ⟨a, da, e, y.roles (by intro z; cases z) up⟩
      | bundle n =>
        obtain ⟨a, da, e, y⟩ := z
        exact ⟨a, da, e, y.roles (by intro z; cases z) up⟩
theorem scLbegun : FnScope ["_law_starts", "_law_start"] ["_law_starts"] (defScope sLbegun) := ⟨rfl, rfl, rfl, by decide +kernel, rfl, by decide +kernel, by decide +kernel⟩
theorem ok_Lbegun (T : Txt K mg) : OK P w K mg base CX0 1 ("_law_begun", none) ["_law_starts"] (sp_Lbegun K) := by
  refine OK.mk0 T.f_Lbegun scLbegun (fun _ _ _ _ _ _ us hl => match us, hl with | [_], _ => rfl) (fun vs H Q E h => ?_) (fun cdv A outer s H vs Q E hr h => ?_)
  · obtain ⟨ρ, S, sts, rfl, _⟩ := h
    rfl
  · obtain ⟨ρ, S, sts, rfl, wf, hS, h5, k⟩ := h
    refine ⟨_, (pss_one (ps_ret (pe_disp (pps_cons pe_str (pe_lc (own := [("_law_start", 1)]) rfl scLbegun.nd (pi_list (pv 0)) (blkOk_by (N := ["_law_starts", "_law_start"]) (sc := defScope sLbegun) (by decide +kernel)) (fun _ _ _ _ _ => (pg_name (i := 1) scLbegun.nd rfl (Or.inl rfl) (Or.inr rfl))) (fun _ _ _ _ _ => pts_nil) (fun _ _ _ _ _ => (pe_lst pa_nil))) (pps_cons pe_str (pe_lst pa_nil) (pps_cons pe_str (pv 0) pps_nil))) (by rfl) (by rfl) (fun z => by cases z) (by decide)))), ?_⟩
    intro p hp
    have s1 := Step.new0 (M := No) (o := .dK []) wf hp
    have nSp : S ≠ p := ne_of_none hS.at_ hp
    refine ⟨_, rfl, S, rfl, ⟨_, SqL.of ((upd_ne nSp).trans hS.at_)⟩, fun D hD => ?_⟩
    have npD : p ≠ D := ne_of_none upd_same hD
    have hD0 : H D = none := s1.dom _ hD
    refine lc_list (K := K) (a := S) (xs := sts.map V.int) (fun j G => ∃ (ρj : Rl) (es : List Addr), Step No ρ H ρj G ∧ G p = some (.dK []) ∧ ρj p = .no ∧ G D = some (.lst (es.map V.ref)) ∧ ρj D = .no ∧ es.length = j ∧ ∀ (i : Nat) (a : Addr), es[i]? = some a → Own ρj G a (.mi i) (.lst []))
      ⟨ρ, [], s1.trans (Step.new0 s1.wf hD), (upd_ne npD).trans upd_same, wf p hp, upd_same, wf D hD0, rfl, fun i a h => by simp at h⟩ (fun j G _ e => ?_) (fun j x G hx e => ?_) (fun G e => ?_)
    · obtain ⟨ρj, es, sj, _⟩ := e
      exact SqL.of (sj.keep _ _ hS.at_ (fun z => z))
    · obtain ⟨ρj, es, sj, gp, rp, gD, rD, le, he⟩ := e
      have hj : j < sts.length := by
        have := (List.getElem?_eq_some_iff.mp hx).1
        rwa [List.length_map] at this
      refine ⟨rfl, Nat.zero_le _, fun a ha => ?_⟩
      have npa : p ≠ a := ne_of_none gp ha
      have nDa : D ≠ a := ne_of_none gD ha
      have t1 := Step.new (M := No) (o := .lst []) sj.wf ha (.mi j)
      have gD1 := (upd_ne (o := .lst []) nDa).trans gD
      have rD1 : rset ρj a (.mi j) D = .no := (rset_ne nDa).trans rD
      have sl := Step.loc (o' := .lst (es.map V.ref ++ [.ref a])) t1.wf gD1 rD1 (fun z => z)
      refine ⟨_, gD1, small6 (by rw [List.length_map, le]; omega), rset ρj a (.mi j), es ++ [a], (sj.trans t1).fresh hD0 (by rw [gD1]; simp), ?_, (rset_ne npa).trans rp, ?_, rD1, by rw [List.length_append, le]; rfl, fun i b hb => ?_⟩
      · rw [upd_ne npD, upd_ne npa]
        exact gp
      · rw [upd_same, List.map_append]
        rfl
      · by_cases hi : i < es.length
        · rw [List.getElem?_append_left hi] at hb
          exact ((he i b hb).step t1 (fun z => z)).step sl (by intro z; cases z)
        · have : i = es.length := by
            have := (List.getElem?_eq_some_iff.mp hb).1
            rw [List.length_append] at this
            simp at this
            omega
          subst this
          rw [List.getElem?_concat_length] at hb
          cases hb
          rw [le]
          exact ⟨rset_same, (upd_ne nDa.symm).trans upd_same⟩
    · obtain ⟨ρj, es, sj, gp, rp, gD, rD, le, he⟩ := e
      rw [List.length_map] at le
      refine ⟨Nat.zero_le _, fun O hO => ⟨_, rfl, ?_⟩⟩
      have npO : p ≠ O := ne_of_none gp hO
      have nDO : D ≠ O := ne_of_none gD hO
      refine ⟨(upd_ne npO).trans gp, mdD D O S, rfl, (by show 3 ≤ 15; decide), ?_⟩
      have em : mergeK [] (mdD D O S) = mdD D O S := by
        have h1 : ¬ kOr = kEv := fun z => kOE z.symm
        have h2 : ¬ kSt = kEv := fun z => kES z.symm
        have h3 : ¬ kSt = kOr := fun z => kOS z.symm
        unfold mergeK mdD putK
        simp [kOE, kES, kOS]
      rw [em]
      have hO0 : H O = none := sj.dom _ hO
      have t1 := sj.trans (Step.new0 (M := No) (o := .lst []) sj.wf hO)
      have gp1 : upd G O (.lst []) p = some (.dK []) := (upd_ne npO).trans gp
      have t2 := t1.fresh (o := .dK (mdD D O S)) hp (by rw [gp1]; simp)
      obtain ⟨G2, eG2⟩ : ∃ G2, G2 = upd (upd G O (.lst [])) p (.dK (mdD D O S)) := ⟨_, rfl⟩
      have fp : G2 p = some (.dK (mdD D O S)) := by rw [eG2, upd_same]
      have fD : G2 D = some (.lst (es.map V.ref)) := by rw [eG2, upd_ne npD.symm, upd_ne nDO]; exact gD
      have fO : G2 O = some (.lst []) := by rw [eG2, upd_ne npO.symm, upd_same]
      rw [← eG2] at t2 ⊢
      have rO : ρj O = .no := sj.wf _ hO
      have t3 : Step No ρ H (rset (rset (rset ρj p .md) D .me) O .mo) G2 := ((t2.role hp (by rw [fp]; simp) _).role hD0 (by rw [fD]; simp) _).role hO0 (by rw [fO]; simp) _
      have up : ∀ b, ρj b ≠ .no → rset (rset (rset ρj p .md) D .me) O .mo b = ρj b := fun b n => by
        rw [rset_ne (fun z => n (by rw [z]; exact rO)), rset_ne (fun z => n (by rw [z]; exact rD)), rset_ne (fun z => n (by rw [z]; exact rp))]
      refine k _ p G2 t3 ⟨D, O, S, es, [], ⟨?_, fp⟩, ⟨?_, fD⟩, by rw [le]; exact (List.length_replicate ..).symm, fun i a xs h1 h2 => ?_, ⟨rset_same, fO⟩, .nil, hS.step t3 (fun z => z)⟩
      · rw [rset_ne npO, rset_ne npD, rset_same]
      · rw [rset_ne nDO, rset_same]
      · have o1 := he i a h1
        have na : a ≠ O := ne_of_none o1.at_ hO
        have nap : a ≠ p := fun z => by
          have := o1.role
          rw [z, rp] at this
          cases this
        rw [List.getElem?_replicate] at h2
        split at h2
        · cases h2
          refine ⟨[], ⟨(up a (by rw [o1.role]; intro z; cases z)).trans o1.role, ?_⟩, .nil⟩
          rw [eG2, upd_ne nap, upd_ne na]
          exact o1.at_
        · cases h2
theorem scLstate : FnScope ["_law_model", "_law_hand"] ["_law_model", "_law_hand"] (defScope sLstate) := ⟨rfl, rfl, rfl, by decide +kernel, rfl, by decide +kernel, by decide +kernel⟩
theorem ok_Lstate (T : Txt K mg) : OK P w K mg base CX0 1 ("_law_state", none) ["_law_model", "_law_hand"] (sp_Lstate K) := by
  refine OK.mk0 T.f_Lstate scLstate (fun _ _ _ _ _ _ us hl => match us, hl with | [_, _], _ => rfl) (fun vs H Q E h => ?_) (fun cdv A outer s H vs Q E hr h => ?_)
  · obtain ⟨ρ, m, c, sts, i, rfl, _⟩ := h
    rfl
  · obtain ⟨ρ, m, c, sts, i, rfl, wf, ⟨E, O, S, es, ovs, X⟩, hc, hi, k⟩ := h
    obtain ⟨a, vs, ha, hev, ho, pr⟩ := X.at_ (i := i) (by rw [hc]; exact hi)
    have hat : atI (es.map V.ref) ((i : Nat) : Int) = some (.ref a) := atI_nat (by rw [List.getElem?_map, ha]; rfl)
    have gE : ∀ {G : Hp}, Same H G → DGet G m (.str "events") (some (.ref E)) := fun {G} s => by
      have z := DGet.k (k := kEv) (s _ _ X.ob.at_)
      rw [md_ev] at z
      exact z
    have gS : ∀ {G : Hp}, Same H G → DGet G m (.str "starts") (some (.ref S)) := fun {G} s => by
      have z := DGet.k (k := kSt) (s _ _ X.ob.at_)
      rw [md_st] at z
      exact z
    refine ⟨_, (pss_cons (ps_if (pt_cmpR (op_eqNil (hu65 hr)) (pe_ix ix_list (pe_dget (hu_of hr) (pv 0) pe_str (fun _ _ => rfl)) (pv 1) (fun _ _ => rfl)) (pe_lst pa_nil) (nomark _)) (pss_one (ps_ret (pe_ix ix_list (pe_dget (hu_of hr) (pv 0) pe_str (fun _ _ => rfl)) (pv 1) (fun _ _ => rfl)))) pss_nil)
      (pss_one (ps_ret (pe_ix ix_tup (pe_ix ix_list (pe_ix ix_list (pe_dget (hu_of hr) (pv 0) pe_str (fun _ _ => rfl)) (pv 1) (fun _ _ => rfl)) (pe_un un_neg pe_int) (fun _ _ => rfl)) pe_int (fun _ _ => rfl))))), ?_⟩
    refine ⟨_, rfl, m, _, rfl, gE (Same.refl _), _, rfl, E, _, _, _, rfl, rfl, SqL.of X.ev.at_, hat, Nat.zero_le _, fun q hq => ⟨a, q, vs, rfl, rfl, SqL.of ((upd_ne (ne_of_none ho.at_ hq)).trans ho.at_), SqL.of upd_same, _, rfl, ?_⟩⟩
    have s1 := same_upd (o := .lst []) hq
    have evl := paired_len pr
    cases hvs : vs with
    | nil =>
      rw [hvs] at evl
      have e0 : c.evs i = [] := List.length_eq_zero_iff.mp evl.symm
      have es0 : stOf sts c i = sts.getD i 0 := by
        unfold stOf
        rw [e0]
        rfl
      refine iteT ⟨_, rfl, m, _, rfl, gS s1, _, rfl, S, _, _, _, rfl, rfl, SqL.of (s1 _ _ X.st.at_), atI_nat (j := i) (v := .int (sts.getD i 0)) ?_, ?_⟩
      · rw [List.getElem?_map, List.getD_eq_getElem?_getD, List.getElem?_eq_getElem hi]
        rfl
      · rw [← es0]
        exact k _ s1
    | cons v0 r0 =>
      have hne : c.evs i ≠ [] := fun z => by
        rw [z, hvs] at evl
        cases evl
      obtain ⟨ev, hev1⟩ : ∃ ev, (c.evs i).getLast? = some ev := ⟨_, List.getLast?_eq_some_getLast hne⟩
      obtain ⟨ys, hys⟩ := List.getLast?_eq_some_iff.mp hev1
      have hev2 : (c.evs i)[(c.evs i).length - 1]? = some ev := by rw [← List.getLast?_eq_getElem?]; exact hev1
      obtain ⟨v, hv, t, sl, wl, u, sv, rfl, ht, _⟩ := paired_at pr hev2
      have es0 : stOf sts c i = ev.state := by
        unfold stOf
        rw [hev1]
      have hlast : atI vs (-1) = some (.ref t) := by
        have h1 : vs.getLast? = some (.ref t) := by rw [List.getLast?_eq_getElem?, evl]; exact hv
        obtain ⟨zs, hz⟩ := List.getLast?_eq_some_iff.mp h1
        rw [hz]
        exact atI_last _ _
      rw [hvs] at hlast
      have ho2 := ho.at_
      rw [hvs] at ho2
      refine iteF ⟨_, rfl, m, _, rfl, gE s1, _, rfl, E, _, _, _, rfl, rfl, SqL.of (s1 _ _ X.ev.at_), hat, _, rfl, a, _, _, _, rfl, rfl, SqL.of (s1 _ _ ho2), hlast, t, _, _, _, rfl, rfl, SqT.of (s1 _ _ ht), rfl, ?_⟩
      rw [← es0]
      exact k _ s1
end
end Bk
set_option Elab.async false
set_option linter.all false
set_option maxRecDepth 100000
set_option maxHeartbeats 4000000
/-! The law's model: letters sent, letters used. -/
namespace Bk
open PySem PySem.Spec PyProof.Rows L2
/-- the sizes of what rows lead to -/
structure COk (c : Co) : Prop where
  many : c.E.length ≤ 5
  evs : ∀ es ∈ c.E, es.length ≤ 50 ∧ ∀ e ∈ es, e.sent.length ≤ 3
  ord : c.O.length ≤ 150
theorem COk.sent {c : Co} (ok : COk c) : (sentAll 0 c.E).length ≤ 750 := by
  have := sentAll_len 50 0 c.E ok.evs
  have := ok.many
  omega
theorem COk.used {c : Co} (ok : COk c) : (usedAll [] c.E).length ≤ 250 := by
  have h := usedAll_len 50 [] c.E fun es hes => (ok.evs es hes).1
  have := ok.many
  rw [List.length_nil] at h
  omega
def sp_Lsent (K : PySem.W.Frag) : Sp := fun vs H Q _ => ∃ (ρ : Rl) (m : Addr) (c : Co) (sts : List Int), vs = [.ref m] ∧ Wf ρ H ∧ MdIs ρ H m c sts ∧ COk c ∧
  ∀ (q : Addr) (kvs : List (List L2.Key × V)) (H' : Hp), H q = none → Same H H' → H' q = some (.dT kvs) → SentKV H' kvs (sentAll 0 c.E) → Q (.ref q) H'
def sp_Lused (K : PySem.W.Frag) : Sp := fun vs H Q _ => ∃ (ρ : Rl) (m : Addr) (c : Co) (sts : List Int), vs = [.ref m] ∧ Wf ρ H ∧ MdIs ρ H m c sts ∧ COk c ∧
  ∀ (q : Addr) (H' : Hp), H q = none → Same H H' → H' q = some (.dT (usedKV (usedAll [] c.E))) → Q (.ref q) H'
theorem md_gE {ρ : Rl} {H G : Hp} {m E O S : Addr} {c : Co} {sts : List Int} {es : List Addr} {ovs : List V} (X : MdAt ρ H m c sts E O S es ovs) (s : Same H G) : DGet G m (.str "events") (some (.ref E)) := by
  have z := DGet.k (k := kEv) (s _ _ X.ob.at_)
  rw [md_ev] at z
  exact z
theorem md_gO {ρ : Rl} {H G : Hp} {m E O S : Addr} {c : Co} {sts : List Int} {es : List Addr} {ovs : List V} (X : MdAt ρ H m c sts E O S es ovs) (s : Same H G) : DGet G m (.str "order") (some (.ref O)) := by
  have z := DGet.k (k := kOr) (s _ _ X.ob.at_)
  rw [md_or] at z
  exact z
theorem md_gS {ρ : Rl} {H G : Hp} {m E O S : Addr} {c : Co} {sts : List Int} {es : List Addr} {ovs : List V} (X : MdAt ρ H m c sts E O S es ovs) (s : Same H G) : DGet G m (.str "starts") (some (.ref S)) := by
  have z := DGet.k (k := kSt) (s _ _ X.ob.at_)
  rw [md_st] at z
  exact z
theorem take_all {α : Type} (l : List α) : l.take l.length = l := List.take_length
section
variable {P : Program} {w : World} {K : PySem.W.Frag} {mg : Str → Option Value} {base : Heap}
theorem scLsent : FnScope ["_law_model", "_law_found", "_law_hand", "_law_place", "_law_name", "_law_state_here", "_law_letters", "_law_words", "_law_k"] ["_law_model"] (defScope sLsent) := ⟨rfl, rfl, rfl, by decide +kernel, rfl, by decide +kernel, by decide +kernel⟩
set_option maxHeartbeats 8000000 in
theorem ok_Lsent (T : Txt K mg) : OK P w K mg base CX0 1 ("_law_sent", none) ["_law_model"] (sp_Lsent K) := by
  refine OK.mk0 T.f_Lsent scLsent (fun _ _ _ _ _ _ us hl => match us, hl with | [_], _ => rfl) (fun vs H Q E h => ?_) (fun cdv A outer s H vs Q E hr h => ?_)
  · obtain ⟨ρ, m, c, sts, rfl, _⟩ := h
    rfl
  · obtain ⟨ρ, m, c, sts, rfl, wf, ⟨E, O, S, es, ovs, X⟩, ok, k⟩ := h
    have hm := ok.many
    have les : es.length = c.E.length := X.len
    refine ⟨_, (pss_cons (ps_set (i := 1) scLsent.nd rfl (Or.inl rfl) pe_dnewT)
      (pss_cons (ps_for PassesOwn.never rfl (pi_range1 rfl T.n_range (pa_cons (pe_callB call_len_seq (by rfl) T.n_len PySem.boot_len (pa_cons (pe_dget (hu_of hr) (pv 0) pe_str (fun _ _ => rfl)) pa_nil)) pa_nil)) (pg_name (i := 2) scLsent.nd rfl (Or.inl rfl)) (pss_cons (ps_set (i := 3) scLsent.nd rfl (Or.inl rfl) pe_int)
      (pss_one (ps_for PassesOwn.never rfl (pi_list (pe_ix ix_list (pe_dget (hu_of hr) (pv 0) pe_str (fun _ _ => rfl)) (pv 2) (fun _ _ => rfl))) (pg_tup rfl (pgs_cons (pg_name (i := 4) scLsent.nd rfl (Or.inl rfl)) (pgs_cons (pg_name (i := 5) scLsent.nd rfl (Or.inl rfl)) (pgs_cons (pg_name (i := 6) scLsent.nd rfl (Or.inl rfl)) (pgs_cons (pg_name (i := 7) scLsent.nd rfl (Or.inl rfl)) pgs_nil))))) (pss_cons (ps_set (i := 3) scLsent.nd rfl (Or.inl rfl) (pe_op op_add (pv 3) pe_int))
      (pss_one (ps_for PassesOwn.never rfl (pi_range1 rfl T.n_range (pa_cons (pe_callB call_len_seq (by rfl) T.n_len PySem.boot_len (pa_cons (pv 6) pa_nil)) pa_nil)) (pg_name (i := 8) scLsent.nd rfl (Or.inl rfl)) (pss_one (ps_dput (hu_of hr) (pv 1) (pe_tup (pa_cons (pv 2) (pa_cons (pv 3) (pa_cons (pv 8) pa_nil)))) (pe_ix ix_list (pv 6) (pv 8) (fun _ _ => rfl)) rfl)))))))))
      (pss_one (ps_ret (pv 1))))), ?_⟩
    intro q hq
    have s0 := same_upd (o := .dT []) hq
    refine ⟨_, rfl, m, _, rfl, md_gE X s0, E, _, rfl, .inl (SqL.of (s0 _ _ X.ev.at_)), _, rfl, by rw [List.length_map]; omega, by rw [List.length_map]; omega, ?_⟩
    refine for_range (lo := 0) (n := (((es.map V.ref).length : Nat) : Int).toNat) (fun i σ G => ∃ (kvs : List (List L2.Key × V)) (v2 v3 v4 v5 v6 v7 v8 : Option V), σ = [some (.ref m), some (.ref q), v2, v3, v4, v5, v6, v7, v8] ∧ Same H G ∧ G q = some (.dT kvs) ∧ SentKV G kvs (sentAll 0 (c.E.take i)))
      ⟨[], none, none, none, none, none, none, none, rfl, s0, upd_same, .nil⟩ (fun i σ G hi hw => ?_) fun σ G hw => ?_
    · obtain ⟨kvs, v2, v3, v4, v5, v6, v7, v8, rfl, sG, eq, sk⟩ := hw
      rw [List.length_map] at hi
      have hi' : i < c.E.length := by omega
      obtain ⟨a, vs, ha, hev, ho, pe⟩ := X.at_ hi'
      have hat : atI (es.map V.ref) (0 + (i : Nat) : Int) = some (.ref a) := by
        rw [Int.zero_add]
        exact atI_nat (by rw [List.getElem?_map, ha]; rfl)
      have evok := ok.evs _ (List.mem_of_getElem? hev)
      refine ⟨_, rfl, m, _, rfl, md_gE X sG, _, rfl, E, _, _, _, rfl, rfl, SqL.of (sG _ _ X.ev.at_), hat, a, rfl, ⟨_, SqL.of (sG _ _ ho.at_)⟩, ?_⟩
      refine for_list (K := K) (a := a) (xs := vs) (fun j σ' G' => ∃ (kvs : List (List L2.Key × V)) (v4 v5 v6 v7 v8 : Option V), σ' = [some (.ref m), some (.ref q), some (.int (0 + (i : Nat))), some (.int ((j : Nat) : Int)), v4, v5, v6, v7, v8] ∧ Same H G' ∧ G' q = some (.dT kvs) ∧
          SentKV G' kvs (sentAll 0 (c.E.take i) ++ sentEvs (0 + (i : Nat) : Int) 0 ((c.evs i).take j)))
        ⟨kvs, v4, v5, v6, v7, v8, rfl, sG, eq, (by rw [List.take_zero]; show SentKV _ kvs (sentAll 0 (c.E.take i) ++ []); rw [List.append_nil]; exact sk)⟩
        (fun j σ' G' _ hw => ?_) (fun j x σ' G' hx hw => ?_) (fun σ' G' hw => ?_)
      · obtain ⟨_, _, _, _, _, _, _, z, _⟩ := hw
        exact SqL.of (z _ _ ho.at_)
      · obtain ⟨kvs, v4, v5, v6, v7, v8, rfl, sG', eq', sk'⟩ := hw
        obtain ⟨ev, hev2, t, sl, wl, u, sv, rfl, ht, hu, hsl, hlt⟩ := paired_at' pe hx
        refine ⟨t, _, rfl, SqT.of (sG' _ _ ht), rfl, _, _, rfl, _, _, rfl, _, _, rfl, _, _, rfl, rfl, ?_⟩
        refine ⟨_, rfl, _, _, rfl, rfl, ?_⟩
        have lsv := paired_len hlt
        have l3 := evok.2 ev (List.mem_of_getElem? hev2)
        refine ⟨_, rfl, sl, _, rfl, .inl (SqL.of (sG' _ _ hsl.at_)), _, rfl, by omega, by omega, ?_⟩
        refine for_range (lo := 0) (n := ((sv.length : Nat) : Int).toNat) (fun p σ' G3 => ∃ (kvs : List (List L2.Key × V)) (v8 : Option V), σ' = [some (.ref m), some (.ref q), some (.int (0 + (i : Nat))), some (.int ((j : Nat) + 1)), some u, some (.int ev.state), some (.ref sl), some (.ref wl), v8] ∧ Same H G3 ∧ G3 q = some (.dT kvs) ∧
            SentKV G3 kvs ((sentAll 0 (c.E.take i) ++ sentEvs (0 + (i : Nat) : Int) 0 ((c.evs i).take j)) ++ sentEv (0 + (i : Nat) : Int) ((j : Nat) + 1) 0 (ev.sent.take p)))
          ⟨kvs, v8, rfl, sG', eq', (by rw [List.take_zero]; show SentKV _ kvs (_ ++ []); rw [List.append_nil]; exact sk')⟩ (fun p σ' G3 hp hw => ?_) (fun σ' G3 hw => ?_)
        · obtain ⟨kvs, v8, rfl, sG3, eq3, sk3⟩ := hw
          have hp' : p < sv.length := by omega
          obtain ⟨lt, hlt2⟩ : ∃ lt, ev.sent[p]? = some lt := ⟨ev.sent[p]'(by omega), List.getElem?_eq_getElem _⟩
          obtain ⟨lv, hlv, hL⟩ := paired_at hlt hlt2
          have hati : atI sv (0 + (p : Nat) : Int) = some lv := by
            rw [Int.zero_add]
            exact atI_nat hlv
          refine ⟨_, rfl, _, rfl, sl, _, _, _, rfl, rfl, SqL.of (sG3 _ _ hsl.at_), hati, _, rfl, _, rfl, _, rfl, _, rfl, (by show 3 ≤ sizeLine; decide), fun t3 ht3 => ?_⟩
          have sS : Same G3 (upd G3 t3 (.tup [V.int (0 + (i : Nat)), V.int ((j : Nat) + 1), V.int (0 + (p : Nat))])) := same_upd ht3
          have hqt3 : q ≠ t3 := ne_of_none eq3 ht3
          have eq5 := sS _ _ eq3
          have sk5 := sk3.tk (tk_same sS)
          have hsz : kvs.length < sizeLine := by
            refine small6 ?_
            have c1 := sentAll_len 50 0 (c.E.take i) fun y hy => ok.evs y (List.mem_of_mem_take hy)
            have c2 := sentEvs_len (0 + (i : Nat) : Int) 0 ((c.evs i).take j) fun y hy => evok.2 y (List.mem_of_mem_take hy)
            have c4 := evok.1
            have c5 := List.length_take_le' i c.E
            have c6 := List.length_take_le' j (c.evs i)
            have c7 := List.length_take_le' p ev.sent
            rw [paired_len sk3, List.length_append, List.length_append, sentEv_len]
            omega
          have hl3 : LtAt (upd G3 t3 (.tup [V.int (0 + (i : Nat)), V.int ((j : Nat) + 1), V.int (0 + (p : Nat))])) lv lt := hL.tk fun b xs z => sS b _ (sG3 b _ z)
          obtain ⟨pn, sk6⟩ := sk5.put (n := ((0 + (i : Nat) : Int), ((j : Nat) : Int) + 1, ((p : Nat) : Int))) (new_name (by have := List.length_take_le i c.E; omega) (by have := List.length_take_le j (c.evs i); omega) (by have := List.length_take_le p ev.sent; omega)) hl3
          have et3 : upd G3 t3 (.tup [V.int (0 + (i : Nat)), V.int ((j : Nat) + 1), V.int (0 + (p : Nat))]) t3 = some (.tup ((nmK ((0 + (i : Nat) : Int), ((j : Nat) : Int) + 1, ((p : Nat) : Int))).map kV)) := by
            rw [upd_same, Int.zero_add (p : Int)]
            rfl
          refine ⟨q, _, rfl, DPut.t (k := nmK ((0 + (i : Nat) : Int), ((j : Nat) : Int) + 1, ((p : Nat) : Int))) eq5 et3 hsz, ?_⟩
          rw [pn]
          have tk6 : TupK (upd G3 t3 (.tup [V.int (0 + (i : Nat)), V.int ((j : Nat) + 1), V.int (0 + (p : Nat))])) (upd (upd G3 t3 (.tup [V.int (0 + (i : Nat)), V.int ((j : Nat) + 1), V.int (0 + (p : Nat))])) q (.dT (kvs ++ [(nmK ((0 + (i : Nat) : Int), ((j : Nat) : Int) + 1, ((p : Nat) : Int)), lv)]))) := fun b xs z => (upd_ne (ne_of z eq5 (by intro y; cases y))).trans z
          refine ⟨_, _, rfl, fun b o z => ?_, upd_same, ?_⟩
          · rw [upd_ne (ne_of_none z hq)]
            exact sS b o (sG3 b o z)
          · rw [take_snoc hlt2, sentEv_snoc, List.length_take, Nat.min_eq_left (Nat.le_of_lt (List.getElem?_eq_some_iff.mp hlt2).1), Nat.zero_add, ← List.append_assoc]
            exact sk6.tk tk6
        · obtain ⟨kvs, v8, rfl, sG3, eq3, sk3⟩ := hw
          refine ⟨kvs, _, _, _, _, _, rfl, sG3, eq3, ?_⟩
          rw [Int.toNat_natCast, lsv, List.take_length] at sk3
          rw [take_snoc hev2, sentEvs_snoc, List.length_take, Nat.min_eq_left (Nat.le_of_lt (List.getElem?_eq_some_iff.mp hev2).1), Nat.zero_add, ← List.append_assoc]
          exact sk3
      · obtain ⟨kvs, v4, v5, v6, v7, v8, rfl, sG', eq', sk'⟩ := hw
        refine ⟨kvs, _, _, v4, v5, v6, v7, v8, rfl, sG', eq', ?_⟩
        rw [take_snoc hev, sentAll_snoc, List.length_take, Nat.min_eq_left (by omega)]
        rw [paired_len pe, List.take_length] at sk'
        have e3 : ((0 + i : Nat) : Int) = 0 + (i : Nat) := by omega
        rw [e3]
        exact sk'
    · obtain ⟨kvs, v2, v3, v4, v5, v6, v7, v8, rfl, sG, eq, sk⟩ := hw
      refine ⟨_, rfl, k q kvs G hq sG eq ?_⟩
      have e : c.E.take (((es.map V.ref).length : Nat) : Int).toNat = c.E := by
        rw [Int.toNat_natCast, List.length_map, les, List.take_length]
      rw [e] at sk
      exact sk
theorem scLused : FnScope ["_law_model", "_law_found", "_law_rows", "_law_place", "_law_name", "_law_state_here", "_law_letters", "_law_words"] ["_law_model"] (defScope sLused) := ⟨rfl, rfl, rfl, by decide +kernel, rfl, by decide +kernel, by decide +kernel⟩
set_option maxHeartbeats 8000000 in
theorem ok_Lused (T : Txt K mg) : OK P w K mg base CX0 1 ("_law_used", none) ["_law_model"] (sp_Lused K) := by
  refine OK.mk0 T.f_Lused scLused (fun _ _ _ _ _ _ us hl => match us, hl with | [_], _ => rfl) (fun vs H Q E h => ?_) (fun cdv A outer s H vs Q E hr h => ?_)
  · obtain ⟨ρ, m, c, sts, rfl, _⟩ := h
    rfl
  · obtain ⟨ρ, m, c, sts, rfl, wf, ⟨E, O, S, es, ovs, X⟩, ok, k⟩ := h
    have hm := ok.many
    have les : es.length = c.E.length := X.len
    refine ⟨_, (pss_cons (ps_set (i := 1) scLused.nd rfl (Or.inl rfl) pe_dnewT)
      (pss_cons (ps_for PassesOwn.never rfl (pi_list (pe_dget (hu_of hr) (pv 0) pe_str (fun _ _ => rfl))) (pg_name (i := 2) scLused.nd rfl (Or.inl rfl)) (pss_cons (ps_set (i := 3) scLused.nd rfl (Or.inl rfl) pe_int)
      (pss_one (ps_for PassesOwn.never rfl (pi_list (pv 2)) (pg_tup rfl (pgs_cons (pg_name (i := 4) scLused.nd rfl (Or.inl rfl)) (pgs_cons (pg_name (i := 5) scLused.nd rfl (Or.inl rfl)) (pgs_cons (pg_name (i := 6) scLused.nd rfl (Or.inl rfl)) (pgs_cons (pg_name (i := 7) scLused.nd rfl (Or.inl rfl)) pgs_nil))))) (pss_cons (ps_set (i := 3) scLused.nd rfl (Or.inl rfl) (pe_op op_add (pv 3) pe_int))
      (pss_one (ps_if (pt_cmpR op_notN (pv 4) pe_non (nomark _)) (pss_one (ps_dput (hu_of hr) (pv 1) (pv 4) (pv 3) rfl)) pss_nil)))))))
      (pss_one (ps_ret (pv 1))))), ?_⟩
    intro q hq
    have s0 := same_upd (o := .dT []) hq
    refine ⟨_, rfl, m, _, rfl, md_gE X s0, E, rfl, ⟨_, SqL.of (s0 _ _ X.ev.at_)⟩, ?_⟩
    refine for_list (K := K) (a := E) (xs := es.map V.ref) (fun i σ G => ∃ (v2 v3 v4 v5 v6 v7 : Option V), σ = [some (.ref m), some (.ref q), v2, v3, v4, v5, v6, v7] ∧ Same H G ∧ G q = some (.dT (usedKV (usedAll [] (c.E.take i)))))
      ⟨none, none, none, none, none, none, rfl, s0, upd_same⟩ (fun i σ G _ hw => ?_) (fun i x σ G hx hw => ?_) fun σ G hw => ?_
    · obtain ⟨_, _, _, _, _, _, _, z, _⟩ := hw
      exact SqL.of (z _ _ X.ev.at_)
    · obtain ⟨v2, v3, v4, v5, v6, v7, rfl, sG, eq⟩ := hw
      have hi' : i < c.E.length := by
        have := (List.getElem?_eq_some_iff.mp hx).1
        rw [List.length_map] at this
        omega
      obtain ⟨a, vs, ha, hev, ho, pe⟩ := X.at_ hi'
      obtain rfl : x = .ref a := by
        rw [List.getElem?_map, ha] at hx
        exact (Option.some.inj hx).symm
      have evok := ok.evs _ (List.mem_of_getElem? hev)
      refine ⟨_, rfl, a, rfl, ⟨_, SqL.of (sG _ _ ho.at_)⟩, ?_⟩
      refine for_list (K := K) (a := a) (xs := vs) (fun j σ' G' => ∃ (v4 v5 v6 v7 : Option V), σ' = [some (.ref m), some (.ref q), some (.ref a), some (.int ((j : Nat) : Int)), v4, v5, v6, v7] ∧ Same H G' ∧ G' q = some (.dT (usedKV (usedEvs (usedAll [] (c.E.take i)) 0 ((c.evs i).take j)))))
        ⟨v4, v5, v6, v7, rfl, sG, eq⟩ (fun j σ' G' _ hw => ?_) (fun j x σ' G' hx hw => ?_) (fun σ' G' hw => ?_)
      · obtain ⟨_, _, _, _, _, z, _⟩ := hw
        exact SqL.of (z _ _ ho.at_)
      · obtain ⟨v4, v5, v6, v7, rfl, sG', eq'⟩ := hw
        obtain ⟨ev, hev2, t, sl, wl, u, sv, rfl, ht, hu, hsl, hlt⟩ := paired_at' pe hx
        have hus : usedEvs (usedAll [] (c.E.take i)) 0 ((c.evs i).take (j + 1)) = usedStep (usedEvs (usedAll [] (c.E.take i)) 0 ((c.evs i).take j)) j ev := by
          rw [take_snoc hev2, usedEvs_snoc, List.length_take, Nat.min_eq_left (Nat.le_of_lt (List.getElem?_eq_some_iff.mp hev2).1), Nat.zero_add]
        refine ⟨t, _, rfl, SqT.of (sG' _ _ ht), rfl, _, _, rfl, _, _, rfl, _, _, rfl, _, _, rfl, rfl, ?_⟩
        refine ⟨_, rfl, _, _, rfl, rfl, _, rfl, rfl, _, rfl, ?_⟩
        cases hue : ev.used with
        | none =>
          rw [hue] at hu
          have hu : u = V.non := hu
          subst hu
          have e0 : usedStep (usedEvs (usedAll [] (c.E.take i)) 0 ((c.evs i).take j)) j ev = usedEvs (usedAll [] (c.E.take i)) 0 ((c.evs i).take j) := by
            unfold usedStep
            rw [hue]
          refine iteF ⟨_, _, _, _, rfl, sG', ?_⟩
          rw [hus, e0]
          exact eq'
        | some n =>
          rw [hue] at hu
          obtain ⟨na, rfl, hna⟩ := hu
          have e0 : usedStep (usedEvs (usedAll [] (c.E.take i)) 0 ((c.evs i).take j)) j ev = putU (usedEvs (usedAll [] (c.E.take i)) 0 ((c.evs i).take j)) n ((j : Int) + 1) := by
            unfold usedStep
            rw [hue]
          have hsz : (usedKV (usedEvs (usedAll [] (c.E.take i)) 0 ((c.evs i).take j))).length < sizeLine := by
            refine small6 ?_
            have c1 := usedEvs_len (usedAll [] (c.E.take i)) 0 ((c.evs i).take j)
            have c2 := usedAll_len 50 [] (c.E.take i) fun y hy => (ok.evs y (List.mem_of_mem_take hy)).1
            have c4 := evok.1
            have c5 := List.length_take_le' i c.E
            have c6 := List.length_take_le' j (c.evs i)
            unfold usedKV
            rw [List.length_map]
            rw [List.length_nil] at c2
            omega
          have hnG : G' na = some (.tup ((nmK n).map kV)) := sG' _ _ hna
          refine iteT ⟨_, rfl, _, rfl, _, rfl, q, _, rfl, DPut.t eq' hnG hsz, ?_⟩
          rw [usedKV_put, hus, e0]
          refine ⟨_, _, _, _, rfl, fun c o z => ?_, upd_same⟩
          rw [upd_ne (ne_of_none z hq)]
          exact sG' c o z
      · obtain ⟨v4, v5, v6, v7, rfl, sG', eq'⟩ := hw
        refine ⟨_, _, v4, v5, v6, v7, rfl, sG', ?_⟩
        rw [take_snoc hev, usedAll_snoc]
        rw [paired_len pe, List.take_length] at eq'
        exact eq'
    · obtain ⟨v2, v3, v4, v5, v6, v7, rfl, sG, eq⟩ := hw
      refine ⟨_, rfl, k q G hq sG ?_⟩
      rw [List.length_map, les, List.take_length] at eq
      exact eq
end
end Bk
set_option Elab.async false
set_option linter.all false
set_option maxRecDepth 100000
set_option maxHeartbeats 4000000
/-! The letters that may be used, what may be done. -/
namespace Bk
open PySem PySem.Spec PyProof.Rows L2
abbrev Fr := Int × Nm
def frPD (f : Fr) : PyData := .tuple [.int f.1, nmD f.2]
theorem alike_fr (f g : Fr) : PySem.W.alike (frPD f) (frPD g) = true := by
  simp [frPD, nmD, PySem.W.alike, PySem.W.alikeAll]
theorem tup_fr (f : Fr) : ∃ x r, frPD f = .tuple (x :: r) := ⟨_, _, rfl⟩
theorem depth_fr (f : Fr) : (frPD f).depth ≤ 8 := by
  have : (frPD f).depth = 2 := by simp [frPD, nmD, PyData.depth, PyData.depthAll]
  omega
def FrAt (H : Hp) (v : V) (f : Fr) : Prop := ∃ nv, NmAt H nv f.2 ∧ TupAt H v [.int f.1, nv]
theorem FrAt.tk {H H' : Hp} {v : V} {f : Fr} (x : FrAt H v f) (k : TupK H H') : FrAt H' v f := let ⟨nv, a, b⟩ := x; ⟨nv, a.tk k, b.tk k⟩
theorem Paired.tkF {H H' : Hp} {xs : List V} {fs : List Fr} (p : Paired (FrAt H) xs fs) (k : TupK H H') : Paired (FrAt H') xs fs := Paired.imp p fun _ _ z => z.tk k
theorem fr_dp {K : PySem.W.Frag} {H : Hp} {v : V} {f : Fr} (h : FrAt H v f) : Dp K H v (frPD f) := by
  obtain ⟨nv, h1, a, rfl, e⟩ := h
  exact .tup (SqT.of e) (.cons (.int _) (.cons (nm_dp h1) .nil))
noncomputable def freeL (c : Co) (o : Bool) : List Fr := (freeGo c.E o [] c.O).mergeSort (PySem.W.dataLe false frPD)
theorem freeL_mem {c : Co} {o : Bool} {f : Fr} : f ∈ freeL c o ↔ f ∈ freeGo c.E o [] c.O := List.mem_mergeSort
/-- pairs of ints -/
def prD (w : Int × Int) : PyData := .tuple [.int w.1, .int w.2]
theorem prD_shaped (w : Int × Int) : SeqAt.shaped (prD w) = true := by
  have h2 : (prD w).depth ≤ 64 := by
    have : (prD w).depth = 1 := by simp [prD, PyData.depth, PyData.depthAll]
    omega
  show ((prD w).canLay0 && decide ((prD w).depth ≤ 64)) = true
  rw [Bool.and_eq_true]
  exact ⟨by simp [prD, PyData.canLay0, PyData.canLayAll0], decide_eq_true h2⟩
theorem prDs_lay : ∀ zs : List (Int × Int), PyData.canLayAll0 (zs.map prD) = true
  | [] => by simp [PyData.canLayAll0]
  | z :: zs => by
    have h1 := prDs_lay zs
    simp only [List.map_cons, PyData.canLayAll0, h1, Bool.and_true]
    simp [prD, PyData.canLay0, PyData.canLayAll0]
theorem prDs_depth : ∀ zs : List (Int × Int), PyData.depthAll (zs.map prD) ≤ 1
  | [] => by simp [PyData.depthAll]
  | z :: zs => by
    have h1 := prDs_depth zs
    have h2 : (prD z).depth = 1 := by simp [prD, PyData.depth, PyData.depthAll]
    simp only [List.map_cons, PyData.depthAll]
    omega
theorem prDs_shaped (zs : List (Int × Int)) : SeqAt.shaped (.list (zs.map prD)) = true := by
  have h1 := prDs_depth zs
  have h2 : PyData.depth (.list (zs.map prD)) ≤ 64 := by
    simp only [PyData.depth]
    omega
  show (PyData.canLay0 (.list (zs.map prD)) && decide (PyData.depth (.list (zs.map prD)) ≤ 64)) = true
  rw [Bool.and_eq_true]
  refine ⟨?_, decide_eq_true h2⟩
  simp only [PyData.canLay0]
  exact prDs_lay zs
theorem prD_eqv (n m : Int × Int) : PyData.eqv (prD n) (prD m) = decide (n = m) := by
  have e : PyData.eqv (prD n) (prD m) = ((n.1 == m.1) && ((n.2 == m.2) && true)) := by simp only [prD, PyData.eqv, PyData.eqvAll]
  rw [e, Bool.and_true]
  by_cases h : n = m
  · subst h
    simp
  · rw [decide_eq_false h]
    by_cases h1 : n.1 = m.1
    · by_cases h2 : n.2 = m.2
      · exact absurd (Prod.ext h1 h2) h
      · simp [h2]
    · simp [h1]
theorem prD_any (n : Int × Int) : ∀ zs : List (Int × Int), ((zs.map prD).any fun z => PyData.eqv z (prD n)) = decide (n ∈ zs)
  | [] => rfl
  | z :: r => by
    rw [List.map_cons, List.any_cons, prD_any n r, prD_eqv]
    by_cases h : z = n
    · subst h
      simp
    · have h' : ¬ n = z := fun e => h e.symm
      simp [h, h']
theorem prs_dp {K : PySem.W.Frag} {H : Hp} : ∀ {xs : List V} {ns : List (Int × Int)}, Paired (LtAt H) xs ns → DpAll K H xs (ns.map prD)
  | _, _, .nil => .nil
  | _, _, .cons ⟨a, e1, e⟩ t => by
    subst e1
    exact .cons (.tup (SqT.of e) (.cons (.int _) (.cons (.int _) .nil))) (prs_dp t)
/-- the free letters, and the ways seen, name by name -/
noncomputable def waysGo (E : List (List Ev)) : List Nm → List (Int × Int)
  | [] => []
  | n :: r => (if usedB E n = true then [] else [(n.1, recv E n)]) ++ waysGo E r
theorem ways_snoc (E : List (List Ev)) (n : Nm) : ∀ l : List Nm, waysGo E (l ++ [n]) = waysGo E l ++ (if usedB E n = true then [] else [(n.1, recv E n)])
  | [] => by
    show (if usedB E n = true then [] else [(n.1, recv E n)]) ++ [] = [] ++ _
    rw [List.append_nil, List.nil_append]
  | m :: r => by
    show (if usedB E m = true then [] else [(m.1, recv E m)]) ++ waysGo E (r ++ [n]) = ((if usedB E m = true then [] else [(m.1, recv E m)]) ++ waysGo E r) ++ _
    rw [ways_snoc E n r, List.append_assoc]
theorem free_snoc (E : List (List Ev)) (o : Bool) (n : Nm) : ∀ (ways : List (Int × Int)) (l : List Nm), freeGo E o ways (l ++ [n]) = freeGo E o ways l ++ (if usedB E n = true then [] else (if o = false ∨ (n.1, recv E n) ∉ ways ++ waysGo E l then [(recv E n, n)] else []))
  | ways, [] => by
    show freeGo E o ways [n] = [] ++ _
    unfold freeGo freeGo waysGo
    rw [List.append_nil, List.nil_append]
    split
    · rfl
    · rw [List.append_nil]
  | ways, m :: r => by
    show freeGo E o ways (m :: (r ++ [n])) = _
    unfold freeGo waysGo
    by_cases u : usedB E m = true
    · rw [if_pos u, if_pos u, if_pos u, free_snoc E o n ways r, List.nil_append]
    · rw [if_neg u, if_neg u, if_neg u, free_snoc E o n _ r]
      simp only [List.append_assoc]
def sp_Lfree (K : PySem.W.Frag) : Sp := fun vs H Q _ => ∃ (ρ : Rl) (m : Addr) (c : Co) (sts : List Int) (o : Bool), vs = [.ref m, .bl o] ∧ Wf ρ H ∧ MdIs ρ H m c sts ∧ COk c ∧ (∀ n ∈ c.O, ∃ lt, letAt c.E n = some lt) ∧
  ∀ (q : Addr) (rv : List V) (H' : Hp), H q = none → Same H H' → H' q = some (.lst rv) → Paired (FrAt H') rv (freeL c o) → Q (.ref q) H'
theorem freeGo_len (E : List (List Ev)) (o : Bool) : ∀ (ways : List (Int × Int)) (l : List Nm), (freeGo E o ways l).length ≤ l.length
  | _, [] => Nat.le_refl _
  | ways, m :: r => by
    unfold freeGo
    split
    · have := freeGo_len E o ways r
      rw [List.length_cons]
      omega
    · have := freeGo_len E o (ways ++ [(m.1, recv E m)]) r
      rw [List.length_append, List.length_cons]
      split
      · simp only [List.length_cons, List.length_nil]
        omega
      · simp only [List.length_nil]
        omega
theorem ways_len (E : List (List Ev)) : ∀ (l : List Nm), (waysGo E l).length ≤ l.length
  | [] => Nat.le_refl _
  | m :: r => by
    have := ways_len E r
    unfold waysGo
    rw [List.length_append, List.length_cons]
    split
    · simp only [List.length_nil]
      omega
    · simp only [List.length_cons, List.length_nil]
      omega
section
variable {P : Program} {w : World} {K : PySem.W.Frag} {mg : Str → Option Value} {base : Heap}
theorem scLfree : FnScope ["_law_model", "_law_ordered", "_law_sent_here", "_law_used_here", "_law_found", "_law_ways", "_law_name", "_law_way"] ["_law_model", "_law_ordered"] (defScope sLfree) := ⟨rfl, rfl, rfl, by decide +kernel, rfl, by decide +kernel, by decide +kernel⟩
set_option maxHeartbeats 8000000 in
theorem ok_Lfree (T : Txt K mg) : OK P w K mg base CX0 2 ("_law_free", none) ["_law_model", "_law_ordered"] (sp_Lfree K) := by
  obtain ⟨fdLsent, GLsent, bLsent, kLsent⟩ := (ok_Lsent (P := P) (w := w) (base := base) T).ex
  obtain ⟨fdLused, GLused, bLused, kLused⟩ := (ok_Lused (P := P) (w := w) (base := base) T).ex
  refine OK.mk0 T.f_Lfree scLfree (fun _ _ _ _ _ _ us hl => match us, hl with | [_, _], _ => rfl) (fun vs H Q E h => ?_) (fun cdv A outer s H vs Q E hr h => ?_)
  · obtain ⟨ρ, m, c, sts, o, rfl, _⟩ := h
    rfl
  · obtain ⟨ρ, m, c, sts, o, rfl, wf, ⟨E, O, S, es, ovs, X⟩, ok, hsent, k⟩ := h
    refine ⟨_, (pss_cons (ps_set (i := 2) scLfree.nd rfl (Or.inl rfl) (pe_call GLsent (hr.mono (by decide)) rfl T.g_Lsent kLsent bLsent .nil pass0 (pa_cons (pv 0) pa_nil)))
      (pss_cons (ps_set (i := 3) scLfree.nd rfl (Or.inl rfl) (pe_call GLused (hr.mono (by decide)) rfl T.g_Lused kLused bLused .nil pass0 (pa_cons (pv 0) pa_nil)))
      (pss_cons (ps_set (i := 4) scLfree.nd rfl (Or.inl rfl) (pe_lst pa_nil))
      (pss_cons (ps_set (i := 5) scLfree.nd rfl (Or.inl rfl) (pe_lst pa_nil))
      (pss_cons (ps_for PassesOwn.never rfl (pi_list (pe_dget (hu_of hr) (pv 0) pe_str (fun _ _ => rfl))) (pg_name (i := 6) scLfree.nd rfl (Or.inl rfl)) (pss_one (ps_if (pt_cmp (pc_dnotin (hu_of hr) (pv 6) (pv 3))) (pss_cons (ps_set (i := 7) scLfree.nd rfl (Or.inl rfl) (pe_tup (pa_cons (pe_ix ix_tup (pv 6) pe_int (fun _ _ => rfl)) (pa_cons (pe_ix ix_tup (pe_dget (hu_of hr) (pv 2) (pv 6) (fun _ _ => rfl)) pe_int (fun _ _ => rfl)) pa_nil))))
      (C8.pss_cut (ps_if (PW.pt (pw_or (pt_not (pt_val (pv 1))) (pw_or1 (pt_cmpR (op_notInD (hu65 hr)) (pv 7) (pv 5) (by with_unfolding_all rfl))))) (pss_one (ps_expr (pe_bm PySem.F.plainAttrs_list PySem.F.slot_list_append PySem.F.type_list_append mt_append (pv 4) (pa_cons (pe_tup (pa_cons (pe_ix ix_tup (pe_dget (hu_of hr) (pv 2) (pv 6) (fun _ _ => rfl)) pe_int (fun _ _ => rfl)) (pa_cons (pv 6) pa_nil))) pa_nil)))) pss_nil)
      (pss_one (ps_expr (pe_bm PySem.F.plainAttrs_list PySem.F.slot_list_append PySem.F.type_list_append mt_append (pv 5) (pa_cons (pv 7) pa_nil)))))) pss_nil)))
      (pss_one (ps_ret (pe_callB (cr_sortB alike_fr tup_fr depth_fr (hu65 hr)) (by rfl) T.n_sorted (by decide +kernel) (pa_cons (pv 4) pa_nil))))))))), ?_⟩
    refine ⟨_, rfl, ρ, m, c, sts, rfl, wf, ⟨E, O, S, es, ovs, X⟩, ok, fun qS kvs H1 hqS s1 eS sk => ?_⟩
    have wf1 : Wf ρ H1 := fun b e => wf b (s1.free e)
    refine ⟨_, rfl, ρ, m, c, sts, rfl, wf1, ⟨E, O, S, es, ovs, X.same wf s1⟩, ok, fun qU H2 hqU s2 eU => ?_⟩
    have s12 := s1.trans s2
    refine ⟨Nat.zero_le _, fun qF hqF => ⟨Nat.zero_le _, fun qW hqW => ?_⟩⟩
    have s3 := same_upd (o := .lst []) hqF
    have s4 := same_upd (o := .lst []) hqW
    have s24 := s3.trans s4
    have s04 := s12.trans s24
    have nFW : qF ≠ qW := ne_of_none upd_same hqW
    have hqF2 : H2 qF = none := hqF
    have hqW2 : H2 qW = none := s3.free hqW
    have podl : ovs.length = c.O.length := paired_len X.od
    refine ⟨_, rfl, m, _, rfl, md_gO X s04, O, rfl, ⟨_, SqL.of (s04 _ _ X.or.at_)⟩, ?_⟩
    refine for_list (K := K) (a := O) (xs := ovs) (fun j σ G => ∃ (fv wv : List V) (v6 v7 : Option V), σ = [some (.ref m), some (.bl o), some (.ref qS), some (.ref qU), some (.ref qF), some (.ref qW), v6, v7] ∧ Same H2 G ∧ G qF = some (.lst fv) ∧ G qW = some (.lst wv) ∧
        Paired (FrAt G) fv (freeGo c.E o [] (c.O.take j)) ∧ Paired (LtAt G) wv (waysGo c.E (c.O.take j)))
      ⟨[], [], none, none, rfl, s24, s4 _ _ upd_same, upd_same, .nil, .nil⟩ (fun j σ G _ hw => ?_) (fun j x σ G hx hw => ?_) (fun σ G hw => ?_)
    · obtain ⟨_, _, _, _, _, z, _⟩ := hw
      exact SqL.of (z _ _ (s12 _ _ X.or.at_))
    · obtain ⟨fv, wv, v6, v7, rfl, sG, gF, gW, pF, pW⟩ := hw
      obtain ⟨n, hn, na, rfl, hna⟩ := paired_at' X.od hx
      have sHG := s12.trans sG
      have hnaG : G na = some (.tup ((nmK n).map kV)) := sHG _ _ hna
      have hjl : j < c.O.length := (List.getElem?_eq_some_iff.mp hn).1
      have hO150 := ok.ord
      refine ⟨_, rfl, _, rfl, qU, _, rfl, DGet.t (sG _ _ eU) hnaG, ?_⟩
      rw [usedKV_look]
      rw [take_snoc hn, free_snoc, ways_snoc, List.nil_append]
      cases hu : lookU (usedAll [] c.E) n with
      | some u =>
        have ub : usedB c.E n = true := by
          unfold usedB
          rw [hu]
          rfl
        refine ⟨_, rfl, iteF ⟨fv, wv, _, v7, rfl, sG, gF, gW, ?_, ?_⟩⟩
        · rw [if_pos ub, List.append_nil]
          exact pF
        · rw [if_pos ub, List.append_nil]
          exact pW
      | none =>
        have ub : usedB c.E n = false := by
          unfold usedB
          rw [hu]
          rfl
        have ub' : ¬ usedB c.E n = true := by rw [ub]; exact Bool.false_ne_true
        rw [if_neg ub', if_neg ub']
        obtain ⟨⟨lh, lw⟩, hlt⟩ := hsent n (List.mem_of_getElem? hn)
        have hrecv : recv c.E n = lh := by
          unfold recv
          rw [hlt]
          rfl
        rw [hrecv]
        have skG := (sk.tk (tk_same s2)).tk (tk_same sG)
        obtain ⟨lv, lt', hv, hl', hla⟩ : ∃ v lt, valV kvs (nmK n) = some v ∧ lookS (sentAll 0 c.E) n = some lt ∧ LtAt G v lt := by
          rcases skG.look (n := n) with z | ⟨_, z⟩
          · exact z
          · rw [lookS_all, hlt] at z
            cases z
        rw [lookS_all, hlt] at hl'
        cases hl'
        obtain ⟨la, rfl, hla⟩ := hla
        have g : DGet G qS (.ref na) (some (.ref la)) := by
          rw [← hv]
          exact DGet.t (sG _ _ (s2 _ _ eS)) hnaG
        refine ⟨_, rfl, iteT ⟨_, rfl, na, _, _, _, rfl, rfl, SqT.of hnaG, rfl, _, rfl, _, rfl, qS, _, rfl, g, la, _, _, _, rfl, rfl, SqT.of hla, rfl, (by show 2 ≤ sizeLine; decide), fun t ht => ?_⟩⟩
        have st := same_upd (o := .tup [.int n.1, .int lh]) ht
        obtain ⟨G1, eG1⟩ : ∃ G1, G1 = upd G t (.tup [.int n.1, .int lh]) := ⟨_, rfl⟩
        have gt : G1 t = some (.tup [.int n.1, .int lh]) := by rw [eG1, upd_same]
        rw [← eG1] at st
        have sG1 := sG.trans st
        have gF1 := st _ _ gF
        have gW1 := st _ _ gW
        have pF1 := Paired.tkF pF (tk_same st)
        have pW1 := Paired.tkL pW (tk_same st)
        have hna1 := st _ _ hnaG
        have hla1 := st _ _ hla
        have g1 : DGet G1 qS (.ref na) (some (.ref la)) := by
          rw [← hv]
          exact DGet.t (sG1 _ _ (s2 _ _ eS)) hna1
        have lF : fv.length < sizeLine := small6 (by
          rw [paired_len pF]
          have h1 := freeGo_len c.E o [] (c.O.take j)
          have h2 := List.length_take_le' j c.O
          omega)
        have lW : wv.length < sizeLine := small6 (by
          rw [paired_len pW]
          have h1 := ways_len c.E (c.O.take j)
          have h2 := List.length_take_le' j c.O
          omega)
        refine eG1 ▸ ⟨fun σ' G' => ∃ fv', σ' = [some (.ref m), some (.bl o), some (.ref qS), some (.ref qU), some (.ref qF), some (.ref qW), some (.ref na), some (.ref t)] ∧ Same H2 G' ∧ G' qF = some (.lst fv') ∧ G' qW = some (.lst wv) ∧ G' t = some (.tup [.int n.1, .int lh]) ∧
            Paired (FrAt G') fv' (freeGo c.E o [] (c.O.take j) ++ (if o = false ∨ (n.1, lh) ∉ waysGo c.E (c.O.take j) then [(lh, n)] else [])) ∧ Paired (LtAt G') wv (waysGo c.E (c.O.take j)), ?_, ?_⟩
        · -- the letter is free, or stands behind another one
          have yes : ∀ cnd : o = false ∨ (n.1, lh) ∉ waysGo c.E (c.O.take j), ∀ (t2 : Addr), G1 t2 = none → ∃ fv', [some (V.ref m), some (.bl o), some (.ref qS), some (.ref qU), some (.ref qF), some (.ref qW), some (.ref na), some (.ref t)] = [some (.ref m), some (.bl o), some (.ref qS), some (.ref qU), some (.ref qF), some (.ref qW), some (.ref na), some (.ref t)] ∧
              Same H2 (upd (upd G1 t2 (.tup [.int lh, .ref na])) qF (.lst (fv ++ [.ref t2]))) ∧ upd (upd G1 t2 (.tup [.int lh, .ref na])) qF (.lst (fv ++ [.ref t2])) qF = some (.lst fv') ∧ upd (upd G1 t2 (.tup [.int lh, .ref na])) qF (.lst (fv ++ [.ref t2])) qW = some (.lst wv) ∧
              upd (upd G1 t2 (.tup [.int lh, .ref na])) qF (.lst (fv ++ [.ref t2])) t = some (.tup [.int n.1, .int lh]) ∧
              Paired (FrAt (upd (upd G1 t2 (.tup [.int lh, .ref na])) qF (.lst (fv ++ [.ref t2])))) fv' (freeGo c.E o [] (c.O.take j) ++ (if o = false ∨ (n.1, lh) ∉ waysGo c.E (c.O.take j) then [(lh, n)] else [])) ∧ Paired (LtAt (upd (upd G1 t2 (.tup [.int lh, .ref na])) qF (.lst (fv ++ [.ref t2])))) wv (waysGo c.E (c.O.take j)) := fun cnd t2 ht2 => by
            have sn := same_upd (o := .tup [.int lh, .ref na]) ht2
            have gF2 := sn _ _ gF1
            have tk2 : TupK G1 (upd (upd G1 t2 (.tup [.int lh, .ref na])) qF (.lst (fv ++ [.ref t2]))) := fun b zs e => (upd_ne (ne_of (sn _ _ e) gF2 (by intro z; cases z))).trans (sn _ _ e)
            have ntF : t2 ≠ qF := (ne_of_none gF1 ht2).symm
            refine ⟨fv ++ [.ref t2], rfl, fun b o e => ?_, upd_same, ?_, tk2 _ _ gt, ?_, Paired.tkL pW1 tk2⟩
            · rw [upd_ne (ne_of_none e hqF2)]
              exact sn b o (sG1 b o e)
            · rw [upd_ne nFW.symm]
              exact sn _ _ gW1
            · rw [if_pos cnd]
              exact paired_snoc (R := FrAt _) (show FrAt (upd (upd G1 t2 (.tup [.int lh, .ref na])) qF (.lst (fv ++ [.ref t2]))) (.ref t2) (lh, n) from ⟨.ref na, ⟨na, rfl, tk2 _ _ hna1⟩, t2, rfl, (upd_ne ntF).trans upd_same⟩) (Paired.tkF pF1 tk2)
          have no : ¬ (o = false ∨ (n.1, lh) ∉ waysGo c.E (c.O.take j)) → ∃ fv', [some (V.ref m), some (.bl o), some (.ref qS), some (.ref qU), some (.ref qF), some (.ref qW), some (.ref na), some (.ref t)] = [some (.ref m), some (.bl o), some (.ref qS), some (.ref qU), some (.ref qF), some (.ref qW), some (.ref na), some (.ref t)] ∧
              Same H2 G1 ∧ G1 qF = some (.lst fv') ∧ G1 qW = some (.lst wv) ∧ G1 t = some (.tup [.int n.1, .int lh]) ∧
              Paired (FrAt G1) fv' (freeGo c.E o [] (c.O.take j) ++ (if o = false ∨ (n.1, lh) ∉ waysGo c.E (c.O.take j) then [(lh, n)] else [])) ∧ Paired (LtAt G1) wv (waysGo c.E (c.O.take j)) := fun cnd => by
            refine ⟨fv, rfl, sG1, gF1, gW1, gt, ?_, pW1⟩
            rw [if_neg cnd, List.append_nil]
            exact pF1
          cases o with
          | false =>
            refine ⟨_, rfl, _, rfl, iteT (iteT ⟨_, rfl, .inl ⟨rfl, _, SqL.of gF1⟩, _, rfl, _, rfl, qS, _, rfl, g1, la, _, _, _, rfl, rfl, SqT.of hla1, rfl, _, rfl, (by show 2 ≤ sizeLine; decide), fun t2 ht2 => ?_⟩)⟩
            exact ⟨qF, _, _, rfl, rfl, (same_upd ht2) _ _ gF1, lF, yes (.inl rfl) t2 ht2⟩
          | true =>
            refine ⟨_, rfl, _, rfl, iteF ⟨_, rfl, _, rfl, prD (n.1, lh), _, .tup (SqT.of gt) (.cons (.int _) (.cons (.int _) .nil)), .lst (SqL.of gW1) (prs_dp pW1), prD_shaped _, prDs_shaped _, ?_⟩⟩
            rw [prD_any]
            by_cases hin : (n.1, lh) ∈ waysGo c.E (c.O.take j)
            · rw [decide_eq_true hin]
              refine ⟨_, rfl, iteF (no ?_)⟩
              rintro (z | z)
              · cases z
              · exact z hin
            · rw [decide_eq_false hin]
              refine ⟨_, rfl, iteT ⟨_, rfl, .inl ⟨rfl, _, SqL.of gF1⟩, _, rfl, _, rfl, qS, _, rfl, g1, la, _, _, _, rfl, rfl, SqT.of hla1, rfl, _, rfl, (by show 2 ≤ sizeLine; decide), fun t2 ht2 => ?_⟩⟩
              exact ⟨qF, _, _, rfl, rfl, (same_upd ht2) _ _ gF1, lF, yes (.inr hin) t2 ht2⟩
        · rintro σ' G' ⟨fv', rfl, sG', gF', gW', gt', pF', pW'⟩
          have tk3 : TupK G' (upd G' qW (.lst (wv ++ [.ref t]))) := fun b zs e => (upd_ne (ne_of e gW' (by intro z; cases z))).trans e
          refine ⟨_, rfl, .inl ⟨rfl, _, SqL.of gW'⟩, _, rfl, qW, _, _, rfl, rfl, gW', lW, fv', wv ++ [.ref t], _, _, rfl, fun b o e => ?_, (upd_ne nFW).trans gF', upd_same, Paired.tkF pF' tk3, paired_snoc (R := LtAt _) ⟨t, rfl, tk3 _ _ gt'⟩ (Paired.tkL pW' tk3)⟩
          rw [upd_ne (ne_of_none e hqW2)]
          exact sG' b o e
    · obtain ⟨fv, wv, v6, v7, rfl, sG, gF, gW, pF, pW⟩ := hw
      rw [podl, List.take_length] at pF
      have hz : (freeGo c.E o [] c.O).length ≤ sizeLine := by
        have h1 := freeGo_len c.E o [] c.O
        have := ok.ord
        have := sizeLine_eq
        omega
      refine ⟨_, rfl, qF, fv, _, FrAt G, rfl, SqL.of gF, pF, fun x n h => fr_dp h, hz, fun ys r hr pr2 => ?_⟩
      have s5 : Same G (upd G r (.lst ys)) := same_upd hr
      exact k r ys _ (s12.free (sG.free hr)) ((s12.trans sG).trans s5) upd_same (Paired.tkF pr2 (tk_same s5))
end
end Bk
set_option Elab.async false
set_option linter.all false
set_option maxRecDepth 100000
set_option maxHeartbeats 4000000
/-! What may be done; the model follows. -/
namespace Bk
open PySem PySem.Spec PyProof.Rows L2
noncomputable def optL (c : Co) (o : Bool) : List Row := (freeL c o).map (fun f => Row.use f.1 f.2) ++ (List.range c.E.length).map (fun k => Row.own ((k : Nat) : Int)) ++ (List.range c.E.length).map (fun k => Row.write ((k : Nat) : Int))
theorem freeL_len (c : Co) (o : Bool) : (freeL c o).length ≤ c.O.length := by
  unfold freeL
  rw [List.length_mergeSort]
  exact freeGo_len _ _ _ _
def sp_Loptions (K : PySem.W.Frag) : Sp := fun vs H Q _ => ∃ (ρ : Rl) (m : Addr) (c : Co) (sts : List Int) (o : Bool), vs = [.ref m, .bl o] ∧ Wf ρ H ∧ MdIs ρ H m c sts ∧ COk c ∧ (∀ n ∈ c.O, ∃ lt, letAt c.E n = some lt) ∧
  ∀ (q : Addr) (rv : List V) (H' : Hp), H q = none → Same H H' → H' q = some (.lst rv) → Paired (RowAt H') rv (optL c o) → Q (.ref q) H'
theorem Paired.tkR {H H' : Hp} {xs : List V} {rs : List Row} (p : Paired (RowAt H) xs rs) (k : TupK H H') : Paired (RowAt H') xs rs := Paired.imp p fun _ _ z => z.tk k
theorem paired_app {α β : Type} {R : α → β → Prop} : ∀ {xs : List α} {ys : List β} {xs' : List α} {ys' : List β}, Paired R xs ys → Paired R xs' ys' → Paired R (xs ++ xs') (ys ++ ys')
  | _, _, _, _, .nil, q => q
  | _, _, _, _, .cons r p, q => .cons r (paired_app p q)
section
variable {ρ ρ' : Rl} {H H' : Hp} {m E O S : Addr} {c : Co} {sts : List Int} {es : List Addr} {ovs : List V}
theorem MdAt.pushEv (x : MdAt ρ H m c sts E O S es ovs) (wf : Wf ρ H) {i : Nat} {a : Addr} {vs : List V} {v : V} {e : Ev} (hi : i < c.E.length) (ha : es[i]? = some a) (ho : Own ρ H a (.mi i) (.lst vs)) (pe : Paired (MevAt ρ H) vs (c.evs i)) (hv : MevAt ρ H v e) :
    Step MM ρ H ρ (upd H a (.lst (vs ++ [v]))) ∧ MdAt ρ (upd H a (.lst (vs ++ [v]))) m ⟨c.E.set i (c.evs i ++ [e]), c.O⟩ sts E O S es ovs := by
  have s : Step (fun r => r = .mi i) ρ H ρ (upd H a (.lst (vs ++ [v]))) := Step.write wf ho.at_ ho.role fun z => z
  refine ⟨s.mono fun r z => .inr (.inr (.inr ⟨i, z⟩)), x.ob.step s (by intro z; cases z), x.ev.step s (by intro z; cases z), ?_, fun j b xs h1 h2 => ?_, x.or.step s (by intro z; cases z), Paired.tkN x.od s.tk, x.st.step s (by intro z; cases z)⟩
  · show es.length = (c.E.set i _).length
    rw [List.length_set]
    exact x.len
  · by_cases c1 : j = i
    · subst c1
      rw [ha] at h1
      cases h1
      have h2 : (c.E.set j (c.evs j ++ [e]))[j]? = some xs := h2
      rw [List.getElem?_set_self hi] at h2
      cases h2
      exact ⟨_, ⟨ho.role, upd_same⟩, paired_snoc (hv.step s (by intro z; cases z)) (Paired.imp pe fun _ _ z => z.step s (by intro z; cases z))⟩
    · have h2 : (c.E.set i (c.evs i ++ [e]))[j]? = some xs := h2
      rw [List.getElem?_set_ne (fun z => c1 z.symm)] at h2
      obtain ⟨us, h3, h4⟩ := x.row j b xs h1 h2
      exact ⟨us, h3.step s (by intro z; cases z; exact c1 rfl), Paired.imp h4 fun _ _ z => z.step s (by intro z; cases z)⟩
theorem MdAt.pushOr (x : MdAt ρ H m c sts E O S es ovs) (wf : Wf ρ H) {v : V} {n : Nm} (h : NmAt H v n) :
    Step MM ρ H ρ (upd H O (.lst (ovs ++ [v]))) ∧ MdAt ρ (upd H O (.lst (ovs ++ [v]))) m ⟨c.E, c.O ++ [n]⟩ sts E O S es (ovs ++ [v]) := by
  have s : Step (fun r => r = .mo) ρ H ρ (upd H O (.lst (ovs ++ [v]))) := Step.write wf x.or.at_ x.or.role fun z => z
  exact ⟨s.mono fun r z => .inr (.inr (.inl z)), x.ob.step s (by intro z; cases z), x.ev.step s (by intro z; cases z), x.len, fun j b xs h1 h2 => by
      obtain ⟨us, h3, h4⟩ := x.row j b xs h1 h2
      exact ⟨us, h3.step s (by intro z; cases z), Paired.imp h4 fun _ _ z => z.step s (by intro z; cases z)⟩, ⟨x.or.role, upd_same⟩, paired_snoc (R := NmAt _) (h.tk s.tk) (Paired.tkN x.od s.tk), x.st.step s (by intro z; cases z)⟩
end
def sp_Lfollow (K : PySem.W.Frag) : Sp := fun vs H Q _ => ∃ (ρ : Rl) (m f : Addr) (rv : V) (r : Row) (c : Co) (sts : List Int) (d : DP) (i : Nat), vs = [.ref m, .ref f, rv] ∧ Wf ρ H ∧ RowAt H rv r ∧ MdIs ρ H m c sts ∧ CloAt ρ H f d ∧ COk c ∧ c.O.length ≤ 140 ∧ (∀ es ∈ c.E, es.length ≤ 40) ∧
  c.E.length = sts.length ∧ r.hand = (i : Nat) ∧ i < sts.length ∧ (∀ h n, r = .use h n → ∃ lt, letAt c.E n = some lt) ∧
  ∀ (ρ' : Rl) (H' : Hp), Step MM ρ H ρ' H' → MdIs ρ' H' m (c.step d sts r) sts → Q .non H'
section
variable {P : Program} {w : World} {K : PySem.W.Frag} {mg : Str → Option Value} {base : Heap}
theorem scLoptions : FnScope ["_law_model", "_law_ordered", "_law_many", "_law_found", "_law_hand", "_law_name"] ["_law_model", "_law_ordered"] (defScope sLoptions) := ⟨rfl, rfl, rfl, by decide +kernel, rfl, by decide +kernel, by decide +kernel⟩
set_option maxHeartbeats 8000000 in
theorem ok_Loptions (T : Txt K mg) : OK P w K mg base CX0 3 ("_law_options", none) ["_law_model", "_law_ordered"] (sp_Loptions K) := by
  obtain ⟨fdLfree, GLfree, bLfree, kLfree⟩ := (ok_Lfree (P := P) (w := w) (base := base) T).ex
  refine OK.mk0 T.f_Loptions scLoptions (fun _ _ _ _ _ _ us hl => match us, hl with | [_, _], _ => rfl) (fun vs H Q E h => ?_) (fun cdv A outer s H vs Q E hr h => ?_)
  · obtain ⟨ρ, m, c, sts, o, rfl, _⟩ := h
    rfl
  · obtain ⟨ρ, m, c, sts, o, rfl, wf, ⟨E, O, S, es, ovs, X⟩, ok, hsent, k⟩ := h
    have hm5 := ok.many
    have les : es.length = c.E.length := X.len
    have lfr := freeL_len c o
    have lO := ok.ord
    refine ⟨_, (pss_cons (ps_set (i := 2) scLoptions.nd rfl (Or.inl rfl) (pe_callB call_len_seq (by rfl) T.n_len PySem.boot_len (pa_cons (pe_dget (hu_of hr) (pv 0) pe_str (fun _ _ => rfl)) pa_nil)))
      (pss_cons (ps_setLc (own := [("_law_hand", 4), ("_law_name", 5)]) (i := 3) rfl scLoptions.nd rfl rfl (sw_true rfl rfl rfl (by decide +kernel)) (pi_list (pe_call GLfree (hr.mono (by decide)) rfl T.g_Lfree kLfree bLfree .nil pass0 (pa_cons (pv 0) (pa_cons (pv 1) pa_nil)))) (blkOk_by (N := ["_law_model", "_law_ordered", "_law_many", "_law_found", "_law_hand", "_law_name"]) (sc := defScope sLoptions) (by decide +kernel)) (fun _ _ _ _ _ => (pg_tupK (K := K) (n := 2) rfl rfl (pgs_cons (pg_name (i := 4) scLoptions.nd rfl (Or.inl rfl) (Or.inr rfl)) (pgs_cons (pg_name (i := 5) scLoptions.nd rfl (Or.inl rfl) (Or.inr rfl)) pgs_nil)))) (fun _ _ _ _ _ => pts_nil) (fun _ _ _ _ _ => (pe_tup (pa_cons pe_str (pa_cons (pv 4) (pa_cons (pv 5) pa_nil))))))
      (pss_one (ps_ret (pe_op op_cat (pe_op op_cat (pv 3) (pe_lc (own := [("_law_hand", 4)]) rfl scLoptions.nd (pi_range1 rfl T.n_range (pa_cons (pv 2) pa_nil)) (blkOk_by (N := ["_law_model", "_law_ordered", "_law_many", "_law_found", "_law_hand", "_law_name"]) (sc := defScope sLoptions) (by decide +kernel)) (fun _ _ _ _ _ => (pg_name (i := 4) scLoptions.nd rfl (Or.inl rfl) (Or.inr rfl))) (fun _ _ _ _ _ => pts_nil) (fun _ _ _ _ _ => (pe_tup (pa_cons pe_str (pa_cons (pv 4) pa_nil)))))) (pe_lc (own := [("_law_hand", 4)]) rfl scLoptions.nd (pi_range1 rfl T.n_range (pa_cons (pv 2) pa_nil)) (blkOk_by (N := ["_law_model", "_law_ordered", "_law_many", "_law_found", "_law_hand", "_law_name"]) (sc := defScope sLoptions) (by decide +kernel)) (fun _ _ _ _ _ => (pg_name (i := 4) scLoptions.nd rfl (Or.inl rfl) (Or.inr rfl))) (fun _ _ _ _ _ => pts_nil) (fun _ _ _ _ _ => (pe_tup (pa_cons pe_str (pa_cons (pv 4) pa_nil)))))))))), ?_⟩
    refine ⟨_, rfl, m, _, rfl, md_gE X (Same.refl _), E, _, rfl, .inl (SqL.of X.ev.at_), ?_⟩
    rw [List.length_map, les]
    refine ⟨_, rfl, _, rfl, ρ, m, c, sts, o, rfl, wf, ⟨E, O, S, es, ovs, X⟩, ok, hsent, fun qF fv H1 hqF s1 eF pF => ?_⟩
    refine ⟨qF, rfl, ⟨_, SqL.of eF⟩, fun D hD => ?_⟩
    have nFD : qF ≠ D := ne_of_none eF hD
    refine lc_list (K := K) (a := qF) (xs := fv) (fun j G => ∃ rv, Same H1 G ∧ G D = some (.lst rv) ∧ Paired (RowAt G) rv (((freeL c o).take j).map fun f => Row.use f.1 f.2)) ⟨[], same_upd hD, upd_same, .nil⟩ (fun j G _ e => ?_) (fun j x G hx e => ?_) (fun G e => ?_)
    · obtain ⟨rv, sG, _⟩ := e
      exact SqL.of (sG _ _ eF)
    · obtain ⟨rv, sG, gD, pr⟩ := e
      obtain ⟨⟨fh, fn⟩, hf, hfx⟩ := paired_at' pF hx
      obtain ⟨nv, hnv, t, rfl, ht⟩ := hfx.tk (tk_same sG)
      refine ⟨t, _, rfl, SqT.of ht, rfl, _, _, rfl, _, _, rfl, rfl, rfl, _, rfl, _, rfl, (by show 3 ≤ sizeLine; decide), fun u hu => ⟨rv, (upd_ne (ne_of_none gD hu)).trans gD, small6 ?_, ?_⟩⟩
      · rw [paired_len pr, List.length_map]
        have := List.length_take_le' j (freeL c o)
        omega
      · have su := same_upd (o := .tup [.str "use", .int fh, nv]) hu
        have nDu : D ≠ u := ne_of_none gD hu
        have tk : TupK G (upd (upd G u (.tup [.str "use", .int fh, nv])) D (.lst (rv ++ [.ref u]))) := fun b zs e => (upd_ne (ne_of (su _ _ e) (su _ _ gD) (by intro z; cases z))).trans (su _ _ e)
        refine ⟨rv ++ [.ref u], fun b o e => ?_, upd_same, ?_⟩
        · rw [upd_ne (ne_of_none e hD)]
          exact su b o (sG b o e)
        · rw [take_snoc hf, List.map_append]
          exact paired_snoc (R := RowAt _) (show RowAt (upd (upd G u (.tup [.str "use", .int fh, nv])) D (.lst (rv ++ [.ref u]))) (.ref u) (.use fh fn) from ⟨nv, hnv.tk tk, u, rfl, (upd_ne nDu.symm).trans upd_same⟩) (Paired.tkR pr tk)
    · obtain ⟨rv, sG, gD, pr⟩ := e
      rw [paired_len pF, List.take_length] at pr
      have lrv : rv.length ≤ 150 := by
        rw [paired_len pr, List.length_map]
        omega
      refine ⟨_, rfl, _, rfl, _, rfl, by omega, by omega, fun D2 hD2 => ?_⟩
      have rng : ∀ (w : Str) (mk : Int → Row) (hmk : ∀ (G : Hp) (u : Addr) (h : Int), G u = some (.tup [.str w, .int h]) → RowAt G (.ref u) (mk h)) (G0 : Hp) (D0 : Addr) (Qd : Hp → Prop), G0 D0 = none →
          (∀ (G1 : Hp) (rv : List V), Same G0 G1 → G1 D0 = some (.lst rv) → Paired (RowAt G1) rv ((List.range c.E.length).map fun k => mk ((k : Nat) : Int)) → Qd G1) →
          (∀ j G, j ≤ c.E.length → (∃ rv, Same G0 G ∧ G D0 = some (.lst rv) ∧ Paired (RowAt G) rv ((List.range j).map fun k => mk ((k : Nat) : Int))) → ∀ u, G u = none → ∃ acc, upd G u (.tup [.str w, .int (0 + (j : Nat))]) D0 = some (.lst acc) ∧ acc.length < sizeLine ∧
            ∃ rv, Same G0 (upd (upd G u (.tup [.str w, .int (0 + (j : Nat))])) D0 (.lst (acc ++ [.ref u]))) ∧ upd (upd G u (.tup [.str w, .int (0 + (j : Nat))])) D0 (.lst (acc ++ [.ref u])) D0 = some (.lst rv) ∧ Paired (RowAt (upd (upd G u (.tup [.str w, .int (0 + (j : Nat))])) D0 (.lst (acc ++ [.ref u])))) rv ((List.range (j + 1)).map fun k => mk ((k : Nat) : Int))) := by
        rintro w mk hmk G0 D0 Qd hD0 _ j G hj ⟨rv, sG, gD, pr⟩ u hu
        have su := same_upd (o := .tup [.str w, .int (0 + (j : Nat))]) hu
        have nDu : D0 ≠ u := ne_of_none gD hu
        have tk : TupK G (upd (upd G u (.tup [.str w, .int (0 + (j : Nat))])) D0 (.lst (rv ++ [.ref u]))) := fun b zs e => (upd_ne (ne_of (su _ _ e) (su _ _ gD) (by intro z; cases z))).trans (su _ _ e)
        refine ⟨rv, (upd_ne nDu).trans gD, small6 ?_, rv ++ [.ref u], fun b o e => ?_, upd_same, ?_⟩
        · rw [paired_len pr, List.length_map, List.length_range]
          omega
        · rw [upd_ne (ne_of_none e hD0)]
          exact su b o (sG b o e)
        · rw [List.range_succ, List.map_append]
          refine paired_snoc (R := RowAt _) (hmk _ u _ ?_) (Paired.tkR pr tk)
          rw [upd_ne nDu.symm, upd_same, Int.zero_add]
      refine lc_range (lo := 0) (n := ((c.E.length : Nat) : Int).toNat) (fun j G2 => ∃ rv2, Same G G2 ∧ G2 D2 = some (.lst rv2) ∧ Paired (RowAt G2) rv2 ((List.range j).map fun k => Row.own ((k : Nat) : Int))) ⟨[], same_upd hD2, upd_same, .nil⟩ (fun j G2 hj e => ?_) (fun G2 e => ?_)
      · refine ⟨rfl, _, rfl, (by show 2 ≤ sizeLine; decide), fun u hu => ?_⟩
        exact rng "own" Row.own (fun _ u _ h => ⟨u, rfl, h⟩) G D2 (fun _ => True) hD2 (fun _ _ _ _ _ => trivial) j G2 (by omega) e u hu
      · obtain ⟨rv2, sG2, gD2, pr2⟩ := e
        rw [Int.toNat_natCast] at pr2
        have lrv2 : rv2.length ≤ 5 := by
          rw [paired_len pr2, List.length_map, List.length_range]
          omega
        have gDD := sG2 _ _ gD
        refine ⟨D, D2, _, _, rfl, rfl, gDD, gD2, by have := sizeLine_eq; omega, fun q1 hq1 => ?_⟩
        have s3 := same_upd (o := .lst (rv ++ rv2)) hq1
        refine ⟨_, rfl, _, rfl, by omega, by omega, fun D3 hD3 => ?_⟩
        refine lc_range (lo := 0) (n := ((c.E.length : Nat) : Int).toNat) (fun j G3 => ∃ rv3, Same (upd G2 q1 (.lst (rv ++ rv2))) G3 ∧ G3 D3 = some (.lst rv3) ∧ Paired (RowAt G3) rv3 ((List.range j).map fun k => Row.write ((k : Nat) : Int))) ⟨[], same_upd hD3, upd_same, .nil⟩ (fun j G3 hj e => ?_) (fun G3 e => ?_)
        · refine ⟨rfl, _, rfl, (by show 2 ≤ sizeLine; decide), fun u hu => ?_⟩
          exact rng "write" Row.write (fun _ u _ h => ⟨u, rfl, h⟩) _ D3 (fun _ => True) hD3 (fun _ _ _ _ _ => trivial) j G3 (by omega) e u hu
        · obtain ⟨rv3, sG3, gD3, pr3⟩ := e
          rw [Int.toNat_natCast] at pr3
          have lrv3 : rv3.length ≤ 5 := by
            rw [paired_len pr3, List.length_map, List.length_range]
            omega
          have gq1 := sG3 _ _ (show upd G2 q1 (.lst (rv ++ rv2)) q1 = _ from upd_same)
          refine ⟨q1, D3, _, _, rfl, rfl, gq1, gD3, by rw [List.length_append]; have := sizeLine_eq; omega, fun q2 hq2 => ?_⟩
          have s4 := same_upd (o := .lst ((rv ++ rv2) ++ rv3)) hq2
          have sA := sG2.trans (s3.trans (sG3.trans s4))
          have sB := s3.trans (sG3.trans s4)
          refine k q2 _ _ (s1.free (sG.free (sG2.free (s3.free (sG3.free hq2))))) (s1.trans (sG.trans sA)) upd_same ?_
          exact paired_app (paired_app (Paired.tkR pr (tk_same sA)) (Paired.tkR pr2 (tk_same sB))) (Paired.tkR pr3 (tk_same s4))
end
end Bk
set_option Elab.async false
set_option linter.all false
set_option maxRecDepth 100000
set_option maxHeartbeats 4000000
/-! The model follows a row; the model goes back to a line. -/
namespace Bk
open PySem PySem.Spec PyProof.Rows L2
def cutN2 (line : List Int) (E : List (List Ev)) (j : Nat) : List (List Ev) := E.mapIdx fun i es => if i < j then es.take (line.getD i 0).toNat else es
theorem cutN2_zero (line : List Int) (E : List (List Ev)) : cutN2 line E 0 = E := by
  apply List.ext_getElem?
  intro i
  unfold cutN2
  rw [List.getElem?_mapIdx]
  cases E[i]? <;> rfl
theorem cutN2_at {line : List Int} {E : List (List Ev)} {j : Nat} : (cutN2 line E j)[j]? = E[j]? := by
  unfold cutN2
  rw [List.getElem?_mapIdx]
  cases E[j]? with
  | none => rfl
  | some x =>
    show some (if j < j then _ else x) = _
    rw [if_neg (Nat.lt_irrefl j)]
theorem cutN2_set {line : List Int} {E : List (List Ev)} {j : Nat} {es : List Ev} (h : E[j]? = some es) : (cutN2 line E j).set j (es.take (line.getD j 0).toNat) = cutN2 line E (j + 1) := by
  apply List.ext_getElem?
  intro i
  unfold cutN2
  rw [List.getElem?_set, List.length_mapIdx]
  have hj := (List.getElem?_eq_some_iff.mp h).1
  by_cases e : j = i
  · subst e
    rw [if_pos rfl, if_pos hj, List.getElem?_mapIdx, h]
    show _ = some (if j < j + 1 then _ else _)
    rw [if_pos (Nat.lt_succ_self j)]
  · rw [if_neg e, List.getElem?_mapIdx, List.getElem?_mapIdx]
    congr 1
    funext u
    by_cases q : i < j
    · rw [if_pos q, if_pos (by omega)]
    · rw [if_neg q, if_neg (by omega)]
theorem cutN2_all {line : List Int} {E : List (List Ev)} : cutN2 line E E.length = cutE line E := by
  apply List.ext_getElem?
  intro i
  unfold cutN2 cutE
  rw [List.getElem?_mapIdx, List.getElem?_mapIdx]
  cases h : E[i]? with
  | none => rfl
  | some x =>
    show some (if i < E.length then _ else x) = _
    rw [if_pos (List.getElem?_eq_some_iff.mp h).1]
    rfl
theorem cutN2_len {line : List Int} {E : List (List Ev)} {j : Nat} : (cutN2 line E j).length = E.length := by
  unfold cutN2
  rw [List.length_mapIdx]
def sp_Lcut (K : PySem.W.Frag) : Sp := fun vs H Q _ => ∃ (ρ : Rl) (m ll : Addr) (c : Co) (sts line : List Int), vs = [.ref m, .ref ll] ∧ Wf ρ H ∧ MdIs ρ H m c sts ∧ COk c ∧ H ll = some (.lst (line.map V.int)) ∧ ρ ll = .no ∧ line.length = c.E.length ∧
  (∀ i, i < c.E.length → 0 ≤ line.getD i 0) ∧ (∀ n ∈ c.O, ∃ i : Nat, n.1 = (i : Nat) ∧ i < c.E.length) ∧
  ∀ (ρ' : Rl) (H' : Hp), Step MM ρ H ρ' H' → MdIs ρ' H' m (cutC line c) sts → Q .non H'
theorem row_first {H : Hp} {v : V} : ∀ {r : Row}, RowAt H v r → ∃ (a : Addr) (xs : List V) (w : Str), v = .ref a ∧ H a = some (.tup xs) ∧ atI xs 0 = some (.str w) ∧ atI xs 1 = some (.int r.hand) ∧ w = (match r with | .own _ => "own" | .use _ _ => "use" | .write _ => "write")
  | .own h, ⟨a, e, h1⟩ => ⟨a, _, _, e, h1, rfl, rfl, rfl⟩
  | .use h n, ⟨nv, _, a, e, h1⟩ => ⟨a, _, _, e, h1, rfl, rfl, rfl⟩
  | .write h, ⟨a, e, h1⟩ => ⟨a, _, _, e, h1, rfl, rfl, rfl⟩
section
variable {ρ ρ' : Rl} {H H' : Hp} {m E O S : Addr} {c : Co} {sts : List Int} {es : List Addr} {ovs : List V}
/-- a hand's events are another list -/
theorem MdAt.setEv (x : MdAt ρ H m c sts E O S es ovs) (wf : Wf ρ H) {i : Nat} {b : Addr} {vs : List V} {xs : List Ev} (hi : i < c.E.length) (ho : Own ρ H b (.mi i) (.lst vs)) (pe : Paired (MevAt ρ H) vs xs) :
    Step MM ρ H ρ (upd H E (.lst ((es.set i b).map V.ref))) ∧ MdAt ρ (upd H E (.lst ((es.set i b).map V.ref))) m ⟨c.E.set i xs, c.O⟩ sts E O S (es.set i b) ovs := by
  have s : Step (fun r => r = .me) ρ H ρ (upd H E (.lst ((es.set i b).map V.ref))) := Step.write wf x.ev.at_ x.ev.role fun z => z
  have hil : i < es.length := by rw [x.len]; exact hi
  refine ⟨s.mono fun r z => .inr (.inl z), x.ob.step s (by intro z; cases z), ⟨x.ev.role, upd_same⟩, ?_, fun j a ys h1 h2 => ?_, x.or.step s (by intro z; cases z), Paired.tkN x.od s.tk, x.st.step s (by intro z; cases z)⟩
  · show (es.set i b).length = (c.E.set i _).length
    rw [List.length_set, List.length_set]
    exact x.len
  · by_cases c1 : j = i
    · subst c1
      rw [List.getElem?_set_self hil] at h1
      cases h1
      have h2 : (c.E.set j xs)[j]? = some ys := h2
      rw [List.getElem?_set_self hi] at h2
      cases h2
      exact ⟨vs, ho.step s (by intro z; cases z), Paired.imp pe fun _ _ z => z.step s (by intro z; cases z)⟩
    · rw [List.getElem?_set_ne (fun z => c1 z.symm)] at h1
      have h2 : (c.E.set i xs)[j]? = some ys := h2
      rw [List.getElem?_set_ne (fun z => c1 z.symm)] at h2
      obtain ⟨us, h3, h4⟩ := x.row j a ys h1 h2
      exact ⟨us, h3.step s (by intro z; cases z), Paired.imp h4 fun _ _ z => z.step s (by intro z; cases z)⟩
theorem MdAt.setOr (x : MdAt ρ H m c sts E O S es ovs) (wf : Wf ρ H) {O' : Addr} {rv : List V} {ns : List Nm} (ho : Own ρ H O' .mo (.lst rv)) (pr : Paired (NmAt H) rv ns) :
    Step MM ρ H ρ (upd H m (.dK (mdD E O' S))) ∧ MdAt ρ (upd H m (.dK (mdD E O' S))) m ⟨c.E, ns⟩ sts E O' S es rv := by
  have s : Step (fun r => r = .md) ρ H ρ (upd H m (.dK (mdD E O' S))) := Step.write wf x.ob.at_ x.ob.role fun z => z
  exact ⟨s.mono fun r z => .inl z, ⟨x.ob.role, upd_same⟩, x.ev.step s (by intro z; cases z), x.len, fun j a ys h1 h2 => by
      obtain ⟨us, h3, h4⟩ := x.row j a ys h1 h2
      exact ⟨us, h3.step s (by intro z; cases z), Paired.imp h4 fun _ _ z => z.step s (by intro z; cases z)⟩, ho.step s (by intro z; cases z), Paired.tkN pr s.tk, x.st.step s (by intro z; cases z)⟩
end
section
variable {P : Program} {w : World} {K : PySem.W.Frag} {mg : Str → Option Value} {base : Heap}
theorem scLfollow : FnScope ["_law_model", "_law_does", "_law_row", "_law_hand", "_law_word", "_law_name", "_law_state_here", "_law_letters", "_law_words", "_law_k"] ["_law_model", "_law_does", "_law_row"] (defScope sLfollow) := ⟨rfl, rfl, rfl, by decide +kernel, rfl, by decide +kernel, by decide +kernel⟩
set_option maxHeartbeats 8000000 in
theorem ok_Lfollow (T : Txt K mg) : OK P w K mg base CX0 3 ("_law_follow", none) ["_law_model", "_law_does", "_law_row"] (sp_Lfollow K) := by
  obtain ⟨fdLsent, GLsent, bLsent, kLsent⟩ := (ok_Lsent (P := P) (w := w) (base := base) T).ex
  obtain ⟨fdLstate, GLstate, bLstate, kLstate⟩ := (ok_Lstate (P := P) (w := w) (base := base) T).ex
  refine OK.mk0 T.f_Lfollow scLfollow (fun _ _ _ _ _ _ us hl => match us, hl with | [_, _, _], _ => rfl) (fun vs H Q E h => ?_) (fun cdv A outer s H vs Q E hr h => ?_)
  · obtain ⟨ρ, m, f, rv, r, c, sts, d, i, rfl, _⟩ := h
    rfl
  · obtain ⟨ρ, m, f, rv, r, c, sts, d, i, rfl, wf, hrow, ⟨E, O, S, es, ovs, X⟩, clo, ok, lO, l40, hc, hri, hi, huse, k⟩ := h
    obtain ⟨ra, xs, w0, rfl, hra, h0, h1, ew⟩ := row_first hrow
    rw [hri] at h1
    have hiE : i < c.E.length := by rw [hc]; exact hi
    obtain ⟨a, vs, ha, hev, ho, pe⟩ := X.at_ hiE
    have hat : atI (es.map V.ref) ((i : Nat) : Int) = some (.ref a) := atI_nat (by rw [List.getElem?_map, ha]; rfl)
    refine ⟨_, (pss_cons (ps_if (pt_cmpR op_eq (pe_ix ix_tup (pv 2) pe_int (fun _ _ => rfl)) pe_str (nomark _)) (pss_one ps_retN) pss_nil)
      (pss_cons (ps_set (i := 3) scLfollow.nd rfl (Or.inl rfl) (pe_ix ix_tup (pv 2) pe_int (fun _ _ => rfl)))
      (pss_cons (ps_set (i := 4) scLfollow.nd rfl (Or.inl rfl) pe_non)
      (pss_cons (ps_set (i := 5) scLfollow.nd rfl (Or.inl rfl) pe_non)
      (C8.pss_cut (ps_if (pt_cmpR op_eq (pe_ix ix_tup (pv 2) pe_int (fun _ _ => rfl)) pe_str (nomark _)) (pss_cons (ps_set (i := 5) scLfollow.nd rfl (Or.inl rfl) (pe_ix ix_tup (pv 2) pe_int (fun _ _ => rfl)))
      (pss_one (ps_set (i := 4) scLfollow.nd rfl (Or.inl rfl) (pe_ix ix_tup (pe_dget (hu_of hr) (pe_call GLsent (hr.mono (by decide)) rfl T.g_Lsent kLsent bLsent .nil pass0 (pa_cons (pv 0) pa_nil)) (pv 5) (fun _ _ => rfl)) pe_int (fun _ _ => rfl))))) pss_nil)
      (pss_cons (ps_asg (pe_callClo (i := 1) T (hr.mono (by decide)) rfl (by first | exact Or.inl rfl | exact Or.inr (Or.inl rfl)) (pa_cons (pv 3) (pa_cons (pe_call GLstate (hr.mono (by decide)) rfl T.g_Lstate kLstate bLstate .nil pass0 (pa_cons (pv 0) (pa_cons (pv 3) pa_nil))) (pa_cons (pv 4) pa_nil)))) (pg_tup rfl (pgs_cons (pg_name (i := 6) scLfollow.nd rfl (Or.inl rfl)) (pgs_cons (pg_name (i := 7) scLfollow.nd rfl (Or.inl rfl)) (pgs_cons (pg_name (i := 8) scLfollow.nd rfl (Or.inl rfl)) pgs_nil)))))
      (pss_cons (ps_expr (pe_bm PySem.F.plainAttrs_list PySem.F.slot_list_append PySem.F.type_list_append mt_append (pe_ix ix_list (pe_dget (hu_of hr) (pv 0) pe_str (fun _ _ => rfl)) (pv 3) (fun _ _ => rfl)) (pa_cons (pe_tup (pa_cons (pv 5) (pa_cons (pv 6) (pa_cons (pv 7) (pa_cons (pv 8) pa_nil))))) pa_nil)))
      (pss_one (ps_for PassesOwn.never rfl (pi_range1 rfl T.n_range (pa_cons (pe_callB call_len_seq (by rfl) T.n_len PySem.boot_len (pa_cons (pv 7) pa_nil)) pa_nil)) (pg_name (i := 9) scLfollow.nd rfl (Or.inl rfl)) (pss_one (ps_expr (pe_bm PySem.F.plainAttrs_list PySem.F.slot_list_append PySem.F.type_list_append mt_append (pe_dget (hu_of hr) (pv 0) pe_str (fun _ _ => rfl)) (pa_cons (pe_tup (pa_cons (pv 3) (pa_cons (pe_callB call_len_seq (by rfl) T.n_len PySem.boot_len (pa_cons (pe_ix ix_list (pe_dget (hu_of hr) (pv 0) pe_str (fun _ _ => rfl)) (pv 3) (fun _ _ => rfl)) pa_nil)) (pa_cons (pv 9) pa_nil)))) pa_nil))))))))))))), ?_⟩
    refine ⟨_, rfl, ra, _, _, _, rfl, rfl, SqT.of hra, h0, rfl, _, rfl, ?_⟩
    by_cases hw : w0 = "write"
    · rw [decide_eq_true (show V.str w0 = V.str "write" from congrArg V.str hw)]
      refine iteT ?_
      have er : c.step d sts r = c := by
        cases r with
        | own h =>
          have ew : w0 = "own" := ew
          rw [ew] at hw
          exact absurd hw (by decide)
        | use h n =>
          have ew : w0 = "use" := ew
          rw [ew] at hw
          exact absurd hw (by decide)
        | write h => rfl
      refine k ρ H (Step.refl wf) ?_
      rw [er]
      exact ⟨E, O, S, es, ovs, X⟩
    · rw [decide_eq_false (fun z : V.str w0 = V.str "write" => hw (V.str.inj z))]
      refine iteF ⟨_, rfl, ra, _, _, _, rfl, rfl, SqT.of hra, h1, ?_⟩
      refine ⟨fun σ' G => ∃ (us : Option Nm) (wd : Option Int) (u : V), σ' = [some (.ref m), some (.ref f), some (.ref ra), some (.int (i : Nat)), some (wdV wd), some u, none, none, none, none] ∧ Same H G ∧ UsAt G u us ∧ c.step d sts r = c.add d sts i us wd, ?_, ?_⟩
      · refine ⟨_, rfl, ra, _, _, _, rfl, rfl, SqT.of hra, h0, rfl, _, rfl, ?_⟩
        cases r with
        | own h =>
          have ew : w0 = "own" := ew
          have hri : h = (i : Int) := hri
          rw [decide_eq_false (fun z : V.str w0 = V.str "use" => by rw [ew] at z; exact absurd (V.str.inj z) (by decide))]
          refine iteF ⟨none, none, .non, rfl, Same.refl _, rfl, ?_⟩
          show c.add d sts h.toNat none none = _
          rw [hri, Int.toNat_natCast]
        | write h =>
          have ew : w0 = "write" := ew
          exact absurd ew hw
        | use h n =>
          have ew : w0 = "use" := ew
          have hri : h = (i : Int) := hri
          rw [decide_eq_true (show V.str w0 = V.str "use" from congrArg V.str ew)]
          obtain ⟨nv, hnv, ra', e1, hra'⟩ := hrow
          cases e1
          rw [hra] at hra'
          cases hra'
          obtain ⟨na, rfl, hna⟩ := id hnv
          obtain ⟨lt, hlt⟩ := huse h n rfl
          refine iteT ⟨_, rfl, ra, _, _, _, rfl, rfl, SqT.of hra, rfl, ?_⟩
          refine ⟨_, rfl, ρ, m, c, sts, rfl, wf, ⟨E, O, S, es, ovs, X⟩, ok, fun qS kvs H1 hqS s1 eS sk => ?_⟩
          obtain ⟨lv, lt', hv, hl', hla⟩ : ∃ v lt, valV kvs (nmK n) = some v ∧ lookS (sentAll 0 c.E) n = some lt ∧ LtAt H1 v lt := by
            rcases sk.look (n := n) with z | ⟨_, z⟩
            · exact z
            · rw [lookS_all, hlt] at z
              cases z
          rw [lookS_all, hlt] at hl'
          cases hl'
          obtain ⟨la, rfl, hla⟩ := hla
          have g : DGet H1 qS (.ref na) (some (.ref la)) := by
            rw [← hv]
            exact DGet.t eS (s1 _ _ hna)
          refine ⟨_, rfl, qS, _, rfl, g, la, _, _, _, rfl, rfl, SqT.of hla, rfl, some n, some lt.2, .ref na, rfl, s1, hnv.tk (tk_same s1), ?_⟩
          show c.add d sts h.toNat (some n) (c.word n) = _
          have ewd : c.word n = some lt.2 := by
            unfold Co.word
            rw [hlt]
            rfl
          rw [hri, Int.toNat_natCast, ewd]
      · rintro σ' G ⟨us, wd, u, rfl, sG, hus, est⟩
        have wfG : Wf ρ G := fun b e => wf b (sG.free e)
        have XG := X.same wf sG
        have cloG : CloAt ρ G f d := clo.step (Step.same (M := No) wf sG) (fun z => z)
        refine ⟨f, rfl, ⟨ρ, d, cloG⟩, _, rfl, _, rfl, _, rfl, ρ, m, c, sts, i, rfl, wfG, ⟨E, O, S, es, ovs, XG⟩, hc, hi, fun H1 s1 => ⟨_, rfl, ρ, d, cloG.step (Step.same (M := No) wfG s1) (fun z => z), _, _, wd, rfl, fun q l mm lv H2 hq hl hmm s2 eq el pl em => ?_⟩⟩
        refine ⟨q, _, rfl, SqT.of eq, rfl, _, _, rfl, _, _, rfl, _, _, rfl, rfl, ?_⟩
        have s12 := s1.trans s2
        have s02 := sG.trans s12
        have wf2 : Wf ρ H2 := fun b e => wf b (s02.free e)
        have X2 := X.same wf s02
        have hl0 : H l = none := sG.free (s1.free hl)
        have st1 : Step No ρ H (rset ρ l .fz) H2 := (Step.same wf s02).role hl0 (by rw [el]; simp) .fz
        obtain ⟨ρ1, eρ⟩ : ∃ ρ1, ρ1 = rset ρ l .fz := ⟨_, rfl⟩
        have rl : ρ1 l = .fz := by rw [eρ, rset_same]
        rw [← eρ] at st1
        have X3 := X.step st1 No_MM
        obtain ⟨a3, vs3, ha3, _, ho3, pe3⟩ := X3.at_ hiE
        rw [ha] at ha3
        cases ha3
        refine ⟨_, rfl, m, _, rfl, md_gE X s02, _, rfl, E, _, _, _, rfl, rfl, SqL.of X3.ev.at_, hat, .inl ⟨rfl, _, SqL.of ho3.at_⟩, _, rfl, _, rfl, _, rfl, _, rfl, (by show 4 ≤ sizeLine; decide), fun t ht => ?_⟩
        have s3 := Step.new0 (M := No) (o := .tup [u, .int (d.fn (i : Nat) (stOf sts c i) wd).1, .ref l, .ref mm]) st1.wf ht
        have X4 := X3.step s3 No_MM
        obtain ⟨a4, vs4, ha4, _, ho4, pe4⟩ := X4.at_ hiE
        rw [ha] at ha4
        cases ha4
        have ho3' := s3.keep _ _ ho3.at_ (fun z => z)
        have evs4 : vs4 = vs3 := by
          have z := ho4.at_
          rw [ho3'] at z
          cases z
          rfl
        subst evs4
        have hmev : MevAt ρ1 (upd H2 t (.tup [u, .int (d.fn (i : Nat) (stOf sts c i) wd).1, .ref l, .ref mm])) (.ref t) (c.ev d sts i us wd) :=
          ⟨t, l, mm, u, lv, rfl, upd_same, (hus.tk (tk_same s12)).tk s3.tk, ⟨rl, s3.keep _ _ el (fun z => z)⟩, Paired.tkL pl s3.tk⟩
        obtain ⟨s4, X5⟩ := X4.pushEv s3.wf hiE ha ho4 pe4 hmev
        have s04 : Step MM ρ H ρ1 _ := (st1.mono (N := MM) fun _ z => z.elim).trans ((s3.mono (N := MM) fun _ z => z.elim).trans s4)
        have l40i := l40 _ (List.mem_of_getElem? hev)
        refine ⟨a, _, _, rfl, rfl, ho3', small6 (by rw [paired_len pe4]; omega), ?_⟩
        obtain ⟨G5, eG5⟩ : ∃ G5, G5 = upd (upd H2 t (.tup [u, .int (d.fn (i : Nat) (stOf sts c i) wd).1, .ref l, .ref mm])) a (.lst (vs4 ++ [.ref t])) := ⟨_, rfl⟩
        rw [← eG5] at X5 s04 s4 ⊢
        have el5 : G5 l = some (.lst lv) := by
          refine s4.keep _ _ (s3.keep _ _ el (fun z => z)) ?_
          rw [rl]
          rintro (z | z | z | ⟨j, z⟩) <;> cases z
        have llv : lv.length = (c.ev d sts i us wd).sent.length := paired_len pl
        have l3 : (c.ev d sts i us wd).sent.length ≤ 3 := DP.fn_len _ _ _ _
        refine ⟨_, rfl, l, _, rfl, .inl (SqL.of el5), _, rfl, by omega, by omega, ?_⟩
        refine for_range (lo := 0) (n := ((lv.length : Nat) : Int).toNat) (fun j σ G => ∃ (v9 : Option V) (ovs' : List V), σ = [some (.ref m), some (.ref f), some (.ref ra), some (.int (i : Nat)), some (wdV wd), some u, some (.int (d.fn (i : Nat) (stOf sts c i) wd).1), some (.ref l), some (.ref mm), v9] ∧ Step MM ρ H ρ1 G ∧
            MdAt ρ1 G m ⟨c.E.set i (c.evs i ++ [c.ev d sts i us wd]), c.O ++ namesOf (i : Nat) (((c.evs i).length : Nat) + 1) j⟩ sts E O S es ovs')
          ⟨none, ovs, rfl, s04, by
            have e0 : c.O ++ namesOf (i : Nat) (((c.evs i).length : Nat) + 1) 0 = c.O := List.append_nil _
            rw [e0]
            exact X5⟩ (fun j σ G hj hw => ?_) fun σ G hw => ?_
        · obtain ⟨v9, ovs', rfl, sj, Xj⟩ := hw
          have hiE' : i < (Co.mk (c.E.set i (c.evs i ++ [c.ev d sts i us wd])) (c.O ++ namesOf (i : Nat) (((c.evs i).length : Nat) + 1) j)).E.length := by
            show i < (c.E.set i _).length
            rw [List.length_set]
            exact hiE
          obtain ⟨aj, vsj, haj, hevj, hoj, pej⟩ := Xj.at_ hiE'
          rw [ha] at haj
          cases haj
          have evj : (Co.mk (c.E.set i (c.evs i ++ [c.ev d sts i us wd])) (c.O ++ namesOf (i : Nat) (((c.evs i).length : Nat) + 1) j)).evs i = c.evs i ++ [c.ev d sts i us wd] := by
            show (c.E.set i _).getD i [] = _
            rw [List.getD_eq_getElem?_getD, List.getElem?_set_self hiE]
            rfl
          have lvj : ((vsj.length : Nat) : Int) = ((c.evs i).length : Nat) + 1 := by
            rw [paired_len pej, evj, List.length_append]
            rfl
          refine ⟨_, rfl, m, _, rfl, md_gO Xj (Same.refl _), .inl ⟨rfl, _, SqL.of Xj.or.at_⟩, _, rfl, _, rfl, m, _, rfl, md_gE Xj (Same.refl _), _, rfl, E, _, _, _, rfl, rfl, SqL.of Xj.ev.at_, hat, a, _, rfl, .inl (SqL.of hoj.at_), _, rfl, (by show 3 ≤ sizeLine; decide), fun q2 hq2 => ?_⟩
          rw [lvj]
          have sq := Step.new0 (M := No) (o := .tup [.int (i : Nat), .int (((c.evs i).length : Nat) + 1), .int (0 + (j : Nat))]) sj.wf hq2
          have Xq := Xj.step sq No_MM
          obtain ⟨sp, Xp⟩ := Xq.pushOr sq.wf (n := (((i : Nat) : Int), (((c.evs i).length : Nat) : Int) + 1, ((j : Nat) : Int))) (v := .ref q2) ⟨q2, rfl, by rw [upd_same, Int.zero_add]; rfl⟩
          have lov : ovs'.length < sizeLine := small6 (by
            rw [paired_len Xj.od]
            show (c.O ++ namesOf _ _ j).length ≤ _
            rw [List.length_append]
            unfold namesOf
            rw [List.length_map, List.length_range]
            omega)
          refine ⟨O, _, _, rfl, rfl, Xq.or.at_, lov, some (.int (0 + (j : Nat))), ovs' ++ [.ref q2], rfl, sj.trans ((sq.mono fun _ z => z.elim).trans sp), ?_⟩
          have en : c.O ++ namesOf (i : Nat) (((c.evs i).length : Nat) + 1) (j + 1) = (c.O ++ namesOf (i : Nat) (((c.evs i).length : Nat) + 1) j) ++ [(((i : Nat) : Int), (((c.evs i).length : Nat) : Int) + 1, ((j : Nat) : Int))] := by
            unfold namesOf
            rw [List.range_succ, List.map_append, List.append_assoc]
            rfl
          rw [en]
          exact Xp
        · obtain ⟨v9, ovs', rfl, sj, Xj⟩ := hw
          refine k ρ1 G sj ⟨E, O, S, es, ovs', ?_⟩
          rw [est]
          rw [Int.toNat_natCast, llv] at Xj
          exact Xj
theorem scLcut : FnScope ["_law_model", "_law_line", "_law_hand", "_law_name"] ["_law_model", "_law_line"] (defScope sLcut) := ⟨rfl, rfl, rfl, by decide +kernel, rfl, by decide +kernel, by decide +kernel⟩
set_option maxHeartbeats 8000000 in
theorem ok_Lcut (T : Txt K mg) : OK P w K mg base CX0 1 ("_law_cut", none) ["_law_model", "_law_line"] (sp_Lcut K) := by
  refine OK.mk0 T.f_Lcut scLcut (fun _ _ _ _ _ _ us hl => match us, hl with | [_, _], _ => rfl) (fun vs H Q E h => ?_) (fun cdv A outer s H vs Q E hr h => ?_)
  · obtain ⟨ρ, m, ll, c, sts, line, rfl, _⟩ := h
    rfl
  · obtain ⟨ρ, m, ll, c, sts, line, rfl, wf, ⟨E, O, S, es, ovs, X⟩, ok, hll, rll, hlen, hnn, hord, k⟩ := h
    have hm5 := ok.many
    have nM : ∀ {M : Role → Prop}, (∀ r, M r → MM r) → ¬ M (ρ ll) := fun h z => by
      rw [rll] at z
      rcases h _ z with y | y | y | ⟨j, y⟩ <;> cases y
    refine ⟨_, (pss_cons (ps_for PassesOwn.never rfl (pi_range1 rfl T.n_range (pa_cons (pe_callB call_len_seq (by rfl) T.n_len PySem.boot_len (pa_cons (pv 1) pa_nil)) pa_nil)) (pg_name (i := 2) scLcut.nd rfl (Or.inl rfl)) (pss_one (ps_asg (pe_slice sl_list (pe_ix ix_list (pe_dget (hu_of hr) (pv 0) pe_str (fun _ _ => rfl)) (pv 2) (fun _ _ => rfl)) po_none (po_some (pe_ix ix_list (pv 1) (pv 2) (fun _ _ => rfl)))) (pg_sub (pe_dget (hu_of hr) (pv 0) pe_str (fun _ _ => rfl)) (pv 2) set_list))))
      (pss_one (ps_dput (hu_of hr) (pv 0) pe_str (pe_lc (own := [("_law_name", 3)]) rfl scLcut.nd (pi_list (pe_dget (hu_of hr) (pv 0) pe_str (fun _ _ => rfl))) (blkOk_by (N := ["_law_model", "_law_line", "_law_hand", "_law_name"]) (sc := defScope sLcut) (by decide +kernel)) (fun _ _ _ _ _ => (pg_name (i := 3) scLcut.nd rfl (Or.inl rfl) (Or.inr rfl))) (fun _ _ _ _ _ => (pts_one (pt_cmpR op_le (pe_ix (ix_tupK (K := K) rfl) (pv 3) pe_int (fun _ _ => rfl)) (pe_ix (ix_listK (K := K) rfl) (pv 1) (pe_ix (ix_tupK (K := K) rfl) (pv 3) pe_int (fun _ _ => rfl)) (fun _ _ => rfl)) (nomark _)))) (fun _ _ _ _ _ => (pv 3))) rfl))), ?_⟩
    refine ⟨_, rfl, ll, _, rfl, .inl (SqL.of hll), _, rfl, by rw [List.length_map]; omega, by rw [List.length_map]; omega, ?_⟩
    refine for_range (lo := 0) (n := (((line.map V.int).length : Nat) : Int).toNat) (fun j σ G => ∃ (ρj : Rl) (v2 : Option V) (es' : List Addr), σ = [some (.ref m), some (.ref ll), v2, none] ∧ Step MM ρ H ρj G ∧ MdAt ρj G m ⟨cutN2 line c.E j, c.O⟩ sts E O S es' ovs)
      ⟨ρ, none, es, rfl, Step.refl wf, by rw [cutN2_zero]; exact X⟩ (fun j σ G hj hw => ?_) fun σ G hw => ?_
    · obtain ⟨ρj, v2, es', rfl, sj, Xj⟩ := hw
      rw [List.length_map] at hj
      have hj' : j < c.E.length := by omega
      have hjE : j < (Co.mk (cutN2 line c.E j) c.O).E.length := by
        show j < (cutN2 line c.E j).length
        rw [cutN2_len]
        exact hj'
      obtain ⟨a, vs, ha, hev, ho, pe⟩ := Xj.at_ hjE
      have hev0 : (Co.mk (cutN2 line c.E j) c.O).evs j = c.evs j := by
        have z := evs_at hj'
        have y : (cutN2 line c.E j)[j]? = some ((Co.mk (cutN2 line c.E j) c.O).evs j) := hev
        rw [cutN2_at, z] at y
        exact (Option.some.inj y).symm
      rw [hev0] at pe
      have hat : atI (es'.map V.ref) (0 + (j : Nat) : Int) = some (.ref a) := by
        rw [Int.zero_add]
        exact atI_nat (by rw [List.getElem?_map, ha]; rfl)
      have hli : atI (line.map V.int) (0 + (j : Nat) : Int) = some (.int (line.getD j 0)) := by
        rw [Int.zero_add]
        refine atI_nat ?_
        rw [List.getElem?_map, List.getD_eq_getElem?_getD, List.getElem?_eq_getElem (by omega)]
        rfl
      have hl0 := hnn j hj'
      refine ⟨_, rfl, m, _, rfl, md_gE Xj (Same.refl _), _, rfl, E, _, _, _, rfl, rfl, SqL.of Xj.ev.at_, hat, _, rfl, _, rfl, ll, _, _, _, rfl, rfl, SqL.of (sj.keep _ _ hll (nM fun _ z => z)), hli, _, rfl, a, vs, rfl, SqL.of ho.at_, fun b hb => ?_⟩
      rw [cut_to vs hl0]
      have s1 := Step.new (M := No) (o := .lst (vs.take (line.getD j 0).toNat)) sj.wf hb (.mi j)
      have X1 := Xj.step s1 No_MM
      obtain ⟨s2, X2⟩ := X1.setEv s1.wf hjE (b := b) (vs := vs.take (line.getD j 0).toNat) (xs := (c.evs j).take (line.getD j 0).toNat) ⟨rset_same, upd_same⟩ (paired_take _ (Paired.imp pe fun _ _ z => z.step s1 (fun z => z)))
      have hix : ixN (es'.map V.ref).length (0 + (j : Nat) : Int) = some j := by
        have : j < es'.length := (List.getElem?_eq_some_iff.mp ha).1
        unfold ixN
        rw [if_pos (by omega), if_pos (by rw [List.length_map]; omega)]
        congr 1
        omega
      refine ⟨_, rfl, m, _, rfl, md_gE X1 (Same.refl _), _, rfl, E, _, _, j, rfl, rfl, X1.ev.at_, hix, ?_⟩
      have eset : (es'.map V.ref).set j (.ref b) = (es'.set j b).map V.ref := by rw [List.map_set]
      rw [eset]
      refine ⟨_, _, es'.set j b, rfl, sj.trans ((s1.mono fun _ z => z.elim).trans s2), ?_⟩
      rw [← cutN2_set (evs_at hj')]
      exact X2
    · obtain ⟨ρj, v2, es', rfl, sj, Xj⟩ := hw
      have eall : cutN2 line c.E (((line.map V.int).length : Nat) : Int).toNat = cutE line c.E := by
        rw [Int.toNat_natCast, List.length_map, hlen, cutN2_all]
      rw [eall] at Xj
      have hll1 := sj.keep _ _ hll (nM fun _ z => z)
      refine ⟨_, rfl, m, _, rfl, md_gO Xj (Same.refl _), O, rfl, ⟨_, SqL.of Xj.or.at_⟩, fun D hD => ?_⟩
      refine lc_list (K := K) (a := O) (xs := ovs) (fun p G2 => ∃ rv, Step No ρj G ρj G2 ∧ G2 D = some (.lst rv) ∧ Paired (NmAt G2) rv ((c.O.take p).filter (keepO line))) ⟨[], Step.new0 sj.wf hD, upd_same, .nil⟩ (fun p G2 _ e => ?_) (fun p x G2 hx e => ?_) (fun G2 e => ?_)
      · obtain ⟨rv, sg, _⟩ := e
        exact SqL.of (Xj.or.step sg (fun z => z)).at_
      · obtain ⟨rv, sg, gD, pr⟩ := e
        obtain ⟨y, hy, a, rfl, ht⟩ := paired_at' Xj.od hx
        have hy : c.O[p]? = some y := hy
        obtain ⟨i, hi1, hi2⟩ := hord y (List.mem_of_getElem? hy)
        have ht := sg.tk _ _ ht
        have e0 : atI (nmV y) 0 = some (.int y.1) := rfl
        have hla : atI (line.map V.int) y.1 = some (.int (lineAt line y.1)) := line_at hlen hi1 hi2
        refine ⟨rfl, _, rfl, a, _, _, _, rfl, rfl, SqT.of ht, rfl, _, rfl, _, rfl, a, _, _, _, rfl, rfl, SqT.of ht, e0, ll, _, _, _, rfl, rfl, SqL.of (sg.keep _ _ hll1 (fun z => z)), hla, _, _, rfl, rfl, _, rfl, ?_⟩
        rw [filter_snoc hy]
        by_cases hk : y.2.1 ≤ lineAt line y.1
        · have ek : keepO line y = true := decide_eq_true hk
          rw [decide_eq_true hk, ek, if_pos rfl]
          refine iteT ⟨_, rfl, rv, gD, small6 ?_, rv ++ [V.ref a], ?_, upd_same, ?_⟩
          · rw [paired_len pr]
            have := filter_len (keepO line) c.O p
            have := ok.ord
            omega
          · exact sg.fresh hD (by rw [gD]; simp)
          · have tk : TupK G2 (upd G2 D (.lst (rv ++ [V.ref a]))) := fun c zs z => by
              rw [upd_ne (ne_of z gD (by intro u; cases u))]
              exact z
            exact paired_snoc (R := NmAt (upd G2 D (.lst (rv ++ [V.ref a])))) ⟨a, rfl, tk _ _ ht⟩ (Paired.tkN pr tk)
        · have ek : keepO line y = false := decide_eq_false hk
          rw [decide_eq_false hk, ek, if_neg (by simp), List.append_nil]
          exact iteF ⟨rv, sg, gD, pr⟩
      · obtain ⟨rv, sg, gD, pr⟩ := e
        rw [paired_len Xj.od, List.take_length] at pr
        have sR : Step No ρj G (rset ρj D .mo) G2 := sg.role hD (by rw [gD]; simp) _
        have X2 := Xj.step sR No_MM
        obtain ⟨s3, X3⟩ := X2.setOr sR.wf ⟨rset_same, gD⟩ pr
        refine ⟨_, rfl, m, _, rfl, DPut.k (k := kOr) X2.ob.at_ (by show 3 < sizeLine; decide), ?_⟩
        rw [md_put]
        exact k _ _ (sj.trans ((sR.mono fun _ z => z.elim).trans s3)) ⟨E, D, S, es', rv, X3⟩
end
end Bk
set_option Elab.async false
set_option linter.all false
set_option maxRecDepth 100000
set_option maxHeartbeats 4000000
/-! A row on a loom; what is asked of a loom; what it tells. -/
namespace Bk
open PySem PySem.Spec PyProof.Rows L2
def sp_Lact (K : PySem.W.Frag) : Sp := fun vs H Q E => ∃ (ρ : Rl) (p : Addr) (L : Lm) (d : DP) (rv : V) (r : Row), vs = [.ref p, rv] ∧ RowAt H rv r ∧ Wf ρ H ∧ LmIs K ρ H p L d ∧ L.many ≤ 5 ∧ L.Ok 50 ∧ (BadHand L r.hand → E (.ref (He.ga K "NoHand")) none H) ∧
  (∀ h n, r = .use h n → ∀ H' : Hp, ¬ BadHand L h → ¬ UseOk L h n → Same H H' → E (.ref (He.ga K "NoLetter")) none H') ∧
  ∀ (ρ' : Rl) (H' : Hp), ¬ BadHand L r.hand → (∀ h n, r = .use h n → UseOk L h n) → Step ML ρ H ρ' H' → LmIs K ρ' H' p (L.act d r) d → Q .non H'
/-- a deed that may not be -/
inductive Bad (K : PySem.W.Frag) (L : Lm) (H : Hp) (E : XK) : V → Prop
  | one {v : V} {w : Str} {h : Int} : TupAt H v [.str w, .int h] → (w = "own" ∨ w = "points" ∨ w = "words" ∨ w = "throw" ∨ w = "write") → BadHand L h → E (.ref (He.ga K "NoHand")) none H → Bad K L H E v
  | hand {v : V} {h : Int} {n : Nm} : RowAt H v (.use h n) → BadHand L h → E (.ref (He.ga K "NoHand")) none H → Bad K L H E v
  | letter {v : V} {h : Int} {n : Nm} : RowAt H v (.use h n) → ¬ BadHand L h → ¬ UseOk L h n → (∀ H' : Hp, Same H H' → E (.ref (He.ga K "NoLetter")) none H') → Bad K L H E v
def sp_Lasked (K : PySem.W.Frag) : Sp := fun vs H Q E => ∃ (ρ : Rl) (p : Addr) (L : Lm) (d : DP) (rv : V), vs = [.ref p, rv] ∧ Wf ρ H ∧ LmIs K ρ H p L d ∧ L.many ≤ 5 ∧ L.Ok 50 ∧ Bad K L H E rv
/-- all that a loom tells -/
def ToldAt (H : Hp) (v : V) (L : Lm) : Prop := ∃ (a f s u p pl st rd rw_ : Addr) (kvs : List (List L2.Key × V)) (rdv rwv : List V) (ps : List Addr), v = .ref a ∧ H a = some (.tup [.ref f, .ref s, .ref u, .ref p]) ∧ H f = some (.tup [.ref pl, .ref st, .ref rd, .ref rw_]) ∧
  H pl = some (.lst ((L.thr.map Thr.here).map V.int)) ∧ H st = some (.lst ((L.thr.map Thr.state).map V.int)) ∧ H rd = some (.lst rdv) ∧ Paired (NmAt H) rdv (roadL L) ∧ H rw_ = some (.lst rwv) ∧ Paired (RowAt H) rwv (L.done.map (·.1)) ∧
  H s = some (.dT kvs) ∧ SentKV H kvs (sentAll 0 L.evss) ∧ H u = some (.dT (usedKV (usedAll [] L.evss))) ∧ H p = some (.lst (ps.map V.ref)) ∧ ps.length = L.thr.length ∧ ∀ (i : Nat) (b : Addr) (t : Thr), ps[i]? = some b → L.thr[i]? = some t → H b = some (.lst (t.points.map V.int))
theorem ToldAt.same {H H' : Hp} {v : V} {L : Lm} (x : ToldAt H v L) (s : Same H H') : ToldAt H' v L := by
  obtain ⟨a, f, sn, u, p, pl, st, rd, rw_, kvs, rdv, rwv, ps, e, h1, h2, h3, h4, h5, h6, h7, h8, h9, h10, h11, h12, h13, h14⟩ := x
  exact ⟨a, f, sn, u, p, pl, st, rd, rw_, kvs, rdv, rwv, ps, e, s _ _ h1, s _ _ h2, s _ _ h3, s _ _ h4, s _ _ h5, Paired.tkN h6 (tk_same s), s _ _ h7, Paired.tkR h8 (tk_same s), s _ _ h9, h10.tk (tk_same s), s _ _ h11, s _ _ h12, h13, fun i b t g1 g2 => s _ _ (h14 i b t g1 g2)⟩
def sp_Ltold (K : PySem.W.Frag) : Sp := fun vs H Q _ => ∃ (ρ : Rl) (p : Addr) (L : Lm) (d : DP), vs = [.ref p] ∧ Wf ρ H ∧ LmIs K ρ H p L d ∧ L.many ≤ 5 ∧ L.Ok 50 ∧ ∀ (v : V) (H' : Hp), Same H H' → ToldAt H' v L → Q v H'
theorem op_str {K : PySem.W.Frag} : True := trivial
section
variable {P : Program} {w : World} {K : PySem.W.Frag} {mg : Str → Option Value} {base : Heap}
theorem scLact : FnScope ["_law_loom", "_law_row"] ["_law_loom", "_law_row"] (defScope sLact) := ⟨rfl, rfl, rfl, by decide +kernel, rfl, by decide +kernel, by decide +kernel⟩
theorem ok_Lact (T : Txt K mg) : OK P w K mg base (L2.CX P w) 6 ("_law_act", none) ["_law_loom", "_law_row"] (sp_Lact K) := by
  obtain ⟨fdLoomOwn, GLoomOwn, bLoomOwn, kLoomOwn⟩ := (ok_LoomOwn (P := P) (w := w) (base := base) T).ex
  obtain ⟨fdLoomUse, GLoomUse, bLoomUse, kLoomUse⟩ := (ok_LoomUse (P := P) (w := w) (base := base) T).ex
  obtain ⟨fdLoomWrite, GLoomWrite, bLoomWrite, kLoomWrite⟩ := (ok_LoomWrite (P := P) (w := w) (base := base) T).ex
  refine OK.mkX T.f_Lact scLact (fun _ _ _ _ _ _ us hl => match us, hl with | [_, _], _ => rfl) (fun vs H Q E h => ?_) (fun cdv A outer s H vs Q E hr h => ?_)
  · obtain ⟨ρ, p, L, d, rv, r, rfl, _⟩ := h
    rfl
  · obtain ⟨ρ, p, L, d, rv, r, rfl, hrow, wf, X, hm, ok, bad, no, k⟩ := h
    obtain ⟨dx, f, tl, dl, ol, tas, dvs, ovs, Y⟩ := id X
    refine ⟨_, (pss_one (ps_if (pt_cmpR op_eq (pe_ix ix_tup (pv 1) pe_int (fun _ _ => rfl)) pe_str (nomark _)) (pss_one (ps_expr (pe_meth (pv 0) T.c_Loom T.m_Loom_own GLoomOwn (hr.mono (by decide)) bLoomOwn .nil (passes_call (takes_of rfl rfl rfl rfl) fun _ _ _ _ h => h) (pa_cons (pe_ix ix_tup (pv 1) pe_int (fun _ _ => rfl)) pa_nil)))) (pss_one (ps_if (pt_cmpR op_eq (pe_ix ix_tup (pv 1) pe_int (fun _ _ => rfl)) pe_str (nomark _)) (pss_one (ps_expr (pe_meth (pv 0) T.c_Loom T.m_Loom_use GLoomUse (hr.mono (by decide)) bLoomUse .nil (passes_call (takes_of rfl rfl rfl rfl) fun _ _ _ _ h => h) (pa_cons (pe_ix ix_tup (pv 1) pe_int (fun _ _ => rfl)) (pa_cons (pe_ix ix_tup (pv 1) pe_int (fun _ _ => rfl)) pa_nil))))) (pss_one (ps_expr (pe_meth (pv 0) T.c_Loom T.m_Loom_write GLoomWrite (hr.mono (by decide)) bLoomWrite .nil (passes_call (takes_of rfl rfl rfl rfl) fun _ _ _ _ h => h) (pa_cons (pe_ix ix_tup (pv 1) pe_int (fun _ _ => rfl)) pa_nil)))))))), ?_⟩
    obtain ⟨ra, xs, w0, rfl, hra, h0, h1, ew⟩ := row_first hrow
    refine ⟨_, rfl, ra, _, _, _, rfl, rfl, SqT.of hra, h0, rfl, _, rfl, ?_⟩
    cases r with
    | own h =>
      have ew : w0 = "own" := ew
      rw [decide_eq_true (show V.str w0 = V.str "own" from congrArg V.str ew)]
      refine iteT ⟨_, rfl, p, dx, _, rfl, Y.ob.at_, rfl, _, rfl, ra, _, _, _, rfl, rfl, SqT.of hra, h1, ρ, p, L, d, h, rfl, wf, X, ok, bad, fun i ρ' H' hi hlt st X' => ?_⟩
      subst hi
      refine k ρ' H' ?_ (fun h n z => nomatch z) st ?_
      · rintro (z | z)
        · have z : ((i : Nat) : Int) < 0 := z
          omega
        · have z : ((L.many : Nat) : Int) ≤ ((i : Nat) : Int) := z
          omega
      · show LmIs K ρ' H' p (L.doOwn d ((i : Int)).toNat) d
        rw [Int.toNat_natCast]
        exact X'
    | write h =>
      have ew : w0 = "write" := ew
      rw [decide_eq_false (fun z : V.str w0 = V.str "own" => by rw [ew] at z; exact absurd (V.str.inj z) (by decide))]
      refine iteF ⟨_, rfl, ra, _, _, _, rfl, rfl, SqT.of hra, h0, rfl, _, rfl, ?_⟩
      rw [decide_eq_false (fun z : V.str w0 = V.str "use" => by rw [ew] at z; exact absurd (V.str.inj z) (by decide))]
      refine iteF ⟨_, rfl, p, dx, _, rfl, Y.ob.at_, rfl, _, rfl, ra, _, _, _, rfl, rfl, SqT.of hra, h1, ρ, p, L, d, h, rfl, wf, X, ok, bad, fun i ρ' H' hi hlt st X' => ?_⟩
      subst hi
      refine k ρ' H' ?_ (fun h n z => nomatch z) st ?_
      · rintro (z | z)
        · have z : ((i : Nat) : Int) < 0 := z
          omega
        · have z : ((L.many : Nat) : Int) ≤ ((i : Nat) : Int) := z
          omega
      · show LmIs K ρ' H' p (L.doWrite ((i : Int)).toNat) d
        rw [Int.toNat_natCast]
        exact X'
    | use h n =>
      have ew : w0 = "use" := ew
      rw [decide_eq_false (fun z : V.str w0 = V.str "own" => by rw [ew] at z; exact absurd (V.str.inj z) (by decide))]
      refine iteF ⟨_, rfl, ra, _, _, _, rfl, rfl, SqT.of hra, h0, rfl, _, rfl, ?_⟩
      rw [decide_eq_true (show V.str w0 = V.str "use" from congrArg V.str ew)]
      obtain ⟨nv, hnv, ra', e1, hra'⟩ := hrow
      cases e1
      rw [hra] at hra'
      cases hra'
      refine iteT ⟨_, rfl, p, dx, _, rfl, Y.ob.at_, rfl, _, rfl, ra, _, _, _, rfl, rfl, SqT.of hra, h1, _, rfl, ra, _, _, _, rfl, rfl, SqT.of hra, rfl, ρ, p, L, d, h, nv, n, rfl, hnv, wf, X, hm, ok, bad, no h n rfl, fun i wd ρ' H' hi hlt uo hlk st X' => ?_⟩
      subst hi
      refine k ρ' H' ?_ (fun h' n' z => by cases z; exact uo) st ?_
      · rintro (z | z)
        · have z : ((i : Nat) : Int) < 0 := z
          omega
        · have z : ((L.many : Nat) : Int) ≤ ((i : Nat) : Int) := z
          omega
      · have ewd : (L.co.word n).getD 0 = wd := by
          unfold Co.word
          rw [lookS_all] at hlk
          show ((letAt L.evss n).map (·.2)).getD 0 = wd
          rw [hlk]
          rfl
        show LmIs K ρ' H' p (L.doUse d ((i : Int)).toNat n ((L.co.word n).getD 0)) d
        rw [Int.toNat_natCast, ewd]
        exact X'
theorem scLasked : FnScope ["_law_loom", "_law_row"] ["_law_loom", "_law_row"] (defScope sLasked) := ⟨rfl, rfl, rfl, by decide +kernel, rfl, by decide +kernel, by decide +kernel⟩
theorem ok_Lasked (T : Txt K mg) : OK P w K mg base (L2.CX P w) 7 ("_law_asked", none) ["_law_loom", "_law_row"] (sp_Lasked K) := by
  obtain ⟨fdLoomPoints, GLoomPoints, bLoomPoints, kLoomPoints⟩ := (ok_LoomPoints (P := P) (w := w) (base := base) T).ex
  obtain ⟨fdLoomWordsof, GLoomWordsof, bLoomWordsof, kLoomWordsof⟩ := (ok_LoomWordsof (P := P) (w := w) (base := base) T).ex
  obtain ⟨fdLoomThrowahead, GLoomThrowahead, bLoomThrowahead, kLoomThrowahead⟩ := (ok_LoomThrowahead (P := P) (w := w) (base := base) T).ex
  obtain ⟨fdLact, GLact, bLact, kLact⟩ := (ok_Lact (P := P) (w := w) (base := base) T).ex
  refine OK.mkX T.f_Lasked scLasked (fun _ _ _ _ _ _ us hl => match us, hl with | [_, _], _ => rfl) (fun vs H Q E h => ?_) (fun cdv A outer s H vs Q E hr h => ?_)
  · obtain ⟨ρ, p, L, d, rv, rfl, _⟩ := h
    rfl
  · obtain ⟨ρ, p, L, d, rv, rfl, wf, X, hm, ok, bd⟩ := h
    obtain ⟨dx, f, tl, dl, ol, tas, dvs, ovs, Y⟩ := id X
    refine ⟨_, (pss_one (ps_if (pt_cmpR op_eq (pe_ix ix_tup (pv 1) pe_int (fun _ _ => rfl)) pe_str (nomark _)) (pss_one (ps_expr (pe_meth (pv 0) T.c_Loom T.m_Loom_points GLoomPoints (hr.mono (by decide)) bLoomPoints .nil (passes_call (takes_of rfl rfl rfl rfl) fun _ _ _ _ h => h) (pa_cons (pe_ix ix_tup (pv 1) pe_int (fun _ _ => rfl)) pa_nil)))) (pss_one (ps_if (pt_cmpR op_eq (pe_ix ix_tup (pv 1) pe_int (fun _ _ => rfl)) pe_str (nomark _)) (pss_one (ps_expr (pe_meth (pv 0) T.c_Loom T.m_Loom_words_of GLoomWordsof (hr.mono (by decide)) bLoomWordsof .nil (passes_call (takes_of rfl rfl rfl rfl) fun _ _ _ _ h => h) (pa_cons (pe_ix ix_tup (pv 1) pe_int (fun _ _ => rfl)) pa_nil)))) (pss_one (ps_if (pt_cmpR op_eq (pe_ix ix_tup (pv 1) pe_int (fun _ _ => rfl)) pe_str (nomark _)) (pss_one (ps_expr (pe_meth (pv 0) T.c_Loom T.m_Loom_throw_ahead GLoomThrowahead (hr.mono (by decide)) bLoomThrowahead .nil (passes_call (takes_of rfl rfl rfl rfl) fun _ _ _ _ h => h) (pa_cons (pe_ix ix_tup (pv 1) pe_int (fun _ _ => rfl)) (pa_cons pe_int pa_nil))))) (pss_one (ps_expr (pe_call GLact (hr.mono (by decide)) rfl T.g_Lact kLact bLact .nil (passes_call (takes_of rfl rfl rfl rfl) fun _ _ _ _ h => h) (pa_cons (pv 0) (pa_cons (pv 1) pa_nil))))))))))), ?_⟩
    have ne : ∀ {a b : Str}, a ≠ b → decide (V.str a = V.str b) = false := fun h => decide_eq_false fun z => h (V.str.inj z)
    have eq : ∀ {a b : Str}, a = b → decide (V.str a = V.str b) = true := fun h => decide_eq_true (congrArg V.str h)
    cases bd with
    | @one w0 h tv hw bh e =>
      obtain ⟨ra, rfl, hra⟩ := tv
      refine ⟨_, rfl, ra, _, _, _, rfl, rfl, SqT.of hra, rfl, rfl, _, rfl, ?_⟩
      rcases hw with rfl | rfl | rfl | rfl | rfl
      · rw [ne (by decide)]
        refine iteF ⟨_, rfl, ra, _, _, _, rfl, rfl, SqT.of hra, rfl, rfl, _, rfl, ?_⟩
        rw [ne (by decide)]
        refine iteF ⟨_, rfl, ra, _, _, _, rfl, rfl, SqT.of hra, rfl, rfl, _, rfl, ?_⟩
        rw [ne (by decide)]
        refine iteF ⟨_, rfl, _, rfl, ρ, p, L, d, .ref ra, .own h, rfl, ⟨ra, rfl, hra⟩, wf, X, hm, ok, fun _ => e, (fun h n z => nomatch z), fun ρ' H' nb => absurd bh nb⟩
      · rw [eq rfl]
        refine iteT ⟨_, rfl, p, dx, _, rfl, Y.ob.at_, rfl, _, rfl, ra, _, _, _, rfl, rfl, SqT.of hra, rfl, ρ, p, h, L, d, rfl, X, ok.mono (by omega), fun _ => e, fun i t q hi ht hq => ?_⟩
        have : i < L.many := by rw [← Y.tlen]; exact (List.getElem?_eq_some_iff.mp ht).1
        rcases bh with z | z <;> omega
      · rw [ne (by decide)]
        refine iteF ⟨_, rfl, ra, _, _, _, rfl, rfl, SqT.of hra, rfl, rfl, _, rfl, ?_⟩
        rw [eq rfl]
        exact iteT ⟨_, rfl, p, dx, _, rfl, Y.ob.at_, rfl, _, rfl, ra, _, _, _, rfl, rfl, SqT.of hra, rfl, ρ, p, h, L, d, rfl, X, bh, e⟩
      · rw [ne (by decide)]
        refine iteF ⟨_, rfl, ra, _, _, _, rfl, rfl, SqT.of hra, rfl, rfl, _, rfl, ?_⟩
        rw [ne (by decide)]
        refine iteF ⟨_, rfl, ra, _, _, _, rfl, rfl, SqT.of hra, rfl, rfl, _, rfl, ?_⟩
        rw [eq rfl]
        exact iteT ⟨_, rfl, p, dx, _, rfl, Y.ob.at_, rfl, _, rfl, ra, _, _, _, rfl, rfl, SqT.of hra, rfl, ρ, p, h, _, L, d, rfl, X, bh, e⟩
      · rw [ne (by decide)]
        refine iteF ⟨_, rfl, ra, _, _, _, rfl, rfl, SqT.of hra, rfl, rfl, _, rfl, ?_⟩
        rw [ne (by decide)]
        refine iteF ⟨_, rfl, ra, _, _, _, rfl, rfl, SqT.of hra, rfl, rfl, _, rfl, ?_⟩
        rw [ne (by decide)]
        refine iteF ⟨_, rfl, _, rfl, ρ, p, L, d, .ref ra, .write h, rfl, ⟨ra, rfl, hra⟩, wf, X, hm, ok, fun _ => e, (fun h n z => nomatch z), fun ρ' H' nb => absurd bh nb⟩
    | @hand h n hrow bh e =>
      obtain ⟨nv, hnv, ra, rfl, hra⟩ := id hrow
      refine ⟨_, rfl, ra, _, _, _, rfl, rfl, SqT.of hra, rfl, rfl, _, rfl, ?_⟩
      rw [ne (by decide)]
      refine iteF ⟨_, rfl, ra, _, _, _, rfl, rfl, SqT.of hra, rfl, rfl, _, rfl, ?_⟩
      rw [ne (by decide)]
      refine iteF ⟨_, rfl, ra, _, _, _, rfl, rfl, SqT.of hra, rfl, rfl, _, rfl, ?_⟩
      rw [ne (by decide)]
      refine iteF ⟨_, rfl, _, rfl, ρ, p, L, d, .ref ra, .use h n, rfl, hrow, wf, X, hm, ok, fun _ => e, fun h' n' z => ?_, fun ρ' H' nb => absurd bh nb⟩
      cases z
      exact fun H' nb => absurd bh nb
    | @letter h n hrow nb nu e =>
      obtain ⟨nv, hnv, ra, rfl, hra⟩ := id hrow
      refine ⟨_, rfl, ra, _, _, _, rfl, rfl, SqT.of hra, rfl, rfl, _, rfl, ?_⟩
      rw [ne (by decide)]
      refine iteF ⟨_, rfl, ra, _, _, _, rfl, rfl, SqT.of hra, rfl, rfl, _, rfl, ?_⟩
      rw [ne (by decide)]
      refine iteF ⟨_, rfl, ra, _, _, _, rfl, rfl, SqT.of hra, rfl, rfl, _, rfl, ?_⟩
      rw [ne (by decide)]
      refine iteF ⟨_, rfl, _, rfl, ρ, p, L, d, .ref ra, .use h n, rfl, hrow, wf, X, hm, ok, fun z => absurd z nb, fun h' n' z => ?_, fun ρ' H' _ uo => absurd (uo h n rfl) nu⟩
      cases z
      exact fun H' _ _ s => e H' s
theorem scLtold : FnScope ["_law_loom", "_law_found", "_law_points", "_law_hand"] ["_law_loom"] (defScope sLtold) := ⟨rfl, rfl, rfl, by decide +kernel, rfl, by decide +kernel, by decide +kernel⟩
set_option maxHeartbeats 8000000 in
theorem ok_Ltold (T : Txt K mg) : OK P w K mg base CX0 5 ("_law_told", none) ["_law_loom"] (sp_Ltold K) := by
  obtain ⟨fdLoomRows, GLoomRows, bLoomRows, kLoomRows⟩ := (ok_LoomRows (P := P) (w := w) (base := base) T).ex
  obtain ⟨fdLoomRoad, GLoomRoad, bLoomRoad, kLoomRoad⟩ := (ok_LoomRoad (P := P) (w := w) (base := base) T).ex
  obtain ⟨fdLoomStates, GLoomStates, bLoomStates, kLoomStates⟩ := (ok_LoomStates (P := P) (w := w) (base := base) T).ex
  obtain ⟨fdLoomPlaces, GLoomPlaces, bLoomPlaces, kLoomPlaces⟩ := (ok_LoomPlaces (P := P) (w := w) (base := base) T).ex
  obtain ⟨fdLoomPoints, GLoomPoints, bLoomPoints, kLoomPoints⟩ := (ok_LoomPoints (P := P) (w := w) (base := base) T).ex
  obtain ⟨fdLoomLettersused, GLoomLettersused, bLoomLettersused, kLoomLettersused⟩ := (ok_LoomLettersused (P := P) (w := w) (base := base) T).ex
  obtain ⟨fdLoomLetterssent, GLoomLetterssent, bLoomLetterssent, kLoomLetterssent⟩ := (ok_LoomLetterssent (P := P) (w := w) (base := base) T).ex
  refine OK.mk0 T.f_Ltold scLtold (fun _ _ _ _ _ _ us hl => match us, hl with | [_], _ => rfl) (fun vs H Q E h => ?_) (fun cdv A outer s H vs Q E hr h => ?_)
  · obtain ⟨ρ, p, L, d, rfl, _⟩ := h
    rfl
  · obtain ⟨ρ, p, L, d, rfl, wf, X, hm, ok, k⟩ := h
    obtain ⟨dx, f, tl, dl, ol, tas, dvs, ovs, Y⟩ := id X
    have ok100 := ok.mono (m := 100) (by omega)
    refine ⟨_, (pss_cons (ps_set (i := 1) scLtold.nd rfl (Or.inl rfl) (pe_tup (pa_cons (pe_meth0 (pv 0) T.c_Loom T.m_Loom_places GLoomPlaces (hr.mono (by decide)) bLoomPlaces .nil pass0) (pa_cons (pe_meth0 (pv 0) T.c_Loom T.m_Loom_states GLoomStates (hr.mono (by decide)) bLoomStates .nil pass0) (pa_cons (pe_meth0 (pv 0) T.c_Loom T.m_Loom_road GLoomRoad (hr.mono (by decide)) bLoomRoad .nil pass0) (pa_cons (pe_meth0 (pv 0) T.c_Loom T.m_Loom_rows GLoomRows (hr.mono (by decide)) bLoomRows .nil pass0) pa_nil))))))
      (pss_cons (ps_setLc (own := [("_law_hand", 3)]) (i := 2) rfl scLtold.nd rfl rfl (sw_true rfl rfl rfl (by decide +kernel)) (pi_range1 rfl T.n_range (pa_cons (pe_fld (pv 0) rfl) pa_nil)) (blkOk_by (N := ["_law_loom", "_law_found", "_law_points", "_law_hand"]) (sc := defScope sLtold) (by decide +kernel)) (fun _ _ _ _ _ => (pg_name (i := 3) scLtold.nd rfl (Or.inl rfl) (Or.inr rfl))) (fun _ _ _ _ _ => pts_nil) (fun _ _ _ _ _ => (pe_meth (pv 0) T.c_Loom T.m_Loom_points GLoomPoints (hr.mono (by decide)) bLoomPoints .nil passN (pa_cons (pv 3) pa_nil))))
      (pss_one (ps_ret (pe_tup (pa_cons (pv 1) (pa_cons (pe_meth0 (pv 0) T.c_Loom T.m_Loom_letters_sent GLoomLetterssent (hr.mono (by decide)) bLoomLetterssent .nil pass0) (pa_cons (pe_meth0 (pv 0) T.c_Loom T.m_Loom_letters_used GLoomLettersused (hr.mono (by decide)) bLoomLettersused .nil pass0) (pa_cons (pv 2) pa_nil))))))))), ?_⟩
    refine ⟨_, rfl, p, dx, _, rfl, Y.ob.at_, rfl, ρ, p, L, d, rfl, X, hm, fun pl hpl => ?_⟩
    have s1 := same_upd (o := .lst ((L.thr.map Thr.here).map V.int)) hpl
    refine ⟨_, rfl, p, dx, _, rfl, s1 _ _ Y.ob.at_, rfl, ρ, p, L, d, rfl, X.same wf s1, hm, fun st hst => ?_⟩
    have s2 := same_upd (o := .lst ((L.thr.map Thr.state).map V.int)) hst
    have s02 := s1.trans s2
    have wf2 : Wf ρ _ := fun b e => wf b (s02.free e)
    refine ⟨_, rfl, p, dx, _, rfl, s02 _ _ Y.ob.at_, rfl, ρ, p, L, d, rfl, wf2, X.same wf s02, hm, ok100, fun rd rdv H3 hrd s3 erd prd => ?_⟩
    have s03 := s02.trans s3
    refine ⟨_, rfl, p, dx, _, rfl, s03 _ _ Y.ob.at_, rfl, ρ, p, L, d, rfl, X.same wf s03, ok100, fun rw_ rwv hrw prw => ?_⟩
    have s4 := same_upd (o := .lst rwv) hrw
    refine ⟨(by show 4 ≤ sizeLine; decide), fun fa hfa => ?_⟩
    have s5 := same_upd (o := .tup [.ref pl, .ref st, .ref rd, .ref rw_]) hfa
    have s05 := s03.trans (s4.trans s5)
    obtain ⟨H5, e5⟩ : ∃ H5, H5 = upd (upd H3 rw_ (.lst rwv)) fa (.tup [.ref pl, .ref st, .ref rd, .ref rw_]) := ⟨_, rfl⟩
    have g1 : H5 pl = some (.lst ((L.thr.map Thr.here).map V.int)) := by rw [e5]; exact (s2.trans (s3.trans (s4.trans s5))) _ _ upd_same
    have g2 : H5 st = some (.lst ((L.thr.map Thr.state).map V.int)) := by rw [e5]; exact (s3.trans (s4.trans s5)) _ _ upd_same
    have g3 : H5 rd = some (.lst rdv) := by rw [e5]; exact (s4.trans s5) _ _ erd
    have g4 : H5 rw_ = some (.lst rwv) := by rw [e5]; exact s5 _ _ upd_same
    have g5 : H5 fa = some (.tup [.ref pl, .ref st, .ref rd, .ref rw_]) := by rw [e5, upd_same]
    have p3 : Paired (NmAt H5) rdv (roadL L) := by rw [e5]; exact Paired.tkN prd (tk_same (s4.trans s5))
    have p4 : Paired (RowAt H5) rwv (L.done.map (·.1)) := by rw [e5]; exact Paired.tkR prw (tk_same (s4.trans s5))
    rw [← e5] at s05 ⊢
    have Y5 := Y.same wf s05
    refine ⟨_, rfl, p, CLm K, dx, _, _, rfl, Y5.ob.at_, T.c_Loom, T.a_Loom_many, rfl, _, rfl, by omega, by omega, fun D hD => ?_⟩
    have hlt : ∀ {j : Nat}, j < L.many → ∃ t, L.thr[j]? = some t := fun {j} hj => ⟨L.thr[j]'(by rw [Y.tlen]; exact hj), List.getElem?_eq_getElem _⟩
    refine lc_range (lo := 0) (n := ((L.many : Nat) : Int).toNat) (fun j G => ∃ ps : List Addr, Same H5 G ∧ G D = some (.lst (ps.map V.ref)) ∧ ps.length = j ∧ ∀ (i : Nat) (b : Addr) (t : Thr), ps[i]? = some b → L.thr[i]? = some t → G b = some (.lst (t.points.map V.int)) ∧ b ≠ D) ⟨[], same_upd hD, upd_same, rfl, fun i b t h => by simp at h⟩ (fun j G hj e => ?_) (fun G e => ?_)
    · obtain ⟨ps, sG, gD, lp, hp⟩ := e
      have hj' : j < L.many := by omega
      obtain ⟨t, ht⟩ := hlt hj'
      have XG := X.same wf (s05.trans sG)
      refine ⟨rfl, _, rfl, p, dx, _, rfl, (s05.trans sG) _ _ Y.ob.at_, rfl, _, rfl, ρ, p, _, L, d, rfl, XG, ok100, fun z => by rcases z with z | z <;> omega, fun i t' q hi ht' hq => ?_⟩
      have ei : i = j := by omega
      subst ei
      rw [ht] at ht'
      cases ht'
      have sq := same_upd (o := .lst (t.points.map V.int)) hq
      have nDq : D ≠ q := ne_of_none gD hq
      refine ⟨_, (upd_ne nDq).trans gD, small6 (by rw [List.length_map, lp]; omega), ps ++ [q], fun b o e => ?_, by rw [upd_same, List.map_append]; rfl, by rw [List.length_append, lp]; rfl, fun i' b t' h1 h2 => ?_⟩
      · rw [upd_ne (ne_of_none e hD)]
        exact sq b o (sG b o e)
      · by_cases hi' : i' < ps.length
        · rw [List.getElem?_append_left hi'] at h1
          obtain ⟨z1, z2⟩ := hp i' b t' h1 h2
          exact ⟨(upd_ne z2).trans (sq _ _ z1), z2⟩
        · have : i' = ps.length := by
            have := (List.getElem?_eq_some_iff.mp h1).1
            rw [List.length_append] at this
            simp at this
            omega
          subst this
          rw [List.getElem?_concat_length] at h1
          cases h1
          rw [lp, ht] at h2
          cases h2
          exact ⟨(upd_ne nDq.symm).trans upd_same, nDq.symm⟩
    · obtain ⟨ps, sG, gD, lp, hp⟩ := e
      have s0G := s05.trans sG
      have wfG : Wf ρ G := fun b e => wf b (s0G.free e)
      refine ⟨_, rfl, _, rfl, p, dx, _, rfl, s0G _ _ Y.ob.at_, rfl, ρ, p, L, d, rfl, wfG, X.same wf s0G, hm, ok100, fun sa kvs H7 hsa s7 esa sk => ?_⟩
      have s07 := s0G.trans s7
      have wf7 : Wf ρ H7 := fun b e => wf b (s07.free e)
      refine ⟨_, rfl, p, dx, _, rfl, s07 _ _ Y.ob.at_, rfl, ρ, p, L, d, rfl, wf7, X.same wf s07, hm, ok100, fun ua H8 hua s8 eua => ?_⟩
      refine ⟨_, rfl, (by show 4 ≤ sizeLine; decide), fun a ha => ?_⟩
      have s9 := same_upd (o := .tup [.ref fa, .ref sa, .ref ua, .ref D]) ha
      have sA := s7.trans (s8.trans s9)
      have sB := sG.trans sA
      refine k (.ref a) _ (s07.trans (s8.trans s9)) ⟨a, fa, sa, ua, D, pl, st, rd, rw_, kvs, rdv, rwv, ps, rfl, upd_same, sB _ _ g5, sB _ _ g1, sB _ _ g2, sB _ _ g3, Paired.tkN p3 (tk_same sB), sB _ _ g4, Paired.tkR p4 (tk_same sB), (s8.trans s9) _ _ esa, sk.tk (tk_same (s8.trans s9)), s9 _ _ eua, sA _ _ gD, by rw [Y.tlen]; omega, fun i b t h1 h2 => sA _ _ (hp i b t h1 h2).1⟩
end
end Bk
set_option Elab.async false
set_option linter.all false
set_option maxRecDepth 100000
set_option maxHeartbeats 4000000
/-! What is refused, and how; a deed that may not be. -/
namespace Bk
open PySem PySem.Spec PyProof.Rows L2
inductive Due (L : Lm) (H : Hp) : V → Str → Prop
  | one {v : V} {w : Str} {h : Int} : TupAt H v [.str w, .int h] → (w = "own" ∨ w = "points" ∨ w = "words" ∨ w = "throw" ∨ w = "write") → BadHand L h → Due L H v "hand"
  | hand {v : V} {h : Int} {n : Nm} : RowAt H v (.use h n) → BadHand L h → Due L H v "hand"
  | letter {v : V} {h : Int} {n : Nm} : RowAt H v (.use h n) → ¬ BadHand L h → ¬ UseOk L h n → Due L H v "letter"
theorem Due.tk {L : Lm} {H H' : Hp} {v : V} {w : Str} (x : Due L H v w) (k : TupK H H') : Due L H' v w := by
  cases x with
  | one a b c => exact .one (a.tk k) b c
  | hand a b => exact .hand (a.tk k) b
  | letter a b c => exact .letter (a.tk k) b c
def sp_Lrefused (K : PySem.W.Frag) : Sp := fun vs H Q _ => ∃ (ρ : Rl) (p : Addr) (L : Lm) (d : DP) (rv : V) (due : Str), vs = [.ref p, rv] ∧ Wf ρ H ∧ LmIs K ρ H p L d ∧ L.many ≤ 5 ∧ L.Ok 50 ∧ Due L H rv due ∧ ∀ H' : Hp, Same H H' → Q (.str due) H'
def errs : List Str := ["NoLoom", "NoMark", "NoOrder", "NoPoint", "NoRow", "NoSize", "NoText", "NotDone", "TooSoon"]
section
variable {P : Program} {w : World} {K : PySem.W.Frag} {mg : Str → Option Value} {base : Heap}
theorem any_NoHand (T : Txt K mg) : PySem.W.kitAny K (.ref (He.ga K "NoHand")) (errs.map fun x => .ref (He.ga K x)) = some false := by
  have one : ∀ y ∈ errs, PySem.W.kitOne K (.ref (He.ga K "NoHand")) (.ref (He.ga K y)) = some false := fun y hy => by
    have h1 : y ∈ exNames := by
      simp only [errs, List.mem_cons, List.not_mem_nil, or_false] at hy
      rcases hy with rfl | rfl | rfl | rfl | rfl | rfl | rfl | rfl | rfl <;> decide
    rw [T.kit_NoHand y h1]
    simp only [errs, List.mem_cons, List.not_mem_nil, or_false] at hy
    rcases hy with rfl | rfl | rfl | rfl | rfl | rfl | rfl | rfl | rfl <;> decide
  have go : ∀ l : List Str, (∀ y ∈ l, y ∈ errs) → PySem.W.kitAny K (.ref (He.ga K "NoHand")) (l.map fun x => .ref (He.ga K x)) = some false := by
    intro l
    induction l with
    | nil => intro _; rfl
    | cons y r ih =>
      intro h
      show (match PySem.W.kitOne K (.ref (He.ga K "NoHand")) (.ref (He.ga K y)) with | some true => some true | some false => PySem.W.kitAny K _ _ | none => none) = some false
      rw [one y (h y List.mem_cons_self)]
      exact ih fun z hz => h z (List.mem_cons_of_mem _ hz)
  exact go errs fun _ h => h
theorem any_NoLetter (T : Txt K mg) : PySem.W.kitAny K (.ref (He.ga K "NoLetter")) (errs.map fun x => .ref (He.ga K x)) = some false := by
  have one : ∀ y ∈ errs, PySem.W.kitOne K (.ref (He.ga K "NoLetter")) (.ref (He.ga K y)) = some false := fun y hy => by
    have h1 : y ∈ exNames := by
      simp only [errs, List.mem_cons, List.not_mem_nil, or_false] at hy
      rcases hy with rfl | rfl | rfl | rfl | rfl | rfl | rfl | rfl | rfl <;> decide
    rw [T.kit_NoLetter y h1]
    simp only [errs, List.mem_cons, List.not_mem_nil, or_false] at hy
    rcases hy with rfl | rfl | rfl | rfl | rfl | rfl | rfl | rfl | rfl <;> decide
  have go : ∀ l : List Str, (∀ y ∈ l, y ∈ errs) → PySem.W.kitAny K (.ref (He.ga K "NoLetter")) (l.map fun x => .ref (He.ga K x)) = some false := by
    intro l
    induction l with
    | nil => intro _; rfl
    | cons y r ih =>
      intro h
      show (match PySem.W.kitOne K (.ref (He.ga K "NoLetter")) (.ref (He.ga K y)) with | some true => some true | some false => PySem.W.kitAny K _ _ | none => none) = some false
      rw [one y (h y List.mem_cons_self)]
      exact ih fun z hz => h z (List.mem_cons_of_mem _ hz)
  exact go errs fun _ h => h
theorem cls_errs : ∀ l : List Str, Paired ClsV (l.map fun x => V.ref (He.ga K x)) (l.map fun x => Value.ref (He.ga K x))
  | [] => .nil
  | x :: r => .cons (.own _) (cls_errs r)
theorem scLrefused : FnScope ["_law_loom", "_law_row", "_law_error", "e"] ["_law_loom", "_law_row"] (defScope sLrefused) := ⟨rfl, rfl, rfl, by decide +kernel, rfl, by decide +kernel, by decide +kernel⟩
set_option maxHeartbeats 8000000 in
theorem ok_Lrefused (T : Txt K mg) : OK P w K mg base CX0 8 ("_law_refused", none) ["_law_loom", "_law_row"] (sp_Lrefused K) := by
  obtain ⟨fdLasked, GLasked, bLasked, kLasked⟩ := (ok_Lasked (P := P) (w := w) (base := base) T).ex
  refine OK.mk0 T.f_Lrefused scLrefused (fun _ _ _ _ _ _ us hl => match us, hl with | [_, _], _ => rfl) (fun vs H Q E h => ?_) (fun cdv A outer s H vs Q E hr h => ?_)
  · obtain ⟨ρ, p, L, d, rv, due, rfl, _⟩ := h
    rfl
  · obtain ⟨ρ, p, L, d, rv, due, rfl, wf, X, hm, ok, du, k⟩ := h
    have hHH := (T.kit_NoHand "NoHand" (by decide)).trans (show _ = some true by decide)
    have hHL := (T.kit_NoHand "NoLetter" (by decide)).trans (show _ = some false by decide)
    have hLH := (T.kit_NoLetter "NoHand" (by decide)).trans (show _ = some false by decide)
    have hLL := (T.kit_NoLetter "NoLetter" (by decide)).trans (show _ = some true by decide)
    refine ⟨_, (pss_cons (ps_set (i := 2) scLrefused.nd rfl (Or.inl rfl) pe_non)
      (pss_cons (ps_try_keep (i := 3) rfl rfl rfl scLrefused.nd rfl rfl ⟨rfl, by decide, .inl T.g_WeaveError⟩ (fun W pn xe tk po => (pss_one (ps_expr (pe_callS GLasked (hr.mono (by decide)) rfl T.g_Lasked kLasked bLasked (fun σ => passAt tk σ) (pa_cons (pv 0) (pa_cons (pv 1) pa_nil)))))) (fun a oe pn => (pss_one (ps_set (i := 2) scLrefused.nd rfl (Or.inl rfl) (pv 3)))))
      (pss_cons (ps_if (pt_val (pe_callB call_isEoT (by rfl) T.n_isinstance (by decide +kernel) (pa_cons (pv 2) (pa_cons (pe_tup (pa_cons (pe_glob (v := V.ref (He.ga K "NoLoom")) rfl T.g_NoLoom rfl) (pa_cons (pe_glob (v := V.ref (He.ga K "NoMark")) rfl T.g_NoMark rfl) (pa_cons (pe_glob (v := V.ref (He.ga K "NoOrder")) rfl T.g_NoOrder rfl) (pa_cons (pe_glob (v := V.ref (He.ga K "NoPoint")) rfl T.g_NoPoint rfl) (pa_cons (pe_glob (v := V.ref (He.ga K "NoRow")) rfl T.g_NoRow rfl) (pa_cons (pe_glob (v := V.ref (He.ga K "NoSize")) rfl T.g_NoSize rfl) (pa_cons (pe_glob (v := V.ref (He.ga K "NoText")) rfl T.g_NoText rfl) (pa_cons (pe_glob (v := V.ref (He.ga K "NotDone")) rfl T.g_NotDone rfl) (pa_cons (pe_glob (v := V.ref (He.ga K "TooSoon")) rfl T.g_TooSoon rfl) pa_nil)))))))))) pa_nil)))) (pss_one (ps_ret pe_str)) pss_nil)
      (pss_cons (ps_if (PW.pt (pw_or (PW.pt (pw_and (pt_val (pe_callB call_isEo (by rfl) T.n_isinstance (by decide +kernel) (pa_cons (pv 2) (pa_cons (pe_glob (v := V.ref (He.ga K "NoHand")) rfl T.g_NoHand rfl) pa_nil)))) (pw_and1 (pt_val (pe_callB call_isEo (by rfl) T.n_isinstance (by decide +kernel) (pa_cons (pv 2) (pa_cons (pe_glob (v := V.ref (He.ga K "NoLetter")) rfl T.g_NoLetter rfl) pa_nil))))))) (pw_or1 (pt_not (pt_val (pe_callB call_isEo (by rfl) T.n_isinstance (by decide +kernel) (pa_cons (pv 2) (pa_cons (pe_bltn (v := V.ty "ValueError") (u := .type "ValueError") (by rfl) T.n_ValueError (by decide +kernel) rfl) pa_nil)))))))) (pss_one (ps_ret pe_str)) pss_nil)
      (pss_cons (ps_if (pt_val (pe_callB call_isEo (by rfl) T.n_isinstance (by decide +kernel) (pa_cons (pv 2) (pa_cons (pe_glob (v := V.ref (He.ga K "NoHand")) rfl T.g_NoHand rfl) pa_nil)))) (pss_one (ps_ret pe_str)) pss_nil)
      (pss_one (ps_ret (pe_ix ix_list (pe_lst (pa_cons pe_str (pa_cons pe_str pa_nil))) (pe_callTy call_int1 (by rfl) T.n_int (by decide +kernel) (pa_cons (pe_callB call_isEo (by rfl) T.n_isinstance (by decide +kernel) (pa_cons (pv 2) (pa_cons (pe_glob (v := V.ref (He.ga K "NoLetter")) rfl T.g_NoLetter rfl) pa_nil))) pa_nil)) (fun _ _ => rfl))))))))), ?_⟩
    refine ⟨_, rfl, _, rfl, ρ, p, L, d, rv, rfl, wf, X, hm, ok, ?_⟩
    cases du with
    | @one w0 h tv hw bh =>
      refine .one tv hw bh ⟨rfl, T.x_NoHand_WeaveError, fun a ha => ⟨_, rfl, ?_⟩⟩
      have s1 := same_upd (o := ErO (.ref (He.ga K "NoHand")) a) ha
      refine ⟨_, rfl, (by show 9 ≤ sizeLine; decide), fun tp htp => ?_⟩
      have s2 := same_upd (o := .tup (errs.map fun x => V.ref (He.ga K x))) htp
      have ea := s2 _ _ (show upd H a (ErO (.ref (He.ga K "NoHand")) a) a = _ from upd_same)
      refine ⟨a, _, tp, errs.map fun x => V.ref (He.ga K x), _, false, rfl, upd_same, cls_errs errs, ea, T.xc_NoHand, any_NoHand T, _, rfl, iteF ?_⟩
      refine ⟨_, rfl, a, _, _, _, true, rfl, .own _, ea, T.xc_NoHand, hHH, _, rfl, iteT ⟨_, rfl, a, _, _, _, false, rfl, .own _, ea, T.xc_NoHand, hHL, _, rfl, iteF ⟨_, rfl, a, _, _, _, true, rfl, .ty _, ea, T.xc_NoHand, T.xv_NoHand, _, rfl, iteF ?_⟩⟩⟩
      exact ⟨_, rfl, a, _, _, _, true, rfl, .own _, ea, T.xc_NoHand, hHH, _, rfl, iteT (k _ (s1.trans s2))⟩
    | @hand h n hrow bh =>
      refine .hand hrow bh ⟨rfl, T.x_NoHand_WeaveError, fun a ha => ⟨_, rfl, ?_⟩⟩
      have s1 := same_upd (o := ErO (.ref (He.ga K "NoHand")) a) ha
      refine ⟨_, rfl, (by show 9 ≤ sizeLine; decide), fun tp htp => ?_⟩
      have s2 := same_upd (o := .tup (errs.map fun x => V.ref (He.ga K x))) htp
      have ea := s2 _ _ (show upd H a (ErO (.ref (He.ga K "NoHand")) a) a = _ from upd_same)
      refine ⟨a, _, tp, errs.map fun x => V.ref (He.ga K x), _, false, rfl, upd_same, cls_errs errs, ea, T.xc_NoHand, any_NoHand T, _, rfl, iteF ?_⟩
      refine ⟨_, rfl, a, _, _, _, true, rfl, .own _, ea, T.xc_NoHand, hHH, _, rfl, iteT ⟨_, rfl, a, _, _, _, false, rfl, .own _, ea, T.xc_NoHand, hHL, _, rfl, iteF ⟨_, rfl, a, _, _, _, true, rfl, .ty _, ea, T.xc_NoHand, T.xv_NoHand, _, rfl, iteF ?_⟩⟩⟩
      exact ⟨_, rfl, a, _, _, _, true, rfl, .own _, ea, T.xc_NoHand, hHH, _, rfl, iteT (k _ (s1.trans s2))⟩
    | @letter h n hrow nb nu =>
      refine .letter hrow nb nu fun H1 s0 => ⟨rfl, T.x_NoLetter_WeaveError, fun a ha => ⟨_, rfl, ?_⟩⟩
      have s1 := same_upd (o := ErO (.ref (He.ga K "NoLetter")) a) ha
      refine ⟨_, rfl, (by show 9 ≤ sizeLine; decide), fun tp htp => ?_⟩
      have s2 := same_upd (o := .tup (errs.map fun x => V.ref (He.ga K x))) htp
      have ea := s2 _ _ (show upd H1 a (ErO (.ref (He.ga K "NoLetter")) a) a = _ from upd_same)
      refine ⟨a, _, tp, errs.map fun x => V.ref (He.ga K x), _, false, rfl, upd_same, cls_errs errs, ea, T.xc_NoLetter, any_NoLetter T, _, rfl, iteF ?_⟩
      refine ⟨_, rfl, a, _, _, _, false, rfl, .own _, ea, T.xc_NoLetter, hLH, _, rfl, iteF (iteF ⟨_, rfl, a, _, _, _, true, rfl, .ty _, ea, T.xc_NoLetter, T.xv_NoLetter, _, rfl, iteF ?_⟩)⟩
      refine ⟨_, rfl, a, _, _, _, false, rfl, .own _, ea, T.xc_NoLetter, hLH, _, rfl, iteF ⟨(by show 2 ≤ sizeLine; decide), fun l hl => ?_⟩⟩
      have s3 := same_upd (o := .lst [.str "other", .str "letter"]) hl
      refine ⟨_, rfl, a, _, _, _, true, rfl, .own _, s3 _ _ ea, T.xc_NoLetter, hLL, .inr ⟨true, rfl, l, _, 1, .str "letter", rfl, rfl, SqL.of upd_same, rfl, ?_⟩⟩
      exact k _ (s0.trans (s1.trans (s2.trans s3)))
end
end Bk
set_option Elab.async false
set_option linter.all false
set_option maxRecDepth 100000
set_option maxHeartbeats 4000000
/-! A deed that may not be. -/
namespace Bk
open PySem PySem.Spec PyProof.Rows L2
/-- a bad row and the word due for it, over a model -/
inductive DueC (c : Co) (o : Bool) (H : Hp) : V → Str → Prop
  | one {v : V} {w : Str} {h : Int} : TupAt H v [.str w, .int h] → (w = "own" ∨ w = "points" ∨ w = "words" ∨ w = "throw" ∨ w = "write") → (h < 0 ∨ (c.E.length : Nat) ≤ h) → DueC c o H v "hand"
  | hand {v : V} {h : Int} {n : Nm} : RowAt H v (.use h n) → (h < 0 ∨ (c.E.length : Nat) ≤ h) → DueC c o H v "hand"
  | letter {v : V} {h : Int} {n : Nm} : RowAt H v (.use h n) → ¬ (h < 0 ∨ (c.E.length : Nat) ≤ h) → ¬ MayUse o c h n → DueC c o H v "letter"
theorem DueC.due {L : Lm} {H : Hp} {v : V} {w : Str} {c : Co} {o : Bool} (x : DueC c o H v w) (ec : L.co = c) (eo : L.ord = o) (em : L.many = c.E.length) : Due L H v w := by
  cases x with
  | one a b h => exact .one a b (show _ ∨ _ by rw [em]; exact h)
  | hand a h => exact .hand a (show _ ∨ _ by rw [em]; exact h)
  | letter a h u =>
    refine .letter a (fun z => h (by rw [← em]; exact z)) fun z => u ?_
    have z := useOk_iff.mp z
    rw [ec, eo] at z
    exact z
theorem frDs_lay : ∀ zs : List Fr, PyData.canLayAll0 (zs.map frPD) = true
  | [] => by simp [PyData.canLayAll0]
  | z :: zs => by
    have h1 := frDs_lay zs
    simp only [List.map_cons, PyData.canLayAll0, h1, Bool.and_true]
    simp [frPD, nmD, PyData.canLay0, PyData.canLayAll0]
theorem frDs_depth : ∀ zs : List Fr, PyData.depthAll (zs.map frPD) ≤ 2
  | [] => by simp [PyData.depthAll]
  | z :: zs => by
    have h1 := frDs_depth zs
    have h2 : (frPD z).depth = 2 := by simp [frPD, nmD, PyData.depth, PyData.depthAll]
    simp only [List.map_cons, PyData.depthAll]
    omega
theorem frD_shaped (w : Fr) : SeqAt.shaped (frPD w) = true := by
  have h2 : (frPD w).depth ≤ 64 := by
    have : (frPD w).depth = 2 := by simp [frPD, nmD, PyData.depth, PyData.depthAll]
    omega
  show ((frPD w).canLay0 && decide ((frPD w).depth ≤ 64)) = true
  rw [Bool.and_eq_true]
  exact ⟨by simp [frPD, nmD, PyData.canLay0, PyData.canLayAll0], decide_eq_true h2⟩
theorem frDs_shaped (zs : List Fr) : SeqAt.shaped (.list (zs.map frPD)) = true := by
  have h1 := frDs_depth zs
  have h2 : PyData.depth (.list (zs.map frPD)) ≤ 64 := by
    simp only [PyData.depth]
    omega
  show (PyData.canLay0 (.list (zs.map frPD)) && decide (PyData.depth (.list (zs.map frPD)) ≤ 64)) = true
  rw [Bool.and_eq_true]
  refine ⟨?_, decide_eq_true h2⟩
  simp only [PyData.canLay0]
  exact frDs_lay zs
theorem frD_eqv (n m : Fr) : PyData.eqv (frPD n) (frPD m) = decide (n = m) := by
  have e : PyData.eqv (frPD n) (frPD m) = ((n.1 == m.1) && (PyData.eqv (nmD n.2) (nmD m.2) && true)) := by simp only [frPD, PyData.eqv, PyData.eqvAll]
  rw [e, Bool.and_true, nmD_eqv]
  by_cases h : n = m
  · subst h
    simp
  · rw [decide_eq_false h]
    by_cases h1 : n.1 = m.1
    · by_cases h2 : n.2 = m.2
      · exact absurd (Prod.ext h1 h2) h
      · simp [h2]
    · simp [h1]
theorem frD_any (n : Fr) : ∀ zs : List Fr, ((zs.map frPD).any fun z => PyData.eqv z (frPD n)) = decide (n ∈ zs)
  | [] => rfl
  | z :: r => by
    rw [List.map_cons, List.any_cons, frD_any n r, frD_eqv]
    by_cases h : z = n
    · subst h
      simp
    · have h' : ¬ n = z := fun e => h e.symm
      simp [h, h']
theorem frs_dp {K : PySem.W.Frag} {H : Hp} : ∀ {xs : List V} {ns : List Fr}, Paired (FrAt H) xs ns → DpAll K H xs (ns.map frPD)
  | _, _, .nil => .nil
  | _, _, .cons h t => .cons (fr_dp h) (frs_dp t)
theorem upd_at {H : Hp} {a : Addr} {o : HO} (_ : H a = none) : upd H a o a = some o := upd_same
theorem at_mod {α : Type} {xs : List α} {i n : Int} (hn : ((xs.length : Nat) : Int) = n) (h0 : 0 < n) : ∃ (j : Nat) (v : α), xs[j]? = some v ∧ v ∈ xs ∧ atI xs (i % n) = some v := by
  have r1 := Int.emod_nonneg i (show n ≠ 0 by omega)
  have r2 := Int.emod_lt_of_pos i h0
  obtain ⟨j, hj⟩ := Int.eq_ofNat_of_zero_le r1
  have hl : j < xs.length := by omega
  refine ⟨j, xs[j], List.getElem?_eq_getElem hl, List.getElem_mem hl, ?_⟩
  rw [hj]
  exact atI_nat (List.getElem?_eq_getElem hl)
def sp_Lbad (K : PySem.W.Frag) : Sp := fun vs H Q _ => ∃ (ρ : Rl) (m nl : Addr) (c : Co) (sts : List Int) (o : Bool) (nvs : List V) (ns : List Nm) (cell : Int), vs = [.ref m, .bl o, .ref nl, .int cell] ∧ Wf ρ H ∧ MdIs ρ H m c sts ∧ COk c ∧ 2 ≤ c.E.length ∧ (∀ n ∈ c.O, ∃ lt, letAt c.E n = some lt) ∧
  H nl = some (.lst nvs) ∧ Paired (NmAt H) nvs ns ∧ nvs.length ≤ 1000 ∧ ∀ (v rv : V) (wd : Str) (H' : Hp), Same H H' → TupAt H' v [rv, .str wd] → DueC c o H' rv wd → Q v H'
section
variable {P : Program} {w : World} {K : PySem.W.Frag} {mg : Str → Option Value} {base : Heap}
theorem scLbad : FnScope ["_law_model", "_law_ordered", "_law_names", "_law_cell", "_law_many", "_law_free_here", "_law_name", "_law_hand", "_law_word"] ["_law_model", "_law_ordered", "_law_names", "_law_cell"] (defScope sLbad) := ⟨rfl, rfl, rfl, by decide +kernel, rfl, by decide +kernel, by decide +kernel⟩
set_option maxHeartbeats 8000000 in
theorem ok_Lbad (T : Txt K mg) : OK P w K mg base CX0 3 ("_law_bad", none) ["_law_model", "_law_ordered", "_law_names", "_law_cell"] (sp_Lbad K) := by
  obtain ⟨fdLfree, GLfree, bLfree, kLfree⟩ := (ok_Lfree (P := P) (w := w) (base := base) T).ex
  refine OK.mk0 T.f_Lbad scLbad (fun _ _ _ _ _ _ us hl => match us, hl with | [_, _, _, _], _ => rfl) (fun vs H Q E h => ?_) (fun cdv A outer s H vs Q E hr h => ?_)
  · obtain ⟨ρ, m, nl, c, sts, o, nvs, ns, cell, rfl, _⟩ := h
    rfl
  · obtain ⟨ρ, m, nl, c, sts, o, nvs, ns, cell, rfl, wf, ⟨E, O, S, es, ovs, X⟩, ok, h2, hsent, hnl, pn, lnv, k⟩ := h
    have hm5 := ok.many
    have les : es.length = c.E.length := X.len
    have p8 : (0 : Int) < 8 := by decide
    have p3 : (0 : Int) < 3 := by decide
    have p4 : (0 : Int) < 4 := by decide
    have z3 : 3 ≤ sizeLine := by decide
    have z2 : 2 ≤ sizeLine := by decide
    have z4 : 4 ≤ sizeLine := by decide
    refine ⟨_, (pss_cons (ps_set (i := 4) scLbad.nd rfl (Or.inl rfl) (pe_callB call_len_seq (by rfl) T.n_len PySem.boot_len (pa_cons (pe_dget (hu_of hr) (pv 0) pe_str (fun _ _ => rfl)) pa_nil)))
      (pss_cons (ps_set (i := 5) scLbad.nd rfl (Or.inl rfl) (pe_call GLfree (hr.mono (by decide)) rfl T.g_Lfree kLfree bLfree .nil pass0 (pa_cons (pv 0) (pa_cons (pv 1) pa_nil))))
      (pss_cons (ps_set (i := 2) scLbad.nd rfl (Or.inl rfl) (pe_op op_cat (pv 2) (pe_lst (pa_cons (pe_tup (pa_cons pe_int (pa_cons pe_int (pa_cons pe_int pa_nil)))) (pa_cons (pe_tup (pa_cons (pv 4) (pa_cons pe_int (pa_cons pe_int pa_nil)))) (pa_cons (pe_tup (pa_cons (pe_un un_neg pe_int) (pa_cons pe_int (pa_cons pe_int pa_nil)))) pa_nil))))))
      (pss_cons (ps_set (i := 6) scLbad.nd rfl (Or.inl rfl) (pe_ix ix_list (pv 2) (pe_op op_mod (pe_op op_fdiv (pv 3) pe_int) (pe_callB call_len_seq (by rfl) T.n_len PySem.boot_len (pa_cons (pv 2) pa_nil))) (fun _ _ => rfl)))
      (pss_cons (ps_set (i := 7) scLbad.nd rfl (Or.inl rfl) (pe_op op_mod (pe_op op_fdiv (pv 3) pe_int) (pv 4)))
      (pss_cons (ps_if (pt_cmpR op_eq (pe_op op_mod (pv 3) pe_int) pe_int (nomark _)) (pss_cons (ps_set (i := 8) scLbad.nd rfl (Or.inl rfl) (pe_ix ix_list (pe_lst (pa_cons pe_str (pa_cons pe_str (pa_cons pe_str (pa_cons pe_str pa_nil))))) (pe_op op_mod (pe_op op_fdiv (pv 3) pe_int) pe_int) (fun _ _ => rfl)))
      (pss_one (ps_ret (pe_tup (pa_cons (pe_tup (pa_cons (pv 8) (pa_cons (pe_ix ix_list (pe_lst (pa_cons (pe_un un_neg pe_int) (pa_cons (pv 4) (pa_cons (pe_op op_add (pv 4) pe_int) pa_nil)))) (pe_op op_mod (pe_op op_fdiv (pv 3) pe_int) pe_int) (fun _ _ => rfl)) pa_nil))) (pa_cons pe_str pa_nil)))))) pss_nil)
      (pss_cons (ps_if (pt_cmpR op_eq (pe_op op_mod (pv 3) pe_int) pe_int (nomark _)) (pss_one (ps_ret (pe_tup (pa_cons (pe_tup (pa_cons pe_str (pa_cons (pe_ix ix_list (pe_lst (pa_cons (pe_un un_neg pe_int) (pa_cons (pv 4) (pa_cons (pe_op op_sub pe_int (pv 4)) pa_nil)))) (pe_op op_mod (pe_op op_fdiv (pv 3) pe_int) pe_int) (fun _ _ => rfl)) pa_nil))) (pa_cons pe_str pa_nil))))) pss_nil)
      (pss_cons (ps_if (pt_cmpR op_eq (pe_op op_mod (pv 3) pe_int) pe_int (nomark _)) (pss_one (ps_ret (pe_tup (pa_cons (pe_tup (pa_cons pe_str (pa_cons (pe_ix ix_list (pe_lst (pa_cons (pe_un un_neg pe_int) (pa_cons (pv 4) (pa_cons (pe_op op_pow pe_int pe_int) pa_nil)))) (pe_op op_mod (pe_op op_fdiv (pv 3) pe_int) pe_int) (fun _ _ => rfl)) (pa_cons (pv 6) pa_nil)))) (pa_cons pe_str pa_nil))))) pss_nil)
      (pss_cons (ps_if (pt_cmpR (op_inD (hu65 hr)) (pe_tup (pa_cons (pv 7) (pa_cons (pv 6) pa_nil))) (pv 5) (by with_unfolding_all rfl)) (pss_one (ps_ret (pe_tup (pa_cons (pe_tup (pa_cons pe_str (pa_cons (pe_op op_mod (pe_op op_add (pv 7) pe_int) (pv 4)) (pa_cons (pv 6) pa_nil)))) (pa_cons pe_str pa_nil))))) pss_nil)
      (pss_one (ps_ret (pe_tup (pa_cons (pe_tup (pa_cons pe_str (pa_cons (pv 7) (pa_cons (pv 6) pa_nil)))) (pa_cons pe_str pa_nil)))))))))))))), ?_⟩
    refine ⟨_, rfl, m, _, rfl, md_gE X (Same.refl _), E, _, rfl, .inl (SqL.of X.ev.at_), ?_⟩
    rw [List.length_map, les]
    refine ⟨_, rfl, _, rfl, ρ, m, c, sts, o, rfl, wf, ⟨E, O, S, es, ovs, X⟩, ok, hsent, fun qF fv H1 hqF s1 eF pF => ?_⟩
    refine ⟨_, rfl, z3, fun t1 ht1 => ⟨_, rfl, z3, fun t2 ht2 => ⟨_, rfl, z3, fun t3 ht3 => ⟨z3, fun l0 hl0 => ?_⟩⟩⟩⟩
    have s2 := same_upd (o := .tup [V.int 0, V.int 99, V.int 0]) ht1
    have s3 := same_upd (o := .tup [V.int ((c.E.length : Nat) : Int), V.int 1, V.int 0]) ht2
    have s4 := same_upd (o := .tup [V.int (-1), V.int 1, V.int 0]) ht3
    have s5 := same_upd (o := .lst [V.ref t1, V.ref t2, V.ref t3]) hl0
    have e1 := (s3.trans (s4.trans s5)) _ _ (show upd H1 t1 _ t1 = some (.tup [V.int 0, V.int 99, V.int 0]) from upd_same)
    have e2 := (s4.trans s5) _ _ (show upd (upd H1 t1 _) t2 _ t2 = some (.tup [V.int ((c.E.length : Nat) : Int), V.int 1, V.int 0]) from upd_same)
    have e3 := s5 _ _ (show upd (upd (upd H1 t1 _) t2 _) t3 _ t3 = some (.tup [V.int (-1), V.int 1, V.int 0]) from upd_same)
    have s15 := s1.trans (s2.trans (s3.trans (s4.trans s5)))
    have pF5 := Paired.tkF pF (tk_same (s2.trans (s3.trans (s4.trans s5))))
    have eF5 := (s2.trans (s3.trans (s4.trans s5))) _ _ eF
    refine ⟨nl, l0, _, _, rfl, rfl, s15 _ _ hnl, upd_same, by show nvs.length + 3 ≤ sizeLine; have := sizeLine_eq; omega, fun n2 hn2 => ?_⟩
    have s6 := same_upd (o := .lst (nvs ++ [V.ref t1, V.ref t2, V.ref t3])) hn2
    have s16 := s15.trans s6
    have pF6 := Paired.tkF pF5 (tk_same s6)
    have eF6 := s6 _ _ eF5
    have pn6 := (fun (G : Hp) (k6 : TupK H G) (a1 : G t1 = some (.tup [V.int 0, V.int 99, V.int 0])) (a2 : G t2 = some (.tup [V.int ((c.E.length : Nat) : Int), V.int 1, V.int 0])) (a3 : G t3 = some (.tup [V.int (-1), V.int 1, V.int 0])) =>
      show Paired (NmAt G) (nvs ++ [V.ref t1, V.ref t2, V.ref t3]) (ns ++ [((0, 99, 0) : Nm), (((c.E.length : Nat) : Int), 1, 0), (-1, 1, 0)]) from
      paired_app (Paired.tkN pn k6) (.cons ⟨t1, rfl, a1⟩ (.cons ⟨t2, rfl, a2⟩ (.cons ⟨t3, rfl, a3⟩ .nil)))) _ (tk_same s16) (s6 _ _ e1) (s6 _ _ e2) (s6 _ _ e3)
    have enl := upd_at (o := .lst (nvs ++ [V.ref t1, V.ref t2, V.ref t3])) hn2
    revert s16 pF6 eF6 pn6 enl
    clear s6 eF5 pF5 s15 e1 e2 e3 s5 s4 s3 s2 s1 eF pF hqF hn2 hl0 ht3 ht2 ht1
    generalize upd _ n2 (.lst (nvs ++ [V.ref t1, V.ref t2, V.ref t3])) = G
    intro sG pF eF pN enl
    have lnp : (0 : Int) < ((nvs ++ [V.ref t1, V.ref t2, V.ref t3]).length : Nat) := by
      rw [List.length_append]
      show (0 : Int) < ((nvs.length + 3 : Nat) : Int)
      omega
    obtain ⟨jn, nv, hjn, _, hnv⟩ := at_mod (xs := nvs ++ [V.ref t1, V.ref t2, V.ref t3]) (i := cell / 8) rfl lnp
    obtain ⟨n, _, hn⟩ := paired_at' pN hjn
    have pm : (0 : Int) < ((c.E.length : Nat) : Int) := by omega
    refine ⟨_, rfl, _, rfl, _, _, rfl, rfl, ⟨by decide, by decide⟩, _, rfl, n2, _, rfl, .inl (SqL.of enl), _, _, rfl, rfl, lnp, n2, _, _, nv, rfl, rfl, SqL.of enl, hnv, ?_⟩
    refine ⟨_, rfl, _, _, rfl, rfl, ⟨by decide, by decide⟩, _, rfl, _, _, rfl, rfl, pm, ?_⟩
    refine ⟨_, rfl, _, _, rfl, rfl, p8, rfl, _, rfl, ite2 (fun _ => ?_) (fun _ => ?_)⟩
    · obtain ⟨j4, v4, _, hm4, ha4⟩ := at_mod (xs := [V.str "own", V.str "points", V.str "words", V.str "throw"]) (i := cell / 24) (n := 4) rfl p4
      refine ⟨z4, fun l hl => ⟨_, rfl, _, _, rfl, rfl, ⟨by decide, by decide⟩, _, _, rfl, rfl, p4, l, _, _, v4, rfl, rfl, SqL.of upd_same, ha4, ?_⟩⟩
      obtain ⟨j3, v3, _, hm3, ha3⟩ := at_mod (xs := [V.int (-1), V.int ((c.E.length : Nat) : Int), V.int (((c.E.length : Nat) : Int) + 7)]) (i := cell / 8) (n := 3) rfl p3
      refine ⟨_, rfl, _, rfl, _, rfl, _, rfl, _, _, rfl, rfl, z3, fun l2 hl2 => ⟨_, rfl, _, _, rfl, rfl, ⟨by decide, by decide⟩, _, _, rfl, rfl, p3, l2, _, _, v3, rfl, rfl, SqL.of upd_same, ha3, z2, fun t ht => ⟨z2, fun tt htt => ?_⟩⟩⟩
      have sl := same_upd (o := .lst [V.str "own", V.str "points", V.str "words", V.str "throw"]) hl
      have sl2 := same_upd (o := .lst [V.int (-1), V.int ((c.E.length : Nat) : Int), V.int (((c.E.length : Nat) : Int) + 7)]) hl2
      have st := same_upd (o := .tup [v4, v3]) ht
      have stt := same_upd (o := .tup [V.ref t, V.str "hand"]) htt
      refine k _ (.ref t) "hand" _ (sG.trans (sl.trans (sl2.trans (st.trans stt)))) ⟨tt, rfl, upd_same⟩ ?_
      have et := stt _ _ (upd_at (o := .tup [v4, v3]) ht)
      obtain ⟨h, rfl, hb⟩ : ∃ h, v3 = V.int h ∧ (h < 0 ∨ (c.E.length : Nat) ≤ h) := by
        simp only [List.mem_cons, List.not_mem_nil, or_false] at hm3
        rcases hm3 with rfl | rfl | rfl
        · exact ⟨_, rfl, .inl (by decide)⟩
        · exact ⟨_, rfl, .inr (Int.le_refl _)⟩
        · exact ⟨_, rfl, .inr (by omega)⟩
      simp only [List.mem_cons, List.not_mem_nil, or_false] at hm4
      rcases hm4 with rfl | rfl | rfl | rfl
      · exact .one ⟨t, rfl, et⟩ (.inl rfl) hb
      · exact .one ⟨t, rfl, et⟩ (.inr (.inl rfl)) hb
      · exact .one ⟨t, rfl, et⟩ (.inr (.inr (.inl rfl))) hb
      · exact .one ⟨t, rfl, et⟩ (.inr (.inr (.inr (.inl rfl)))) hb
    · refine ⟨_, rfl, _, _, rfl, rfl, p8, rfl, _, rfl, ite2 (fun _ => ?_) (fun _ => ?_)⟩
      · obtain ⟨j3, v3, _, hm3, ha3⟩ := at_mod (xs := [V.int (-1), V.int ((c.E.length : Nat) : Int), V.int (0 - ((c.E.length : Nat) : Int))]) (i := cell / 8) (n := 3) rfl p3
        refine ⟨_, rfl, _, rfl, _, rfl, _, _, rfl, rfl, z3, fun l2 hl2 => ⟨_, rfl, _, _, rfl, rfl, ⟨by decide, by decide⟩, _, _, rfl, rfl, p3, l2, _, _, v3, rfl, rfl, SqL.of upd_same, ha3, z2, fun t ht => ⟨z2, fun tt htt => ?_⟩⟩⟩
        have sl2 := same_upd (o := .lst [V.int (-1), V.int ((c.E.length : Nat) : Int), V.int (0 - ((c.E.length : Nat) : Int))]) hl2
        have st := same_upd (o := .tup [V.str "write", v3]) ht
        have stt := same_upd (o := .tup [V.ref t, V.str "hand"]) htt
        refine k _ (.ref t) "hand" _ (sG.trans (sl2.trans (st.trans stt))) ⟨tt, rfl, upd_same⟩ ?_
        have et := stt _ _ (upd_at (o := .tup [V.str "write", v3]) ht)
        obtain ⟨h, rfl, hb⟩ : ∃ h, v3 = V.int h ∧ (h < 0 ∨ (c.E.length : Nat) ≤ h) := by
          simp only [List.mem_cons, List.not_mem_nil, or_false] at hm3
          rcases hm3 with rfl | rfl | rfl
          · exact ⟨_, rfl, .inl (by decide)⟩
          · exact ⟨_, rfl, .inr (Int.le_refl _)⟩
          · exact ⟨_, rfl, .inl (by omega)⟩
        exact .one ⟨t, rfl, et⟩ (.inr (.inr (.inr (.inr rfl)))) hb
      · refine ⟨_, rfl, _, _, rfl, rfl, p8, rfl, _, rfl, ite2 (fun _ => ?_) (fun _ => ?_)⟩
        · obtain ⟨j3, v3, _, hm3, ha3⟩ := at_mod (xs := [V.int (-1), V.int ((c.E.length : Nat) : Int), V.int (10 ^ (9 : Int).toNat)]) (i := cell / 8) (n := 3) rfl p3
          refine ⟨_, rfl, _, rfl, _, _, rfl, rfl, ⟨by decide, by decide, by decide⟩, z3, fun l2 hl2 => ⟨_, rfl, _, _, rfl, rfl, ⟨by decide, by decide⟩, _, _, rfl, rfl, p3, l2, _, _, v3, rfl, rfl, SqL.of upd_same, ha3, _, rfl, z3, fun t ht => ⟨z2, fun tt htt => ?_⟩⟩⟩
          have sl2 := same_upd (o := .lst [V.int (-1), V.int ((c.E.length : Nat) : Int), V.int (10 ^ (9 : Int).toNat)]) hl2
          have st := same_upd (o := .tup [V.str "use", v3, nv]) ht
          have stt := same_upd (o := .tup [V.ref t, V.str "hand"]) htt
          refine k _ (.ref t) "hand" _ (sG.trans (sl2.trans (st.trans stt))) ⟨tt, rfl, upd_same⟩ ?_
          have et := stt _ _ (upd_at (o := .tup [V.str "use", v3, nv]) ht)
          obtain ⟨h, rfl, hb⟩ : ∃ h, v3 = V.int h ∧ (h < 0 ∨ (c.E.length : Nat) ≤ h) := by
            simp only [List.mem_cons, List.not_mem_nil, or_false] at hm3
            rcases hm3 with rfl | rfl | rfl
            · exact ⟨_, rfl, .inl (by decide)⟩
            · exact ⟨_, rfl, .inr (Int.le_refl _)⟩
            · refine ⟨_, rfl, .inr ?_⟩
              have : ((10 : Int) ^ (9 : Int).toNat) = 1000000000 := by decide
              omega
          exact .hand ⟨nv, hn.tk (tk_same (sl2.trans (st.trans stt))), t, rfl, et⟩ hb
        · have q1 := Int.emod_nonneg (cell / 512) (show ((c.E.length : Nat) : Int) ≠ 0 by omega)
          have q2 := Int.emod_lt_of_pos (cell / 512) pm
          dsimp only
          revert q1 q2
          generalize cell / 512 % ((c.E.length : Nat) : Int) = h
          intro q1 q2
          refine ⟨_, rfl, _, rfl, z2, fun tq htq => ⟨_, rfl, frPD (h, n), _, ?_, .lst (SqL.of ((same_upd htq) _ _ eF)) (frs_dp (Paired.tkF pF (tk_same (same_upd htq)))), frD_shaped _, frDs_shaped _, ?_⟩⟩
          · exact fr_dp ⟨nv, hn.tk (tk_same (same_upd htq)), tq, rfl, upd_same⟩
          have sq := same_upd (o := .tup [V.int h, nv]) htq
          rw [frD_any]
          by_cases hin : (h, n) ∈ freeL c o
          · rw [decide_eq_true hin]
            have hmu := (free_iff hsent).mp (freeL_mem.mp hin)
            refine ⟨_, rfl, iteT ⟨_, rfl, _, _, rfl, rfl, _, rfl, _, _, rfl, rfl, pm, _, rfl, z3, fun t ht => ⟨z2, fun tt htt => ?_⟩⟩⟩
            have st := same_upd (o := .tup [V.str "use", V.int ((h + 1) % ((c.E.length : Nat) : Int)), nv]) ht
            have stt := same_upd (o := .tup [V.ref t, V.str "letter"]) htt
            refine k _ (.ref t) "letter" _ (sG.trans (sq.trans (st.trans stt))) ⟨tt, rfl, upd_same⟩ ?_
            have et := stt _ _ (upd_at (o := .tup [V.str "use", V.int ((h + 1) % ((c.E.length : Nat) : Int)), nv]) ht)
            have r1 := Int.emod_nonneg (h + 1) (show ((c.E.length : Nat) : Int) ≠ 0 by omega)
            have r2 := Int.emod_lt_of_pos (h + 1) pm
            refine .letter (h := (h + 1) % ((c.E.length : Nat) : Int)) ⟨nv, hn.tk (tk_same (sq.trans (st.trans stt))), t, rfl, et⟩ (by omega) fun z => ?_
            have e1 := hmu.1
            have e2 := z.1
            have nh : (h + 1) % ((c.E.length : Nat) : Int) ≠ h := fun e => by
              by_cases hl : h + 1 < ((c.E.length : Nat) : Int)
              · rw [Int.emod_eq_of_lt (by omega) hl] at e
                omega
              · have : h + 1 = ((c.E.length : Nat) : Int) := by omega
                rw [this, Int.emod_self] at e
                omega
            obtain ⟨_, ⟨w1, e1⟩, _⟩ := e1
            obtain ⟨_, ⟨w2, e2⟩, _⟩ := e2
            rw [e1] at e2
            exact nh (congrArg Prod.fst (Option.some.inj e2)).symm
          · rw [decide_eq_false hin]
            refine ⟨_, rfl, iteF ⟨_, rfl, _, rfl, z3, fun t ht => ⟨z2, fun tt htt => ?_⟩⟩⟩
            have st := same_upd (o := .tup [V.str "use", V.int h, nv]) ht
            have stt := same_upd (o := .tup [V.ref t, V.str "letter"]) htt
            refine k _ (.ref t) "letter" _ (sG.trans (sq.trans (st.trans stt))) ⟨tt, rfl, upd_same⟩ ?_
            have et := stt _ _ (upd_at (o := .tup [V.str "use", V.int h, nv]) ht)
            exact .letter (h := h) ⟨nv, hn.tk (tk_same (sq.trans (st.trans stt))), t, rfl, et⟩ (by omega) fun z => hin (freeL_mem.mpr ((free_iff hsent).mpr z))
end
end Bk
set_option Elab.async false
set_option linter.all false
set_option maxRecDepth 100000
set_option maxHeartbeats 4000000
/-! The plain law: who gets a letter; what an option may; what a use leaves. -/
namespace Bk
open PySem PySem.Spec PyProof.Rows L2
section
variable {d : DP} {sts : List Int} {o : Bool} {c : Co} {D : List (Row × Int)}
/-- every letter goes to a hand that there is -/
def Rcv (many : Nat) (E : List (List Ev)) : Prop := ∀ es ∈ E, ∀ e ∈ es, ∀ lt ∈ e.sent, 0 ≤ lt.1 ∧ lt.1 < ((many : Nat) : Int)
theorem Rcv.at_ {many : Nat} {E : List (List Ev)} (R : Rcv many E) {n : Nm} {lt : Lt} (h : letAt E n = some lt) : 0 ≤ lt.1 ∧ lt.1 < ((many : Nat) : Int) := by
  obtain ⟨s, p, k, es, e, _, h1, h2, h3⟩ := letAt_some h
  exact R es (List.mem_of_getElem? h1) e (List.mem_of_getElem? h2) lt (List.mem_of_getElem? h3)
theorem letters_rcv {many : Nat} (hm : d.many = (many : Nat)) (h0 : 0 < many) (h st : Int) (w : Option Int) : ∀ lt ∈ (d.fn h st w).2.1, 0 ≤ lt.1 ∧ lt.1 < ((many : Nat) : Int) := by
  intro lt hlt
  obtain ⟨k, _, rfl⟩ := List.mem_map.mp hlt
  rw [← hm]
  exact ⟨Int.emod_nonneg _ (by omega), Int.emod_lt_of_pos _ (by omega)⟩
theorem Rcv.add {many : Nat} (hm : d.many = (many : Nat)) (h0 : 0 < many) (R : Rcv many c.E) (i : Nat) (us : Option Nm) (wd : Option Int) : Rcv many (c.add d sts i us wd).E := by
  intro es hes e he
  rcases mem_set_or (show es ∈ c.E.set i (c.evs i ++ [c.ev d sts i us wd]) from hes) with z | rfl
  · exact R es z e he
  · rcases List.mem_append.mp he with z | z
    · have h1 : c.evs i ∈ c.E ∨ c.evs i = [] := by
        unfold Co.evs
        rw [List.getD_eq_getElem?_getD]
        cases h : c.E[i]? with
        | none => exact .inr rfl
        | some x => exact .inl (List.mem_of_getElem? h)
      rcases h1 with h1 | h1
      · exact R _ h1 e z
      · rw [h1] at z
        cases z
    · rw [List.mem_singleton.mp z]
      exact letters_rcv hm h0 _ _ _
theorem Hist.rcv (hm : d.many = (sts.length : Nat)) (h0 : 0 < sts.length) (H : Hist d sts o c D) : Rcv sts.length c.E := by
  induction H with
  | nil =>
    intro es hes e he
    rw [(List.mem_replicate.mp hes).2] at he
    cases he
  | @snoc c D r _ ok I =>
    cases r with
    | own h => exact I.add hm h0 _ _ _
    | use h n => exact I.add hm h0 _ _ _
    | write h => exact I
theorem rcv_hand {many : Nat} {h : Int} {n : Nm} (R : Rcv many c.E) (u : MayUse o c h n) : ∃ i : Nat, h = (i : Nat) ∧ i < many := by
  obtain ⟨_, ⟨w, e⟩, _⟩ := u.1
  obtain ⟨a, b⟩ := R.at_ e
  have a : 0 ≤ h := a
  have b : h < ((many : Nat) : Int) := b
  exact ⟨h.toNat, by omega, by omega⟩
theorem opt_ok {many : Nat} (le : c.E.length = many) (R : Rcv many c.E) (hs : ∀ n ∈ c.O, ∃ lt, letAt c.E n = some lt) {r : Row} (hr : r ∈ optL c o) : RowOk o many c r := by
  unfold optL at hr
  rcases List.mem_append.mp hr with hr | hr
  · rcases List.mem_append.mp hr with hr | hr
    · obtain ⟨⟨h, n⟩, hf, rfl⟩ := List.mem_map.mp hr
      have u := (free_iff hs).mp (freeL_mem.mp hf)
      exact ⟨rcv_hand R u, fun h' n' z => by cases z; exact u⟩
    · obtain ⟨k, hk, rfl⟩ := List.mem_map.mp hr
      exact ⟨⟨k, rfl, by rw [← le]; exact List.mem_range.mp hk⟩, fun h' n' z => nomatch z⟩
  · obtain ⟨k, hk, rfl⟩ := List.mem_map.mp hr
    exact ⟨⟨k, rfl, by rw [← le]; exact List.mem_range.mp hk⟩, fun h' n' z => nomatch z⟩
theorem opt_ne (h0 : 0 < c.E.length) : 0 < (optL c o).length := by
  unfold optL
  rw [List.length_append, List.length_map (as := List.range c.E.length), List.length_range]
  omega
theorem opt_len (l1 : c.E.length ≤ 5) (l2 : c.O.length ≤ 150) : (optL c o).length ≤ 160 := by
  unfold optL
  rw [List.length_append, List.length_append, List.length_map, List.length_map, List.length_map, List.length_range]
  have := freeL_len c o
  omega
/-- who may use, may by his row -/
theorem mayUse_row {h : Int} {n : Nm} (R : Rcv sts.length c.E) (u : MayUse o c h n) : RowOk o sts.length c (.use h n) := ⟨rcv_hand R u, fun h' n' z => by cases z; exact u⟩
/-- what has been used is not on the road -/
theorem used_road {m : Nat} {L : Lm} (X : LmInv d sts o c D m L) {h : Int} {n : Nm} (ok : RowOk o sts.length c (.use h n)) : n ∉ roadL (L.act d (.use h n)) := by
  have Y := X.step ok
  obtain ⟨⟨i, hi, hlt⟩, _⟩ := ok
  have hi : h = (i : Nat) := hi
  have hlc : i < c.E.length := by rw [X.h.inv.lenE]; exact hlt
  have hu : UsedIn (L.act d (.use h n)).co.E n := by
    rw [Y.co]
    have e : (c.step d sts (.use h n)).E = c.E.set i (c.evs i ++ [c.ev d sts i (some n) (c.word n)]) := by
      show (c.add d sts h.toNat (some n) (c.word n)).E = _
      rw [hi, Int.toNat_natCast]
      rfl
    rw [e]
    exact ⟨i, (c.evs i).length, (usedAt_set (evs_at hlc)).mpr (.inr ⟨rfl, rfl, rfl⟩)⟩
  have hb := usedB_iff.mpr hu
  intro z
  have z := (List.mem_filter.mp (sortN_mem.mp z)).2
  have hb : (lookU (usedAll [] (L.act d (.use h n)).evss) n).isSome = true := hb
  rw [hb] at z
  cases z
end
end Bk
set_option Elab.async false
set_option linter.all false
set_option maxRecDepth 100000
set_option maxHeartbeats 4000000
/-! A loom made; the letters let. -/
namespace Bk
open PySem PySem.Spec PyProof.Rows L2
theorem init_use {K : PySem.W.Frag} {ρ : Rl} {H : Hp} {f sl hl : Addr} {d : DP} {sts : List Int} {hvs : List V} {hbs : List Hab} {o : Bool} {Q : Addr → Hp → Prop} {E : XK} (wf : Wf ρ H) (clo : CloAt ρ H f d) (dm : d.many = (sts.length : Nat)) (hsl : H sl = some (.lst (sts.map V.int))) (hhl : H hl = some (.lst hvs))
    (hab : Paired (HabAt K ρ H) hvs hbs) (lb : hbs.length = sts.length) (l5 : sts.length ≤ 5) (k : ∀ (ρ' : Rl) (x : Addr) (H' : Hp), Step No ρ H ρ' H' → LmIs K ρ' H' x (Lm.new o sts hbs) d → Q x H') :
    ∀ x dx, H x = none → H dx = none → dx ≠ x → sp_LoomInit K (.ref x :: ([.ref f, .ref sl, .ref hl, .bl o] ++ [])) (upd (upd H dx (.own x)) x (.ins (CLm K) dx [])) (fun v H2 => v = .non ∧ Q x H2) E := by
  intro x dx hx hd ne
  have s1 : Step No ρ H ρ (upd H dx (.own x)) := Step.new0 wf hd
  have hx1 : upd H dx (.own x) x = none := (upd_ne ne.symm).trans hx
  have s2 : Step No ρ (upd H dx (.own x)) ρ (upd (upd H dx (.own x)) x (.ins (CLm K) dx [])) := Step.new0 s1.wf hx1
  have s := s1.trans s2
  have sm := (same_upd (o := .own x) hd).trans (same_upd (o := .ins (CLm K) dx []) hx1)
  exact ⟨ρ, ρ, H, x, dx, f, sl, hl, o, sts, hvs, hbs, d, rfl, upd_same, hx, s, wf x hx, clo, dm, sm _ _ hsl, sm _ _ hhl, by rw [hsl]; simp, by rw [hhl]; simp, Paired.imp hab fun _ _ z => z.step s (fun z => z), lb, l5, fun ρ' H' st X => ⟨rfl, k ρ' x H' st X⟩⟩
section
variable {K : PySem.W.Frag} {M : Role → Prop} {ρ ρ' : Rl} {H H' : Hp}
/-- what is no loom's stays -/
theorem Step.kept {a : Addr} {o : HO} (s : Step M ρ H ρ' H') (h : H a = some o) (n : ¬ M (ρ a)) : H' a = some o ∧ ρ' a = ρ a := ⟨s.keep a o h n, s.ext a (by rw [h]; simp)⟩
theorem No_ML : ∀ r, No r → ML r := fun _ z => z.elim
end
def sp_Llet (K : PySem.W.Frag) : Sp := fun vs H Q _ => ∃ (ρ : Rl) (f sl hl rl fl : Addr) (d : DP) (sts : List Int) (hvs rvs fvs : List V) (hbs : List Hab) (o : Bool) (c : Co) (D : List (Row × Int)) (fs : List Fr), vs = [.ref f, .ref sl, .ref hl, .bl o, .ref rl, .ref fl] ∧ Wf ρ H ∧ CloAt ρ H f d ∧
  d.many = (sts.length : Nat) ∧ 0 < sts.length ∧ sts.length ≤ 5 ∧ (H sl = some (.lst (sts.map V.int)) ∧ ¬ ML (ρ sl)) ∧ (H hl = some (.lst hvs) ∧ ¬ ML (ρ hl)) ∧ Paired (HabAt K ρ H) hvs hbs ∧ hbs.length = sts.length ∧
  (H rl = some (.lst rvs) ∧ ¬ ML (ρ rl)) ∧ Paired (RowAt H) rvs (D.map (·.1)) ∧ D.length ≤ 20 ∧ (H fl = some (.lst fvs) ∧ ¬ ML (ρ fl)) ∧ Paired (FrAt H) fvs fs ∧ Hist d sts o c D ∧ (∀ h n, (h, n) ∈ fs → MayUse o c h n) ∧ ∀ H' : Hp, Q (.bl true) H'
section
variable {P : Program} {w : World} {K : PySem.W.Frag} {mg : Str → Option Value} {base : Heap}
theorem scLlet : FnScope ["_law_does", "_law_starts", "_law_habits_here", "_law_ordered", "_law_rows", "_law_free_here", "_law_hand", "_law_name", "_law_loom", "_law_row"] ["_law_does", "_law_starts", "_law_habits_here", "_law_ordered", "_law_rows", "_law_free_here"] (defScope sLlet) := ⟨rfl, rfl, rfl, by decide +kernel, rfl, by decide +kernel, by decide +kernel⟩
set_option maxHeartbeats 8000000 in
theorem ok_Llet (T : Txt K mg) : OK P w K mg base CX0 7 ("_law_let", none) ["_law_does", "_law_starts", "_law_habits_here", "_law_ordered", "_law_rows", "_law_free_here"] (sp_Llet K) := by
  obtain ⟨fdLoomInit, GLoomInit, bLoomInit, kLoomInit⟩ := (ok_LoomInit (P := P) (w := w) (base := base) T).ex
  obtain ⟨fdLact, GLact, bLact, kLact⟩ := (ok_Lact (P := P) (w := w) (base := base) T).ex
  obtain ⟨fdLoomUse, GLoomUse, bLoomUse, kLoomUse⟩ := (ok_LoomUse (P := P) (w := w) (base := base) T).ex
  obtain ⟨fdLoomRoad, GLoomRoad, bLoomRoad, kLoomRoad⟩ := (ok_LoomRoad (P := P) (w := w) (base := base) T).ex
  refine OK.mk0 T.f_Llet scLlet (fun _ _ _ _ _ _ us hl => match us, hl with | [_, _, _, _, _, _], _ => rfl) (fun vs H Q E h => ?_) (fun cdv A outer s H vs Q E hr h => ?_)
  · obtain ⟨ρ, f, sl, hl, rl, fl, d, sts, hvs, rvs, fvs, hbs, o, c, D, fs, rfl, _⟩ := h
    rfl
  · obtain ⟨ρ, f, sl, hl, rl, fl, d, sts, hvs, rvs, fvs, hbs, o, c, D, fs, rfl, wf, clo, dm, h0, h5, ⟨hsl, nsl⟩, ⟨hhl, nhl⟩, hab, lb, ⟨hrl, nrl⟩, pr, lD, ⟨hfl, nfl⟩, pf, hist, may, k⟩ := h
    have R := hist.rcv dm h0
    refine ⟨_, (pss_cons (ps_for PassesOwn.never rfl (pi_list (pv 5)) (pg_tup rfl (pgs_cons (pg_name (i := 6) scLlet.nd rfl (Or.inl rfl)) (pgs_cons (pg_name (i := 7) scLlet.nd rfl (Or.inl rfl)) pgs_nil))) (pss_cons (ps_set (i := 8) scLlet.nd rfl (Or.inl rfl) (pe_make T.k_Loom GLoomInit (hr.mono (by decide)) rfl T.g_Loom bLoomInit .nil pass0 (pa_cons (pv 0) (pa_cons (pv 1) (pa_cons (pv 2) (pa_cons (pv 3) pa_nil))))))
      (pss_cons (ps_for PassesOwn.never rfl (pi_list (pv 4)) (pg_name (i := 9) scLlet.nd rfl (Or.inl rfl)) (pss_one (ps_expr (pe_call GLact (hr.mono (by decide)) rfl T.g_Lact kLact bLact .nil passN (pa_cons (pv 8) (pa_cons (pv 9) pa_nil))))))
      (pss_cons (ps_expr (pe_meth (pv 8) T.c_Loom T.m_Loom_use GLoomUse (hr.mono (by decide)) bLoomUse .nil passN (pa_cons (pv 6) (pa_cons (pv 7) pa_nil))))
      (pss_one (ps_if (pt_cmpR (op_inD (hu65 hr)) (pv 7) (pe_meth0 (pv 8) T.c_Loom T.m_Loom_road GLoomRoad (hr.mono (by decide)) bLoomRoad .nil pass0) (by with_unfolding_all rfl)) (pss_one (ps_ret pe_bl)) pss_nil))))))
      (pss_one (ps_ret pe_bl))), ?_⟩
    refine ⟨_, rfl, fl, rfl, ⟨_, SqL.of hfl⟩, ?_⟩
    refine for_list (K := K) (a := fl) (xs := fvs) (fun j σ G => ∃ (ρ1 : Rl) (v6 v7 v8 v9 : Option V), σ = [some (.ref f), some (.ref sl), some (.ref hl), some (.bl o), some (.ref rl), some (.ref fl), v6, v7, v8, v9] ∧ Step ML ρ H ρ1 G)
      ⟨ρ, none, none, none, none, rfl, Step.refl wf⟩ (fun j σ G _ hw => ?_) (fun j x σ G hx hw => ?_) (fun σ G hw => ?_)
    · obtain ⟨ρ1, _, _, _, _, _, s⟩ := hw
      exact SqL.of (s.kept hfl nfl).1
    · obtain ⟨ρ1, v6, v7, v8, v9, rfl, s⟩ := hw
      obtain ⟨⟨h, n⟩, hf, hfx⟩ := paired_at' pf hx
      obtain ⟨nv, hnv, t, rfl, ht⟩ := hfx.tk s.tk
      have u := may h n (List.mem_of_getElem? hf)
      obtain ⟨i, rfl, hi⟩ := rcv_hand R u
      have rok := mayUse_row R u
      refine ⟨t, _, rfl, SqT.of ht, rfl, _, _, rfl, _, _, rfl, rfl, ?_⟩
      refine ⟨_, rfl, _, rfl, _, rfl, _, rfl, init_use s.wf (clo.step s ML_fz) dm (s.kept hsl nsl).1 (s.kept hhl nhl).1 (Paired.imp hab fun _ _ z => z.step s ML_fz) lb h5 fun ρ2 x G2 s2 X2 => ?_⟩
      have s02 := s.trans (s2.mono No_ML)
      refine ⟨_, rfl, rl, rfl, ⟨_, SqL.of (s02.kept hrl nrl).1⟩, ?_⟩
      refine for_list (K := K) (a := rl) (xs := rvs) (fun j σ G => ∃ (ρ3 : Rl) (v9 : Option V) (L : Lm) (c' : Co) (D' : List (Row × Int)), σ = [some (.ref f), some (.ref sl), some (.ref hl), some (.bl o), some (.ref rl), some (.ref fl), some (.int (i : Nat)), some nv, some (.ref x), v9] ∧ Step ML ρ H ρ3 G ∧ TupK G2 G ∧ LmIs K ρ3 G x L d ∧
          LmInv d sts o c' D' j L ∧ D'.map (·.1) = (D.map (·.1)).take j)
        ⟨ρ2, v9, _, _, _, rfl, s02, fun _ _ e => e, X2, LmInv.new lb, rfl⟩ (fun j σ G _ hw => ?_) (fun j y σ G hy hw => ?_) (fun σ G hw => ?_)
      · obtain ⟨ρ3, _, _, _, _, _, s, _⟩ := hw
        exact SqL.of (s.kept hrl nrl).1
      · obtain ⟨ρ3, v9, L, c', D', rfl, s3, tk3, X3, I3, eD⟩ := hw
        obtain ⟨r, hr, hry⟩ := paired_at' pr hy
        have hjl : j < (D.map (·.1)).length := (List.getElem?_eq_some_iff.mp hr).1
        have hjD : j < D.length := by rwa [List.length_map] at hjl
        obtain ⟨ci, hci, hok⟩ := hist.part j (Nat.le_of_lt hjD)
        have ec : c' = ci := by
          rw [I3.h.det, hci.det, eD, List.map_take]
        subst ec
        rw [List.getElem?_map] at hr
        obtain ⟨⟨r', q⟩, hq, rfl⟩ := Option.map_eq_some_iff.mp hr
        have rk := hok _ hq
        have rk' : RowOk o sts.length c' r' := rk
        have uo : ∀ h n, r' = .use h n → UseOk L h n := fun h n z => by
          have := rk'.2 h n z
          rw [useOk_iff, I3.ord, I3.co]
          exact this
        have nb : ¬ BadHand L r'.hand := by
          obtain ⟨i', e1, e2⟩ := rk'.1
          rw [e1]
          rintro (z | z)
          · omega
          · rw [I3.many] at z
            omega
        refine ⟨_, rfl, _, rfl, ρ3, x, L, d, y, r', rfl, hry.tk s3.tk, s3.wf, X3, by rw [I3.many]; exact h5, I3.ok.mono (by omega), fun z => absurd z nb, fun h n z H' _ nu => absurd (uo h n z) nu, fun ρ4 G4 _ _ s4 X4 => ?_⟩
        refine ⟨ρ4, _, _, _, _, rfl, s3.trans s4, fun b zs e => s4.tk b zs (tk3 b zs e), X4, I3.step rk', ?_⟩
        rw [List.map_append, eD, take_snoc (show (D.map (·.1))[j]? = some r' by rw [List.getElem?_map]; exact hr)]
        rfl
      · obtain ⟨ρ3, v9, L, c', D', rfl, s3, tk3, X3, I3, eD⟩ := hw
        have lr : rvs.length = D.length := by rw [paired_len pr, List.length_map]
        rw [lr, ← List.length_map (f := fun x : Row × Int => x.1), List.take_length] at eD
        have ec : c' = c := by
          rw [I3.h.det, hist.det, eD]
        subst ec
        rw [lr] at I3
        have uo : UseOk L (i : Nat) n := by
          rw [useOk_iff, I3.ord, I3.co]
          exact u
        have nb : ¬ BadHand L (i : Nat) := by
          rintro (z | z)
          · omega
          · rw [I3.many] at z
            omega
        obtain ⟨dx, f', tl, dl, ol, tas, dvs, ovs, Y⟩ := id X3
        refine ⟨_, rfl, x, dx, _, rfl, Y.ob.at_, rfl, _, rfl, _, rfl, ρ3, x, L, d, (i : Nat), nv, n, rfl, hnv.tk ?_, s3.wf, X3, by rw [I3.many]; exact h5, I3.ok.mono (by omega), fun z => absurd z nb, fun H' _ nu => absurd uo nu, fun i' wd ρ4 G4 hi' hlt' _ hlk s4 X4 => ?_⟩
        · exact fun b zs e => tk3 b zs (s2.tk b zs e)
        have ei : i' = i := by omega
        subst ei
        have ewd : (L.co.word n).getD 0 = wd := by
          unfold Co.word
          rw [lookS_all] at hlk
          show ((letAt L.evss n).map (·.2)).getD 0 = wd
          rw [hlk]
          rfl
        have eact : L.act d (.use ((i' : Nat) : Int) n) = L.doUse d i' n wd := by
          show L.doUse d ((i' : Nat) : Int).toNat n ((L.co.word n).getD 0) = _
          rw [Int.toNat_natCast, ewd]
        have ur := used_road I3 rok
        have I4 := I3.step rok
        rw [eact] at ur I4
        obtain ⟨dx4, f4, tl4, dl4, ol4, tas4, dvs4, ovs4, Y4⟩ := id X4
        have s04 := s3.trans s4
        refine ⟨_, rfl, _, rfl, x, dx4, _, rfl, Y4.ob.at_, rfl, ρ4, x, _, d, rfl, s04.wf, X4, by rw [I4.many]; exact h5, I4.ok.mono (by omega), fun rd rdv G5 hrd s5 erd prd => ?_⟩
        have hn5 : NmAt G5 nv n := ((hnv.tk s2.tk).tk tk3 |>.tk s4.tk).tk (tk_same s5)
        refine ⟨nmD n, _, nm_dp hn5, .lst (SqL.of erd) (nms_dp prd), nmD_shaped n, nmDs_shaped _, ?_⟩
        rw [nmD_any, decide_eq_false ur]
        exact ⟨_, rfl, iteF ⟨ρ4, _, _, _, _, rfl, s04.trans (Step.same s04.wf s5)⟩⟩
    · obtain ⟨ρ1, _, _, _, _, rfl, s⟩ := hw
      exact k G
end
end Bk
set_option Elab.async false
set_option linter.all false
set_option maxRecDepth 100000
set_option maxHeartbeats 4000000
/-! What is told twice is told alike; what a step keeps. -/
namespace Bk
open PySem PySem.Spec PyProof.Rows L2
section
variable {K : PySem.W.Frag} {H : Hp}
theorem eqw_flat {n : Nat} {x : V} (f : flatB x = true) : EqW K H (n + 1) x x := .inl ⟨rfl, f⟩
theorem eqw_int {n : Nat} (i : Int) : EqW K H (n + 1) (.int i) (.int i) := eqw_flat rfl
theorem eqw_ints {n : Nat} : ∀ l : List Int, Paired (EqW K H (n + 1)) (l.map V.int) (l.map V.int)
  | [] => .nil
  | i :: r => .cons (eqw_int i) (eqw_ints r)
theorem eqw_nm {n : Nat} {x y : V} {m : Nm} (a : NmAt H x m) (b : NmAt H y m) : EqW K H (n + 2) x y := by
  obtain ⟨p, rfl, hp⟩ := a
  obtain ⟨q, rfl, hq⟩ := b
  exact .inr (.inr (.inr (.inl ⟨p, q, _, _, rfl, rfl, SqT.of hp, SqT.of hq, .cons (eqw_int _) (.cons (eqw_int _) (.cons (eqw_int _) .nil))⟩)))
theorem eqw_lt {n : Nat} {x y : V} {m : Lt} (a : LtAt H x m) (b : LtAt H y m) : EqW K H (n + 2) x y := by
  obtain ⟨p, rfl, hp⟩ := a
  obtain ⟨q, rfl, hq⟩ := b
  exact .inr (.inr (.inr (.inl ⟨p, q, _, _, rfl, rfl, SqT.of hp, SqT.of hq, .cons (eqw_int _) (.cons (eqw_int _) .nil)⟩)))
theorem eqw_row {n : Nat} {x y : V} : ∀ {r : Row}, RowAt H x r → RowAt H y r → EqW K H (n + 3) x y
  | .own h, ⟨p, e1, hp⟩, ⟨q, e2, hq⟩ => .inr (.inr (.inr (.inl ⟨p, q, _, _, e1, e2, SqT.of hp, SqT.of hq, .cons (eqw_flat rfl) (.cons (eqw_int _) .nil)⟩)))
  | .use h m, ⟨nv, hn, p, e1, hp⟩, ⟨nw, hw, q, e2, hq⟩ => .inr (.inr (.inr (.inl ⟨p, q, _, _, e1, e2, SqT.of hp, SqT.of hq, .cons (eqw_flat rfl) (.cons (eqw_int _) (.cons (eqw_nm hn hw) .nil))⟩)))
  | .write h, ⟨p, e1, hp⟩, ⟨q, e2, hq⟩ => .inr (.inr (.inr (.inl ⟨p, q, _, _, e1, e2, SqT.of hp, SqT.of hq, .cons (eqw_flat rfl) (.cons (eqw_int _) .nil)⟩)))
theorem eqw_two {α : Type} {R : V → α → Prop} {n : Nat} (h : ∀ x y z, R x z → R y z → EqW K H n x y) : ∀ {xs ys : List V} {zs : List α}, Paired R xs zs → Paired R ys zs → Paired (EqW K H n) xs ys
  | _, _, _, .nil, .nil => .nil
  | _, _, _, .cons a p, .cons b q => .cons (h _ _ _ a b) (eqw_two h p q)
theorem eqw_lst {n : Nat} {a b : Addr} {xs ys : List V} (ha : H a = some (.lst xs)) (hb : H b = some (.lst ys)) (p : Paired (EqW K H n) xs ys) : EqW K H (n + 1) (.ref a) (.ref b) := .inr (.inr (.inl ⟨a, b, xs, ys, rfl, rfl, SqL.of ha, SqL.of hb, p⟩))
theorem eqw_sent {n : Nat} : ∀ {ks ls : List (List L2.Key × V)} {l : List (Nm × Lt)}, SentKV H ks l → SentKV H ls l → Paired (fun (p q : List L2.Key × V) => p.1 = q.1 ∧ EqW K H (n + 2) p.2 q.2) ks ls
  | _, _, _, .nil, .nil => .nil
  | _, _, _, .cons a p, .cons b q => .cons ⟨a.1.trans b.1.symm, eqw_lt a.2 b.2⟩ (eqw_sent p q)
theorem eqw_used {n : Nat} : ∀ l : List (Nm × Int), Paired (fun (p q : List L2.Key × V) => p.1 = q.1 ∧ EqW K H (n + 1) p.2 q.2) (usedKV l) (usedKV l)
  | [] => .nil
  | x :: r => .cons ⟨rfl, eqw_int _⟩ (eqw_used r)
theorem told_eq {v v' : V} {L : Lm} (x : ToldAt H v L) (y : ToldAt H v' L) : ∃ (a b : Addr) (xs ys : List V), v = .ref a ∧ v' = .ref b ∧ SqT K H a xs ∧ SqT K H b ys ∧ Paired (EqW K H 6) xs ys := by
  obtain ⟨a, f, s, u, p, pl, st, rd, rw_, kvs, rdv, rwv, ps, rfl, h1, h2, h3, h4, h5, h6, h7, h8, h9, h10, h11, h12, h13, h14⟩ := x
  obtain ⟨a', f', s', u', p', pl', st', rd', rw', kvs', rdv', rwv', ps', rfl, g1, g2, g3, g4, g5, g6, g7, g8, g9, g10, g11, g12, g13, g14⟩ := y
  refine ⟨a, a', _, _, rfl, rfl, SqT.of h1, SqT.of g1, .cons ?_ (.cons ?_ (.cons ?_ (.cons ?_ .nil)))⟩
  · exact .inr (.inr (.inr (.inl ⟨f, f', _, _, rfl, rfl, SqT.of h2, SqT.of g2, .cons (eqw_lst h3 g3 (eqw_ints _)) (.cons (eqw_lst h4 g4 (eqw_ints _)) (.cons (eqw_lst h5 g5 (eqw_two (R := NmAt H) (fun _ _ _ a b => eqw_nm a b) h6 g6)) (.cons (eqw_lst h7 g7 (eqw_two (R := RowAt H) (fun _ _ _ a b => eqw_row a b) h8 g8)) .nil)))⟩)))
  · exact .inr (.inr (.inr (.inr ⟨s, s', _, _, rfl, rfl, h9, g9, eqw_sent h10 g10⟩)))
  · exact .inr (.inr (.inr (.inr ⟨u, u', _, _, rfl, rfl, h11, g11, eqw_used _⟩)))
  · refine eqw_lst h12 g12 ?_
    have go : ∀ (ps ps' : List Addr) (ts : List Thr), ps.length = ts.length → ps'.length = ts.length → (∀ (i : Nat) (b : Addr) (t : Thr), ps[i]? = some b → ts[i]? = some t → H b = some (.lst (t.points.map V.int))) → (∀ (i : Nat) (b : Addr) (t : Thr), ps'[i]? = some b → ts[i]? = some t → H b = some (.lst (t.points.map V.int))) →
        Paired (EqW K H 5) (ps.map V.ref) (ps'.map V.ref) := by
      intro ps
      induction ps with
      | nil =>
        intro ps' ts e1 e2 _ _
        cases ps' with
        | nil => exact .nil
        | cons b r => exact absurd (e1.trans e2.symm) (by simp)
      | cons a r ih =>
        intro ps' ts e1 e2 z1 z2
        cases ps' with
        | nil => exact absurd (e1.trans e2.symm) (by simp)
        | cons b r' =>
          cases ts with
          | nil => exact absurd e1 (by simp)
          | cons t ts =>
            exact .cons (eqw_lst (z1 0 a t rfl rfl) (z2 0 b t rfl rfl) (eqw_ints _)) (ih r' ts (Nat.succ.inj e1) (Nat.succ.inj e2) (fun i b t h1 h2 => z1 (i + 1) b t h1 h2) fun i b t h1 h2 => z2 (i + 1) b t h1 h2)
    exact go ps ps' L.thr h13 g13 h14 g14
end
/-! ### the script -/
section
variable {K : PySem.W.Frag} {M : Role → Prop} {ρ ρ' : Rl} {H H' : Hp} {a : Addr} {xs : List V}
/-- the script, in no role -/
def Scr (K : PySem.W.Frag) (ρ : Rl) (H : Hp) (a : Addr) (xs : List V) : Prop := SqL K H a xs ∧ ((∃ o, H a = some o ∧ ρ a = .no) ∨ ∀ G, SqL K G a xs)
theorem Scr.of (h : SqL K H a xs) : Scr K (fun _ => .no) H a xs := by
  refine ⟨h, ?_⟩
  rcases h with (h | ⟨o, h⟩) | h
  · exact .inl ⟨_, h, rfl⟩
  · exact .inl ⟨_, h, rfl⟩
  · exact .inr fun G => .inr h
theorem Scr.step (x : Scr K ρ H a xs) (s : Step M ρ H ρ' H') (n : ¬ M .no) : Scr K ρ' H' a xs := by
  obtain ⟨h, ⟨o, e, r⟩ | z⟩ := x
  · have k := fun u (hu : H a = some u) => s.keep a u hu (by rw [r]; exact n)
    refine ⟨?_, .inl ⟨o, k _ e, (s.ext a (by rw [e]; simp)).trans r⟩⟩
    rcases h with (h | ⟨u, h⟩) | h
    · exact .inl (.inl (k _ h))
    · exact .inl (.inr ⟨u, k _ h⟩)
    · exact .inr h
  · exact ⟨z _, .inr z⟩
theorem Scr.extN (x : Scr K ρ H a xs) (s : LamX.ExtN H H') (hr : ∀ b, H b ≠ none → ρ' b = ρ b) : Scr K ρ' H' a xs := by
  obtain ⟨h, ⟨o, e, r⟩ | z⟩ := x
  · rcases h with (h | ⟨u, h⟩) | h
    · exact ⟨.inl (.inl (s _ _ h (fun ps z => by cases z))), .inl ⟨_, s _ _ h (fun ps z => by cases z), (hr a (by rw [e]; simp)).trans r⟩⟩
    · exact ⟨.inl (.inr ⟨u, s _ _ h (fun ps z => by cases z)⟩), .inl ⟨_, s _ _ h (fun ps z => by cases z), (hr a (by rw [e]; simp)).trans r⟩⟩
    · exact ⟨.inr h, .inr fun G => .inr h⟩
  · exact ⟨z _, .inr z⟩
theorem ML_no : ¬ ML .no := by
  rintro (z | z | z | ⟨i, z | z | z⟩) <;> cases z
theorem MM_no : ¬ MM .no := by
  rintro (z | z | z | ⟨i, z⟩) <;> cases z
theorem MM_fz : ¬ MM .fz := by
  rintro (z | z | z | ⟨i, z⟩) <;> cases z
/-- the roles of the loom and of the model -/
def MB : Role → Prop := fun r => ML r ∨ MM r
theorem MB_no : ¬ MB .no := fun z => z.elim ML_no MM_no
theorem MB_fz : ¬ MB .fz := fun z => z.elim ML_fz MM_fz
end
/-- a cut list, item by item -/
theorem cut_pair {α : Type} {R : V → α → Prop} {xs : List V} {ys : List α} {lo hi : Option Int} (p : Paired R xs ys) : ∃ zs : List α, Paired R (cutV xs lo hi) zs ∧ ∀ z ∈ zs, z ∈ ys := by
  have key : ∀ (xs : List V) (ys : List α) (i j : Nat), Paired R xs ys → Paired R ((xs.drop i).take j) ((ys.drop i).take j) := by
    intro xs ys i j p
    have dr : ∀ (i : Nat) (xs : List V) (ys : List α), Paired R xs ys → Paired R (xs.drop i) (ys.drop i) := by
      intro i
      induction i with
      | zero => exact fun _ _ p => p
      | succ i ih => exact fun _ _ p => match p with | .nil => .nil | .cons _ q => ih _ _ q
    have tk : ∀ (i : Nat) (xs : List V) (ys : List α), Paired R xs ys → Paired R (xs.take i) (ys.take i) := by
      intro i
      induction i with
      | zero => exact fun _ _ _ => .nil
      | succ i ih => exact fun _ _ p => match p with | .nil => .nil | .cons h q => .cons h (ih _ _ q)
    exact tk j _ _ (dr i _ _ p)
  exact ⟨_, key xs ys _ _ p, fun z hz => List.mem_of_mem_drop (List.mem_of_mem_take hz)⟩
end Bk
set_option Elab.async false
set_option linter.all false
set_option maxRecDepth 100000
set_option maxHeartbeats 4000000
/-! The plain law: what a fall asks of a loom. -/
namespace Bk
open PySem PySem.Spec PyProof.Rows L2
section
variable {d : DP} {sts : List Int} {o : Bool} {c : Co} {D : List (Row × Int)} {m : Nat} {L : Lm}
theorem evs_lt {E : List (List Ev)} {n : Nm} {lt : Lt} (h : letAt E n = some lt) : ∃ i : Nat, n.1 = (i : Nat) ∧ i < E.length := by
  obtain ⟨s, p, k, es, e, rfl, h1, _, _⟩ := letAt_some h
  exact ⟨s, rfl, (List.getElem?_eq_some_iff.mp h1).1⟩
theorem LmInv.len (X : LmInv d sts o c D m L) : c.E.length = L.many := by rw [X.h.inv.lenE, X.many]
theorem LmInv.usedOk (X : LmInv d sts o c D m L) : UsedOk L := by
  intro n q hq
  have eE : L.evss = c.E := congrArg Co.E X.co
  rw [eE] at hq ⊢
  obtain ⟨h, p, hu, _⟩ := usedAll_mem hq
  obtain ⟨w, hw⟩ := X.h.inv.used h p n hu
  obtain ⟨es, e, h1, _, _⟩ := id hu
  have hl : h < L.many := by
    rw [← X.len]
    exact (List.getElem?_eq_some_iff.mp h1).1
  obtain ⟨i, e1, e2⟩ := evs_lt hw
  exact ⟨_, by rw [lookS_all]; exact hw, ⟨h, rfl, hl⟩, i, e1, by rw [← X.len]; exact e2⟩
theorem LmInv.rowsOk (X : LmInv d sts o c D m L) : ∀ r ∈ L.done, ∃ i : Nat, r.1.hand = (i : Nat) ∧ i < L.many := by
  intro r hr
  rw [X.done] at hr
  obtain ⟨i, h1, h2⟩ := X.h.inv.rows r hr
  exact ⟨i, h1, by rw [X.many]; exact h2⟩
theorem ordC (h : Hist d sts o c D) : ∀ n ∈ c.O, ∃ i : Nat, n.1 = (i : Nat) ∧ i < c.E.length := by
  intro n hn
  obtain ⟨lt, e⟩ := h.inv.sent n hn
  exact evs_lt e
theorem LmInv.ordOk (X : LmInv d sts o c D m L) : ∀ n ∈ L.order, ∃ i : Nat, n.1 = (i : Nat) ∧ i < L.many := by
  intro n hn
  have eO : L.order = c.O := congrArg Co.O X.co
  rw [eO] at hn
  obtain ⟨i, h1, h2⟩ := ordC X.h n hn
  exact ⟨i, h1, by rw [← X.len]; exact h2⟩
theorem line_nn {line fallen : List Int} (X : LmInv d sts o c D m L) (K : L.LineOk line fallen) : ∀ i, i < c.E.length → 0 ≤ line.getD i 0 := by
  intro i hi
  obtain ⟨t, ht, _⟩ := X.at_ (by rw [← X.h.inv.lenE]; exact hi)
  rcases K.cut i t ht with ⟨_, e⟩ | e
  · rw [e]
    exact here_nn t
  · exact (points_rg (X.thr t (List.mem_of_getElem? ht)) e).1
end
end Bk
set_option Elab.async false
set_option linter.all false
set_option maxRecDepth 100000
set_option maxHeartbeats 4000000
/-! The law. -/
namespace Bk
open PySem PySem.Spec PyProof.Rows L2 LamX
def sp_law (K : PySem.W.Frag) : Sp := fun vs H Q _ => ∃ (a : Addr) (ns : List Int), vs = [.ref a] ∧ SqL K H a (ns.map V.int) ∧ H (He.cT K ("_law_program", none)).2 = some (.tbl #[]) ∧ ∀ H' : Hp, Q (.bl true) H'
/-- all that the law holds -/
structure LawSt (K : PySem.W.Frag) (ρ : Rl) (G : Hp) (a f S hl M x : Addr) (ns : List Int) (d : DP) (sts : List Int) (hvs : List V) (hbs : List Hab) (o : Bool) (c : Co) (D : List (Row × Int)) (m : Nat) (L : Lm) : Prop where
  wf : Wf ρ G
  scr : Scr K ρ G a (ns.map V.int)
  clo : CloAt ρ G f d
  st : Own ρ G S .fz (.lst (sts.map V.int))
  hb : Own ρ G hl .fz (.lst hvs)
  hab : Paired (HabAt K ρ G) hvs hbs
  md : MdIs ρ G M c sts
  lm : LmIs K ρ G x L d
  inv : LmInv d sts o c D m L
theorem LawSt.same {K : PySem.W.Frag} {ρ : Rl} {G G' : Hp} {a f S hl M x : Addr} {ns : List Int} {d : DP} {sts : List Int} {hvs : List V} {hbs : List Hab} {o : Bool} {c : Co} {D : List (Row × Int)} {m : Nat} {L : Lm}
    (X : LawSt K ρ G a f S hl M x ns d sts hvs hbs o c D m L) (s : Same G G') : LawSt K ρ G' a f S hl M x ns d sts hvs hbs o c D m L := by
  have st : Step No ρ G ρ G' := Step.same X.wf s
  exact ⟨st.wf, X.scr.step st (fun z => z), X.clo.step st (fun z => z), X.st.step st (fun z => z), X.hb.step st (fun z => z), Paired.imp X.hab fun _ _ z => z.step st (fun z => z), X.md.step st No_MM, X.lm.step st noNo, X.inv⟩
theorem cok_of {d : DP} {sts : List Int} {o : Bool} {c : Co} {D : List (Row × Int)} (h : Hist d sts o c D) (l5 : sts.length ≤ 5) (lD : D.length ≤ 16) : COk c := by
  have I := h.inv
  refine ⟨by rw [I.lenE]; exact l5, fun es hes => ?_, ?_⟩
  · obtain ⟨h1, h2⟩ := I.len es hes
    exact ⟨by omega, h2⟩
  · have := I.lenO
    omega
theorem M0_MM : ∀ r, M0 r → r ≠ .fz ∧ ¬ MM r := by
  intro r e
  have e : r = .no := e
  subst e
  exact ⟨(by intro z; cases z), MM_no⟩
theorem upd_at' {H : Hp} {a : Addr} {o : HO} : upd H a o a = some o := upd_same
/-- a def whose function object is given keeps its promise -/
theorem okF {P : Program} {w : World} {K : PySem.W.Frag} {mg : Str → Option Value} {base : Heap} {k : Nat} {m ql : Str} {st : Stmt} {p : Str × Option Str} {N ps : List Str} {sp : Sp} {fd : FuncData} (F : FnP K m ql st p fd) (S : FnScope N ps (defScope st))
    (len : ∀ vs H Q E, sp vs H Q E → vs.length = ps.length)
    (body : ∀ (cdv : Value) (A : Around) (outer : List Env) (s : Shared) (H : Hp) (vs : List V) (Q : VK) (E : XK), Room k (A.deeper (envOfC ql (defScope st) s.heap.objs.size (He.fAd K p) cdv)) → sp vs H Q E →
      ∃ t, PSs (cxOf CX0 P w K mg base N ql (defScope st) (He.fAd K p) cdv A outer s H E).nox (defBody st) t ∧ t { nx := fun _ H' => Q .non H', rt := Q } (L2.start N vs) H) :
    FnOk P w K mg base CX0 (k + 1) (He.fAd K p) fd ps sp := by
  refine F.ok S len fun cdv A outer s H vs Q E hr h => ?_
  obtain ⟨t, ht, q⟩ := body cdv A outer s H vs Q E hr h
  exact ⟨t, ht.nox, q⟩
section
variable {P : Program} {w : World} {K : PySem.W.Frag} {mg : Str → Option Value} {base : Heap}
theorem sclaw : FnScope ["_law_script", "_law_many", "_law_ordered", "_law_does", "_law_starts", "_law_habits_here", "_law_model", "_law_loom", "_law_rows", "_law_digit", "_law_options_here", "_law_names", "_law_cell", "_law_line", "_law_paper", "_law_before", "_law_row", "_law_due", "_law_hand", "_law_k"] ["_law_script"] (defScope slaw) := ⟨rfl, rfl, rfl, by decide +kernel, rfl, by decide +kernel, by decide +kernel⟩
set_option maxHeartbeats 16000000 in
theorem ok_law (T : Txt K mg) (TB : TabB base mg (He.cT K ("_law_program", none)).1 (He.cT K ("_law_program", none)).2) {fd : FuncData} (F : FnP K "law" "law" slaw ("law", none) fd) : FnOk P w K mg base CX0 9 (He.fAd K ("law", none)) fd ["_law_script"] (sp_law K) := by
  obtain ⟨fdLcellat, GLcellat, bLcellat, kLcellat⟩ := (ok_Lcellat (P := P) (w := w) (base := base) T).ex
  obtain ⟨fdLprogram, GLprogram, bLprogram, kLprogram⟩ := (ok_Lprogram (P := P) (w := w) (base := base) T TB).ex
  obtain ⟨fdLhabits, GLhabits, bLhabits, kLhabits⟩ := (ok_Lhabits (P := P) (w := w) (base := base) T).ex
  obtain ⟨fdLbegun, GLbegun, bLbegun, kLbegun⟩ := (ok_Lbegun (P := P) (w := w) (base := base) T).ex
  obtain ⟨fdLoomInit, GLoomInit, bLoomInit, kLoomInit⟩ := (ok_LoomInit (P := P) (w := w) (base := base) T).ex
  obtain ⟨fdLdigits, GLdigits, bLdigits, kLdigits⟩ := (ok_Ldigits (P := P) (w := w) (base := base) T).ex
  obtain ⟨fdLoptions, GLoptions, bLoptions, kLoptions⟩ := (ok_Loptions (P := P) (w := w) (base := base) T).ex
  obtain ⟨fdLact, GLact, bLact, kLact⟩ := (ok_Lact (P := P) (w := w) (base := base) T).ex
  obtain ⟨fdLfollow, GLfollow, bLfollow, kLfollow⟩ := (ok_Lfollow (P := P) (w := w) (base := base) T).ex
  obtain ⟨fdLsent, GLsent, bLsent, kLsent⟩ := (ok_Lsent (P := P) (w := w) (base := base) T).ex
  obtain ⟨fdfall, Gfall, bfall, kfall⟩ := (ok_fall (P := P) (w := w) (base := base) T).ex
  obtain ⟨fdLcut, GLcut, bLcut, kLcut⟩ := (ok_Lcut (P := P) (w := w) (base := base) T).ex
  obtain ⟨fdLoomRows, GLoomRows, bLoomRows, kLoomRows⟩ := (ok_LoomRows (P := P) (w := w) (base := base) T).ex
  obtain ⟨fdLtold, GLtold, bLtold, kLtold⟩ := (ok_Ltold (P := P) (w := w) (base := base) T).ex
  obtain ⟨fdLbad, GLbad, bLbad, kLbad⟩ := (ok_Lbad (P := P) (w := w) (base := base) T).ex
  obtain ⟨fdLrefused, GLrefused, bLrefused, kLrefused⟩ := (ok_Lrefused (P := P) (w := w) (base := base) T).ex
  obtain ⟨fdLlet, GLlet, bLlet, kLlet⟩ := (ok_Llet (P := P) (w := w) (base := base) T).ex
  obtain ⟨fdLfree, GLfree, bLfree, kLfree⟩ := (ok_Lfree (P := P) (w := w) (base := base) T).ex
  refine okF F sclaw (fun vs H Q E h => ?_) (fun cdv A outer s H vs Q E hr h => ?_)
  · obtain ⟨a, ns, rfl, _⟩ := h
    rfl
  · obtain ⟨a, ns, rfl, hS, hT, k⟩ := h
    have p4 : (0 : Int) < 4 := by decide
    have p2 : (0 : Int) < 2 := by decide
    have p17 : (0 : Int) < 17 := by decide
    have p3 : (0 : Int) < 3 := by decide
    refine ⟨_, (pss_cons (ps_set (i := 1) sclaw.nd rfl (Or.inl rfl) (pe_op op_add pe_int (pe_op op_mod (pe_call GLcellat (hr.mono (by decide)) rfl T.g_Lcellat kLcellat bLcellat .nil pass0 (pa_cons (pv 0) (pa_cons pe_int pa_nil))) pe_int)))
      (pss_cons (ps_set (i := 2) sclaw.nd rfl (Or.inl rfl) (pe_cmpR op_eq (pe_op op_mod (pe_op op_fdiv (pe_call GLcellat (hr.mono (by decide)) rfl T.g_Lcellat kLcellat bLcellat .nil pass0 (pa_cons (pv 0) (pa_cons pe_int pa_nil))) pe_int) pe_int) pe_int (nomark _)))
      (pss_cons (ps_set (i := 3) sclaw.nd rfl (Or.inl rfl) (pe_call GLprogram (hr.mono (by decide)) rfl T.g_Lprogram kLprogram bLprogram .nil pass0 (pa_cons (pv 1) (pa_cons (pe_call GLcellat (hr.mono (by decide)) rfl T.g_Lcellat kLcellat bLcellat .nil pass0 (pa_cons (pv 0) (pa_cons pe_int pa_nil))) pa_nil))))
      (pss_cons (ps_setLc (own := [("_law_hand", 18)]) (i := 4) rfl sclaw.nd rfl rfl (sw_true rfl rfl rfl (by decide +kernel)) (pi_range1 rfl T.n_range (pa_cons (pv 1) pa_nil)) (blkOk_by (N := ["_law_script", "_law_many", "_law_ordered", "_law_does", "_law_starts", "_law_habits_here", "_law_model", "_law_loom", "_law_rows", "_law_digit", "_law_options_here", "_law_names", "_law_cell", "_law_line", "_law_paper", "_law_before", "_law_row", "_law_due", "_law_hand", "_law_k"]) (sc := defScope slaw) (by decide +kernel)) (fun _ _ _ _ _ => (pg_name (i := 18) sclaw.nd rfl (Or.inl rfl) (Or.inr rfl))) (fun _ _ _ _ _ => pts_nil) (fun _ _ _ _ _ => (pe_op op_mod (pe_op op_shr (pe_call GLcellat (hr.mono (by decide)) rfl T.g_Lcellat kLcellat bLcellat .nil pass0 (pa_cons (pv 0) (pa_cons pe_int pa_nil))) (pe_op op_mul pe_int (pv 18))) (pe_op op_pow pe_int pe_int))))
      (pss_cons (ps_set (i := 5) sclaw.nd rfl (Or.inl rfl) (pe_call GLhabits (hr.mono (by decide)) rfl T.g_Lhabits kLhabits bLhabits .nil pass0 (pa_cons (pv 1) (pa_cons (pe_call GLcellat (hr.mono (by decide)) rfl T.g_Lcellat kLcellat bLcellat .nil pass0 (pa_cons (pv 0) (pa_cons pe_int pa_nil))) pa_nil))))
      (pss_cons (ps_set (i := 6) sclaw.nd rfl (Or.inl rfl) (pe_call GLbegun (hr.mono (by decide)) rfl T.g_Lbegun kLbegun bLbegun .nil pass0 (pa_cons (pv 4) pa_nil)))
      (pss_cons (ps_set (i := 7) sclaw.nd rfl (Or.inl rfl) (pe_make T.k_Loom GLoomInit (hr.mono (by decide)) rfl T.g_Loom bLoomInit .nil pass0 (pa_cons (pv 3) (pa_cons (pv 4) (pa_cons (pv 5) (pa_cons (pv 2) pa_nil))))))
      (pss_cons (ps_set (i := 8) sclaw.nd rfl (Or.inl rfl) (pe_lst pa_nil))
      (pss_cons (ps_for PassesOwn.never rfl (pi_list (pe_call GLdigits (hr.mono (by decide)) rfl T.g_Ldigits kLdigits bLdigits .nil pass0 (pa_cons (pe_call GLcellat (hr.mono (by decide)) rfl T.g_Lcellat kLcellat bLcellat .nil pass0 (pa_cons (pv 0) (pa_cons pe_int pa_nil))) (pa_cons (pe_op op_mod (pe_op op_fdiv (pe_call GLcellat (hr.mono (by decide)) rfl T.g_Lcellat kLcellat bLcellat .nil pass0 (pa_cons (pv 0) (pa_cons pe_int pa_nil))) pe_int) pe_int) (pa_cons pe_int pa_nil))))) (pg_name (i := 9) sclaw.nd rfl (Or.inl rfl)) (pss_cons (ps_set (i := 10) sclaw.nd rfl (Or.inl rfl) (pe_call GLoptions (hr.mono (by decide)) rfl T.g_Loptions kLoptions bLoptions .nil pass0 (pa_cons (pv 6) (pa_cons (pv 2) pa_nil))))
      (pss_cons (ps_expr (pe_bm PySem.F.plainAttrs_list PySem.F.slot_list_append PySem.F.type_list_append mt_append (pv 8) (pa_cons (pe_ix ix_list (pv 10) (pe_op op_mod (pv 9) (pe_callB call_len_seq (by rfl) T.n_len PySem.boot_len (pa_cons (pv 10) pa_nil))) (fun _ _ => rfl)) pa_nil)))
      (pss_cons (ps_expr (pe_call GLact (hr.mono (by decide)) rfl T.g_Lact kLact bLact .nil passN (pa_cons (pv 7) (pa_cons (pe_ix ix_list (pv 8) (pe_un un_neg pe_int) (fun _ _ => rfl)) pa_nil))))
      (pss_one (ps_expr (pe_call GLfollow (hr.mono (by decide)) rfl T.g_Lfollow kLfollow bLfollow .nil pass0 (pa_cons (pv 6) (pa_cons (pv 3) (pa_cons (pe_ix ix_list (pv 8) (pe_un un_neg pe_int) (fun _ _ => rfl)) pa_nil))))))))))
      (pss_cons (ps_set (i := 11) sclaw.nd rfl (Or.inl rfl) (pe_callB (cr_sortK rfl (hu65 hr)) (by rfl) T.n_sorted (by decide +kernel) (pa_cons (pe_keysT (pe_call GLsent (hr.mono (by decide)) rfl T.g_Lsent kLsent bLsent .nil pass0 (pa_cons (pv 6) pa_nil))) pa_nil)))
      (pss_cons (ps_set (i := 12) sclaw.nd rfl (Or.inr rfl) (pe_call GLcellat (hr.mono (by decide)) rfl T.g_Lcellat kLcellat bLcellat .nil pass0 (pa_cons (pv 0) (pa_cons pe_int pa_nil))))
      (C8.pss_cut (ps_if (pt_cmpR op_gt (pe_op op_mod (pv 12) pe_int) pe_int (nomark _)) (pss_cons (ps_asg (pe_call Gfall (hr.mono (by decide)) rfl T.g_fall kfall bfall .nil pass0 (pa_cons (pv 7) (pa_cons (pe_lc (own := [("_law_hand", 18)]) rfl sclaw.nd (pi_range1 rfl T.n_range (pa_cons (pv 1) pa_nil)) (blkOk_by (N := ["_law_script", "_law_many", "_law_ordered", "_law_does", "_law_starts", "_law_habits_here", "_law_model", "_law_loom", "_law_rows", "_law_digit", "_law_options_here", "_law_names", "_law_cell", "_law_line", "_law_paper", "_law_before", "_law_row", "_law_due", "_law_hand", "_law_k"]) (sc := defScope slaw) (by decide +kernel)) (fun _ _ _ _ _ => (pg_name (i := 18) sclaw.nd rfl (Or.inl rfl) (Or.inr rfl))) (fun _ _ _ _ _ => (pts_one (pt_cmpR op_eq (pe_op op_and (pe_op op_shr (pe_op op_fdiv (pv 12) pe_int) (pv 18)) pe_int) pe_int (nomark _)))) (fun _ _ _ _ _ => (pv 18))) pa_nil))) (pg_tup rfl (pgs_cons (pg_name (i := 13) sclaw.nd rfl (Or.inl rfl)) (pgs_cons (pg_name (i := 14) sclaw.nd rfl (Or.inl rfl)) pgs_nil))))
      (pss_cons (ps_expr (pe_call GLcut (hr.mono (by decide)) rfl T.g_Lcut kLcut bLcut .nil pass0 (pa_cons (pv 6) (pa_cons (pv 13) pa_nil))))
      (pss_one (ps_set (i := 8) sclaw.nd rfl (Or.inl rfl) (pe_meth0 (pv 7) T.c_Loom T.m_Loom_rows GLoomRows (hr.mono (by decide)) bLoomRows .nil pass0))))) pss_nil)
      (pss_cons (ps_set (i := 15) sclaw.nd rfl (Or.inl rfl) (pe_call GLtold (hr.mono (by decide)) rfl T.g_Ltold kLtold bLtold .nil pass0 (pa_cons (pv 7) pa_nil)))
      (pss_cons (ps_for PassesOwn.never rfl (pi_list (pe_lc (own := [("_law_k", 19)]) rfl sclaw.nd (pi_range2 rfl T.n_range (pa_cons pe_int (pa_cons pe_int pa_nil))) (blkOk_by (N := ["_law_script", "_law_many", "_law_ordered", "_law_does", "_law_starts", "_law_habits_here", "_law_model", "_law_loom", "_law_rows", "_law_digit", "_law_options_here", "_law_names", "_law_cell", "_law_line", "_law_paper", "_law_before", "_law_row", "_law_due", "_law_hand", "_law_k"]) (sc := defScope slaw) (by decide +kernel)) (fun _ _ _ _ _ => (pg_name (i := 19) sclaw.nd rfl (Or.inl rfl) (Or.inr rfl))) (fun _ _ _ _ _ => pts_nil) (fun _ _ _ _ _ => (pe_call GLcellat (hr.mono (by decide)) rfl T.g_Lcellat kLcellat bLcellat .nil pass0 (pa_cons (pv 0) (pa_cons (pv 19) pa_nil)))))) (pg_name (i := 12) sclaw.nd rfl (Or.inr rfl)) (pss_cons (ps_asg (pe_call GLbad (hr.mono (by decide)) rfl T.g_Lbad kLbad bLbad .nil pass0 (pa_cons (pv 6) (pa_cons (pv 2) (pa_cons (pv 11) (pa_cons (pv 12) pa_nil))))) (pg_tup rfl (pgs_cons (pg_name (i := 16) sclaw.nd rfl (Or.inl rfl)) (pgs_cons (pg_name (i := 17) sclaw.nd rfl (Or.inl rfl)) pgs_nil))))
      (pss_one (ps_if (PW.pt (pw_or (pt_cmpR op_ne (pe_call GLrefused (hr.mono (by decide)) rfl T.g_Lrefused kLrefused bLrefused .nil pass0 (pa_cons (pv 7) (pa_cons (pv 16) pa_nil))) (pv 17) (nomark _)) (pw_or1 (pt_cmpR (op_neT (hu65 hr)) (pe_call GLtold (hr.mono (by decide)) rfl T.g_Ltold kLtold bLtold .nil pass0 (pa_cons (pv 7) pa_nil)) (pv 15) (nomark _))))) (pss_one (ps_ret pe_bl)) pss_nil))))
      (pss_one (ps_ret (pe_call GLlet (hr.mono (by decide)) rfl T.g_Llet kLlet bLlet .nil pass0 (pa_cons (pv 3) (pa_cons (pv 4) (pa_cons (pv 5) (pa_cons (pv 2) (pa_cons (pv 8) (pa_cons (pe_slice sl_list (pe_call GLfree (hr.mono (by decide)) rfl T.g_Lfree kLfree bLfree .nil pass0 (pa_cons (pv 6) (pa_cons (pv 2) pa_nil))) po_none (po_some pe_int)) pa_nil))))))))))))))))))))))), ?_⟩
    refine ⟨_, rfl, a, 0, ns, rfl, hS, fun c0 => ⟨_, _, rfl, rfl, p4, _, _, rfl, rfl, ?_⟩⟩
    obtain ⟨m, hm⟩ : ∃ m : Nat, 2 + c0 % 4 = (m : Nat) := ⟨(2 + c0 % 4).toNat, by omega⟩
    have m2 : 2 ≤ m := by omega
    have m5 : m ≤ 5 := by omega
    change gName 1 (V.int (2 + c0 % 4)) _ _ _
    rw [hm]
    refine ⟨_, rfl, a, 0, ns, rfl, hS, fun c0' => ⟨_, _, rfl, rfl, ⟨by decide, by decide⟩, _, _, rfl, rfl, p2, rfl, ?_⟩⟩
    obtain ⟨o, ho⟩ : ∃ o : Bool, decide (V.int (c0' / 4 % 2) = V.int 1) = o := ⟨_, rfl⟩
    change gName 2 (V.bl (decide (V.int (c0' / 4 % 2) = V.int 1))) _ _ _
    rw [ho]
    refine ⟨_, rfl, _, rfl, a, 1, ns, rfl, hS, fun c1 => ⟨(m : Nat), c1, fun _ => .no, rfl, by omega, by omega, fun _ _ => rfl, hT, fun ρ1 f d H1 eN dm1 ex1 wf1 clo1 hdm => ?_⟩⟩
    have scr1 : Scr K ρ1 H1 a (ns.map V.int) := (Scr.of hS).extN eN ex1
    -- the starts
    refine ⟨_, rfl, _, rfl, by omega, by omega, fun S hSn => ?_⟩
    refine lc_range (lo := 0) (n := ((m : Nat) : Int).toNat) (fun j G => ∃ sts : List Int, Same H1 G ∧ G S = some (.lst (sts.map V.int)) ∧ sts.length = j) ⟨[], same_upd hSn, upd_same, rfl⟩ (fun j G hj e => ?_) (fun G e => ?_)
    · obtain ⟨sts, sG, gS, ls⟩ := e
      refine ⟨rfl, _, rfl, a, 2, ns, rfl, (scr1.step (Step.same (M := No) wf1 sG) (fun z => z)).1, fun c2 => ⟨_, rfl, _, _, rfl, rfl, .inl ⟨by decide, by decide⟩, _, _, rfl, rfl, by omega, _, _, rfl, rfl, ⟨by decide, by decide, by decide⟩, _, _, rfl, rfl, (show (0 : Int) < 10 ^ (20 : Int).toNat by decide), _, gS, small6 (by rw [List.length_map]; omega), sts ++ [c2 / 2 ^ (9 * (0 + (j : Nat)) : Int).toNat % 10 ^ (20 : Int).toNat], fun b u e => (upd_ne (ne_of_none e hSn)).trans (sG b u e), ?_, by rw [List.length_append, ls]; rfl⟩⟩
      rw [upd_same, List.map_append]
      rfl
    obtain ⟨sts, sG, gS, ls⟩ := e
    have ls : sts.length = m := by omega
    have st2 : Step No ρ1 H1 (rset ρ1 S .fz) G := (Step.same wf1 sG).role hSn (by rw [gS]; simp) .fz
    have own2 : Own (rset ρ1 S .fz) G S .fz (.lst (sts.map V.int)) := ⟨rset_same, gS⟩
    have scr2 := scr1.step st2 (fun z => z)
    have clo2 := clo1.step st2 (fun z => z)
    -- the habits
    refine ⟨_, rfl, _, rfl, a, 3, ns, rfl, scr2.1, fun c3 => ⟨rset ρ1 S .fz, m, c3, rfl, st2.wf, m5, fun ρ3 hl hvs hbs H3 s3 ohl hab lhb => ?_⟩⟩
    have own3 := own2.step s3 (fun z => z)
    -- the model
    refine ⟨_, rfl, ρ3, S, sts, rfl, s3.wf, own3, by omega, fun ρ4 M H4 s4 md4 => ?_⟩
    have own4 := own3.step s4 (fun z => z)
    have ohl4 := ohl.step s4 (fun z => z)
    have hab4 : Paired (HabAt K ρ4 H4) hvs hbs := Paired.imp hab fun _ _ z => z.step s4 (fun z => z)
    have scr4 := (scr2.step s3 (fun z => z)).step s4 (fun z => z)
    have clo4 := (clo2.step s3 (fun z => z)).step s4 (fun z => z)
    have dms : d.many = (sts.length : Nat) := by rw [hdm, ls]
    -- the loom
    refine ⟨_, rfl, _, rfl, _, rfl, _, rfl, init_use s4.wf clo4 dms own4.at_ ohl4.at_ hab4 (by omega) (by omega) fun ρ6 x H6 s6 lm6 => ?_⟩
    have own6 := own4.step s6 (fun z => z)
    have ohl6 := ohl4.step s6 (fun z => z)
    have hab6 : Paired (HabAt K ρ6 H6) hvs hbs := Paired.imp hab4 fun _ _ z => z.step s6 (fun z => z)
    have scr6 := scr4.step s6 (fun z => z)
    have clo6 := clo4.step s6 (fun z => z)
    have md6 := md4.step s6 No_MM
    have wf6 := s6.wf
    have inv6 : LmInv d sts o ⟨List.replicate sts.length [], []⟩ [] 0 (Lm.new o sts hbs) := LmInv.new (by omega)
    -- the rows' list, the digits
    refine ⟨Nat.zero_le _, fun rl hrl => ?_⟩
    have sr : Step No ρ6 H6 ρ6 (upd H6 rl (.lst [])) := Step.new0 wf6 hrl
    have rrl : ρ6 rl = .no := wf6 rl hrl
    have scr7 := scr6.step sr (fun z => z)
    refine ⟨_, rfl, a, 4, ns, rfl, scr7.1, fun c4 => ⟨_, rfl, a, 0, ns, rfl, scr7.1, fun c0'' => ⟨_, _, rfl, rfl, ⟨by decide, by decide⟩, _, _, rfl, rfl, p17, c4, c0'' / 8 % 17, 64, rfl, by omega, by omega, by decide, by decide, fun dp ds hdp lds _ => ?_⟩⟩⟩
    have lds : ds.length ≤ 16 := by omega
    have nrd : rl ≠ dp := ne_of_none upd_same hdp
    have hdp6 : H6 dp = none := sr.dom dp hdp
    have rdp : ρ6 dp = .no := wf6 dp hdp6
    have sd := sr.trans (Step.new0 (M := No) (o := .lst (ds.map V.int)) sr.wf hdp)
    refine ⟨dp, rfl, ⟨_, SqL.of upd_same⟩, ?_⟩
    refine for_list (K := K) (a := dp) (xs := ds.map V.int) (fun j σ G => ∃ (ρ : Rl) (c : Co) (D : List (Row × Int)) (L : Lm) (rvs : List V) (v9 v10 : Option V), σ = [some (.ref a), some (.int (m : Nat)), some (.bl o), some (.ref f), some (.ref S), some (.ref hl), some (.ref M), some (.ref x), some (.ref rl), v9, v10, none, none, none, none, none, none, none, none, none] ∧
        Step MB ρ6 H6 ρ G ∧ (G rl = some (.lst rvs) ∧ ρ rl = .no) ∧ (G dp = some (.lst (ds.map V.int)) ∧ ρ dp = .no) ∧ Paired (RowAt G) rvs (D.map (·.1)) ∧ D.length = j ∧ MdIs ρ G M c sts ∧ LmIs K ρ G x L d ∧ LmInv d sts o c D j L)
      ⟨ρ6, _, [], _, [], none, none, rfl, sd.mono (fun _ z => z.elim), ⟨(upd_ne nrd).trans upd_same, rrl⟩, ⟨upd_same, rdp⟩, .nil, rfl, md6.step sd No_MM, lm6.step sd noNo, inv6⟩ (fun j σ G _ hw => ?_) (fun j y σ G hy hw => ?_) (fun σ G hw => ?_)
    · obtain ⟨_, _, _, _, _, _, _, _, _, _, ⟨z, _⟩, _⟩ := hw
      exact SqL.of z
    · obtain ⟨ρ, c, D, L, rvs, v9, v10, rfl, s, ⟨gr, rr⟩, ⟨gd, rd⟩, pr, lD, md, lm, inv⟩ := hw
      rw [List.getElem?_map] at hy
      obtain ⟨dg, hdg, rfl⟩ := Option.map_eq_some_iff.mp hy
      have hjl : j < ds.length := (List.getElem?_eq_some_iff.mp hdg).1
      have cok := cok_of inv.h (by omega) (by omega)
      have hsent := inv.h.inv.sent
      have lenE := inv.h.inv.lenE
      have rcv := inv.h.rcv dms (by omega)
      refine ⟨_, rfl, _, rfl, ρ, M, c, sts, o, rfl, s.wf, md, cok, hsent, fun qO ov G1 hqO s1 eO pO => ?_⟩
      have st1 : Step No ρ G ρ G1 := Step.same s.wf s1
      have lov : 0 < ov.length := by
        rw [paired_len pO]
        exact opt_ne (by rw [lenE]; omega)
      have gr1 := s1 _ _ gr
      have gd1 := s1 _ _ gd
      have nrd' : rl ≠ dp := nrd
      obtain ⟨jn, v, hjn, _, hv⟩ := at_mod (xs := ov) (i := dg) (n := ((ov.length : Nat) : Int)) rfl (by omega)
      obtain ⟨r, hr, hrv⟩ := paired_at' pO hjn
      have rk : RowOk o sts.length c r := opt_ok lenE rcv hsent (List.mem_of_getElem? hr)
      have lrv : rvs.length = j := by rw [paired_len pr, List.length_map, lD]
      refine ⟨_, rfl, .inl ⟨rfl, _, SqL.of gr1⟩, _, rfl, _, rfl, _, rfl, qO, _, rfl, .inl (SqL.of eO), _, _, rfl, rfl, by omega, qO, _, _, v, rfl, rfl, SqL.of eO, hv, rl, _, _, rfl, rfl, gr1, small6 (by omega), ?_⟩
      have loc : Step M0 ρ G1 ρ (upd G1 rl (.lst (rvs ++ [v]))) := Step.loc st1.wf gr1 rr (fun z => z)
      have s2 : Step MB ρ6 H6 ρ (upd G1 rl (.lst (rvs ++ [v]))) := (s.trans (Step.same s.wf s1)).fresh hrl (by rw [gr1]; simp)
      have md2 := (md.step st1 No_MM).step loc M0_MM
      have lm2 := (lm.step st1 noNo).step loc M0_ML
      have gd2 : upd G1 rl (.lst (rvs ++ [v])) dp = some (.lst (ds.map V.int)) := (upd_ne nrd.symm).trans gd1
      have hrv2 := hrv.tk loc.tk
      have pr2 : Paired (RowAt (upd G1 rl (.lst (rvs ++ [v])))) rvs (D.map (·.1)) := Paired.tkR (Paired.tkR pr st1.tk) loc.tk
      have gr2 := upd_at' (H := G1) (a := rl) (o := .lst (rvs ++ [v]))
      revert loc s2 md2 lm2 gd2 hrv2 pr2 gr2
      generalize upd G1 rl (.lst (rvs ++ [v])) = G2
      intro loc s2 md2 lm2 gd2 hrv2 pr2 gr2
      have uo : ∀ h n, r = .use h n → UseOk L h n := fun h n z => by
        have := rk.2 h n z
        rw [useOk_iff, inv.ord, inv.co]
        exact this
      have nb : ¬ BadHand L r.hand := by
        obtain ⟨i', e1, e2⟩ := rk.1
        rw [e1]
        rintro (z | z)
        · omega
        · rw [inv.many] at z
          omega
      refine ⟨_, rfl, _, rfl, _, rfl, rl, _, _, v, rfl, rfl, SqL.of gr2, atI_last _ _, ρ, x, L, d, v, r, rfl, hrv2, s2.wf, lm2, by rw [inv.many]; omega, inv.ok.mono (by omega), fun z => absurd z nb, fun h n z H' _ nu => absurd (uo h n z) nu, fun ρ3 G3 _ _ st3 lm3 => ?_⟩
      have gr3 := st3.kept gr2 (by rw [rr]; exact ML_no)
      have gd3 := st3.kept gd2 (by rw [rd]; exact ML_no)
      have md3 := md2.step st3 ML_MM
      have s3 := s2.trans (st3.mono fun _ z => .inl z)
      have clo3 := clo6.step s3 MB_fz
      obtain ⟨i, hi, hlt⟩ := rk.1
      refine ⟨_, rfl, _, rfl, _, rfl, _, rfl, rl, _, _, v, rfl, rfl, SqL.of gr3.1, atI_last _ _, ρ3, M, f, v, r, c, sts, d, i, rfl, st3.wf, hrv2.tk st3.tk, md3, clo3, cok, by have := inv.h.inv.lenO; omega, fun es hes => by have := (inv.h.inv.len es hes).1; omega, lenE, hi, hlt, fun h n z => ?_, fun ρ4 G4 st4 md4' => ?_⟩
      · obtain ⟨_, ⟨w, e⟩, _⟩ := (rk.2 h n z).1
        exact ⟨_, e⟩
      have gr4 := st4.kept gr3.1 (by rw [gr3.2, rr]; exact MM_no)
      have gd4 := st4.kept gd3.1 (by rw [gd3.2, rd]; exact MM_no)
      refine ⟨ρ4, c.step d sts r, D ++ [(r, ((((c.step d sts r).evs r.hand.toNat).length : Nat) : Int))], L.act d r, rvs ++ [v], _, _, rfl, s3.trans (st4.mono fun _ z => .inr z), ⟨gr4.1, by rw [gr4.2, gr3.2, rr]⟩, ⟨gd4.1, by rw [gd4.2, gd3.2, rd]⟩, ?_, by rw [List.length_append, lD]; rfl, md4', lm3.step st4 MM_ML, inv.step rk⟩
      rw [List.map_append]
      exact paired_snoc (R := RowAt G4) ((hrv2.tk st3.tk).tk st4.tk) (Paired.tkR (Paired.tkR pr2 st3.tk) st4.tk)
    obtain ⟨ρ, c, D, L, rvs, v9, v10, rfl, s, ⟨gr, rr⟩, _, pr, lD, md, lm, inv⟩ := hw
    rw [List.length_map] at lD inv
    have lD16 : D.length ≤ 16 := by omega
    have X0 : LawSt K ρ G a f S hl M x ns d sts hvs hbs o c D ds.length L := ⟨s.wf, scr6.step s MB_no, clo6.step s MB_fz, own6.step s MB_fz, ohl6.step s MB_fz, Paired.imp hab6 fun _ _ z => z.step s MB_fz, md, lm, inv⟩
    clear lm md s own6 ohl6 hab6 scr6 clo6 md6 lm6 inv6
    -- the names
    refine ⟨_, rfl, ρ, M, c, sts, rfl, X0.wf, X0.md, cok_of X0.inv.h (by omega) lD16, fun qS kvs G1 hqS s1 eS sk => ⟨qS, kvs, rfl, eS, fun pk hpk => ⟨pk, qS, kvs, (sentAll 0 c.E).map (·.1), rfl, upd_same, (upd_ne (ne_of_none eS hpk)).trans eS, sk.keys, fun ys nl hnl pn => ?_⟩⟩⟩
    have sn := s1.trans ((same_upd (o := keysO pk qS) hpk).trans (same_upd (o := .lst ys) hnl))
    have pn1 := Paired.tkN pn (tk_same (same_upd (o := .lst ys) hnl))
    have enl := upd_at (o := .lst ys) hnl
    have lys : ys.length ≤ 1000 := by
      rw [paired_len pn, sortN_len, List.length_map]
      have := (cok_of X0.inv.h (by omega) lD16).sent
      omega
    have rnl : ρ nl = .no := X0.wf nl (s1.free ((same_upd (o := keysO pk qS) hpk).free hnl))
    revert sn pn1 enl
    generalize sortN ((sentAll 0 c.E).map (·.1)) = nms
    generalize upd _ nl (.lst ys) = G2
    intro sn pn1 enl
    have X2 := X0.same sn
    have gr2 := sn _ _ gr
    have pr2 := Paired.tkR pr (tk_same sn)
    have X := X2
    -- the cell
    refine ⟨_, rfl, a, 11, ns, rfl, X2.scr.1, fun c11 => ?_⟩
    refine ⟨fun σ G => ∃ (ρ : Rl) (c : Co) (D : List (Row × Int)) (L : Lm) (rl : Addr) (rvs : List V) (v9 v10 v13 v14 : Option V), σ = [some (.ref a), some (.int (m : Nat)), some (.bl o), some (.ref f), some (.ref S), some (.ref hl), some (.ref M), some (.ref x), some (.ref rl), v9, v10, some (.ref nl), some (.int c11), v13, v14, none, none, none, none, none] ∧
        LawSt K ρ G a f S hl M x ns d sts hvs hbs o c D ds.length L ∧ (G rl = some (.lst rvs) ∧ ρ rl = .no) ∧ Paired (RowAt G) rvs (D.map (·.1)) ∧ D.length ≤ 16 ∧ (G nl = some (.lst ys)) ∧ Paired (NmAt G) ys nms, ?_, ?_⟩
    · refine ⟨_, rfl, _, _, rfl, rfl, p3, _, _, rfl, rfl, _, rfl, ite2 (fun _ => ?_) (fun _ => ?_)⟩
      · refine ⟨_, rfl, _, rfl, _, rfl, by omega, by omega, fun D1 hD1 => ?_⟩
        refine lc_range (lo := 0) (n := ((m : Nat) : Int).toNat) (fun j G => ∃ fl : List Int, Same G2 G ∧ G D1 = some (.lst (fl.map V.int)) ∧ fl.length ≤ j) ⟨[], same_upd hD1, upd_same, Nat.le_refl _⟩ (fun j G hj e => ?_) (fun G e => ?_)
        · obtain ⟨fl, sG, gD, lf⟩ := e
          refine ⟨rfl, _, rfl, _, _, rfl, rfl, ⟨by decide, by decide⟩, _, rfl, _, _, rfl, rfl, by omega, _, _, rfl, rfl, rfl, _, rfl, ite2 (fun _ => ?_) (fun _ => ?_)⟩
          · refine ⟨_, rfl, _, gD, small6 (by rw [List.length_map]; omega), fl ++ [(0 + (j : Nat) : Int)], fun b u e => (upd_ne (ne_of_none e hD1)).trans (sG b u e), ?_, by rw [List.length_append]; exact Nat.add_le_add_right lf 1⟩
            rw [upd_same, List.map_append]
            rfl
          · exact ⟨fl, sG, gD, by omega⟩
        obtain ⟨fl, sG, gD, lf⟩ := e
        have X3 := X2.same sG
        have rD1 : ρ D1 = .no := X2.wf D1 hD1
        refine ⟨ρ, x, D1, L, d, fl, rfl, X3.wf, X3.lm, by rw [X3.inv.many]; omega, X3.inv.ok.mono (by omega), X3.inv.usedOk, gD, by rw [rD1]; exact ML_no, X3.inv.rowsOk, X3.inv.ordOk, fun q ll pp line ρ4 G4 st4 eq ell rll lok snd lm4 => ?_⟩
        have md4 := X3.md.step st4 ML_MM
        have scr4 := X3.scr.step st4 ML_no
        have clo4 := X3.clo.step st4 ML_fz
        have own4 := X3.st.step st4 ML_fz
        have ohb4 := X3.hb.step st4 ML_fz
        have hab4 : Paired (HabAt K ρ4 G4) hvs hbs := Paired.imp X3.hab fun _ _ z => z.step st4 ML_fz
        have gn4 := st4.kept (sG _ _ enl) (by rw [rnl]; exact ML_no)
        have pn4 := Paired.tkN (Paired.tkN pn1 (tk_same sG)) st4.tk
        refine ⟨q, _, rfl, SqT.of eq, rfl, _, _, rfl, _, _, rfl, rfl, ?_⟩
        refine ⟨_, rfl, _, rfl, ρ4, M, ll, c, sts, line, rfl, st4.wf, md4, cok_of X0.inv.h (by omega) lD16, ell, rll, by rw [lok.len, X3.inv.len], line_nn X3.inv lok, ordC X3.inv.h, fun ρ5 G5 st5 md5 => ?_⟩
        have lm5 := lm4.step st5 MM_ML
        have inv5 := X3.inv.goTo lok snd
        have gn5 := st5.kept gn4.1 (by rw [gn4.2, rnl]; exact MM_no)
        obtain ⟨dx, f', tl, dl, ol, tas, dvs, ovs, Y⟩ := id lm5
        refine ⟨_, rfl, x, dx, _, rfl, Y.ob.at_, rfl, ρ5, x, _, d, rfl, lm5, inv5.ok.mono (by omega), fun rl' rvs' hrl' prr => ?_⟩
        have X5 : LawSt K ρ5 G5 a f S hl M x ns d sts hvs hbs o (cutC line c) (D.filter (keepD line)) ds.length (L.goTo line fl) :=
          ⟨st5.wf, scr4.step st5 MM_no, clo4.step st5 MM_fz, own4.step st5 MM_fz, ohb4.step st5 MM_fz, Paired.imp hab4 fun _ _ z => z.step st5 MM_fz, md5, lm5, inv5⟩
        have s6 := same_upd (o := .lst rvs') hrl'
        rw [inv5.done] at prr
        exact ⟨ρ5, _, _, _, rl', rvs', _, _, _, _, rfl, X5.same s6, ⟨upd_same, st5.wf rl' hrl'⟩, Paired.tkR prr (tk_same s6), Nat.le_trans (List.length_filter_le _ _) lD16, s6 _ _ gn5.1, Paired.tkN (Paired.tkN pn4 st5.tk) (tk_same s6)⟩
      · exact ⟨ρ, c, D, L, rl, rvs, _, _, _, _, rfl, X2, ⟨gr2, rr⟩, pr2, lD16, enl, pn1⟩
    clear pr2 gr2 X2 X pn1 enl X0 sn gr pr lD16 lD rr
    rintro σ G ⟨ρ, c1, D, L, rl, rvs, v9, v10, v13, v14, rfl, X, ⟨gr, rr⟩, pr, lD, enl, pn⟩
    have cok1 := cok_of X.inv.h (by omega) lD
    have many1 : L.many ≤ 5 := by rw [X.inv.many]; omega
    have ok1 : L.Ok 50 := X.inv.ok.mono (by omega)
    have hsent1 := X.inv.h.inv.sent
    have lenE1 := X.inv.h.inv.lenE
    -- what is told before
    refine ⟨_, rfl, ρ, x, L, d, rfl, X.wf, X.lm, many1, ok1, fun bv H7 s7 told => ?_⟩
    have X7 := X.same s7
    -- the six cells
    refine ⟨_, _, rfl, ⟨by decide, by decide, by decide, by decide⟩, fun D2 hD2 => ?_⟩
    refine lc_range (lo := 5) (n := (11 - 5 : Int).toNat) (fun j G => ∃ cs : List Int, Same H7 G ∧ G D2 = some (.lst (cs.map V.int)) ∧ cs.length = j) ⟨[], same_upd hD2, upd_same, rfl⟩ (fun j G hj e => ?_) (fun G e => ?_)
    · obtain ⟨cs, sG, gD, lc⟩ := e
      refine ⟨rfl, _, rfl, _, rfl, a, 5 + j, ns, ?_, (X7.same sG).scr.1, fun v => ⟨_, gD, small6 (by rw [List.length_map]; omega), cs ++ [v], fun b u e => (upd_ne (ne_of_none e hD2)).trans (sG b u e), ?_, by rw [List.length_append, lc]; rfl⟩⟩
      · show [V.ref a, V.int (5 + (j : Nat))] = [V.ref a, V.int ((5 + j : Nat) : Int)]
        rw [Int.natCast_add]
        rfl
      · rw [upd_same, List.map_append]
        rfl
    obtain ⟨cs, sG, gD, lc⟩ := e
    have X8 := X7.same sG
    have told8 := told.same sG
    refine ⟨D2, rfl, ⟨_, SqL.of gD⟩, ?_⟩
    refine for_list (K := K) (a := D2) (xs := cs.map V.int) (fun j σ G' => ∃ (v12 v16 v17 : Option V), σ = [some (.ref a), some (.int (m : Nat)), some (.bl o), some (.ref f), some (.ref S), some (.ref hl), some (.ref M), some (.ref x), some (.ref rl), v9, v10, some (.ref nl), v12, v13, v14, some bv, v16, v17, none, none] ∧ Same G G')
      ⟨_, none, none, rfl, Same.refl _⟩ (fun j σ G' _ hw => ?_) (fun j y σ G' hy hw => ?_) (fun σ G' hw => ?_)
    · obtain ⟨_, _, _, _, z⟩ := hw
      exact SqL.of (z _ _ gD)
    · obtain ⟨v12, v16, v17, rfl, s9⟩ := hw
      rw [List.getElem?_map] at hy
      obtain ⟨cell, hcell, rfl⟩ := Option.map_eq_some_iff.mp hy
      have X9 := X8.same s9
      have s79 := s7.trans (sG.trans s9)
      refine ⟨_, rfl, _, rfl, _, rfl, _, rfl, ρ, M, nl, c1, sts, o, ys, _, cell, rfl, X9.wf, X9.md, cok1, by rw [lenE1]; omega, hsent1, s79 _ _ enl, Paired.tkN pn (tk_same s79), lys, fun v rv wd G1 t1 tv du => ?_⟩
      obtain ⟨t, rfl, ht⟩ := tv
      refine ⟨t, _, rfl, SqT.of ht, rfl, _, _, rfl, _, _, rfl, rfl, ?_⟩
      have X10 := X9.same t1
      have du1 := du.due X10.inv.co X10.inv.ord X10.inv.len.symm
      refine ⟨_, rfl, _, rfl, ρ, x, L, d, rv, wd, rfl, X10.wf, X10.lm, many1, ok1, du1, fun G2 t2 => ⟨_, rfl, rfl, ?_⟩⟩
      rw [decide_eq_true rfl]
      refine ⟨_, rfl, iteF ?_⟩
      have X11 := X10.same t2
      refine ⟨_, rfl, ρ, x, L, d, rfl, X11.wf, X11.lm, many1, ok1, fun bv' G3 t3 told' => ?_⟩
      have told9 := told8.same (s9.trans (t1.trans (t2.trans t3)))
      obtain ⟨p, q, xs, ys', e1, e2, q1, q2, q3⟩ := told_eq (K := K) told' told9
      exact ⟨_, rfl, p, q, xs, ys', 6, e1, e2, q1, q2, by decide, q3, _, rfl, iteF ⟨_, _, _, rfl, s9.trans (t1.trans (t2.trans t3))⟩⟩
    obtain ⟨v12, v16, v17, rfl, s9⟩ := hw
    have X9 := X8.same s9
    have s79 := s7.trans (sG.trans s9)
    refine ⟨_, rfl, _, rfl, _, rfl, _, rfl, _, rfl, _, rfl, _, rfl, ρ, M, c1, sts, o, rfl, X9.wf, X9.md, cok1, hsent1, fun qF fv G1 hqF t1 eF pF => ?_⟩
    have X10 := X9.same t1
    refine ⟨_, rfl, qF, fv, rfl, SqL.of eF, fun q4 hq4 => ?_⟩
    have t2 := same_upd (o := .lst (cutV fv none (some 4))) hq4
    have X11 := X10.same t2
    obtain ⟨fs, pfs, sub⟩ := cut_pair (lo := none) (hi := some 4) (Paired.tkF pF (tk_same t2))
    have s11 := s79.trans (t1.trans t2)
    exact ⟨ρ, f, S, hl, rl, q4, d, sts, hvs, rvs, _, hbs, o, c1, D, fs, rfl, X11.wf, X11.clo, dms, by omega, by omega, ⟨X11.st.at_, by rw [X11.st.role]; exact ML_fz⟩, ⟨X11.hb.at_, by rw [X11.hb.role]; exact ML_fz⟩, X11.hab, by omega, ⟨s11 _ _ gr, by rw [rr]; exact ML_no⟩, Paired.tkR pr (tk_same s11), by omega, ⟨upd_same, by rw [X10.wf q4 hq4]; exact ML_no⟩, pfs, X11.inv.h, fun h n hfn => (free_iff hsent1).mp (freeL_mem.mp (sub _ hfn)), fun H' => k H'⟩
end
end Bk
set_option Elab.async false
set_option linter.all false
set_option maxRecDepth 100000
set_option maxHeartbeats 0
namespace Bk
open PySem L2
abbrev R : PySem.W.OpenRow := PySem.W.OpenLaw.row PySem.Challenge.rw_backline_k12_what_may_not_be_done
abbrev hk : PySem.W.Hook := He.hookX 6 fa fn [] tf exB
def ob (s : PySem.W.SharedT) : He.AlX := He.obsX 6 fa fn [] tf exB (HandSHeadRun.getT s)
theorem ob_eq (s : PySem.W.SharedT) : ob s = hk.obs s.abs := He.obsX_eq (HandSHeadRun.getT_eq s)
theorem run (w : World) : HandSHeadRun.RunEq R (PySem.W.view R.prog [51]) hk ob 30000 names w := by
  intro os
  kernel_rfl
end Bk
set_option Elab.async false
set_option linter.all false
set_option maxRecDepth 100000
set_option maxHeartbeats 4000000
/-! The end. -/
namespace Bk
open PySem PySem.Spec PyProof.Rows L2 LamX
theorem facts {l : PySem.W.OpenLaw} {n : Nat} {w : World} {K : PySem.W.Frag} {h : Heap} {mg : Str → Option Value} {f : Addr} (X : K.In h) (G : h.Ns mainGlobals mg) (hfa : mg ("law" : Str) = some (.ref f)) (c : He.SaysX fa fn [] tf exB w h K) :
    LawAtS l w K CX0 9 n "_law_script" mg f h := by
  have T : Txt K mg := ⟨c.t.d, fun x hx => He.glo_ok X G hx, fun x hx => He.free_ok X G hx, c.more⟩
  obtain ⟨fd, F⟩ := T.f_law
  have e := hfa.symm.trans T.g_law
  cases e
  have b := FunD.bindsA (ps := ["_law_script"]) F fun _ _ _ _ _ _ us hl => match us, hl with | [_], _ => rfl
  refine ⟨fd, [He.cT K ("_law_program", none)], sp_law K, ?_, ?_, ?_, fun s v => b s [v] rfl, fun H a ns _ _ hT hS => ⟨a, ns, rfl, hS, hT _ List.mem_cons_self, fun _ => rfl⟩, fun base _ _ TB => ok_law T (TB _ List.mem_cons_self) F⟩
  · intro p hp
    rw [List.mem_singleton.mp hp]
    exact c.empty _ List.mem_cons_self
  · intro p hp
    rw [List.mem_singleton.mp hp]
    exact c.out _ List.mem_cons_self
  · intro p hp
    rw [List.mem_singleton.mp hp]
    exact PySem.W.codeHd_of_K X (c.hd _ List.mem_cons_self)
end Bk
open PySem PySem.W PySem.Calls PyProof.Rows
theorem PySem.Challenge.cw_backline_k12_what_may_not_be_done_holds : PySem.Challenge.rw_backline_k12_what_may_not_be_done.Holds := by
  w_on; o_law
  refine HandSHeadRun.head_any (r := OpenLaw.row PySem.Challenge.rw_backline_k12_what_may_not_be_done) (q := view (OpenLaw.row PySem.Challenge.rw_backline_k12_what_may_not_be_done).prog [51]) (H := Bk.hk) (ob := Bk.ob) (M := 30000) (loose := Bk.names) (d := HandSHeadRun.topDef (OpenLaw.row PySem.Challenge.rw_backline_k12_what_may_not_be_done).prog 51) (kwd := []) Bk.ob_eq
    (by kernel_rfl) (fun s => by kernel_rfl) Bk.run (by kernel_rfl) (by kernel_rfl) (by kernel_rfl) (by rfl) (by first | assumption | decide +kernel) (by decide +kernel) ⟨rfl, rfl, rfl, rfl, rfl, by decide +kernel⟩ ?hw ?hc
  case hw => w_witness2
  case hc =>
    refine LamX.walk_ofTsE (l := PySem.Challenge.rw_backline_k12_what_may_not_be_done) (n := 63) (k := 9) (x := "_law_script") (CX := fun _ => L2.CX0) rfl (by decide) (by kernel_rfl) ⟨rfl, by decide, by decide⟩ ?F (fun _ _ _ _ _ z => z)
    intro w mg fa h Y G hmg0
    obtain ⟨K, KX, c⟩ := Y
    have hmg : mg ("law" : PySem.Str) = some (.ref fa) := by
      have e : (HandSHeadRun.topDef (OpenLaw.row PySem.Challenge.rw_backline_k12_what_may_not_be_done).prog 51).name = ("law" : PySem.Str) := by kernel_rfl
      rw [← e]
      exact hmg0
    exact ⟨K, KX, Bk.facts KX G hmg c⟩
