import PyProof.Rows.All
import Wide.All
import OpenK.AllK
import Wide.FinOn
import KE.KStateDown
import HandS.Head0
import HandS.Head1
import HandS.Head2
import HandS.HeadEnd
import HandS.HeadWalk
import HandS.HeadHook1
import HandS.HeadHook2
import HandS.HeadHook3
import HandS.HeadHook4
import HandS.ForMost
import HandS.ForExc
import HandS.More
import HandS.Flow
import HandS.Style
import HandS.Deep
import HandS.Conv
import HandS.Wide
import HandS.TupAny
import HandS.Zip
import HandS.Defaults
import HandS.Lambda
import KE.KDictKeyed
import KE.KeyNested
import KE.SortData
import HandS.Flt
import HandS.IsInst
import HandS.ExcOwn
import HandS.WordsExc
import PyProof.ExcBaseAll.ValueError
import KE.KDictZip
import HandS.ExcValue
import PyProof.ListNew
import HandS.ExcIs
import HandS.Ends
import HandS.EndBits
import PyProof.ReprRoads
import KE.KDictSum
import PyProof.Transfer
import KE.GoesNew
import KE.KDictCopyH
import KE.KDictOf
import HandS.SetFor
import HandS.Strs
import HandS.TupSets
import PySem.Challenge.RW_turnbridge_k15_promises_by_hand
set_option Elab.async false
set_option linter.all false
set_option maxRecDepth 100000
set_option maxHeartbeats 0
namespace Tb
def lamMakers : List String := ["_law_counted_right", "_law_yard_right"]
end Tb
namespace Lw
open PySem PySem.Spec PyProof.Rows L2 Tb
def top (i : Nat) : Stmt := PySem.Challenge.pw_turnbridge_k15_promises_by_hand.main.body.getD i (.Pass ⟨0, 0, 0, 0⟩)
abbrev s_is_whole : Stmt := top 14
abbrev s_between : Stmt := top 15
abbrev s_is_count : Stmt := top 16
abbrev s_is_line : Stmt := top 17
abbrev s_engines_of : Stmt := top 18
abbrev s_check_lines : Stmt := top 19
abbrev s_check_order : Stmt := top 20
abbrev s_is_deed : Stmt := top 21
abbrev s_check_deeds : Stmt := top 22
abbrev s_first_stand : Stmt := top 24
abbrev s_behind : Stmt := top 25
abbrev s_there : Stmt := top 26
abbrev s_next_of : Stmt := top 27
abbrev s_kept : Stmt := top 28
abbrev s_is_last : Stmt := top 29
abbrev s_gone_by : Stmt := top 30
abbrev s_heights_of : Stmt := top 31
abbrev s_brings : Stmt := top 32
abbrev s_Came_init : Stmt := inClass (top 35) 0
abbrev s_Came_shows : Stmt := inClass (top 35) 1
abbrev s_Barred_init : Stmt := inClass (top 36) 0
abbrev s_Barred_shows : Stmt := inClass (top 36) 1
abbrev s_Within_init : Stmt := inClass (top 37) 0
abbrev s_Within_shows : Stmt := inClass (top 37) 1
abbrev s_Beyond_init : Stmt := inClass (top 38) 0
abbrev s_nexts : Stmt := top 42
abbrev s_fits : Stmt := top 41
abbrev s_are_closed : Stmt := top 43
abbrev s_Beyond_shows : Stmt := inClass (top 38) 1
abbrev s_first_wrong : Stmt := top 44
abbrev s_Right_shows : Stmt := inClass (top 39) 0
abbrev s_Wrong_init : Stmt := inClass (top 40) 0
abbrev s_Wrong_shows : Stmt := inClass (top 40) 1
abbrev s_came : Stmt := top 46
abbrev s_least_way : Stmt := top 47
abbrev s_within : Stmt := top 48
abbrev s_fewest : Stmt := top 49
abbrev s_turns_of : Stmt := top 50
abbrev s_orders : Stmt := top 51
abbrev s_ways_on : Stmt := top 53
abbrev s_check_all : Stmt := top 54
abbrev s_how_many : Stmt := top 55
abbrev s_part_of : Stmt := top 56
abbrev s_deeds_by : Stmt := top 57
abbrev s_number_of : Stmt := top 58
abbrev s_judged : Stmt := top 60
abbrev s_Yard_init : Stmt := inClass (top 62) 0
abbrev s_Yard_do : Stmt := inClass (top 62) 1
abbrev s_Yard_now : Stmt := inClass (top 62) 2
abbrev s_Yard_away : Stmt := inClass (top 62) 3
abbrev s_Yard_done : Stmt := inClass (top 62) 4
abbrev s_Yard_tale : Stmt := inClass (top 62) 5
abbrev s__law_word : Stmt := top 64
abbrev s__law_three_right : Stmt := top 66
abbrev s__law_deeds_right : Stmt := top 65
abbrev s__law_within_right : Stmt := top 68
abbrev s__law_orders_right : Stmt := top 67
abbrev s__law_counted_right : Stmt := top 69
abbrev s__law_yard_right : Stmt := top 70
abbrev s_law : Stmt := top 71
abbrev is_Barred : List (Str × Bool) := [("Came", false), ("Barred", true), ("Within", false), ("Beyond", false), ("Right", false), ("Wrong", false), ("Yard", false)]
abbrev is_Beyond : List (Str × Bool) := [("Came", false), ("Barred", false), ("Within", false), ("Beyond", true), ("Right", false), ("Wrong", false), ("Yard", false)]
abbrev is_Came : List (Str × Bool) := [("Came", true), ("Barred", false), ("Within", false), ("Beyond", false), ("Right", false), ("Wrong", false), ("Yard", false)]
abbrev is_Right : List (Str × Bool) := [("Came", false), ("Barred", false), ("Within", false), ("Beyond", false), ("Right", true), ("Wrong", false), ("Yard", false)]
abbrev is_Within : List (Str × Bool) := [("Came", false), ("Barred", false), ("Within", true), ("Beyond", false), ("Right", false), ("Wrong", false), ("Yard", false)]
abbrev is_Wrong : List (Str × Bool) := [("Came", false), ("Barred", false), ("Within", false), ("Beyond", false), ("Right", false), ("Wrong", true), ("Yard", false)]
abbrev ss_DEEDS : List Str := ["left", "out", "put", "right", "take"]
end Lw
namespace Lw.H1
open PySem PySem.Spec PyProof.Rows L2 Tb
def tabAt (K : PySem.W.Frag) (f : Addr) : Option Addr := match K.lookup f with
  | some o => (match o.data with
    | .func fd => (match fd.code with
      | .ref c => (match K.lookup c with
        | some oc => (match oc.data with
          | .fields vs => (match (vs[11]? : Option Value) with
            | some (.ref P) => some P
            | _ => none)
          | _ => none)
        | none => none)
      | _ => none)
    | _ => none)
  | none => none
def lamName (n : Str) : Str := n ++ (".<locals>.<lambda>" : Str)
def tabsOf (K : PySem.W.Frag) : List (Addr × Str) := lamMakers.filterMap fun n => (tabAt K (He.ga K (Str.ofString n))).map fun P => (P, lamName (Str.ofString n))
def mkB (K : PySem.W.Frag) : Bool := (lamMakers.all fun n => match tabAt K (He.ga K (Str.ofString n)) with
  | some P => (K.lookup P).isNone
  | none => false) && decide ((tabsOf K).map (·.1)).Nodup
def mk0B (K : PySem.W.Frag) (x : Str) : Bool := PySem.W.makesIn K (He.ga K x) && (He.eqO (PySem.W.findIn K (.ref (He.ga K x)) "__init__") (some (some (.builtin "object.__init__"))) && PySem.W.keepIn K (.ref (He.ga K x)))
def insB (K : PySem.W.Frag) (x : Str) : Bool := He.eqO (PySem.W.findIn K (.ref (He.ga K x)) "__class__") (some (some (.builtin "object.__class__"))) && (He.eqO (PySem.W.specialIn K (.builtin "object.__class__") "__get__") (some (some (.builtin "getset_descriptor.__get__"))) &&
  (decide (PySem.W.takesIn K (.builtin "object.__class__") = some true) && decide (PySem.W.mroIn K (He.ga K x) (.type "object") = some true)))
def ownB (K : PySem.W.Frag) (dd : Str) (cs : List (Str × Bool)) : Bool := (["NoneType", "bool", "int", "str", "tuple", "list"].all fun n => decide (PySem.W.kitOne K (.type n) (.ref (He.ga K dd)) = some false)) && cs.all fun p => insB K p.1 && decide (PySem.W.kitOne K (.ref (He.ga K p.1)) (.ref (He.ga K dd)) = some p.2)
def excOk (K : PySem.W.Frag) (c : Str) : Bool := He.eqO (PySem.W.findIn K (.ref (He.ga K c)) "__getattribute__") (some (some (.builtin "BaseException.__getattribute__"))) && (He.eqO (PySem.W.findIn K (.ref (He.ga K c)) "__getattr__") (some none) && (decide (PySem.W.subIn K (.ref (He.ga K c)) (.type "BaseException") = some true) && (PySem.W.hasDictIn K (He.ga K c) &&
  (He.eqO (PySem.W.findIn K (.ref (He.ga K c)) "__class__") (some (some (.builtin "object.__class__"))) && (He.eqO (PySem.W.specialIn K (.builtin "object.__class__") "__get__") (some (some (.builtin "getset_descriptor.__get__"))) && (decide (PySem.W.takesIn K (.builtin "object.__class__") = some true) && decide (PySem.W.mroIn K (He.ga K c) (.type "object") = some true)))))))
def fa0 : List He.Fa := [.free "len", .free "isinstance", .free "sorted", .free "range", .free "list", .free "tuple", .free "sum", .free "min", .free "all", .free "any", .free "enumerate", .free "int", .free "bool", .free "str", .free "zip", .free "set", .glo "is_whole", .keep "is_whole", .glo "between", .keep "between", .glo "is_count", .keep "is_count", .glo "is_line", .keep "is_line"]
def fa1 : List He.Fa := [.glo "engines_of", .keep "engines_of", .glo "check_lines", .keep "check_lines", .glo "check_order", .keep "check_order", .glo "is_deed", .keep "is_deed", .glo "check_deeds", .keep "check_deeds", .glo "first_stand", .keep "first_stand", .glo "behind", .keep "behind", .glo "there", .keep "there", .glo "next_of", .keep "next_of", .glo "kept", .keep "kept", .glo "is_last", .keep "is_last", .glo "gone_by", .keep "gone_by"]
def fa2 : List He.Fa := [.glo "heights_of", .keep "heights_of", .glo "brings", .keep "brings", .glo "nexts", .keep "nexts", .glo "fits", .keep "fits", .glo "are_closed", .keep "are_closed", .glo "first_wrong", .keep "first_wrong", .glo "came", .keep "came", .glo "least_way", .keep "least_way", .glo "within", .keep "within", .glo "fewest", .keep "fewest", .glo "turns_of", .keep "turns_of", .glo "orders", .keep "orders"]
def fa3 : List He.Fa := [.glo "ways_on", .keep "ways_on", .glo "check_all", .keep "check_all", .glo "how_many", .keep "how_many", .glo "part_of", .keep "part_of", .glo "deeds_by", .keep "deeds_by", .glo "number_of", .keep "number_of", .glo "judged", .keep "judged", .glo "_law_word", .keep "_law_word", .glo "_law_three_right", .keep "_law_three_right", .glo "_law_deeds_right", .keep "_law_deeds_right", .glo "_law_within_right", .keep "_law_within_right", .glo "_law_orders_right", .keep "_law_orders_right"]
def fa4 : List He.Fa := [.glo "_law_counted_right", .keep "_law_counted_right", .glo "_law_yard_right", .keep "_law_yard_right", .glo "law", .keep "law", .glo "Came", .glo "Barred", .glo "Within", .glo "Beyond", .glo "Right", .glo "Wrong", .glo "Yard", .glo "BadCount", .glo "BadDeed", .glo "BadDeeds", .glo "BadLines", .glo "BadNumber", .glo "BadOrder", .glo "BadTale", .glo "CannotBe", .glo "NotAll", .glo "BridgeError", .cls "Came"]
def fa5 : List He.Fa := [.mkr "Came", .cls "Barred", .mkr "Barred", .cls "Within", .mkr "Within", .cls "Beyond", .mkr "Beyond", .cls "Right", .cls "Wrong", .mkr "Wrong", .cls "Yard", .mkr "Yard", .meth "Came" "shows", .meth "Barred" "shows", .meth "Within" "shows", .meth "Beyond" "shows", .meth "Right" "shows", .meth "Wrong" "shows", .meth "Yard" "do", .meth "Yard" "now", .meth "Yard" "away", .meth "Yard" "done", .meth "Yard" "tale", .exc "BadCount"]
def fa6 : List He.Fa := [.exc "BadDeed", .exc "BadDeeds", .exc "BadLines", .exc "BadNumber", .exc "BadOrder", .exc "BadTale", .exc "CannotBe", .exc "NotAll", .noat "Came" "stand", .noat "Came" "gone", .noat "Barred" "place", .noat "Wrong" "place", .noat "Within" "deeds", .noat "Yard" "deeds", .noat "Beyond" "heights", .noat "Yard" "lines", .noat "Yard" "here", .noat "Yard" "left", .glo "DEEDS", .int "MOST" 60]
def fa : List He.Fa := fa0 ++ fa1 ++ fa2 ++ fa3 ++ fa4 ++ fa5 ++ fa6
def fn0 : List He.DefD := [⟨("is_whole", none), "is_whole", "is_whole", defArgs s_is_whole, defBody s_is_whole, defScope s_is_whole, [], []⟩,
  ⟨("between", none), "between", "between", defArgs s_between, defBody s_between, defScope s_between, [], []⟩,
  ⟨("is_count", none), "is_count", "is_count", defArgs s_is_count, defBody s_is_count, defScope s_is_count, [], []⟩,
  ⟨("is_line", none), "is_line", "is_line", defArgs s_is_line, defBody s_is_line, defScope s_is_line, [], []⟩,
  ⟨("engines_of", none), "engines_of", "engines_of", defArgs s_engines_of, defBody s_engines_of, defScope s_engines_of, [], []⟩,
  ⟨("check_lines", none), "check_lines", "check_lines", defArgs s_check_lines, defBody s_check_lines, defScope s_check_lines, [], []⟩,
  ⟨("check_order", none), "check_order", "check_order", defArgs s_check_order, defBody s_check_order, defScope s_check_order, [], []⟩,
  ⟨("is_deed", none), "is_deed", "is_deed", defArgs s_is_deed, defBody s_is_deed, defScope s_is_deed, [], []⟩,
  ⟨("check_deeds", none), "check_deeds", "check_deeds", defArgs s_check_deeds, defBody s_check_deeds, defScope s_check_deeds, [], []⟩,
  ⟨("first_stand", none), "first_stand", "first_stand", defArgs s_first_stand, defBody s_first_stand, defScope s_first_stand, [], []⟩,
  ⟨("behind", none), "behind", "behind", defArgs s_behind, defBody s_behind, defScope s_behind, [], []⟩,
  ⟨("there", none), "there", "there", defArgs s_there, defBody s_there, defScope s_there, [], []⟩,
  ⟨("next_of", none), "next_of", "next_of", defArgs s_next_of, defBody s_next_of, defScope s_next_of, [], []⟩,
  ⟨("kept", none), "kept", "kept", defArgs s_kept, defBody s_kept, defScope s_kept, [], []⟩,
  ⟨("is_last", none), "is_last", "is_last", defArgs s_is_last, defBody s_is_last, defScope s_is_last, [], []⟩,
  ⟨("gone_by", none), "gone_by", "gone_by", defArgs s_gone_by, defBody s_gone_by, defScope s_gone_by, [], []⟩,
  ⟨("heights_of", none), "heights_of", "heights_of", defArgs s_heights_of, defBody s_heights_of, defScope s_heights_of, [], []⟩,
  ⟨("brings", none), "brings", "brings", defArgs s_brings, defBody s_brings, defScope s_brings, [], []⟩,
  ⟨("Came", some "__init__"), "__init__", "Came.__init__", defArgs s_Came_init, defBody s_Came_init, defScope s_Came_init, [], []⟩,
  ⟨("Came", some "shows"), "shows", "Came.shows", defArgs s_Came_shows, defBody s_Came_shows, defScope s_Came_shows, [], []⟩,
  ⟨("Barred", some "__init__"), "__init__", "Barred.__init__", defArgs s_Barred_init, defBody s_Barred_init, defScope s_Barred_init, [], []⟩,
  ⟨("Barred", some "shows"), "shows", "Barred.shows", defArgs s_Barred_shows, defBody s_Barred_shows, defScope s_Barred_shows, [], []⟩,
  ⟨("Within", some "__init__"), "__init__", "Within.__init__", defArgs s_Within_init, defBody s_Within_init, defScope s_Within_init, [], []⟩,
  ⟨("Within", some "shows"), "shows", "Within.shows", defArgs s_Within_shows, defBody s_Within_shows, defScope s_Within_shows, [], []⟩]
def fn1 : List He.DefD := [⟨("Beyond", some "__init__"), "__init__", "Beyond.__init__", defArgs s_Beyond_init, defBody s_Beyond_init, defScope s_Beyond_init, [], []⟩,
  ⟨("nexts", none), "nexts", "nexts", defArgs s_nexts, defBody s_nexts, defScope s_nexts, [], []⟩,
  ⟨("fits", none), "fits", "fits", defArgs s_fits, defBody s_fits, defScope s_fits, [], []⟩,
  ⟨("are_closed", none), "are_closed", "are_closed", defArgs s_are_closed, defBody s_are_closed, defScope s_are_closed, [], []⟩,
  ⟨("Beyond", some "shows"), "shows", "Beyond.shows", defArgs s_Beyond_shows, defBody s_Beyond_shows, defScope s_Beyond_shows, [], []⟩,
  ⟨("first_wrong", none), "first_wrong", "first_wrong", defArgs s_first_wrong, defBody s_first_wrong, defScope s_first_wrong, [], []⟩,
  ⟨("Right", some "shows"), "shows", "Right.shows", defArgs s_Right_shows, defBody s_Right_shows, defScope s_Right_shows, [], []⟩,
  ⟨("Wrong", some "__init__"), "__init__", "Wrong.__init__", defArgs s_Wrong_init, defBody s_Wrong_init, defScope s_Wrong_init, [], []⟩,
  ⟨("Wrong", some "shows"), "shows", "Wrong.shows", defArgs s_Wrong_shows, defBody s_Wrong_shows, defScope s_Wrong_shows, [], []⟩,
  ⟨("came", none), "came", "came", defArgs s_came, defBody s_came, defScope s_came, [], []⟩,
  ⟨("least_way", none), "least_way", "least_way", defArgs s_least_way, defBody s_least_way, defScope s_least_way, [], []⟩,
  ⟨("within", none), "within", "within", defArgs s_within, defBody s_within, defScope s_within, [], []⟩,
  ⟨("fewest", none), "fewest", "fewest", defArgs s_fewest, defBody s_fewest, defScope s_fewest, [], []⟩,
  ⟨("turns_of", none), "turns_of", "turns_of", defArgs s_turns_of, defBody s_turns_of, defScope s_turns_of, [], []⟩,
  ⟨("orders", none), "orders", "orders", defArgs s_orders, defBody s_orders, defScope s_orders, [], []⟩,
  ⟨("ways_on", none), "ways_on", "ways_on", defArgs s_ways_on, defBody s_ways_on, defScope s_ways_on, [], []⟩,
  ⟨("check_all", none), "check_all", "check_all", defArgs s_check_all, defBody s_check_all, defScope s_check_all, [], []⟩,
  ⟨("how_many", none), "how_many", "how_many", defArgs s_how_many, defBody s_how_many, defScope s_how_many, [], []⟩,
  ⟨("part_of", none), "part_of", "part_of", defArgs s_part_of, defBody s_part_of, defScope s_part_of, [], []⟩,
  ⟨("deeds_by", none), "deeds_by", "deeds_by", defArgs s_deeds_by, defBody s_deeds_by, defScope s_deeds_by, [], []⟩,
  ⟨("number_of", none), "number_of", "number_of", defArgs s_number_of, defBody s_number_of, defScope s_number_of, [], []⟩,
  ⟨("judged", none), "judged", "judged", defArgs s_judged, defBody s_judged, defScope s_judged, [], []⟩,
  ⟨("Yard", some "__init__"), "__init__", "Yard.__init__", defArgs s_Yard_init, defBody s_Yard_init, defScope s_Yard_init, [], []⟩,
  ⟨("Yard", some "do"), "do", "Yard.do", defArgs s_Yard_do, defBody s_Yard_do, defScope s_Yard_do, [], []⟩]
def fn2 : List He.DefD := [⟨("Yard", some "now"), "now", "Yard.now", defArgs s_Yard_now, defBody s_Yard_now, defScope s_Yard_now, [], []⟩,
  ⟨("Yard", some "away"), "away", "Yard.away", defArgs s_Yard_away, defBody s_Yard_away, defScope s_Yard_away, [], []⟩,
  ⟨("Yard", some "done"), "done", "Yard.done", defArgs s_Yard_done, defBody s_Yard_done, defScope s_Yard_done, [], []⟩,
  ⟨("Yard", some "tale"), "tale", "Yard.tale", defArgs s_Yard_tale, defBody s_Yard_tale, defScope s_Yard_tale, [], []⟩,
  ⟨("_law_word", none), "_law_word", "_law_word", defArgs s__law_word, defBody s__law_word, defScope s__law_word, [], []⟩,
  ⟨("_law_three_right", none), "_law_three_right", "_law_three_right", defArgs s__law_three_right, defBody s__law_three_right, defScope s__law_three_right, [], []⟩,
  ⟨("_law_deeds_right", none), "_law_deeds_right", "_law_deeds_right", defArgs s__law_deeds_right, defBody s__law_deeds_right, defScope s__law_deeds_right, [], []⟩,
  ⟨("_law_within_right", none), "_law_within_right", "_law_within_right", defArgs s__law_within_right, defBody s__law_within_right, defScope s__law_within_right, [], []⟩,
  ⟨("_law_orders_right", none), "_law_orders_right", "_law_orders_right", defArgs s__law_orders_right, defBody s__law_orders_right, defScope s__law_orders_right, [], []⟩,
  ⟨("_law_counted_right", none), "_law_counted_right", "_law_counted_right", defArgs s__law_counted_right, defBody s__law_counted_right, defScope s__law_counted_right, [], []⟩,
  ⟨("_law_yard_right", none), "_law_yard_right", "_law_yard_right", defArgs s__law_yard_right, defBody s__law_yard_right, defScope s__law_yard_right, [], []⟩,
  ⟨("law", none), "law", "law", defArgs s_law, defBody s_law, defScope s_law, [], []⟩]
def fn : List He.DefD := fn0 ++ fn1 ++ fn2
def ex (K : PySem.W.Frag) : Bool := excOk K "BadCount" && (decide (PySem.W.exmOne K (.ref (He.ga K "BadCount")) (.ref (He.ga K "BridgeError")) = some true) && (decide (PySem.W.kitOne K (.ref (He.ga K "BadCount")) (.ref (He.ga K "CannotBe")) = some false) && (decide (PySem.W.kitOne K (.ref (He.ga K "BadCount")) (.ref (He.ga K "NotAll")) = some false) && (excOk K "BadDeed" && (decide (PySem.W.exmOne K (.ref (He.ga K "BadDeed")) (.ref (He.ga K "BridgeError")) = some true) && (decide (PySem.W.kitOne K (.ref (He.ga K "BadDeed")) (.ref (He.ga K "CannotBe")) = some false) && (decide (PySem.W.kitOne K (.ref (He.ga K "BadDeed")) (.ref (He.ga K "NotAll")) = some false) && (excOk K "BadDeeds" && (decide (PySem.W.exmOne K (.ref (He.ga K "BadDeeds")) (.ref (He.ga K "BridgeError")) = some true) && (decide (PySem.W.kitOne K (.ref (He.ga K "BadDeeds")) (.ref (He.ga K "CannotBe")) = some false) && (decide (PySem.W.kitOne K (.ref (He.ga K "BadDeeds")) (.ref (He.ga K "NotAll")) = some false) && (excOk K "BadLines" && (decide (PySem.W.exmOne K (.ref (He.ga K "BadLines")) (.ref (He.ga K "BridgeError")) = some true) && (decide (PySem.W.kitOne K (.ref (He.ga K "BadLines")) (.ref (He.ga K "CannotBe")) = some false) && (decide (PySem.W.kitOne K (.ref (He.ga K "BadLines")) (.ref (He.ga K "NotAll")) = some false) && (excOk K "BadNumber" && (decide (PySem.W.exmOne K (.ref (He.ga K "BadNumber")) (.ref (He.ga K "BridgeError")) = some true) && (decide (PySem.W.kitOne K (.ref (He.ga K "BadNumber")) (.ref (He.ga K "CannotBe")) = some false) && (decide (PySem.W.kitOne K (.ref (He.ga K "BadNumber")) (.ref (He.ga K "NotAll")) = some false) && (excOk K "BadOrder" && (decide (PySem.W.exmOne K (.ref (He.ga K "BadOrder")) (.ref (He.ga K "BridgeError")) = some true) && (decide (PySem.W.kitOne K (.ref (He.ga K "BadOrder")) (.ref (He.ga K "CannotBe")) = some false) && (decide (PySem.W.kitOne K (.ref (He.ga K "BadOrder")) (.ref (He.ga K "NotAll")) = some false) && (excOk K "BadTale" && (decide (PySem.W.exmOne K (.ref (He.ga K "BadTale")) (.ref (He.ga K "BridgeError")) = some true) && (decide (PySem.W.kitOne K (.ref (He.ga K "BadTale")) (.ref (He.ga K "CannotBe")) = some false) && (decide (PySem.W.kitOne K (.ref (He.ga K "BadTale")) (.ref (He.ga K "NotAll")) = some false) && (excOk K "CannotBe" && (decide (PySem.W.exmOne K (.ref (He.ga K "CannotBe")) (.ref (He.ga K "BridgeError")) = some true) && (decide (PySem.W.kitOne K (.ref (He.ga K "CannotBe")) (.ref (He.ga K "CannotBe")) = some true) && (decide (PySem.W.kitOne K (.ref (He.ga K "CannotBe")) (.ref (He.ga K "NotAll")) = some false) && (excOk K "NotAll" && (decide (PySem.W.exmOne K (.ref (He.ga K "NotAll")) (.ref (He.ga K "BridgeError")) = some true) && (decide (PySem.W.kitOne K (.ref (He.ga K "NotAll")) (.ref (He.ga K "CannotBe")) = some false) && (decide (PySem.W.kitOne K (.ref (He.ga K "NotAll")) (.ref (He.ga K "NotAll")) = some true) && (mk0B K "Right" && (ownB K "Barred" is_Barred && (ownB K "Beyond" is_Beyond && (ownB K "Came" is_Came && (ownB K "Right" is_Right && (ownB K "Within" is_Within && (ownB K "Wrong" is_Wrong && (He.tupB K "DEEDS" (ss_DEEDS.map .str) && (mkB K))))))))))))))))))))))))))))))))))))))))))))
abbrev R : PySem.W.OpenRow := PySem.W.OpenLaw.row PySem.Challenge.rw_turnbridge_k15_promises_by_hand
abbrev hk : PySem.W.Hook := He.hookX 5 fa fn [] [] ex
def ob (s : PySem.W.SharedT) : He.AlX := He.obsX 5 fa fn [] [] ex (HandSHeadRun.getT s)
theorem ob_eq (s : PySem.W.SharedT) : ob s = hk.obs s.abs := He.obsX_eq (HandSHeadRun.getT_eq s)
def loose0 : List PySem.Str := ["BridgeError", "BadLines", "BadDeeds", "BadOrder", "BadCount", "BadNumber", "BadTale", "BadDeed", "NotAll", "CannotBe", "DEEDS", "MOST", "is_whole", "between", "is_count", "is_line", "engines_of", "check_lines", "check_order", "is_deed", "check_deeds", "first_stand", "behind", "there"]
def loose1 : List PySem.Str := ["next_of", "kept", "is_last", "gone_by", "heights_of", "brings", "Answer", "Came", "Barred", "Within", "Beyond", "Right", "Wrong", "fits", "nexts", "are_closed", "first_wrong", "came", "least_way", "within", "fewest", "turns_of", "orders", "ways_on"]
def loose2 : List PySem.Str := ["check_all", "how_many", "part_of", "deeds_by", "number_of", "judged", "Yard", "_law_word", "_law_deeds_right", "_law_three_right", "_law_orders_right", "_law_within_right"]
def loose : List PySem.Str := loose0 ++ loose1 ++ loose2
theorem run (w : World) : HandSHeadRun.RunEq R (PySem.W.view R.prog [69, 70, 71]) hk ob 20000 loose w := by
  intro os
  kernel_rfl
end Lw.H1
/-! The defs of a law that make lambdas (empty where there is none). -/
namespace Tb
end Tb

/-! Data values, what stands for what, the logical heap of the objects that change. -/
namespace Tb
open PySem PySem.Spec PyProof.Rows L2

/-- the program, the world, the written part -/
structure Gx where
  P : Program
  w : World
  K : PySem.W.Frag

/-- a value as data; loc n: the n-th object of the logical heap -/
inductive D where
  | non | bl (b : Bool) | int (i : Int) | str (s : Str)
  | tup (xs : List D) | lst (xs : List D) | scr (xs : List D) | dic (ks us : List D) | loc (n : Nat)
/-- an object that may change -/
inductive LO where
  | lst (xs : List D) | dic (ks us : List D) | ins (c : Str) (fs : List (Str × D))
abbrev LH := List LO

def mapO {α β : Type} (f : α → Option β) : List α → Option (List β)
  | [] => some []
  | x :: xs => match f x with
    | some y => (match mapO f xs with
      | some ys => some (y :: ys)
      | none => none)
    | none => none
theorem mapO_cons {α β : Type} {f : α → Option β} {x : α} {xs : List α} {r : List β} (h : mapO f (x :: xs) = some r) : ∃ y ys, f x = some y ∧ mapO f xs = some ys ∧ r = y :: ys := by
  unfold mapO at h
  cases e : f x with
  | none => rw [e] at h; cases h
  | some y =>
    rw [e] at h
    cases e2 : mapO f xs with
    | none => rw [e2] at h; cases h
    | some ys => rw [e2] at h; cases h; exact ⟨y, ys, rfl, rfl, rfl⟩
theorem mapO_nil {α β : Type} {f : α → Option β} {r : List β} (h : mapO f [] = some r) : r = [] := by cases h; rfl
theorem mapO_length {α β : Type} {f : α → Option β} : ∀ {xs : List α} {r : List β}, mapO f xs = some r → r.length = xs.length
  | [], _, h => by cases h; rfl
  | x :: xs, _, h => by
    obtain ⟨y, ys, _, h2, rfl⟩ := mapO_cons h
    rw [List.length_cons, List.length_cons, mapO_length h2]

/-- a key of a dict -/
def toKey : Nat → D → Option NestedKey
  | 0, _ => none
  | n + 1, d => match d with
    | .non => some .none
    | .bl b => some (.num (if b = true then 1 else 0))
    | .int i => some (.num i)
    | .str s => some (.text s)
    | .tup ds => (match mapO (toKey n) ds with
      | some ks => some (.tup ks)
      | none => none)
    | _ => none
/-- the list at a location -/
def lstAt (lh : LH) (n : Nat) : Option (List D) := match lh[n]? with
  | some (.lst xs) => some xs
  | _ => none
/-- all of it as plain data -/
def toP (lh : LH) : Nat → D → Option PyData
  | 0, _ => none
  | n + 1, d => match d with
    | .non => some .none
    | .bl b => some (.bool b)
    | .int i => some (.int i)
    | .str s => some (.str s)
    | .tup ds => (match mapO (toP lh n) ds with
      | some ks => some (.tuple ks)
      | none => none)
    | .lst ds => (match mapO (toP lh n) ds with
      | some ks => some (.list ks)
      | none => none)
    | .scr ds => (match mapO (toP lh n) ds with
      | some ks => some (.list ks)
      | none => none)
    | .loc a => (match lstAt lh a with
      | some ds => (match mapO (toP lh n) ds with
        | some ks => some (.list ks)
        | none => none)
      | none => none)
    | .dic _ _ => none
/-- no location within: as it stands, told by value -/
def frz (lh : LH) : Nat → D → Option D
  | 0, _ => none
  | n + 1, d => match d with
    | .non => some .non
    | .bl b => some (.bl b)
    | .int i => some (.int i)
    | .str s => some (.str s)
    | .tup ds => (match mapO (frz lh n) ds with
      | some ks => some (.tup ks)
      | none => none)
    | .lst ds => (match mapO (frz lh n) ds with
      | some ks => some (.lst ks)
      | none => none)
    | .scr ds => (match mapO (frz lh n) ds with
      | some ks => some (.scr ks)
      | none => none)
    | .dic ks us => (match mapO (frz lh n) us with
      | some us => some (.dic ks us)
      | none => none)
    | .loc a => (match lh[a]? with
      | some (.lst ds) => (match mapO (frz lh n) ds with
        | some ks => some (.lst ks)
        | none => none)
      | some (.dic ks us) => (match mapO (frz lh n) us with
        | some us => some (.dic ks us)
        | none => none)
      | _ => none)
/-- no list, no dict, no location within -/
def flat : Nat → D → Bool
  | 0, _ => false
  | n + 1, d => match d with
    | .non | .bl _ | .int _ | .str _ => true
    | .tup ds => ds.all (flat n)
    | _ => false

/-! ### what stands for what -/
abbrev DEnt := NestedKey × Addr × Value
/-- the dict object at a with the entries xs -/
def DicP (P : Program) (w : World) (a : Addr) (xs : List DEnt) : Heap → Prop := fun h =>
  ∃ o es ep, h.get? a = some o ∧ o.ExactDict ∧ o.data = .dict es ep ∧ es.toList = xs.map (entryOfKey (nestedKind P w)) ∧ (xs.map (·.1)).Nodup ∧ (a == sysModules) = false ∧ xs.length ≤ sizeLine
/-- a written list -/
def KLst (K : PySem.W.Frag) (a : Addr) (xs : List V) : Prop :=
  ∃ (o : Obj) (its : Array Value) (n : Nat), K.lookup a = some o ∧ o.cls = .type "list" ∧ o.dict = none ∧ o.data = .seq its n ∧ its.size ≤ sizeLine ∧ Vals xs its.toList
/-- a list that stands still: not to be changed by us -/
def LstAt (K : PySem.W.Frag) (A : Addr → Prop) (ρ : List Addr) (H : Hp) (a : Addr) (vs : List V) : Prop :=
  (H a = some (.lst vs) ∧ ¬ A a ∧ a ∉ ρ) ∨ (∃ o, H a = some (.frz o (.lst vs))) ∨ KLst K a vs
theorem LstAt.sq {K : PySem.W.Frag} {A : Addr → Prop} {ρ : List Addr} {H : Hp} {a : Addr} {vs : List V} (h : LstAt K A ρ H a vs) : SqL K H a vs := by
  rcases h with ⟨h, _, _⟩ | h | h
  · exact .inl (.inl h)
  · exact .inl (.inr h)
  · exact .inr h
mutual
inductive VR (G : Gx) (A : Addr → Prop) (ρ : List Addr) (H : Hp) : V → D → Prop
  | non : VR G A ρ H .non .non
  | bl (b : Bool) : VR G A ρ H (.bl b) (.bl b)
  | int (i : Int) : VR G A ρ H (.int i) (.int i)
  | str (s : Str) : VR G A ρ H (.str s) (.str s)
  | tup {a : Addr} {vs : List V} {ds : List D} : SqT G.K H a vs → VRs G A ρ H vs ds → VR G A ρ H (.ref a) (.tup ds)
  | lst {a : Addr} {vs : List V} {ds : List D} : H a = some (.lst vs) → ¬ A a → a ∉ ρ → VRs G A ρ H vs ds → VR G A ρ H (.ref a) (.lst ds)
  | scr {a : Addr} {vs : List V} {ds : List D} : LstAt G.K A ρ H a vs → VRs G A ρ H vs ds → VR G A ρ H (.ref a) (.scr ds)
  | dic {a : Addr} {xs : List DEnt} {ks us : List D} : H a = some (.ext (DicP G.P G.w a xs)) → ¬ A a → a ∉ ρ → DR G A ρ H xs ks us → VR G A ρ H (.ref a) (.dic ks us)
  | loc {n : Nat} {a : Addr} : ρ[n]? = some a → VR G A ρ H (.ref a) (.loc n)
inductive VRs (G : Gx) (A : Addr → Prop) (ρ : List Addr) (H : Hp) : List V → List D → Prop
  | nil : VRs G A ρ H [] []
  | cons {v : V} {d : D} {vs : List V} {ds : List D} : VR G A ρ H v d → VRs G A ρ H vs ds → VRs G A ρ H (v :: vs) (d :: ds)
inductive DR (G : Gx) (A : Addr → Prop) (ρ : List Addr) (H : Hp) : List DEnt → List D → List D → Prop
  | nil : DR G A ρ H [] [] []
  | cons {nk : NestedKey} {ad : Addr} {u : Value} {v : V} {k d : D} {xs : List DEnt} {ks us : List D} : toKey 8 k = some nk → VR G A ρ H (.ref ad) k → RelV v u → VR G A ρ H v d → DR G A ρ H xs ks us → DR G A ρ H ((nk, ad, u) :: xs) (k :: ks) (d :: us)
end
/-- an instance's fields -/
inductive FR (G : Gx) (A : Addr → Prop) (ρ : List Addr) (H : Hp) : List (Str × V) → List (Str × D) → Prop
  | nil : FR G A ρ H [] []
  | cons {f : Str} {v : V} {d : D} {gs : List (Str × V)} {fs : List (Str × D)} : VR G A ρ H v d → FR G A ρ H gs fs → FR G A ρ H ((f, v) :: gs) ((f, d) :: fs)
def OR (G : Gx) (A : Addr → Prop) (ρ : List Addr) (H : Hp) (a : Addr) : LO → Prop
  | .lst ds => ∃ vs, H a = some (.lst vs) ∧ VRs G A ρ H vs ds
  | .dic ks us => ∃ xs, H a = some (.ext (DicP G.P G.w a xs)) ∧ DR G A ρ H xs ks us
  | .ins c fs => ∃ dx gs, H a = some (.ins (He.ga G.K c) dx gs) ∧ FR G A ρ H gs fs
/-! ### tables of code objects -/
/-- the table of the def at f -/
def tabAt (K : PySem.W.Frag) (f : Addr) : Option Addr := match K.lookup f with
  | some o => (match o.data with
    | .func fd => (match fd.code with
      | .ref c => (match K.lookup c with
        | some oc => (match oc.data with
          | .fields vs => (match (vs[11]? : Option Value) with
            | some (.ref P) => some P
            | _ => none)
          | _ => none)
        | none => none)
      | _ => none)
    | _ => none)
  | none => none
def lamName (n : Str) : Str := n ++ (".<locals>.<lambda>" : Str)
/-- the tables of the defs that make lambdas, with the lambdas' names -/
def tabsOf (K : PySem.W.Frag) : List (Addr × Str) := lamMakers.filterMap fun n => (tabAt K (He.ga K (Str.ofString n))).map fun P => (P, lamName (Str.ofString n))
theorem codeO_dic {P : Program} {w : World} {c a : Addr} {q : Str} {xs : List DEnt} : LamX.CodeO c q ≠ .ext (DicP P w a xs) := fun z => by
  unfold LamX.CodeO at z
  injection z with z
  let ob : Obj := { cls := .none, data := .fields #[.none, .str q 0] }
  let h : Heap := { objs := Array.replicate (c + 1) ob }
  have hg : ∀ b o, h.get? b = some o → o = ob := fun b o e => by
    unfold Heap.get? at e
    by_cases hb : b < c + 1
    · have : h.objs[b]? = some ob := by
        show (Array.replicate (c + 1) ob)[b]? = some ob
        simp [hb]
      rw [this] at e
      exact (Option.some.inj e).symm
    · have : h.objs[b]? = none := by
        show (Array.replicate (c + 1) ob)[b]? = none
        simp [hb]
      rw [this] at e
      cases e
  have hc : h.get? c = some ob := by
    unfold Heap.get?
    have : h.objs[c]? = some ob := by
      show (Array.replicate (c + 1) ob)[c]? = some ob
      simp
    rw [this]
  have k : (fun h : Heap => ∃ (oc : Obj) (vs : Array Value) (t : Tok), h.get? c = some oc ∧ oc.data = .fields vs ∧ vs[1]? = some (.str q t)) h := ⟨ob, _, 0, hc, rfl, rfl⟩
  rw [z] at k
  obtain ⟨o, es, ep, e1, _, e3, _⟩ := k
  rw [hg a o e1] at e3
  cases e3
/-- tracked, no table -/
def Trk (H : Hp) (a : Addr) : Prop := ∃ o, H a = some o ∧ ∀ ps, o ≠ .tbl ps
/-- not tracked, or a table -/
def Fr (H : Hp) (a : Addr) : Prop := ∀ o, H a = some o → ∃ ps, o = .tbl ps
theorem Fr.of {H : Hp} {a : Addr} (h : H a = none) : Fr H a := fun o e => by rw [h] at e; cases e
structure SR (G : Gx) (A : Addr → Prop) (ρ : List Addr) (H : Hp) (lh : LH) : Prop where
  len : ρ.length = lh.length
  nd : ρ.Nodup
  av : ∀ a, A a → Trk H a
  obj : ∀ (n : Nat) (o : LO), lh[n]? = some o → ∃ a, ρ[n]? = some a ∧ OR G A ρ H a o
  tab : LamX.Tabs (tabsOf G.K) H
/-- what may have come -/
structure Stp (ρ : List Addr) (H : Hp) (ρ' : List Addr) (H' : Hp) : Prop where
  pre : ∃ r, ρ' = ρ ++ r ∧ ∀ a ∈ r, Fr H a
  frm : ∀ a o, H a = some o → (∀ ps, o ≠ .tbl ps) → a ∉ ρ → H' a = some o
  tup : ∀ a xs, H a = some (.tup xs) → H' a = some (.tup xs)
  frz : ∀ a o u, H a = some (.frz o u) → H' a = some (.frz o u)
  trk : ∀ a, Trk H a → Trk H' a

section
variable {G : Gx} {A : Addr → Prop} {ρ ρ' ρ1 ρ2 : List Addr} {H H' H1 H2 : Hp} {lh : LH} {v : V} {d : D} {vs : List V} {ds : List D} {a : Addr}
theorem Stp.refl (ρ : List Addr) (H : Hp) : Stp ρ H ρ H := ⟨⟨[], by simp, fun _ h => absurd h (by simp)⟩, fun _ _ h _ _ => h, fun _ _ h => h, fun _ _ _ h => h, fun _ h => h⟩
theorem Stp.back (s : Stp ρ H ρ' H') (h : Fr H' a) : Fr H a := fun o e => Classical.byContradiction fun n => by
  obtain ⟨u, q, k⟩ := s.trk a ⟨o, e, fun ps z => n ⟨ps, z⟩⟩
  obtain ⟨ps, z⟩ := h u q
  exact k ps z
theorem Stp.nin (s : Stp ρ H ρ' H') {o : HO} (h : H a = some o) (k : ∀ ps, o ≠ .tbl ps) (n : a ∉ ρ) : a ∉ ρ' := by
  obtain ⟨r, e, f⟩ := s.pre
  rw [e]
  intro z
  rcases List.mem_append.mp z with z | z
  · exact n z
  · obtain ⟨ps, q⟩ := f a z o h
    exact k ps q
theorem Stp.trans (s : Stp ρ H ρ1 H1) (t : Stp ρ1 H1 ρ2 H2) : Stp ρ H ρ2 H2 := by
  refine ⟨?_, fun a o h k n => t.frm a o (s.frm a o h k n) k (s.nin h k n), fun a xs h => t.tup a xs (s.tup a xs h), fun a o u h => t.frz a o u (s.frz a o u h), fun a h => t.trk a (s.trk a h)⟩
  obtain ⟨r, e, f⟩ := s.pre
  obtain ⟨r', e', f'⟩ := t.pre
  refine ⟨r ++ r', by rw [e', e, List.append_assoc], fun b hb => ?_⟩
  rcases List.mem_append.mp hb with z | z
  · exact f b z
  · exact s.back (f' b z)
theorem Stp.get (s : Stp ρ H ρ' H') {n : Nat} (h : ρ[n]? = some a) : ρ'[n]? = some a := by
  obtain ⟨r, e, _⟩ := s.pre
  rw [e]
  exact (List.getElem?_append_left (List.getElem?_eq_some_iff.mp h).1).trans h
theorem sqT_stp {K : PySem.W.Frag} (s : Stp ρ H ρ' H') (h : SqT K H a vs) : SqT K H' a vs := by
  rcases h with (h | ⟨o, h⟩) | h
  · exact .inl (.inl (s.tup _ _ h))
  · exact .inl (.inr ⟨o, s.frz _ _ _ h⟩)
  · exact .inr h
theorem lstAt_stp {K : PySem.W.Frag} (s : Stp ρ H ρ' H') (h : LstAt K A ρ H a vs) : LstAt K A ρ' H' a vs := by
  rcases h with ⟨h, h1, h2⟩ | ⟨o, h⟩ | h
  · exact .inl ⟨s.frm _ _ h (fun _ z => by cases z) h2, h1, s.nin h (fun _ z => by cases z) h2⟩
  · exact .inr (.inl ⟨o, s.frz _ _ _ h⟩)
  · exact .inr (.inr h)
mutual
theorem VR.stp (s : Stp ρ H ρ' H') : ∀ {v : V} {d : D}, VR G A ρ H v d → VR G A ρ' H' v d
  | _, _, .non => .non
  | _, _, .bl b => .bl b
  | _, _, .int b => .int b
  | _, _, .str b => .str b
  | _, _, .tup h r => .tup (sqT_stp s h) (VRs.stp s r)
  | _, _, .lst h h1 h2 r => .lst (s.frm _ _ h (fun _ z => by cases z) h2) h1 (s.nin h (fun _ z => by cases z) h2) (VRs.stp s r)
  | _, _, .scr h r => .scr (lstAt_stp s h) (VRs.stp s r)
  | _, _, .dic h h1 h2 r => .dic (s.frm _ _ h (fun _ z => by cases z) h2) h1 (s.nin h (fun _ z => by cases z) h2) (DR.stp s r)
  | _, _, .loc h => .loc (s.get h)
theorem VRs.stp (s : Stp ρ H ρ' H') : ∀ {vs : List V} {ds : List D}, VRs G A ρ H vs ds → VRs G A ρ' H' vs ds
  | _, _, .nil => .nil
  | _, _, .cons h r => .cons (VR.stp s h) (VRs.stp s r)
theorem DR.stp (s : Stp ρ H ρ' H') : ∀ {xs : List DEnt} {ks us : List D}, DR G A ρ H xs ks us → DR G A ρ' H' xs ks us
  | _, _, _, .nil => .nil
  | _, _, _, .cons e h r h2 t => .cons e (VR.stp s h) r (VR.stp s h2) (DR.stp s t)
end
theorem FR.stp (s : Stp ρ H ρ' H') : ∀ {gs : List (Str × V)} {fs : List (Str × D)}, FR G A ρ H gs fs → FR G A ρ' H' gs fs
  | _, _, .nil => .nil
  | _, _, .cons h r => .cons (h.stp s) (FR.stp s r)
theorem VRs.length : ∀ {vs : List V} {ds : List D}, VRs G A ρ H vs ds → vs.length = ds.length
  | _, _, .nil => rfl
  | _, _, .cons _ r => by rw [List.length_cons, List.length_cons, VRs.length r]
theorem VRs.get : ∀ {vs : List V} {ds : List D} {i : Nat} {d : D}, VRs G A ρ H vs ds → ds[i]? = some d → ∃ v, vs[i]? = some v ∧ VR G A ρ H v d
  | _, _, _, _, .nil, h => by simp at h
  | _, _, 0, _, .cons h _, e => by simp at e; subst e; exact ⟨_, rfl, h⟩
  | _, _, i + 1, d, .cons _ r, e => by
    obtain ⟨v, h1, h2⟩ := VRs.get (i := i) (d := d) r (by simpa using e)
    exact ⟨v, by simpa using h1, h2⟩
theorem VRs.get' : ∀ {vs : List V} {ds : List D} {i : Nat} {v : V}, VRs G A ρ H vs ds → vs[i]? = some v → ∃ d, ds[i]? = some d ∧ VR G A ρ H v d
  | _, _, _, _, .nil, h => by simp at h
  | _, _, 0, _, .cons h _, e => by simp at e; subst e; exact ⟨_, rfl, h⟩
  | _, _, i + 1, d, .cons _ r, e => by
    obtain ⟨v, h1, h2⟩ := VRs.get' (i := i) (v := d) r (by simpa using e)
    exact ⟨v, by simpa using h1, h2⟩
theorem VRs.append : ∀ {vs ws : List V} {ds es : List D}, VRs G A ρ H vs ds → VRs G A ρ H ws es → VRs G A ρ H (vs ++ ws) (ds ++ es)
  | _, _, _, _, .nil, s => s
  | _, _, _, _, .cons h r, s => .cons h (VRs.append r s)
theorem VRs.drop : ∀ {vs : List V} {ds : List D} (n : Nat), VRs G A ρ H vs ds → VRs G A ρ H (vs.drop n) (ds.drop n)
  | _, _, 0, r => r
  | _, _, _ + 1, .nil => .nil
  | _, _, n + 1, .cons _ r => VRs.drop n r
theorem VRs.take : ∀ {vs : List V} {ds : List D} (n : Nat), VRs G A ρ H vs ds → VRs G A ρ H (vs.take n) (ds.take n)
  | _, _, 0, _ => .nil
  | _, _, _ + 1, .nil => .nil
  | _, _, n + 1, .cons h r => .cons h (VRs.take n r)
theorem VRs.reverse : ∀ {vs : List V} {ds : List D}, VRs G A ρ H vs ds → VRs G A ρ H vs.reverse ds.reverse
  | _, _, .nil => .nil
  | _, _, .cons h r => by
    rw [List.reverse_cons, List.reverse_cons]
    exact (VRs.reverse r).append (.cons h .nil)
theorem VRs.setAt : ∀ {vs : List V} {ds : List D} (n : Nat) {v : V} {d : D}, VRs G A ρ H vs ds → VR G A ρ H v d → VRs G A ρ H (vs.set n v) (ds.set n d)
  | _, _, _, _, _, .nil, _ => .nil
  | _, _, 0, _, _, .cons _ r, h => .cons h r
  | _, _, n + 1, _, _, .cons h r, q => .cons h (VRs.setAt n r q)
theorem VRs.replicate (n : Nat) : ∀ {vs : List V} {ds : List D}, VRs G A ρ H vs ds → VRs G A ρ H (List.replicate n vs).flatten (List.replicate n ds).flatten := by
  induction n with
  | zero => intro vs ds _; exact .nil
  | succ n ih =>
    intro vs ds h
    rw [List.replicate_succ, List.replicate_succ, List.flatten_cons, List.flatten_cons]
    exact h.append (ih h)
theorem FR.lookup : ∀ {gs : List (Str × V)} {fs : List (Str × D)} {f : Str} {d : D}, FR G A ρ H gs fs → fs.lookup f = some d → ∃ v, gs.lookup f = some v ∧ VR G A ρ H v d
  | _, _, _, _, .nil, e => by simp at e
  | _, _, f, d, .cons (f := g) h r, e => by
    rw [List.lookup_cons] at e ⊢
    cases q : f == g with
    | true =>
      rw [q] at e
      cases e
      exact ⟨_, rfl, h⟩
    | false =>
      rw [q] at e
      exact FR.lookup r e
theorem FR.lookupN : ∀ {gs : List (Str × V)} {fs : List (Str × D)} {f : Str}, FR G A ρ H gs fs → fs.lookup f = none → gs.lookup f = none
  | _, _, _, .nil, e => rfl
  | _, _, f, .cons (f := g) h r, e => by
    rw [List.lookup_cons] at e ⊢
    cases q : f == g with
    | true => rw [q] at e; cases e
    | false =>
      rw [q] at e
      exact FR.lookupN r e
theorem OR.stp (s : Stp ρ H ρ' H') (h : OR G A ρ H a o) (k : ∀ u, H a = some u → (∀ ps, u ≠ .tbl ps) → H' a = some u) : OR G A ρ' H' a o := by
  cases o with
  | lst ds => obtain ⟨vs, h1, h2⟩ := h; exact ⟨vs, k _ h1 (fun _ z => by cases z), h2.stp s⟩
  | dic ks us => obtain ⟨xs, h1, h2⟩ := h; exact ⟨xs, k _ h1 (fun _ z => by cases z), h2.stp s⟩
  | ins c fs => obtain ⟨dx, gs, h1, h2⟩ := h; exact ⟨dx, gs, k _ h1 (fun _ z => by cases z), h2.stp s⟩
theorem OR.trk (h : OR G A ρ H a o) : ∃ u, H a = some u ∧ Mut (some u) := by
  cases o with
  | lst ds => obtain ⟨vs, h1, h2⟩ := h; exact ⟨_, h1, trivial⟩
  | dic ks us => obtain ⟨xs, h1, h2⟩ := h; exact ⟨_, h1, trivial⟩
  | ins c fs => obtain ⟨dx, gs, h1, h2⟩ := h; exact ⟨_, h1, trivial⟩
theorem OR.noCode (h : OR G A ρ H a o) (c : Addr) (q : Str) : H a ≠ some (LamX.CodeO c q) := fun z => by
  cases o with
  | lst ds => obtain ⟨vs, h1, h2⟩ := h; rw [h1] at z; unfold LamX.CodeO at z; cases z
  | dic ks us => obtain ⟨xs, h1, h2⟩ := h; rw [h1] at z; exact codeO_dic (Option.some.inj z).symm
  | ins c fs => obtain ⟨dx, gs, h1, h2⟩ := h; rw [h1] at z; unfold LamX.CodeO at z; cases z
/-- what the locations name is tracked -/
theorem SR.mem (S : SR G A ρ H lh) (h : a ∈ ρ) : ∃ (n : Nat) (o : LO), ρ[n]? = some a ∧ lh[n]? = some o ∧ OR G A ρ H a o := by
  obtain ⟨n, hn, e⟩ := List.mem_iff_getElem.mp h
  have hl : n < lh.length := by rw [← S.len]; exact hn
  obtain ⟨b, h1, h2⟩ := S.obj n lh[n] (by simp [hl])
  have e1 : ρ[n]? = some a := by rw [← e]; simp [hn]
  rw [e1] at h1
  cases h1
  exact ⟨n, _, e1, by simp [hl], h2⟩
theorem SR.mut (S : SR G A ρ H lh) (h : a ∈ ρ) : ∃ u, H a = some u ∧ Mut (some u) := by
  obtain ⟨n, o, _, _, q⟩ := S.mem h
  exact q.trk
theorem SR.freshF (S : SR G A ρ H lh) (h : Fr H a) : a ∉ ρ := fun z => by
  obtain ⟨u, e, m⟩ := S.mut z
  obtain ⟨ps, rfl⟩ := h u e
  exact m
theorem SR.notAF (S : SR G A ρ H lh) (h : Fr H a) : ¬ A a := fun z => by
  obtain ⟨o, e, k⟩ := S.av a z
  obtain ⟨ps, q⟩ := h o e
  exact k ps q
theorem SR.fresh (S : SR G A ρ H lh) (h : H a = none) : a ∉ ρ := S.freshF (.of h)
theorem SR.notA (S : SR G A ρ H lh) (h : H a = none) : ¬ A a := S.notAF (.of h)
theorem SR.mutT (S : SR G A ρ H lh) (h : a ∈ ρ) : Trk H a := by
  obtain ⟨u, e, m⟩ := S.mut h
  exact ⟨u, e, fun ps z => by rw [z] at m; exact m⟩
/-- a new object beside: nothing else changes -/
theorem stp_new {o : HO} (h : H a = none) : Stp ρ H ρ (upd H a o) :=
  ⟨⟨[], by simp, fun _ z => absurd z (by simp)⟩, fun b u e _ _ => by rw [upd_ne (ne_of_none e h)]; exact e, fun b u e => by rw [upd_ne (ne_of_none e h)]; exact e, fun b u q e => by rw [upd_ne (ne_of_none e h)]; exact e, fun b ⟨u, e, k⟩ => ⟨u, by rw [upd_ne (ne_of_none e h)]; exact e, k⟩⟩
theorem stp_loc {o : HO} (h : H a = none) : Stp ρ H (ρ ++ [a]) (upd H a o) :=
  ⟨⟨[a], rfl, fun b z => by rw [List.mem_singleton.mp z]; exact .of h⟩, fun b u e _ _ => by rw [upd_ne (ne_of_none e h)]; exact e, fun b u e => by rw [upd_ne (ne_of_none e h)]; exact e, fun b u q e => by rw [upd_ne (ne_of_none e h)]; exact e, fun b ⟨u, e, k⟩ => ⟨u, by rw [upd_ne (ne_of_none e h)]; exact e, k⟩⟩
theorem SR.new {o : HO} (S : SR G A ρ H lh) (h : H a = none) : SR G A ρ (upd H a o) lh :=
  ⟨S.len, S.nd, fun b z => by obtain ⟨u, e, k⟩ := S.av b z; exact ⟨u, by rw [upd_ne (ne_of_none e h)]; exact e, k⟩, fun n q e => by
    obtain ⟨b, h1, h2⟩ := S.obj n q e
    exact ⟨b, h1, h2.stp (stp_new h) fun u z _ => by rw [upd_ne (ne_of_none z h)]; exact z⟩, S.tab.ext fun b u e => by rw [upd_ne (ne_of_none e h)]; exact e⟩
/-- a new location -/
theorem SR.newLoc {o : HO} {l : LO} (S : SR G A ρ H lh) (h : H a = none) (ho : OR G A (ρ ++ [a]) (upd H a o) a l) : SR G A (ρ ++ [a]) (upd H a o) (lh ++ [l]) := by
  refine ⟨by simp [S.len], ?_, fun b z => by obtain ⟨u, e, k⟩ := S.av b z; exact ⟨u, by rw [upd_ne (ne_of_none e h)]; exact e, k⟩, fun n q e => ?_, S.tab.ext fun b u e => by rw [upd_ne (ne_of_none e h)]; exact e⟩
  · refine List.nodup_append.mpr ⟨S.nd, by simp, fun x hx y hy => ?_⟩
    rw [List.mem_singleton.mp hy]
    rintro rfl
    exact S.fresh h hx
  · by_cases hn : n < lh.length
    · rw [List.getElem?_append_left hn] at e
      obtain ⟨b, h1, h2⟩ := S.obj n q e
      exact ⟨b, (stp_loc (o := o) h).get h1, h2.stp (stp_loc h) fun u z _ => by rw [upd_ne (ne_of_none z h)]; exact z⟩
    · rw [List.getElem?_append_right (by omega)] at e
      have en : n - lh.length = 0 := by
        have := (List.getElem?_eq_some_iff.mp e).1
        simp at this
        omega
      rw [en] at e
      cases e
      refine ⟨a, ?_, ho⟩
      have : n = ρ.length := by rw [S.len]; omega
      rw [this]
      simp
/-- a location's object changes -/
theorem stp_set {o u : HO} {n : Nat} (hn : ρ[n]? = some a) (h : H a = some u) (hu : Mut (some u)) (ho : ∀ ps, o ≠ .tbl ps := by intro _ z; cases z) : Stp ρ H ρ (upd H a o) := by
  have hm : a ∈ ρ := List.mem_of_getElem? hn
  refine ⟨⟨[], by simp, fun _ z => absurd z (by simp)⟩, fun b q e _ nb => ?_, fun b q e => ?_, fun b q r e => ?_, fun b e => ?_⟩
  · rw [upd_ne (fun z => nb (by rw [z]; exact hm))]; exact e
  · rw [upd_ne (fun z => by rw [z, h] at e; cases e; exact hu)]; exact e
  · rw [upd_ne (fun z => by rw [z, h] at e; cases e; exact hu)]; exact e
  · by_cases hb : b = a
    · rw [hb]; exact ⟨o, upd_same, ho⟩
    · obtain ⟨q, e, k⟩ := e
      exact ⟨q, by rw [upd_ne hb]; exact e, k⟩
/-- a tracked object that is no table and no code object changes -/
theorem tabs_upd {T : List (Addr × Str)} {u o : HO} (h : H a = some u) (h1 : ∀ ps, u ≠ .tbl ps) (h2 : ∀ c q, u ≠ LamX.CodeO c q) (t : LamX.Tabs T H) : LamX.Tabs T (upd H a o) := fun p hp => by
  obtain ⟨ps, e1, e2, e3⟩ := t p hp
  refine ⟨ps, by rw [upd_ne (fun z => by rw [z, h] at e1; exact h1 ps (Option.some.inj e1))]; exact e1, e2, fun pos cv hc => ?_⟩
  obtain ⟨c, e4, e5⟩ := e3 pos cv hc
  exact ⟨c, e4, by rw [upd_ne (fun z => by rw [z, h] at e5; exact h2 _ _ (Option.some.inj e5))]; exact e5⟩
theorem SR.tabSet {o : HO} (S : SR G A ρ H lh) (h : a ∈ ρ) : LamX.Tabs (tabsOf G.K) (upd H a o) := by
  obtain ⟨n, l, _, _, q⟩ := S.mem h
  obtain ⟨u, hu, mu⟩ := q.trk
  exact tabs_upd hu (fun ps z => by rw [z] at mu; exact mu) (fun c r z => q.noCode c r (by rw [hu, z])) S.tab
theorem SR.set {o : HO} {l : LO} {n : Nat} (S : SR G A ρ H lh) (hn : ρ[n]? = some a) (ho : OR G A ρ (upd H a o) a l) : SR G A ρ (upd H a o) (lh.set n l) := by
  obtain ⟨u, hu, mu⟩ := S.mut (List.mem_of_getElem? hn)
  have nt : ∀ ps, o ≠ .tbl ps := fun ps z => by
    obtain ⟨u, e, m⟩ := ho.trk
    rw [upd_same] at e
    cases e
    rw [z] at m
    exact m
  have st : Stp ρ H ρ (upd H a o) := stp_set hn hu mu nt
  refine ⟨by rw [List.length_set]; exact S.len, S.nd, fun b z => st.trk b (S.av b z), fun m q e => ?_, S.tabSet (List.mem_of_getElem? hn)⟩
  by_cases hm : m = n
  · subst hm
    have hl : m < lh.length := by rw [← S.len]; exact (List.getElem?_eq_some_iff.mp hn).1
    rw [List.getElem?_set_self hl] at e
    cases e
    exact ⟨a, hn, ho⟩
  · rw [List.getElem?_set_ne (Ne.symm hm)] at e
    obtain ⟨b, h1, h2⟩ := S.obj m q e
    refine ⟨b, h1, h2.stp st fun u z _ => ?_⟩
    have : b ≠ a := by
      rintro rfl
      obtain ⟨i1, e1⟩ := List.getElem?_eq_some_iff.mp h1
      obtain ⟨i2, e2⟩ := List.getElem?_eq_some_iff.mp hn
      exact hm ((List.getElem_inj S.nd).mp (e1.trans e2.symm))
    rw [upd_ne this]
    exact z
theorem SR.lst {n : Nat} {xs : List D} (S : SR G A ρ H lh) (h : lstAt lh n = some xs) : ∃ a vs, ρ[n]? = some a ∧ H a = some (.lst vs) ∧ VRs G A ρ H vs xs := by
  unfold lstAt at h
  cases e : lh[n]? with
  | none => rw [e] at h; cases h
  | some o =>
    rw [e] at h
    cases o with
    | lst ys =>
      cases h
      obtain ⟨a, h1, vs, h2, h3⟩ := S.obj n _ e
      exact ⟨a, vs, h1, h2, h3⟩
    | _ => cases h
/-- the kinds of toP: data read -/
theorem toP_dp (S : SR G A ρ H lh) : ∀ (n : Nat) {v : V} {d : D} {p : PyData}, VR G A ρ H v d → toP lh n d = some p → Dp G.K H v p := by
  intro n
  induction n with
  | zero => intro v d p _ h; cases h
  | succ n ih =>
    have all : ∀ {vs : List V} {ds : List D} {ps : List PyData}, VRs G A ρ H vs ds → mapO (toP lh n) ds = some ps → DpAll G.K H vs ps := by
      intro vs ds
      induction ds generalizing vs with
      | nil => intro ps r h; cases r; cases h; exact .nil
      | cons d ds ih2 =>
        intro ps r h
        cases r with
        | cons r1 r2 =>
          obtain ⟨y, ys, h1, h2, rfl⟩ := mapO_cons h
          exact .cons (ih r1 h1) (ih2 r2 h2)
    intro v d p r h
    cases r with
    | non => cases h; exact .non
    | bl b => cases h; exact .bl b
    | int b => cases h; exact .int b
    | str b => cases h; exact .str b
    | @tup a vs ds q r =>
      simp only [toP] at h
      cases e : mapO (toP lh n) ds with
      | none => rw [e] at h; cases h
      | some ks => rw [e] at h; cases h; exact .tup q (all r e)
    | @lst a vs ds q _ _ r =>
      simp only [toP] at h
      cases e : mapO (toP lh n) ds with
      | none => rw [e] at h; cases h
      | some ks => rw [e] at h; cases h; exact .lst (SqL.of q) (all r e)
    | @scr a vs ds q r =>
      simp only [toP] at h
      cases e : mapO (toP lh n) ds with
      | none => rw [e] at h; cases h
      | some ks => rw [e] at h; cases h; exact .lst q.sq (all r e)
    | dic _ _ _ _ => simp only [toP] at h; cases h
    | @loc m a q =>
      simp only [toP] at h
      cases e0 : lstAt lh m with
      | none => rw [e0] at h; cases h
      | some ds =>
        rw [e0] at h
        cases e : mapO (toP lh n) ds with
        | none => simp only [e] at h; cases h
        | some ks =>
          simp only [e] at h
          cases h
          obtain ⟨b, vs, h1, h2, h3⟩ := S.lst e0
          rw [q] at h1
          cases h1
          exact .lst (SqL.of h2) (all h3 e)
theorem toP_all (S : SR G A ρ H lh) (n : Nat) : ∀ {vs : List V} {ds : List D} {ps : List PyData}, VRs G A ρ H vs ds → mapO (toP lh n) ds = some ps → DpAll G.K H vs ps
  | _, [], _, r, h => by cases r; cases h; exact .nil
  | _, d :: ds, _, .cons r1 r2, h => by
    obtain ⟨y, ys, h1, h2, rfl⟩ := mapO_cons h
    exact .cons (toP_dp S n r1 h1) (toP_all S n r2 h2)
end
end Tb

/-! The mirrors' types, what a mirror promises, expressions. -/
namespace Tb
open PySem PySem.Spec PyProof.Rows L2

inductive Res (α : Type) where
  | ok (a : α) (lh : LH) | exc (c : Str) (lh : LH) | stuck
abbrev Tau := List (Option D)
inductive SRes where
  | nx (τ : Tau) (lh : LH) | rt (d : D) (lh : LH) | bk (τ : Tau) (lh : LH) | exc (c : Str) (τ : Tau) (lh : LH) | stuck
abbrev EM := Tau → LH → Res D
abbrev AM := Tau → LH → Res (List D)
abbrev TM := Tau → LH → Res Bool
abbrev SM := Tau → LH → SRes
def Res.bind {α β : Type} (r : Res α) (f : α → LH → Res β) : Res β := match r with
  | .ok a lh => f a lh
  | .exc c lh => .exc c lh
  | .stuck => .stuck
/-- what an operation gives: a value, or a new list -/
inductive Ro where
  | v (d : D) | l (xs : List D) | no
/-- a new list is a location (al), or stands still from now on -/
def Ro.res (al : Bool) (lh : LH) : Ro → Res D
  | .v d => .ok d lh
  | .l xs => if al = true then .ok (.loc lh.length) (lh ++ [.lst xs]) else .ok (.lst xs) lh
  | .no => .stuck

def gx (X : Cx) : Gx := ⟨X.prog, X.w, X.K⟩
structure ER (G : Gx) (A : Addr → Prop) (ρ : List Addr) (H : Hp) (σ : L2.St) (τ : Tau) : Prop where
  len : τ.length = σ.length
  at_ : ∀ (i : Nat) (d : D), τ[i]? = some (some d) → ∃ v, σ[i]? = some (some v) ∧ VR G A ρ H v d
def PRg (G : Gx) (A : Addr → Prop) (ρ : List Addr) (H : Hp) {α β : Type} (rel : List Addr → Hp → β → α → Prop) (r : Res α) (W : Str → Hp → Prop) (Q : β → Hp → Prop) : Prop := match r with
  | .ok a lh' => ∀ ρ' H' b, Stp ρ H ρ' H' → SR G A ρ' H' lh' → rel ρ' H' b a → Q b H'
  | .exc c lh' => ∀ ρ' H', Stp ρ H ρ' H' → SR G A ρ' H' lh' → W c H'
  | .stuck => False
abbrev wAt (G : Gx) (W : WX) (σ : L2.St) : Str → Hp → Prop := fun c H' => W (.ref (He.ga G.K c)) none σ H'
abbrev PRd (G : Gx) (A : Addr → Prop) (ρ : List Addr) (H : Hp) (r : Res D) (W : Str → Hp → Prop) (Q : VK) : Prop := PRg G A ρ H (VR G A) r W Q
def tE (G : Gx) (W : WX) (m : EM) : TE := fun σ H Q => ∃ A ρ τ lh, ER G A ρ H σ τ ∧ SR G A ρ H lh ∧ PRg G A ρ H (VR G A) (m τ lh) (wAt G W σ) Q
def tA (G : Gx) (W : WX) (m : AM) : TA := fun σ H Q => ∃ A ρ τ lh, ER G A ρ H σ τ ∧ SR G A ρ H lh ∧ PRg G A ρ H (VRs G A) (m τ lh) (wAt G W σ) Q
def tT (G : Gx) (W : WX) (m : TM) : TT := fun σ H Q => ∃ A ρ τ lh, ER G A ρ H σ τ ∧ SR G A ρ H lh ∧ PRg G A ρ H (fun _ _ b a => b = a) (m τ lh) (wAt G W σ) Q
def PSR (G : Gx) (W : WX) (A : Addr → Prop) (ρ : List Addr) (H : Hp) (r : SRes) (E : Ends) : Prop := match r with
  | .nx τ' lh' => ∀ ρ' H' σ', Stp ρ H ρ' H' → SR G A ρ' H' lh' → ER G A ρ' H' σ' τ' → E.nx σ' H'
  | .rt d lh' => ∀ ρ' H' v, Stp ρ H ρ' H' → SR G A ρ' H' lh' → VR G A ρ' H' v d → E.rt v H'
  | .bk τ' lh' => ∀ ρ' H' σ', Stp ρ H ρ' H' → SR G A ρ' H' lh' → ER G A ρ' H' σ' τ' → E.bk σ' H'
  | .exc c τ' lh' => ∀ ρ' H' σ', Stp ρ H ρ' H' → SR G A ρ' H' lh' → ER G A ρ' H' σ' τ' → wAt G W σ' c H'
  | .stuck => False
def tS (G : Gx) (W : WX) (m : SM) : TS := fun E σ H => ∃ A ρ τ lh, ER G A ρ H σ τ ∧ SR G A ρ H lh ∧ PSR G W A ρ H (m τ lh) E
abbrev EE (X : Cx) (W : WX) (e : Expr) (m : EM) : Prop := PE X e (tE (gx X) W m)
abbrev EA (X : Cx) (W : WX) (es : List Expr) (m : AM) : Prop := PA X es (tA (gx X) W m)
abbrev ET (X : Cx) (W : WX) (e : Expr) (m : TM) : Prop := PT X e (tT (gx X) W m)
abbrev ES (X : Cx) (W : WX) (s : Stmt) (m : SM) : Prop := PS X s (tS (gx X) W m)
abbrev ESs (X : Cx) (W : WX) (s : List Stmt) (m : SM) : Prop := PSs X s (tS (gx X) W m)

section
variable {G : Gx} {W : WX} {A : Addr → Prop} {ρ ρ' : List Addr} {H H' : Hp} {lh : LH} {σ : L2.St} {τ : Tau}
theorem ER.stp (s : Stp ρ H ρ' H') (e : ER G A ρ H σ τ) : ER G A ρ' H' σ τ := ⟨e.len, fun i d h => by
  obtain ⟨v, h1, h2⟩ := e.at_ i d h
  exact ⟨v, h1, h2.stp s⟩⟩
theorem ER.set (e : ER G A ρ H σ τ) (i : Nat) {v : V} {d : D} (h : VR G A ρ H v d) : ER G A ρ H (σ.set i (some v)) (τ.set i (some d)) := by
  refine ⟨by rw [List.length_set, List.length_set]; exact e.len, fun j d' hj => ?_⟩
  by_cases hi : j = i
  · subst hi
    have hl : j < τ.length := by
      have := (List.getElem?_eq_some_iff.mp hj).1
      rwa [List.length_set] at this
    rw [List.getElem?_set_self hl] at hj
    cases hj
    exact ⟨v, by rw [List.getElem?_set_self (by rw [← e.len]; exact hl)], h⟩
  · rw [List.getElem?_set_ne (Ne.symm hi)] at hj ⊢
    exact e.at_ j d' hj
theorem PRg.stp {α β : Type} {rel : List Addr → Hp → β → α → Prop} {r : Res α} {V : Str → Hp → Prop} {Q : β → Hp → Prop} (s : Stp ρ H ρ' H') (h : PRg G A ρ H rel r V Q) : PRg G A ρ' H' rel r V Q := by
  cases r with
  | ok a lh' => exact fun ρ2 H2 b t S z => h ρ2 H2 b (s.trans t) S z
  | exc c lh' => exact fun ρ2 H2 t S => h ρ2 H2 (s.trans t) S
  | stuck => exact h
theorem PRg.thn {α α' β β' : Type} {rel : List Addr → Hp → β → α → Prop} {rel2 : List Addr → Hp → β' → α' → Prop} {r : Res α} {f : α → LH → Res α'} {V : Str → Hp → Prop} {Q : β' → Hp → Prop} {R : β → Hp → Prop}
    (h : PRg G A ρ H rel2 (r.bind f) V Q) (k : ∀ a lh' ρ' H' b, Stp ρ H ρ' H' → SR G A ρ' H' lh' → rel ρ' H' b a → PRg G A ρ' H' rel2 (f a lh') V Q → R b H') : PRg G A ρ H rel r V R := by
  cases r with
  | ok a lh' => exact fun ρ2 H2 b t S z => k a lh' ρ2 H2 b t S z (PRg.stp (r := f a lh') t h)
  | exc c lh' => exact h
  | stuck => exact h
theorem PRg.mono {α β : Type} {rel : List Addr → Hp → β → α → Prop} {r : Res α} {V : Str → Hp → Prop} {Q Q' : β → Hp → Prop} (h : PRg G A ρ H rel r V Q) (k : ∀ b H', Q b H' → Q' b H') : PRg G A ρ H rel r V Q' := by
  cases r with
  | ok a lh' => exact fun ρ2 H2 b t S z => k _ _ (h ρ2 H2 b t S z)
  | exc c lh' => exact h
  | stuck => exact h
theorem PSR.stp {r : SRes} {E : Ends} (s : Stp ρ H ρ' H') (h : PSR G W A ρ H r E) : PSR G W A ρ' H' r E := by
  cases r with
  | nx τ' lh' => exact fun ρ2 H2 b t S z => h ρ2 H2 b (s.trans t) S z
  | rt d lh' => exact fun ρ2 H2 b t S z => h ρ2 H2 b (s.trans t) S z
  | bk τ' lh' => exact fun ρ2 H2 b t S z => h ρ2 H2 b (s.trans t) S z
  | exc c τ' lh' => exact fun ρ2 H2 b t S z => h ρ2 H2 b (s.trans t) S z
  | stuck => exact h
def PRo (G : Gx) (A : Addr → Prop) (ρ : List Addr) (H : Hp) (al : Bool) (lh : LH) (r : Ro) (Q : VK) : Prop := PRg G A ρ H (VR G A) (r.res al lh) (fun _ _ => False) Q
theorem PRo.of {al : Bool} {r : Ro} {V : Str → Hp → Prop} {Q : VK} (h : PRg G A ρ H (VR G A) (r.res al lh) V Q) : PRo G A ρ H al lh r Q := by
  unfold PRo
  cases r with
  | v d => exact h
  | l xs => cases al <;> exact h
  | no => exact h
/-- a value that stands -/
theorem PRo.val {al : Bool} {d : D} {v : V} {Q : VK} (h : PRo G A ρ H al lh (.v d) Q) (S : SR G A ρ H lh) (r : VR G A ρ H v d) : Q v H := h ρ H v (Stp.refl ρ H) S r
theorem PRo.tup {al : Bool} {ds : List D} {vs : List V} {Q : VK} (h : PRo G A ρ H al lh (.v (.tup ds)) Q) (S : SR G A ρ H lh) (r : VRs G A ρ H vs ds) : ∀ p, H p = none → Q (.ref p) (upd H p (.tup vs)) :=
  fun p hp => h ρ _ _ (stp_new hp) (S.new hp) (.tup (SqT.of upd_same) (r.stp (stp_new hp)))
/-- a new list -/
theorem PRo.new {al : Bool} {ds : List D} {vs : List V} {Q : VK} (h : PRo G A ρ H al lh (.l ds) Q) (S : SR G A ρ H lh) (r : VRs G A ρ H vs ds) : ∀ p, H p = none → Q (.ref p) (upd H p (.lst vs)) := by
  intro p hp
  cases al with
  | false => exact h ρ _ _ (stp_new hp) (S.new hp) (.lst upd_same (S.notA hp) (S.fresh hp) (r.stp (stp_new hp)))
  | true =>
    have e : ρ.length = lh.length := S.len
    refine h (ρ ++ [p]) _ _ (stp_loc hp) (S.newLoc hp ⟨vs, upd_same, r.stp (stp_loc hp)⟩) (.loc ?_)
    rw [← e]
    simp
end
theorem peImp {X : Cx} {e : Expr} {t t' : TE} (h : PE X e t) (i : ∀ σ H Q, t' σ H Q → t σ H Q) : PE X e t' := ⟨fun pins s σ H Q I hw => h.run pins s σ H Q I (i σ H Q hw)⟩
theorem paImp {X : Cx} {e : List Expr} {t t' : TA} (h : PA X e t) (i : ∀ σ H Q, t' σ H Q → t σ H Q) : PA X e t' := ⟨fun pos pins s σ H Q I hw => h.run pos pins s σ H Q I (i σ H Q hw)⟩
theorem ptImp {X : Cx} {e : Expr} {t t' : TT} (h : PT X e t) (i : ∀ σ H Q, t' σ H Q → t σ H Q) : PT X e t' := ⟨fun pins s σ H Q I hw => h.run pins s σ H Q I (i σ H Q hw)⟩
theorem psImp {X : Cx} {e : Stmt} {t t' : TS} (h : PS X e t) (i : ∀ E σ H, t' E σ H → t E σ H) : PS X e t' := ⟨fun pins s σ H E I hw => h.run pins s σ H E I (i E σ H hw)⟩
theorem pssImp {X : Cx} {e : List Stmt} {t t' : TS} (h : PSs X e t) (i : ∀ E σ H, t' E σ H → t E σ H) : PSs X e t' := ⟨fun pins s σ H E I hw => h.run pins s σ H E I (i E σ H hw)⟩

/-! ### names, constants -/
def eVar (i : Nat) : EM := fun τ lh => match τ[i]? with
  | some (some d) => .ok d lh
  | _ => .stuck
def eC (d : D) : EM := fun _ lh => .ok d lh
section
variable {X : Cx} {W : WX}
theorem ee_var (i : Nat) {x : Str} {pos : Pos} (hN : X.N[i]? = some x := by rfl) (hv : Vis X.env.scope x := by first | exact Or.inl rfl | exact Or.inr (Or.inl rfl) | exact Or.inr (Or.inr rfl)) (hd : (x == ("__debug__" : Str)) = false := by decide)
    (hcd : (x == ("__classdict__" : Str)) = false := by decide) : EE X W (.Name x pos) (eVar i) := by
  refine peImp (pe_var (i := i) hN hv hd hcd) fun σ H Q ⟨A, ρ, τ, lh, er, S, pr⟩ => ?_
  unfold eVar at pr
  cases e : τ[i]? with
  | none => rw [e] at pr; exact pr.elim
  | some o =>
    rw [e] at pr
    cases o with
    | none => exact pr.elim
    | some d =>
      obtain ⟨v, h1, h2⟩ := er.at_ i d e
      exact ⟨v, h1, pr ρ H v (Stp.refl ρ H) S h2⟩
theorem ee_c {e : Expr} {v : V} {d : D} (h : PE X e (tC v)) (r : ∀ A ρ H, VR (gx X) A ρ H v d) : EE X W e (eC d) :=
  peImp h fun σ H Q ⟨A, ρ, τ, lh, er, S, pr⟩ => pr ρ H v (Stp.refl ρ H) S (r A ρ H)
theorem ee_int {i : Int} {j pos} : EE X W (.Constant (.int i) j pos) (eC (.int i)) := ee_c pe_int fun _ _ _ => .int i
theorem ee_bl {i : Bool} {j pos} : EE X W (.Constant (.bool i) j pos) (eC (.bl i)) := ee_c pe_bl fun _ _ _ => .bl i
theorem ee_non {j pos} : EE X W (.Constant .none j pos) (eC .non) := ee_c pe_non fun _ _ _ => .non
theorem ee_str {i : Str} {j pos} : EE X W (.Constant (.str i) j pos) (eC (.str i)) := ee_c pe_str fun _ _ _ => .str i
/-- a module's constant -/
theorem ee_glob {x : Str} {v : V} {d : D} {u : Value} {pos : Pos} (hm : X.mg x = some u) (r : RelV v u) (rd : ∀ A ρ H, VR (gx X) A ρ H v d) (hg : Gl X x := by rfl) (hd : (x == ("__debug__" : Str)) = false := by decide) : EE X W (.Name x pos) (eC d) :=
  ee_c (pe_glob hg hm r hd) rd
end

/-! ### operations on two values -/
def e2 (al : Bool) (g : LH → D → D → Ro) (m1 m2 : EM) : EM := fun τ lh => (m1 τ lh).bind fun d lh => (m2 τ lh).bind fun e lh => (g lh d e).res al lh
def rD (G : Gx) (al : Bool) (g : LH → D → D → Ro) : R2 := fun x y H Q => ∃ A ρ lh d e, SR G A ρ H lh ∧ VR G A ρ H x d ∧ VR G A ρ H y e ∧ PRo G A ρ H al lh (g lh d e) Q
abbrev OpD (X : Cx) (f : Value → Value → Sem Value) (g : LH → D → D → Ro) : Prop := ∀ al, OpR X f (rD (gx X) al g)
def e1 (al : Bool) (g : LH → D → Ro) (m1 : EM) : EM := fun τ lh => (m1 τ lh).bind fun d lh => (g lh d).res al lh
def rD1 (G : Gx) (al : Bool) (g : LH → D → Ro) : V → Hp → VK → Prop := fun x H Q => ∃ A ρ lh d, SR G A ρ H lh ∧ VR G A ρ H x d ∧ PRo G A ρ H al lh (g lh d) Q
section
variable {X : Cx} {W : WX} {a b c : Expr} {m1 m2 m3 : EM} {pos : Pos} {al : Bool}
theorem e2_imp {t1 t2 : TE} {g : LH → D → D → Ro} (h1 : ∀ σ H Q, tE (gx X) W m1 σ H Q → t1 σ H Q) (h2 : ∀ σ H Q, tE (gx X) W m2 σ H Q → t2 σ H Q) : ∀ σ H Q, tE (gx X) W (e2 al g m1 m2) σ H Q → tOp (rD (gx X) al g) t1 t2 σ H Q :=
  fun σ H Q ⟨A, ρ, τ, lh, er, S, pr⟩ => h1 _ _ _ ⟨A, ρ, τ, lh, er, S, PRg.thn pr fun d lh1 ρ1 H1 x s1 S1 r1 pr1 => h2 _ _ _ ⟨A, ρ1, τ, lh1, er.stp s1, S1, PRg.thn pr1 fun e lh2 ρ2 H2 y s2 S2 r2 pr2 => ⟨A, ρ2, lh2, d, e, S2, r1.stp s2, r2, PRo.of pr2⟩⟩⟩
theorem ee_op {op : Operator} {g : LH → D → D → Ro} (ho : OpD X (binaryOp op) g) (al : Bool) (ha : EE X W a m1) (hb : EE X W b m2) : EE X W (.BinOp a op b pos) (e2 al g m1 m2) :=
  peImp (pe_op (ho al) ha hb) (e2_imp (fun _ _ _ h => h) fun _ _ _ h => h)
theorem ee_cmp {op : CmpOp} {g : LH → D → D → Ro} (ho : OpD X (compareOp op) g) (ha : EE X W a m1) (hb : EE X W b m2) (hm : behindInMarks op b = false := by first | exact nomark _ | rfl) : EE X W (.Compare a [op] [b] pos) (e2 false g m1 m2) :=
  peImp (pe_cmpR (ho false) ha hb hm) (e2_imp (fun _ _ _ h => h) fun _ _ _ h => h)
theorem ee_un {op : UnaryOp} {g : LH → D → Ro} (ho : UnR X (unaryOp op) (rD1 (gx X) al g)) (ha : EE X W a m1) : EE X W (.UnaryOp op a pos) (e1 al g m1) :=
  peImp (pe_un ho ha) fun σ H Q ⟨A, ρ, τ, lh, er, S, pr⟩ => ⟨A, ρ, τ, lh, er, S, PRg.thn pr fun d lh1 ρ1 H1 x s1 S1 r1 pr1 => ⟨A, ρ1, lh1, d, S1, r1, PRo.of pr1⟩⟩
theorem ee_ix {g : LH → D → D → Ro} (hr : IxR X (rD (gx X) false g)) (ha : EE X W a m1) (hb : EE X W b m2) (hs : PlainIx b := by intro _ _; rfl) : EE X W (.Subscript a b pos) (e2 false g m1 m2) :=
  peImp (pe_ix hr ha hb hs) (e2_imp (fun _ _ _ h => h) fun _ _ _ h => h)
end
/-! ### arguments, displays -/
def aNil : AM := fun _ lh => .ok [] lh
def aCons (m : EM) (r : AM) : AM := fun τ lh => (m τ lh).bind fun d lh => (r τ lh).bind fun ds lh => .ok (d :: ds) lh
def eTup (r : AM) : EM := fun τ lh => (r τ lh).bind fun ds lh => if ds.length ≤ sizeLine then .ok (.tup ds) lh else .stuck
def eLst (al : Bool) (r : AM) : EM := fun τ lh => (r τ lh).bind fun ds lh => if ds.length ≤ sizeLine then (Ro.l ds).res al lh else .stuck
section
variable {X : Cx} {W : WX} {e : Expr} {es : List Expr} {m : EM} {r : AM} {pos : Pos} {al : Bool}
theorem ea_nil : EA X W [] aNil := paImp pa_nil fun σ H Q ⟨A, ρ, τ, lh, er, S, pr⟩ => pr ρ H [] (Stp.refl ρ H) S .nil
theorem ea_cons (ha : EE X W e m) (hr : EA X W es r) (hs : starEach (e :: es) X.env = (false, eval e X.env) :: starEach es X.env := by rfl) : EA X W (e :: es) (aCons m r) :=
  paImp (pa_cons ha hr hs) fun σ H Q ⟨A, ρ, τ, lh, er, S, pr⟩ => ⟨A, ρ, τ, lh, er, S, PRg.thn pr fun d lh1 ρ1 H1 x s1 S1 r1 pr1 => ⟨A, ρ1, τ, lh1, er.stp s1, S1, PRg.thn pr1 fun ds lh2 ρ2 H2 xs s2 S2 r2 pr2 => pr2 ρ2 H2 _ (Stp.refl _ _) S2 (.cons (r1.stp s2) r2)⟩⟩
theorem ee_tup {x1} (h : EA X W es r) : EE X W (.Tuple es x1 pos) (eTup r) :=
  peImp (pe_tup h) fun σ H Q ⟨A, ρ, τ, lh, er, S, pr⟩ => ⟨A, ρ, τ, lh, er, S, PRg.thn pr fun ds lh1 ρ1 H1 xs s1 S1 r1 pr1 => by
    by_cases hz : ds.length ≤ sizeLine
    · rw [if_pos hz] at pr1
      exact ⟨by rw [r1.length]; exact hz, PRo.tup (al := false) (lh := lh1) (PRo.of (r := .v (.tup ds)) pr1) S1 r1⟩
    · rw [if_neg hz] at pr1
      exact pr1.elim⟩
theorem ee_lst (al : Bool) (h : EA X W es r) : EE X W (.List es pos) (eLst al r) :=
  peImp (pe_lst h) fun σ H Q ⟨A, ρ, τ, lh, er, S, pr⟩ => ⟨A, ρ, τ, lh, er, S, PRg.thn pr fun ds lh1 ρ1 H1 xs s1 S1 r1 pr1 => by
    by_cases hz : ds.length ≤ sizeLine
    · rw [if_pos hz] at pr1
      exact ⟨by rw [r1.length]; exact hz, PRo.new (PRo.of pr1) S1 r1⟩
    · rw [if_neg hz] at pr1
      exact pr1.elim⟩
end
/-! ### tests -/
/-- a value's truth -/
def truD (lh : LH) : D → Option Bool
  | .non => some false
  | .bl b => some b
  | .int i => some (i != 0)
  | .str s => if s.length ≤ sizeLine then some ((s.length : Int) != 0) else none
  | .tup ds => some (!ds.isEmpty)
  | .lst ds => some (!ds.isEmpty)
  | .scr ds => some (!ds.isEmpty)
  | .dic _ _ => none
  | .loc n => (match lstAt lh n with
    | some ds => some (!ds.isEmpty)
    | none => none)
def tOf (m : EM) : TM := fun τ lh => (m τ lh).bind fun d lh => match truD lh d with
  | some b => .ok b lh
  | none => .stuck
theorem isEmpty_rs {G : Gx} {A : Addr → Prop} {ρ : List Addr} {H : Hp} {vs : List V} {ds : List D} (r : VRs G A ρ H vs ds) : vs.isEmpty = ds.isEmpty := by
  cases r <;> rfl
theorem tru_rel {G : Gx} {A : Addr → Prop} {ρ : List Addr} {H : Hp} {lh : LH} {v : V} {d : D} {b : Bool} (S : SR G A ρ H lh) (r : VR G A ρ H v d) (h : truD lh d = some b) : TruV G.K v H b := by
  cases r with
  | non => cases h; rfl
  | bl b => cases h; rfl
  | int i => cases h; rfl
  | str s =>
    simp only [truD] at h
    by_cases hz : s.length ≤ sizeLine
    · rw [if_pos hz] at h; cases h; exact ⟨hz, rfl⟩
    · rw [if_neg hz] at h; cases h
  | @tup a vs ds q r => cases h; exact .inr (.inl ⟨vs, q, by rw [isEmpty_rs r]⟩)
  | @lst a vs ds q _ _ r => cases h; exact .inl ⟨vs, SqL.of q, by rw [isEmpty_rs r]⟩
  | @scr a vs ds q r => cases h; exact .inl ⟨vs, q.sq, by rw [isEmpty_rs r]⟩
  | dic => cases h
  | @loc n a q =>
    simp only [truD] at h
    cases e : lstAt lh n with
    | none => rw [e] at h; cases h
    | some ds =>
      rw [e] at h
      cases h
      obtain ⟨a', vs, h1, h2, h3⟩ := S.lst e
      rw [q] at h1
      cases h1
      exact .inl ⟨vs, SqL.of h2, by rw [isEmpty_rs h3]⟩
def tAndD (a b : TM) : TM := fun τ lh => (a τ lh).bind fun x lh => if x = true then b τ lh else .ok false lh
def tOrD (a b : TM) : TM := fun τ lh => (a τ lh).bind fun x lh => if x = true then .ok true lh else b τ lh
def tNotD (a : TM) : TM := fun τ lh => (a τ lh).bind fun x lh => .ok (!x) lh
def eIf (c : TM) (a b : EM) : EM := fun τ lh => (c τ lh).bind fun x lh => if x = true then a τ lh else b τ lh
/-- a comparison of two as a test -/
def t2 (g : LH → D → D → Ro) (m1 m2 : EM) : TM := fun τ lh => (m1 τ lh).bind fun d lh => (m2 τ lh).bind fun e lh => match g lh d e with
  | .v (.bl b) => .ok b lh
  | _ => .stuck
section
variable {X : Cx} {W : WX} {a b c : Expr} {m m1 m2 m3 : EM} {t u : TM} {pos : Pos} {rest : List Expr}
theorem et_of (h : EE X W a m) (he : ∀ whole, PySem.isTrue a X.env whole = (do let v ← whole; standAt a.pos; holding [v] (truthy v)) := by intro _; rfl) : ET X W a (tOf m) :=
  ptImp (pt_truth h he) fun σ H Q ⟨A, ρ, τ, lh, er, S, pr⟩ => ⟨A, ρ, τ, lh, er, S, PRg.thn pr fun d lh1 ρ1 H1 x s1 S1 r1 pr1 => by
    cases e : truD lh1 d with
    | none => rw [e] at pr1; exact pr1.elim
    | some b =>
      rw [e] at pr1
      exact ⟨b, tru_rel S1 r1 e, pr1 ρ1 H1 b (Stp.refl _ _) S1 rfl⟩⟩
theorem et_cmp {op : CmpOp} {g : LH → D → D → Ro} (ho : OpD X (compareOp op) g) (ha : EE X W a m1) (hb : EE X W b m2) (hm : behindInMarks op b = false := by first | exact nomark _ | rfl) : ET X W (.Compare a [op] [b] pos) (t2 g m1 m2) :=
  ptImp (pt_cmpR (ho false) ha hb hm) fun σ H Q ⟨A, ρ, τ, lh, er, S, pr⟩ => ⟨A, ρ, τ, lh, er, S, PRg.thn pr fun d lh1 ρ1 H1 x s1 S1 r1 pr1 => ⟨A, ρ1, τ, lh1, er.stp s1, S1, PRg.thn pr1 fun e lh2 ρ2 H2 y s2 S2 r2 pr2 => ⟨A, ρ2, lh2, d, e, S2, r1.stp s2, r2, by
    cases q : g lh2 d e with
    | v d' =>
      rw [q] at pr2
      cases d' with
      | bl b =>
        intro ρ3 H3 v s3 S3 r3
        cases r3
        exact ⟨b, rfl, pr2 ρ3 H3 b s3 S3 rfl⟩
      | _ => exact pr2.elim
    | l xs => rw [q] at pr2; exact pr2.elim
    | no => rw [q] at pr2; exact pr2.elim⟩⟩⟩
theorem et_not (h : ET X W a t) : ET X W (.UnaryOp .Not a pos) (tNotD t) :=
  ptImp (pt_not h) fun σ H Q ⟨A, ρ, τ, lh, er, S, pr⟩ => ⟨A, ρ, τ, lh, er, S, PRg.thn pr fun d lh1 ρ1 H1 x s1 S1 r1 pr1 => pr1 ρ1 H1 _ (Stp.refl _ _) S1 (by rw [r1])⟩
abbrev EW (X : Cx) (W : WX) (e : Expr) (m : TM) : Prop := PW X e (tT (gx X) W m)
theorem pwImp {X : Cx} {e : Expr} {t t' : TT} (h : PW X e t) (i : ∀ σ H Q, t' σ H Q → t σ H Q) : PW X e t' := ⟨fun wh pins s σ H Q I hw => h.run wh pins s σ H Q I (i σ H Q hw)⟩
theorem ew_and1 (h : ET X W a t) : EW X W (.BoolOp .And [a] pos) t := pw_and1 h
theorem ew_or1 (h : ET X W a t) : EW X W (.BoolOp .Or [a] pos) t := pw_or1 h
theorem ew_and (h : ET X W a t) (h2 : EW X W (.BoolOp .And (b :: rest) pos) u) : EW X W (.BoolOp .And (a :: b :: rest) pos) (tAndD t u) :=
  pwImp (pw_and h h2) fun σ H Q ⟨A, ρ, τ, lh, er, S, pr⟩ => ⟨A, ρ, τ, lh, er, S, PRg.thn pr fun d lh1 ρ1 H1 x s1 S1 r1 pr1 => by
    subst r1
    cases x with
    | true => exact iteT ⟨A, ρ1, τ, lh1, er.stp s1, S1, pr1⟩
    | false => exact iteF (pr1 ρ1 H1 _ (Stp.refl _ _) S1 rfl)⟩
theorem ew_or (h : ET X W a t) (h2 : EW X W (.BoolOp .Or (b :: rest) pos) u) : EW X W (.BoolOp .Or (a :: b :: rest) pos) (tOrD t u) :=
  pwImp (pw_or h h2) fun σ H Q ⟨A, ρ, τ, lh, er, S, pr⟩ => ⟨A, ρ, τ, lh, er, S, PRg.thn pr fun d lh1 ρ1 H1 x s1 S1 r1 pr1 => by
    subst r1
    cases x with
    | true => exact iteT (pr1 ρ1 H1 _ (Stp.refl _ _) S1 rfl)
    | false => exact iteF ⟨A, ρ1, τ, lh1, er.stp s1, S1, pr1⟩⟩
theorem et_w (h : EW X W a t) : ET X W a t := PW.pt h
theorem ee_if (h : ET X W c t) (ha : EE X W a m1) (hb : EE X W b m2) : EE X W (.IfExp c a b pos) (eIf t m1 m2) :=
  peImp (pe_ifExp h ha hb) fun σ H Q ⟨A, ρ, τ, lh, er, S, pr⟩ => ⟨A, ρ, τ, lh, er, S, PRg.thn pr fun d lh1 ρ1 H1 x s1 S1 r1 pr1 => by
    subst r1
    cases x with
    | true => exact iteT ⟨A, ρ1, τ, lh1, er.stp s1, S1, pr1⟩
    | false => exact iteF ⟨A, ρ1, τ, lh1, er.stp s1, S1, pr1⟩⟩
end
/-! ### and, or, not as values (by truth) -/
def eAnd (a b : EM) : EM := fun τ lh => (a τ lh).bind fun d lh => match truD lh d with
  | some true => b τ lh
  | some false => .ok d lh
  | none => .stuck
def eOr (a b : EM) : EM := fun τ lh => (a τ lh).bind fun d lh => match truD lh d with
  | some true => .ok d lh
  | some false => b τ lh
  | none => .stuck
def eNot (a : EM) : EM := fun τ lh => (a τ lh).bind fun d lh => match truD lh d with
  | some b => .ok (.bl (!b)) lh
  | none => .stuck
end Tb

/-! Operators, comparisons, subscripts. -/
namespace Tb
open PySem PySem.Spec PyProof.Rows L2

/-- the items of a list -/
def asL (lh : LH) : D → Option (List D)
  | .lst xs => some xs
  | .scr xs => some xs
  | .loc n => lstAt lh n
  | _ => none
/-- the items of a list or a tuple -/
def asS (lh : LH) : D → Option (List D)
  | .tup xs => some xs
  | d => asL lh d
/-- the items of a list that is ours -/
def asM (lh : LH) : D → Option (List D)
  | .lst xs => some xs
  | .loc n => lstAt lh n
  | _ => none
section
variable {G : Gx} {A : Addr → Prop} {ρ : List Addr} {H : Hp} {lh : LH} {v : V} {d : D} {xs : List D}
theorem asM_rel (S : SR G A ρ H lh) (r : VR G A ρ H v d) (h : asM lh d = some xs) : ∃ a vs, v = .ref a ∧ H a = some (.lst vs) ∧ VRs G A ρ H vs xs := by
  cases r with
  | @lst a vs ds q _ _ r => cases h; exact ⟨a, vs, rfl, q, r⟩
  | @loc n a q =>
    obtain ⟨b, vs, h1, h2, h3⟩ := S.lst h
    rw [q] at h1
    cases h1
    exact ⟨a, vs, rfl, h2, h3⟩
  | _ => cases h
theorem asL_rel (S : SR G A ρ H lh) (r : VR G A ρ H v d) (h : asL lh d = some xs) : ∃ a vs, v = .ref a ∧ SqL G.K H a vs ∧ VRs G A ρ H vs xs := by
  cases r with
  | @lst a vs ds q _ _ r => cases h; exact ⟨a, vs, rfl, SqL.of q, r⟩
  | @scr a vs ds q r => cases h; exact ⟨a, vs, rfl, q.sq, r⟩
  | @loc n a q =>
    obtain ⟨b, vs, h1, h2, h3⟩ := S.lst h
    rw [q] at h1
    cases h1
    exact ⟨a, vs, rfl, SqL.of h2, h3⟩
  | _ => cases h
theorem asS_rel (S : SR G A ρ H lh) (r : VR G A ρ H v d) (h : asS lh d = some xs) : ∃ a vs, v = .ref a ∧ (SqL G.K H a vs ∨ SqT G.K H a vs) ∧ VRs G A ρ H vs xs := by
  cases r with
  | @tup a vs ds q r => cases h; exact ⟨a, vs, rfl, .inr q, r⟩
  | @lst a vs ds q _ _ r => cases h; exact ⟨a, vs, rfl, .inl (SqL.of q), r⟩
  | @scr a vs ds q r => cases h; exact ⟨a, vs, rfl, .inl q.sq, r⟩
  | @loc n a q =>
    obtain ⟨b, vs, h1, h2, h3⟩ := S.lst h
    rw [q] at h1
    cases h1
    exact ⟨a, vs, rfl, .inl (SqL.of h2), h3⟩
  | _ => cases h
end
theorem opImp {X : Cx} {f : Value → Value → Sem Value} {r r' : R2} (h : OpR X f r) (i : ∀ x y H Q, r' x y H Q → r x y H Q) : OpR X f r' := fun pins s σ H x y v u Q I rx ry z => h pins s σ H x y v u Q I rx ry (i x y H Q z)
theorem unImp {X : Cx} {f : Value → Sem Value} {r r' : V → Hp → VK → Prop} (h : UnR X f r) (i : ∀ x H Q, r' x H Q → r x H Q) : UnR X f r' := fun pins s σ H x v Q I rx z => h pins s σ H x v Q I rx (i x H Q z)
theorem ixImp {X : Cx} {r r' : R2} (h : IxR X r) (i : ∀ x y H Q, r' x y H Q → r x y H Q) : IxR X r' := fun value slice pins s σ H x y v u Q I rx ry z hs => h value slice pins s σ H x y v u Q I rx ry (i x y H Q z) hs
theorem callImp {X : Cx} {f : Value} {r r' : List V → Hp → VK → Prop} (h : CallR X f r) (i : ∀ xs H Q, r' xs H Q → r xs H Q) : CallR X f r' := fun pins s σ H xs us Q I rx z => h pins s σ H xs us Q I rx (i xs H Q z)

/-! ### arithmetic -/
def addG (lh : LH) (d e : D) : Ro := match d, e with
  | .int i, .int j => .v (.int (i + j))
  | .tup xs, .tup ys => if xs.length + ys.length ≤ sizeLine then .v (.tup (xs ++ ys)) else .no
  | d, e => match asM lh d, asM lh e with
    | some xs, some ys => if xs.length + ys.length ≤ sizeLine then .l (xs ++ ys) else .no
    | _, _ => .no
def subG (_ : LH) (d e : D) : Ro := match d, e with
  | .int i, .int j => .v (.int (i - j))
  | _, _ => .no
def mulG (lh : LH) (d e : D) : Ro := match d, e with
  | .int i, .int j => if (-(2 ^ 64) < i ∧ i < 2 ^ 64) ∨ (-(2 ^ 64) < j ∧ j < 2 ^ 64) then .v (.int (i * j)) else .no
  | d, .int k => (match asM lh d with
    | some xs => if -(2 ^ 63) ≤ k ∧ k < 2 ^ 63 ∧ xs.length * k.toNat ≤ sizeLine then .l (List.replicate k.toNat xs).flatten else .no
    | none => .no)
  | _, _ => .no
def modG (_ : LH) (d e : D) : Ro := match d, e with
  | .int i, .int j => if j ≠ 0 then .v (.int (i.fmod j)) else .no
  | _, _ => .no
def fdivG (_ : LH) (d e : D) : Ro := match d, e with
  | .int i, .int j => if j ≠ 0 ∧ j.natAbs < 1073741824 then .v (.int (i.fdiv j)) else .no
  | _, _ => .no
def powG (_ : LH) (d e : D) : Ro := match d, e with
  | .int i, .int j => if 0 ≤ j ∧ ((Builtin.Int.intBits i : Nat) : Int) * j ≤ 2 ^ 27 then .v (.int (i ^ j.toNat)) else .no
  | _, _ => .no
def negG (_ : LH) (d : D) : Ro := match d with
  | .int i => .v (.int (-i))
  | _ => .no
section
variable {X : Cx}
theorem op_addD : OpD X (binaryOp .Add) addG := fun al => by
  refine opImp (op_add.or (op_cat.or op_catA)) fun x y H Q ⟨A, ρ, lh, d, e, S, r1, r2, pr⟩ => ?_
  have lists : ∀ {xs ys : List D}, asM lh d = some xs → asM lh e = some ys → PRo (gx X) A ρ H al lh (if xs.length + ys.length ≤ sizeLine then .l (xs ++ ys) else .no) Q → rCat x y H Q := by
    intro xs ys h1 h2 pr
    obtain ⟨a, vs, rfl, ha, ra⟩ := asM_rel S r1 h1
    obtain ⟨b, ws, rfl, hb, rb⟩ := asM_rel S r2 h2
    by_cases hz : xs.length + ys.length ≤ sizeLine
    · rw [if_pos hz] at pr
      exact ⟨a, b, vs, ws, rfl, rfl, ha, hb, by rw [ra.length, rb.length]; exact hz, PRo.new pr S (ra.append rb)⟩
    · rw [if_neg hz] at pr
      exact pr.elim
  unfold addG at pr
  split at pr
  · cases r1; cases r2
    exact .inl ⟨_, _, rfl, rfl, PRo.val pr S (.int _)⟩
  · rename_i xs ys
    cases r1 with
    | @tup a vs _ qa ra =>
      cases r2 with
      | @tup b ws _ qb rb =>
        by_cases hz : xs.length + ys.length ≤ sizeLine
        · rw [if_pos hz] at pr
          refine .inr (.inr ⟨a, b, vs, ws, rfl, rfl, qa, qb, by rw [ra.length, rb.length]; exact hz, fun h => ?_, fun h h2 => ?_, fun h h2 => PRo.tup pr S (ra.append rb)⟩)
          · subst h
            cases ra
            exact PRo.val pr S (.tup qb rb)
          · subst h2
            cases rb
            exact PRo.val pr S (.tup qa (by rw [List.append_nil]; exact ra))
        · rw [if_neg hz] at pr
          exact pr.elim
  · split at pr
    · rename_i h1 h2
      exact .inr (.inl (lists h1 h2 pr))
    · exact pr.elim
theorem op_subD : OpD X (binaryOp .Sub) subG := fun al => by
  refine opImp op_sub fun x y H Q ⟨A, ρ, lh, d, e, S, r1, r2, pr⟩ => ?_
  unfold subG at pr
  split at pr
  · cases r1; cases r2
    exact ⟨_, _, rfl, rfl, PRo.val pr S (.int _)⟩
  · exact pr.elim
theorem op_mulD : OpD X (binaryOp .Mult) mulG := fun al => by
  refine opImp (op_mul.or op_rep) fun x y H Q ⟨A, ρ, lh, d, e, S, r1, r2, pr⟩ => ?_
  unfold mulG at pr
  split at pr
  · rename_i i j
    cases r1; cases r2
    by_cases hc : (-(2 ^ 64) < i ∧ i < 2 ^ 64) ∨ (-(2 ^ 64) < j ∧ j < 2 ^ 64)
    · rw [if_pos hc] at pr
      exact .inl ⟨_, _, rfl, rfl, hc, PRo.val pr S (.int _)⟩
    · rw [if_neg hc] at pr
      exact pr.elim
  · split at pr
    · rename_i k _ _ xs h1
      obtain ⟨a, vs, rfl, ha, ra⟩ := asM_rel S r1 h1
      cases r2
      by_cases hc : -(2 ^ 63) ≤ k ∧ k < 2 ^ 63 ∧ xs.length * k.toNat ≤ sizeLine
      · rw [if_pos hc] at pr
        exact .inr ⟨a, k, vs, rfl, rfl, ha, hc.1, hc.2.1, by rw [ra.length]; exact hc.2.2, PRo.new pr S (ra.replicate _)⟩
      · rw [if_neg hc] at pr
        exact pr.elim
    · exact pr.elim
  · exact pr.elim
theorem op_modD : OpD X (binaryOp .Mod) modG := fun al => by
  refine opImp op_modN fun x y H Q ⟨A, ρ, lh, d, e, S, r1, r2, pr⟩ => ?_
  unfold modG at pr
  split at pr
  · rename_i i j
    cases r1; cases r2
    by_cases hc : j ≠ 0
    · rw [if_pos hc] at pr
      exact ⟨_, _, rfl, rfl, hc, PRo.val pr S (.int _)⟩
    · rw [if_neg hc] at pr
      exact pr.elim
  · exact pr.elim
theorem op_fdivD : OpD X (binaryOp .FloorDiv) fdivG := fun al => by
  refine opImp op_fdivN fun x y H Q ⟨A, ρ, lh, d, e, S, r1, r2, pr⟩ => ?_
  unfold fdivG at pr
  split at pr
  · rename_i i j
    cases r1; cases r2
    by_cases hc : j ≠ 0 ∧ j.natAbs < 1073741824
    · rw [if_pos hc] at pr
      exact ⟨_, _, rfl, rfl, hc, PRo.val pr S (.int _)⟩
    · rw [if_neg hc] at pr
      exact pr.elim
  · exact pr.elim
theorem op_powD : OpD X (binaryOp .Pow) powG := fun al => by
  intro pins s σ H x y v u Q I rx ry ⟨A, ρ, lh, d, e, S, r1, r2, pr⟩
  unfold powG at pr
  split at pr
  · rename_i i j
    cases r1; cases r2
    obtain ⟨t, rfl⟩ := rx
    obtain ⟨t', rfl⟩ := ry
    by_cases hc : 0 ≤ j ∧ ((Builtin.Int.intBits i : Nat) : Int) * j ≤ 2 ^ 27
    · rw [if_pos hc] at pr
      exact pow_int hc.1 hc.2 ⟨.int _, H, I.tok _, ⟨_, rfl⟩, PRo.val pr S (.int _)⟩
    · rw [if_neg hc] at pr
      exact pr.elim
  · exact pr.elim
theorem un_negD (al : Bool) : UnR X (unaryOp .USub) (rD1 (gx X) al negG) := by
  refine unImp un_neg fun x H Q ⟨A, ρ, lh, d, S, r1, pr⟩ => ?_
  unfold negG at pr
  split at pr
  · cases r1
    exact ⟨_, rfl, PRo.val pr S (.int _)⟩
  · exact pr.elim
end

/-! ### comparisons -/
def fuel : Nat := 12
def eqG (lh : LH) (d e : D) : Ro := match toP lh fuel d, toP lh fuel e with
  | some p, some q => if SeqAt.shaped p = true ∧ SeqAt.shaped q = true then .v (.bl (PyData.eqv p q)) else .no
  | _, _ => .no
def neG (lh : LH) (d e : D) : Ro := match toP lh fuel d, toP lh fuel e with
  | some p, some q => if SeqAt.shaped p = true ∧ SeqAt.shaped q = true then .v (.bl (!PyData.eqv p q)) else .no
  | _, _ => .no
def isSq : PyData → Bool
  | .tuple _ => true
  | .list _ => true
  | _ => false
def ltG (lh : LH) (d e : D) : Ro := match d, e with
  | .int i, .int j => .v (.bl (decide (i < j)))
  | d, e => match toP lh fuel d, toP lh fuel e with
    | some p, some q => if PySem.W.alike p q = true ∧ isSq p = true ∧ p.depth ≤ 64 then .v (.bl (PySem.W.dataLt p q)) else .no
    | _, _ => .no
def leG (_ : LH) (d e : D) : Ro := match d, e with
  | .int i, .int j => .v (.bl (decide (i ≤ j)))
  | _, _ => .no
def gtG (_ : LH) (d e : D) : Ro := match d, e with
  | .int i, .int j => .v (.bl (decide (j < i)))
  | _, _ => .no
def geG (_ : LH) (d e : D) : Ro := match d, e with
  | .int i, .int j => .v (.bl (decide (j ≤ i)))
  | _, _ => .no
/-- is None, is True, is False -/
def isG (_ : LH) (d e : D) : Ro := match d, e with
  | .non, .non => .v (.bl true)
  | _, .non => .v (.bl false)
  | .bl a, .bl b => .v (.bl (decide (a = b)))
  | _, _ => .no
def isNotG (_ : LH) (d e : D) : Ro := match d, e with
  | .non, .non => .v (.bl false)
  | _, .non => .v (.bl true)
  | .bl a, .bl b => .v (.bl (!decide (a = b)))
  | _, _ => .no
def flatD : D → Bool
  | .non | .bl _ | .int _ | .str _ => true
  | _ => false
def eqFlat : D → D → Bool
  | .non, .non => true
  | .bl a, .bl b => a == b
  | .bl a, .int b => (if a then 1 else 0) == b
  | .int a, .bl b => a == (if b then 1 else 0)
  | .int a, .int b => a == b
  | .str a, .str b => a == b
  | _, _ => false
section
variable {X : Cx} {G : Gx} {A : Addr → Prop} {ρ : List Addr} {H : Hp} {lh : LH} {v w : V} {d e : D}
theorem flat_rel (r : VR G A ρ H v d) (h : flatD d = true) : flatV v = true := by
  cases r <;> first | rfl | cases h
theorem flats_rel : ∀ {vs : List V} {ds : List D}, VRs G A ρ H vs ds → ds.all flatD = true → vs.all flatV = true
  | _, _, .nil, _ => rfl
  | _, _, .cons h r, e => by
    rw [List.all_cons, Bool.and_eq_true] at e ⊢
    exact ⟨flat_rel h e.1, flats_rel r e.2⟩
theorem eqFlat_rel (r : VR G A ρ H v d) (r2 : VR G A ρ H w e) (h : flatD d = true) (h2 : flatD e = true) : eqV v w = eqFlat d e := by
  cases r <;> first | (cases h; done) | (cases r2 <;> first | rfl | (cases h2; done))
theorem inV_rel (r : VR G A ρ H v d) (h : flatD d = true) : ∀ {vs : List V} {ds : List D}, VRs G A ρ H vs ds → ds.all flatD = true → inV v vs = ds.any fun z => eqFlat z d
  | _, _, .nil, _ => rfl
  | w :: vs, f :: ds, .cons h1 r1, e => by
    rw [List.all_cons, Bool.and_eq_true] at e
    have z : inV v (w :: vs) = (eqV w v || inV v vs) := rfl
    rw [z, List.any_cons, inV_rel r h r1 e.2, eqFlat_rel h1 r e.1 h]
theorem op_eqDD (hu : X.A.units + 200 < cLine) : OpD X (compareOp .Eq) eqG := fun al => by
  refine opImp (op_eqD (by omega)) fun x y H Q ⟨A, ρ, lh, d, e, S, r1, r2, pr⟩ => ?_
  unfold eqG at pr
  split at pr
  · rename_i p q h1 h2
    by_cases hc : SeqAt.shaped p = true ∧ SeqAt.shaped q = true
    · rw [if_pos hc] at pr
      exact ⟨p, q, toP_dp S _ r1 h1, toP_dp S _ r2 h2, hc.1, hc.2, PRo.val pr S (.bl _)⟩
    · rw [if_neg hc] at pr
      exact pr.elim
  · exact pr.elim
theorem op_neDD (hu : X.A.units + 200 < cLine) : OpD X (compareOp .NotEq) neG := fun al => by
  refine opImp (op_neD (by omega)) fun x y H Q ⟨A, ρ, lh, d, e, S, r1, r2, pr⟩ => ?_
  unfold neG at pr
  split at pr
  · rename_i p q h1 h2
    by_cases hc : SeqAt.shaped p = true ∧ SeqAt.shaped q = true
    · rw [if_pos hc] at pr
      exact ⟨p, q, toP_dp S _ r1 h1, toP_dp S _ r2 h2, hc.1, hc.2, PRo.val pr S (.bl _)⟩
    · rw [if_neg hc] at pr
      exact pr.elim
  · exact pr.elim
theorem op_leD : OpD X (compareOp .LtE) leG := fun al => by
  refine opImp op_le fun x y H Q ⟨A, ρ, lh, d, e, S, r1, r2, pr⟩ => ?_
  unfold leG at pr
  split at pr
  · cases r1; cases r2
    exact ⟨_, _, rfl, rfl, PRo.val pr S (.bl _)⟩
  · exact pr.elim
theorem op_gtD : OpD X (compareOp .Gt) gtG := fun al => by
  refine opImp op_gt fun x y H Q ⟨A, ρ, lh, d, e, S, r1, r2, pr⟩ => ?_
  unfold gtG at pr
  split at pr
  · cases r1; cases r2
    exact ⟨_, _, rfl, rfl, PRo.val pr S (.bl _)⟩
  · exact pr.elim
theorem op_geD : OpD X (compareOp .GtE) geG := fun al => by
  refine opImp op_ge fun x y H Q ⟨A, ρ, lh, d, e, S, r1, r2, pr⟩ => ?_
  unfold geG at pr
  split at pr
  · cases r1; cases r2
    exact ⟨_, _, rfl, rfl, PRo.val pr S (.bl _)⟩
  · exact pr.elim
theorem op_ltD (hu : X.A.units + 200 < cLine) : OpD X (compareOp .Lt) ltG := fun al => by
  intro pins s σ H x y v u Q I rx ry ⟨A, ρ, lh, d, e, S, r1, r2, pr⟩
  unfold ltG at pr
  split at pr
  · cases r1; cases r2
    exact op_lt pins s σ H _ _ v u Q I rx ry ⟨_, _, rfl, rfl, PRo.val pr S (.bl _)⟩
  · split at pr
    · rename_i p q h1 h2
      by_cases hc : PySem.W.alike p q = true ∧ isSq p = true ∧ p.depth ≤ 64
      · rw [if_pos hc] at pr
        obtain ⟨as, ra⟩ := Dp.reads I p x v (toP_dp S _ r1 h1) rx
        obtain ⟨bs, rb⟩ := Dp.reads I q y u (toP_dp S _ r2 h2) ry
        refine PySem.W.rcLt_alike p q X.A s v u as bs ra rb hc.1 (fun z => by rw [z] at hc; exact absurd hc.2.1 (by simp [isSq])) ?_ X.prog X.w _ _ ⟨.bl _, H, I, rfl, PRo.val pr S (.bl _)⟩
        have := hc.2.2
        omega
      · rw [if_neg hc] at pr
        exact pr.elim
    · exact pr.elim
theorem non_rel (r : VR G A ρ H v d) : decide (v = .non) = (match d with
  | .non => true
  | _ => false) := by
  cases r <;> simp
theorem op_isD : OpD X (compareOp .Is) isG := fun al => by
  refine opImp (op_isN.or op_isBl) fun x y H Q ⟨A, ρ, lh, d, e, S, r1, r2, pr⟩ => ?_
  unfold isG at pr
  split at pr
  · cases r1; cases r2
    exact .inl ⟨rfl, PRo.val pr S (.bl _)⟩
  · rename_i hd
    cases r2
    refine .inl ⟨rfl, ?_⟩
    have : decide (x = .non) = false := by
      cases r1 <;> first | (simp; done) | exact (hd rfl).elim
    rw [this]
    exact PRo.val pr S (.bl _)
  · cases r1; cases r2
    exact .inr ⟨_, _, rfl, rfl, PRo.val pr S (.bl _)⟩
  · exact pr.elim
theorem op_isNotD : OpD X (compareOp .IsNot) isNotG := fun al => by
  refine opImp (op_notN.or op_notBl) fun x y H Q ⟨A, ρ, lh, d, e, S, r1, r2, pr⟩ => ?_
  unfold isNotG at pr
  split at pr
  · cases r1; cases r2
    exact .inl ⟨rfl, PRo.val pr S (.bl _)⟩
  · rename_i hd
    cases r2
    refine .inl ⟨rfl, ?_⟩
    have : decide (x = .non) = false := by
      cases r1 <;> first | (simp; done) | exact (hd rfl).elim
    rw [this]
    exact PRo.val pr S (.bl _)
  · cases r1; cases r2
    exact .inr ⟨_, _, rfl, rfl, PRo.val pr S (.bl _)⟩
  · exact pr.elim
end
end Tb

/-! Dicts with nested keys, membership, subscripts, slices, chains, truth. -/
namespace Tb
open PySem PySem.Spec PyProof.Rows L2

/-! ### keys -/
section
variable {X : Cx} {pins : List (Addr × Obj)} {σ : L2.St} {s : Shared} {A : Addr → Prop} {ρ : List Addr} {H : Hp}
theorem key_rel (I : L2.Inv X pins σ H s) : ∀ (n : Nat) {v : V} {u : Value} {d : D} {k : NestedKey}, VR (gx X) A ρ H v d → L2.RelV v u → toKey n d = some k → NestedIs s.heap k u ∧ k.depth ≤ n := by
  intro n
  induction n with
  | zero => intro v u d k _ _ h; cases h
  | succ n ih =>
    have all : ∀ {vs : List V} {us : List Value} {ds : List D} {ks : List NestedKey}, VRs (gx X) A ρ H vs ds → Vals vs us → mapO (toKey n) ds = some ks → NestedAll s.heap ks us ∧ NestedKey.depthAll ks ≤ n := by
      intro vs us ds
      induction ds generalizing vs us with
      | nil => intro ks r ru h; cases r; cases ru; cases h; exact ⟨.nil, Nat.zero_le _⟩
      | cons d ds ih2 =>
        intro ks r ru h
        cases r with
        | cons r1 r2 =>
          cases ru with
          | cons u1 u2 =>
            obtain ⟨y, ys, h1, h2, rfl⟩ := mapO_cons h
            obtain ⟨a1, a2⟩ := ih r1 u1 h1
            obtain ⟨b1, b2⟩ := ih2 r2 u2 h2
            refine ⟨.cons a1 b1, ?_⟩
            simp only [NestedKey.depthAll]
            omega
    intro v u d k r ru h
    cases r with
    | non => cases h; cases ru; exact ⟨.none, Nat.zero_le _⟩
    | bl b => cases h; cases ru; exact ⟨.bool rfl, Nat.zero_le _⟩
    | int b => cases h; obtain ⟨t, rfl⟩ := ru; exact ⟨.int _ _, Nat.zero_le _⟩
    | str b => cases h; obtain ⟨t, rfl⟩ := ru; exact ⟨.text _ _, Nat.zero_le _⟩
    | @tup a vs ds q r =>
      simp only [toKey] at h
      cases e : mapO (toKey n) ds with
      | none => rw [e] at h; cases h
      | some ks =>
        rw [e] at h
        cases h
        obtain rfl : u = Value.ref a := ru
        obtain ⟨its, rv, ⟨o, ho, hc, n', hd⟩, hz⟩ := I.tuple q
        obtain ⟨h1, h2⟩ := all r rv e
        refine ⟨.tup ho hc hd (by simpa using h1), ?_⟩
        simp only [NestedKey.depth]
        omega
    | _ => simp only [toKey] at h; cases h
theorem keyIs_rel (I : L2.Inv X pins σ H s) {a : Addr} {d : D} {k : NestedKey} (r : VR (gx X) A ρ H (.ref a) d) (h : toKey 8 d = some k) : (nestedKind X.prog X.w).is s.heap k a := key_rel I 8 r rfl h
theorem dr_keys (I : L2.Inv X pins σ H s) : ∀ {xs : List DEnt} {ks us : List D}, DR (gx X) A ρ H xs ks us → ∀ x ∈ xs, (nestedKind X.prog X.w).is s.heap x.1 x.2.1
  | _, _, _, .nil => fun x hx => absurd hx (by simp)
  | _, _, _, .cons e h r h2 t => fun x hx => by
    rcases List.mem_cons.mp hx with z | z
    · rw [z]; exact keyIs_rel I h e
    · exact dr_keys I t x z
end
/-- what stands at a key -/
def dLook (k : NestedKey) : List D → List D → Option D
  | q :: ks, u :: us => if toKey 8 q = some k then some u else dLook k ks us
  | _, _ => none
/-- a key's value is stored -/
def dPut (k : NestedKey) (kd v : D) : List D → List D → List D × List D
  | q :: ks, u :: us => if toKey 8 q = some k then (q :: ks, v :: us) else ((q :: (dPut k kd v ks us).1), (u :: (dPut k kd v ks us).2))
  | _, _ => ([kd], [v])
section
variable {G : Gx} {A : Addr → Prop} {ρ : List Addr} {H : Hp}
theorem atKey_cons (x : DEnt) (xs : List DEnt) (k : NestedKey) : atKey (x :: xs) k = if x.1 = k then some x.2 else atKey xs k := by
  unfold atKey
  by_cases h : x.1 = k
  · simp [h]
  · simp [h]
theorem look_rel (k : NestedKey) : ∀ {xs : List DEnt} {ks us : List D}, DR G A ρ H xs ks us → (match dLook k ks us with
    | some d => ∃ p v, atKey xs k = some p ∧ L2.RelV v p.2 ∧ VR G A ρ H v d
    | none => atKey xs k = none)
  | _, _, _, .nil => rfl
  | _, _, _, .cons (nk := nk) (ad := ad) (u := u) (v := v) (k := q) (d := d) (xs := xs) (ks := ks) (us := us) e h r h2 t => by
    have ih := look_rel k t
    unfold dLook
    rw [atKey_cons]
    by_cases hk : nk = k
    · subst hk
      rw [if_pos e, if_pos rfl]
      exact ⟨_, v, rfl, r, h2⟩
    · have : ¬ toKey 8 q = some k := fun z => hk (by rw [e] at z; exact Option.some.inj z)
      rw [if_neg this, if_neg hk]
      exact ih
theorem DR.length : ∀ {xs : List DEnt} {ks us : List D}, DR G A ρ H xs ks us → xs.length = ks.length
  | _, _, _, .nil => rfl
  | _, _, _, .cons e h r h2 t => by rw [List.length_cons, List.length_cons, DR.length t]
theorem storedH_cons (x : DEnt) (xs : List DEnt) (k : NestedKey) (a : Addr) (v : Value) : storedH (x :: xs) k a v = if x.1 = k then (x.1, x.2.1, v) :: xs.map (putAt k v) else x :: storedH xs k a v := by
  unfold storedH
  rw [atKey_cons]
  by_cases h : x.1 = k
  · rw [if_pos h, if_pos h]
    simp [putAt, h]
  · rw [if_neg h, if_neg h]
    by_cases h2 : (atKey xs k).isSome = true
    · rw [if_pos h2, if_pos h2]
      simp [putAt, h]
    · rw [if_neg h2, if_neg h2]
      rfl
theorem putAt_id (k : NestedKey) (v : Value) : ∀ {xs : List DEnt}, k ∉ xs.map (·.1) → xs.map (putAt k v) = xs
  | [], _ => rfl
  | x :: xs, h => by
    rw [List.map_cons, List.mem_cons, not_or] at h
    rw [List.map_cons, putAt_id k v h.2]
    unfold putAt
    rw [if_neg (Ne.symm h.1)]
theorem put_rel (k : NestedKey) {kd : D} {ad : Addr} {v : V} {u : Value} {d : D} (e : toKey 8 kd = some k) (h : VR G A ρ H (.ref ad) kd) (r : L2.RelV v u) (h2 : VR G A ρ H v d) : ∀ {xs : List DEnt} {ks us : List D}, DR G A ρ H xs ks us → (xs.map (·.1)).Nodup →
    DR G A ρ H (storedH xs k ad u) (dPut k kd d ks us).1 (dPut k kd d ks us).2
  | _, _, _, .nil, _ => .cons e h r h2 .nil
  | _, _, _, .cons (nk := nk) (ad := ad') (u := u') (v := v') (k := q) (d := d') (xs := xs) (ks := ks) (us := us) e' h' r' h2' t, nd => by
    rw [List.map_cons, List.nodup_cons] at nd
    have ih := put_rel k e h r h2 t nd.2
    rw [storedH_cons]
    unfold dPut
    by_cases hk : nk = k
    · subst hk
      rw [if_pos e', if_pos rfl]
      have e3 : List.map (putAt nk u) xs = xs := putAt_id _ _ nd.1
      rw [e3]
      exact .cons e' h' r h2 t
    · have : ¬ toKey 8 q = some k := fun z => hk (by rw [e'] at z; exact Option.some.inj z)
      rw [if_neg this, if_neg hk]
      exact .cons e' h' r' h2' ih
end
/-- a dict's keys and values -/
def asDic (lh : LH) : D → Option (List D × List D)
  | .dic ks us => some (ks, us)
  | .loc n => (match lh[n]? with
    | some (.dic ks us) => some (ks, us)
    | _ => none)
  | _ => none
theorem asDic_rel {G : Gx} {A : Addr → Prop} {ρ : List Addr} {H : Hp} {lh : LH} {v : V} {d : D} {p : List D × List D} (S : SR G A ρ H lh) (r : VR G A ρ H v d) (h : asDic lh d = some p) : ∃ a xs, v = .ref a ∧ H a = some (.ext (DicP G.P G.w a xs)) ∧ DR G A ρ H xs p.1 p.2 := by
  cases r with
  | @dic a xs ks us q _ _ r => cases h; exact ⟨a, xs, rfl, q, r⟩
  | @loc n a q =>
    unfold asDic at h
    cases e : lh[n]? with
    | none => simp only [e] at h; cases h
    | some o =>
      simp only [e] at h
      cases o with
      | dic ks us =>
        cases h
        obtain ⟨b, h1, xs, h2, h3⟩ := S.obj n _ e
        rw [q] at h1
        cases h1
        exact ⟨a, xs, rfl, h2, h3⟩
      | _ => cases h
  | _ => cases h
theorem dicP_of {X : Cx} {pins : List (Addr × Obj)} {σ : L2.St} {s : Shared} {A : Addr → Prop} {ρ : List Addr} {H : Hp} {a : Addr} {xs : List DEnt} {ks us : List D} (I : L2.Inv X pins σ H s) (h : H a = some (.ext (DicP X.prog X.w a xs))) (r : DR (gx X) A ρ H xs ks us) :
    s.heap.DictOfH (nestedKind X.prog X.w) a xs ∧ (a == sysModules) = false ∧ xs.length ≤ sizeLine := by
  obtain ⟨⟨o, es, ep, h1, h2, h3, h4, h5, h6, h7⟩, _, _⟩ := I.hok a _ h
  exact ⟨⟨o, es, ep, h1, h2, h3, h4, dr_keys I r, h5⟩, h6, h7⟩

/-! ### membership -/
def inG (lh : LH) (d e : D) : Ro := match e with
  | .tup es => if flatD d = true ∧ es.all flatD = true then .v (.bl (es.any fun z => eqFlat z d)) else .no
  | e => match asDic lh e with
    | some (ks, us) => (match d with
      | .tup _ => (match toKey 8 d with
        | some k => .v (.bl (dLook k ks us).isSome)
        | none => .no)
      | _ => .no)
    | none => (match toP lh fuel d, toP lh fuel e with
      | some p, some (.list qs) => if SeqAt.shaped p = true ∧ SeqAt.shaped (.list qs) = true then .v (.bl (qs.any fun z => PyData.eqv z p)) else .no
      | _, _ => .no)
def notRo : Ro → Ro
  | .v (.bl b) => .v (.bl (!b))
  | _ => .no
def notInG (lh : LH) (d e : D) : Ro := notRo (inG lh d e)
theorem isSome_look {G : Gx} {A : Addr → Prop} {ρ : List Addr} {H : Hp} {k : NestedKey} {xs : List DEnt} {ks us : List D} (t : DR G A ρ H xs ks us) : (atKey xs k).isSome = (dLook k ks us).isSome := by
  have h := look_rel k t
  cases e : dLook k ks us with
  | none => rw [e] at h; rw [h]; rfl
  | some d =>
    rw [e] at h
    obtain ⟨p, v, h1, _⟩ := h
    rw [h1]
    rfl
theorem tupRef {G : Gx} {A : Addr → Prop} {ρ : List Addr} {H : Hp} {v : V} {ds : List D} (r : VR G A ρ H v (.tup ds)) : ∃ a, v = .ref a := by
  cases r
  exact ⟨_, rfl⟩
section
variable {X : Cx}
theorem op_inDD (hu : X.A.units + 200 < cLine) : OpD X (compareOp .In) inG := fun al => by
  intro pins s σ H x y v u Q I rx ry ⟨A, ρ, lh, d, e, S, r1, r2, pr⟩
  unfold inG at pr
  split at pr
  · rename_i es
    by_cases hc : flatD d = true ∧ es.all flatD = true
    · rw [if_pos hc] at pr
      cases r2 with
      | @tup b ws _ qb rb =>
        refine op_in_seq pins s σ H _ _ v u Q I rx ry ⟨b, ws, rfl, .inr qb, flat_rel r1 hc.1, flats_rel rb hc.2, ?_⟩
        rw [inV_rel r1 hc.1 rb hc.2]
        exact PRo.val pr S (.bl _)
    · rw [if_neg hc] at pr
      exact pr.elim
  · split at pr
    · rename_i ks us hd
      obtain ⟨a, xs, rfl, ha, dr⟩ := asDic_rel S r2 hd
      split at pr
      · split at pr
        · rename_i k hk
          obtain ⟨b, rfl⟩ := tupRef r1
          obtain ⟨h1, h2, h3⟩ := dicP_of I ha dr
          obtain rfl : v = Value.ref b := rx
          obtain rfl : u = Value.ref a := ry
          refine wpAny_in_heap (knd := nestedKind X.prog X.w) (by show X.A.units + 1 + 8 < cLine; omega) (keyIs_rel I r1 hk) h2 h1 ⟨.bl _, H, I.tok _, rfl, ?_⟩
          rw [isSome_look dr]
          exact PRo.val pr S (.bl _)
        · exact pr.elim
      · exact pr.elim
    · split at pr
      · rename_i p qs h1 h2
        by_cases hc : SeqAt.shaped p = true ∧ SeqAt.shaped (.list qs) = true
        · rw [if_pos hc] at pr
          exact op_inD (by omega) pins s σ H _ _ v u Q I rx ry ⟨p, qs, toP_dp S _ r1 h1, toP_dp S _ r2 h2, hc.1, hc.2, PRo.val pr S (.bl _)⟩
        · rw [if_neg hc] at pr
          exact pr.elim
      · exact pr.elim
theorem op_notInDD (hu : X.A.units + 200 < cLine) : OpD X (compareOp .NotIn) notInG := fun al => by
  intro pins s σ H x y v u Q I rx ry ⟨A, ρ, lh, d, e, S, r1, r2, pr⟩
  unfold notInG inG at pr
  split at pr
  · rename_i es
    by_cases hc : flatD d = true ∧ es.all flatD = true
    · rw [if_pos hc] at pr
      cases r2 with
      | @tup b ws _ qb rb =>
        refine op_notIn_seq pins s σ H _ _ v u Q I rx ry ⟨b, ws, rfl, .inr qb, flat_rel r1 hc.1, flats_rel rb hc.2, ?_⟩
        rw [inV_rel r1 hc.1 rb hc.2]
        exact PRo.val pr S (.bl _)
    · rw [if_neg hc] at pr
      exact pr.elim
  · split at pr
    · rename_i ks us hd
      obtain ⟨a, xs, rfl, ha, dr⟩ := asDic_rel S r2 hd
      split at pr
      · split at pr
        · rename_i k hk
          obtain ⟨b, rfl⟩ := tupRef r1
          obtain ⟨h1, h2, h3⟩ := dicP_of I ha dr
          obtain rfl : v = Value.ref b := rx
          obtain rfl : u = Value.ref a := ry
          refine notIn_keyed (knd := nestedKind X.prog X.w) (by show X.A.units + 1 + 8 < cLine; omega) (keyIs_rel I r1 hk) h2 ⟨xs, h1, rfl⟩ ⟨.bl _, H, I.tok _, rfl, ?_⟩
          rw [valueAt_pairsH, Option.isSome_map]
          rw [isSome_look dr]
          exact PRo.val pr S (.bl _)
        · exact pr.elim
      · exact pr.elim
    · split at pr
      · rename_i p qs h1 h2
        by_cases hc : SeqAt.shaped p = true ∧ SeqAt.shaped (.list qs) = true
        · rw [if_pos hc] at pr
          exact op_notInD (by omega) pins s σ H _ _ v u Q I rx ry ⟨p, qs, toP_dp S _ r1 h1, toP_dp S _ r2 h2, hc.1, hc.2, PRo.val pr S (.bl _)⟩
        · rw [if_neg hc] at pr
          exact pr.elim
      · exact pr.elim
end

/-! ### subscripts -/
def ixG (lh : LH) (d e : D) : Ro := match e with
  | .int i => (match asS lh d with
    | some xs => (match atI xs i with
      | some z => .v z
      | none => .no)
    | none => .no)
  | .tup _ => (match asDic lh d with
    | some (ks, us) => (match toKey 8 e with
      | some k => (match dLook k ks us with
        | some z => .v z
        | none => .no)
      | none => .no)
    | none => .no)
  | _ => .no
theorem atI_rel {G : Gx} {A : Addr → Prop} {ρ : List Addr} {H : Hp} {vs : List V} {ds : List D} {i : Int} {d : D} (r : VRs G A ρ H vs ds) (h : atI ds i = some d) : ∃ v, atI vs i = some v ∧ VR G A ρ H v d := by
  unfold atI at h ⊢
  rw [r.length]
  cases e : ixN ds.length i with
  | none => rw [e] at h; cases h
  | some j =>
    rw [e] at h
    exact r.get h
section
variable {X : Cx}
theorem ix_D (hu : X.A.units + 200 < cLine) : IxR X (rD (gx X) false ixG) := by
  intro value slice pins s σ H x y v u Q I rx ry ⟨A, ρ, lh, d, e, S, r1, r2, pr⟩ hs
  unfold ixG at pr
  split at pr
  · rename_i i
    split at pr
    · rename_i xs h1
      split at pr
      · rename_i z h2
        obtain ⟨a, vs, rfl, hq, rs⟩ := asS_rel S r1 h1
        obtain ⟨w, hw, rw'⟩ := atI_rel rs h2
        cases r2
        rcases hq with hq | hq
        · exact ix_list value slice pins s σ H _ _ v u Q I rx ry ⟨a, vs, i, w, rfl, rfl, hq, hw, PRo.val pr S rw'⟩ hs
        · exact ix_tup value slice pins s σ H _ _ v u Q I rx ry ⟨a, vs, i, w, rfl, rfl, hq, hw, PRo.val pr S rw'⟩ hs
      · exact pr.elim
    · exact pr.elim
  · split at pr
    · rename_i ks us hd
      split at pr
      · rename_i k hk
        split at pr
        · rename_i z hz
          obtain ⟨a, xs, rfl, ha, dr⟩ := asDic_rel S r1 hd
          obtain ⟨b, rfl⟩ := tupRef r2
          obtain ⟨h1, h2, h3⟩ := dicP_of I ha dr
          obtain rfl : v = Value.ref a := rx
          obtain rfl : u = Value.ref b := ry
          have lk := look_rel k dr
          have hz' : dLook k ks us = some z := hz
          rw [hz'] at lk
          obtain ⟨p, w, e1, e2, e3⟩ := lk
          refine tail_any (ops := [.ref a, .ref b]) h1.typeIs PySem.F.slot_dict_getitem.lookup ?_ hs
          exact wpAny_getItem_heap (knd := nestedKind X.prog X.w) (by show X.A.units + 1 + 8 < cLine; omega) (keyIs_rel I r2 hk) h1 e1 ⟨w, H, I.tok _, e2, PRo.val pr S e3⟩
        · exact pr.elim
      · exact pr.elim
    · exact pr.elim
  · exact pr.elim
theorem ee_sub {W : WX} {a b : Expr} {m1 m2 : EM} {pos : Pos} (hu : X.A.units + 200 < cLine) (ha : EE X W a m1) (hb : EE X W b m2) (hs : PlainIx b := by intro _ _; rfl) : EE X W (.Subscript a b pos) (e2 false ixG m1 m2) := ee_ix (ix_D hu) ha hb hs
end
/-! ### slices -/
abbrev OM := Tau → LH → Res (Option Int)
def oNone : OM := fun _ lh => .ok none lh
def oSome (m : EM) : OM := fun τ lh => (m τ lh).bind fun d lh => match d with
  | .int i => .ok (some i) lh
  | _ => .stuck
def cutD (xs : List D) (lo hi : Option Int) : List D := (xs.drop (HT.sIx xs.length 0 lo)).take (HT.sIx xs.length xs.length hi - HT.sIx xs.length 0 lo)
def slG (lh : LH) (d : D) (lo hi : Option Int) : Ro := match d with
  | .tup xs => .v (.tup (cutD xs lo hi))
  | d => match asL lh d with
    | some xs => .l (cutD xs lo hi)
    | none => .no
def eSl (al : Bool) (m : EM) (lo hi : OM) : EM := fun τ lh => (m τ lh).bind fun d lh => (lo τ lh).bind fun l lh => (hi τ lh).bind fun h lh => (slG lh d l h).res al lh
def revG (lh : LH) (d : D) : Ro := match asL lh d with
  | some xs => .l xs.reverse
  | none => .no
section
variable {X : Cx} {W : WX} {e : Expr} {m : EM} {lo hi : Option Expr} {ol oh : OM} {pos p2 : Pos} {al : Bool}
def tO (G : Gx) (W : WX) (m : OM) : TO := fun σ H Q => ∃ A ρ τ lh, ER G A ρ H σ τ ∧ SR G A ρ H lh ∧ PRg G A ρ H (fun _ _ b a => b = a) (m τ lh) (wAt G W σ) Q
abbrev EO (X : Cx) (W : WX) (e : Option Expr) (m : OM) : Prop := PO X e (tO (gx X) W m)
theorem poImp {X : Cx} {e : Option Expr} {t t' : TO} (h : PO X e t) (i : ∀ σ H Q, t' σ H Q → t σ H Q) : PO X e t' := ⟨fun pins s σ H Q I hw => h.run pins s σ H Q I (i σ H Q hw)⟩
theorem eo_none : EO X W none oNone := poImp po_none fun σ H Q ⟨A, ρ, τ, lh, er, S, pr⟩ => pr ρ H _ (Stp.refl _ _) S rfl
theorem eo_some (h : EE X W e m) : EO X W (some e) (oSome m) :=
  poImp (po_some h) fun σ H Q ⟨A, ρ, τ, lh, er, S, pr⟩ => ⟨A, ρ, τ, lh, er, S, PRg.thn pr fun d lh1 ρ1 H1 x s1 S1 r1 pr1 => by
    cases r1 with
    | int i => exact ⟨i, rfl, pr1 ρ1 H1 _ (Stp.refl _ _) S1 rfl⟩
    | _ => exact pr1.elim⟩
theorem cut_rel {G : Gx} {A : Addr → Prop} {ρ : List Addr} {H : Hp} {vs : List V} {ds : List D} (r : VRs G A ρ H vs ds) (lo hi : Option Int) : VRs G A ρ H (cutV vs lo hi) (cutD ds lo hi) := by
  unfold cutV cutD
  rw [r.length]
  exact (r.drop _).take _
theorem cut_whole {xs : List D} {lo hi : Option Int} (h : HT.sIx xs.length 0 lo = 0 ∧ HT.sIx xs.length xs.length hi = xs.length) : cutD xs lo hi = xs := by
  unfold cutD
  rw [h.1, h.2]
  simp
theorem ee_sl (al : Bool) (he : EE X W e m) (hl : EO X W lo ol) (hh : EO X W hi oh) : EE X W (.Subscript e (.Slice lo hi none p2) pos) (eSl al m ol oh) :=
  peImp (pe_slice (sl_list.or sl_tupA) he hl hh) fun σ H Q ⟨A, ρ, τ, lh, er, S, pr⟩ => ⟨A, ρ, τ, lh, er, S, PRg.thn pr fun d lh1 ρ1 H1 x s1 S1 r1 pr1 => ⟨A, ρ1, τ, lh1, er.stp s1, S1, PRg.thn pr1 fun l lh2 ρ2 H2 l' s2 S2 el pr2 => by
    subst el
    refine ⟨A, ρ2, τ, lh2, (er.stp s1).stp s2, S2, PRg.thn pr2 fun h lh3 ρ3 H3 h' s3 S3 eh pr3 => ?_⟩
    subst eh
    have r3 := (r1.stp s2).stp s3
    have pr4 := PRo.of pr3
    unfold slG at pr4
    split at pr4
    · cases r3 with
      | @tup a vs _ q r =>
        refine .inr ⟨a, vs, rfl, q, fun hw => ?_, fun hw => PRo.tup pr4 S3 (cut_rel r _ _)⟩
        rw [r.length] at hw
        rw [cut_whole hw] at pr4
        exact PRo.val pr4 S3 (.tup q r)
    · split at pr4
      · rename_i xs h1
        obtain ⟨a, vs, rfl, hq, rs⟩ := asL_rel S3 r3 h1
        exact .inl ⟨a, vs, rfl, hq, PRo.new pr4 S3 (cut_rel rs _ _)⟩
      · exact pr4.elim⟩⟩
theorem ee_rev (al : Bool) {k : Nat} {p1 p2 p3 : Pos} (he : EE X W e m) : EE X W (.Subscript e (.Slice none none (some (.UnaryOp .USub (.Constant (.int 1) k p1) p2)) p3) pos) (e1 al revG m) :=
  peImp (pe_revL he) fun σ H Q ⟨A, ρ, τ, lh, er, S, pr⟩ => ⟨A, ρ, τ, lh, er, S, PRg.thn pr fun d lh1 ρ1 H1 x s1 S1 r1 pr1 => by
    have pr4 := PRo.of pr1
    unfold revG at pr4
    split at pr4
    · rename_i xs h1
      obtain ⟨a, vs, rfl, hq, rs⟩ := asL_rel S1 r1 h1
      exact ⟨a, vs, rfl, hq, PRo.new pr4 S1 rs.reverse⟩
    · exact pr4.elim⟩
end
/-! ### a < b < c; and, or, not as values -/
def eChain (g g' : LH → D → D → Ro) (a b c : EM) : EM := fun τ lh => (a τ lh).bind fun x lh => (b τ lh).bind fun y lh => match g lh x y with
  | .v (.bl true) => (c τ lh).bind fun z lh => (g' lh y z).res false lh
  | .v (.bl false) => .ok (.bl false) lh
  | _ => .stuck
section
variable {X : Cx} {W : WX} {a b c : Expr} {m1 m2 m3 : EM} {pos : Pos} {rest : List Expr} {op op' : CmpOp} {g g' : LH → D → D → Ro}
theorem ee_chain (ho : OpD X (compareOp op) g) (ho' : OpD X (compareOp op') g') (ha : EE X W a m1) (hb : EE X W b m2) (hc : EE X W c m3) (hm : lastMarks [op, op'] [b, c] = false := by rfl) : EE X W (.Compare a [op, op'] [b, c] pos) (eChain g g' m1 m2 m3) :=
  peImp (pe_chain (ho false) (ho' false) ha hb hc hm) fun σ H Q ⟨A, ρ, τ, lh, er, S, pr⟩ => ⟨A, ρ, τ, lh, er, S, PRg.thn pr fun d lh1 ρ1 H1 x s1 S1 r1 pr1 => ⟨A, ρ1, τ, lh1, er.stp s1, S1, PRg.thn pr1 fun e lh2 ρ2 H2 y s2 S2 r2 pr2 => ⟨A, ρ2, lh2, d, e, S2, r1.stp s2, r2, by
    cases q : g lh2 d e with
    | v d' =>
      rw [q] at pr2
      cases d' with
      | bl k =>
        intro ρ3 H3 v s3 S3 r3
        cases r3
        cases k with
        | true => exact ⟨true, rfl, iteT ⟨A, ρ3, τ, lh2, ((er.stp s1).stp s2).stp s3, S3, PRg.thn (PRg.stp s3 pr2) fun z lh4 ρ4 H4 w s4 S4 r4 pr4 => ⟨A, ρ4, lh4, e, z, S4, (r2.stp s3).stp s4, r4, PRo.of pr4⟩⟩⟩
        | false => exact ⟨false, rfl, iteF (pr2 ρ3 H3 _ s3 S3 (.bl false))⟩
      | _ => exact pr2.elim
    | l xs => rw [q] at pr2; exact pr2.elim
    | no => rw [q] at pr2; exact pr2.elim⟩⟩⟩
theorem et_chain (h : EE X W (.Compare a [op, op'] [b, rest0] pos) m1) (he : ∀ whole, PySem.isTrue (.Compare a [op, op'] [b, rest0] pos) X.env whole = (do let v ← whole; standAt (Expr.Compare a [op, op'] [b, rest0] pos).pos; holding [v] (truthy v)) := by intro _; rfl) : ET X W (.Compare a [op, op'] [b, rest0] pos) (tOf m1) := et_of h he
end
end Tb

/-! Values by truth, fields, methods of lists, dict displays. -/
namespace Tb
open PySem PySem.Spec PyProof.Rows L2

section
variable {X : Cx} {W : WX} {a b c e o : Expr} {m mo m1 m2 m3 : EM} {pos cpos apos : Pos} {rest : List Expr}
theorem ee_one {op} (h : EE X W a m) : EE X W (.BoolOp op [a] pos) m := pe_one h
theorem ee_and (ha : EE X W a m1) (hb : EE X W (.BoolOp .And (b :: rest) pos) m2) : EE X W (.BoolOp .And (a :: b :: rest) pos) (eAnd m1 m2) :=
  peImp (pe_andT ha hb) fun σ H Q ⟨A, ρ, τ, lh, er, S, pr⟩ => ⟨A, ρ, τ, lh, er, S, PRg.thn pr fun d lh1 ρ1 H1 x s1 S1 r1 pr1 => by
    cases q : truD lh1 d with
    | none => simp only [q] at pr1; exact pr1.elim
    | some k =>
      simp only [q] at pr1
      refine ⟨k, tru_rel S1 r1 q, ?_⟩
      cases k with
      | true => exact iteT ⟨A, ρ1, τ, lh1, er.stp s1, S1, pr1⟩
      | false => exact iteF (pr1 ρ1 H1 _ (Stp.refl _ _) S1 r1)⟩
theorem ee_or (ha : EE X W a m1) (hb : EE X W (.BoolOp .Or (b :: rest) pos) m2) : EE X W (.BoolOp .Or (a :: b :: rest) pos) (eOr m1 m2) :=
  peImp (pe_orT ha hb) fun σ H Q ⟨A, ρ, τ, lh, er, S, pr⟩ => ⟨A, ρ, τ, lh, er, S, PRg.thn pr fun d lh1 ρ1 H1 x s1 S1 r1 pr1 => by
    cases q : truD lh1 d with
    | none => simp only [q] at pr1; exact pr1.elim
    | some k =>
      simp only [q] at pr1
      refine ⟨k, tru_rel S1 r1 q, ?_⟩
      cases k with
      | true => exact iteT (pr1 ρ1 H1 _ (Stp.refl _ _) S1 r1)
      | false => exact iteF ⟨A, ρ1, τ, lh1, er.stp s1, S1, pr1⟩⟩
theorem ee_not (ha : EE X W a m1) : EE X W (.UnaryOp .Not a pos) (eNot m1) :=
  peImp (pe_notT ha) fun σ H Q ⟨A, ρ, τ, lh, er, S, pr⟩ => ⟨A, ρ, τ, lh, er, S, PRg.thn pr fun d lh1 ρ1 H1 x s1 S1 r1 pr1 => by
    cases q : truD lh1 d with
    | none => simp only [q] at pr1; exact pr1.elim
    | some k =>
      simp only [q] at pr1
      exact ⟨k, tru_rel S1 r1 q, pr1 ρ1 H1 _ (Stp.refl _ _) S1 (.bl _)⟩⟩
end

/-! ### fields -/
/-- the instance at a location -/
def insAt (lh : LH) : D → Option (Nat × Str × List (Str × D))
  | .loc n => (match lh[n]? with
    | some (.ins c fs) => some (n, c, fs)
    | _ => none)
  | _ => none
def eFld (f : Str) (m : EM) : EM := fun τ lh => (m τ lh).bind fun d lh => match insAt lh d with
  | some (_, _, fs) => (match fs.lookup f with
    | some v => .ok v lh
    | none => .stuck)
  | none => .stuck
theorem ins_rel {G : Gx} {A : Addr → Prop} {ρ : List Addr} {H : Hp} {lh : LH} {v : V} {d : D} {n : Nat} {c : Str} {fs : List (Str × D)} (S : SR G A ρ H lh) (r : VR G A ρ H v d) (h : insAt lh d = some (n, c, fs)) :
    ∃ a dx gs, d = .loc n ∧ v = .ref a ∧ ρ[n]? = some a ∧ lh[n]? = some (.ins c fs) ∧ H a = some (.ins (He.ga G.K c) dx gs) ∧ FR G A ρ H gs fs := by
  cases r with
  | @loc m a q =>
    unfold insAt at h
    cases e : lh[m]? with
    | none => simp only [e] at h; cases h
    | some o =>
      simp only [e] at h
      cases o with
      | ins c' fs' =>
        cases h
        obtain ⟨b, h1, dx, gs, h2, h3⟩ := S.obj n _ e
        rw [q] at h1
        cases h1
        exact ⟨a, dx, gs, rfl, rfl, q, e, h2, h3⟩
      | _ => cases h
  | _ => cases h
/-- the classes with plain fields: what is read of them -/
def ClsOk (K : PySem.W.Frag) (cs : List (Str × Str)) : Prop := ∀ p ∈ cs, Cls K (He.ga K p.1) ∧ NoAttr K (He.ga K p.1) p.2
section
variable {X : Cx} {W : WX} {a b c e o : Expr} {m mo m1 m2 m3 : EM} {pos cpos apos : Pos} {rest : List Expr}
/-- e.f: the instance is of one of the classes cs -/
def eFldC (cs : List Str) (f : Str) (m : EM) : EM := fun τ lh => (m τ lh).bind fun d lh => match insAt lh d with
  | some (_, c, fs) => if cs.contains c = true then (match fs.lookup f with
    | some v => .ok v lh
    | none => .stuck) else .stuck
  | none => .stuck
theorem ee_fld {f : Str} (cs : List Str) (hc : ∀ c ∈ cs, Cls X.K (He.ga X.K c) ∧ NoAttr X.K (He.ga X.K c) f) (h : EE X W e m) (hb : attributeBase e f X.env (eval e X.env) = eval e X.env := by rfl) : EE X W (.Attribute e f pos) (eFldC cs f m) :=
  peImp (pe_fld h hb) fun σ H Q ⟨A, ρ, τ, lh, er, S, pr⟩ => ⟨A, ρ, τ, lh, er, S, PRg.thn pr fun d lh1 ρ1 H1 x s1 S1 r1 pr1 => by
    cases q : insAt lh1 d with
    | none => simp only [q] at pr1; exact pr1.elim
    | some p =>
      obtain ⟨n, c, fs⟩ := p
      simp only [q] at pr1
      by_cases hm : cs.contains c = true
      · rw [if_pos hm] at pr1
        cases l : fs.lookup f with
        | none => simp only [l] at pr1; exact pr1.elim
        | some v =>
          simp only [l] at pr1
          obtain ⟨a, dx, gs, rfl, rfl, h1, h2, h3, h4⟩ := ins_rel S1 r1 q
          obtain ⟨w, l1, l2⟩ := h4.lookup l
          obtain ⟨k1, k2⟩ := hc c (by simpa using hm)
          exact ⟨a, _, dx, gs, w, rfl, h3, k1, k2, l1, pr1 ρ1 H1 w (Stp.refl _ _) S1 l2⟩
      · rw [if_neg hm] at pr1
        exact pr1.elim⟩
end
/-! ### a location's object changes -/
section
variable {G : Gx} {W : WX} {A : Addr → Prop} {ρ : List Addr} {H : Hp} {lh : LH}
theorem OR.setSelf {a : Addr} {n : Nat} {vs : List V} {ds : List D} (S : SR G A ρ H lh) (hn : ρ[n]? = some a) (r : VRs G A ρ H vs ds) : OR G A ρ (upd H a (.lst vs)) a (.lst ds) := by
  obtain ⟨u, hu, mu⟩ := S.mut (List.mem_of_getElem? hn)
  exact ⟨vs, upd_same, r.stp (stp_set hn hu mu)⟩
/-- the list at the location n becomes ds -/
theorem set_lst {a : Addr} {n : Nat} {vs : List V} {ds : List D} {R : Hp → Prop} (S : SR G A ρ H lh) (hn : ρ[n]? = some a) (r : VRs G A ρ H vs ds) (h : ∀ H', Stp ρ H ρ H' → SR G A ρ H' (lh.set n (.lst ds)) → R H') : R (upd H a (.lst vs)) := by
  obtain ⟨u, hu, mu⟩ := S.mut (List.mem_of_getElem? hn)
  exact h _ (stp_set hn hu mu) (S.set hn (OR.setSelf S hn r))
end
/-- the location of a list of ours, its items -/
def locL (lh : LH) : D → Option (Nat × List D)
  | .loc n => (match lstAt lh n with
    | some xs => some (n, xs)
    | none => none)
  | _ => none
theorem locL_rel {G : Gx} {A : Addr → Prop} {ρ : List Addr} {H : Hp} {lh : LH} {v : V} {d : D} {n : Nat} {xs : List D} (S : SR G A ρ H lh) (r : VR G A ρ H v d) (h : locL lh d = some (n, xs)) : ∃ a vs, d = .loc n ∧ v = .ref a ∧ ρ[n]? = some a ∧ H a = some (.lst vs) ∧ VRs G A ρ H vs xs := by
  cases r with
  | @loc m a q =>
    unfold locL at h
    cases e : lstAt lh m with
    | none => simp only [e] at h; cases h
    | some ys =>
      simp only [e] at h
      cases h
      obtain ⟨b, vs, h1, h2, h3⟩ := S.lst e
      rw [q] at h1
      cases h1
      exact ⟨a, vs, rfl, rfl, q, h2, h3⟩
  | _ => cases h
theorem locL_stp {G : Gx} {A : Addr → Prop} {ρ ρ' : List Addr} {H H' : Hp} {lh' : LH} {n : Nat} {a : Addr} {xs : List D} (S : SR G A ρ' H' lh') (s : Stp ρ H ρ' H') (hn : ρ[n]? = some a) (h : lstAt lh' n = some xs) : ∃ vs, ρ'[n]? = some a ∧ H' a = some (.lst vs) ∧ VRs G A ρ' H' vs xs := by
  obtain ⟨b, vs, h1, h2, h3⟩ := S.lst h
  have q := s.get hn
  rw [q] at h1
  cases h1
  exact ⟨vs, q, h2, h3⟩
/-- xs.m(e): the list is changed, a value comes; g: items, argument -> new items, value -/
def eMt (g : LH → List D → D → Option (List D × D)) (mo m : EM) : EM := fun τ lh => (mo τ lh).bind fun d lh => match locL lh d with
  | some (n, _) => (m τ lh).bind fun e lh => (match lstAt lh n with
    | some xs => (match g lh xs e with
      | some (ys, v) => .ok v (lh.set n (.lst ys))
      | none => .stuck)
    | none => .stuck)
  | none => .stuck
/-- xs.m() -/
def eMt0 (g : List D → Option (List D × D)) (mo : EM) : EM := fun τ lh => (mo τ lh).bind fun d lh => match locL lh d with
  | some (n, xs) => (match g xs with
    | some (ys, v) => .ok v (lh.set n (.lst ys))
    | none => .stuck)
  | none => .stuck
def apG (_ : LH) (xs : List D) (e : D) : Option (List D × D) := if xs.length < sizeLine then some (xs ++ [e], .non) else none
def exG (lh : LH) (xs : List D) (e : D) : Option (List D × D) := match asS lh e with
  | some ys => (match e with
    | .scr _ => none
    | _ => if xs.length + ys.length ≤ sizeLine then some (xs ++ ys, .non) else none)
  | none => none
def popG (xs : List D) : Option (List D × D) := match xs[xs.length - 1]? with
  | some y => some (xs.dropLast, y)
  | none => none
def rvG (xs : List D) : Option (List D × D) := some (xs.reverse, .non)
end Tb
namespace PySem
theorem tb_extend_tup (l : Addr) (items : Array Value) (n : Nat) (b : Addr) (items2 : Array Value) (n2 : Nat) (dd : Option Addr) (sl : Array (Option Value)) (hs0 : ¬(!items.isEmpty && Builtin.List.listTooLong (items.size + items2.size)) = true) (hs1 : items.size ≤ sizeLine) (hs2 : items.size + items2.size ≤ sizeLine + 1) :
    Meets (Builtin.«list.extend» ⟨[.ref l, .ref b], []⟩) (fun _ R s => s.heap.get? l = some { cls := .type "list", dict := none, data := .seq items n, slots := #[] } ∧ s.heap.get? b = some { cls := .type "tuple", dict := dd, data := .seq items2 n2, slots := sl } ∧ R (.ok (.ret Value.none)) { s with heap := s.heap.update l (Obj.mapSeq fun x => x ++ items2), toks := s.toks }) :=
  .of_wp fun prog w A R s h => by
    obtain ⟨hp, g, d, tk, os⟩ := s; obtain ⟨hl, hb, h⟩ := h; have f1 := AutoSeq1.idx_int; have f2 := AutoSeq1.sub_tuple_tuple; have f3 := AutoSeq1.sub_list_list; have f4 := AutoSeq1.sub_tuple_list; have f5 := AutoSeq1.sub_list_tuple;
    have hz' : (items ++ items2).size ≤ sizeLine + 1 := by rw [Array.size_append]; exact hs2
    wp_walk using (wpAny_updateSeq hl rfl (hz := hs1) (_hz' := hz')), AutoSeq1.wpAny_loadPart' hl, AutoSeq1.wpAny_loadPart' hb; exact ⟨_, rfl, h⟩
end PySem
namespace Tb
open PySem PySem.Spec PyProof.Rows L2
def rExtT (K : PySem.W.Frag) : V → List V → Hp → VK → Prop := fun x vs H Q => ∃ l b xs zs, x = .ref l ∧ vs = [.ref b] ∧ H l = some (.lst xs) ∧ SqT K H b zs ∧ xs.length + zs.length ≤ sizeLine ∧ Q .non (upd H l (.lst (xs ++ zs)))
section
variable {X : Cx}
theorem mt_extT : MtM X "list.extend" (rExtT X.K) := by
  intro pins s σ H x vs v us Q I rx rv h
  obtain ⟨l, b, xs, zs, rfl, rfl, hH, hB, hz, q⟩ := h
  cases rx
  obtain ⟨u, rfl, ru⟩ := rv.one
  cases ru
  obtain ⟨z, its, n, r, hl, e⟩ := I.lstM hH
  obtain ⟨its2, r2, ⟨⟨oc, dd, dat, sl⟩, e2, hc, n2, hd⟩, z2⟩ := I.tuple hB
  simp only at hc hd
  subst hc hd
  have hl2 := r2.length
  have hsz : its.toArray.size + its2.toArray.size ≤ sizeLine := by rw [List.size_toArray, List.size_toArray]; omega
  have hlong : ¬ (!its.toArray.isEmpty && Builtin.List.listTooLong (its.toArray.size + its2.toArray.size)) = true := by
    rw [notLongL hsz, Bool.and_false]
    exact Bool.false_ne_true
  refine call_meets F.slot_list_extend ⟨_, e, rfl⟩ F.entry_list_extend (F.args_list_extend_2 _ _)
    (PySem.tb_extend_tup l its.toArray n b its2.toArray n2 dd sl hlong (by rw [List.size_toArray]; omega) (by omega)) ⟨e, e2, ?_⟩
  refine ⟨.non, _, I.lset (its' := its ++ its2) hH e (by simp) (r.append r2) ?_, rfl, q⟩
  rw [List.length_append]
  omega
theorem MtM.or {id : String} {r r' : V → List V → Hp → VK → Prop} (h : MtM X id r) (h' : MtM X id r') : MtM X id (fun x xs H Q => r x xs H Q ∨ r' x xs H Q) := fun pins s σ H x xs v us Q I rx rv z => z.elim (h pins s σ H x xs v us Q I rx rv) (h' pins s σ H x xs v us Q I rx rv)
variable {W : WX} {o e : Expr} {mo m : EM} {pos cpos apos : Pos}
/-- o.m(e), m a method of lists that changes the list by g -/
theorem ee_mt {g : LH → List D → D → Option (List D × D)} {name : Str} {id : String} {r : V → List V → Hp → VK → Prop} (slot : Slot "list" name id) (hty : typeOf (.builtin id) = pure (.type "method_descriptor")) (hm : MtR X id r)
    (hg : ∀ (A : Addr → Prop) (ρ : List Addr) (H : Hp) (lh : LH) (a : Addr) (n : Nat) (vs : List V) (xs ys : List D) (w : V) (e d : D) (Q : VK), SR (gx X) A ρ H lh → ρ[n]? = some a → lstAt lh n = some xs → H a = some (.lst vs) → VRs (gx X) A ρ H vs xs → VR (gx X) A ρ H w e → g lh xs e = some (ys, d) →
      (∀ v vs' , VRs (gx X) A ρ H vs' ys → VR (gx X) A ρ H v d → Q v (upd H a (.lst vs'))) → r (.ref a) [w] H Q)
    (hp : ∀ (lh : LH) (xs ys : List D) (e d : D), g lh xs e = some (ys, d) → d = .non)
    (ho : EE X W o mo) (ha : EE X W e m) (hb : attributeBase o name X.env (eval o X.env) = eval o X.env := by rfl)
    (h2 : (((((backTo cpos (starEach (e :: []) X.env)).all fun x => !x.fst) && (backToKw cpos (keywordEach [] X.env)).all fun x => x.fst.isSome) && decide (((e :: []).length + ([] : List Keyword).length + if ([] : List Keyword).isEmpty = true then 0 else 1) < 30)) = true) := by rfl)
    (h3 : (apos.endLine == cpos.line) = true := by rfl) (hs : starEach (e :: []) X.env = (false, eval e X.env) :: starEach [] X.env := by rfl) (h5 : ((backTo cpos (starEach [] X.env)).any fun x => x.fst) = false := by rfl) :
    EE X W (.Call (.Attribute o name apos) [e] [] cpos) (eMt g mo m) :=
  peImp (pe_bm PySem.F.plainAttrs_list slot hty hm ho (pa_cons ha pa_nil hs) hb h2 h3 hs h5) fun σ H Q ⟨A, ρ, τ, lh, er, S, pr⟩ => ⟨A, ρ, τ, lh, er, S, PRg.thn pr fun d lh1 ρ1 H1 x s1 S1 r1 pr1 => by
    cases q : locL lh1 d with
    | none => simp only [q] at pr1; exact pr1.elim
    | some p =>
      obtain ⟨n, xs0⟩ := p
      simp only [q] at pr1
      obtain ⟨a, vs0, rfl, rfl, hn, h4, _⟩ := locL_rel S1 r1 q
      refine ⟨Or.inl ⟨rfl, vs0, SqL.of h4⟩, A, ρ1, τ, lh1, er.stp s1, S1, PRg.thn pr1 fun e' lh2 ρ2 H2 w s2 S2 r2 pr2 => ?_⟩
      cases q2 : lstAt lh2 n with
      | none => simp only [q2] at pr2; exact pr2.elim
      | some xs =>
        simp only [q2] at pr2
        cases q3 : g lh2 xs e' with
        | none => simp only [q3] at pr2; exact pr2.elim
        | some p =>
          obtain ⟨ys, dv⟩ := p
          simp only [q3] at pr2
          obtain ⟨vs, k1, k2, k3⟩ := locL_stp S2 s2 hn q2
          refine hg A ρ2 H2 lh2 a n vs xs ys w e' dv Q S2 k1 q2 k2 k3 r2 q3 fun v vs' z1 z2 => ?_
          have en := hp _ _ _ _ _ q3
          subst en
          cases z2
          exact set_lst S2 k1 z1 fun H' t1 t2 => pr2 ρ2 H' _ t1 t2 .non⟩
theorem apG_non (lh : LH) (xs ys : List D) (e d : D) (h : apG lh xs e = some (ys, d)) : d = .non := by
  unfold apG at h
  split at h
  · cases h; rfl
  · cases h
theorem exG_non (lh : LH) (xs ys : List D) (e d : D) (h : exG lh xs e = some (ys, d)) : d = .non := by
  unfold exG at h
  split at h
  · split at h
    · cases h
    · split at h
      · cases h; rfl
      · cases h
  · cases h
theorem ee_append (ho : EE X W o mo) (ha : EE X W e m) (hb : attributeBase o "append" X.env (eval o X.env) = eval o X.env := by rfl)
    (h2 : (((((backTo cpos (starEach (e :: []) X.env)).all fun x => !x.fst) && (backToKw cpos (keywordEach [] X.env)).all fun x => x.fst.isSome) && decide (((e :: []).length + ([] : List Keyword).length + if ([] : List Keyword).isEmpty = true then 0 else 1) < 30)) = true) := by rfl)
    (h3 : (apos.endLine == cpos.line) = true := by rfl) (hs : starEach (e :: []) X.env = (false, eval e X.env) :: starEach [] X.env := by rfl) (h5 : ((backTo cpos (starEach [] X.env)).any fun x => x.fst) = false := by rfl) : EE X W (.Call (.Attribute o "append" apos) [e] [] cpos) (eMt apG mo m) :=
  ee_mt PySem.F.slot_list_append PySem.F.type_list_append mt_append (fun A ρ H lh a n vs xs ys w e d Q S hn hl ha rs rw' hg k => by
    have en := apG_non _ _ _ _ _ hg
    subst en
    unfold apG at hg
    split at hg
    · rename_i hz
      cases hg
      exact ⟨a, vs, w, rfl, rfl, ha, by rw [rs.length]; exact hz, k .non _ (rs.append (.cons rw' .nil)) .non⟩
    · cases hg) apG_non ho ha hb h2 h3 hs h5
theorem ee_extend (ho : EE X W o mo) (ha : EE X W e m) (hb : attributeBase o "extend" X.env (eval o X.env) = eval o X.env := by rfl)
    (h2 : (((((backTo cpos (starEach (e :: []) X.env)).all fun x => !x.fst) && (backToKw cpos (keywordEach [] X.env)).all fun x => x.fst.isSome) && decide (((e :: []).length + ([] : List Keyword).length + if ([] : List Keyword).isEmpty = true then 0 else 1) < 30)) = true) := by rfl)
    (h3 : (apos.endLine == cpos.line) = true := by rfl) (hs : starEach (e :: []) X.env = (false, eval e X.env) :: starEach [] X.env := by rfl) (h5 : ((backTo cpos (starEach [] X.env)).any fun x => x.fst) = false := by rfl) : EE X W (.Call (.Attribute o "extend" apos) [e] [] cpos) (eMt exG mo m) :=
  ee_mt PySem.F.slot_list_extend PySem.F.type_list_extend (MtM.or mt_extend mt_extT) (fun A ρ H lh a n vs xs ys w e d Q S hn hl ha rs rw' hg k => by
    have en := exG_non _ _ _ _ _ hg
    subst en
    unfold exG at hg
    split at hg
    · rename_i zs h1
      split at hg
      · cases hg
      · rename_i hns
        split at hg
        · rename_i hz
          cases hg
          cases rw' with
          | @tup b ws _ q r => cases h1; exact .inr ⟨a, b, vs, ws, rfl, rfl, ha, q, by rw [rs.length, r.length]; exact hz, k .non _ (rs.append r) .non⟩
          | @lst b ws _ q _ _ r => cases h1; exact .inl ⟨a, b, vs, ws, rfl, rfl, ha, q, by rw [rs.length, r.length]; exact hz, k .non _ (rs.append r) .non⟩
          | @scr b ws ds q r => exact absurd rfl (hns ds)
          | @loc n b q =>
            obtain ⟨c, ws, e1, e2, e3⟩ := S.lst h1
            rw [q] at e1
            cases e1
            exact .inl ⟨a, b, vs, ws, rfl, rfl, ha, e2, by rw [rs.length, e3.length]; exact hz, k .non _ (rs.append e3) .non⟩
          | _ => cases h1
        · cases hg
    · cases hg) exG_non ho ha hb h2 h3 hs h5
/-- o.m() -/
theorem ee_mt0 {g : List D → Option (List D × D)} {name : Str} {id : String} {r : V → List V → Hp → VK → Prop} (slot : Slot "list" name id) (hty : typeOf (.builtin id) = pure (.type "method_descriptor")) (hm : MtR X id r)
    (hg : ∀ (A : Addr → Prop) (ρ : List Addr) (H : Hp) (a : Addr) (vs : List V) (xs ys : List D) (d : D) (Q : VK), H a = some (.lst vs) → VRs (gx X) A ρ H vs xs → g xs = some (ys, d) → (∀ v vs' , VRs (gx X) A ρ H vs' ys → VR (gx X) A ρ H v d → Q v (upd H a (.lst vs'))) → r (.ref a) [] H Q)
    (ho : EE X W o mo) (hb : attributeBase o name X.env (eval o X.env) = eval o X.env := by rfl)
    (h3 : (apos.endLine == cpos.line) = true := by rfl) :
    EE X W (.Call (.Attribute o name apos) [] [] cpos) (eMt0 g mo) :=
  peImp (pe_bm0 PySem.F.plainAttrs_list slot hty hm ho hb h3) fun σ H Q ⟨A, ρ, τ, lh, er, S, pr⟩ => ⟨A, ρ, τ, lh, er, S, PRg.thn pr fun d lh1 ρ1 H1 x s1 S1 r1 pr1 => by
    cases q : locL lh1 d with
    | none => simp only [q] at pr1; exact pr1.elim
    | some p =>
      obtain ⟨n, xs⟩ := p
      simp only [q] at pr1
      obtain ⟨a, vs, rfl, rfl, hn, h4, rs⟩ := locL_rel S1 r1 q
      refine ⟨Or.inl ⟨rfl, vs, SqL.of h4⟩, ?_⟩
      cases q3 : g xs with
      | none => simp only [q3] at pr1; exact pr1.elim
      | some p =>
        obtain ⟨ys, dv⟩ := p
        simp only [q3] at pr1
        refine hg A ρ1 H1 a vs xs ys dv Q h4 rs q3 fun v vs' z1 z2 => ?_
        obtain ⟨u, hu, mu⟩ := S1.mut (List.mem_of_getElem? hn)
        exact pr1 ρ1 _ _ (stp_set hn hu mu) (S1.set hn (OR.setSelf S1 hn z1)) (z2.stp (stp_set hn hu mu))⟩
end
end Tb

/-! Statements: stores, targets, if, while, for; comprehensions. -/
namespace Tb
open PySem PySem.Spec PyProof.Rows L2

/-! ### a new dict -/
theorem dicP_ok {P : Program} {w : World} {H : Hp} {h : Heap} {a : Addr} {xs : List DEnt} (x : DicP P w a xs h) : ObjOk P w H h a (.ext (DicP P w a xs)) := by
  refine ⟨x, ?_, fun h1 h2 ⟨o, es, ep, e1, e2⟩ k => ⟨o, es, ep, k _ e1, e2⟩⟩
  obtain ⟨o, es, ep, e1, _⟩ := x
  exact ⟨o, e1⟩
def eDict : EM := fun _ lh => .ok (.loc lh.length) (lh ++ [.dic [] []])
section
variable {X : Cx} {W : WX} {pos : Pos}
theorem ee_dict : EE X W (.Dict [] [] pos) eDict := ⟨fun pins s σ H Q I ⟨A, ρ, τ, lh, er, S, pr⟩ => by
  have hn : H s.heap.objs.size = none := I.hok.fresh (Nat.le_refl _)
  have big : sysModules < s.heap.objs.size := I.big
  have e : ρ.length = lh.length := S.len
  refine wpAny_Dict_empty ⟨.ref s.heap.objs.size, _, I.laid (a := s.heap.objs.size) (o := .ext (DicP X.prog X.w s.heap.objs.size [])) (t' := s.toks) (fun _ _ q => Heap.get?_push_of_some _ q) (Nat.le_refl _) (dicP_ok ?_), rfl, ?_⟩
  · exact ⟨_, #[], 0, Heap.get?_push_size _ rfl, ⟨rfl, rfl, rfl⟩, rfl, rfl, List.nodup_nil, beq_eq_false_iff_ne.mpr (Ne.symm (Nat.ne_of_lt big)), Nat.zero_le _⟩
  · refine pr (ρ ++ [s.heap.objs.size]) _ _ (stp_loc hn) (S.newLoc hn ⟨[], upd_same, .nil⟩) (.loc ?_)
    rw [← e]
    simp⟩
end

/-! ### x[i] = v -/
/-- the dict at a location -/
def locD (lh : LH) : D → Option (Nat × List D × List D)
  | .loc n => (match lh[n]? with
    | some (.dic ks us) => some (n, ks, us)
    | _ => none)
  | _ => none
def setG (lh : LH) (d e f : D) : Option LH := match e with
  | .int k => (match locL lh d with
    | some (n, xs) => (match ixN xs.length k with
      | some j => some (lh.set n (.lst (xs.set j f)))
      | none => none)
    | none => none)
  | .tup _ => (match locD lh d with
    | some (n, ks, us) => (match toKey 8 e with
      | some k => if ks.length < sizeLine then some (lh.set n (.dic (dPut k e f ks us).1 (dPut k e f ks us).2)) else none
      | none => none)
    | none => none)
  | _ => none
def rSetD (G : Gx) : TSet := fun o i v H Q => ∃ A ρ lh d e f, SR G A ρ H lh ∧ VR G A ρ H o d ∧ VR G A ρ H i e ∧ VR G A ρ H v f ∧ ∃ lh', setG lh d e f = some lh' ∧ ∀ H', Stp ρ H ρ H' → SR G A ρ H' lh' → Q H'
theorem length_storedH (xs : List DEnt) (k : NestedKey) (a : Addr) (v : Value) : (storedH xs k a v).length ≤ xs.length + 1 := by
  unfold storedH
  split
  · simp
  · simp
section
variable {X : Cx}
theorem set_D (hu : X.A.units + 200 < cLine) : PSet X (rSetD (gx X)) := by
  intro pins s σ H o i v ov iv u Q I ro ri rv ⟨A, ρ, lh, d, e, f, S, r1, r2, r3, lh', g, h⟩
  unfold setG at g
  split at g
  · rename_i k
    split at g
    · rename_i n xs h1
      split at g
      · rename_i j hj
        obtain ⟨a, vs, rfl, rfl, hn, ha, rs⟩ := locL_rel S r1 h1
        cases r2
        refine set_list pins s σ H _ _ v ov iv u Q I ro ri rv ⟨a, vs, k, j, rfl, rfl, ha, by rw [rs.length]; exact hj, ?_⟩
        cases g
        exact set_lst S hn (rs.setAt j r3) h
      · cases g
    · cases g
  · split at g
    · rename_i n ks us hd
      split at g
      · rename_i k hk
        split at g
        · rename_i hz
          cases g
          cases r1 with
          | @loc m a hm =>
            unfold locD at hd
            cases e0 : lh[m]? with
            | none => simp only [e0] at hd; cases hd
            | some ob =>
              simp only [e0] at hd
              cases ob with
              | dic ks' us' =>
                cases hd
                obtain ⟨b, h1, xs, h2, dr⟩ := S.obj n _ e0
                rw [hm] at h1
                cases h1
                obtain ⟨ad, rfl⟩ := tupRef r2
                obtain ⟨d1, d2, d3⟩ := dicP_of I h2 dr
                obtain rfl : ov = Value.ref a := ro
                obtain rfl : iv = Value.ref ad := ri
                have nd : (xs.map (·.1)).Nodup := d1.nodup
                refine wpAny_setItem_heap (knd := nestedKind X.prog X.w) (by show X.A.units + 1 + 8 < cLine; omega) (keyIs_rel I r2 hk) d1 (fun h' dd' hs => ?_) (hsz := d3)
                obtain ⟨mu, hmu, mm⟩ := S.mut (List.mem_of_getElem? hm)
                have st : Stp ρ H ρ (upd H a (.ext (DicP X.prog X.w a (storedH xs k ad u)))) := stp_set hm hmu mm
                obtain ⟨q, es, ep, hq, q2, q3, q4, q5, q6⟩ := dd'
                have lz : (storedH xs k ad u).length ≤ sizeLine := by
                  have a1 := length_storedH xs k ad u
                  have a2 := dr.length
                  omega
                have I' := d_write (t' := s.toks + (nestedKind X.prog X.w).draws k) I (ob := .ext (DicP X.prog X.w a (storedH xs k ad u))) (by rw [h2]; exact True.intro) hs ⟨q, hq⟩ (dicP_ok ⟨q, es, ep, hq, q2, q3, q4, q6, d2, lz⟩)
                exact ⟨_, I', h _ st (S.set hm ⟨_, upd_same, (put_rel k hk r2 rv r3 dr nd).stp st⟩)⟩
              | _ => cases hd
          | _ => cases hd
        · cases g
      · cases g
    · cases g
  · cases g
end

/-! ### targets -/
abbrev GB := LH → D → Option (List (Nat × D))
abbrev GBs := LH → List D → Option (List (Nat × D))
def gbName (i : Nat) : GB := fun _ d => some [(i, d)]
def gbNil : GBs := fun _ ds => match ds with
  | [] => some []
  | _ => none
def gbCons (g : GB) (gs : GBs) : GBs := fun lh ds => match ds with
  | d :: ds => (match g lh d with
    | some b => (match gs lh ds with
      | some bs => some (b ++ bs)
      | none => none)
    | none => none)
  | [] => none
def gbTup (gs : GBs) : GB := fun lh d => match asS lh d with
  | some ds => gs lh ds
  | none => none
def setAll {α : Type} (σ : List (Option α)) : List Nat → List α → List (Option α)
  | i :: is, w :: ws => setAll (σ.set i (some w)) is ws
  | _, _ => σ
theorem setAll_app {α : Type} : ∀ {is js : List Nat} {ws us : List α} {σ : List (Option α)}, is.length = ws.length → setAll σ (is ++ js) (ws ++ us) = setAll (setAll σ is ws) js us
  | [], _, [], _, _, _ => rfl
  | i :: is, js, w :: ws, us, σ, h => setAll_app (is := is) (ws := ws) (by simpa using h)
  | [], _, _ :: _, _, _, h => by simp at h
  | _ :: _, _, [], _, _, h => by simp at h
def gP (G : Gx) (gb : GB) : TG := fun v σ H Q => ∃ A ρ lh d bs, SR G A ρ H lh ∧ VR G A ρ H v d ∧ gb lh d = some bs ∧ ∀ ws, VRs G A ρ H ws (bs.map (·.2)) → Q (setAll σ (bs.map (·.1)) ws) H
def gPs (G : Gx) (gb : GBs) : TGs := fun vs σ H Q => ∃ A ρ lh ds bs, SR G A ρ H lh ∧ VRs G A ρ H vs ds ∧ gb lh ds = some bs ∧ ∀ ws, VRs G A ρ H ws (bs.map (·.2)) → Q (setAll σ (bs.map (·.1)) ws) H
abbrev EG (X : Cx) (tg : Expr) (gb : GB) : Prop := PG X tg (gP (gx X) gb)
abbrev EGs (X : Cx) (tg : List Expr) (n : Nat) (gb : GBs) : Prop := PGs X tg (gPs (gx X) gb) ∧ ∀ lh ds bs, gb lh ds = some bs → ds.length = n
theorem pgImp {X : Cx} {e : Expr} {t t' : TG} (h : PG X e t) (i : ∀ v σ H Q, t' v σ H Q → t v σ H Q) : PG X e t' := ⟨fun pins s σ H x v Q I r hw => h.run pins s σ H x v Q I r (i x σ H Q hw)⟩
theorem pgsImp {X : Cx} {e : List Expr} {t t' : TGs} (h : PGs X e t) (i : ∀ v σ H Q, t' v σ H Q → t v σ H Q) : PGs X e t' := ⟨fun pins s σ H x v Q I r hw => h.run pins s σ H x v Q I r (i x σ H Q hw)⟩
theorem pgOr {X : Cx} {e : Expr} {t t' : TG} (h : PG X e t) (h' : PG X e t') : PG X e (fun v σ H Q => t v σ H Q ∨ t' v σ H Q) := ⟨fun pins s σ H x v Q I r hw => hw.elim (h.run pins s σ H x v Q I r) (h'.run pins s σ H x v Q I r)⟩
section
variable {X : Cx} {e : Expr} {es : List Expr} {g : GB} {gs : GBs} {pos : Pos}
theorem eg_name (i : Nat) {x : Str} (hN : X.N.Nodup) (hi : X.N[i]? = some x := by rfl) (hx : Loc X.env.scope x := by first | exact Or.inl rfl | exact Or.inr rfl) (hf : X.fn x = true ∨ X.env.scope.names.lookup x = some .local := by first | exact .inl rfl | exact .inr rfl) : EG X (.Name x pos) (gbName i) :=
  pgImp (pg_name hN hi hx hf) fun v σ H Q ⟨A, ρ, lh, d, bs, S, r, e, k⟩ => by
    cases e
    exact k [v] (.cons r .nil)
theorem egs_nil : EGs X [] 0 gbNil := ⟨pgsImp pgs_nil fun v σ H Q ⟨A, ρ, lh, d, bs, S, r, e, k⟩ => (by
  cases r with
  | nil => cases e; exact ⟨rfl, k [] .nil⟩
  | cons _ _ => cases e), fun lh ds bs h => by
  cases ds with
  | nil => rfl
  | cons _ _ => cases h⟩
theorem egs_cons {n : Nat} (h1 : EG X e g) (h2 : EGs X es n gs) (hs : (assignEach (e :: es) X.env).map (·.2) = assign e X.env :: (assignEach es X.env).map (·.2) := by rfl) : EGs X (e :: es) (n + 1) (gbCons g gs) :=
  ⟨pgsImp (pgs_cons h1 h2.1 hs) fun v σ H Q ⟨A, ρ, lh, d, bs, S, r, e, k⟩ => (by
    cases r with
    | nil => cases e
    | @cons v d vs ds r1 r2 =>
      unfold gbCons at e
      simp only at e
      split at e
      · rename_i b h1
        split at e
        · rename_i bs' h2
          cases e
          refine ⟨v, vs, rfl, A, ρ, lh, d, b, S, r1, h1, fun ws hw => ⟨A, ρ, lh, ds, bs', S, r2, h2, fun us hu => ?_⟩⟩
          have := k (ws ++ us) (by rw [List.map_append]; exact hw.append hu)
          rw [List.map_append, setAll_app (by rw [List.length_map]; have z := hw.length; rw [List.length_map] at z; exact z.symm)] at this
          exact this
        · cases e
      · cases e), fun lh ds bs h => by
    cases ds with
    | nil => cases h
    | cons d ds =>
      unfold gbCons at h
      simp only at h
      split at h
      · split at h
        · rename_i bs' q
          rw [List.length_cons, h2.2 _ _ _ q]
        · cases h
      · cases h⟩
theorem eg_tup {k n : Nat} (hc : X.calm = true) (h : EGs X es n gs) (hn : (assignEach es X.env).length = n := by rfl) (hst : (assignEach es X.env).findIdx? (·.1) = none := by rfl) : EG X (.Tuple es k pos) (gbTup gs) :=
  pgImp (pgOr (pg_tup hc h.1 hn hst) (pg_lst hc h.1 hn hst)) fun v σ H Q ⟨A, ρ, lh, d, bs, S, r, e, k⟩ => by
    unfold gbTup at e
    split at e
    · rename_i ds h1
      obtain ⟨a, vs, rfl, hq, rs⟩ := asS_rel S r h1
      have z := h.2 _ _ _ e
      rcases hq with hq | hq
      · exact .inr ⟨a, vs, rfl, hq, by rw [rs.length]; exact z, A, ρ, lh, ds, bs, S, rs, e, k⟩
      · exact .inl ⟨a, vs, rfl, hq, by rw [rs.length]; exact z, A, ρ, lh, ds, bs, S, rs, e, k⟩
    · cases e
end

/-! ### statements -/
def sNil : SM := fun τ lh => .nx τ lh
def SRes.seq (r : SRes) (f : Tau → LH → SRes) : SRes := match r with
  | .nx τ lh => f τ lh
  | .rt d lh => .rt d lh
  | .bk τ lh => .bk τ lh
  | .exc c τ lh => .exc c τ lh
  | .stuck => .stuck
def sSeq (a b : SM) : SM := fun τ lh => (a τ lh).seq b
def Res.toS {α : Type} (r : Res α) (τ : Tau) (k : α → LH → SRes) : SRes := match r with
  | .ok d lh => k d lh
  | .exc c lh => .exc c τ lh
  | .stuck => .stuck
def sDrop (m : EM) : SM := fun τ lh => (m τ lh).toS τ fun _ lh => .nx τ lh
def sRet (m : EM) : SM := fun τ lh => (m τ lh).toS τ fun d lh => .rt d lh
def sRetN : SM := fun _ lh => .rt .non lh
def sBrk : SM := fun τ lh => .bk τ lh
def sIf (c : TM) (a b : SM) : SM := fun τ lh => (c τ lh).toS τ fun x lh => if x = true then a τ lh else b τ lh
def sSet (i : Nat) (m : EM) : SM := fun τ lh => (m τ lh).toS τ fun d lh => .nx (τ.set i (some d)) lh
def sAsg (g : GB) (m : EM) : SM := fun τ lh => (m τ lh).toS τ fun d lh => match g lh d with
  | some bs => .nx (setAll τ (bs.map (·.1)) (bs.map (·.2))) lh
  | none => .stuck
def sPar (is : List Nat) (m : AM) : SM := fun τ lh => (m τ lh).toS τ fun ds lh => if ds.length = is.length then .nx (setAll τ is ds) lh else .stuck
/-- x[i] = e: the value first -/
def sPut (m mo mi : EM) : SM := fun τ lh => (m τ lh).toS τ fun f lh => match mo τ lh with
  | .ok d lh => (match mi τ lh with
    | .ok e lh => (match setG lh d e f with
      | some lh => .nx τ lh
      | none => .stuck)
    | _ => .stuck)
  | _ => .stuck
def sAug (i : Nat) (g : LH → D → D → Ro) (m : EM) : SM := fun τ lh => match τ[i]? with
  | some (some d) => (m τ lh).toS τ fun e lh => (match g lh d e with
    | .v v => .nx (τ.set i (some v)) lh
    | _ => .stuck)
  | _ => .stuck
section
variable {G : Gx} {W : WX} {A : Addr → Prop} {ρ ρ' : List Addr} {H H' : Hp} {lh : LH} {σ : L2.St} {τ : Tau} {E : Ends}
theorem ER.setAll (e : ER G A ρ H σ τ) : ∀ {is : List Nat} {vs : List V} {ds : List D}, VRs G A ρ H vs ds → ER G A ρ H (Tb.setAll σ is vs) (Tb.setAll τ is ds) := by
  intro is
  induction is generalizing σ τ with
  | nil => intro vs ds _; unfold Tb.setAll; exact e
  | cons i is ih =>
    intro vs ds r
    cases r with
    | nil => unfold Tb.setAll; exact e
    | cons h r => exact ih (e.set i h) r
/-- a statement that begins with an expression -/
theorem PSR.thn {α β : Type} {rel : List Addr → Hp → β → α → Prop} {r : Res α} {k : α → LH → SRes} {R : β → Hp → Prop} (er : ER G A ρ H σ τ) (h : PSR G W A ρ H (r.toS τ k) E)
    (c : ∀ a lh' ρ' H' b, Stp ρ H ρ' H' → SR G A ρ' H' lh' → rel ρ' H' b a → PSR G W A ρ' H' (k a lh') E → R b H') : PRg G A ρ H rel r (wAt G W σ) R := by
  cases r with
  | ok a lh' => exact fun ρ' H' b s S q => c a lh' ρ' H' b s S q (PSR.stp (r := k a lh') s h)
  | exc x lh' => exact fun ρ' H' s S => h ρ' H' σ s S (er.stp s)
  | stuck => exact h.elim
end
section
variable {X : Cx} {W : WX} {a b c e o i' : Expr} {m mo mi : EM} {t : TM} {s1 s2 : SM} {st : Stmt} {rest sts sts2 : List Stmt} {pos pos' : Pos} {g : GB}
theorem ess_nil : ESs X W [] sNil := pssImp pss_nil fun E σ H ⟨A, ρ, τ, lh, er, S, pr⟩ => pr ρ H σ (Stp.refl _ _) S er
theorem ess_cons (h1 : ES X W st s1) (h2 : ESs X W rest s2) : ESs X W (st :: rest) (sSeq s1 s2) :=
  pssImp (pss_cons h1 h2) fun E σ H ⟨A, ρ, τ, lh, er, S, pr⟩ => ⟨A, ρ, τ, lh, er, S, by
    unfold sSeq at pr
    cases q : s1 τ lh with
    | nx τ' lh' =>
      rw [q] at pr
      exact fun ρ' H' σ' s S' e' => ⟨A, ρ', τ', lh', e', S', PSR.stp (r := s2 τ' lh') s pr⟩
    | rt d lh' => rw [q] at pr; exact pr
    | bk τ' lh' => rw [q] at pr; exact pr
    | exc c τ' lh' => rw [q] at pr; exact pr
    | stuck => rw [q] at pr; exact pr.elim⟩
theorem ess_one (h1 : ES X W st s1) : ESs X W [st] s1 := pss_one h1
theorem es_pass : ES X W (.Pass pos) sNil := psImp ps_pass fun E σ H ⟨A, ρ, τ, lh, er, S, pr⟩ => pr ρ H σ (Stp.refl _ _) S er
theorem es_break : ES X W (.Break pos) sBrk := psImp ps_break fun E σ H ⟨A, ρ, τ, lh, er, S, pr⟩ => pr ρ H σ (Stp.refl _ _) S er
theorem es_expr (h : EE X W e m) (hs : swapsWith e none pos.line X.env = pure false := by rfl) : ES X W (.Expr e pos) (sDrop m) :=
  psImp (ps_expr h hs) fun E σ H ⟨A, ρ, τ, lh, er, S, pr⟩ => ⟨A, ρ, τ, lh, er, S, PSR.thn er pr fun d lh1 ρ1 H1 x s1 S1 r1 pr1 => pr1 ρ1 H1 σ (Stp.refl _ _) S1 (er.stp s1)⟩
theorem es_ret (h : EE X W e m) : ES X W (.Return (some e) pos) (sRet m) :=
  psImp (ps_ret h) fun E σ H ⟨A, ρ, τ, lh, er, S, pr⟩ => ⟨A, ρ, τ, lh, er, S, PSR.thn er pr fun d lh1 ρ1 H1 x s1 S1 r1 pr1 => pr1 ρ1 H1 x (Stp.refl _ _) S1 r1⟩
theorem es_if (hc : ET X W c t) (ha : ESs X W sts s1) (hb : ESs X W sts2 s2) : ES X W (.If c sts sts2 pos) (sIf t s1 s2) :=
  psImp (ps_if hc ha hb) fun E σ H ⟨A, ρ, τ, lh, er, S, pr⟩ => ⟨A, ρ, τ, lh, er, S, PSR.thn er pr fun d lh1 ρ1 H1 x s1 S1 r1 pr1 => by
    subst r1
    cases x with
    | true => exact iteT ⟨A, ρ1, τ, lh1, er.stp s1, S1, pr1⟩
    | false => exact iteF ⟨A, ρ1, τ, lh1, er.stp s1, S1, pr1⟩⟩
theorem es_set (i : Nat) {x : Str} (hN : X.N.Nodup) (h : EE X W e m) (hi : X.N[i]? = some x := by rfl) (hx : Loc X.env.scope x := by first | exact Or.inl rfl | exact Or.inr rfl) (hs : swapsWith e (some (.Name x pos')) pos.line X.env = pure false := by rfl)
    (hf : X.fn x = true ∨ X.env.scope.names.lookup x = some .local := by first | exact .inl rfl | exact .inr rfl) : ES X W (.Assign [.Name x pos'] e pos) (sSet i m) :=
  psImp (ps_set hN hi hx h hs hf) fun E σ H ⟨A, ρ, τ, lh, er, S, pr⟩ => ⟨A, ρ, τ, lh, er, S, PSR.thn er pr fun d lh1 ρ1 H1 x s1 S1 r1 pr1 => pr1 ρ1 H1 _ (Stp.refl _ _) S1 ((er.stp s1).set i r1)⟩
/-- as es_set, the store told at once -/
theorem es_setT (i : Nat) {te : TE} (hp : PS X (.Assign [a] e pos) (tAsg te (gName i))) (h : ∀ σ H Q, tE (gx X) W m σ H Q → te σ H Q) : ES X W (.Assign [a] e pos) (sSet i m) :=
  psImp hp fun E σ H ⟨A, ρ, τ, lh, er, S, pr⟩ => h _ _ _ ⟨A, ρ, τ, lh, er, S, PSR.thn er pr fun d lh1 ρ1 H1 x s1 S1 r1 pr1 => pr1 ρ1 H1 _ (Stp.refl _ _) S1 ((er.stp s1).set i r1)⟩
theorem es_asg (h : EE X W e m) (hg : EG X a g) (hs : swapsWithSole [a] e pos.line X.env = pure false := by rfl) (hw : swappedStores [a] e X.env = pure none := by rfl) (h3 : (assignEach [a] X.env).map (·.2) = [assign a X.env] := by rfl) : ES X W (.Assign [a] e pos) (sAsg g m) :=
  psImp (ps_asg h hg hs hw h3) fun E σ H ⟨A, ρ, τ, lh, er, S, pr⟩ => ⟨A, ρ, τ, lh, er, S, PSR.thn er pr fun d lh1 ρ1 H1 x s1 S1 r1 pr1 => by
    cases q : g lh1 d with
    | none => simp only [q] at pr1; exact pr1.elim
    | some bs =>
      simp only [q] at pr1
      exact ⟨A, ρ1, lh1, d, bs, S1, r1, q, fun ws hw => pr1 ρ1 H1 _ (Stp.refl _ _) S1 ((er.stp s1).setAll hw)⟩⟩
theorem es_par {i j : Nat} {x y : Str} {ma : AM} {px py pt : Pos} {kt k2 : Nat} {pt2 : Pos} (hc : X.calm = true) (hN : X.N.Nodup) (h : EA X W [a, b] ma) (hw : swappedStores [.Tuple [.Name x px, .Name y py] kt pt] (.Tuple [a, b] k2 pt2) X.env = pure (some [x, y]) := by rfl)
    (hi : X.N[i]? = some x := by rfl) (hj : X.N[j]? = some y := by rfl) (hij : i ≠ j := by decide) (hx : X.env.scope.names.lookup x = some .local := by rfl) (hy : X.env.scope.names.lookup y = some .local := by rfl)
    (hs : swapsWithSole [.Tuple [.Name x px, .Name y py] kt pt] (.Tuple [a, b] k2 pt2) pos.line X.env = pure false := by rfl) : ES X W (.Assign [.Tuple [.Name x px, .Name y py] kt pt] (.Tuple [a, b] k2 pt2) pos) (sPar [i, j] ma) :=
  psImp (ps_par hc hN hi hj hij hx hy h hw hs) fun E σ H ⟨A, ρ, τ, lh, er, S, pr⟩ => ⟨A, ρ, τ, lh, er, S, PSR.thn er pr fun ds lh1 ρ1 H1 x s1 S1 r1 pr1 => by
    cases r1 with
    | nil => exact pr1.elim
    | cons r1 r2 =>
      cases r2 with
      | nil => exact pr1.elim
      | cons r2 r3 =>
        cases r3 with
        | nil => exact ⟨_, _, rfl, pr1 ρ1 H1 _ (Stp.refl _ _) S1 (((er.stp s1).set i r1).set j r2)⟩
        | cons _ _ =>
          rw [if_neg (by simp)] at pr1
          exact pr1.elim⟩
theorem es_par3 {i j l : Nat} {x y z : Str} {ma : AM} {px py pz pt : Pos} {kt k2 : Nat} {pt2 : Pos} (hc : X.calm = true) (hN : X.N.Nodup) (h : EA X W [a, b, c] ma) (hw : swappedStores [.Tuple [.Name x px, .Name y py, .Name z pz] kt pt] (.Tuple [a, b, c] k2 pt2) X.env = pure (some [x, y, z]) := by rfl)
    (hi : X.N[i]? = some x := by rfl) (hj : X.N[j]? = some y := by rfl) (hl : X.N[l]? = some z := by rfl) (hij : i ≠ j := by decide) (hil : i ≠ l := by decide) (hjl : j ≠ l := by decide) (hx : X.env.scope.names.lookup x = some .local := by rfl) (hy : X.env.scope.names.lookup y = some .local := by rfl) (hz : X.env.scope.names.lookup z = some .local := by rfl)
    (hs : swapsWithSole [.Tuple [.Name x px, .Name y py, .Name z pz] kt pt] (.Tuple [a, b, c] k2 pt2) pos.line X.env = pure false := by rfl) : ES X W (.Assign [.Tuple [.Name x px, .Name y py, .Name z pz] kt pt] (.Tuple [a, b, c] k2 pt2) pos) (sPar [i, j, l] ma) :=
  psImp (ps_par3 hc hN hi hj hl hij hil hjl hx hy hz h hw hs) fun E σ H ⟨A, ρ, τ, lh, er, S, pr⟩ => ⟨A, ρ, τ, lh, er, S, PSR.thn er pr fun ds lh1 ρ1 H1 x s1 S1 r1 pr1 => by
    cases r1 with
    | nil => exact pr1.elim
    | cons r1 r2 =>
      cases r2 with
      | nil => exact pr1.elim
      | cons r2 r3 =>
        cases r3 with
        | nil => exact pr1.elim
        | cons r3 r4 =>
          cases r4 with
          | nil => exact ⟨_, _, _, rfl, pr1 ρ1 H1 _ (Stp.refl _ _) S1 ((((er.stp s1).set i r1).set j r2).set l r3)⟩
          | cons _ _ =>
            rw [if_neg (by simp)] at pr1
            exact pr1.elim⟩
theorem es_put {ps : Pos} (hu : X.A.units + 200 < cLine) (h : EE X W e m) (ho : EE X W o mo) (hi : EE X W i' mi) (hs : swapsWithSole [.Subscript o i' ps] e pos.line X.env = pure false := by rfl) (hw : swappedStores [.Subscript o i' ps] e X.env = pure none := by rfl) (h3 : (assignEach [.Subscript o i' ps] X.env).map (·.2) = [assign (.Subscript o i' ps) X.env] := by rfl)
    (h4 : ∀ (v : Value), assign (.Subscript o i' ps) X.env v = (do
      let ov ← holding [v] (eval o X.env)
      let iv ← holding [v, ov] (eval i' X.env)
      standAt ps
      holding [v, ov, iv] (setItem ov iv v)
      release [v, ov, iv] []) := by intro _; rfl) : ES X W (.Assign [.Subscript o i' ps] e pos) (sPut m mo mi) :=
  psImp (ps_asg h (pg_sub ho hi (set_D hu) h4) hs hw h3) fun E σ H ⟨A, ρ, τ, lh, er, S, pr⟩ => ⟨A, ρ, τ, lh, er, S, PSR.thn er pr fun f lh1 ρ1 H1 x s1 S1 r1 pr1 => ⟨A, ρ1, τ, lh1, er.stp s1, S1, by
    cases q : mo τ lh1 with
    | ok d lh2 =>
      simp only [q] at pr1
      intro ρ2 H2 y s2 S2 r2
      refine ⟨A, ρ2, τ, lh2, (er.stp s1).stp s2, S2, ?_⟩
      cases q2 : mi τ lh2 with
      | ok e' lh3 =>
        simp only [q2] at pr1
        intro ρ3 H3 z s3 S3 r3
        cases q3 : setG lh3 d e' f with
        | none => simp only [q3] at pr1; exact pr1.elim
        | some lh4 =>
          simp only [q3] at pr1
          exact ⟨A, ρ3, lh3, d, e', f, S3, r2.stp s3, r3, (r1.stp s2).stp s3, lh4, q3, fun H4 s4 S4 => pr1 ρ3 H4 σ ((s2.trans s3).trans s4) S4 ((((er.stp s1).stp s2).stp s3).stp s4)⟩
      | exc _ _ => simp only [q2] at pr1; exact pr1.elim
      | stuck => simp only [q2] at pr1; exact pr1.elim
    | exc _ _ => simp only [q] at pr1; exact pr1.elim
    | stuck => simp only [q] at pr1; exact pr1.elim⟩⟩
theorem es_augAdd (i : Nat) {x : Str} (hN : X.N.Nodup) (h : EE X W e m) (hi : X.N[i]? = some x := by rfl) (hx : Loc X.env.scope x := by first | exact Or.inl rfl | exact Or.inr rfl)
    (hf : X.fn x = true ∨ X.env.scope.names.lookup x = some .local := by first | exact .inl rfl | exact .inr rfl) : ES X W (.AugAssign (.Name x pos') .Add e pos) (sAug i (fun _ d e => match d, e with
      | .int a, .int b => .v (.int (a + b))
      | _, _ => .no) m) :=
  psImp (ps_aug hN hi hx h ip_add hf) fun E σ H ⟨A, ρ, τ, lh, er, S, pr⟩ => by
    unfold sAug at pr
    cases q : τ[i]? with
    | none => simp only [q] at pr; exact pr.elim
    | some od =>
      cases od with
      | none => simp only [q] at pr; exact pr.elim
      | some d =>
        simp only [q] at pr
        obtain ⟨v, h1, h2⟩ := er.at_ i d q
        refine ⟨v, h1, A, ρ, τ, lh, er, S, PSR.thn er pr fun e' lh1 ρ1 H1 y s1 S1 r1 pr1 => ?_⟩
        cases d with
        | int a =>
          cases e' with
          | int b =>
            cases h2
            cases r1
            exact ⟨a, b, rfl, rfl, pr1 ρ1 H1 _ (Stp.refl _ _) S1 ((er.stp s1).set i (.int _))⟩
          | _ => exact pr1.elim
        | _ => exact pr1.elim
theorem es_augSub (i : Nat) {x : Str} (hN : X.N.Nodup) (h : EE X W e m) (hi : X.N[i]? = some x := by rfl) (hx : Loc X.env.scope x := by first | exact Or.inl rfl | exact Or.inr rfl)
    (hf : X.fn x = true ∨ X.env.scope.names.lookup x = some .local := by first | exact .inl rfl | exact .inr rfl) : ES X W (.AugAssign (.Name x pos') .Sub e pos) (sAug i (fun _ d e => match d, e with
      | .int a, .int b => .v (.int (a - b))
      | _, _ => .no) m) :=
  psImp (ps_aug hN hi hx h ip_sub hf) fun E σ H ⟨A, ρ, τ, lh, er, S, pr⟩ => by
    unfold sAug at pr
    cases q : τ[i]? with
    | none => simp only [q] at pr; exact pr.elim
    | some od =>
      cases od with
      | none => simp only [q] at pr; exact pr.elim
      | some d =>
        simp only [q] at pr
        obtain ⟨v, h1, h2⟩ := er.at_ i d q
        refine ⟨v, h1, A, ρ, τ, lh, er, S, PSR.thn er pr fun e' lh1 ρ1 H1 y s1 S1 r1 pr1 => ?_⟩
        cases d with
        | int a =>
          cases e' with
          | int b =>
            cases h2
            cases r1
            exact ⟨a, b, rfl, rfl, pr1 ρ1 H1 _ (Stp.refl _ _) S1 ((er.stp s1).set i (.int _))⟩
          | _ => exact pr1.elim
        | _ => exact pr1.elim
end
end Tb

/-! while, what is walked, for, comprehensions. -/
namespace Tb
open PySem PySem.Spec PyProof.Rows L2

def sWhile : Nat → TM → SM → SM
  | 0, _, _ => fun _ _ => .stuck
  | n + 1, c, b => fun τ lh => (c τ lh).toS τ fun x lh => if x = true then (match b τ lh with
    | .nx τ lh => sWhile n c b τ lh
    | .bk τ lh => .nx τ lh
    | .rt d lh => .rt d lh
    | .exc c τ lh => .exc c τ lh
    | .stuck => .stuck) else .nx τ lh
section
variable {X : Cx} {W : WX} {c : Expr} {t : TM} {b : SM} {body : List Stmt} {pos : Pos}
theorem es_while (n : Nat) (hp : PassesOwn (model X.prog X.w) X.A X.env X.xe) (hc : ET X W c t) (hb : ESs X W body b) : ES X W (.While c body [] pos) (sWhile n t b) :=
  psImp (ps_while hp hc hb) fun E σ H ⟨A, ρ, τ, lh, er, S, pr⟩ => by
    refine ⟨fun m σ H => ∃ A ρ τ lh, ER (gx X) A ρ H σ τ ∧ SR (gx X) A ρ H lh ∧ PSR (gx X) W A ρ H (sWhile m t b τ lh) E, ⟨n, A, ρ, τ, lh, er, S, pr⟩, ?_⟩
    rintro m σ H ⟨A, ρ, τ, lh, er, S, pr⟩
    cases m with
    | zero => exact pr.elim
    | succ m =>
      refine ⟨A, ρ, τ, lh, er, S, PSR.thn er pr fun x lh1 ρ1 H1 x' s1 S1 r1 pr1 => ?_⟩
      subst r1
      cases x' with
      | true =>
        refine iteT ⟨fun σ' H' => ∃ A ρ τ lh, ER (gx X) A ρ H' σ' τ ∧ SR (gx X) A ρ H' lh ∧ PSR (gx X) W A ρ H' (sWhile m t b τ lh) E, fun σ' H' h => ⟨m, Nat.lt_succ_self _, h⟩, A, ρ1, τ, lh1, er.stp s1, S1, ?_⟩
        rw [if_pos rfl] at pr1
        cases q : b τ lh1 with
        | nx τ' lh' => simp only [q] at pr1; exact fun ρ2 H2 σ2 s2 S2 e2 => ⟨A, ρ2, τ', lh', e2, S2, PSR.stp s2 pr1⟩
        | bk τ' lh' => simp only [q] at pr1; exact pr1
        | rt d lh' => simp only [q] at pr1; exact pr1
        | exc c τ' lh' => simp only [q] at pr1; exact pr1
        | stuck => simp only [q] at pr1; exact pr1.elim
      | false =>
        rw [if_neg (by simp)] at pr1
        exact iteF (pr1 ρ1 H1 σ (Stp.refl _ _) S1 (er.stp s1))
end

/-! ### other addresses barred, more locations -/
structure Bar (A : Addr → Prop) (ρ : List Addr) (B : Addr → Prop) (ρ' : List Addr) (H : Hp) : Prop where
  out : ∀ a o, H a = some o → ¬ A a → a ∉ ρ → ¬ B a ∧ a ∉ ρ'
  at_ : ∀ (n : Nat) (a : Addr), ρ[n]? = some a → ρ'[n]? = some a
theorem Bar.of {A B : Addr → Prop} {ρ : List Addr} {H : Hp} (h : ∀ a o, H a = some o → B a → A a) : Bar A ρ B ρ H := ⟨fun a o e n m => ⟨fun z => n (h a o e z), m⟩, fun _ _ e => e⟩
section
variable {G : Gx} {A B : Addr → Prop} {ρ ρ' : List Addr} {H : Hp} {lh : LH}
theorem lstAt_bar {a : Addr} {vs : List V} (h : Bar A ρ B ρ' H) (q : LstAt G.K A ρ H a vs) : LstAt G.K B ρ' H a vs := by
  rcases q with ⟨q1, q2, q3⟩ | q | q
  · exact .inl ⟨q1, h.out _ _ q1 q2 q3⟩
  · exact .inr (.inl q)
  · exact .inr (.inr q)
mutual
theorem VR.bar (h : Bar A ρ B ρ' H) : ∀ {v : V} {d : D}, VR G A ρ H v d → VR G B ρ' H v d
  | _, _, .non => .non
  | _, _, .bl b => .bl b
  | _, _, .int b => .int b
  | _, _, .str b => .str b
  | _, _, .tup q r => .tup q (VRs.bar h r)
  | _, _, .lst q h1 h2 r => .lst q (h.out _ _ q h1 h2).1 (h.out _ _ q h1 h2).2 (VRs.bar h r)
  | _, _, .scr q r => .scr (lstAt_bar h q) (VRs.bar h r)
  | _, _, .dic q h1 h2 r => .dic q (h.out _ _ q h1 h2).1 (h.out _ _ q h1 h2).2 (DR.bar h r)
  | _, _, .loc q => .loc (h.at_ _ _ q)
theorem VRs.bar (h : Bar A ρ B ρ' H) : ∀ {vs : List V} {ds : List D}, VRs G A ρ H vs ds → VRs G B ρ' H vs ds
  | _, _, .nil => .nil
  | _, _, .cons q r => .cons (VR.bar h q) (VRs.bar h r)
theorem DR.bar (h : Bar A ρ B ρ' H) : ∀ {xs : List DEnt} {ks us : List D}, DR G A ρ H xs ks us → DR G B ρ' H xs ks us
  | _, _, _, .nil => .nil
  | _, _, _, .cons e q r q2 t => .cons e (VR.bar h q) r (VR.bar h q2) (DR.bar h t)
end
theorem FR.bar (h : Bar A ρ B ρ' H) : ∀ {gs : List (Str × V)} {fs : List (Str × D)}, FR G A ρ H gs fs → FR G B ρ' H gs fs
  | _, _, .nil => .nil
  | _, _, .cons q r => .cons (q.bar h) (FR.bar h r)
theorem OR.bar (h : Bar A ρ B ρ' H) {a : Addr} {o : LO} (q : OR G A ρ H a o) : OR G B ρ' H a o := by
  cases o with
  | lst ds => obtain ⟨vs, h1, h2⟩ := q; exact ⟨vs, h1, h2.bar h⟩
  | dic ks us => obtain ⟨xs, h1, h2⟩ := q; exact ⟨xs, h1, h2.bar h⟩
  | ins c fs => obtain ⟨dx, gs, h1, h2⟩ := q; exact ⟨dx, gs, h1, h2.bar h⟩
theorem SR.bar (h : Bar A ρ B ρ H) (hB : ∀ a, B a → Trk H a) (S : SR G A ρ H lh) : SR G B ρ H lh := ⟨S.len, S.nd, hB, fun n o e => by
  obtain ⟨a, h1, h2⟩ := S.obj n o e
  exact ⟨a, h1, h2.bar h⟩, S.tab⟩
theorem ER.bar (h : Bar A ρ B ρ' H) {σ : L2.St} {τ : Tau} (e : ER G A ρ H σ τ) : ER G B ρ' H σ τ := ⟨e.len, fun i d q => by
  obtain ⟨v, h1, h2⟩ := e.at_ i d q
  exact ⟨v, h1, h2.bar h⟩⟩
end

/-! ### what is walked -/
inductive Wk where
  | st (ds : List D) | dy (n : Nat) | en (n : Nat)
abbrev IM := Tau → LH → Res Wk
def numb (i : Nat) : List D → List D
  | d :: ds => .tup [.int (i : Nat), d] :: numb (i + 1) ds
  | [] => []
theorem numb_get : ∀ (ds : List D) (k i : Nat), (numb k ds)[i]? = (ds[i]?).map fun d => D.tup [.int ((k + i : Nat) : Int), d]
  | [], _, _ => rfl
  | d :: ds, k, 0 => by simp [numb]
  | d :: ds, k, i + 1 => by
    have := numb_get ds (k + 1) i
    simp only [numb, List.getElem?_cons_succ]
    rw [this]
    have e : k + 1 + i = k + (i + 1) := by omega
    rw [e]
theorem numb_length : ∀ (ds : List D) (k : Nat), (numb k ds).length = ds.length
  | [], _ => rfl
  | d :: ds, k => by simp [numb, numb_length ds]
def Wk.gt : Wk → LH → Nat → Option (Option D)
  | .st ds, _, i => some ds[i]?
  | .dy n, lh, i => (lstAt lh n).map fun xs => xs[i]?
  | .en n, lh, i => (lstAt lh n).map fun xs => (xs[i]?).map fun d => D.tup [.int ((i : Nat) : Int), d]
def ItOk (G : Gx) (A : Addr → Prop) (ρ : List Addr) (H : Hp) (J : It) (it : Wk) : Prop := ∀ B ρ2 H2 lh2 i, Bar A ρ B ρ H → Stp ρ H ρ2 H2 → SR G B ρ2 H2 lh2 →
  (∀ d, it.gt lh2 i = some (some d) → J.go i H2 ∧ ∀ x H3, J.yld i H2 x H3 → Stp ρ2 H2 ρ2 H3 ∧ SR G B ρ2 H3 lh2 ∧ VR G B ρ2 H3 x d) ∧ (it.gt lh2 i = some none → J.stop i H2)
def tI (G : Gx) (W : WX) (m : IM) : TI := fun σ H R => ∃ A ρ τ lh, ER G A ρ H σ τ ∧ SR G A ρ H lh ∧ PRg G A ρ H (fun ρ' H' J it => ItOk G A ρ' H' J it) (m τ lh) (wAt G W σ) R
abbrev EI (X : Cx) (W : WX) (tg iter : Expr) (m : IM) : Prop := PI X tg iter (tI (gx X) W m)
theorem piImp {X : Cx} {tg e : Expr} {t t' : TI} (h : PI X tg e t) (i : ∀ σ H Q, t' σ H Q → t σ H Q) : PI X tg e t' := ⟨fun pins s σ H Q I hw => h.run pins s σ H Q I (i σ H Q hw)⟩
theorem piOr {X : Cx} {tg e : Expr} {t t' : TI} (h : PI X tg e t) (h' : PI X tg e t') : PI X tg e (fun σ H R => t σ H R ∨ t' σ H R) := ⟨fun pins s σ H Q I hw => hw.elim (h.run pins s σ H Q I) (h'.run pins s σ H Q I)⟩
section
variable {G : Gx} {A : Addr → Prop} {ρ ρ2 : List Addr} {H H2 : Hp} {lh lh2 : LH} {a : Addr} {vs : List V} {ds : List D}
theorem sqL_stp {K : PySem.W.Frag} (s : Stp ρ H ρ2 H2) (h : LstAt K A ρ H a vs) : SqL K H2 a vs := (lstAt_stp s h).sq
theorem seq_unique {K : PySem.W.Frag} {ws : List V} (h : SqL K H a vs) (h' : SqL K H a ws) (e : H a = some (.lst vs)) : SqL K H a ws := h'
end
/-- a list that stands still, walked -/
theorem itOk_list {G : Gx} {A : Addr → Prop} {ρ : List Addr} {H : Hp} {a : Addr} {vs : List V} {ds : List D} (q : LstAt G.K A ρ H a vs) (r : VRs G A ρ H vs ds) : ItOk G A ρ H (Itl G.K a) (.st ds) := fun B ρ2 H2 lh2 i hB s S => by
  have q2 := (lstAt_stp s (lstAt_bar hB q)).sq
  have r2 := (r.bar hB).stp s
  refine ⟨fun d hd => ?_, fun hd => ?_⟩
  · have hd' : ds[i]? = some d := by simpa [Wk.gt] using hd
    obtain ⟨v, h1, h2⟩ := r2.get hd'
    refine ⟨⟨vs, v, q2, h1⟩, fun x H3 hy => ?_⟩
    obtain ⟨e, hx⟩ := hy
    subst e
    have := hx vs q2
    rw [h1] at this
    cases this
    exact ⟨Stp.refl _ _, S, h2⟩
  · have hd' : ds.length ≤ i := by simpa [Wk.gt] using hd
    exact ⟨vs, q2, by rw [r2.length]; exact hd'⟩
theorem itOk_tup {G : Gx} {A : Addr → Prop} {ρ : List Addr} {H : Hp} {a : Addr} {vs : List V} {ds : List D} (q : SqT G.K H a vs) (r : VRs G A ρ H vs ds) : ItOk G A ρ H (Itt G.K a) (.st ds) := fun B ρ2 H2 lh2 i hB s S => by
  have q2 := sqT_stp s q
  have r2 := (r.bar hB).stp s
  refine ⟨fun d hd => ?_, fun hd => ?_⟩
  · have hd' : ds[i]? = some d := by simpa [Wk.gt] using hd
    obtain ⟨v, h1, h2⟩ := r2.get hd'
    refine ⟨⟨vs, v, q2, h1⟩, fun x H3 hy => ?_⟩
    obtain ⟨e, hx⟩ := hy
    subst e
    have := hx vs q2
    rw [h1] at this
    cases this
    exact ⟨Stp.refl _ _, S, h2⟩
  · have hd' : ds.length ≤ i := by simpa [Wk.gt] using hd
    exact ⟨vs, q2, by rw [r2.length]; exact hd'⟩
theorem itOk_loc {G : Gx} {A : Addr → Prop} {ρ : List Addr} {H : Hp} {a : Addr} {n : Nat} (q : ρ[n]? = some a) : ItOk G A ρ H (Itl G.K a) (.dy n) := fun B ρ2 H2 lh2 i hB s S => by
  have q2 := s.get q
  have key : ∀ xs, lstAt lh2 n = some xs → ∃ vs, H2 a = some (.lst vs) ∧ VRs G B ρ2 H2 vs xs := fun xs hx => by
    obtain ⟨b, vs, h1, h2, h3⟩ := S.lst hx
    rw [q2] at h1
    cases h1
    exact ⟨vs, h2, h3⟩
  refine ⟨fun d hd => ?_, fun hd => ?_⟩
  · cases e : lstAt lh2 n with
    | none => simp [Wk.gt, e] at hd
    | some xs =>
      have hd' : xs[i]? = some d := by simpa [Wk.gt, e] using hd
      obtain ⟨vs, h2, h3⟩ := key xs e
      obtain ⟨v, k1, k2⟩ := h3.get hd'
      refine ⟨⟨vs, v, SqL.of h2, k1⟩, fun x H3 hy => ?_⟩
      obtain ⟨e3, hx⟩ := hy
      subst e3
      have := hx vs (SqL.of h2)
      rw [k1] at this
      cases this
      exact ⟨Stp.refl _ _, S, k2⟩
  · cases e : lstAt lh2 n with
    | none => simp [Wk.gt, e] at hd
    | some xs =>
      have hd' : xs.length ≤ i := by simpa [Wk.gt, e] using hd
      obtain ⟨vs, h2, h3⟩ := key xs e
      exact ⟨vs, SqL.of h2, by rw [h3.length]; exact hd'⟩
/-- for x in e, e a list or a tuple -/
def iOf (m : EM) : IM := fun τ lh => (m τ lh).bind fun d lh => match d with
  | .loc n => if (lstAt lh n).isSome = true then .ok (.dy n) lh else .stuck
  | d => (match asS lh d with
    | some ds => .ok (.st ds) lh
    | none => .stuck)
def intsD (lo : Int) (n : Nat) : List D := (List.range n).map fun i => D.int (lo + (i : Nat))
theorem intsD_get (lo : Int) (n i : Nat) : (intsD lo n)[i]? = if i < n then some (.int (lo + (i : Nat))) else none := by
  unfold intsD
  by_cases h : i < n
  · rw [List.getElem?_map, List.getElem?_range h, if_pos h]
    rfl
  · rw [if_neg h, List.getElem?_eq_none (by simp; omega)]
def iRng (m : EM) : IM := fun τ lh => (m τ lh).bind fun d lh => match d with
  | .int j => if -(2 ^ 62) ≤ j ∧ j < 2 ^ 62 then .ok (.st (intsD 0 j.toNat)) lh else .stuck
  | _ => .stuck
def iRng3 (m1 m2 m3 : EM) : IM := fun τ lh => (m1 τ lh).bind fun a lh => (m2 τ lh).bind fun b lh => (m3 τ lh).bind fun c lh => match a, b, c with
  | .int i, .int j, .int k => if -(2 ^ 62) ≤ i ∧ i < 2 ^ 62 ∧ -(2 ^ 62) ≤ j ∧ j < 2 ^ 62 ∧ k = -1 then .ok (.st ((List.range (i - j).toNat).map fun n => D.int (i - (n : Nat)))) lh else .stuck
  | _, _, _ => .stuck
def iEnu (m : EM) : IM := fun τ lh => (m τ lh).bind fun d lh => match d with
  | .loc n => if (lstAt lh n).isSome = true then .ok (.en n) lh else .stuck
  | d => (match asL lh d with
    | some ds => .ok (.st (numb 0 ds)) lh
    | none => .stuck)
/-- a list or a tuple walked -/
def iSeq (K : PySem.W.Frag) (tl : TE) : TI := fun σ H R => tl σ H fun x H1 => ∃ a, x = .ref a ∧ (((∃ xs, SqL K H1 a xs) ∧ R (Itl K a) H1) ∨ ((∃ xs, SqT K H1 a xs) ∧ R (Itt K a) H1))
theorem pi_seq {X : Cx} {tg l : Expr} {tl : TE} (hl : PE X l tl) : PI X tg l (iSeq X.K tl) := by
  refine ⟨fun pins s σ H R I h => ?_⟩
  refine thn (hl.run pins s σ H _ I h) fun v s1 ⟨x, H1, I1, r1, q1⟩ => ?_
  obtain ⟨a, e, q1⟩ := q1
  subst e
  cases r1
  have fp : ∀ b ∈ [s1.heap.objs.size], FpOk X pins H1 b := fun b hb => by
    have e : b = s1.heap.objs.size := by simpa using hb
    subst e
    exact I1.fpOk (Nat.le_refl _) (I1.hok.fresh (Nat.le_refl _))
  rcases q1 with ⟨⟨xs, hq⟩, q⟩ | ⟨⟨xs, hq⟩, q⟩
  · obtain ⟨its, rv, p, hz⟩ := I1.list hq
    refine wpAny_pyIter_list p.isList ?_
    exact ⟨s1.heap.objs.size, [s1.heap.objs.size], _, _, H1, rfl, I1.kept (t' := s1.toks) fun b o e => Heap.get?_push_of_some _ e, turn_list a _, ⟨_, Heap.get?_push_size _ rfl, rfl, rfl⟩, fp, q⟩
  · obtain ⟨its, rv, p, hz⟩ := I1.tuple hq
    refine wpAny_pyIter_tuple (show s1.heap.IsTuple a its.toArray from p) ?_
    exact ⟨s1.heap.objs.size, [s1.heap.objs.size], _, _, H1, rfl, I1.kept (t' := s1.toks) fun b o e => Heap.get?_push_of_some _ e, turn_tuple a _, ⟨_, Heap.get?_push_size _ rfl, rfl, rfl⟩, fp, q⟩
/-- a list that is ours or not: how it is walked -/
theorem itOk_asL {G : Gx} {A : Addr → Prop} {ρ : List Addr} {H : Hp} {lh : LH} {v : V} {d : D} {ds : List D} (r : VR G A ρ H v d) (hn : ∀ n, d ≠ .loc n) (h : asL lh d = some ds) : ∃ a vs, v = .ref a ∧ LstAt G.K A ρ H a vs ∧ VRs G A ρ H vs ds := by
  cases r with
  | @lst a vs _ q h1 h2 r => cases h; exact ⟨a, vs, rfl, .inl ⟨q, h1, h2⟩, r⟩
  | @scr a vs _ q r => cases h; exact ⟨a, vs, rfl, q, r⟩
  | @loc n a q => exact absurd rfl (hn n)
  | _ => cases h
theorem itOk_enum {G : Gx} {A : Addr → Prop} {ρ : List Addr} {H : Hp} {a : Addr} {vs : List V} {ds : List D} (q : LstAt G.K A ρ H a vs) (r : VRs G A ρ H vs ds) : ItOk G A ρ H (Ite G.K a) (.st (numb 0 ds)) := fun B ρ2 H2 lh2 i hB s S => by
  have q2 := (lstAt_stp s (lstAt_bar hB q)).sq
  have r2 := (r.bar hB).stp s
  refine ⟨fun d hd => ?_, fun hd => ?_⟩
  · have hd' : (ds[i]?).map (fun d => D.tup [.int ((0 + i : Nat) : Int), d]) = some d := by
      rw [← numb_get]
      simpa [Wk.gt] using hd
    cases e : ds[i]? with
    | none => rw [e] at hd'; cases hd'
    | some z =>
      rw [e] at hd'
      cases hd'
      obtain ⟨v, h1, h2⟩ := r2.get e
      refine ⟨⟨vs, v, q2, h1⟩, fun x H3 ⟨T, y, ex, hT, eH, hy⟩ => ?_⟩
      subst ex eH
      have := hy vs q2
      rw [h1] at this
      cases this
      refine ⟨stp_new hT, S.new hT, .tup (SqT.of upd_same) (.cons ?_ (.cons (h2.stp (stp_new hT)) .nil))⟩
      rw [Nat.zero_add]
      exact .int _
  · have hd' : (numb 0 ds).length ≤ i := by simpa [Wk.gt] using hd
    rw [numb_length] at hd'
    exact ⟨vs, q2, by rw [r2.length]; exact hd'⟩
theorem itOk_enumLoc {G : Gx} {A : Addr → Prop} {ρ : List Addr} {H : Hp} {a : Addr} {n : Nat} (q : ρ[n]? = some a) : ItOk G A ρ H (Ite G.K a) (.en n) := fun B ρ2 H2 lh2 i hB s S => by
  have q2 := s.get q
  have key : ∀ xs, lstAt lh2 n = some xs → ∃ vs, H2 a = some (.lst vs) ∧ VRs G B ρ2 H2 vs xs := fun xs hx => by
    obtain ⟨b, vs, h1, h2, h3⟩ := S.lst hx
    rw [q2] at h1
    cases h1
    exact ⟨vs, h2, h3⟩
  refine ⟨fun d hd => ?_, fun hd => ?_⟩
  · cases e : lstAt lh2 n with
    | none => simp [Wk.gt, e] at hd
    | some xs =>
      obtain ⟨vs, h2, h3⟩ := key xs e
      cases e2 : xs[i]? with
      | none => simp [Wk.gt, e, e2] at hd
      | some z =>
        have hd' : D.tup [.int ((i : Nat) : Int), z] = d := by simpa [Wk.gt, e, e2] using hd
        subst hd'
        obtain ⟨v, k1, k2⟩ := h3.get e2
        refine ⟨⟨vs, v, SqL.of h2, k1⟩, fun x H3 ⟨T, y, ex, hT, eH, hy⟩ => ?_⟩
        subst ex eH
        have := hy vs (SqL.of h2)
        rw [k1] at this
        cases this
        exact ⟨stp_new hT, S.new hT, .tup (SqT.of upd_same) (.cons (.int _) (.cons (k2.stp (stp_new hT)) .nil))⟩
  · cases e : lstAt lh2 n with
    | none => simp [Wk.gt, e] at hd
    | some xs =>
      have hd' : xs.length ≤ i := by simpa [Wk.gt, e] using hd
      obtain ⟨vs, h2, h3⟩ := key xs e
      exact ⟨vs, SqL.of h2, by rw [h3.length]; exact hd'⟩
theorem itOk_rng {G : Gx} {A : Addr → Prop} {ρ : List Addr} {H : Hp} (lo : Int) (n : Nat) : ItOk G A ρ H (Itr lo n) (.st (intsD lo n)) := fun B ρ2 H2 lh2 i hB s S => by
  refine ⟨fun d hd => ?_, fun hd => ?_⟩
  · have hd' : (intsD lo n)[i]? = some d := by simpa [Wk.gt] using hd
    rw [intsD_get] at hd'
    split at hd'
    · rename_i hl
      cases hd'
      refine ⟨hl, fun x H3 ⟨eH, ex⟩ => ?_⟩
      subst eH ex
      exact ⟨Stp.refl _ _, S, .int _⟩
    · cases hd'
  · have hd' : (intsD lo n)[i]? = none := by simpa [Wk.gt] using hd
    rw [intsD_get] at hd'
    split at hd'
    · cases hd'
    · rename_i hl
      exact Nat.le_of_not_lt hl
theorem itOk_rngC {G : Gx} {A : Addr → Prop} {ρ : List Addr} {H : Hp} (lo : Int) (n : Nat) : ItOk G A ρ H (Itc lo (-1) n) (.st ((List.range n).map fun k => D.int (lo - (k : Nat)))) := fun B ρ2 H2 lh2 i hB s S => by
  refine ⟨fun d hd => ?_, fun hd => ?_⟩
  · have hd' : ((List.range n).map fun k => D.int (lo - (k : Nat)))[i]? = some d := by simpa only [Wk.gt, Option.some.injEq] using hd
    by_cases hl : i < n
    · rw [List.getElem?_map, List.getElem?_range hl] at hd'
      cases hd'
      refine ⟨hl, fun x H3 ⟨eH, ex⟩ => ?_⟩
      subst eH ex
      refine ⟨Stp.refl _ _, S, ?_⟩
      have e : lo + (i : Int) * -1 = lo - (i : Nat) := by omega
      rw [e]
      exact .int _
    · rw [List.getElem?_eq_none (by simp; omega)] at hd'
      cases hd'
  · have hd' : ((List.range n).map fun k => D.int (lo - (k : Nat)))[i]? = none := by simpa only [Wk.gt, Option.some.injEq] using hd
    by_cases hl : i < n
    · rw [List.getElem?_map, List.getElem?_range hl] at hd'
      cases hd'
    · exact Nat.le_of_not_lt hl
section
variable {X : Cx} {W : WX} {e e' e'' tg : Expr} {m m2 m3 : EM} {pos p : Pos}
theorem ei_of (h : EE X W e m) : EI X W tg e (iOf m) :=
  piImp (pi_seq h) fun σ H R ⟨A, ρ, τ, lh, er, S, pr⟩ => ⟨A, ρ, τ, lh, er, S, PRg.thn pr fun d lh1 ρ1 H1 x s1 S1 r1 pr1 => by
    split at pr1
    · rename_i n
      cases r1 with
      | @loc n a q =>
        cases e0 : lstAt lh1 n with
        | none => rw [e0] at pr1; exact pr1.elim
        | some xs =>
          rw [e0] at pr1
          obtain ⟨b, vs, h1, h2, h3⟩ := S1.lst e0
          rw [q] at h1
          cases h1
          exact ⟨a, rfl, .inl ⟨⟨vs, SqL.of h2⟩, pr1 ρ1 H1 _ (Stp.refl _ _) S1 (itOk_loc q)⟩⟩
    · rename_i hn
      split at pr1
      · rename_i ds h1
        cases r1 with
        | @tup a vs _ q r => cases h1; exact ⟨a, rfl, .inr ⟨⟨vs, q⟩, pr1 ρ1 H1 _ (Stp.refl _ _) S1 (itOk_tup q r)⟩⟩
        | @lst a vs _ q k1 k2 r => cases h1; exact ⟨a, rfl, .inl ⟨⟨vs, SqL.of q⟩, pr1 ρ1 H1 _ (Stp.refl _ _) S1 (itOk_list (.inl ⟨q, k1, k2⟩) r)⟩⟩
        | @scr a vs _ q r => cases h1; exact ⟨a, rfl, .inl ⟨⟨vs, q.sq⟩, pr1 ρ1 H1 _ (Stp.refl _ _) S1 (itOk_list q r)⟩⟩
        | @loc n a q => exact (hn n rfl).elim
        | _ => cases h1
      · exact pr1.elim⟩
theorem ei_rng (h : EE X W e m) (hm : X.mg "range" = none) (hg : Gl X "range" := by rfl) (hs : starEach [e] X.env = [(false, eval e X.env)] := by rfl) : EI X W tg (.Call (.Name "range" p) [e] [] pos) (iRng m) :=
  piImp (pi_range1 hg hm (pa_cons h pa_nil hs) hs) fun σ H R ⟨A, ρ, τ, lh, er, S, pr⟩ => ⟨A, ρ, τ, lh, er, S, PRg.thn pr fun d lh1 ρ1 H1 x s1 S1 r1 pr1 => by
    cases r1 with
    | int j =>
      simp only at pr1
      split at pr1
      · rename_i hj
        exact ⟨j, rfl, hj.1, hj.2, pr1 ρ1 H1 _ (Stp.refl _ _) S1 (itOk_rng 0 j.toNat)⟩
      · exact pr1.elim
    | _ => exact pr1.elim⟩
theorem ei_enu {elts : List Expr} {kk : Nat} {tpos : Pos} (h : EE X W e m) (hm : X.mg "enumerate" = none) (hg : Gl X "enumerate" := by rfl) (hs : starEach [e] X.env = [(false, eval e X.env)] := by rfl) : EI X W (.Tuple elts kk tpos) (.Call (.Name "enumerate" p) [e] [] pos) (iEnu m) :=
  piImp (pi_enum hg hm (pa_cons h pa_nil hs) hs) fun σ H R ⟨A, ρ, τ, lh, er, S, pr⟩ => ⟨A, ρ, τ, lh, er, S, PRg.thn pr fun d lh1 ρ1 H1 x s1 S1 r1 pr1 => by
    split at pr1
    · rename_i n
      cases r1 with
      | @loc n a q =>
        cases e0 : lstAt lh1 n with
        | none => rw [e0] at pr1; exact pr1.elim
        | some xs =>
          rw [e0] at pr1
          obtain ⟨b, vs, h1, h2, h3⟩ := S1.lst e0
          rw [q] at h1
          cases h1
          exact ⟨a, vs, rfl, SqL.of h2, pr1 ρ1 H1 _ (Stp.refl _ _) S1 (itOk_enumLoc q)⟩
    · rename_i hn
      split at pr1
      · rename_i ds h1
        obtain ⟨a, vs, rfl, q, r⟩ := itOk_asL r1 (fun n z => hn n z) h1
        exact ⟨a, vs, rfl, q.sq, pr1 ρ1 H1 _ (Stp.refl _ _) S1 (itOk_enum q r)⟩
      · exact pr1.elim⟩
end
end Tb

/-! for, list comprehensions. -/
namespace Tb
open PySem PySem.Spec PyProof.Rows L2

/-! ### for -/
/-- one turn -/
def stepG (g : GB) (b : SM) (d : D) (τ : Tau) (lh : LH) (k : Tau → LH → SRes) : SRes := match g lh d with
  | some bs => (match b (setAll τ (bs.map (·.1)) (bs.map (·.2))) lh with
    | .nx τ lh => k τ lh
    | .bk τ lh => .nx τ lh
    | .rt d lh => .rt d lh
    | .exc c τ lh => .exc c τ lh
    | .stuck => .stuck)
  | none => .stuck
def sForL (g : GB) (b : SM) : List D → SM
  | [] => fun τ lh => .nx τ lh
  | d :: ds => fun τ lh => stepG g b d τ lh (sForL g b ds)
def sForN (it : Wk) (g : GB) (b : SM) : Nat → Nat → SM
  | 0, _ => fun _ _ => .stuck
  | m + 1, i => fun τ lh => match it.gt lh i with
    | some none => .nx τ lh
    | some (some d) => stepG g b d τ lh (sForN it g b m (i + 1))
    | none => .stuck
theorem sForN_st (ds : List D) (g : GB) (b : SM) : ∀ (m i : Nat), ds.length < m + i → i ≤ ds.length → sForN (.st ds) g b m i = sForL g b (ds.drop i)
  | 0, i, h, h2 => by omega
  | m + 1, i, h, h2 => by
    funext τ lh
    unfold sForN
    by_cases hi : i < ds.length
    · have e : ds[i]? = some ds[i] := List.getElem?_eq_getElem hi
      simp only [Wk.gt, e]
      rw [List.drop_eq_getElem_cons hi, sForN_st ds g b m (i + 1) (by omega) (by omega)]
      rfl
    · simp only [Wk.gt, List.getElem?_eq_none (Nat.le_of_not_lt hi)]
      rw [List.drop_eq_nil_of_le (Nat.le_of_not_lt hi)]
      rfl
/-- how many turns a walk of a list of ours is given: its items now, and n more -/
def Wk.len (lh : LH) : Wk → Nat
  | .st ds => ds.length
  | .dy n => (lstAt lh n).elim 0 List.length
  | .en n => (lstAt lh n).elim 0 List.length
def sForW (n : Nat) (g : GB) (b : SM) (it : Wk) : SM := match it with
  | .st ds => sForL g b ds
  | .dy a => fun τ lh => sForN (.dy a) g b (n + Wk.len lh (.dy a) + 1) 0 τ lh
  | .en a => fun τ lh => sForN (.en a) g b (n + Wk.len lh (.en a) + 1) 0 τ lh
def sFor (n : Nat) (m : IM) (g : GB) (b : SM) : SM := fun τ lh => (m τ lh).toS τ fun it lh => sForW n g b it τ lh
theorem sForW_N (n : Nat) (g : GB) (b : SM) (it : Wk) (τ : Tau) (lh : LH) : ∃ k, sForW n g b it τ lh = sForN it g b k 0 τ lh := by
  cases it with
  | st ds => exact ⟨ds.length + 1, by rw [sForN_st ds g b _ 0 (by omega) (by omega)]; rfl⟩
  | dy a => exact ⟨_, rfl⟩
  | en a => exact ⟨_, rfl⟩
section
variable {X : Cx} {W : WX} {tg iter : Expr} {mi : IM} {g : GB} {b : SM} {body : List Stmt} {pos : Pos}
theorem es_for (n : Nat) (hp : PassesOwn (model X.prog X.w) X.A X.env X.xe) (hc : X.calm = true) (hi : EI X W tg iter mi) (hg : EG X tg g) (hb : ESs X W body b)
    (hs : ∀ x, foldedSetIterable iter X.env x = pure x := by intro _; rfl) : ES X W (.For tg iter body [] pos) (sFor n mi g b) :=
  psImp (ps_for hp hc hi hg hb hs) fun E σ H ⟨A, ρ, τ, lh, er, S, pr⟩ => by
    refine ⟨A, ρ, τ, lh, er, S, PSR.thn er pr fun it lh1 ρ1 H1 J s1 S1 ok pr1 => ?_⟩
    obtain ⟨k, ek⟩ := sForW_N n g b it τ lh1
    rw [ek] at pr1
    refine ⟨fun i m σ H => ∃ ρ τ lh, Stp ρ1 H1 ρ H ∧ ER (gx X) A ρ H σ τ ∧ SR (gx X) A ρ H lh ∧ PSR (gx X) W A ρ H (sForN it g b m i τ lh) E, ⟨k, ρ1, τ, lh1, Stp.refl _ _, er.stp s1, S1, pr1⟩, ?_⟩
    rintro i m σ H ⟨ρ, τ, lh, st, er, S, pr⟩
    cases m with
    | zero => exact pr.elim
    | succ m =>
      unfold sForN at pr
      obtain ⟨ok1, ok2⟩ := ok A ρ H lh i (Bar.of fun _ _ _ z => z) st S
      cases q : it.gt lh i with
      | none => simp only [q] at pr; exact pr.elim
      | some od =>
        cases od with
        | none =>
          simp only [q] at pr
          exact .inl ⟨ok2 q, pr ρ H σ (Stp.refl _ _) S er⟩
        | some d =>
          simp only [q] at pr
          obtain ⟨go, yl⟩ := ok1 d q
          refine .inr ⟨go, fun σ' H' => ∃ ρ τ lh, Stp ρ1 H1 ρ H' ∧ ER (gx X) A ρ H' σ' τ ∧ SR (gx X) A ρ H' lh ∧ PSR (gx X) W A ρ H' (sForN it g b m (i + 1) τ lh) E, fun σ' H' h => ⟨m, Nat.lt_succ_self _, h⟩, fun x H3 hy => ?_⟩
          obtain ⟨t1, t2, t3⟩ := yl x H3 hy
          unfold stepG at pr
          cases qg : g lh d with
          | none => simp only [qg] at pr; exact pr.elim
          | some bs =>
            simp only [qg] at pr
            refine ⟨A, ρ, lh, d, bs, t2, t3, qg, fun ws hw => ⟨A, ρ, _, lh, (er.stp t1).setAll hw, t2, ?_⟩⟩
            have st3 := st.trans t1
            cases qb : b (setAll τ (bs.map (·.1)) (bs.map (·.2))) lh with
            | nx τ' lh' => simp only [qb] at pr; exact fun ρ4 H4 σ4 s4 S4 e4 => ⟨ρ4, τ', lh', st3.trans s4, e4, S4, PSR.stp (t1.trans s4) pr⟩
            | bk τ' lh' => simp only [qb] at pr; exact PSR.stp (r := .nx τ' lh') t1 pr
            | rt d lh' => simp only [qb] at pr; exact PSR.stp (r := .rt d lh') t1 pr
            | exc c τ' lh' => simp only [qb] at pr; exact PSR.stp (r := .exc c τ' lh') t1 pr
            | stuck => simp only [qb] at pr; exact pr.elim
end

/-! ### comprehensions -/
def wipeD (τ : Tau) : List Nat → Tau
  | [] => τ
  | v :: vs => (wipeD τ vs).set v none
theorem wipeD_get : ∀ (vs : List Nat) (τ : Tau) (i : Nat), (wipeD τ vs)[i]? = if i ∈ vs then (τ[i]?).map (fun _ => none) else τ[i]?
  | [], τ, i => by simp [wipeD]
  | v :: vs, τ, i => by
    unfold wipeD
    rw [List.getElem?_set]
    have ih := wipeD_get vs τ i
    have hl : (wipeD τ vs).length = τ.length := by
      clear ih
      induction vs with
      | nil => rfl
      | cons w vs ih => unfold wipeD; rw [List.length_set, ih]
    by_cases hv : v = i
    · subst hv
      rw [if_pos rfl, hl]
      by_cases hl2 : v < τ.length
      · simp [hl2]
      · simp [hl2]
    · rw [if_neg hv, ih]
      have : (i ∈ v :: vs) ↔ i ∈ vs := by simp [Ne.symm hv]
      simp only [this]
theorem wipe_get : ∀ (vs : List Nat) (τ : L2.St) (i : Nat), (wipe τ vs)[i]? = if i ∈ vs then (τ[i]?).map (fun _ => none) else τ[i]?
  | [], τ, i => by simp [wipe]
  | v :: vs, τ, i => by
    unfold wipe
    rw [List.getElem?_set]
    have ih := wipe_get vs τ i
    have hl : (wipe τ vs).length = τ.length := wipe_length τ vs
    by_cases hv : v = i
    · subst hv
      rw [if_pos rfl, hl]
      by_cases hl2 : v < τ.length
      · simp [hl2]
      · simp [hl2]
    · rw [if_neg hv, ih]
      have : (i ∈ v :: vs) ↔ i ∈ vs := by simp [Ne.symm hv]
      simp only [this]
theorem setAll_get {α : Type} : ∀ {is : List Nat} {ws : List α} {σ : List (Option α)} {i : Nat}, i ∉ is → (setAll σ is ws)[i]? = σ[i]?
  | [], _, _, _, _ => by unfold setAll; rfl
  | _ :: _, [], _, _, _ => by unfold setAll; rfl
  | j :: is, w :: ws, σ, i, h => by
    unfold setAll
    rw [setAll_get (is := is) (by simp at h; exact h.2), List.getElem?_set_ne (by simp at h; exact Ne.symm h.1)]
theorem setAll_length {α : Type} : ∀ {is : List Nat} {ws : List α} {σ : List (Option α)}, (setAll σ is ws).length = σ.length
  | [], _, _ => by unfold setAll; rfl
  | _ :: _, [], _ => by unfold setAll; rfl
  | j :: is, w :: ws, σ => by
    unfold setAll
    rw [setAll_length, List.length_set]
theorem wipe_setAll {σ : L2.St} {vs is : List Nat} {ws : List V} (h : ∀ i ∈ is, i ∈ vs) : wipe (setAll (wipe σ vs) is ws) vs = wipe σ vs := by
  apply List.ext_getElem?
  intro i
  rw [wipe_get]
  by_cases hi : i ∈ vs
  · rw [if_pos hi]
    have e1 : (wipe σ vs)[i]? = (σ[i]?).map (fun _ => none) := by rw [wipe_get, if_pos hi]
    by_cases hl : i < σ.length
    · have l1 : i < (setAll (wipe σ vs) is ws).length := by rw [setAll_length, wipe_length]; exact hl
      rw [List.getElem?_eq_getElem l1, e1, List.getElem?_eq_getElem hl]
      rfl
    · rw [List.getElem?_eq_none (by rw [setAll_length, wipe_length]; omega), e1, List.getElem?_eq_none (by omega)]
      try rfl
  · rw [if_neg hi, setAll_get (fun z => hi (h i z))]
theorem ER.wipe {G : Gx} {A : Addr → Prop} {ρ : List Addr} {H : Hp} {σ : L2.St} {τ : Tau} (e : ER G A ρ H σ τ) (vs : List Nat) : ER G A ρ H (L2.wipe σ vs) (wipeD τ vs) := by
  refine ⟨?_, fun i d h => ?_⟩
  · rw [wipe_length]
    have : (wipeD τ vs).length = τ.length := by
      induction vs with
      | nil => rfl
      | cons w vs ih => unfold wipeD; rw [List.length_set, ih]
    rw [this]
    exact e.len
  · rw [wipeD_get] at h
    rw [wipe_get]
    by_cases hi : i ∈ vs
    · rw [if_pos hi] at h
      cases q : τ[i]? with
      | none => rw [q] at h; cases h
      | some z => rw [q] at h; cases h
    · rw [if_neg hi] at h ⊢
      exact e.at_ i d h

/-- A with D -/
def ins (A : Addr → Prop) (d : Addr) : Addr → Prop := fun a => A a ∨ a = d
section
variable {G : Gx} {A B : Addr → Prop} {ρ : List Addr} {H : Hp} {lh : LH} {dd : Addr}
theorem Stp.barNew {ρ1 : List Addr} (hd : H dd = none) : Bar A ρ (ins A dd) ρ H := Bar.of fun a o e z => z.elim id fun z => by rw [z, hd] at e; cases e
/-- a new list, barred -/
theorem SR.newBar {o : HO} (S : SR G A ρ H lh) (hd : H dd = none) (ho : ∀ ps, o ≠ .tbl ps := by intro _ z; cases z) : SR G (ins A dd) ρ (upd H dd o) lh := by
  refine ⟨S.len, S.nd, fun a z => ?_, fun n u e => ?_, S.tab.ext fun b u e => by rw [upd_ne (ne_of_none e hd)]; exact e⟩
  · rcases z with z | z
    · obtain ⟨u, e, k⟩ := S.av a z
      exact ⟨u, by rw [upd_ne (ne_of_none e hd)]; exact e, k⟩
    · subst z; exact ⟨_, upd_same, ho⟩
  · obtain ⟨a, h1, h2⟩ := S.obj n u e
    exact ⟨a, h1, (h2.bar (Stp.barNew (ρ1 := ρ) hd)).stp (stp_new hd) fun v z _ => by rw [upd_ne (ne_of_none z hd)]; exact z⟩
/-- the barred list at dd changes: nothing told sees it -/
theorem tupD {a : Addr} {vs ws : List V} {o : HO} (hd : H dd = some (.lst ws)) (q : SqT G.K H a vs) : SqT G.K (upd H dd o) a vs := by
  rcases q with (q | ⟨u, q⟩) | q
  · exact .inl (.inl (by rw [upd_ne (fun z => by rw [z, hd] at q; cases q)]; exact q))
  · exact .inl (.inr ⟨u, by rw [upd_ne (fun z => by rw [z, hd] at q; cases q)]; exact q⟩)
  · exact .inr q
theorem lstAtD {a : Addr} {vs ws : List V} {o : HO} (ha : A dd) (hd : H dd = some (.lst ws)) (q : LstAt G.K A ρ H a vs) : LstAt G.K A ρ (upd H dd o) a vs := by
  rcases q with ⟨q1, q2, q3⟩ | ⟨u, q⟩ | q
  · exact .inl ⟨by rw [upd_ne (fun z => q2 (by rw [z]; exact ha))]; exact q1, q2, q3⟩
  · exact .inr (.inl ⟨u, by rw [upd_ne (fun z => by rw [z, hd] at q; cases q)]; exact q⟩)
  · exact .inr (.inr q)
mutual
theorem VR.updD {ws : List V} {o : HO} (ha : A dd) (hd : H dd = some (.lst ws)) : ∀ {v : V} {d : D}, VR G A ρ H v d → VR G A ρ (upd H dd o) v d
  | _, _, .non => .non
  | _, _, .bl b => .bl b
  | _, _, .int b => .int b
  | _, _, .str b => .str b
  | _, _, .tup q r => .tup (tupD hd q) (VRs.updD ha hd r)
  | _, _, .lst q h1 h2 r => .lst (by rw [upd_ne (fun z => h1 (by rw [z]; exact ha))]; exact q) h1 h2 (VRs.updD ha hd r)
  | _, _, .scr q r => .scr (lstAtD ha hd q) (VRs.updD ha hd r)
  | _, _, .dic q h1 h2 r => .dic (by rw [upd_ne (fun z => h1 (by rw [z]; exact ha))]; exact q) h1 h2 (DR.updD ha hd r)
  | _, _, .loc q => .loc q
theorem VRs.updD {ws : List V} {o : HO} (ha : A dd) (hd : H dd = some (.lst ws)) : ∀ {vs : List V} {ds : List D}, VRs G A ρ H vs ds → VRs G A ρ (upd H dd o) vs ds
  | _, _, .nil => .nil
  | _, _, .cons q r => .cons (VR.updD ha hd q) (VRs.updD ha hd r)
theorem DR.updD {ws : List V} {o : HO} (ha : A dd) (hd : H dd = some (.lst ws)) : ∀ {xs : List DEnt} {ks us : List D}, DR G A ρ H xs ks us → DR G A ρ (upd H dd o) xs ks us
  | _, _, _, .nil => .nil
  | _, _, _, .cons e q r q2 t => .cons e (VR.updD ha hd q) r (VR.updD ha hd q2) (DR.updD ha hd t)
end
theorem FR.updD {ws : List V} {o : HO} (ha : A dd) (hd : H dd = some (.lst ws)) : ∀ {gs : List (Str × V)} {fs : List (Str × D)}, FR G A ρ H gs fs → FR G A ρ (upd H dd o) gs fs
  | _, _, .nil => .nil
  | _, _, .cons q r => .cons (q.updD ha hd) (FR.updD ha hd r)
theorem SR.updD {ws : List V} {o : HO} (ha : A dd) (hd : H dd = some (.lst ws)) (hn : dd ∉ ρ) (S : SR G A ρ H lh) (ho : ∀ ps, o ≠ .tbl ps := by intro _ z; cases z) : SR G A ρ (upd H dd o) lh := by
  refine ⟨S.len, S.nd, fun a z => ?_, fun n u e => ?_, tabs_upd hd (fun ps z => by cases z) (fun c q z => by unfold LamX.CodeO at z; cases z) S.tab⟩
  · by_cases q : a = dd
    · subst q; exact ⟨_, upd_same, ho⟩
    · obtain ⟨u, e, k⟩ := S.av a z
      exact ⟨u, by rw [upd_ne q]; exact e, k⟩
  · obtain ⟨a, h1, h2⟩ := S.obj n u e
    have ne : a ≠ dd := fun z => hn (by rw [← z]; exact List.mem_of_getElem? h1)
    refine ⟨a, h1, ?_⟩
    cases u with
    | lst ds => obtain ⟨vs, h3, h4⟩ := h2; exact ⟨vs, by rw [upd_ne ne]; exact h3, h4.updD ha hd⟩
    | dic ks us => obtain ⟨xs, h3, h4⟩ := h2; exact ⟨xs, by rw [upd_ne ne]; exact h3, h4.updD ha hd⟩
    | ins c fs => obtain ⟨dx, gs, h3, h4⟩ := h2; exact ⟨dx, gs, by rw [upd_ne ne]; exact h3, h4.updD ha hd⟩
/-- a step, and the new list at dd changes -/
theorem Stp.updD {ρ1 : List Addr} {H1 : Hp} {o : HO} (s : Stp ρ1 H1 ρ H) (hd : H1 dd = none) : Stp ρ1 H1 ρ (upd H dd o) := by
  refine ⟨s.pre, fun a u e k n => ?_, fun a u e => ?_, fun a u q e => ?_, fun a z => ?_⟩
  · rw [upd_ne (ne_of_none e hd)]; exact s.frm a u e k n
  · rw [upd_ne (ne_of_none e hd)]; exact s.tup a u e
  · rw [upd_ne (ne_of_none e hd)]; exact s.frz a u q e
  · obtain ⟨u, e, k⟩ := s.trk a z
    by_cases q : a = dd
    · subst q
      obtain ⟨u2, e2, _⟩ := z
      rw [hd] at e2
      cases e2
    · exact ⟨u, by rw [upd_ne q]; exact e, k⟩
end
/-- one turn of a comprehension: the items that come -/
def stepL (g : GB) (t : TM) (e : EM) (vs : List Nat) (τ : Tau) (d : D) (lh : LH) (k : LH → Option (List D × LH)) : Option (List D × LH) := match g lh d with
  | some bs => if bs.all (fun p => vs.contains p.1) = true then (match t (setAll τ (bs.map (·.1)) (bs.map (·.2))) lh with
    | .ok true lh => (match e (setAll τ (bs.map (·.1)) (bs.map (·.2))) lh with
      | .ok y lh => (match k lh with
        | some (ys, lh) => some (y :: ys, lh)
        | none => none)
      | _ => none)
    | .ok false lh => k lh
    | _ => none) else none
  | none => none
def lcL (g : GB) (t : TM) (e : EM) (vs : List Nat) (τ : Tau) : List D → LH → Option (List D × LH)
  | [], lh => some ([], lh)
  | d :: ds, lh => stepL g t e vs τ d lh (lcL g t e vs τ ds)
def lcN (it : Wk) (g : GB) (t : TM) (e : EM) (vs : List Nat) (τ : Tau) : Nat → Nat → LH → Option (List D × LH)
  | 0, _, _ => none
  | m + 1, i, lh => match it.gt lh i with
    | some none => some ([], lh)
    | some (some d) => stepL g t e vs τ d lh (lcN it g t e vs τ m (i + 1))
    | none => none
theorem lcN_st (ds : List D) (g : GB) (t : TM) (e : EM) (vs : List Nat) (τ : Tau) : ∀ (m i : Nat), ds.length < m + i → i ≤ ds.length → lcN (.st ds) g t e vs τ m i = lcL g t e vs τ (ds.drop i)
  | 0, i, h, h2 => by omega
  | m + 1, i, h, h2 => by
    funext lh
    unfold lcN
    by_cases hi : i < ds.length
    · have q : ds[i]? = some ds[i] := List.getElem?_eq_getElem hi
      simp only [Wk.gt, q]
      rw [List.drop_eq_getElem_cons hi, lcN_st ds g t e vs τ m (i + 1) (by omega) (by omega)]
      rfl
    · simp only [Wk.gt, List.getElem?_eq_none (Nat.le_of_not_lt hi)]
      rw [List.drop_eq_nil_of_le (Nat.le_of_not_lt hi)]
      rfl
def lcW (g : GB) (t : TM) (e : EM) (vs : List Nat) (τ : Tau) (it : Wk) : LH → Option (List D × LH) := match it with
  | .st ds => lcL g t e vs τ ds
  | .dy a => fun lh => lcN (.dy a) g t e vs τ (Wk.len lh (.dy a) + 1) 0 lh
  | .en a => fun lh => lcN (.en a) g t e vs τ (Wk.len lh (.en a) + 1) 0 lh
theorem lcW_N (g : GB) (t : TM) (e : EM) (vs : List Nat) (τ : Tau) (it : Wk) (lh : LH) : ∃ k, lcW g t e vs τ it lh = lcN it g t e vs τ k 0 lh := by
  cases it with
  | st ds => exact ⟨ds.length + 1, by rw [lcN_st ds g t e vs τ _ 0 (by omega) (by omega)]; rfl⟩
  | dy a => exact ⟨_, rfl⟩
  | en a => exact ⟨_, rfl⟩
/-- the whole: the items, then the new list -/
def fin (al : Bool) (ys : List D) (lh : LH) : Res D := if ys.length ≤ sizeLine then (Ro.l ys).res al lh else .stuck
def eLc (al : Bool) (mi : IM) (g : GB) (t : TM) (e : EM) (vs : List Nat) : EM := fun τ lh => (mi τ lh).bind fun it lh => match lcW g t e vs (wipeD τ vs) it lh with
  | some (ys, lh) => fin al ys lh
  | none => .stuck
/-- inside a comprehension nothing is raised -/
def W0 : WX := fun _ _ _ _ => False
theorem PRg.get {G : Gx} {A : Addr → Prop} {ρ : List Addr} {H : Hp} {α β : Type} {rel : List Addr → Hp → β → α → Prop} {r : Res α} {V : Str → Hp → Prop} {Q : β → Hp → Prop} {a : α} {lh' : LH} (e : r = .ok a lh') (h : ∀ ρ' H' b, Stp ρ H ρ' H' → SR G A ρ' H' lh' → rel ρ' H' b a → Q b H') : PRg G A ρ H rel r V Q := by
  rw [e]
  exact h
theorem lc_rule {X : Cx} {W : WX} (al : Bool) {mi : IM} {g : GB} {t : TM} {e : EM} {vs : List Nat} : ∀ σ H Q, tE (gx X) W (eLc al mi g t e vs) σ H Q → tLc (tI (gx X) W mi) (gP (gx X) g) (tT (gx X) W0 t) (tE (gx X) W0 e) vs σ H Q :=
  fun σ H Q ⟨A, ρ, τ, lh, er, S, pr⟩ => ⟨A, ρ, τ, lh, er, S, PRg.thn pr fun it lh1 ρ1 H1 J s1 S1 ok pr1 => by
    intro dd hd
    obtain ⟨k, ek⟩ := lcW_N g t e vs (wipeD τ vs) it lh1
    rw [ek] at pr1
    have nA : ¬ A dd := S1.notA hd
    have nρ : dd ∉ ρ1 := S1.fresh hd
    have erw : ER (gx X) (ins A dd) ρ1 H1 (wipe σ vs) (wipeD τ vs) := ((er.stp s1).wipe vs).bar (Stp.barNew (ρ1 := ρ) hd)
    refine ⟨fun i m H5 => ∃ ρ5 lh5 acc ys, Stp ρ1 H1 ρ5 H5 ∧ SR (gx X) (ins A dd) ρ5 H5 lh5 ∧ dd ∉ ρ5 ∧ H5 dd = some (.lst acc) ∧ VRs (gx X) (ins A dd) ρ5 H5 acc ys ∧
      ∃ zs lh', lcN it g t e vs (wipeD τ vs) m i lh5 = some (zs, lh') ∧ PRg (gx X) A ρ1 H1 (VR (gx X) A) (fin al (ys ++ zs) lh') (wAt (gx X) W σ) Q, ⟨k, ρ1, lh1, [], [], (Stp.refl _ _).updD hd, S1.newBar hd, nρ, upd_same, .nil, ?_⟩, ?_⟩
    · cases q : lcN it g t e vs (wipeD τ vs) k 0 lh1 with
      | none => rw [q] at pr1; exact pr1.elim
      | some p =>
        obtain ⟨zs, lh'⟩ := p
        rw [q] at pr1
        exact ⟨zs, lh', rfl, pr1⟩
    · rintro i m H5 ⟨ρ5, lh5, acc, ys, st, S5, n5, hD, rs, zs, lh', hk, pr⟩
      have lz : (ys ++ zs).length ≤ sizeLine := by
        by_cases z : (ys ++ zs).length ≤ sizeLine
        · exact z
        · unfold fin at pr
          rw [if_neg z] at pr
          exact pr.elim
      cases m with
      | zero => cases hk
      | succ m =>
        unfold lcN at hk
        obtain ⟨ok1, ok2⟩ := ok (ins A dd) ρ5 H5 lh5 i (Stp.barNew (ρ1 := ρ) hd) st S5
        cases q : it.gt lh5 i with
        | none => simp only [q] at hk; cases hk
        | some od =>
          cases od with
          | none =>
            simp only [q] at hk
            cases hk
            refine .inl ⟨ok2 q, ?_⟩
            unfold fin at pr
            rw [if_pos lz, List.append_nil] at pr
            cases al with
            | false =>
              have bar : Bar (ins A dd) ρ5 A ρ5 H5 := Bar.of fun _ _ _ z => .inl z
              exact pr ρ5 H5 (.ref dd) st (S5.bar bar fun a z => S5.av a (.inl z)) (.lst hD nA n5 (rs.bar bar))
            | true =>
              have bar : Bar (ins A dd) ρ5 A (ρ5 ++ [dd]) H5 := ⟨fun a o h h1 h2 => ⟨fun z => h1 (.inl z), fun z => (List.mem_append.mp z).elim h2 fun z => h1 (.inr (List.mem_singleton.mp z))⟩, fun n a z => (List.getElem?_append_left (List.getElem?_eq_some_iff.mp z).1).trans z⟩
              have el : ρ5.length = lh5.length := S5.len
              have eL : (ρ5 ++ [dd])[lh5.length]? = some dd := by rw [← el]; simp
              refine pr (ρ5 ++ [dd]) H5 (.ref dd) ⟨?_, st.frm, st.tup, st.frz, st.trk⟩ ⟨by simp [S5.len], ?_, fun a z => S5.av a (.inl z), fun n o e => ?_, S5.tab⟩ (.loc eL)
              · obtain ⟨r, e1, e2⟩ := st.pre
                exact ⟨r ++ [dd], by rw [e1, List.append_assoc], fun a z => (List.mem_append.mp z).elim (e2 a) fun z => by rw [List.mem_singleton.mp z]; exact .of hd⟩
              · refine List.nodup_append.mpr ⟨S5.nd, by simp, fun x hx y hy => ?_⟩
                rw [List.mem_singleton.mp hy]
                rintro rfl
                exact n5 hx
              · by_cases hn : n < lh5.length
                · rw [List.getElem?_append_left hn] at e
                  obtain ⟨b, h1, h2⟩ := S5.obj n o e
                  exact ⟨b, bar.at_ _ _ h1, h2.bar bar⟩
                · rw [List.getElem?_append_right (by omega)] at e
                  have en : n - lh5.length = 0 := by
                    have := (List.getElem?_eq_some_iff.mp e).1
                    simp at this
                    omega
                  rw [en] at e
                  cases e
                  have : n = lh5.length := by omega
                  rw [this]
                  exact ⟨dd, eL, acc, hD, rs.bar bar⟩
          | some d =>
            simp only [q] at hk
            obtain ⟨go, yl⟩ := ok1 d q
            refine .inr ⟨go, fun H' => ∃ ρ5 lh5 acc ys, Stp ρ1 H1 ρ5 H' ∧ SR (gx X) (ins A dd) ρ5 H' lh5 ∧ dd ∉ ρ5 ∧ H' dd = some (.lst acc) ∧ VRs (gx X) (ins A dd) ρ5 H' acc ys ∧
              ∃ zs lh', lcN it g t e vs (wipeD τ vs) m (i + 1) lh5 = some (zs, lh') ∧ PRg (gx X) A ρ1 H1 (VR (gx X) A) (fin al (ys ++ zs) lh') (wAt (gx X) W σ) Q, fun H' h => ⟨m, Nat.lt_succ_self _, h⟩, fun x H3 hy => ?_⟩
            obtain ⟨t1, t2, t3⟩ := yl x H3 hy
            unfold stepL at hk
            cases qg : g lh5 d with
            | none => simp only [qg] at hk; cases hk
            | some bs =>
              simp only [qg] at hk
              by_cases hv : bs.all (fun p => vs.contains p.1) = true
              · rw [if_pos hv] at hk
                refine ⟨ins A dd, ρ5, lh5, d, bs, t2, t3, qg, fun ws hw => ⟨wipe_setAll fun j hj => ?_, ?_⟩⟩
                · obtain ⟨p, hp, rfl⟩ := List.mem_map.mp hj
                  simpa using List.all_eq_true.mp hv p hp
                · have er3 := (erw.stp (st.trans t1)).setAll (is := bs.map (·.1)) hw
                  cases qt : t (setAll (wipeD τ vs) (bs.map (·.1)) (bs.map (·.2))) lh5 with
                  | exc c l => simp only [qt] at hk; cases hk
                  | stuck => simp only [qt] at hk; cases hk
                  | ok b lh6 =>
                    refine ⟨ins A dd, ρ5, _, lh5, er3, t2, PRg.get qt fun ρ6 H6 b' s6 S6 rb => ?_⟩
                    subst rb
                    have st6 := t1.trans s6
                    have hD6 := st6.frm _ _ hD (fun _ z => by cases z) n5
                    have n6 := st6.nin hD (fun _ z => by cases z) n5
                    cases b' with
                    | false =>
                      simp only [qt] at hk
                      exact iteF ⟨ρ6, lh6, acc, ys, st.trans st6, S6, n6, hD6, rs.stp st6, zs, lh', hk, pr⟩
                    | true =>
                      simp only [qt] at hk
                      refine iteT ?_
                      cases qe : e (setAll (wipeD τ vs) (bs.map (·.1)) (bs.map (·.2))) lh6 with
                      | exc c l => simp only [qe] at hk; cases hk
                      | stuck => simp only [qe] at hk; cases hk
                      | ok y lh7 =>
                        simp only [qe] at hk
                        refine ⟨ins A dd, ρ6, _, lh6, er3.stp s6, S6, PRg.get qe fun ρ7 H7 yv s7 S7 ry => ?_⟩
                        have st7 := st6.trans s7
                        have hD7 := st7.frm _ _ hD (fun _ z => by cases z) n5
                        have n7 := st7.nin hD (fun _ z => by cases z) n5
                        cases qn : lcN it g t e vs (wipeD τ vs) m (i + 1) lh7 with
                        | none => simp only [qn] at hk; cases hk
                        | some p =>
                          obtain ⟨zs2, lh8⟩ := p
                          simp only [qn] at hk
                          cases hk
                          refine ⟨acc, hD7, ?_, ρ7, lh7, acc ++ [yv], ys ++ [y], (st.trans st7).updD hd, S7.updD (.inr rfl) hD7 n7, n7, upd_same, VRs.updD (.inr rfl) hD7 ((rs.stp st7).append (.cons ry .nil)), zs2, _, qn, ?_⟩
                          · rw [rs.length]
                            simp only [List.length_append, List.length_cons] at lz
                            omega
                          · rw [List.append_assoc]
                            exact pr
              · rw [if_neg hv] at hk
                cases hk⟩
section
variable {X : Cx} {W : WX} {elt tg iter a : Expr} {ifs : List Expr} {mi : IM} {g : GB} {t : TM} {e : EM} {pos spos py : Pos} {scope : Scope} {own : List (Str × Nat)}
def tYesD : TM := fun _ lh => .ok true lh
abbrev ETs (X : Cx) (W : WX) (ifs : List Expr) (t : TM) : Prop := PTs X ifs (tT (gx X) W t)
theorem ets_nil : ETs X W [] tYesD := ⟨fun pins s σ H Q I ⟨A, ρ, τ, lh, er, S, pr⟩ => wpAny_tests_nil ⟨H, I, pr ρ H true (Stp.refl _ _) S rfl⟩⟩
theorem ets_one {c : Expr} (h : ET X W c t) : ETs X W [c] t := pts_one h
theorem ee_lc (al : Bool) (hc : X.calm = true) (hN : X.N.Nodup) (own : List (Str × Nat)) (hi : EI X W tg iter mi) (ok : blkC X.N X.env.scope scope own = true)
    (hg : ∀ (s : Shared) (H : Hp) (C : Addr) (cl : List (Str × Addr)) (fp : List Addr), EG (X.blk s H scope (compEnvC scope cl C X.env) fp) tg g) (ht : ∀ (s : Shared) (H : Hp) (C : Addr) (cl : List (Str × Addr)) (fp : List Addr), ETs (X.blk s H scope (compEnvC scope cl C X.env) fp) W0 ifs t)
    (he : ∀ (s : Shared) (H : Hp) (C : Addr) (cl : List (Str × Addr)) (fp : List Addr), EE (X.blk s H scope (compEnvC scope cl C X.env) fp) W0 elt e) (hs : ∀ x, foldedSetIterable iter X.env x = pure x := by intro _; rfl) :
    EE X W (.ListComp elt [⟨tg, iter, ifs, 0⟩] scope pos) (eLc al mi g t e (own.map (·.2))) :=
  peImp (pe_lc hc hN hi (blkOk_by ok) hg ht he hs) (lc_rule al)
theorem es_setLc (i : Nat) {y : Str} (al : Bool) (hc : X.calm = true) (hN : X.N.Nodup) (own : List (Str × Nat)) (hi : EI X W tg iter mi) (ok : blkC X.N X.env.scope scope own = true)
    (hg : ∀ (s : Shared) (H : Hp) (C : Addr) (cl : List (Str × Addr)) (fp : List Addr), EG (X.blk s H scope (compEnvC scope cl C X.env) fp) tg g) (ht : ∀ (s : Shared) (H : Hp) (C : Addr) (cl : List (Str × Addr)) (fp : List Addr), ETs (X.blk s H scope (compEnvC scope cl C X.env) fp) W0 ifs t)
    (he : ∀ (s : Shared) (H : Hp) (C : Addr) (cl : List (Str × Addr)) (fp : List Addr), EE (X.blk s H scope (compEnvC scope cl C X.env) fp) W0 elt e)
    (hy : X.N[i]? = some y := by rfl) (hyl : X.env.scope.names.lookup y = some .local := by rfl) (hsw : swapsWith (.ListComp elt [⟨tg, iter, ifs, 0⟩] scope pos) (some (.Name y py)) spos.line X.env = pure true := by rfl) (hs : ∀ x, foldedSetIterable iter X.env x = pure x := by intro _; rfl) :
    ES X W (.Assign [.Name y py] (.ListComp elt [⟨tg, iter, ifs, 0⟩] scope pos) spos) (sSet i (eLc al mi g t e (own.map (·.2)))) :=
  es_setT i (ps_setLc hc hN hy hyl hsw hi (blkOk_by ok) hg ht he hs) (lc_rule al)
end
end Tb

/-! Calls of builtins. -/
namespace Tb
open PySem PySem.Spec PyProof.Rows L2

/-- f(e, ..): what comes of the values -/
def eCall (al : Bool) (g : LH → List D → Ro) (m : AM) : EM := fun τ lh => (m τ lh).bind fun ds lh => (g lh ds).res al lh
def rC (G : Gx) (al : Bool) (g : LH → List D → Ro) : List V → Hp → VK → Prop := fun xs H Q => ∃ A ρ lh ds, SR G A ρ H lh ∧ VRs G A ρ H xs ds ∧ PRo G A ρ H al lh (g lh ds) Q
abbrev CallD (X : Cx) (f : Value) (g : LH → List D → Ro) : Prop := ∀ al, CallR X f (rC (gx X) al g)
section
variable {X : Cx} {W : WX} {e : Expr} {es : List Expr} {m : AM} {p pos : Pos} {x : Str} {g : LH → List D → Ro}
theorem ee_callB {id : String} (al : Bool) (hc : CallD X (.builtin id) g) (ha : EA X W (e :: es) m) (hm : X.mg x = none) (hv : bootBuiltins x = some (.builtin id)) (hg : Gl X x := by rfl) (hn : x ≠ "__name__" := by decide) (hdb : (x == ("__debug__" : Str)) = false := by decide)
    (he : starEach (e :: es) X.env = (false, eval e X.env) :: starEach es X.env := by rfl) (hpl : (backTo pos (starEach es X.env)).any (·.1) = false := by rfl) : EE X W (.Call (.Name x p) (e :: es) [] pos) (eCall al g m) :=
  peImp (pe_callB (hc al) hg hm hv ha hn hdb he hpl) fun σ H Q ⟨A, ρ, τ, lh, er, S, pr⟩ => ⟨A, ρ, τ, lh, er, S, PRg.thn pr fun ds lh1 ρ1 H1 xs s1 S1 r1 pr1 => ⟨A, ρ1, lh1, ds, S1, r1, PRo.of pr1⟩⟩
theorem ee_callTy {T : String} (al : Bool) (hc : CallD X (.type T) g) (ha : EA X W (e :: es) m) (hm : X.mg x = none) (hv : bootBuiltins x = some (.type T)) (hg : Gl X x := by rfl) (hn : x ≠ "__name__" := by decide) (hdb : (x == ("__debug__" : Str)) = false := by decide)
    (he : starEach (e :: es) X.env = (false, eval e X.env) :: starEach es X.env := by rfl) (hpl : (backTo pos (starEach es X.env)).any (·.1) = false := by rfl) : EE X W (.Call (.Name x p) (e :: es) [] pos) (eCall al g m) :=
  peImp (pe_callTy (hc al) hg hm hv ha hn hdb he hpl) fun σ H Q ⟨A, ρ, τ, lh, er, S, pr⟩ => ⟨A, ρ, τ, lh, er, S, PRg.thn pr fun ds lh1 ρ1 H1 xs s1 S1 r1 pr1 => ⟨A, ρ1, lh1, ds, S1, r1, PRo.of pr1⟩⟩
end
theorem VRs.one {G : Gx} {A : Addr → Prop} {ρ : List Addr} {H : Hp} {vs : List V} {d : D} (r : VRs G A ρ H vs [d]) : ∃ v, vs = [v] ∧ VR G A ρ H v d := by
  cases r with
  | cons h t => cases t; exact ⟨_, rfl, h⟩
theorem VRs.two {G : Gx} {A : Addr → Prop} {ρ : List Addr} {H : Hp} {vs : List V} {d e : D} (r : VRs G A ρ H vs [d, e]) : ∃ v w, vs = [v, w] ∧ VR G A ρ H v d ∧ VR G A ρ H w e := by
  cases r with
  | cons h t =>
    obtain ⟨w, rfl, h2⟩ := t.one
    exact ⟨_, w, rfl, h, h2⟩
/-! ### the functions -/
def lenG (lh : LH) (ds : List D) : Ro := match ds with
  | [.str s] => if s.length ≤ sizeLine then .v (.int s.length) else .no
  | [d] => (match asS lh d with
    | some xs => .v (.int xs.length)
    | none => .no)
  | _ => .no
/-- whole numbers, all of them -/
def intOf : D → Option Int
  | .int i => some i
  | _ => none
def blOf : D → Option Bool
  | .bl b => some b
  | _ => none
def sumG (lh : LH) (ds : List D) : Ro := match ds with
  | [d] => (match asL lh d with
    | some xs => (match mapO intOf xs with
      | some ns => .v (.int ns.sum)
      | none => .no)
    | none => .no)
  | _ => .no
def lisG (lh : LH) (ds : List D) : Ro := match ds with
  | [d] => (match asS lh d with
    | some xs => .l xs
    | none => .no)
  | _ => .no
def tupG (lh : LH) (ds : List D) : Ro := match ds with
  | [.tup xs] => .v (.tup xs)
  | [d] => (match asL lh d with
    | some xs => .v (.tup xs)
    | none => .no)
  | _ => .no
def allG (lh : LH) (ds : List D) : Ro := match ds with
  | [d] => (match asL lh d with
    | some xs => (match mapO blOf xs with
      | some ns => .v (.bl (ns.all id))
      | none => .no)
    | none => .no)
  | _ => .no
def anyG (lh : LH) (ds : List D) : Ro := match ds with
  | [d] => (match asL lh d with
    | some xs => (match mapO blOf xs with
      | some ns => .v (.bl (ns.any id))
      | none => .no)
    | none => .no)
  | _ => .no
def absG (_ : LH) (ds : List D) : Ro := match ds with
  | [.int i] => .v (.int (if i < 0 then -i else i))
  | _ => .no
def intG (_ : LH) (ds : List D) : Ro := match ds with
  | [.int i] => .v (.int i)
  | [.bl b] => .v (.int (if b then 1 else 0))
  | _ => .no
def maxG (_ : LH) (ds : List D) : Ro := match ds with
  | [.int i, .int j] => .v (.int (if j > i then j else i))
  | _ => .no
/-- the least of a list -/
def leastI : List Int → Option Int
  | [] => none
  | i :: is => match leastI is with
    | some j => some (if j < i then j else i)
    | none => some i
def minG (lh : LH) (ds : List D) : Ro := match ds with
  | [.int i, .int j] => .v (.int (if j < i then j else i))
  | [.int i, .int j, .int k] => .v (.int (if k < (if j < i then j else i) then k else (if j < i then j else i)))
  | [d] => (match asL lh d with
    | some xs => (match mapO intOf xs with
      | some ns => (match leastI ns with
        | some i => .v (.int i)
        | none => .no)
      | none => .no)
    | none => .no)
  | _ => .no
section
variable {G : Gx} {A : Addr → Prop} {ρ : List Addr} {H : Hp} {lh : LH}
theorem rs_ints : ∀ {ds : List D} {vs : List V} {ns : List Int}, VRs G A ρ H vs ds → mapO intOf ds = some ns → vs = ns.map V.int
  | [], _, _, r, h => by cases r; cases h; rfl
  | d :: ds, _, _, .cons r1 r2, h => by
    obtain ⟨y, ys, h1, h2, rfl⟩ := mapO_cons h
    cases d with
    | int i => cases h1; cases r1; rw [rs_ints r2 h2]; rfl
    | _ => cases h1
theorem rs_bls : ∀ {ds : List D} {vs : List V} {ns : List Bool}, VRs G A ρ H vs ds → mapO blOf ds = some ns → vs = ns.map V.bl
  | [], _, _, r, h => by cases r; cases h; rfl
  | d :: ds, _, _, .cons r1 r2, h => by
    obtain ⟨y, ys, h1, h2, rfl⟩ := mapO_cons h
    cases d with
    | bl i => cases h1; cases r1; rw [rs_bls r2 h2]; rfl
    | _ => cases h1
theorem leastI_spec : ∀ {ns : List Int} {i : Int}, leastI ns = some i → i ∈ ns ∧ ∀ y ∈ ns, i ≤ y
  | [], _, h => by cases h
  | n :: ns, i, h => by
    unfold leastI at h
    cases q : leastI ns with
    | none =>
      rw [q] at h
      cases h
      have : ns = [] := by
        cases ns with
        | nil => rfl
        | cons a as =>
          unfold leastI at q
          split at q <;> cases q
      subst this
      simp
    | some j =>
      rw [q] at h
      obtain ⟨h1, h2⟩ := leastI_spec q
      cases h
      by_cases hl : j < n
      · rw [if_pos hl]
        exact ⟨List.mem_cons_of_mem _ h1, fun y hy => (List.mem_cons.mp hy).elim (fun e => by omega) (h2 y)⟩
      · rw [if_neg hl]
        exact ⟨List.mem_cons_self, fun y hy => (List.mem_cons.mp hy).elim (fun e => by omega) fun z => by have := h2 y z; omega⟩
theorem leastI_uniq {ns : List Int} {i m : Int} (h : leastI ns = some i) (hm : m ∈ ns) (hl : ∀ y ∈ ns, m ≤ y) : m = i := by
  obtain ⟨h1, h2⟩ := leastI_spec h
  have := h2 m hm
  have := hl i h1
  omega
end
section
variable {X : Cx}
theorem cb_len : CallD X (.builtin "len") lenG := fun al => callImp call_len fun xs H Q ⟨A, ρ, lh, ds, S, r, pr⟩ => by
  unfold lenG at pr
  split at pr
  · rename_i s
    split at pr
    · rename_i hz
      obtain ⟨v, rfl, rv⟩ := r.one
      cases rv
      exact ⟨_, _, rfl, ⟨hz, rfl⟩, pr.val S (.int _)⟩
    · exact pr.elim
  · rename_i d _
    split at pr
    · rename_i xs' h1
      obtain ⟨v, rfl, rv⟩ := r.one
      obtain ⟨a, vs, rfl, hq, rs⟩ := asS_rel S rv h1
      refine ⟨.ref a, xs'.length, rfl, ?_, pr.val S (.int _)⟩
      rcases hq with hq | hq
      · exact .inl ⟨vs, hq, rs.length.symm⟩
      · exact .inr ⟨vs, hq, rs.length.symm⟩
    · exact pr.elim
  · exact pr.elim
theorem cb_sum (hc : X.calm = true) : CallD X (.builtin "sum") sumG := fun al => callImp (cr_sum hc) fun xs H Q ⟨A, ρ, lh, ds, S, r, pr⟩ => by
  unfold sumG at pr
  split at pr
  · split at pr
    · rename_i h1
      split at pr
      · rename_i ns h2
        obtain ⟨v, rfl, rv⟩ := r.one
        obtain ⟨a, vs, rfl, hq, rs⟩ := asL_rel S rv h1
        have e := rs_ints rs h2
        subst e
        exact ⟨a, ns, rfl, hq, pr.val S (.int _)⟩
      · exact pr.elim
    · exact pr.elim
  · exact pr.elim
theorem cb_all (hc : X.calm = true) : CallD X (.builtin "all") allG := fun al => callImp (cr_all hc) fun xs H Q ⟨A, ρ, lh, ds, S, r, pr⟩ => by
  unfold allG at pr
  split at pr
  · split at pr
    · rename_i h1
      split at pr
      · rename_i ns h2
        obtain ⟨v, rfl, rv⟩ := r.one
        obtain ⟨a, vs, rfl, hq, rs⟩ := asL_rel S rv h1
        have e := rs_bls rs h2
        subst e
        exact ⟨a, ns, rfl, hq, pr.val S (.bl _)⟩
      · exact pr.elim
    · exact pr.elim
  · exact pr.elim
theorem cb_any (hc : X.calm = true) : CallD X (.builtin "any") anyG := fun al => callImp (cr_any hc) fun xs H Q ⟨A, ρ, lh, ds, S, r, pr⟩ => by
  unfold anyG at pr
  split at pr
  · split at pr
    · rename_i h1
      split at pr
      · rename_i ns h2
        obtain ⟨v, rfl, rv⟩ := r.one
        obtain ⟨a, vs, rfl, hq, rs⟩ := asL_rel S rv h1
        have e := rs_bls rs h2
        subst e
        exact ⟨a, ns, rfl, hq, pr.val S (.bl _)⟩
      · exact pr.elim
    · exact pr.elim
  · exact pr.elim
theorem cb_list : CallD X (.type "list") lisG := fun al => callImp call_list_of fun xs H Q ⟨A, ρ, lh, ds, S, r, pr⟩ => by
  unfold lisG at pr
  split at pr
  · split at pr
    · rename_i h1
      obtain ⟨v, rfl, rv⟩ := r.one
      obtain ⟨a, vs, rfl, hq, rs⟩ := asS_rel S rv h1
      exact ⟨a, vs, rfl, hq, pr.new S rs⟩
    · exact pr.elim
  · exact pr.elim
theorem cb_tuple : CallD X (.type "tuple") tupG := fun al => callImp call_tuple_of fun xs H Q ⟨A, ρ, lh, ds, S, r, pr⟩ => by
  unfold tupG at pr
  split at pr
  · obtain ⟨v, rfl, rv⟩ := r.one
    have rv' := rv
    cases rv with
    | @tup a vs _ hq rs => exact ⟨a, vs, rfl, .inr ⟨hq, pr.val S rv'⟩⟩
  · split at pr
    · rename_i h1
      obtain ⟨v, rfl, rv⟩ := r.one
      obtain ⟨a, vs, rfl, hq, rs⟩ := asL_rel S rv h1
      exact ⟨a, vs, rfl, .inl ⟨hq, pr.tup S rs⟩⟩
    · exact pr.elim
  · exact pr.elim
theorem cb_abs : CallD X (.builtin "abs") absG := fun al => callImp call_abs fun xs H Q ⟨A, ρ, lh, ds, S, r, pr⟩ => by
  unfold absG at pr
  split at pr
  · obtain ⟨v, rfl, rv⟩ := r.one
    cases rv
    exact ⟨_, rfl, pr.val S (.int _)⟩
  · exact pr.elim
theorem cb_int : CallD X (.type "int") intG := fun al => callImp call_int1 fun xs H Q ⟨A, ρ, lh, ds, S, r, pr⟩ => by
  unfold intG at pr
  split at pr
  · obtain ⟨v, rfl, rv⟩ := r.one
    cases rv
    exact .inl ⟨_, rfl, pr.val S (.int _)⟩
  · obtain ⟨v, rfl, rv⟩ := r.one
    cases rv
    exact .inr ⟨_, rfl, pr.val S (.int _)⟩
  · exact pr.elim
theorem cb_max (hc : X.calm = true) : CallD X (.builtin "max") maxG := fun al => callImp (call_max2 hc) fun xs H Q ⟨A, ρ, lh, ds, S, r, pr⟩ => by
  unfold maxG at pr
  split at pr
  · obtain ⟨v, w, rfl, rv, rw'⟩ := r.two
    cases rv
    cases rw'
    exact ⟨_, _, rfl, pr.val S (.int _)⟩
  · exact pr.elim
theorem cb_min (hc : X.calm = true) : CallD X (.builtin "min") minG := fun al => callImp (CallR.or (call_min2 hc) (CallR.or (cr_min hc) (call_min3Nu hc))) fun xs H Q ⟨A, ρ, lh, ds, S, r, pr⟩ => by
  unfold minG at pr
  split at pr
  · obtain ⟨v, w, rfl, rv, rw'⟩ := r.two
    cases rv
    cases rw'
    exact .inl ⟨_, _, rfl, pr.val S (.int _)⟩
  · rename_i i j k
    refine .inr (.inr ?_)
    cases r with
    | cons r1 r =>
      obtain ⟨v, w, rfl, r2, r3⟩ := r.two
      cases r1
      cases r2
      cases r3
      refine ⟨.int i, .int j, .int k, _, rfl, ?_, pr.val S (.int _)⟩
      show ((nuMin2 (.int i) (.int j)).bind fun m => nuMin2 m (.int k)) = _
      have e : ∀ i j : Int, nuMin2 (.int i) (.int j) = some (.int (if j < i then j else i)) := fun i j => by
        show some (if decide (j < i) = true then V.int j else V.int i) = _
        by_cases h : j < i
        · simp [h]
        · simp [h]
      rw [e i j]
      exact e _ k
  · split at pr
    · rename_i h1
      split at pr
      · rename_i ns h2
        split at pr
        · rename_i i h3
          obtain ⟨v, rfl, rv⟩ := r.one
          obtain ⟨a, vs, rfl, hq, rs⟩ := asL_rel S rv h1
          have e := rs_ints rs h2
          subst e
          refine .inr (.inl ⟨a, ns, rfl, hq, ?_, fun m hm hl => ?_⟩)
          · cases ns with
            | nil => cases h3
            | cons _ _ => simp
          · rw [leastI_uniq h3 hm hl]
            exact pr.val S (.int _)
        · exact pr.elim
      · exact pr.elim
    · exact pr.elim
  · exact pr.elim
end

/-! ### isinstance -/
inductive Ty where
  | b (n : String) | c (x : Str)
def tyD (lh : LH) : D → Option Ty
  | .non => some (.b "NoneType")
  | .bl _ => some (.b "bool")
  | .int _ => some (.b "int")
  | .str _ => some (.b "str")
  | .tup _ => some (.b "tuple")
  | .lst _ => some (.b "list")
  | .scr _ => some (.b "list")
  | .dic _ _ => none
  | .loc n => (match lh[n]? with
    | some (.lst _) => some (.b "list")
    | some (.ins c _) => some (.c c)
    | _ => none)
def tyVal (K : PySem.W.Frag) : Ty → Value
  | .b n => .type n
  | .c x => .ref (He.ga K x)
/-- what isinstance asks of an own class -/
structure InsOk (K : PySem.W.Frag) (x : Str) : Prop where
  cl : Cls K (He.ga K x)
  ha : PySem.W.findIn K (.ref (He.ga K x)) "__class__" = some (some (.builtin "object.__class__"))
  hn : PySem.W.specialIn K (.builtin "object.__class__") "__get__" = some (some (.builtin "getset_descriptor.__get__"))
  htk : PySem.W.takesIn K (.builtin "object.__class__") = some true
  hm : PySem.W.mroIn K (He.ga K x) (.type "object") = some true
theorem tyX_rel {G : Gx} {A : Addr → Prop} {ρ : List Addr} {H : Hp} {lh : LH} {v : V} {d : D} {t : Ty} (S : SR G A ρ H lh) (r : VR G A ρ H v d) (h : tyD lh d = some t) (ho : ∀ x, t = .c x → InsOk G.K x) : TyX G.K H v (tyVal G.K t) := by
  cases r with
  | non => cases h; exact .base .non
  | bl b => cases h; exact .base (.bl b)
  | int i => cases h; exact .base (.int i)
  | str s => cases h; exact .base (.str s)
  | @tup a vs ds q _ =>
    cases h
    rcases q with (q | ⟨o, q⟩) | q
    · exact .base (.tup q)
    · exact .fTuple q
    · obtain ⟨o, its, n, e, c, _⟩ := q
      exact .kTuple e c
  | @lst a vs ds q _ _ _ => cases h; exact .base (.lst q)
  | @scr a vs ds q _ =>
    cases h
    rcases q with ⟨q, _⟩ | ⟨o, q⟩ | q
    · exact .base (.lst q)
    · exact .base (.frz q)
    · obtain ⟨o, its, n, e, c, _⟩ := q
      exact .kList e c
  | dic _ _ _ _ => cases h
  | @loc n a q =>
    unfold tyD at h
    cases e : lh[n]? with
    | none => simp only [e] at h; cases h
    | some o =>
      obtain ⟨b, h1, h2⟩ := S.obj n o e
      rw [q] at h1
      cases h1
      cases o with
      | lst ds =>
        simp only [e] at h
        cases h
        obtain ⟨vs, h3, _⟩ := h2
        exact .base (.lst h3)
      | dic _ _ => simp only [e] at h; cases h
      | ins c fs =>
        simp only [e] at h
        cases h
        obtain ⟨dx, gs, h3, _⟩ := h2
        have k := ho c rfl
        exact .base (.ins h3 k.cl k.ha k.hn k.htk k.hm)
def eIsi (f : Ty → Option Bool) (m : EM) : EM := fun τ lh => (m τ lh).bind fun d lh => match tyD lh d with
  | some t => (match f t with
    | some b => .ok (.bl b) lh
    | none => .stuck)
  | none => .stuck
def fB (Ts : List String) : Ty → Option Bool
  | .b n => some (Ts.any fun T => n == T || (T == "int" && n == "bool"))
  | .c _ => none
def fO (cs : List (Str × Bool)) : Ty → Option Bool
  | .b _ => some false
  | .c x => cs.lookup x
section
variable {X : Cx} {W : WX} {e c c2 : Expr} {m : EM} {p pos tp : Pos} {k : Nat}
theorem ee_isi (f : Ty → Option Bool) {cv : V} {u : Value} (hk : ClsV cv u) (hf : ∀ t b, (∃ lh d, tyD lh d = some t) → f t = some b → PySem.W.kitOne X.K (tyVal X.K t) u = some b ∧ ∀ x, t = .c x → InsOk X.K x) (h : EE X W e m) (hcl : PE X c (tC cv)) (hm : X.mg "isinstance" = none) (hg : Gl X "isinstance" := by rfl)
    (he : starEach (e :: [c]) X.env = (false, eval e X.env) :: starEach [c] X.env := by rfl) (hpl : (backTo pos (starEach [c] X.env)).any (·.1) = false := by rfl) (hs2 : starEach [c] X.env = (false, eval c X.env) :: starEach [] X.env := by rfl) :
    EE X W (.Call (.Name "isinstance" p) [e, c] [] pos) (eIsi f m) :=
  peImp (pe_callB call_isi hg hm (by rfl) (pa_cons h (pa_cons hcl pa_nil hs2) he) (he := he) (hpl := hpl)) fun σ H Q ⟨A, ρ, τ, lh, er, S, pr⟩ => ⟨A, ρ, τ, lh, er, S, PRg.thn pr fun d lh1 ρ1 H1 x s1 S1 r1 pr1 => by
    cases q : tyD lh1 d with
    | none => simp only [q] at pr1; exact pr1.elim
    | some t =>
      simp only [q] at pr1
      cases q2 : f t with
      | none => simp only [q2] at pr1; exact pr1.elim
      | some b =>
        simp only [q2] at pr1
        obtain ⟨k1, k2⟩ := hf t b ⟨_, _, q⟩ q2
        exact ⟨x, cv, _, u, b, rfl, hk, tyX_rel S1 r1 q k2, k1, pr1 ρ1 H1 _ (Stp.refl _ _) S1 (.bl b)⟩⟩
theorem ty_names {lh : LH} {d : D} {n : String} (h : tyD lh d = some (.b n)) : n = "NoneType" ∨ n = "bool" ∨ n = "int" ∨ n = "str" ∨ n = "tuple" ∨ n = "list" := by
  cases d with
  | loc a =>
    have h' : (match lh[a]? with
      | some (.lst _) => some (Ty.b "list")
      | some (.ins c _) => some (.c c)
      | _ => none) = some (.b n) := h
    split at h'
    · cases h'; simp
    · cases h'
    · cases h'
  | _ => cases h <;> simp
/-- isinstance(e, T), T a builtin type -/
theorem ee_isiB (T : String) (x : Str) {q : Pos} (hT : ∀ n ∈ ["NoneType", "bool", "int", "str", "tuple", "list"], PySem.W.kitOne X.K (.type n) (.type T) = (fB [T] (.b n))) (h : EE X W e m) (hm : X.mg "isinstance" = none) (hx : X.mg x = none) (hv : bootBuiltins x = some (.type T)) (hgx : Gl X x := by rfl) (hg : Gl X "isinstance" := by rfl)
    (he : starEach (e :: [.Name x q]) X.env = (false, eval e X.env) :: starEach [.Name x q] X.env := by rfl) (hpl : (backTo pos (starEach [.Name x q] X.env)).any (·.1) = false := by rfl) (hs2 : starEach [.Name x q] X.env = (false, eval (.Name x q) X.env) :: starEach [] X.env := by rfl) (hn : x ≠ "__name__" := by decide) (hdb : (x == ("__debug__" : Str)) = false := by decide) :
    EE X W (.Call (.Name "isinstance" p) [e, .Name x q] [] pos) (eIsi (fB [T]) m) :=
  ee_isi (fB [T]) (.ty T) (fun t b hd hb => by
    obtain ⟨lh, d, hd⟩ := hd
    cases t with
    | b n =>
      refine ⟨?_, fun x z => nomatch z⟩
      have := hT n (by rcases ty_names hd with z | z | z | z | z | z <;> simp [z])
      rw [← hb]
      exact this
    | c y => cases hb) h (pe_bltn hgx hx hv rfl hn hdb) hm hg he hpl hs2
/-- isinstance(e, (T, U)) -/
theorem ee_isiB2 (T U : String) (x y : Str) {q q2 : Pos} (hT : ∀ n ∈ ["NoneType", "bool", "int", "str", "tuple", "list"], PySem.W.kitAny X.K (.type n) [.type T, .type U] = (fB [T, U] (.b n))) (h : EE X W e m) (hm : X.mg "isinstance" = none) (hx : X.mg x = none) (hv : bootBuiltins x = some (.type T)) (hy : X.mg y = none) (hvy : bootBuiltins y = some (.type U)) (hgx : Gl X x := by rfl) (hgy : Gl X y := by rfl) (hg : Gl X "isinstance" := by rfl)
    (he : starEach (e :: [.Tuple [.Name x q, .Name y q2] k tp]) X.env = (false, eval e X.env) :: starEach [.Tuple [.Name x q, .Name y q2] k tp] X.env := by rfl) (hpl : (backTo pos (starEach [.Tuple [.Name x q, .Name y q2] k tp] X.env)).any (·.1) = false := by rfl)
    (hs2 : starEach [.Tuple [.Name x q, .Name y q2] k tp] X.env = (false, eval (.Tuple [.Name x q, .Name y q2] k tp) X.env) :: starEach [] X.env := by rfl) (ht1 : starEach [.Name x q, .Name y q2] X.env = (false, eval (.Name x q) X.env) :: starEach [.Name y q2] X.env := by rfl) (ht2 : starEach [.Name y q2] X.env = (false, eval (.Name y q2) X.env) :: starEach [] X.env := by rfl)
    (hn : x ≠ "__name__" := by decide) (hdb : (x == ("__debug__" : Str)) = false := by decide) (hn2 : y ≠ "__name__" := by decide) (hdb2 : (y == ("__debug__" : Str)) = false := by decide) :
    EE X W (.Call (.Name "isinstance" p) [e, .Tuple [.Name x q, .Name y q2] k tp] [] pos) (eIsi (fB [T, U]) m) :=
  peImp (pe_callB call_isiT hg hm (by rfl) (pa_cons h (pa_cons (pe_tup (pa_cons (pe_bltn (v := .ty T) hgx hx hv rfl hn hdb) (pa_cons (pe_bltn (v := .ty U) hgy hy hvy rfl hn2 hdb2) pa_nil ht2) ht1)) pa_nil hs2) he) (he := he) (hpl := hpl)) fun σ H Q ⟨A, ρ, τ, lh, er, S, pr⟩ => ⟨A, ρ, τ, lh, er, S, PRg.thn pr fun d lh1 ρ1 H1 x s1 S1 r1 pr1 => by
    cases q : tyD lh1 d with
    | none => simp only [q] at pr1; exact pr1.elim
    | some t =>
      simp only [q] at pr1
      cases t with
      | c y => exact pr1.elim
      | b n =>
        refine ⟨by show 2 ≤ sizeLine; decide, fun p hp => ⟨x, p, [.ty T, .ty U], .type n, [.type T, .type U], _, rfl, upd_same, .cons (.ty T) (.cons (.ty U) .nil), tyX_rel (S1.new hp) (r1.stp (stp_new hp)) q (fun x z => nomatch z), ?_, pr1 ρ1 _ _ (stp_new hp) (S1.new hp) (.bl _)⟩⟩
        exact hT n (by rcases ty_names q with z | z | z | z | z | z <;> simp [z])⟩
/-- what is known of an own class D: which classes are under it -/
def OwnIs (K : PySem.W.Frag) (dd : Str) (cs : List (Str × Bool)) : Prop :=
  (∀ n ∈ ["NoneType", "bool", "int", "str", "tuple", "list"], PySem.W.kitOne K (.type n) (.ref (He.ga K dd)) = some false) ∧ ∀ p ∈ cs, InsOk K p.1 ∧ PySem.W.kitOne K (.ref (He.ga K p.1)) (.ref (He.ga K dd)) = some p.2
theorem ee_isiO (dd : Str) (cs : List (Str × Bool)) {q : Pos} (ho : OwnIs X.K dd cs) (h : EE X W e m) (hm : X.mg "isinstance" = none) (hx : X.mg dd = some (.ref (He.ga X.K dd))) (hgx : Gl X dd := by rfl) (hg : Gl X "isinstance" := by rfl)
    (he : starEach (e :: [.Name dd q]) X.env = (false, eval e X.env) :: starEach [.Name dd q] X.env := by rfl) (hpl : (backTo pos (starEach [.Name dd q] X.env)).any (·.1) = false := by rfl) (hs2 : starEach [.Name dd q] X.env = (false, eval (.Name dd q) X.env) :: starEach [] X.env := by rfl) (hdb : (dd == ("__debug__" : Str)) = false := by decide) :
    EE X W (.Call (.Name "isinstance" p) [e, .Name dd q] [] pos) (eIsi (fO cs) m) :=
  ee_isi (fO cs) (.own (He.ga X.K dd)) (fun t b hd hb => by
    obtain ⟨lh, d, hd⟩ := hd
    cases t with
    | b n =>
      cases hb
      exact ⟨ho.1 n (by rcases ty_names hd with z | z | z | z | z | z <;> simp [z]), fun x z => nomatch z⟩
    | c y =>
      have hy : (y, b) ∈ cs := by
        have hb' : cs.lookup y = some b := hb
        clear hb ho
        induction cs with
        | nil => cases hb'
        | cons p cs ih =>
          rw [List.lookup_cons] at hb'
          by_cases z : (y == p.1) = true
          · rw [z] at hb'
            cases hb'
            rw [eq_of_beq z]
            exact List.mem_cons_self
          · rw [Bool.eq_false_iff.mpr z] at hb'
            exact List.mem_cons_of_mem _ (ih hb')
      obtain ⟨k1, k2⟩ := ho.2 _ hy
      exact ⟨k2, fun x z => by cases z; exact k1⟩) h (pe_glob hgx hx rfl hdb) hm hg he hpl hs2
end
/-- as decided on the head -/
def insB (K : PySem.W.Frag) (x : Str) : Bool := He.eqO (PySem.W.findIn K (.ref (He.ga K x)) "__class__") (some (some (.builtin "object.__class__"))) && (He.eqO (PySem.W.specialIn K (.builtin "object.__class__") "__get__") (some (some (.builtin "getset_descriptor.__get__"))) &&
  (decide (PySem.W.takesIn K (.builtin "object.__class__") = some true) && decide (PySem.W.mroIn K (He.ga K x) (.type "object") = some true)))
theorem insB_ok {K : PySem.W.Frag} {x : Str} (c : Cls K (He.ga K x)) (h : insB K x = true) : InsOk K x := by
  unfold insB at h
  obtain ⟨h1, h2⟩ := He.ba h
  obtain ⟨h2, h3⟩ := He.ba h2
  obtain ⟨h3, h4⟩ := He.ba h3
  exact ⟨c, He.eqO_ok h1, He.eqO_ok h2, of_decide_eq_true h3, of_decide_eq_true h4⟩
def ownB (K : PySem.W.Frag) (dd : Str) (cs : List (Str × Bool)) : Bool := (["NoneType", "bool", "int", "str", "tuple", "list"].all fun n => decide (PySem.W.kitOne K (.type n) (.ref (He.ga K dd)) = some false)) && cs.all fun p => insB K p.1 && decide (PySem.W.kitOne K (.ref (He.ga K p.1)) (.ref (He.ga K dd)) = some p.2)
theorem ownB_ok {K : PySem.W.Frag} {dd : Str} {cs : List (Str × Bool)} (hc : ∀ p ∈ cs, Cls K (He.ga K p.1)) (h : ownB K dd cs = true) : OwnIs K dd cs := by
  unfold ownB at h
  obtain ⟨h1, h2⟩ := He.ba h
  refine ⟨fun n hn => of_decide_eq_true (List.all_eq_true.mp h1 n hn), fun p hp => ?_⟩
  obtain ⟨h3, h4⟩ := He.ba (List.all_eq_true.mp h2 p hp)
  exact ⟨insB_ok (hc p hp) h3, of_decide_eq_true h4⟩
theorem kb_int (K : PySem.W.Frag) : ∀ n ∈ ["NoneType", "bool", "int", "str", "tuple", "list"], PySem.W.kitOne K (.type n) (.type "int") = (fB ["int"] (.b n)) := by
  intro n hn
  simp only [List.mem_cons, List.not_mem_nil, or_false] at hn
  rcases hn with rfl | rfl | rfl | rfl | rfl | rfl <;> kernel_rfl
theorem kb_bool (K : PySem.W.Frag) : ∀ n ∈ ["NoneType", "bool", "int", "str", "tuple", "list"], PySem.W.kitOne K (.type n) (.type "bool") = (fB ["bool"] (.b n)) := by
  intro n hn
  simp only [List.mem_cons, List.not_mem_nil, or_false] at hn
  rcases hn with rfl | rfl | rfl | rfl | rfl | rfl <;> kernel_rfl
theorem kb_str (K : PySem.W.Frag) : ∀ n ∈ ["NoneType", "bool", "int", "str", "tuple", "list"], PySem.W.kitOne K (.type n) (.type "str") = (fB ["str"] (.b n)) := by
  intro n hn
  simp only [List.mem_cons, List.not_mem_nil, or_false] at hn
  rcases hn with rfl | rfl | rfl | rfl | rfl | rfl <;> kernel_rfl
theorem kb_tuple (K : PySem.W.Frag) : ∀ n ∈ ["NoneType", "bool", "int", "str", "tuple", "list"], PySem.W.kitOne K (.type n) (.type "tuple") = (fB ["tuple"] (.b n)) := by
  intro n hn
  simp only [List.mem_cons, List.not_mem_nil, or_false] at hn
  rcases hn with rfl | rfl | rfl | rfl | rfl | rfl <;> kernel_rfl
theorem kb_list (K : PySem.W.Frag) : ∀ n ∈ ["NoneType", "bool", "int", "str", "tuple", "list"], PySem.W.kitOne K (.type n) (.type "list") = (fB ["list"] (.b n)) := by
  intro n hn
  simp only [List.mem_cons, List.not_mem_nil, or_false] at hn
  rcases hn with rfl | rfl | rfl | rfl | rfl | rfl <;> kernel_rfl
theorem kb_list_tuple (K : PySem.W.Frag) : ∀ n ∈ ["NoneType", "bool", "int", "str", "tuple", "list"], PySem.W.kitAny K (.type n) [.type "list", .type "tuple"] = (fB ["list", "tuple"] (.b n)) := by
  intro n hn
  simp only [List.mem_cons, List.not_mem_nil, or_false] at hn
  rcases hn with rfl | rfl | rfl | rfl | rfl | rfl <;> kernel_rfl
theorem kb_int_str (K : PySem.W.Frag) : ∀ n ∈ ["NoneType", "bool", "int", "str", "tuple", "list"], PySem.W.kitAny K (.type n) [.type "int", .type "str"] = (fB ["int", "str"] (.b n)) := by
  intro n hn
  simp only [List.mem_cons, List.not_mem_nil, or_false] at hn
  rcases hn with rfl | rfl | rfl | rfl | rfl | rfl <;> kernel_rfl
end Tb

/-! Defs, calls, classes, raise. -/
namespace Tb
open PySem PySem.Spec PyProof.Rows L2

abbrev FM := List D → LH → Res D
def spE (G : Gx) (n : Nat) (f : FM) : Sp := fun vs H Q E => vs.length = n ∧ ∃ A ρ lh ds, VRs G A ρ H vs ds ∧ SR G A ρ H lh ∧ PRg G A ρ H (VR G A) (f ds lh) (fun c H' => E (.ref (He.ga G.K c)) none H') Q
/-- a def with k more names than its parameters -/
def fnM (k : Nat) (b : SM) : FM := fun ds lh => match b (ds.map some ++ List.replicate k none) lh with
  | .nx _ lh => .ok .non lh
  | .rt d lh => .ok d lh
  | .exc c _ lh => .exc c lh
  | .bk _ _ => .stuck
  | .stuck => .stuck
abbrev WD (E : XK) : WX := fun cls d _ H => E cls d H
section
variable {P : Program} {w : World} {K : PySem.W.Frag} {mg : Str → Option Value} {base : Heap} {x qual : Str} {params : Arguments} {body : List Stmt} {scope : Scope} {f : Addr} {fd : FuncData}
theorem start_rel {G : Gx} {A : Addr → Prop} {ρ : List Addr} {H : Hp} {N : List Str} {vs : List V} {ds : List D} {k : Nat} (r : VRs G A ρ H vs ds) (hk : N.length = vs.length + k) : ER G A ρ H (L2.start N vs) (ds.map some ++ List.replicate k none) := by
  have hl := r.length
  refine ⟨by simp [L2.start, hl]; omega, fun i d h => ?_⟩
  by_cases hi : i < ds.length
  · rw [List.getElem?_append_left (by simpa using hi), List.getElem?_map] at h
    cases q : ds[i]? with
    | none => rw [q] at h; cases h
    | some d' =>
      rw [q] at h
      cases h
      obtain ⟨v, h1, h2⟩ := r.get q
      refine ⟨v, ?_, h2⟩
      unfold L2.start
      rw [List.getElem?_append_left (by simp; omega), List.getElem?_map, h1]
      rfl
  · rw [List.getElem?_append_right (by simpa using hi)] at h
    have := List.mem_of_getElem? h
    simp at this
theorem fn_ok {N ps : List Str} {j k n : Nat} (b : SM) (F : FunD K x qual params body scope [] [] f fd) (S : FnScope N ps scope) (hn : ps.length = n) (hk : N.length = n + k)
    (hb : ∀ (cdv : Value) (A : Around) (outer : List Env) (s : Shared) (H : Hp) (E : XK), Room j (A.deeper (envOfC qual scope s.heap.objs.size f cdv)) → ESs (cxOf (L2.CX P w) P w K mg base N qual scope f cdv A outer s H E) (WD E) body b) :
    FnOk P w K mg base (L2.CX P w) (j + 1) f fd ps (spE ⟨P, w, K⟩ n (fnM k b)) :=
  FunD.ok F S (fun vs H Q E h => by rw [h.1, hn]) fun cdv A outer s H vs Q E hr ⟨hl, A', ρ, lh, ds, rs, S', pr⟩ => ⟨_, hb cdv A outer s H E hr, A', ρ, _, lh, start_rel rs (by rw [hl]; exact hk), S', by
    unfold fnM at pr
    cases q : b (ds.map some ++ List.replicate k none) lh with
    | nx τ lh' => rw [q] at pr; exact fun ρ' H' σ' s' S'' e => pr ρ' H' _ s' S'' .non
    | rt d lh' => rw [q] at pr; exact fun ρ' H' v s' S'' r => pr ρ' H' v s' S'' r
    | bk τ lh' => rw [q] at pr; exact pr.elim
    | exc c τ lh' => rw [q] at pr; exact fun ρ' H' σ' s' S'' e => pr ρ' H' s' S''
    | stuck => rw [q] at pr; exact pr.elim⟩
/-- every parameter is given -/
theorem binds_of {ps : List Str} (F : FunD K x qual params body scope [] [] f fd) (h : ∀ (kV doc pm : Value) (an : Option Addr) (cdv ct : Value) (us : List Value), us.length = ps.length → bindArgs (PySem.W.fnOf x qual params body scope .none kV doc pm an cdv ct) ⟨us, []⟩ = pure (ps.zip us)) : Binds K fd ps [] := F.bindsN h
end

/-! ### calls -/
/-- the heap is the callee's, too -/
def eCallS (n : Nat) (f : FM) (m : AM) : EM := fun τ lh => (m τ lh).bind fun ds lh => if ds.length = n then f ds lh else .stuck
/-- only new lists within: as values -/
def frzN (lh : LH) : Nat → D → Option D
  | 0, _ => none
  | n + 1, d => match d with
    | .non => some .non
    | .bl b => some (.bl b)
    | .int i => some (.int i)
    | .str s => some (.str s)
    | .tup ds => (match mapO (frzN lh n) ds with
      | some ks => some (.tup ks)
      | none => none)
    | .loc a => (match lh[a]? with
      | some (.lst ds) => (match mapO (frzN lh n) ds with
        | some ks => some (.lst ks)
        | none => none)
      | _ => none)
    | _ => none
/-- a callee that keeps to itself: run on an empty heap; its result told by value -/
def callP (f : FM) (ds : List D) (lh : LH) : Res D := match mapO (frz [] fuel) ds with
  | some ds' => (match f ds' [] with
    | .ok d lh' => (match frz lh' fuel d with
      | some d' => .ok d' lh
      | none => .stuck)
    | .exc c _ => .exc c lh
    | .stuck => .stuck)
  | none => (match mapO (frz lh fuel) ds with
    | some ds' => (match f ds' [] with
      | .ok d lh' => (match frzN lh' fuel d with
        | some d' => .ok d' lh
        | none => .stuck)
      | .exc c _ => .exc c lh
      | .stuck => .stuck)
    | none => .stuck)
def eCallP (n : Nat) (f : FM) (m : AM) : EM := fun τ lh => (m τ lh).bind fun ds lh => if ds.length = n then callP f ds lh else .stuck
section
variable {G : Gx} {A B : Addr → Prop} {ρ ρ2 : List Addr} {H : Hp} {lh : LH}
/-- a key holds no list -/
theorem key_free : ∀ (m : Nat) {v : V} {d : D} {k : NestedKey}, toKey m d = some k → VR G A ρ H v d → VR G B ρ2 H v d := by
  intro m
  induction m with
  | zero => intro v d k h; cases h
  | succ m ih =>
    have all : ∀ {ds : List D} {vs : List V} {ks : List NestedKey}, mapO (toKey m) ds = some ks → VRs G A ρ H vs ds → VRs G B ρ2 H vs ds := by
      intro ds
      induction ds with
      | nil => intro vs ks _ r; cases r; exact .nil
      | cons d ds ih2 =>
        intro vs ks h r
        cases r with
        | cons r1 r2 =>
          obtain ⟨y, ys, h1, h2, _⟩ := mapO_cons h
          exact .cons (ih h1 r1) (ih2 h2 r2)
    intro v d k h r
    cases r with
    | non => exact .non
    | bl b => exact .bl b
    | int i => exact .int i
    | str s => exact .str s
    | @tup a vs ds q r =>
      simp only [toKey] at h
      cases e : mapO (toKey m) ds with
      | none => rw [e] at h; cases h
      | some ks => exact .tup q (all e r)
    | lst _ _ _ _ => cases h
    | scr _ _ => cases h
    | dic _ _ _ _ => cases h
    | loc _ => cases h
theorem frz_genL (L : ∀ (m : Nat) (a : Addr) (o : LO), ρ[m]? = some a → lh[m]? = some o → OR G A ρ H a o) (h1 : ∀ a o, H a = some o → ¬ A a → a ∉ ρ → ¬ B a ∧ a ∉ ρ2) (h2 : lh ≠ [] → ∀ a, a ∈ ρ → ¬ B a ∧ a ∉ ρ2) : ∀ (n : Nat) {v : V} {d d' : D}, VR G A ρ H v d → frz lh n d = some d' → VR G B ρ2 H v d' := by
  intro n
  induction n with
  | zero => intro v d d' _ h; cases h
  | succ n ih =>
    have all : ∀ {ds : List D} {vs : List V} {ks : List D}, VRs G A ρ H vs ds → mapO (frz lh n) ds = some ks → VRs G B ρ2 H vs ks := by
      intro ds
      induction ds with
      | nil => intro vs ks r h; cases r; cases h; exact .nil
      | cons d ds ih2 =>
        intro vs ks r h
        cases r with
        | cons r1 r2 =>
          obtain ⟨y, ys, e1, e2, rfl⟩ := mapO_cons h
          exact .cons (ih r1 e1) (ih2 r2 e2)
    have dr : ∀ {us : List D} {xs : List DEnt} {ks us' : List D}, DR G A ρ H xs ks us → mapO (frz lh n) us = some us' → DR G B ρ2 H xs ks us' := by
      intro us
      induction us with
      | nil => intro xs ks us' r h; cases r; cases h; exact .nil
      | cons d ds ih2 =>
        intro xs ks us' r h
        cases r with
        | cons e r1 rv r2 t =>
          obtain ⟨y, ys, e1, e2, rfl⟩ := mapO_cons h
          exact .cons e (key_free 8 e r1) rv (ih r2 e1) (ih2 t e2)
    intro v d d' r h
    cases r with
    | non => cases h; exact .non
    | bl b => cases h; exact .bl b
    | int i => cases h; exact .int i
    | str s => cases h; exact .str s
    | @tup a vs ds q r =>
      simp only [frz] at h
      cases e : mapO (frz lh n) ds with
      | none => rw [e] at h; cases h
      | some ks => rw [e] at h; cases h; exact .tup q (all r e)
    | @lst a vs ds q nA nρ r =>
      simp only [frz] at h
      cases e : mapO (frz lh n) ds with
      | none => rw [e] at h; cases h
      | some ks => rw [e] at h; cases h; exact .lst q (h1 _ _ q nA nρ).1 (h1 _ _ q nA nρ).2 (all r e)
    | @scr a vs ds q r =>
      simp only [frz] at h
      cases e : mapO (frz lh n) ds with
      | none => rw [e] at h; cases h
      | some ks =>
        rw [e] at h
        cases h
        refine .scr ?_ (all r e)
        rcases q with ⟨q, q1, q2⟩ | q | q
        · exact .inl ⟨q, h1 _ _ q q1 q2⟩
        · exact .inr (.inl q)
        · exact .inr (.inr q)
    | @dic a xs ks us q nA nρ r =>
      simp only [frz] at h
      cases e : mapO (frz lh n) us with
      | none => rw [e] at h; cases h
      | some ks => rw [e] at h; cases h; exact .dic q (h1 _ _ q nA nρ).1 (h1 _ _ q nA nρ).2 (dr r e)
    | @loc m a q =>
      have hm : a ∈ ρ := List.mem_of_getElem? q
      simp only [frz] at h
      cases e0 : lh[m]? with
      | none => rw [e0] at h; cases h
      | some o =>
        have k2 := L m a o q e0
        have h2 := h2 (by rintro rfl; simp at e0)
        rw [e0] at h
        cases o with
        | lst ds =>
          obtain ⟨vs, k3, k4⟩ := k2
          cases e : mapO (frz lh n) ds with
          | none => simp only [e] at h; cases h
          | some ks => simp only [e] at h; cases h; exact .lst k3 (h2 _ hm).1 (h2 _ hm).2 (all k4 e)
        | dic ks us =>
          obtain ⟨xs, k3, k4⟩ := k2
          cases e : mapO (frz lh n) us with
          | none => simp only [e] at h; cases h
          | some us' => simp only [e] at h; cases h; exact .dic k3 (h2 _ hm).1 (h2 _ hm).2 (dr k4 e)
        | ins _ _ => cases h
theorem SR.at_ (S : SR G A ρ H lh) : ∀ (m : Nat) (a : Addr) (o : LO), ρ[m]? = some a → lh[m]? = some o → OR G A ρ H a o := fun m a o q e => by
  obtain ⟨b, k1, k2⟩ := S.obj m o e
  rw [q] at k1
  cases k1
  exact k2
theorem frz_gen (S : SR G A ρ H lh) (h1 : ∀ a o, H a = some o → ¬ A a → a ∉ ρ → ¬ B a ∧ a ∉ ρ2) (h2 : ∀ a, a ∈ ρ → ¬ B a ∧ a ∉ ρ2) : ∀ (n : Nat) {v : V} {d d' : D}, VR G A ρ H v d → frz lh n d = some d' → VR G B ρ2 H v d' := frz_genL S.at_ h1 fun _ => h2
theorem frzN_gen (S : SR G A ρ H lh) (h2 : ∀ a, a ∈ ρ → ¬ B a ∧ a ∉ ρ2) : ∀ (n : Nat) {v : V} {d d' : D}, VR G A ρ H v d → frzN lh n d = some d' → VR G B ρ2 H v d' := by
  intro n
  induction n with
  | zero => intro v d d' _ h; cases h
  | succ n ih =>
    have all : ∀ {ds : List D} {vs : List V} {ks : List D}, VRs G A ρ H vs ds → mapO (frzN lh n) ds = some ks → VRs G B ρ2 H vs ks := by
      intro ds
      induction ds with
      | nil => intro vs ks r h; cases r; cases h; exact .nil
      | cons d ds ih2 =>
        intro vs ks r h
        cases r with
        | cons r1 r2 =>
          obtain ⟨y, ys, e1, e2, rfl⟩ := mapO_cons h
          exact .cons (ih r1 e1) (ih2 r2 e2)
    intro v d d' r h
    cases r with
    | non => cases h; exact .non
    | bl b => cases h; exact .bl b
    | int i => cases h; exact .int i
    | str s => cases h; exact .str s
    | @tup a vs ds q r =>
      simp only [frzN] at h
      cases e : mapO (frzN lh n) ds with
      | none => rw [e] at h; cases h
      | some ks => rw [e] at h; cases h; exact .tup q (all r e)
    | lst _ _ _ _ => cases h
    | scr _ _ => cases h
    | dic _ _ _ _ => cases h
    | @loc m a q =>
      have hm : a ∈ ρ := List.mem_of_getElem? q
      simp only [frzN] at h
      cases e0 : lh[m]? with
      | none => rw [e0] at h; cases h
      | some o =>
        obtain ⟨b, k1, k2⟩ := S.obj m o e0
        rw [q] at k1
        cases k1
        rw [e0] at h
        cases o with
        | lst ds =>
          obtain ⟨vs, k3, k4⟩ := k2
          cases e : mapO (frzN lh n) ds with
          | none => simp only [e] at h; cases h
          | some ks => simp only [e] at h; cases h; exact .lst k3 (h2 _ hm).1 (h2 _ hm).2 (all k4 e)
        | dic ks us => cases h
        | ins _ _ => cases h
theorem all_gen {f : D → Option D} (h : ∀ {v : V} {d d' : D}, VR G A ρ H v d → f d = some d' → VR G B ρ2 H v d') : ∀ {vs : List V} {ds ks : List D}, VRs G A ρ H vs ds → mapO f ds = some ks → VRs G B ρ2 H vs ks
  | _, [], _, r, e => by cases r; cases e; exact .nil
  | _, d :: ds, _, .cons r1 r2, e => by
    obtain ⟨y, ys, e1, e2, rfl⟩ := mapO_cons e
    exact .cons (h r1 e1) (all_gen h r2 e2)
/-- an empty logical heap, other addresses barred -/
theorem SR.none_ {B : Addr → Prop} (t : LamX.Tabs (tabsOf G.K) H) (h : ∀ a, B a → Trk H a) : SR G B [] H [] := ⟨rfl, List.nodup_nil, h, fun n o e => by simp at e, t⟩
/-- a step of a callee that has nothing of ours -/
theorem Stp.widen {ρ' : List Addr} {H' : Hp} (s : Stp [] H ρ' H') (ρ : List Addr) : Stp ρ H ρ H' := ⟨⟨[], by simp, fun _ z => absurd z (by simp)⟩, fun a o h k _ => s.frm a o h k (by simp), s.tup, s.frz, s.trk⟩
theorem SR.widen {ρ' : List Addr} {H' : Hp} (S : SR G A ρ H lh) (s : Stp [] H ρ' H') (t : LamX.Tabs (tabsOf G.K) H') : SR G A ρ H' lh := ⟨S.len, S.nd, fun a z => s.trk a (S.av a z), fun n o e => by
  obtain ⟨a, h1, h2⟩ := S.obj n o e
  exact ⟨a, h1, h2.stp (s.widen ρ) fun u z k => s.frm a u z k (by simp)⟩, t⟩
theorem Stp.new_ {ρ' : List Addr} {H' : Hp} (s : Stp [] H ρ' H') (S : SR G A ρ H lh) : ∀ a, a ∈ ρ' → ¬ A a ∧ a ∉ ρ := fun a ha => by
  obtain ⟨r, e, hn⟩ := s.pre
  rw [List.nil_append] at e
  rw [e] at ha
  exact ⟨S.notAF (hn a ha), S.freshF (hn a ha)⟩
theorem callP_rel {f : FM} {vs : List V} {ds : List D} {V' : Str → Hp → Prop} {Q : VK} (S : SR G A ρ H lh) (r : VRs G A ρ H vs ds) (h : PRg G A ρ H (VR G A) (callP f ds lh) V' Q) :
    ∃ A' ρ' lh' ds', VRs G A' ρ' H vs ds' ∧ SR G A' ρ' H lh' ∧ PRg G A' ρ' H (VR G A') (f ds' lh') V' Q := by
  unfold callP at h
  cases q : mapO (frz [] fuel) ds with
  | some ds' =>
    simp only [q] at h
    have S0 : SR G (fun a => A a ∨ a ∈ ρ) [] H [] := SR.none_ S.tab fun a z => z.elim (S.av a) S.mutT
    have r0 : VRs G (fun a => A a ∨ a ∈ ρ) [] H vs ds' := all_gen (fun r e => frz_genL (lh := []) (fun m a o _ z => by simp at z) (fun a o ho n1 n2 => ⟨fun z => z.elim n1 n2, by simp⟩) (fun z => absurd rfl z) _ r e) r q
    refine ⟨fun a => A a ∨ a ∈ ρ, [], [], ds', r0, S0, ?_⟩
    cases e : f ds' [] with
    | ok d lh' =>
      simp only [e] at h
      intro ρ' H' v s S' rv
      cases e2 : frz lh' fuel d with
      | none => simp only [e2] at h; exact h.elim
      | some d' =>
        simp only [e2] at h
        exact h ρ H' v (s.widen ρ) (S.widen s S'.tab) (frz_gen S' (fun a o ho n1 n2 => ⟨fun z => n1 (.inl z), fun z => n1 (.inr z)⟩) (s.new_ S) _ rv e2)
    | exc c lh' =>
      simp only [e] at h
      exact fun ρ' H' s S' => h ρ H' (s.widen ρ) (S.widen s S'.tab)
    | stuck => simp only [e] at h; exact h.elim
  | none =>
    simp only [q] at h
    cases q2 : mapO (frz lh fuel) ds with
    | none => simp only [q2] at h; exact h.elim
    | some ds' =>
      simp only [q2] at h
      have S0 : SR G (fun a => A a ∧ a ∉ ρ) [] H [] := SR.none_ S.tab fun a z => S.av a z.1
      have r0 : VRs G (fun a => A a ∧ a ∉ ρ) [] H vs ds' := all_gen (fun r e => frz_gen S (fun a o ho n1 n2 => ⟨fun z => n1 z.1, by simp⟩) (fun a ha => ⟨fun z => z.2 ha, by simp⟩) _ r e) r q2
      refine ⟨fun a => A a ∧ a ∉ ρ, [], [], ds', r0, S0, ?_⟩
      cases e : f ds' [] with
      | ok d lh' =>
        simp only [e] at h
        intro ρ' H' v s S' rv
        cases e2 : frzN lh' fuel d with
        | none => simp only [e2] at h; exact h.elim
        | some d' =>
          simp only [e2] at h
          exact h ρ H' v (s.widen ρ) (S.widen s S'.tab) (frzN_gen S' (s.new_ S) _ rv e2)
      | exc c lh' =>
        simp only [e] at h
        exact fun ρ' H' s S' => h ρ H' (s.widen ρ) (S.widen s S'.tab)
      | stuck => simp only [e] at h; exact h.elim
end

section
variable {X : Cx} {W : WX} {k n : Nat} {f C : Addr} {fd : FuncData} {ps : List Str} {x m : Str} {p pos apos : Pos} {e o : Expr} {es : List Expr} {ma : AM} {mo : EM} {fm : FM}
/-- f(e, ..), an own def -/
theorem ee_callS (tk : Takes X W) (F : FnOk X.prog X.w X.K X.mg X.base (L2.CX X.prog X.w) k f fd ps (spE (gx X) n fm)) (hr : Room k X.A) (hm : X.mg x = some (.ref f)) (hk : PySem.W.keepIn X.K (.ref f) = true) (hb : Binds X.K fd ps []) (ha : EA X W (e :: es) ma) (hg : Gl X x := by rfl)
    (hdb : (x == ("__debug__" : Str)) = false := by decide) (he : starEach (e :: es) X.env = (false, eval e X.env) :: starEach es X.env := by rfl) (hpl : (backTo pos (starEach es X.env)).any (·.1) = false := by rfl) : EE X W (.Call (.Name x p) (e :: es) [] pos) (eCallS n fm ma) :=
  peImp (pe_callS (E := WE W) F hr hg hm hk hb (fun σ => passAt tk σ) ha hdb he hpl) fun σ H Q ⟨A, ρ, τ, lh, er, S, pr⟩ => ⟨A, ρ, τ, lh, er, S, PRg.thn pr fun ds lh1 ρ1 H1 xs s1 S1 r1 pr1 => by
    by_cases hn : ds.length = n
    · rw [if_pos hn] at pr1
      exact ⟨by rw [r1.length]; exact hn, A, ρ1, lh1, ds, r1, S1, pr1⟩
    · rw [if_neg hn] at pr1
      exact pr1.elim⟩
theorem ee_callP (tk : Takes X W) (F : FnOk X.prog X.w X.K X.mg X.base (L2.CX X.prog X.w) k f fd ps (spE (gx X) n fm)) (hr : Room k X.A) (hm : X.mg x = some (.ref f)) (hk : PySem.W.keepIn X.K (.ref f) = true) (hb : Binds X.K fd ps []) (ha : EA X W (e :: es) ma) (hg : Gl X x := by rfl)
    (hdb : (x == ("__debug__" : Str)) = false := by decide) (he : starEach (e :: es) X.env = (false, eval e X.env) :: starEach es X.env := by rfl) (hpl : (backTo pos (starEach es X.env)).any (·.1) = false := by rfl) : EE X W (.Call (.Name x p) (e :: es) [] pos) (eCallP n fm ma) :=
  peImp (pe_callS (E := WE W) F hr hg hm hk hb (fun σ => passAt tk σ) ha hdb he hpl) fun σ H Q ⟨A, ρ, τ, lh, er, S, pr⟩ => ⟨A, ρ, τ, lh, er, S, PRg.thn pr fun ds lh1 ρ1 H1 xs s1 S1 r1 pr1 => by
    by_cases hn : ds.length = n
    · rw [if_pos hn] at pr1
      obtain ⟨A', ρ', lh', ds', r', S', pr'⟩ := callP_rel S1 r1 pr1
      exact ⟨by rw [r1.length]; exact hn, A', ρ', lh', ds', r', S', pr'⟩
    · rw [if_neg hn] at pr1
      exact pr1.elim⟩
end

/-! ### instances: made, fields set, methods -/
def putD (f : Str) (v : D) : List (Str × D) → List (Str × D)
  | [] => [(f, v)]
  | (g, x) :: r => if g = f then (g, v) :: r else (g, x) :: putD f v r
theorem put_fr {G : Gx} {A : Addr → Prop} {ρ : List Addr} {H : Hp} {f : Str} {v : V} {d : D} (h : VR G A ρ H v d) : ∀ {gs : List (Str × V)} {fs : List (Str × D)}, FR G A ρ H gs fs → FR G A ρ H (putF f v gs) (putD f d fs)
  | _, _, .nil => .cons h .nil
  | _, _, .cons (f := g) q r => by
    unfold putF putD
    by_cases e : g = f
    · rw [if_pos e, if_pos e]; exact .cons h r
    · rw [if_neg e, if_neg e]; exact .cons q (put_fr h r)
theorem FR.length {G : Gx} {A : Addr → Prop} {ρ : List Addr} {H : Hp} : ∀ {gs : List (Str × V)} {fs : List (Str × D)}, FR G A ρ H gs fs → gs.length = fs.length
  | _, _, .nil => rfl
  | _, _, .cons _ r => by rw [List.length_cons, List.length_cons, FR.length r]
/-- o.f = e: the value first -/
def sFldM (cs : List Str) (f : Str) (m mo : EM) : SM := fun τ lh => (m τ lh).toS τ fun v lh => (mo τ lh).toS τ fun d lh => match insAt lh d with
  | some (n, c, fs) => if cs.contains c = true ∧ fs.length < 1000 then .nx τ (lh.set n (.ins c (putD f v fs))) else .stuck
  | none => .stuck
/-- a new instance, then __init__ -/
def eMake (c : Str) (n : Nat) (f : FM) (m : AM) : EM := fun τ lh => (m τ lh).bind fun ds lh => if ds.length + 1 = n then (match f (.loc lh.length :: ds) (lh ++ [.ins c []]) with
  | .ok .non lh' => .ok (.loc lh.length) lh'
  | .exc c lh => .exc c lh
  | _ => .stuck) else .stuck
/-- o.m(e, ..): the instance's class tells the def -/
def eMeth (ms : List (Str × FM)) (mn : Str) (n : Nat) (mo : EM) (m : AM) : EM := fun τ lh => (mo τ lh).bind fun d lh => match insAt lh d with
  | some (_, c, fs) => if (fs.lookup mn).isNone = true then (match ms.lookup c with
    | some f => (m τ lh).bind fun ds lh => if ds.length + 1 = n then f (d :: ds) lh else .stuck
    | none => .stuck) else .stuck
  | none => .stuck
section
variable {X : Cx} {W : WX} {k n : Nat} {f C : Addr} {fd : FuncData} {ps : List Str} {x m : Str} {p pos apos pos' : Pos} {e o value : Expr} {es : List Expr} {ma : AM} {mo mv : EM} {fm : FM}
theorem es_fld {f : Str} (cs : List Str) (hc : ∀ c ∈ cs, Cls X.K (He.ga X.K c) ∧ NoAttr X.K (He.ga X.K c) f) (ho : EE X W o mo) (hv : EE X W value mv) (hs : swapsWith value (some (.Attribute o f pos')) pos.line X.env = pure false := by rfl) : ES X W (.Assign [.Attribute o f pos'] value pos) (sFldM cs f mv mo) :=
  psImp (ps_fld ho hv hs) fun E σ H ⟨A, ρ, τ, lh, er, S, pr⟩ => ⟨A, ρ, τ, lh, er, S, PSR.thn er pr fun v lh1 ρ1 H1 y s1 S1 r1 pr1 => ⟨A, ρ1, τ, lh1, er.stp s1, S1, PSR.thn (er.stp s1) pr1 fun d lh2 ρ2 H2 z s2 S2 r2 pr2 => by
    cases q : insAt lh2 d with
    | none => simp only [q] at pr2; exact pr2.elim
    | some t =>
      obtain ⟨n, c, fs⟩ := t
      simp only [q] at pr2
      by_cases hq : cs.contains c = true ∧ fs.length < 1000
      · rw [if_pos hq] at pr2
        obtain ⟨a, dx, gs, rfl, rfl, hn, hl, ha, hf⟩ := ins_rel S2 r2 q
        obtain ⟨k1, k2⟩ := hc c (by simpa using hq.1)
        obtain ⟨u, hu, mu⟩ := S2.mut (List.mem_of_getElem? hn)
        have st : Stp ρ2 H2 ρ2 (upd H2 a (.ins (He.ga X.K c) dx (putF f y gs))) := stp_set hn hu mu
        exact ⟨a, _, dx, gs, rfl, ha, k1, k2, by rw [hf.length]; exact hq.2, pr2 ρ2 _ σ st (S2.set hn ⟨dx, _, upd_same, (put_fr (r1.stp s2) hf).stp st⟩) (((er.stp s1).stp s2).stp st)⟩
      · rw [if_neg hq] at pr2
        exact pr2.elim⟩⟩
theorem make_rel {G : Gx} {A : Addr → Prop} {ρ : List Addr} {H : Hp} {lh : LH} {c : Str} {a dx : Addr} (S : SR G A ρ H lh) (ha : H a = none) (hd : H dx = none) (hne : dx ≠ a) :
    Stp ρ H (ρ ++ [a]) (upd (upd H dx (.own a)) a (.ins (He.ga G.K c) dx [])) ∧ SR G A (ρ ++ [a]) (upd (upd H dx (.own a)) a (.ins (He.ga G.K c) dx [])) (lh ++ [.ins c []]) := by
  have h2 : (upd H dx (.own a)) a = none := by rw [upd_ne (Ne.symm hne)]; exact ha
  have S2 := S.new (o := .own a) hd
  exact ⟨(stp_new (ρ := ρ) (o := .own a) hd).trans (stp_loc h2), S2.newLoc h2 ⟨dx, [], upd_same, .nil⟩⟩
theorem ee_make (tk : Takes X W) (M : Mk X.K (He.ga X.K x) f) (F : FnOk X.prog X.w X.K X.mg X.base (L2.CX X.prog X.w) k f fd ps (spE (gx X) n fm)) (hr : Room (k + 1) X.A) (hm : X.mg x = some (.ref (He.ga X.K x))) (hb : Binds X.K fd ps []) (ha : EA X W (e :: es) ma)
    (hW : ∀ c σ σ' H, W c none σ H → W c none σ' H := by intro _ _ _ _ h; exact h) (hg : Gl X x := by rfl)
    (hdb : (x == ("__debug__" : Str)) = false := by decide) (he : starEach (e :: es) X.env = (false, eval e X.env) :: starEach es X.env := by rfl) (hpl : (backTo pos (starEach es X.env)).any (·.1) = false := by rfl) : EE X W (.Call (.Name x p) (e :: es) [] pos) (eMake x n fm ma) :=
  peImp (pe_make (E := fun cls d H => ∀ σ, W cls d σ H) M F hr hg hm hb (dvs := []) .nil (passes_call tk fun cls d σ H h => h σ) ha hdb he hpl) fun σ H Q ⟨A, ρ, τ, lh, er, S, pr⟩ => ⟨A, ρ, τ, lh, er, S, PRg.thn pr fun ds lh1 ρ1 H1 xs s1 S1 r1 pr1 => by
    intro a dx h1 h2 h3
    by_cases hn : ds.length + 1 = n
    · rw [if_pos hn] at pr1
      obtain ⟨t1, t2⟩ := make_rel (c := x) S1 h1 h2 h3
      have el : ρ1.length = lh1.length := S1.len
      have eL : (ρ1 ++ [a])[lh1.length]? = some a := by rw [← el]; simp
      rw [List.append_nil]
      refine ⟨by rw [List.length_cons, r1.length]; exact hn, A, _, _, .loc lh1.length :: ds, .cons (.loc eL) (r1.stp t1), t2, ?_⟩
      have e0 : (gx X).K = X.K := rfl
      cases q : fm (.loc lh1.length :: ds) (lh1 ++ [.ins x []]) with
      | ok d lh2 =>
        rw [q] at pr1
        cases d with
        | non =>
          intro ρ2 H2 b s2 S2 r2
          cases r2
          exact ⟨rfl, pr1 ρ2 H2 _ (t1.trans s2) S2 (.loc (s2.get eL))⟩
        | _ => exact pr1.elim
      | exc c lh2 =>
        rw [q] at pr1
        exact fun ρ2 H2 s2 S2 σ' => hW _ _ _ _ (pr1 ρ2 H2 (t1.trans s2) S2)
      | stuck => rw [q] at pr1; exact pr1.elim
    · rw [if_neg hn] at pr1
      exact pr1.elim⟩
end
end Tb

/-! Methods, raise, list(range), sorted. -/
namespace Tb
open PySem PySem.Spec PyProof.Rows L2

/-- o.m(e, ..), no exception of o -/
def eMethM (ms : List (Str × FM)) (mn : Str) (n : Nat) (mo : EM) (m : AM) : EM := fun τ lh => match mo τ lh with
  | .ok d lh => (match insAt lh d with
    | some (_, c, fs) => if (fs.lookup mn).isNone = true then (match ms.lookup c with
      | some f => (m τ lh).bind fun ds lh => if ds.length + 1 = n then f (d :: ds) lh else .stuck
      | none => .stuck) else .stuck
    | none => .stuck)
  | _ => .stuck
def MethOk (X : Cx) (m : Str) (n : Nat) (c : Str) (fm : FM) : Prop := ∃ (f : Addr) (fd : FuncData) (ps : List Str) (k : Nat), Cls X.K (He.ga X.K c) ∧ Meth X.K (He.ga X.K c) m f ∧ FnOk X.prog X.w X.K X.mg X.base (L2.CX X.prog X.w) k f fd ps (spE (gx X) n fm) ∧ Room k X.A ∧ Binds X.K fd ps []
theorem lookup_mem {α : Type} {x : Str} {v : α} : ∀ {l : List (Str × α)}, l.lookup x = some v → (x, v) ∈ l
  | [], h => by cases h
  | p :: l, h => by
    rw [List.lookup_cons] at h
    by_cases z : (x == p.1) = true
    · rw [z] at h
      cases h
      rw [eq_of_beq z]
      exact List.mem_cons_self
    · rw [Bool.eq_false_iff.mpr z] at h
      exact List.mem_cons_of_mem _ (lookup_mem h)
section
variable {X : Cx} {W : WX} {n : Nat} {x m : Str} {p pos apos p2 : Pos} {e o : Expr} {es : List Expr} {ma : AM} {mo : EM} {j : Nat}
theorem ee_meth (ms : List (Str × FM)) (tk : Takes X W) (hms : ∀ q ∈ ms, MethOk X m n q.1 q.2) (ho : EE X W o mo) (ha : EA X W (e :: es) ma)
    (hW : ∀ c σ σ' H, W c none σ H → W c none σ' H := by intro _ _ _ _ h; exact h) {pl : Sem Bool}
    (hst : starEach (e :: es) X.env = (false, eval e X.env) :: starEach es X.env := by rfl) (hpl : (backTo pos (starEach es X.env)).any (·.1) = false := by rfl)
    (ht : eval (.Call (.Attribute o m apos) (e :: es) [] pos) X.env = (do
      let ov ← eval o X.env
      standAt apos.atName
      let (f, first) ← holding [ov] (getMethod ov m pl)
      callWith pos f first (backTo pos (starEach (e :: es) X.env)) (backToKw pos (keywordEach [] X.env))) := by rfl) : EE X W (.Call (.Attribute o m apos) (e :: es) [] pos) (eMethM ms m n mo ma) :=
  ⟨fun pins s σ H Q I ⟨A, ρ, τ, lh, er, S, pr⟩ => by
    unfold eMethM at pr
    cases q : mo τ lh with
    | exc _ _ => simp only [q] at pr; exact pr.elim
    | stuck => simp only [q] at pr; exact pr.elim
    | ok d lh1 =>
      simp only [q] at pr
      cases qi : insAt lh1 d with
      | none => simp only [qi] at pr; exact pr.elim
      | some t =>
        obtain ⟨ix, c, fs⟩ := t
        simp only [qi] at pr
        by_cases hl : (fs.lookup m).isNone = true
        · rw [if_pos hl] at pr
          cases qm : ms.lookup c with
          | none => simp only [qm] at pr; exact pr.elim
          | some fm =>
            simp only [qm] at pr
            obtain ⟨f, fd, ps, k, hc, hm, F, hr, hb⟩ := hms _ (lookup_mem qm)
            refine (pe_meth (pl := pl) (E := fun cls d H => ∀ σ, W cls d σ H) (dvs := []) ho hc hm F hr hb .nil (passes_call tk fun cls d σ H h => h σ) ha hst hpl ht).run pins s σ H Q I ⟨A, ρ, τ, lh, er, S, ?_⟩
            refine PRg.get q fun ρ1 H1 v s1 S1 r1 => ?_
            obtain ⟨a, dx, gs, rfl, rfl, hn, hlh, hH, hf⟩ := ins_rel S1 r1 qi
            have hno : gs.lookup m = none := hf.lookupN (by simpa using hl)
            refine ⟨a, dx, gs, rfl, hH, hno, A, ρ1, τ, lh1, er.stp s1, S1, ?_⟩
            have pr1 := PRg.stp s1 pr
            refine PRg.thn pr1 fun ds lh2 ρ2 H2 vs s2 S2 r2 pr2 => ?_
            by_cases hn2 : ds.length + 1 = n
            · rw [if_pos hn2] at pr2
              rw [List.append_nil]
              refine ⟨by rw [List.length_cons, r2.length]; exact hn2, A, ρ2, lh2, _ :: ds, .cons (r1.stp s2) r2, S2, ?_⟩
              show PRg (gx X) A ρ2 H2 (VR (gx X) A) (fm (.loc ix :: ds) lh2) _ Q
              cases qf : fm (.loc ix :: ds) lh2 with
              | ok d2 lh3 => rw [qf] at pr2; exact pr2
              | exc c2 lh3 => rw [qf] at pr2; exact fun ρ3 H3 s3 S3 σ' => hW _ _ _ _ (pr2 ρ3 H3 s3 S3)
              | stuck => rw [qf] at pr2; exact pr2.elim
            · rw [if_neg hn2] at pr2
              exact pr2.elim
        · rw [if_neg hl] at pr
          exact pr.elim⟩
theorem ee_meth0 (ms : List (Str × FM)) (tk : Takes X W) (hms : ∀ q ∈ ms, MethOk X m n q.1 q.2) (ho : EE X W o mo)
    (hW : ∀ c σ σ' H, W c none σ H → W c none σ' H := by intro _ _ _ _ h; exact h) {pl : Sem Bool}
    (ht : eval (.Call (.Attribute o m apos) [] [] pos) X.env = (do
      let ov ← eval o X.env
      standAt apos.atName
      let (f, first) ← holding [ov] (getMethod ov m pl)
      callWith pos f first (backTo pos (starEach [] X.env)) (backToKw pos (keywordEach [] X.env))) := by rfl) : EE X W (.Call (.Attribute o m apos) [] [] pos) (eMethM ms m n mo aNil) :=
  ⟨fun pins s σ H Q I ⟨A, ρ, τ, lh, er, S, pr⟩ => by
    unfold eMethM at pr
    cases q : mo τ lh with
    | exc _ _ => simp only [q] at pr; exact pr.elim
    | stuck => simp only [q] at pr; exact pr.elim
    | ok d lh1 =>
      simp only [q] at pr
      cases qi : insAt lh1 d with
      | none => simp only [qi] at pr; exact pr.elim
      | some t =>
        obtain ⟨ix, c, fs⟩ := t
        simp only [qi] at pr
        by_cases hl : (fs.lookup m).isNone = true
        · rw [if_pos hl] at pr
          cases qm : ms.lookup c with
          | none => simp only [qm] at pr; exact pr.elim
          | some fm =>
            simp only [qm] at pr
            obtain ⟨f, fd, ps, k, hc, hm, F, hr, hb⟩ := hms _ (lookup_mem qm)
            refine (pe_meth0 (pl := pl) (E := fun cls d H => ∀ σ, W cls d σ H) (dvs := []) ho hc hm F hr hb .nil (passes_call tk fun cls d σ H h => h σ) ht).run pins s σ H Q I ⟨A, ρ, τ, lh, er, S, ?_⟩
            refine PRg.get q fun ρ1 H1 v s1 S1 r1 => ?_
            obtain ⟨a, dx, gs, rfl, rfl, hn, hlh, hH, hf⟩ := ins_rel S1 r1 qi
            have hno : gs.lookup m = none := hf.lookupN (by simpa using hl)
            refine ⟨a, dx, gs, rfl, hH, hno, ?_⟩
            have pr1 := PRg.stp s1 pr
            have pr2 : PRg (gx X) A ρ1 H1 (VR (gx X) A) (if ([] : List D).length + 1 = n then fm [.loc ix] lh1 else .stuck) (wAt (gx X) W σ) Q := pr1
            show spE (gx X) n fm [.ref a] H1 Q (fun cls d H => ∀ σ, W cls d σ H)
            by_cases hn2 : ([] : List D).length + 1 = n
            · rw [if_pos hn2] at pr2
              refine ⟨hn2, A, ρ1, lh1, [.loc ix], .cons r1 .nil, S1, ?_⟩
              show PRg (gx X) A ρ1 H1 (VR (gx X) A) (fm [.loc ix] lh1) _ Q
              cases qf : fm [.loc ix] lh1 with
              | ok d2 lh3 => rw [qf] at pr2; exact pr2
              | exc c2 lh3 => rw [qf] at pr2; exact fun ρ3 H3 s3 S3 σ' => hW _ _ _ _ (pr2 ρ3 H3 s3 S3)
              | stuck => rw [qf] at pr2; exact pr2.elim
            · rw [if_neg hn2] at pr2
              exact pr2.elim
        · rw [if_neg hl] at pr
          exact pr.elim⟩
/-- raise X('..') -/
def sRaise (x : Str) : SM := fun τ lh => .exc x τ lh
theorem es_raise (hc : X.calm = true) (tk : Takes X W) (q : PySem.W.excIn X.K (He.ga X.K x) He.veBase "ValueError.__new__" = true) (gC : X.mg x = some (.ref (He.ga X.K x))) (kC : PySem.W.keepIn X.K (.ref (He.ga X.K x)) = true)
    (h1 : PySem.W.subIn X.K (.ref (He.ga X.K x)) (.type "BaseException") = some true) (h2 : PySem.W.typeIn X.K (.ref (He.ga X.K x)) = some (.type "type")) (hg : Gl X x := by rfl) (hdb : (x == ("__debug__" : Str)) = false := by decide) :
    ES X W (.Raise (some (.Call (.Name x p) [.Constant (.str m) j p2] [] pos)) none apos) (sRaise x) :=
  psImp (ps_raise hc tk (pmk_own PySem.F.excBase_ValueError q gC kC (raises_own h1 h2) hg hdb)) fun E σ H ⟨A, ρ, τ, lh, er, S, pr⟩ => pr ρ H σ (Stp.refl _ _) S er
end

/-! ### list(range(n)) -/
def eLisRng (al : Bool) (m : EM) : EM := fun τ lh => (m τ lh).bind fun d lh => match d with
  | .int j => if -(2 ^ 62) ≤ j ∧ j ≤ 2 ^ 24 then (Ro.l (intsD 0 j.toNat)).res al lh else .stuck
  | _ => .stuck
theorem rgV_rel {G : Gx} {A : Addr → Prop} {ρ : List Addr} {H : Hp} (n : Nat) : ∀ lo : Int, VRs G A ρ H ((List.range n).map fun i => V.int (lo + (i : Nat))) (intsD lo n) := by
  unfold intsD
  have : ∀ (l : List Nat) (lo : Int), VRs G A ρ H (l.map fun i => V.int (lo + (i : Nat))) (l.map fun i => D.int (lo + (i : Nat))) := by
    intro l
    induction l with
    | nil => intro lo; exact .nil
    | cons a l ih => intro lo; exact .cons (.int _) (ih lo)
  exact this _
section
variable {X : Cx} {W : WX} {e : Expr} {m : EM} {p p2 pos pos2 : Pos}
theorem ee_lisRng (al : Bool) (hc : X.calm = true) (h : EE X W e m) (hm : X.mg "list" = none) (hm2 : X.mg "range" = none) (hg : Gl X "list" := by rfl) (hg2 : Gl X "range" := by rfl) (na : starEach [e] X.env = (false, eval e X.env) :: starEach [] X.env := by rfl)
    (na2 : starEach [.Call (.Name "range" p2) [e] [] pos2] X.env = (false, eval (.Call (.Name "range" p2) [e] [] pos2) X.env) :: starEach [] X.env := by rfl) : EE X W (.Call (.Name "list" p) [.Call (.Name "range" p2) [e] [] pos2] [] pos) (eLisRng al m) :=
  peImp (pe_listRg hc hg hm (prg_1 hg2 hm2 h na) na2) fun σ H Q ⟨A, ρ, τ, lh, er, S, pr⟩ => ⟨A, ρ, τ, lh, er, S, PRg.thn pr fun d lh1 ρ1 H1 x s1 S1 r1 pr1 => by
    cases r1 with
    | int j =>
      simp only at pr1
      split at pr1
      · rename_i hj
        refine ⟨j, rfl, ⟨by omega, by omega, hj.1, by omega, by omega⟩, ?_⟩
        have e0 : rgV 0 j = (List.range j.toNat).map fun i => V.int (0 + (i : Nat)) := by unfold rgV; rw [Int.sub_zero]
        rw [e0]
        exact PRo.new (PRo.of pr1) S1 (rgV_rel _ 0)
      · exact pr1.elim
    | _ => exact pr1.elim⟩
end

/-! ### sorted -/
section
variable {α : Type} (le : α → α → Bool)
def insS (a : α) : List α → List α
  | [] => [a]
  | b :: l => if le a b = true then a :: b :: l else b :: insS a l
def isort : List α → List α
  | [] => []
  | a :: l => insS le a (isort l)
theorem insS_app {le : α → α → Bool} (a : α) : ∀ (l1 l2 : List α), (∀ b ∈ l1, (!le a b) = true) → (∀ b, l2.head? = some b → le a b = true) → insS le a (l1 ++ l2) = l1 ++ a :: l2
  | [], [], _, _ => rfl
  | [], b :: l2, _, h => by
    show insS le a (b :: l2) = a :: b :: l2
    unfold insS
    rw [if_pos (h b rfl)]
  | b :: l1, l2, h, h2 => by
    show insS le a (b :: (l1 ++ l2)) = b :: (l1 ++ a :: l2)
    unfold insS
    have := h b List.mem_cons_self
    rw [if_neg (by simpa using this), insS_app a l1 l2 (fun c hc => h c (List.mem_cons_of_mem _ hc)) h2]
theorem isort_eq {le : α → α → Bool} (trans : ∀ a b c, le a b = true → le b c = true → le a c = true) (total : ∀ a b, (le a b || le b a) = true) : ∀ l : List α, l.mergeSort le = isort le l
  | [] => by simp [isort]
  | a :: l => by
    obtain ⟨l1, l2, h1, h2, h3⟩ := List.mergeSort_cons (le := le) trans total a l
    have hs : (List.mergeSort (a :: l) le).Pairwise (fun a b => le a b = true) := List.pairwise_mergeSort (fun a b c => trans a b c) (fun a b => total a b) _
    rw [h1] at hs ⊢
    unfold isort
    rw [← isort_eq trans total l, h2]
    refine (insS_app a l1 l2 h3 fun b hb => ?_).symm
    have hs2 := (List.pairwise_append.mp hs).2.1
    cases l2 with
    | nil => cases hb
    | cons c l2 =>
      cases hb
      exact (List.pairwise_cons.mp hs2).1 _ List.mem_cons_self
end
def leP (a b : D × PyData) : Bool := PySem.W.dataLe false (fun x : D × PyData => x.2) a b
def tupNe : PyData → Bool
  | .tuple (_ :: _) => true
  | _ => false
def othB : PyData → Bool
  | .none => false
  | .tuple _ => false
  | _ => true
def sortG (lh : LH) (ds : List D) : Ro := match ds with
  | [d] => (match asL lh d with
    | some xs => (match mapO (toP lh fuel) xs with
      | some ps => if ((ps.all fun p => ps.all fun q => PySem.W.alike p q) && ((ps.all tupNe || ps.all othB) && (decide (xs.length ≤ sizeLine) && ps.all fun p => decide (p.depth ≤ 64)))) = true then .l ((isort leP (xs.zip ps)).map (·.1)) else .no
      | none => .no)
    | none => .no)
  | _ => .no
theorem tri {G : Gx} {A : Addr → Prop} {ρ : List Addr} {H : Hp} (n : Nat) (lh : LH) (Pd : V → PyData → Prop) (hP : ∀ {v : V} {d : D} {p : PyData}, VR G A ρ H v d → toP lh n d = some p → Pd v p) : ∀ {vs : List V} {ds : List D} {ps : List PyData}, VRs G A ρ H vs ds → mapO (toP lh n) ds = some ps →
    ∃ bs : List (V × D × PyData), bs.map (·.1) = vs ∧ bs.map (fun b => (b.2.1, b.2.2)) = ds.zip ps ∧ bs.map (fun b => b.2.2) = ps ∧ ∀ b ∈ bs, VR G A ρ H b.1 b.2.1 ∧ Pd b.1 b.2.2
  | _, [], _, r, h => by cases r; cases h; exact ⟨[], rfl, rfl, rfl, fun b hb => by simp at hb⟩
  | _, d :: ds, _, .cons r1 r2, h => by
    obtain ⟨y, ys, h1, h2, rfl⟩ := mapO_cons h
    obtain ⟨bs, b1, b2, b3, b4⟩ := tri n lh Pd hP r2 h2
    refine ⟨(_, d, y) :: bs, by rw [List.map_cons, b1], by rw [List.map_cons, b2, List.zip_cons_cons], by rw [List.map_cons, b3], fun b hb => ?_⟩
    rcases List.mem_cons.mp hb with rfl | hb
    · exact ⟨r1, hP r1 h1⟩
    · exact b4 b hb
theorem each_vals {bs : List (V × D × PyData)} : ∀ {us : List Value}, Vals (bs.map (·.1)) us → PySem.W.EachIs (fun u (b : V × D × PyData) => RelV b.1 u) us bs := by
  induction bs with
  | nil => intro us h; cases h; exact .nil
  | cons b bs ih =>
    intro us h
    cases h with
    | cons h1 h2 => exact .cons h1 (ih h2)
theorem vals_each {bs : List (V × D × PyData)} : ∀ {us : List Value}, PySem.W.EachIs (fun u (b : V × D × PyData) => RelV b.1 u) us bs → Vals (bs.map (·.1)) us := by
  induction bs with
  | nil => intro us h; cases h; exact .nil
  | cons b bs ih =>
    intro us h
    cases h with
    | cons h1 h2 => exact .cons h1 (ih h2)
theorem each_imp {α β : Type} {R S : α → β → Prop} : ∀ {as : List α} {bs : List β}, PySem.W.EachIs R as bs → (∀ a b, b ∈ bs → R a b → S a b) → PySem.W.EachIs S as bs
  | _, _, .nil, _ => .nil
  | _, _, .cons h t, f => .cons (f _ _ List.mem_cons_self h) (each_imp t fun a b hb => f a b (List.mem_cons_of_mem _ hb))
section
variable {X : Cx}
theorem cb_sorted (hu : X.A.units + 200 < cLine) : CallD X (.builtin "sorted") sortG := by
  intro al pins s σ H xs us Q I r ⟨A, ρ, lh, ds, S, rs, pr⟩
  unfold sortG at pr
  split at pr
  · rename_i d
    split at pr
    · rename_i xs1 h1
      split at pr
      · rename_i ps h2
        split at pr
        · rename_i hc
          obtain ⟨c1, hc⟩ := He.ba hc
          obtain ⟨c2, hc⟩ := He.ba hc
          obtain ⟨c3, c4⟩ := He.ba hc
          obtain ⟨v, rfl, rv⟩ := rs.one
          obtain ⟨a, vs, rfl, hq, r2⟩ := asL_rel S rv h1
          obtain ⟨u, rfl, ru⟩ := vals1 r
          obtain rfl : u = Value.ref a := ru
          obtain ⟨its, rvi, pl, hz⟩ := I.list hq
          obtain ⟨bs, b1, b2, b3, b4⟩ := tri fuel lh (fun v p => Dp X.K H v p) (fun r e => toP_dp S fuel r e) r2 h2
          subst b1
          have e1 : PySem.W.EachIs (fun u (b : V × D × PyData) => RelV b.1 u) its bs := each_vals rvi
          have e2 : PySem.W.EachIs (fun u (b : V × D × PyData) => ∃ as, Reads s.heap u b.2.2 as) its bs := each_imp e1 fun u b hb hr => Dp.reads I b.2.2 b.1 u (b4 b hb).2 hr
          have hal : PySem.W.AllAlike (bs.map fun b => b.2.2) := by
            rw [b3]
            intro p hp q hq
            exact List.all_eq_true.mp (List.all_eq_true.mp c1 p hp) q hq
          have hks : PySem.W.Sortable (bs.map fun b => b.2.2) := by
            rw [b3]
            rcases Bool.or_eq_true_iff.mp c2 with c2 | c2
            · refine .inl fun p hp => ?_
              have := List.all_eq_true.mp c2 p hp
              unfold tupNe at this
              split at this
              · exact ⟨_, _, rfl⟩
              · cases this
            · refine .inr fun p hp => ?_
              have := List.all_eq_true.mp c2 p hp
              constructor
              · intro e
                rw [e] at this
                cases this
              · intro xs e
                rw [e] at this
                cases this
          have hlen : bs.length = xs1.length := by
            have := r2.length
            rw [List.length_map] at this
            exact this
          refine PySem.W.sorted_data (enc := fun b : V × D × PyData => b.2.2) (R := fun u b => RelV b.1 u) pl.isList e1 e2 hal hks (by rw [hlen]; exact of_decide_eq_true c3) (fun b hb => ?_) fun out ho eo => ?_
          · have : b.2.2 ∈ ps := by rw [← b3]; exact List.mem_map.mpr ⟨b, hb, rfl⟩
            have := of_decide_eq_true (List.all_eq_true.mp c4 _ this)
            omega
          · obtain ⟨c, hcN⟩ := sortedAll_at s.heap its out.toArray
            have hmem : ∀ b ∈ bs.mergeSort (PySem.W.dataLe false fun b : V × D × PyData => b.2.2), b ∈ bs := fun b hb => (List.mergeSort_perm _ _).mem_iff.mp hb
            have eD : (bs.mergeSort (PySem.W.dataLe false fun b : V × D × PyData => b.2.2)).map (fun b => (b.2.1, b.2.2)) = isort leP (xs1.zip ps) := by
              rw [← b2, ← isort_eq (le := leP) (fun a b c => (PySem.W.sortLe_total (PyProof.Rows.listOrd PyProof.Rows.itemOrd) false fun x : D × PyData => PySem.W.keyToks x.2).trans a b c) (fun a b => by
                rcases (PySem.W.sortLe_total (PyProof.Rows.listOrd PyProof.Rows.itemOrd) false fun x : D × PyData => PySem.W.keyToks x.2).total a b with z | z
                · exact Bool.or_eq_true_iff.mpr (.inl z)
                · exact Bool.or_eq_true_iff.mpr (.inr z))]
              exact List.map_mergeSort fun a _ b _ => rfl
            have eV : VRs (gx X) A ρ H ((bs.mergeSort (PySem.W.dataLe false fun b : V × D × PyData => b.2.2)).map (·.1)) ((isort leP (xs1.zip ps)).map (·.1)) := by
              rw [← eD, List.map_map]
              have : ∀ l : List (V × D × PyData), (∀ b ∈ l, VR (gx X) A ρ H b.1 b.2.1) → VRs (gx X) A ρ H (l.map (·.1)) (l.map ((fun x : D × PyData => x.1) ∘ fun b => (b.2.1, b.2.2))) := by
                intro l
                induction l with
                | nil => intro _; exact .nil
                | cons b l ih => intro h; exact .cons (h b List.mem_cons_self) (ih fun c hc => h c (List.mem_cons_of_mem _ hc))
              exact this _ fun b hb => (b4 b (hmem b hb)).1
            have hd : s.heap.objs.size ≤ s.heap.objs.size + 1 := Nat.le_succ _
            refine ⟨.ref (s.heap.objs.size + 1), _, I.laid (a := s.heap.objs.size + 1) (o := .lst ((bs.mergeSort (PySem.W.dataLe false fun b : V × D × PyData => b.2.2)).map (·.1))) (t' := s.toks) (fun b o e => sortedAll_old e) hd ⟨?_, out, c, vals_each eo, hcN⟩, rfl, PRo.new (PRo.of pr) S eV _ (I.hok.fresh hd)⟩
            rw [List.length_map, (List.mergeSort_perm _ _).length_eq, hlen]
            exact of_decide_eq_true c3
        · exact pr.elim
      · exact pr.elim
    · exact pr.elim
  · exact pr.elim
end
end Tb

/-! list(zip(xs, ys)) of two lists. -/
namespace PySem
open PySem.Spec PyProof.Rows PySem.W
theorem tz_zip_no_len : typeLookup (.type "zip") "__len__" = pure none := by rw [typeLookup_type, builtinLookup_eq_fast]; kernel_rfl
theorem tz_zip_no_hint : typeLookup (.type "zip") "__length_hint__" = pure none := by rw [typeLookup_type, builtinLookup_eq_fast]; kernel_rfl
section
variable {prog : Program} {w : World} {A : Around} {R : Result → Shared → Prop} {E : Value → Shared → Prop}
/-- zip at the turn i -/
def ZipAt (h : Heap) (S z TI TO i1 i2 l1 l2 : Addr) (xs ys : Array Value) (i : Nat) : Prop :=
  IsPair h TI (.ref i1) (.ref i2) ∧ h.IsListIter i1 l1 i ∧ h.IsListIter i2 l2 i ∧ h.IsList l1 xs ∧ h.IsList l2 ys ∧
    ((IsZip h z TI TO .none ∧ ∃ a b, IsPair h TO a b) ∨ ∃ T f oT, IsZipHeld h z TI TO T f ∧ h.get? T = some oT ∧ T ≠ z ∧ T ≠ i1 ∧ T ≠ i2 ∧ T ≠ S ∧ ∃ o, h.get? TO = some o)
theorem ZipAt.keep {h h' : Heap} {z TI TO i1 i2 l1 l2 S : Addr} {xs ys : Array Value} {i : Nat} (hS : S ∉ [z, TI, TO, i1, i2, l1, l2]) (x : ZipAt h S z TI TO i1 i2 l1 l2 xs ys i) (k : ∀ b o, b ≠ S → h.get? b = some o → h'.get? b = some o) : ZipAt h' S z TI TO i1 i2 l1 l2 xs ys i := by
  obtain ⟨h1, h2, h3, h4, h5, h6⟩ := x
  simp only [List.mem_cons, List.not_mem_nil, or_false, not_or] at hS
  obtain ⟨s1, s2, s3, s4, s5, s6, s7⟩ := hS
  refine ⟨k _ _ (Ne.symm s2) h1, h2.at fun o e => k _ o (Ne.symm s4) e, h3.at fun o e => k _ o (Ne.symm s5) e, h4.at fun o e => k _ o (Ne.symm s6) e, h5.at fun o e => k _ o (Ne.symm s7) e, ?_⟩
  rcases h6 with ⟨h6, a, b, h7⟩ | ⟨T, f, oT, h6, h7, r1, r2, r3, r4, oO, r5⟩
  · exact .inl ⟨k _ _ (Ne.symm s1) h6, a, b, k _ _ (Ne.symm s3) h7⟩
  · exact .inr ⟨T, f, oT, k _ _ (Ne.symm s1) h6, k _ _ r4 h7, r1, r2, r3, r4, oO, k _ _ (Ne.symm s3) r5⟩
/-- the pairs so far -/
def PairsTo (lo : Nat) (h : Heap) (bad : List Addr) (xs ys : Array Value) (acc : Array Value) (i : Nat) : Prop :=
  acc.size = i ∧ (∀ (j : Nat) (v : Value), acc[j]? = some v → ∃ (T : Addr) (x y : Value), v = Value.ref T ∧ xs[j]? = some x ∧ ys[j]? = some y ∧ IsPair h T x y ∧ T ∉ bad ∧ lo ≤ T) ∧
    ∀ (j j' : Nat) (T : Addr), acc[j]? = some (.ref T) → acc[j']? = some (.ref T) → j = j'
theorem PairsTo.keep {lo : Nat} {h h' : Heap} {bad : List Addr} {xs ys acc : Array Value} {i : Nat} (x : PairsTo lo h bad xs ys acc i) (k : ∀ b o, b ∉ bad → h.get? b = some o → h'.get? b = some o) : PairsTo lo h' bad xs ys acc i :=
  ⟨x.1, fun j v e => by
    obtain ⟨T, a, b, h1, h2, h3, h4, h5, h6⟩ := x.2.1 j v e
    exact ⟨T, a, b, h1, h2, h3, k _ _ h5 h4, h5, h6⟩, x.2.2⟩
theorem zip_loop {lo : Nat} {z TI TO i1 i2 l1 l2 S : Addr} {xs ys : Array Value} (hh : A.handled = none) (D : ZipApart z TI TO i1 i2 l1 l2) (hS : S ∉ [z, TI, TO, i1, i2, l1, l2]) (hn : min xs.size ys.size ≤ sizeLine) (res : Value) :
    ∀ (k i : Nat) (s : Shared) (acc : Array Value) (c : Nat), min xs.size ys.size - i = k → i ≤ min xs.size ys.size → lo ≤ s.heap.objs.size → ZipAt s.heap S z TI TO i1 i2 l1 l2 xs ys i → 
      s.heap.get? S = some { cls := .type "list", dict := none, data := .seq acc c, slots := #[] } → PairsTo lo s.heap [S, z, TI, TO, i1, i2] xs ys acc i →
    (∀ h' acc' c', (∀ b o, b ∉ [S, z, TI, TO, i1, i2] → s.heap.get? b = some o → h'.get? b = some o) → h'.get? S = some { cls := .type "list", dict := none, data := .seq acc' c', slots := #[] } → PairsTo lo h' [S, z, TI, TO, i1, i2] xs ys acc' (min xs.size ys.size) → R (.ok (.ret res)) { s with heap := h' }) →
    codeAny (model prog w) A (.builtin "list.extend.loop" ⟨[.ref S, .ref z, res], []⟩) R s := by
  have hS' := hS
  simp only [List.mem_cons, List.not_mem_nil, or_false, not_or] at hS'
  obtain ⟨s1, s2, s3, s4, s5, s6, s7⟩ := hS'
  intro k
  induction k with
  | zero =>
    intro i s acc c hk hi hlo hst hSl hacc hR
    have hin : i = min xs.size ys.size := by omega
    subst hin
    refine codeAny_builtin F.entry_extend_loop ?_
    rw [Around.under_plainId F.plain_extend_loop _]
    show wpAny _ A.in1 (pyNext (.ref z) >>= _) _ _ s
    obtain ⟨hTI, h1, h2, hl1, hl2, hz⟩ := hst
    have hend : xs[min xs.size ys.size]? = none ∨ ys[min xs.size ys.size]? = none := by
      rcases Nat.le_total xs.size ys.size with h | h
      · exact .inl (Array.getElem?_eq_none (by rw [Nat.min_eq_left h]; exact Nat.le_refl _))
      · exact .inr (Array.getElem?_eq_none (by rw [Nat.min_eq_right h]; exact Nat.le_refl _))
    have fin : ∀ h' : Heap, (∀ c o, c ≠ z → c ≠ TO → c ≠ i1 → c ≠ i2 → s.heap.get? c = some o → h'.get? c = some o) → R (.ok (.ret res)) { s with heap := h' } := fun h' hk =>
      hR h' acc c (fun b o hb e => hk b o (fun x => hb (by simp [x])) (fun x => hb (by simp [x])) (fun x => hb (by simp [x])) (fun x => hb (by simp [x])) e) (hk _ _ s1 s3 s4 s5 hSl)
        (hacc.keep fun b o hb e => hk b o (fun x => hb (by simp [x])) (fun x => hb (by simp [x])) (fun x => hb (by simp [x])) (fun x => hb (by simp [x])) e)
    rcases hz with ⟨hz, a, b, hTO⟩ | ⟨T, f, oT, hz, hT', r1, r2, r3, r4, hTOx⟩
    · exact wpAny_bind (wpAny_pyNext_zip_end hh D hz hTI hTO h1 h2 hl1 hl2 hend fun h' hk => wpAny_pure (fin h' hk))
    · exact wpAny_bind (wpAny_pyNext_zip_end_held hh D hz hT' hTI h1 h2 hl1 hl2 hend fun h' hk => wpAny_pure (fin h' fun c o h1 _ h2 h3 e => hk c o h1 h2 h3 e))
  | succ k ih =>
    intro i s acc c hk hi hlo hst hSl hacc hR
    have hlt : i < min xs.size ys.size := by omega
    refine codeAny_builtin F.entry_extend_loop ?_
    rw [Around.under_plainId F.plain_extend_loop _]
    show wpAny _ A.in1 (pyNext (.ref z) >>= _) _ _ s
    obtain ⟨hTI, h1, h2, hl1, hl2, hz⟩ := hst
    have hix : i < xs.size := Nat.lt_of_lt_of_le hlt (Nat.min_le_left ..)
    have hiy : i < ys.size := Nat.lt_of_lt_of_le hlt (Nat.min_le_right ..)
    have ex := Array.getElem?_eq_getElem hix
    have ey := Array.getElem?_eq_getElem hiy
    have lt : ∀ {c o}, s.heap.get? c = some o → s.heap.objs.size ≠ c := fun e => Nat.ne_of_gt (Heap.lt_size e)
    have n1 : s.heap.objs.size ≠ i1 := let ⟨_, e, _⟩ := h1; lt e
    have n2 : s.heap.objs.size ≠ i2 := let ⟨_, e, _⟩ := h2; lt e
    have n3 : s.heap.objs.size ≠ z := by
      rcases hz with ⟨hz, _⟩ | ⟨_, _, _, hz, _⟩
      · exact lt hz
      · exact lt hz
    have n4 : s.heap.objs.size ≠ S := lt hSl
    have n5 : s.heap.objs.size ≠ TI := lt hTI
    have go : ∀ (h' : Heap) , IsPair h' s.heap.objs.size xs[i] ys[i] → h'.objs.size = s.heap.objs.size + 1 → s.heap.objs.size ∉ [S, z, TI, TO, i1, i2] → (∀ c o, c ≠ z → c ≠ TO → c ≠ i1 → c ≠ i2 → s.heap.get? c = some o → h'.get? c = some o) → ZipAt h' S z TI TO i1 i2 l1 l2 xs ys (i + 1) →
        wpAny (model prog w) A.in1 (updateSeq S (·.push (.ref s.heap.objs.size)) >>= fun _ => again (.builtin "list.extend.loop" ⟨[.ref S, .ref z, res], []⟩))
          (fun fin s' => match fin with | .done f => R (.ok f) s' | .again c' => c'.quiet = true ∧ codeAny (model prog w) A c' R s') (fun e s' => R (.error e) s') { s with heap := h' } := by
      intro h' hp hsz hnb hk hst'
      have hSl' := hk _ _ s1 s3 s4 s5 hSl
      refine wpAny_bind ?_
      have oth : ∀ b o, b ≠ S → h'.get? b = some o → (h'.update S (Obj.mapSeq (·.push (.ref s.heap.objs.size)))).get? b = some o := fun b o hb e => (Heap.get?_update_other _ _ (Ne.symm hb)).trans e
      refine wpAny_updateSeq hSl' rfl (wpAny_pure ⟨plainId_quiet F.plain_extend_loop _, ih (i + 1) _ (acc.push (.ref s.heap.objs.size)) _ (by omega) hlt (by show lo ≤ (h'.update S _).objs.size; rw [Heap.size_update, hsz]; omega) (hst'.keep hS oth) (Heap.get?_update_self _ hSl' rfl) ?_ fun h'' acc' c' hk'' hS'' hacc' => ?_⟩)
        (by rw [hacc.1]; omega) (by show (acc.push _).size ≤ sizeLine + 1; rw [Array.size_push, hacc.1]; omega)
      · have old : ∀ (j : Nat) (T : Addr), acc[j]? = some (.ref T) → T ≠ s.heap.objs.size := fun j T e => by
          obtain ⟨T', x, y, a1, a2, a3, a4, a5, a6⟩ := hacc.2.1 j _ e
          cases a1
          exact Nat.ne_of_lt (Heap.lt_size a4)
        refine ⟨by rw [Array.size_push, hacc.1], fun j v hj => ?_, fun j j' T hj hj' => ?_⟩
        rotate_left
        · rw [Array.getElem?_push] at hj hj'
          split at hj
          · cases hj
            split at hj'
            · omega
            · exact absurd rfl (old _ _ hj')
          · split at hj'
            · cases hj'
              exact absurd rfl (old _ _ hj)
            · exact hacc.2.2 _ _ _ hj hj'
        rw [Array.getElem?_push] at hj
        split at hj
        · rename_i e
          rw [hacc.1] at e
          cases hj
          exact ⟨_, _, _, rfl, by rw [e]; exact ex, by rw [e]; exact ey, oth _ _ n4 hp, hnb, hlo⟩
        · obtain ⟨T, x, y, a1, a2, a3, a4, a5, a6⟩ := hacc.2.1 j v hj
          refine ⟨T, x, y, a1, a2, a3, oth _ _ (fun q => a5 (by simp [q])) (hk _ _ (fun q => a5 (by simp [q])) (fun q => a5 (by simp [q])) (fun q => a5 (by simp [q])) (fun q => a5 (by simp [q])) a4), a5, a6⟩
      · refine hR h'' acc' c' (fun b o hb e => hk'' b o hb (oth b o (fun q => hb (by simp [q])) (hk b o (fun q => hb (by simp [q])) (fun q => hb (by simp [q])) (fun q => hb (by simp [q])) (fun q => hb (by simp [q])) e))) hS'' hacc'
    rcases hz with ⟨hz, a, b, hTO⟩ | ⟨T, f, oT, hz, hTT, r1, r2, r3, r4, hTOx⟩
    · have n6 : s.heap.objs.size ≠ TO := lt hTO
      refine wpAny_bind (wpAny_pyNext_zip_item D hz hTI hTO h1 h2 hl1 hl2 ex ey fun h' a1 a2 a3 a4 a5 a6 hk => ?_)
      exact go h' a5 a6 (by simp only [List.mem_cons, List.not_mem_nil, or_false, not_or]; exact ⟨n4, n3, n5, n6, n1, n2⟩) hk ⟨hk _ _ D.TIz D.TITO D.TIi1 D.TIi2 hTI, a3, a4, hl1.at fun o e => hk _ o D.l1z D.l1TO D.l1i1 D.l1i2 e, hl2.at fun o e => hk _ o D.l2z D.l2TO D.l2i1 D.l2i2 e, .inr ⟨s.heap.objs.size, false, _, a1, a5, n3, n1, n2, n4, _, a2⟩⟩
    · obtain ⟨o6, e6⟩ := hTOx
      have n6 : s.heap.objs.size ≠ TO := lt e6
      refine wpAny_bind (wpAny_pyNext_zip_item_held D hz hTT hTI h1 h2 hl1 hl2 ex ey fun h' a1 a3 a4 a5 a6 hk => ?_)
      exact go h' a5 a6 (by simp only [List.mem_cons, List.not_mem_nil, or_false, not_or]; exact ⟨n4, n3, n5, n6, n1, n2⟩) (fun c o h1 _ h2 h3 e => hk c o h1 h2 h3 e) ⟨hk _ _ D.TIz D.TIi1 D.TIi2 hTI, a3, a4, hl1.at fun o e => hk _ o D.l1z D.l1i1 D.l1i2 e, hl2.at fun o e => hk _ o D.l2z D.l2i1 D.l2i2 e, .inr ⟨T, true, oT, a1, hk _ _ r1 r2 r3 hTT, r1, r2, r3, r4, o6, hk _ _ D.TOz D.TOi1 D.TOi2 e6⟩⟩

theorem zip_extend {lo : Nat} {z TI TO i1 i2 l1 l2 S : Addr} {xs ys : Array Value} {s : Shared} (hh : A.handled = none) (D : ZipApart z TI TO i1 i2 l1 l2) (hS : S ∉ [z, TI, TO, i1, i2, l1, l2]) (hn : min xs.size ys.size ≤ sizeLine) (res : Value) (c₀ : Nat) (hlo : lo ≤ s.heap.objs.size)
    (hst : ZipAt s.heap S z TI TO i1 i2 l1 l2 xs ys 0) (hz : IsZip s.heap z TI TO .none) (hSl : s.heap.get? S = some { cls := .type "list", data := .seq #[] c₀ })
    (hR : ∀ h' acc' c', (∀ b o, b ∉ [S, z, TI, TO, i1, i2] → s.heap.get? b = some o → h'.get? b = some o) → h'.get? S = some { cls := .type "list", dict := none, data := .seq acc' c', slots := #[] } → PairsTo lo h' [S, z, TI, TO, i1, i2] xs ys acc' (min xs.size ys.size) → R (.ok (.ret res)) { s with heap := h' }) :
    wpAny (model prog w) A.in1 (Builtin.List.listExtendWith (.ref S) (.ref z) res)
      (fun fin s' => match fin with | .done f => R (.ok f) s' | .again c' => c'.quiet = true ∧ codeAny (model prog w) A c' R s') (fun e s' => R (.error e) s') s := by
  have hS' := hS
  simp only [List.mem_cons, List.not_mem_nil, or_false, not_or] at hS'
  obtain ⟨s1, s2, s3, s4, s5, s6, s7⟩ := hS'
  have hT : s.TypeIs (.ref z) "zip" := ⟨_, hz, rfl⟩
  unfold Builtin.List.listExtendWith
  refine wpAny_bind (wpAny_typeOf hT ?_)
  have h1 : Builtin.List.listSameRef (.ref S) (.ref z) = false := by simp [Builtin.List.listSameRef, s1]
  have h2 : (Value.type "zip" == Value.type "list") = false := by decide
  have h3 : (Value.type "zip" == Value.type "tuple") = false := by decide
  simp only [h1, h2, h3, Bool.or_false, Bool.false_eq_true, if_false]
  refine wpAny_bind (wpAny_pyIter_zip hz ?_)
  refine wpAny_bind (wpAny_holding ?_)
  unfold Builtin.List.listLengthHint
  refine wpAny_bind (wpAny_specialOf hT tz_zip_no_len ?_)
  show wpAny _ A.in1 (specialOf (Value.ref z) (Str.ofString "__length_hint__") >>= _) _ _ _
  refine wpAny_bind (wpAny_specialOf hT tz_zip_no_hint ?_)
  refine wpAny_pure ?_
  show wpAny _ A.in1 (rule "list.extend.makes-room" >>= fun _ => Builtin.List.listTouch (.ref S) >>= fun _ =>
    again (.builtin "list.extend.loop" ⟨[.ref S, .ref z, res], []⟩)) _ _ _
  refine wpAny_bind (wpAny_rule ?_)
  refine wpAny_bind ?_
  show wpAny _ A.in1 (updateSeq S (·.push .none) >>= fun _ => updateSeq S (·.pop)) _ _ _
  refine wpAny_bind (wpAny_updateSeq hSl rfl ?_)
  have hS₂ := Heap.get?_update_self (Obj.mapSeq (·.push Value.none)) hSl rfl
  refine wpAny_updateSeq (hz := by seq_fits) hS₂ rfl ?_
  have hS₃ := Heap.get?_update_self (Obj.mapSeq (·.pop)) hS₂ rfl
  have oth : ∀ b o, b ≠ S → s.heap.get? b = some o → ((s.heap.update S (Obj.mapSeq (·.push Value.none))).update S (Obj.mapSeq (·.pop))).get? b = some o :=
    fun b o hb e => (Heap.get?_update_other _ _ (Ne.symm hb)).trans ((Heap.get?_update_other _ _ (Ne.symm hb)).trans e)
  refine wpAny_pure ⟨plainId_quiet F.plain_extend_loop _, zip_loop (lo := lo) hh D hS hn res _ 0 _ #[] _ rfl (Nat.zero_le _) (by rw [Heap.size_update, Heap.size_update]; exact hlo) (hst.keep hS oth) hS₃ ⟨rfl, fun j v e => by simp at e, fun j j' T e => by simp at e⟩ fun h' acc' c' hk hS' hacc => ?_⟩
  exact hR h' acc' c' (fun b o hb e => hk b o hb (oth b o (fun q => hb (by simp [q])) e)) hS' hacc
theorem zip_init {lo : Nat} {z TI TO i1 i2 l1 l2 S : Addr} {xs ys : Array Value} {s : Shared} (hh : A.handled = none) (D : ZipApart z TI TO i1 i2 l1 l2) (hS : S ∉ [z, TI, TO, i1, i2, l1, l2]) (hn : min xs.size ys.size ≤ sizeLine) (hlo : lo ≤ s.heap.objs.size)
    (hst : ZipAt s.heap S z TI TO i1 i2 l1 l2 xs ys 0) (hz : IsZip s.heap z TI TO .none) (hSl : s.heap.get? S = some { cls := .type "list", data := .seq #[] })
    (hR : ∀ h' acc' c', (∀ b o, b ∉ [S, z, TI, TO, i1, i2] → s.heap.get? b = some o → h'.get? b = some o) → h'.get? S = some { cls := .type "list", dict := none, data := .seq acc' c', slots := #[] } → PairsTo lo h' [S, z, TI, TO, i1, i2] xs ys acc' (min xs.size ys.size) → R (.ok (.ret .none)) { s with heap := h' }) :
    wpAny (model prog w) A.in1 (Builtin.«list.__init__» ⟨[.ref S, .ref z], []⟩)
      (fun fin s' => match fin with | .done f => R (.ok f) s' | .again c' => c'.quiet = true ∧ codeAny (model prog w) A c' R s') (fun e s' => R (.error e) s') s := by
  have hS' := hS
  simp only [List.mem_cons, List.not_mem_nil, or_false, not_or] at hS'
  obtain ⟨s1, s2, s3, s4, s5, s6, s7⟩ := hS'
  show wpAny _ A.in1 (do let old ← Builtin.List.listItems (.ref S); Builtin.List.listUpdate (.ref S) (fun _ => #[]); letGo old.toList.reverse; Builtin.List.listExtendWith (.ref S) (.ref z) .none) _ _ s
  refine wpAny_bind ?_
  unfold Builtin.List.listItems
  refine wpAny_bind (wpAny_seqItems hSl rfl (wpAny_pure ?_))
  show wpAny _ A.in1 (updateSeq S (fun _ => #[]) >>= fun _ => letGo (#[] : Array Value).toList.reverse >>= fun _ => Builtin.List.listExtendWith (.ref S) (.ref z) .none) _ _ s
  refine wpAny_bind (wpAny_updateSeq hSl rfl ?_)
  have hS₂ := Heap.get?_update_self (Obj.mapSeq (fun _ => (#[] : Array Value))) hSl rfl
  have oth : ∀ b o, b ≠ S → s.heap.get? b = some o → (s.heap.update S (Obj.mapSeq (fun _ => (#[] : Array Value)))).get? b = some o :=
    fun b o hb e => (Heap.get?_update_other _ _ (Ne.symm hb)).trans e
  refine wpAny_bind (wpAny_letGo ?_)
  refine zip_extend hh D hS hn .none _ (by rw [Heap.size_update]; exact hlo) (hst.keep hS oth) (oth _ _ (Ne.symm s1) hz) hS₂ fun h' acc' c' hk hS' hacc => ?_
  exact hR h' acc' c' (fun b o hb e => hk b o hb (oth b o (fun q => hb (by simp [q])) e)) hS' hacc
theorem call_list_zip {lo : Nat} {z TI TO i1 i2 l1 l2 : Addr} {xs ys : Array Value} {s : Shared} {Q : Value → Shared → Prop} (hh : A.handled = none) (D : ZipApart z TI TO i1 i2 l1 l2) (hn : min xs.size ys.size ≤ sizeLine) (hlo : lo ≤ s.heap.objs.size)
    (hz : IsZip s.heap z TI TO .none) (hTI : IsPair s.heap TI (.ref i1) (.ref i2)) {a b : Value} (hTO : IsPair s.heap TO a b) (h1 : s.heap.IsListIter i1 l1 0) (h2 : s.heap.IsListIter i2 l2 0) (hl1 : s.heap.IsList l1 xs) (hl2 : s.heap.IsList l2 ys)
    (hQ : ∀ h' acc' c', (∀ b o, b ∉ [z, TI, TO, i1, i2] → s.heap.get? b = some o → h'.get? b = some o) → h'.get? s.heap.objs.size = some { cls := .type "list", dict := none, data := .seq acc' c', slots := #[] } → PairsTo lo h' [s.heap.objs.size, z, TI, TO, i1, i2] xs ys acc' (min xs.size ys.size) → Q (.ref s.heap.objs.size) { s with heap := h' }) :
    wpAny (model prog w) A (call (.type "list") [.ref z]) Q E s := by
  have lt : ∀ {c o}, s.heap.get? c = some o → s.heap.objs.size ≠ c := fun e => Nat.ne_of_gt (Heap.lt_size e)
  have hS : s.heap.objs.size ∉ [z, TI, TO, i1, i2, l1, l2] := by
    simp only [List.mem_cons, List.not_mem_nil, or_false, not_or]
    exact ⟨lt hz, lt hTI, lt hTO, let ⟨_, e, _⟩ := h1; lt e, let ⟨_, e, _⟩ := h2; lt e, let ⟨_, e, _⟩ := hl1; lt e, let ⟨_, e, _⟩ := hl2; lt e⟩
  refine callType_codes (Q₁ := fun obj s₁ => obj = .ref s.heap.objs.size ∧ s₁ = { s with heap := s.heap.push { cls := .type "list", data := .seq #[] } }) F.called_list (F.typeCall_list_1 _) F.entry_list_init
    (code_list_new _ ⟨rfl, rfl⟩) fun obj s₁ h₁ => ?_
  obtain ⟨rfl, rfl⟩ := h₁
  have hSl : (s.heap.push { cls := .type "list", data := .seq #[] }).get? s.heap.objs.size = some { cls := .type "list", data := .seq #[] } := Heap.get?_push_size _ rfl
  have oth : ∀ b o, s.heap.get? b = some o → (s.heap.push { cls := .type "list", data := .seq #[] }).get? b = some o := fun b o e => Heap.get?_push_of_some _ e
  refine ⟨⟨_, hSl, rfl⟩, F.args_list_init_2 _ _, zip_init (A := A.in1) hh D hS hn (by show lo ≤ (s.heap.push _).objs.size; rw [Heap.size_push]; exact Nat.le_succ_of_le hlo) ⟨oth _ _ hTI, h1.at fun o e => oth _ o e, h2.at fun o e => oth _ o e, hl1.at fun o e => oth _ o e, hl2.at fun o e => oth _ o e, .inl ⟨oth _ _ hz, a, b, oth _ _ hTO⟩⟩ (oth _ _ hz) hSl fun h' acc' c' hk hS' hacc => ?_⟩
  exact ⟨rfl, hQ h' acc' c' (fun b o hb e => hk b o (by simp only [List.mem_cons, not_or] at hb ⊢; exact ⟨Ne.symm (lt e), hb⟩) (oth b o e)) hS' hacc⟩
end
end PySem
namespace Tb
open PySem PySem.Spec PyProof.Rows L2
/-- pairs of two lists -/
def zipD : List D → List D → List D
  | x :: xs, y :: ys => .tup [x, y] :: zipD xs ys
  | _, _ => []
theorem zipD_length : ∀ xs ys : List D, (zipD xs ys).length = min xs.length ys.length
  | [], ys => by simp [zipD]
  | x :: xs, [] => by simp [zipD]
  | x :: xs, y :: ys => by simp only [zipD, List.length_cons, zipD_length xs ys]; omega
theorem zipD_get : ∀ (xs ys : List D) (j : Nat) (d : D), (zipD xs ys)[j]? = some d → ∃ x y, xs[j]? = some x ∧ ys[j]? = some y ∧ d = .tup [x, y]
  | [], _, _, _, h => by simp [zipD] at h
  | _ :: _, [], _, _, h => by simp [zipD] at h
  | x :: xs, y :: ys, 0, d, h => by simp [zipD] at h; exact ⟨x, y, rfl, rfl, h.symm⟩
  | x :: xs, y :: ys, j + 1, d, h => by
    simp only [zipD, List.getElem?_cons_succ] at h ⊢
    exact zipD_get xs ys j d h
theorem VRs.of_get {G : Gx} {A : Addr → Prop} {ρ : List Addr} {H : Hp} : ∀ {vs : List V} {ds : List D}, vs.length = ds.length → (∀ (j : Nat) (v : V) (d : D), vs[j]? = some v → ds[j]? = some d → VR G A ρ H v d) → VRs G A ρ H vs ds
  | [], [], _, _ => .nil
  | [], _ :: _, h, _ => by simp at h
  | _ :: _, [], h, _ => by simp at h
  | v :: vs, d :: ds, h, f => .cons (f 0 v d rfl rfl) (VRs.of_get (by simpa using h) fun j w e h1 h2 => f (j + 1) w e (by simpa using h1) (by simpa using h2))
section
variable {G : Gx} {A : Addr → Prop} {ρ : List Addr} {H H' : Hp} {lh : LH}
theorem stp_more (h : ∀ a o, H a = some o → H' a = some o) : Stp ρ H ρ H' := ⟨⟨[], by simp, fun _ z => absurd z (by simp)⟩, fun a o e _ _ => h a o e, fun a u e => h a _ e, fun a o u e => h a _ e, fun a ⟨o, e, k⟩ => ⟨o, h a o e, k⟩⟩
theorem SR.more (S : SR G A ρ H lh) (h : ∀ a o, H a = some o → H' a = some o) : SR G A ρ H' lh := ⟨S.len, S.nd, fun a z => by obtain ⟨o, e, k⟩ := S.av a z; exact ⟨o, h a o e, k⟩, fun n o e => by
  obtain ⟨a, h1, h2⟩ := S.obj n o e
  exact ⟨a, h1, h2.stp (stp_more h) fun u z _ => h a u z⟩, S.tab.ext h⟩
end
theorem lay_one {P : Program} {w : World} {fs : List Addr} {H H' : Hp} {h h' : Heap} {T : Addr} {o : HO} (a1 : Un fs [] H H' h h') (a2 : HOk P w H' h') (t1 : h.objs.size ≤ T) (hn : H' T = none) (new : ObjOk P w (upd H' T o) h' T o) : Un fs [] H (upd H' T o) h h' ∧ HOk P w (upd H' T o) h' := by
  refine ⟨⟨a1.keep, a1.slot, fun b o e z hx => ?_, a1.there, fun b xs e => ?_, fun b o xs e => ?_, fun b ps e => ?_⟩, HOk.laidN a2 (fun _ _ e => e) hn new⟩
  · rw [upd_ne (Nat.ne_of_lt (Nat.lt_of_lt_of_le (Heap.lt_size e) t1))]
    exact a1.free b o e z hx
  · rw [upd_ne (ne_of_none (a1.tups b xs e) hn)]; exact a1.tups b xs e
  · rw [upd_ne (ne_of_none (a1.frzs b o xs e) hn)]; exact a1.frzs b o xs e
  · obtain ⟨more, q⟩ := a1.tbls b ps e
    exact ⟨more, by rw [upd_ne (ne_of_none q hn)]; exact q⟩
/-- pairs laid, one after another: at T j the pair of v j and u j -/
theorem lay_pairs {P : Program} {w : World} {fs : List Addr} {H : Hp} {h h' : Heap} (hk : HOk P w H h) (k : ∀ b o, h.get? b = some o → h'.get? b = some o) (T : Nat → Addr) (v u : Nat → V) (n : Nat)
    (hT : ∀ j, j < n → h.objs.size ≤ T j ∧ ∃ x y, RelV (v j) x ∧ RelV (u j) y ∧ IsPair h' (T j) x y) (hd : ∀ i j, i < n → j < n → T i = T j → i = j) :
    ∀ m, m ≤ n → ∃ H', Un fs [] H H' h h' ∧ HOk P w H' h' ∧ (∀ a o, H a = some o → H' a = some o) ∧ (∀ j, j < m → H' (T j) = some (.tup [v j, u j])) ∧ (∀ j, m ≤ j → j < n → H' (T j) = none) ∧ ∀ a, H a = none → (∀ j, j < n → T j ≠ a) → H' a = none := by
  intro m
  induction m with
  | zero => exact fun _ => ⟨H, Un.kept k, hk.kept k, fun _ _ e => e, fun j hj => absurd hj (Nat.not_lt_zero _), fun j _ hj => hk.fresh (hT j hj).1, fun a e _ => e⟩
  | succ m ih =>
    intro hm
    obtain ⟨H', a1, a2, a3, a4, a5, a6⟩ := ih (Nat.le_of_succ_le hm)
    have hn := a5 m (Nat.le_refl _) hm
    obtain ⟨t1, x, y, rx, ry, ip⟩ := hT m hm
    have new : ObjOk P w (upd H' (T m) (.tup [v m, u m])) h' (T m) (.tup [v m, u m]) := ⟨by show 2 ≤ sizeLine; decide, [x, y], .cons rx (.cons ry .nil), ⟨_, ip, rfl, _, rfl⟩⟩
    obtain ⟨c1, c2⟩ := lay_one a1 a2 t1 hn new
    refine ⟨upd H' (T m) (.tup [v m, u m]), c1, c2, fun a o e => ?_, fun j hj => ?_, fun j h1 h2 => ?_, fun a e f => ?_⟩
    · rw [upd_ne (ne_of_none (a3 a o e) hn)]; exact a3 a o e
    · by_cases hjm : j = m
      · subst hjm; exact upd_same
      · rw [upd_ne (fun z => hjm (hd _ _ (by omega) hm z))]; exact a4 j (by omega)
    · rw [upd_ne (fun z => by have := hd _ _ h2 hm z; omega)]; exact a5 j (by omega) h2
    · rw [upd_ne (Ne.symm (f m hm))]; exact a6 a e f
def lzG (lh : LH) (ds : List D) : Ro := match ds with
  | [d, e] => (match asL lh d, asL lh e with
    | some xs, some ys => if min xs.length ys.length ≤ sizeLine then .l (zipD xs ys) else .no
    | _, _ => .no)
  | _ => .no
def eLisZip (al : Bool) (m : AM) : EM := eCall al lzG m
section
variable {X : Cx} {W : WX} {e e2 : Expr} {m : AM} {p p2 pos pos2 : Pos}
theorem ee_lisZip (al : Bool) (hc : X.calm = true) (ha : EA X W [e, e2] m) (hm : X.mg "list" = none) (hm2 : X.mg "zip" = none) (hg : Gl X "list" := by rfl) (hg2 : Gl X "zip" := by rfl)
    (hs : starEach [e, e2] X.env = (false, eval e X.env) :: starEach [e2] X.env := by rfl) (hpl : (backTo pos2 (starEach [e2] X.env)).any (·.1) = false := by rfl)
    (na2 : starEach [.Call (.Name "zip" p2) [e, e2] [] pos2] X.env = (false, eval (.Call (.Name "zip" p2) [e, e2] [] pos2) X.env) :: starEach [] X.env := by rfl) : EE X W (.Call (.Name "list" p) [.Call (.Name "zip" p2) [e, e2] [] pos2] [] pos) (eLisZip al m) :=
  ⟨fun pins s σ H Q I ⟨A, ρ, τ, lh, er, S, pr⟩ => by
    refine Call_ (ld_blt I hg hm boot_list (PyProof.Rows.callWith_type1 (args_cons (Call_ (ld_blt I hg2 hm2 PyProof.Rows.boot_zip (PyProof.Rows.callWith_type1 (thn (ha.run pos2 pins s σ H (fun vs H' => ∃ A ρ lh ds, SR (gx X) A ρ H' lh ∧ VRs (gx X) A ρ H' vs ds ∧ PRo (gx X) A ρ H' al lh (lzG lh ds) Q) I ⟨A, ρ, τ, lh, er, S, PRg.thn pr fun ds lh1 ρ1 H1 xs s1 S1 r1 pr1 => ?_⟩) fun us s1 ⟨vs, H1, I1, rv, q⟩ => ?_) hs hpl))) na2) na2))
    · exact ⟨A, ρ1, lh1, ds, S1, r1, PRo.of pr1⟩
    · obtain ⟨A, ρ, lh, ds, S, rs, pr⟩ := q
      unfold lzG at pr
      split at pr
      · rename_i d d'
        split at pr
        · rename_i xs ys hx hy
          split at pr
          · rename_i hz
            obtain ⟨v, v', rfl, r1, r2⟩ := rs.two
            obtain ⟨a, vs1, rfl, hq1, rs1⟩ := asL_rel S r1 hx
            obtain ⟨b, vs2, rfl, hq2, rs2⟩ := asL_rel S r2 hy
            obtain ⟨u1, u2, rfl, ru1, ru2⟩ := vals2 rv
            cases (show u1 = Value.ref a from ru1)
            cases (show u2 = Value.ref b from ru2)
            obtain ⟨its, rv1, p1, _⟩ := I1.list hq1
            obtain ⟨its2, rv2, p2, _⟩ := I1.list hq2
            have la : a < s1.heap.objs.size := p1.lt
            have lb : b < s1.heap.objs.size := p2.lt
            have n1 := rv1.length
            have n2 := rv2.length
            have n3 := rs1.length
            have n4 := rs2.length
            refine call_zip_2 p1.isList p2.isList fun h1 hzp hTI hTO i1 i2 hsz hk => args_nil ?_
            have hk0 : ∀ b o, s1.heap.get? b = some o → h1.get? b = some o := hk
            refine PySem.call_list_zip (lo := s1.heap.objs.size) (I1.ok.hd hc) (PySem.W.ktu_apart s1.heap.objs.size a b la lb) (by simp only [List.size_toArray]; omega) (by show s1.heap.objs.size ≤ h1.objs.size; rw [hsz]; omega) hzp hTI hTO i1 i2 (p1.isList.at fun o e => hk _ o e) (p2.isList.at fun o e => hk _ o e) fun h' acc c' hk' hL hacc => ?_
            have kp : ∀ b o, s1.heap.get? b = some o → h'.get? b = some o := fun c o e => hk' c o (by
              have := Heap.lt_size e
              simp only [List.mem_cons, List.not_mem_nil, or_false, not_or]
              exact ⟨Nat.ne_of_lt (Nat.lt_of_lt_of_le this (Nat.le_add_right _ _)), Nat.ne_of_lt (Nat.lt_of_lt_of_le this (Nat.le_add_right _ _)), Nat.ne_of_lt (Nat.lt_of_lt_of_le this (Nat.le_add_right _ _)), Nat.ne_of_lt this, Nat.ne_of_lt (Nat.lt_of_lt_of_le this (Nat.le_add_right _ _))⟩) (hk c o e)
            have hmin : min its.toArray.size its2.toArray.size = min xs.length ys.length := by simp only [List.size_toArray]; rw [← n1, ← n2, n3, n4]
            have hlen : acc.size = min xs.length ys.length := by rw [← hmin]; exact hacc.1
            let T : Nat → Addr := fun j => match acc[j]? with
              | some (.ref t) => t
              | _ => 0
            have hTj : ∀ j, j < min xs.length ys.length → ∃ x y, acc[j]? = some (.ref (T j)) ∧ its.toArray[j]? = some x ∧ its2.toArray[j]? = some y ∧ IsPair h' (T j) x y ∧ s1.heap.objs.size ≤ T j ∧ T j ≠ h1.objs.size := fun j hj => by
              have e1 : acc[j]? = some acc[j] := Array.getElem?_eq_getElem (by omega)
              obtain ⟨t, x, y, a1, a2, a3, a4, a5, a6⟩ := hacc.2.1 j _ e1
              have e2 : T j = t := by show (match acc[j]? with | some (.ref t) => t | _ => 0) = t; rw [e1, a1]
              rw [e2]
              exact ⟨x, y, by rw [e1, a1], a2, a3, a4, a6, fun z => a5 (by simp [z])⟩
            obtain ⟨H', b1, b2, b3, b4, b5, b6⟩ := lay_pairs (fs := X.fs) I1.hok kp T (fun j => (vs1[j]?).getD .non) (fun j => (vs2[j]?).getD .non) (min xs.length ys.length) (fun j hj => by
              obtain ⟨x, y, a1, a2, a3, a4, a5, _⟩ := hTj j hj
              have e1 : vs1[j]? = some vs1[j] := List.getElem?_eq_getElem (by omega)
              have e2 : vs2[j]? = some vs2[j] := List.getElem?_eq_getElem (by omega)
              obtain ⟨x', hx', rx⟩ := rv1.get e1
              obtain ⟨y', hy', ry⟩ := rv2.get e2
              have ex : its.toArray[j]? = some x' := by simpa using hx'
              have ey : its2.toArray[j]? = some y' := by simpa using hy'
              rw [a2] at ex
              rw [a3] at ey
              cases ex
              cases ey
              exact ⟨a5, x, y, by rw [e1]; exact rx, by rw [e2]; exact ry, a4⟩) (fun i j hi hj e => by
              obtain ⟨_, _, a1, _⟩ := hTj i hi
              obtain ⟨_, _, a2, _⟩ := hTj j hj
              rw [← e] at a2
              exact hacc.2.2 i j _ a1 a2) _ (Nat.le_refl _)
            have S2 := S.more b3
            have st2 : Stp ρ H1 ρ H' := stp_more b3
            have rs' : VRs (gx X) A ρ H' ((List.range (min xs.length ys.length)).map fun j => V.ref (T j)) (zipD xs ys) := VRs.of_get (by simp [zipD_length]) fun j v d hv hd => by
              obtain ⟨x, y, ex, ey, rfl⟩ := zipD_get xs ys j d hd
              obtain ⟨j1, h1⟩ := List.getElem?_eq_some_iff.mp ex
              obtain ⟨j2, h2⟩ := List.getElem?_eq_some_iff.mp ey
              have hj : j < min xs.length ys.length := by omega
              rw [List.getElem?_map, List.getElem?_range hj] at hv
              cases hv
              obtain ⟨x', e1, r1⟩ := rs1.get ex
              obtain ⟨y', e2, r2⟩ := rs2.get ey
              have := b4 j hj
              rw [e1, e2] at this
              exact .tup (SqT.of this) (.cons (r1.stp st2) (.cons (r2.stp st2) .nil))
            have hsz1 : s1.heap.objs.size ≤ h1.objs.size := by rw [hsz]; omega
            have hn : H' h1.objs.size = none := b6 _ (I1.hok.fresh hsz1) fun j hj => by
              obtain ⟨_, _, _, _, _, _, _, a6⟩ := hTj j hj
              exact a6
            have new : ObjOk X.prog X.w (upd H' h1.objs.size (.lst ((List.range (min xs.length ys.length)).map fun j => V.ref (T j)))) h' h1.objs.size (.lst ((List.range (min xs.length ys.length)).map fun j => V.ref (T j))) := by
              refine ⟨by rw [List.length_map, List.length_range]; exact hz, acc.toList, c', ?_, by rw [Array.toArray_toList]; exact hL⟩
              rw [← hlen, ← Array.length_toList]
              refine vals_of_get acc.toList _ fun j u hj => ?_
              have hj' : acc[j]? = some u := by rw [← Array.getElem?_toList]; exact hj
              obtain ⟨t, _, _, a1, _⟩ := hacc.2.1 j u hj'
              show u = Value.ref (match acc[j]? with | some (.ref t) => t | _ => 0)
              rw [hj', a1]
            obtain ⟨c1, c2⟩ := lay_one b1 b2 hsz1 hn new
            refine ⟨.ref h1.objs.size, _, I1.un (t' := _) c1 c2, rfl, ?_⟩
            exact PRo.new (PRg.stp st2 pr) S2 rs' _ hn
          · exact pr.elim
        · exact pr.elim
      · exact pr.elim⟩
end
end Tb

/-! Defs as they stand on the head. -/
namespace Tb
open PySem PySem.Spec PyProof.Rows L2

/-- the def at f: its mirror -/
def FOk (P : Program) (w : World) (K : PySem.W.Frag) (mg : Str → Option Value) (base : Heap) (k : Nat) (f : Addr) (n : Nat) (fm : FM) : Prop :=
  ∃ fd ps, FnOk P w K mg base (L2.CX P w) k f fd ps (spE ⟨P, w, K⟩ n fm) ∧ Binds K fd ps []
section
variable {P : Program} {w : World} {K : PySem.W.Frag} {mg : Str → Option Value} {base : Heap} {x qual : Str} {params : Arguments} {body : List Stmt} {scope : Scope} {f : Addr}
theorem fok_of {N ps : List Str} {j k n : Nat} (b : SM) (F : ∃ fd, FunD K x qual params body scope [] [] f fd) (S : FnScope N ps scope) (hn : ps.length = n) (hk : N.length = n + k)
    (hbd : ∀ (kV doc pm : Value) (an : Option Addr) (cdv ct : Value) (us : List Value), us.length = ps.length → bindArgs (PySem.W.fnOf x qual params body scope .none kV doc pm an cdv ct) ⟨us, []⟩ = pure (ps.zip us))
    (hb : ∀ (cdv : Value) (A : Around) (outer : List Env) (s : Shared) (H : Hp) (E : XK), Room j (A.deeper (envOfC qual scope s.heap.objs.size f cdv)) → ESs (cxOf (L2.CX P w) P w K mg base N qual scope f cdv A outer s H E) (WD E) body b) :
    FOk P w K mg base (j + 1) f n (fnM k b) := by
  obtain ⟨fd, F⟩ := F
  exact ⟨fd, ps, fn_ok b F S hn hk hb, F.bindsN hbd⟩
end
/-- a promise of nothing -/
theorem fok_stuck {P : Program} {w : World} {K : PySem.W.Frag} {mg : Str → Option Value} {base : Heap} {x qual : Str} {params : Arguments} {body : List Stmt} {scope : Scope} {f : Addr} {ps : List Str} {j n : Nat} (F : ∃ fd, FunD K x qual params body scope [] [] f fd)
    (hbd : ∀ (kV doc pm : Value) (an : Option Addr) (cdv ct : Value) (us : List Value), us.length = ps.length → bindArgs (PySem.W.fnOf x qual params body scope .none kV doc pm an cdv ct) ⟨us, []⟩ = pure (ps.zip us)) : FOk P w K mg base j f n (fun _ _ => .stuck) := by
  obtain ⟨fd, F⟩ := F
  exact ⟨fd, ps, ⟨fun vs H Q E ⟨_, _, _, _, _, _, _, z⟩ => z.elim, fun A outer s H args us vs Q E _ _ _ _ ⟨_, _, _, _, _, _, _, z⟩ => z.elim⟩, F.bindsN hbd⟩
section
variable {X : Cx} {W : WX} {k n : Nat} {f C : Addr} {x m : Str} {p pos apos : Pos} {e o : Expr} {es : List Expr} {ma : AM} {mo : EM} {fm : FM}
theorem ec_callS (tk : Takes X W) (F : FOk X.prog X.w X.K X.mg X.base k f n fm) (hr : Room k X.A) (hm : X.mg x = some (.ref f)) (hk : PySem.W.keepIn X.K (.ref f) = true) (ha : EA X W (e :: es) ma) (hg : Gl X x := by rfl)
    (hdb : (x == ("__debug__" : Str)) = false := by decide) (he : starEach (e :: es) X.env = (false, eval e X.env) :: starEach es X.env := by rfl) (hpl : (backTo pos (starEach es X.env)).any (·.1) = false := by rfl) : EE X W (.Call (.Name x p) (e :: es) [] pos) (eCallS n fm ma) := by
  obtain ⟨fd, ps, F, hb⟩ := F
  exact ee_callS tk F hr hm hk hb ha hg hdb he hpl
theorem ec_callP (tk : Takes X W) (F : FOk X.prog X.w X.K X.mg X.base k f n fm) (hr : Room k X.A) (hm : X.mg x = some (.ref f)) (hk : PySem.W.keepIn X.K (.ref f) = true) (ha : EA X W (e :: es) ma) (hg : Gl X x := by rfl)
    (hdb : (x == ("__debug__" : Str)) = false := by decide) (he : starEach (e :: es) X.env = (false, eval e X.env) :: starEach es X.env := by rfl) (hpl : (backTo pos (starEach es X.env)).any (·.1) = false := by rfl) : EE X W (.Call (.Name x p) (e :: es) [] pos) (eCallP n fm ma) := by
  obtain ⟨fd, ps, F, hb⟩ := F
  exact ee_callP tk F hr hm hk hb ha hg hdb he hpl
theorem ec_make (tk : Takes X W) (M : Mk X.K (He.ga X.K x) f) (F : FOk X.prog X.w X.K X.mg X.base k f n fm) (hr : Room (k + 1) X.A) (hm : X.mg x = some (.ref (He.ga X.K x))) (ha : EA X W (e :: es) ma)
    (hW : ∀ c σ σ' H, W c none σ H → W c none σ' H := by intro _ _ _ _ h; exact h) (hg : Gl X x := by rfl)
    (hdb : (x == ("__debug__" : Str)) = false := by decide) (he : starEach (e :: es) X.env = (false, eval e X.env) :: starEach es X.env := by rfl) (hpl : (backTo pos (starEach es X.env)).any (·.1) = false := by rfl) : EE X W (.Call (.Name x p) (e :: es) [] pos) (eMake x n fm ma) := by
  obtain ⟨fd, ps, F, hb⟩ := F
  exact ee_make tk M F hr hm hb ha hW hg hdb he hpl
theorem meth_of {c : Str} (hc : Cls X.K (He.ga X.K c)) (hm : Meth X.K (He.ga X.K c) m f) (F : FOk X.prog X.w X.K X.mg X.base k f n fm) (hr : Room k X.A) : MethOk X m n c fm := by
  obtain ⟨fd, ps, F, hb⟩ := F
  exact ⟨f, fd, ps, k, hc, hm, F, hr, hb⟩
end
theorem units_of {k : Nat} {A : Around} (r : Room k A) : A.units + 200 < cLine := by have := r.un; omega
theorem bb_len : bootBuiltins "len" = some (.builtin "len") := by rfl
theorem bb_sum : bootBuiltins "sum" = some (.builtin "sum") := by rfl
theorem bb_min : bootBuiltins "min" = some (.builtin "min") := by rfl
theorem bb_max : bootBuiltins "max" = some (.builtin "max") := by rfl
theorem bb_all : bootBuiltins "all" = some (.builtin "all") := by rfl
theorem bb_any : bootBuiltins "any" = some (.builtin "any") := by rfl
theorem bb_abs : bootBuiltins "abs" = some (.builtin "abs") := by rfl
theorem bb_sorted : bootBuiltins "sorted" = some (.builtin "sorted") := by rfl
theorem bb_list : bootBuiltins "list" = some (.type "list") := by rfl
theorem bb_tuple : bootBuiltins "tuple" = some (.type "tuple") := by rfl
theorem bb_int : bootBuiltins "int" = some (.type "int") := by rfl
theorem bb_bool : bootBuiltins "bool" = some (.type "bool") := by rfl
theorem bb_str : bootBuiltins "str" = some (.type "str") := by rfl
theorem aug_add {X : Cx} {W : WX} {e : Expr} {m : EM} {pos pos' : Pos} (i : Nat) {x : Str} (hN : X.N.Nodup) (h : EE X W e m) (hi : X.N[i]? = some x := by rfl) (hx : Loc X.env.scope x := by first | exact Or.inl rfl | exact Or.inr rfl)
    (hf : X.fn x = true ∨ X.env.scope.names.lookup x = some .local := by first | exact .inl rfl | exact .inr rfl) : ES X W (.AugAssign (.Name x pos') .Add e pos) (sAug i (fun _ d e => match d, e with
      | .int a, .int b => .v (.int (a + b))
      | _, _ => .no) m) := es_augAdd i hN h hi hx hf
end Tb

/-! xs[::-1] of lists and tuples. -/
namespace PySem.HTr
open PySem PySem.Spec PyProof.Rows HT L2
section
variable {prog : Program} {w : World} {A : Around} {E : Value → Shared → Prop} {s : Shared}
theorem adjust_back (n : Nat) : Builtin.Slice.sliceAdjust none none (-1) (n : Int) = ((n : Int) - 1, -1) := by
  unfold Builtin.Slice.sliceAdjust
  simp
theorem places_back (n : Nat) : Builtin.Slice.slicePlaces ((n : Int) - 1) (-1) (-1) = n := by
  unfold Builtin.Slice.slicePlaces
  have h1 : ¬ ((-1 : Int) > 0) := by omega
  simp only [h1, if_false]
  split
  · have e : ((n : Int) - 1 - -1 - 1) / (- -1) = (n : Int) - 1 := by
      rw [show (- -1 : Int) = 1 by decide, Int.ediv_one]
      omega
    omega
  · omega
theorem sliceApplied_back {sl : Addr} {vl vu vs : Value} {n : Nat} {Q : Int × Int × Nat → Shared → Prop} (hs : s.heap.IsSliceOf sl vl vu vs) (pl : IsPart vl none) (pu : IsPart vu none) (ps : IsPart vs (some (-1)))
    (h : Q ((n : Int) - 1, -1, n) s) : wpAny (model prog w) A (Builtin.Slice.sliceApplied (.ref sl) (pure (n : Int))) Q E s := by
  obtain ⟨os, hos, hcs, hds⟩ := id hs
  unfold Builtin.Slice.sliceApplied Builtin.Slice.sliceFields
  refine wpAny_bind (wpAny_bind (wpAny_field hos hds (x := vl) rfl (wpAny_bind (wpAny_field hos hds (x := vu) rfl (wpAny_bind (wpAny_field hos hds (x := vs) rfl (wpAny_pure ?_)))))))
  refine wpAny_bind (slicePart_ ps ?_)
  show wpAny _ _ (if ((-1 : Int) == 0) = true then _ else _) _ _ s
  rw [if_neg (by decide)]
  refine wpAny_bind (slicePart_ pl (wpAny_bind (slicePart_ pu (wpAny_bind (wpAny_pure ?_)))))
  show wpAny _ _ (match Builtin.Slice.sliceAdjust none none (-1) (n : Int) with | (lo, hi) => pure (lo, (-1 : Int), Builtin.Slice.slicePlaces lo hi (-1))) _ _ s
  rw [adjust_back n]
  show wpAny _ _ (pure ((n : Int) - 1, (-1 : Int), Builtin.Slice.slicePlaces ((n : Int) - 1) (-1) (-1))) _ _ s
  rw [places_back]
  exact wpAny_pure h
theorem fm_congr {α β : Type} {f g : α → Option β} : ∀ {l : List α}, (∀ m ∈ l, f m = g m) → l.filterMap f = l.filterMap g
  | [], _ => rfl
  | a :: l, h => by rw [List.filterMap_cons, List.filterMap_cons, h a List.mem_cons_self, fm_congr (l := l) fun m hm => h m (List.mem_cons_of_mem _ hm)]
theorem pick_back (xs : Array Value) : ((List.range xs.size).filterMap fun (m : Nat) => xs[(((xs.size : Nat) : Int) - 1 + (m : Int) * -1).toNat]?).toArray = xs.toList.reverse.toArray := by
  have e : (List.range xs.size).filterMap (fun (m : Nat) => xs[(((xs.size : Nat) : Int) - 1 + (m : Int) * -1).toNat]?) = ((List.range xs.size).map fun k => xs.size - 1 - k).filterMap (xs[·]?) := by
    rw [List.filterMap_map]
    refine fm_congr fun m hm => ?_
    have := List.mem_range.mp hm
    show xs[_]? = xs[xs.size - 1 - m]?
    have e : (((xs.size : Nat) : Int) - 1 + (m : Int) * -1).toNat = xs.size - 1 - m := by omega
    rw [e]
  rw [e, PySem.W.krv_range, List.filterMap_reverse, PySem.W.krv_all]
theorem getItem_tuple_back {t sl : Addr} {items : Array Value} {vl vu vs : Value} {Q : Value → Shared → Prop} (ht : IsTup s.heap t items) (hs : s.heap.IsSliceOf sl vl vu vs) (pl : IsPart vl none) (pu : IsPart vu none) (ps : IsPart vs (some (-1)))
    (h : Q (.ref s.heap.objs.size) { s with heap := s.heap.push { cls := .type "tuple", data := .seq items.toList.reverse.toArray } })
    (hsz : items.size ≤ sizeLine) : wpAny (model prog w) A (getItem (.ref t) (.ref sl)) Q E s := by
  have htake : sizeOk (.seq items.toList.reverse.toArray) := by
    show (items.toList.reverse.toArray).size ≤ sizeLine
    rw [List.size_toArray, List.length_reverse, Array.length_toList]
    exact hsz
  obtain ⟨os, hos, hcs, hds⟩ := id hs
  have hTs : s.TypeIs (.ref sl) "slice" := ⟨os, hos, hcs⟩
  unfold getItem
  try with_reducible refine wpAny_holding ?_
  first | refine wpAny_bind (wpAny_pure ?_) | skip
  refine wpAny_bind (wpAny_sequenceKey ht.typeIs (by decide) ?_)
  refine wpAny_bind (wpAny_callSpecial?_slot (name := Str.ofString "__getitem__") ht.typeIs PyProof.Rows.slot_tuple_getitem
    (wpAny_call_entry PyProof.Rows.slot_tuple_getitem ht.typeIs entry_tuple_getitem ?_ (args_tuple_getitem _ _)))
  show wpAny _ _ (Builtin.Tuple.tupleItemsOf (.ref t) >>= _) _ _ s
  refine wpAny_bind (tupleItemsOf_ ht ?_)
  refine wpAny_bind (wpAny_typeOf hTs ?_)
  rw [if_pos (by decide)]
  refine wpAny_bind (sliceApplied_back hs pl pu ps ?_)
  show wpAny _ _ (if (((items.size : Nat) : Int) - 1 == 0 && (-1 : Int) == 1 && items.size == items.size) = true then _ else _) _ _ s
  rw [if_neg (by simp), pick_back]
  first
    | exact wpAny_bind (m := Builtin.Tuple.tupleExact _) (wpAny_newObj_type (wpAny_pure ⟨_, rfl, wpAny_pure h⟩) htake)
    | exact wpAny_bind (m := Builtin.Tuple.tupleExact _) (wpAny_newObj_type (wpAny_bind (wpAny_pure (wpAny_pure ⟨_, rfl, wpAny_pure h⟩))) htake)
    | exact wpAny_bind (wpAny_bind (m := Builtin.Tuple.tupleExact _) (wpAny_newObj_type (wpAny_pure (wpAny_pure ⟨_, rfl, wpAny_pure h⟩)) htake))
    | exact wpAny_bind (wpAny_bind (m := Builtin.Tuple.tupleExact _) (wpAny_newObj_type (wpAny_pure ⟨_, rfl, wpAny_pure h⟩) htake))
end
end PySem.HTr
namespace Tb
open PySem PySem.Spec PyProof.Rows L2
def tRevT (K : PySem.W.Frag) (te : TE) : TE := fun σ H Q => te σ H fun x H1 => ∃ a xs, x = .ref a ∧ ((SqL K H1 a xs ∧ ∀ p, H1 p = none → Q (.ref p) (upd H1 p (.lst xs.reverse))) ∨ (SqT K H1 a xs ∧ ∀ p, H1 p = none → Q (.ref p) (upd H1 p (.tup xs.reverse))))
theorem pe_revT {X : Cx} {e : Expr} {te : TE} {k : Nat} {p1 p2 p3 pos : Pos} (he : PE X e te) : PE X (.Subscript e (.Slice none none (some (.UnaryOp .USub (.Constant (.int 1) k p1) p2)) p3) pos) (tRevT X.K te) := by
  refine ⟨fun pins s σ H Q I h => ?_⟩
  refine Subscript_ (thn (he.run pins s σ H _ I h) fun v s1 ⟨x, H1, I1, r1, q1⟩ => ?_)
  obtain ⟨a, xs, ex, hx⟩ := q1
  subst ex
  cases r1
  have hst : PO X (some (.UnaryOp .USub (.Constant (.int 1) k p1) p2)) (tPart (tUn (rU fun i => .int (-i)) (tC (.int 1)))) := po_some (pe_un un_neg pe_int)
  refine wpAny_Slice (thn (po_none.run pins s1 σ H1 (fun o H2 => o = none ∧ H2 = H1) I1 ⟨rfl, rfl⟩) fun vl s2 ⟨l, H2, I2, pl, el, e2⟩ => ?_)
  subst el e2
  refine thn (po_none.run pins s2 σ H2 (fun o H3 => o = none ∧ H3 = H2) I2 ⟨rfl, rfl⟩) fun vu s3 ⟨u, H3, I3, pu, eu, e3⟩ => ?_
  subst eu e3
  refine thn (hst.run pins s3 σ H3 (fun o H4 => o = some (-1) ∧ H4 = H3) I3 ⟨1, rfl, -1, rfl, rfl, rfl⟩) fun vs s4 ⟨o, H4, I4, ps, eo, e4⟩ => ?_
  subst eo e4
  have I5 : Inv X pins σ H4 { s4 with heap := s4.heap.push { cls := .type "slice", data := .fields #[vl, vu, vs] } } := I4.kept (t' := s4.toks) fun b ob q => Heap.get?_push_of_some _ q
  show wpAny (model X.prog X.w) X.A (subscriptTail e (.Slice none none (some (.UnaryOp .USub (.Constant (.int 1) k p1) p2)) p3) (.ref a) (.ref s4.heap.objs.size)) (EP X pins σ Q) X.xe { s4 with heap := s4.heap.push { cls := .type "slice", data := .fields #[vl, vu, vs] } }
  rcases hx with ⟨hx, q⟩ | ⟨hx, q⟩
  · obtain ⟨its, r, ht, hz⟩ := I5.list hx
    have hlen := r.length
    refine tail_any (ops := [.ref a, .ref s4.heap.objs.size]) ht.isList.typeIs (PySem.slot_list_getitem.lookup) ?_ (by with_unfolding_all rfl)
    refine wpAny_getItem_list_slice ht.isList (Heap.IsSliceOf.new _ vl vu vs) pl pu ps (by decide) ?_ (by rw [List.size_toArray]; omega)
    rw [PySem.W.krv_pick]
    refine ⟨.ref _, _, I5.laid (t' := s4.toks) (o := .lst xs.reverse) (fun b ob q => Heap.get?_push_of_some _ q) (Nat.le_refl _) ?_, rfl, q _ (I5.hok.fresh (Nat.le_refl _))⟩
    exact ⟨by rw [List.length_reverse]; exact hz, _, 0, r.reverse, Heap.get?_push_size _ rfl⟩
  · obtain ⟨its, r, ht, hz⟩ := I5.tuple hx
    have hlen := r.length
    refine tail_any (ops := [.ref a, .ref s4.heap.objs.size]) ht.typeIs (PyProof.Rows.slot_tuple_getitem.lookup) ?_ (by with_unfolding_all rfl)
    refine PySem.HTr.getItem_tuple_back ht (Heap.IsSliceOf.new _ vl vu vs) pl pu ps ?_ (by rw [List.size_toArray]; omega)
    refine ⟨.ref _, _, I5.laid (t' := s4.toks) (o := .tup xs.reverse) (fun b ob q => Heap.get?_push_of_some _ q) (Nat.le_refl _) ?_, rfl, q _ (I5.hok.fresh (Nat.le_refl _))⟩
    exact ⟨by rw [List.length_reverse]; exact hz, _, r.reverse, IsTup.new _ _⟩
def revA (lh : LH) (d : D) : Ro := match d with
  | .tup xs => .v (.tup xs.reverse)
  | d => (match asL lh d with
    | some xs => .l xs.reverse
    | none => .no)
theorem ee_revA {X : Cx} {W : WX} {e : Expr} {m : EM} {pos : Pos} (al : Bool) {k : Nat} {p1 p2 p3 : Pos} (he : EE X W e m) : EE X W (.Subscript e (.Slice none none (some (.UnaryOp .USub (.Constant (.int 1) k p1) p2)) p3) pos) (e1 al revA m) :=
  peImp (pe_revT he) fun σ H Q ⟨A, ρ, τ, lh, er, S, pr⟩ => ⟨A, ρ, τ, lh, er, S, PRg.thn pr fun d lh1 ρ1 H1 x s1 S1 r1 pr1 => by
    have pr4 := PRo.of pr1
    unfold revA at pr4
    split at pr4
    · cases r1 with
      | @tup a vs _ q r => exact ⟨a, vs, rfl, .inr ⟨q, PRo.tup pr4 S1 r.reverse⟩⟩
    · split at pr4
      · rename_i xs h1
        obtain ⟨a, vs, rfl, hq, rs⟩ := asL_rel S1 r1 h1
        exact ⟨a, vs, rfl, .inl ⟨hq, PRo.new pr4 S1 rs.reverse⟩⟩
      · exact pr4.elim⟩
/-! ### constants of a module -/
theorem strs_rel {G : Gx} {A : Addr → Prop} {ρ : List Addr} {H : Hp} {K : PySem.W.Frag} : ∀ ss : List Str, VRs G A ρ H ((ss.map He.Dv.str).map (He.Dv.v K)) (ss.map D.str)
  | [] => .nil
  | s :: ss => .cons (.str s) (strs_rel ss)
theorem ee_tupG {X : Cx} {W : WX} {pos : Pos} {K : PySem.W.Frag} {mg : Str → Option Value} {x : Str} {ss : List Str} (e1 : X.K = K) (e2 : X.mg = mg) (hg : Gl X x) (hm : mg x = some (.ref (He.ga K x))) (ht : He.tupB K x (ss.map .str) = true) (hd : (x == ("__debug__" : Str)) = false := by decide) : EE X W (.Name x pos) (eC (.tup (ss.map .str))) := by
  subst e1 e2
  exact ee_glob (v := .ref (He.ga X.K x)) hm rfl (fun A ρ H => .tup (He.tupB_ok ht H) (strs_rel ss)) hg hd
theorem ee_intG {X : Cx} {W : WX} {pos : Pos} {mg : Str → Option Value} {x : Str} {i : Int} (e2 : X.mg = mg) (hg : Gl X x) (hm : ∃ t, mg x = some (.int i t)) (hd : (x == ("__debug__" : Str)) = false := by decide) : EE X W (.Name x pos) (eC (.int i)) := by
  subst e2
  obtain ⟨t, hm⟩ := hm
  exact ee_glob (v := .int i) hm ⟨t, rfl⟩ (fun A ρ H => .int i) hg hd
end Tb

/-! tests that are chains; x.pop() -/
namespace Tb
open PySem PySem.Spec PyProof.Rows L2
def tBl (m : EM) : TM := fun τ lh => (m τ lh).bind fun d lh => match d with
  | .bl b => .ok b lh
  | _ => .stuck
section
variable {X : Cx} {W : WX} {a b c o e : Expr} {m1 m2 m3 mo m : EM} {pos cpos apos : Pos} {op op' : CmpOp} {g g' : LH → D → D → Ro}
theorem tBl_imp {m : EM} {σ : L2.St} {H : Hp} {Q : Bool → Hp → Prop} (h : tT (gx X) W (tBl m) σ H Q) : tE (gx X) W m σ H (fun x H' => ∃ k, x = .bl k ∧ Q k H') := by
  obtain ⟨A, ρ, τ, lh, er, S, pr⟩ := h
  refine ⟨A, ρ, τ, lh, er, S, PRg.thn pr fun d lh1 ρ1 H1 x s1 S1 r1 pr1 => ?_⟩
  cases d with
  | bl b =>
    cases r1
    exact ⟨b, rfl, pr1 ρ1 H1 b (Stp.refl _ _) S1 rfl⟩
  | _ => exact pr1.elim
theorem et_chain2 (ho : OpD X (compareOp op) g) (ho' : OpD X (compareOp op') g') (ha : EE X W a m1) (hb : EE X W b m2) (hc : EE X W c m3) (hm : lastMarks [op, op'] [b, c] = false := by rfl) : ET X W (.Compare a [op, op'] [b, c] pos) (tBl (eChain g g' m1 m2 m3)) :=
  ptImp (pt_chain (ho false) (ho' false) ha hb hc hm) fun σ H Q hQ => by
    obtain ⟨A, ρ, τ, lh, er, S, pr⟩ := tBl_imp hQ
    exact ⟨A, ρ, τ, lh, er, S, PRg.thn pr fun d lh1 ρ1 H1 x s1 S1 r1 pr1 => ⟨A, ρ1, τ, lh1, er.stp s1, S1, PRg.thn pr1 fun e lh2 ρ2 H2 y s2 S2 r2 pr2 => ⟨A, ρ2, lh2, d, e, S2, r1.stp s2, r2, by
      cases q : g lh2 d e with
      | v d' =>
        rw [q] at pr2
        cases d' with
        | bl k =>
          intro ρ3 H3 v s3 S3 r3
          cases r3
          cases k with
          | true => exact ⟨true, rfl, iteT ⟨A, ρ3, τ, lh2, ((er.stp s1).stp s2).stp s3, S3, PRg.thn (PRg.stp s3 pr2) fun z lh4 ρ4 H4 w s4 S4 r4 pr4 => ⟨A, ρ4, lh4, e, z, S4, (r2.stp s3).stp s4, r4, PRo.of pr4⟩⟩⟩
          | false => exact ⟨false, rfl, iteF (pr2 ρ3 H3 _ s3 S3 (.bl false))⟩
        | _ => exact pr2.elim
      | l xs => rw [q] at pr2; exact pr2.elim
      | no => rw [q] at pr2; exact pr2.elim⟩⟩⟩
theorem ee_pop (ho : EE X W o mo) (hb : attributeBase o "pop" X.env (eval o X.env) = eval o X.env := by rfl)
    (h3 : (apos.endLine == cpos.line) = true := by rfl) : EE X W (.Call (.Attribute o "pop" apos) [] [] cpos) (eMt0 popG mo) :=
  ee_mt0 PySem.F.slot_list_pop PySem.F.type_list_pop mt_pop (fun A ρ H a vs xs ys d Q ha rs hg k => by
    unfold popG at hg
    split at hg
    · rename_i y hy
      cases hg
      obtain ⟨v, hv, rv⟩ := rs.get hy
      refine ⟨a, vs, v, rfl, rfl, ha, by rw [rs.length]; exact hv, k v _ ?_ rv⟩
      rw [List.dropLast_eq_take, List.dropLast_eq_take, rs.length]
      exact rs.take _
    · cases hg) ho hb h3
end
end Tb

/-! A statement that keeps to itself: run on an empty logical heap, what it leaves told by value. -/
namespace Tb
open PySem PySem.Spec PyProof.Rows L2

def clr (f : D → Option D) (τ : Tau) : Tau := τ.map fun o => o.bind f
def sP (s : SM) : SM := fun τ lh => match s (clr (frz [] fuel) τ) [] with
  | .nx τ' lh' => .nx (clr (frz lh' fuel) τ') lh
  | .bk τ' lh' => .bk (clr (frz lh' fuel) τ') lh
  | .rt d lh' => (match frz lh' fuel d with
    | some d' => .rt d' lh
    | none => .stuck)
  | .exc c τ' lh' => .exc c (clr (frz lh' fuel) τ') lh
  | .stuck => .stuck
section
variable {G : Gx} {W : WX} {A B : Addr → Prop} {ρ ρ' ρ2 : List Addr} {H H' : Hp} {lh lh' : LH} {σ : L2.St} {τ : Tau}
theorem ER.clr {f : D → Option D} (e : ER G A ρ H σ τ) (h : ∀ {v : V} {d d' : D}, VR G A ρ H v d → f d = some d' → VR G B ρ2 H v d') : ER G B ρ2 H σ (Tb.clr f τ) := ⟨by unfold Tb.clr; rw [List.length_map]; exact e.len, fun i d q => by
  unfold Tb.clr at q
  rw [List.getElem?_map] at q
  cases q1 : τ[i]? with
  | none => rw [q1] at q; cases q
  | some o =>
    rw [q1] at q
    cases o with
    | none => cases q
    | some d1 =>
      have q2 : f d1 = some d := by simpa using q
      obtain ⟨v, h1, h2⟩ := e.at_ i d1 q1
      exact ⟨v, h1, h h2 q2⟩⟩
theorem sP_imp {E : Ends} {s : SM} (h : tS G W (sP s) E σ H) : tS G W s E σ H := by
  obtain ⟨A, ρ, τ, lh, er, S, pr⟩ := h
  have S0 : SR G (fun a => A a ∨ a ∈ ρ) [] H [] := SR.none_ S.tab fun a z => z.elim (S.av a) S.mutT
  have e0 : ER G (fun a => A a ∨ a ∈ ρ) [] H σ (Tb.clr (frz [] fuel) τ) := er.clr fun r e => frz_genL (lh := []) (fun m a o _ z => by simp at z) (fun a o ho n1 n2 => ⟨fun z => z.elim n1 n2, by simp⟩) (fun z => absurd rfl z) _ r e
  refine ⟨fun a => A a ∨ a ∈ ρ, [], _, [], e0, S0, ?_⟩
  have bk : ∀ {ρ' : List Addr} {H' : Hp} {lh' : LH} {σ' : L2.St} {τ' : Tau}, Stp [] H ρ' H' → SR G (fun a => A a ∨ a ∈ ρ) ρ' H' lh' → ER G (fun a => A a ∨ a ∈ ρ) ρ' H' σ' τ' → ER G A ρ H' σ' (Tb.clr (frz lh' fuel) τ') := fun s S' e => e.clr fun r z => frz_gen S' (fun a o ho n1 n2 => ⟨fun z => n1 (.inl z), fun z => n1 (.inr z)⟩) (s.new_ S) _ r z
  unfold sP at pr
  cases e : s (Tb.clr (frz [] fuel) τ) [] with
  | nx τ' lh' =>
    rw [e] at pr
    exact fun ρ' H' σ' s S' e' => pr ρ H' σ' (s.widen ρ) (S.widen s S'.tab) (bk s S' e')
  | bk τ' lh' =>
    rw [e] at pr
    exact fun ρ' H' σ' s S' e' => pr ρ H' σ' (s.widen ρ) (S.widen s S'.tab) (bk s S' e')
  | exc c τ' lh' =>
    rw [e] at pr
    exact fun ρ' H' σ' s S' e' => pr ρ H' σ' (s.widen ρ) (S.widen s S'.tab) (bk s S' e')
  | rt d lh' =>
    rw [e] at pr
    intro ρ' H' v s S' rv
    cases e2 : frz lh' fuel d with
    | none => simp only [e2] at pr; exact pr.elim
    | some d' =>
      simp only [e2] at pr
      exact pr ρ H' v (s.widen ρ) (S.widen s S'.tab) (frz_gen S' (fun a o ho n1 n2 => ⟨fun z => n1 (.inl z), fun z => n1 (.inr z)⟩) (s.new_ S) _ rv e2)
  | stuck => rw [e] at pr; exact pr.elim
end
theorem es_P {X : Cx} {W : WX} {st : Stmt} {s : SM} (h : ES X W st s) : ES X W st (sP s) := psImp h fun E σ H => sP_imp
theorem ess_P {X : Cx} {W : WX} {st : List Stmt} {s : SM} (h : ESs X W st s) : ESs X W st (sP s) := pssImp h fun E σ H => sP_imp
end Tb

/-! Instances of classes without an __init__ of their own. -/
namespace Tb
open PySem PySem.Spec PyProof.Rows L2
/-- what is asked of such a class -/
structure Mk0 (K : PySem.W.Frag) (C : Addr) : Prop where
  makes : PySem.W.makesIn K C = true
  init : PySem.W.findIn K (.ref C) "__init__" = some (some (.builtin "object.__init__"))
  kp : PySem.W.keepIn K (.ref C) = true
def mk0B (K : PySem.W.Frag) (x : Str) : Bool := PySem.W.makesIn K (He.ga K x) && (He.eqO (PySem.W.findIn K (.ref (He.ga K x)) "__init__") (some (some (.builtin "object.__init__"))) && PySem.W.keepIn K (.ref (He.ga K x)))
theorem mk0B_ok {K : PySem.W.Frag} {x : Str} (h : mk0B K x = true) : Mk0 K (He.ga K x) := by
  obtain ⟨h1, h2⟩ := He.ba h
  obtain ⟨h2, h3⟩ := He.ba h2
  exact ⟨h1, He.eqO_ok h2, h3⟩
section
variable {X : Cx} {W : WX} {C : Addr} {x : Str} {p pos : Pos}
theorem pe_mk0 (M : Mk0 X.K C) (hg : Gl X x) (hm : X.mg x = some (.ref C)) (hdb : (x == ("__debug__" : Str)) = false := by decide) :
    PE X (.Call (.Name x p) [] [] pos) (fun σ H Q => ∀ a dx, H a = none → H dx = none → dx ≠ a → Q (.ref a) (upd (upd H dx (.own a)) a (.ins C dx []))) := by
  refine ⟨fun pins s σ H Q I h => ?_⟩
  refine wpAny_Call_Name_kw (ld_glob I hg hm ?_ hdb)
  refine PySem.W.callWith_K0 I.kIn M.kp ?_
  have hq := h (s.heap.objs.size + 1) s.heap.objs.size (I.hok.fresh (Nat.le_succ _)) (I.hok.fresh (Nat.le_refl _)) (Nat.ne_of_lt (Nat.lt_succ_self _))
  have I2 := Inv.made (C := C) I
  have Y := PySem.W.makes_of (M := model X.prog X.w) I.kIn M.makes
  have g1 : ((s.heap.push PySem.W.emptyDict).push (PySem.W.instObj C s.heap.objs.size)).get? (s.heap.objs.size + 1) = some (PySem.W.instObj C s.heap.objs.size) := by
    have := Heap.get?_push_size (s.heap.push PySem.W.emptyDict) (o := PySem.W.instObj C s.heap.objs.size) rfl
    rwa [Heap.size_push] at this
  have t1 : PySem.W.Looks (model X.prog X.w) ((s.heap.push PySem.W.emptyDict).push (PySem.W.instObj C s.heap.objs.size)) (typeOf (.ref (s.heap.objs.size + 1))) (.ref C) := (PySem.W.Looks.ld g1).andThen .now
  have t2 : PySem.W.Looks (model X.prog X.w) ((s.heap.push PySem.W.emptyDict).push (PySem.W.instObj C s.heap.objs.size)) (isInstance (.ref (s.heap.objs.size + 1)) (.type "object")) true :=
    t1.andThen (Y.top.keeps fun b o e => Heap.get?_push_of_some _ (Heap.get?_push_of_some _ e))
  refine wpAny_call (make_map0 I.kIn M.makes M.init (fun self => PySem.W.Looks.of_pure (PySem.W.oi_bind self)) ?_)
  refine codeAny_call_builtin PySem.W.oi_plain PySem.W.entry_oi (PySem.W.check_slot PySem.W.oi_kind PySem.W.oi_split t2 (PySem.W.oi_args _) ?_)
  rw [PySem.W.oi_run]
  exact wpAny_pure ⟨rfl, V.ref (s.heap.objs.size + 1), _, I2, rfl, hq⟩
/-- C() -/
def eMake0 (c : Str) : EM := fun _ lh => .ok (.loc lh.length) (lh ++ [.ins c []])
theorem ee_make0 (M : Mk0 X.K (He.ga X.K x)) (hm : X.mg x = some (.ref (He.ga X.K x))) (hg : Gl X x := by rfl) (hdb : (x == ("__debug__" : Str)) = false := by decide) : EE X W (.Call (.Name x p) [] [] pos) (eMake0 x) :=
  peImp (pe_mk0 M hg hm hdb) fun σ H Q ⟨A, ρ, τ, lh, er, S, pr⟩ a dx h1 h2 h3 => by
    obtain ⟨t1, t2⟩ := make_rel (c := x) S h1 h2 h3
    have el : ρ.length = lh.length := S.len
    refine pr _ _ _ t1 t2 (.loc ?_)
    rw [← el]
    simp
end
@[simp] theorem z_make0 {c : Str} {τ : Tau} {lh : LH} : eMake0 c τ lh = .ok (.loc lh.length) (lh ++ [.ins c []]) := rfl
end Tb
namespace Tb
open PySem PySem.Spec PyProof.Rows L2
/-! ### list(range(i, j, k)) -/
def rngN (i k : Int) (n : Nat) : List D := (List.range n).map fun m => D.int (i + (m : Nat) * k)
def eLisRng3 (al : Bool) (m : AM) : EM := fun τ lh => (m τ lh).bind fun ds lh => match ds with
  | [.int i, .int j, .int k] => if k ≠ 0 ∧ k.natAbs < 1073741824 ∧ Builtin.Range.small i j k = true ∧ (0 ≤ Builtin.Range.rangeSize i j k ∧ Builtin.Range.rangeSize i j k ≤ 2 ^ 24) then (Ro.l (rngN i k (Builtin.Range.rangeSize i j k).toNat)).res al lh else .stuck
  | _ => .stuck
theorem rngN_rel {G : Gx} {A : Addr → Prop} {ρ : List Addr} {H : Hp} (i k : Int) (n : Nat) : VRs G A ρ H ((List.range n).map fun m => V.int (i + (m : Nat) * k)) (rngN i k n) := by
  unfold rngN
  generalize List.range n = l
  induction l with
  | nil => exact .nil
  | cons a l ih => exact .cons (.int _) ih
theorem vals_step {i k : Int} {acc : Array Value} {n : Nat} (h : PySem.ItemsOf (fun m v => ∃ t, v = .int (i + m * k) t) acc n) : Vals ((List.range n).map fun m => V.int (i + (m : Nat) * k)) acc.toList := by
  have e : acc.toList.length = n := by rw [Array.length_toList]; exact h.1
  rw [← e]
  refine vals_of_get acc.toList _ fun j u hj => ?_
  obtain ⟨t, rfl⟩ := h.2 j u (by rw [← hj, Array.getElem?_toList])
  exact ⟨t, rfl⟩
section
variable {X : Cx} {W : WX} {a b c : Expr} {m : AM} {p p2 pos pos2 : Pos} {ta : TA}
theorem range3_ok (hg : Gl X "range") (hm : X.mg "range" = none) (ha : PA X [a, b, c] ta) (hs : starEach [a, b, c] X.env = (false, eval a X.env) :: starEach [b, c] X.env) (hpl : (backTo pos2 (starEach [b, c] X.env)).any (·.1) = false)
    (pins : List (Addr × Obj)) (s : Shared) (σ : L2.St) (H : Hp) (Q : Int → Int → Int → Hp → Prop) (I : L2.Inv X pins σ H s) (h : ta σ H fun vs H1 => ∃ i j k, vs = [.int i, .int j, .int k] ∧ k ≠ 0 ∧ k.natAbs < 1073741824 ∧ Q i j k H1) :
    wpAny (model X.prog X.w) X.A (eval (.Call (.Name "range" p2) [a, b, c] [] pos2) X.env) (fun x s' => ∃ r i j k t u v H', x = .ref r ∧ IsRange s'.heap r i j k t u v ∧ L2.Inv X pins σ H' s' ∧ Q i j k H') X.xe s := by
  refine Call_ (ld_blt I hg hm boot_range (PyProof.Rows.callWith_type1 (thn (ha.run pos2 pins s σ H _ I h) fun us s1 ⟨vs, H1, I1, r1, q1⟩ => ?_) hs hpl))
  obtain ⟨i, j, k, rfl, c0, c1, q⟩ := q1
  cases r1 with
  | cons ra rr =>
    cases rr with
    | cons rb rr =>
      cases rr with
      | cons rc rr =>
        cases rr
        obtain ⟨t, rfl⟩ := ra
        obtain ⟨u, rfl⟩ := rb
        obtain ⟨v, rfl⟩ := rc
        refine call_range_3 c0 ⟨_, i, j, k, _, _, _, H1, rfl, IsRange.new _ _ _ _ _ _ _, I1.kept fun b u e => Heap.get?_push_of_some _ e, q⟩ (.inl (PyProof.noPylong_small (by omega)))
theorem ee_lisRng3 (al : Bool) (hc : X.calm = true) (h : EA X W [a, b, c] m) (hm : X.mg "list" = none) (hm2 : X.mg "range" = none) (hg : Gl X "list" := by rfl) (hg2 : Gl X "range" := by rfl)
    (hs : starEach [a, b, c] X.env = (false, eval a X.env) :: starEach [b, c] X.env := by rfl) (hpl : (backTo pos2 (starEach [b, c] X.env)).any (·.1) = false := by rfl)
    (na2 : starEach [.Call (.Name "range" p2) [a, b, c] [] pos2] X.env = (false, eval (.Call (.Name "range" p2) [a, b, c] [] pos2) X.env) :: starEach [] X.env := by rfl) : EE X W (.Call (.Name "list" p) [.Call (.Name "range" p2) [a, b, c] [] pos2] [] pos) (eLisRng3 al m) := by
  refine ⟨fun pins s σ H Q I ⟨A, ρ, τ, lh, er, S, pr⟩ => ?_⟩
  refine Call_ (ld_blt I hg hm boot_list (PyProof.Rows.callWith_type1 (args_cons (thn (range3_ok hg2 hm2 h hs hpl pins s σ H (fun i j k H1 => (Builtin.Range.small i j k = true ∧ (0 ≤ Builtin.Range.rangeSize i j k ∧ Builtin.Range.rangeSize i j k ≤ 2 ^ 24)) ∧ ∀ q, H1 q = none → Q (.ref q) (upd H1 q (.lst ((List.range (Builtin.Range.rangeSize i j k).toNat).map fun m => V.int (i + (m : Nat) * k))))) I
    ⟨A, ρ, τ, lh, er, S, PRg.thn pr fun ds lh1 ρ1 H1 xs s1 S1 r1 pr1 => ?_⟩) fun x s1 ⟨r, i, j, k, t, u, v, H1, ex, hr, I1, ok, q⟩ => args_nil ?_) na2) na2))
  · split at pr1
    · rename_i i j k
      split at pr1
      · rename_i hj
        cases r1 with
        | cons ra rr =>
          cases rr with
          | cons rb rr =>
            cases rr with
            | cons rc rr =>
              cases rr
              cases ra
              cases rb
              cases rc
              exact ⟨i, j, k, rfl, hj.1, hj.2.1, hj.2.2, PRo.new (PRo.of pr1) S1 (rngN_rel i k _)⟩
      · exact pr1.elim
    · exact pr1.elim
  · subst ex
    refine call_list_range (n := (Builtin.Range.rangeSize i j k).toNat) (I1.ok.hd hc) hr ok.1 (by rw [Int.toNat_of_nonneg ok.2.1]) (by have := ok.2.2; omega) fun h' tk acc c' hk e' hi => ?_
    refine ⟨.ref s1.heap.objs.size, upd H1 s1.heap.objs.size (.lst ((List.range (Builtin.Range.rangeSize i j k).toNat).map fun m => V.int (i + (m : Nat) * k))), I1.laid hk (Nat.le_refl _) (show ObjOk X.prog X.w _ _ _ (.lst _) from ⟨?_, acc.toList, c', vals_step hi, ?_⟩), rfl, q _ (I1.hok.fresh (Nat.le_refl _))⟩
    · rw [List.length_map, List.length_range, sizeLine_eq]
      have := ok.2.2
      omega
    · rw [Array.toArray_toList]; exact e'
end
end Tb

/-! try: .. except C as n: return v, v told by the class of what was raised. -/
namespace Tb
open PySem PySem.Spec PyProof.Rows L2
/-- a value without a place -/
def flatOf : D → Option V
  | .non => some .non
  | .bl b => some (.bl b)
  | .int i => some (.int i)
  | .str s => some (.str s)
  | _ => none
theorem flatOf_rel {G : Gx} {A : Addr → Prop} {ρ : List Addr} {H : Hp} {d : D} {v : V} (h : flatOf d = some v) : VR G A ρ H v d := by
  cases d <;> cases h <;> constructor
def sTryR (m : SM) (cs : List (Str × D)) : SM := fun τ lh => match m τ lh with
  | .nx τ lh => .nx τ lh
  | .rt d lh => .rt d lh
  | .bk τ lh => .bk τ lh
  | .exc c _ lh => (match cs.lookup c with
    | some d => .rt d lh
    | none => .stuck)
  | .stuck => .stuck
/-- what a handler's expression gives: v, where slot i holds the exception at a -/
abbrev HV (X : Cx) (i : Nat) (a : Addr) (e : Expr) (v : V) : Prop := PE X e (fun σ H Q => σ[i]? = some (some (.ref a)) ∧ Q v H)
def excOk (K : PySem.W.Frag) (c : Str) : Bool := He.eqO (PySem.W.findIn K (.ref (He.ga K c)) "__getattribute__") (some (some (.builtin "BaseException.__getattribute__"))) && (He.eqO (PySem.W.findIn K (.ref (He.ga K c)) "__getattr__") (some none) && (decide (PySem.W.subIn K (.ref (He.ga K c)) (.type "BaseException") = some true) && (PySem.W.hasDictIn K (He.ga K c) &&
  (He.eqO (PySem.W.findIn K (.ref (He.ga K c)) "__class__") (some (some (.builtin "object.__class__"))) && (He.eqO (PySem.W.specialIn K (.builtin "object.__class__") "__get__") (some (some (.builtin "getset_descriptor.__get__"))) && (decide (PySem.W.takesIn K (.builtin "object.__class__") = some true) && decide (PySem.W.mroIn K (He.ga K c) (.type "object") = some true)))))))
theorem excOk_ok {K : PySem.W.Frag} {c : Str} (h : excOk K c = true) : ExcC K (He.ga K c) := by
  unfold excOk at h
  obtain ⟨h1, h⟩ := He.ba h
  obtain ⟨h2, h⟩ := He.ba h
  obtain ⟨h3, h⟩ := He.ba h
  obtain ⟨h4, h⟩ := He.ba h
  obtain ⟨h5, h⟩ := He.ba h
  obtain ⟨h6, h⟩ := He.ba h
  obtain ⟨h7, h8⟩ := He.ba h
  exact ⟨He.eqO_ok h1, He.eqO_ok h2, of_decide_eq_true h3, h4, He.eqO_ok h5, He.eqO_ok h6, of_decide_eq_true h7, of_decide_eq_true h8⟩
section
variable {X : Cx} {W : WX} {i : Nat} {a : Addr} {oe : Obj} {pn : List (Addr × Obj)} {n dd c : Str} {p p2 p3 pos : Pos} {e : Expr} {v : V}
theorem hv_str {s : Str} {j : Option Str} : HV X i a (.Constant (.str s) k pos) (.str s) := peImp pe_str fun σ H Q h => h.2
theorem hv_bl {b : Bool} : HV X i a (.Constant (.bool b) k pos) (.bl b) := peImp pe_bl fun σ H Q h => h.2
theorem hv_isE {b : Bool} (C : ExcC X.K (He.ga X.K c)) (hz : Zc (.ref (He.ga X.K c)) none oe) (hf : ∃ vs, oe.data = .fields vs) (hk : PySem.W.kitOne X.K (.ref (He.ga X.K c)) (.ref (He.ga X.K dd)) = some b) (hm : X.mg "isinstance" = none) (hx : X.mg dd = some (.ref (He.ga X.K dd)))
    (hN : X.N[i]? = some n := by rfl) (hv : Vis X.env.scope n := by first | exact Or.inl rfl | exact Or.inr (Or.inl rfl) | exact Or.inr (Or.inr rfl)) (hd1 : (n == ("__debug__" : Str)) = false := by decide) (hcd : (n == ("__classdict__" : Str)) = false := by decide) (hgx : Gl X dd := by rfl) (hg : Gl X "isinstance" := by rfl) (hdb : (dd == ("__debug__" : Str)) = false := by decide)
    (hs1 : starEach [.Name n p2, .Name dd p3] X.env = (false, eval (.Name n p2) X.env) :: starEach [.Name dd p3] X.env := by rfl) (hpl : (backTo pos (starEach [.Name dd p3] X.env)).any (·.1) = false := by rfl) (hs2 : starEach [.Name dd p3] X.env = (false, eval (.Name dd p3) X.env) :: starEach [] X.env := by rfl) :
    HV (X.suite a ((a, oe) :: pn)) i a (.Call (.Name "isinstance" p) [.Name n p2, .Name dd p3] [] pos) (.bl b) :=
  peImp (X := X.suite a ((a, oe) :: pn)) (pe_callB (X := X.suite a ((a, oe) :: pn)) (call_isE (X := X) C hz hf) hg hm (by rfl) (pa_cons (pe_var (i := i) hN hv hd1 hcd) (pa_cons (pe_glob (v := .ref (He.ga X.K dd)) hgx hx rfl hdb) pa_nil hs2) hs1) (he := hs1) (hpl := hpl)) fun σ H Q h => ⟨_, h.1, _, _, _, rfl, fun u r => r, hk, h.2⟩
theorem hv_ifT {c x y : Expr} (h : HV X i a c (.bl true)) (hx : HV X i a x v) {u : V} (hy : HV X i a y u) (he : ∀ whole, PySem.isTrue c X.env whole = (do let v ← whole; standAt c.pos; holding [v] (truthy v)) := by intro _; rfl) : HV X i a (.IfExp c x y pos) v :=
  peImp (pe_ifExp (pt_truth h he) hx hy) fun σ H Q h => ⟨h.1, true, rfl, iteT ⟨h.1, h.2⟩⟩
theorem hv_ifF {c x y : Expr} (h : HV X i a c (.bl false)) {u : V} (hx : HV X i a x u) (hy : HV X i a y v) (he : ∀ whole, PySem.isTrue c X.env whole = (do let v ← whole; standAt c.pos; holding [v] (truthy v)) := by intro _; rfl) : HV X i a (.IfExp c x y pos) v :=
  peImp (pe_ifExp (pt_truth h he) hx hy) fun σ H Q h => ⟨h.1, false, rfl, iteF ⟨h.1, h.2⟩⟩
theorem hv_ret (h : HV X i a e v) : PSs X [.Return (some e) pos] (fun E σ H => σ[i]? = some (some (.ref a)) ∧ E.rt v H) := pssImp (pss_one (ps_ret h)) fun E σ H z => z
end
section
variable {X : Cx} {W : WX} {m : SM} {x n : Str} {cB : Value} {body suite : List Stmt} {b₀ : Stmt} {np pos pos' : Pos}
theorem es_tryR (i : Nat) (cs : List (Str × D)) (hs : X.stack = X.env :: X.outer) (hf : X.env.frame = some X.env.locals) (hN : X.N.Nodup) (hc : Names X x cB) (tk : Takes X W)
    (hcs : ∀ p ∈ cs, PySem.W.exmOne X.K (.ref (He.ga X.K p.1)) cB = some true)
    (hb : ∀ (W' : WX) (pn : List (Addr × Obj)) (xe : Value → Shared → Prop), Takes (X.tr pn xe) W' → PassesOwn (model X.prog X.w) X.A X.env xe → ESs (X.tr pn xe) W' body m)
    (hh : ∀ p ∈ cs, ∃ v, flatOf p.2 = some v ∧ ∀ (a : Addr) (oe : Obj) (pn : List (Addr × Obj)), Zc (.ref (He.ga X.K p.1)) none oe → (∃ vs, oe.data = .fields vs) → PSs (X.suite a ((a, oe) :: pn)) (b₀ :: suite) (fun E σ H => σ[i]? = some (some (.ref a)) ∧ E.rt v H))
    (hi : X.N[i]? = some n := by rfl) (hln : X.env.kindOf n = some .local := by rfl) : ES X W (.Try body [.ExceptHandler (some (.Name x np)) (some n) (b₀ :: suite) pos'] [] [] pos) (sTryR m cs) := by
  refine psImp (ps_try_as (tb := fun W' => tS (gx X) W' m) (ts := fun a cls d E σ H => (∃ σ0, σ = List.set σ0 i (some (.ref a))) ∧ ∃ p ∈ cs, cls = .ref (He.ga X.K p.1) ∧ d = none ∧ ∀ v, flatOf p.2 = some v → E.rt v H) hs hf hN hi hln hc tk hb fun a oe cls d pn hz hff => ⟨fun pins s σ H E I h => ?_⟩) fun E σ H ⟨A, ρ, τ, lh, er, S, pr⟩ => ⟨A, ρ, τ, lh, er, S, ?_⟩
  · obtain ⟨⟨σ0, e0⟩, p, hp, rfl, rfl, hv⟩ := h
    obtain ⟨v, e1, h1⟩ := hh p hp
    have hl : i < σ0.length := by
      have z := I.len
      rw [e0, List.length_set] at z
      rw [z]
      exact (List.getElem?_eq_some_iff.mp hi).1
    exact (h1 a oe pn hz hff).run pins s σ H E I ⟨by rw [e0, List.getElem?_set_self hl], hv v e1⟩
  · unfold sTryR at pr
    cases q : m τ lh with
    | nx τ' lh' => rw [q] at pr; exact pr
    | rt d lh' => rw [q] at pr; exact pr
    | bk τ' lh' => rw [q] at pr; exact pr
    | stuck => rw [q] at pr; exact pr.elim
    | exc c τ' lh' =>
      rw [q] at pr
      simp only at pr
      cases l : cs.lookup c with
      | none => rw [l] at pr; exact pr.elim
      | some d =>
        rw [l] at pr
        have hm := lookup_mem l
        exact fun ρ' H' σ' s S' e' => ⟨true, hcs _ hm, fun _ a ha => ⟨⟨σ', rfl⟩, (c, d), hm, rfl, rfl, fun v hv => pr ρ' H' v s S' (flatOf_rel hv)⟩, fun z => by cases z⟩
end
@[simp] theorem z_tryR {m : SM} {cs : List (Str × D)} {τ : Tau} {lh : LH} : sTryR m cs τ lh = (match m τ lh with
  | .nx τ lh => .nx τ lh
  | .rt d lh => .rt d lh
  | .bk τ lh => .bk τ lh
  | .exc c _ lh => (match cs.lookup c with
    | some d => .rt d lh
    | none => .stuck)
  | .stuck => .stuck) := rfl
end Tb
namespace Tb
open PySem PySem.Spec PyProof.Rows L2
/-! ### f() -/
section
variable {X : Cx} {W : WX} {k : Nat} {f : Addr} {x : Str} {p pos : Pos} {fm : FM}
theorem ec_callS0 (tk : Takes X W) (F : FOk X.prog X.w X.K X.mg X.base k f 0 fm) (hr : Room k X.A) (hm : X.mg x = some (.ref f)) (hk : PySem.W.keepIn X.K (.ref f) = true)
    (hW : ∀ c σ σ' H, W c none σ H → W c none σ' H := by intro _ _ _ _ h; exact h) (hg : Gl X x := by rfl) (hdb : (x == ("__debug__" : Str)) = false := by decide) : EE X W (.Call (.Name x p) [] [] pos) (eCallS 0 fm aNil) := by
  obtain ⟨fd, ps, F, hb⟩ := F
  refine peImp (pe_call0 (E := fun cls d H => ∀ σ, W cls d σ H) F hr hg hm hk hb (dvs := []) .nil (passes_call tk fun cls d σ H h => h σ) hdb) fun σ H Q ⟨A, ρ, τ, lh, er, S, pr⟩ => ⟨rfl, A, ρ, lh, [], .nil, S, ?_⟩
  have pr2 : PRg (gx X) A ρ H (VR (gx X) A) (fm [] lh) (wAt (gx X) W σ) Q := pr
  show PRg (gx X) A ρ H (VR (gx X) A) (fm [] lh) _ Q
  cases q : fm [] lh with
  | ok d lh' => rw [q] at pr2; exact pr2
  | exc c lh' => rw [q] at pr2; exact fun ρ' H' s S' σ' => hW _ _ _ _ (pr2 ρ' H' s S')
  | stuck => rw [q] at pr2; exact pr2.elim
theorem ec_callP0 (tk : Takes X W) (F : FOk X.prog X.w X.K X.mg X.base k f 0 fm) (hr : Room k X.A) (hm : X.mg x = some (.ref f)) (hk : PySem.W.keepIn X.K (.ref f) = true)
    (hW : ∀ c σ σ' H, W c none σ H → W c none σ' H := by intro _ _ _ _ h; exact h) (hg : Gl X x := by rfl) (hdb : (x == ("__debug__" : Str)) = false := by decide) : EE X W (.Call (.Name x p) [] [] pos) (eCallP 0 fm aNil) := by
  obtain ⟨fd, ps, F, hb⟩ := F
  refine peImp (pe_call0 (E := fun cls d H => ∀ σ, W cls d σ H) F hr hg hm hk hb (dvs := []) .nil (passes_call tk fun cls d σ H h => h σ) hdb) fun σ H Q ⟨A, ρ, τ, lh, er, S, pr⟩ => ?_
  have pr1 : PRg (gx X) A ρ H (VR (gx X) A) (callP fm [] lh) (wAt (gx X) W σ) Q := pr
  obtain ⟨A', ρ', lh', ds', r', S', pr2⟩ := callP_rel S (.nil : VRs (gx X) A ρ H [] []) pr1
  have e : ds' = [] := by cases r'; rfl
  subst e
  refine ⟨rfl, A', ρ', lh', [], r', S', ?_⟩
  show PRg (gx X) A' ρ' H (VR (gx X) A') (fm [] lh') _ Q
  cases q : fm [] lh' with
  | ok d lh' => rw [q] at pr2; exact pr2
  | exc c lh' => rw [q] at pr2; exact fun ρ' H' s S' σ' => hW _ _ _ _ (pr2 ρ' H' s S')
  | stuck => rw [q] at pr2; exact pr2.elim
end
end Tb
namespace Tb
open PySem PySem.Spec PyProof.Rows L2
/-! ### o.m(e, ..) where what is raised is wished for at the slots -/
section
variable {X : Cx} {W : WX} {n : Nat} {x m : Str} {p pos apos p2 : Pos} {e o : Expr} {es : List Expr} {ma : AM} {mo : EM}
theorem ee_methS (ms : List (Str × FM)) (tk : Takes X W) (hms : ∀ q ∈ ms, MethOk X m n q.1 q.2) (ho : EE X W o mo) (ha : EA X W (e :: es) ma) {pl : Sem Bool}
    (hst : starEach (e :: es) X.env = (false, eval e X.env) :: starEach es X.env := by rfl) (hpl : (backTo pos (starEach es X.env)).any (·.1) = false := by rfl)
    (ht : eval (.Call (.Attribute o m apos) (e :: es) [] pos) X.env = (eval o X.env >>= fun ov => standAt apos.atName >>= fun _ => holding [ov] (getMethod ov m pl) >>= fun y =>
      callWith pos y.1 y.2 (backTo pos (starEach (e :: es) X.env)) (backToKw pos (keywordEach [] X.env))) := by rfl) : EE X W (.Call (.Attribute o m apos) (e :: es) [] pos) (eMethM ms m n mo ma) := by
  refine ⟨fun pins s σ H Q I ⟨A, ρ, τ, lh, er, S, pr⟩ => ?_⟩
  unfold eMethM at pr
  cases q : mo τ lh with
  | exc _ _ => simp only [q] at pr; exact pr.elim
  | stuck => simp only [q] at pr; exact pr.elim
  | ok d lh1 =>
    simp only [q] at pr
    cases qi : insAt lh1 d with
    | none => simp only [qi] at pr; exact pr.elim
    | some t =>
      obtain ⟨ix, c, fs⟩ := t
      simp only [qi] at pr
      by_cases hl : (fs.lookup m).isNone = true
      · rw [if_pos hl] at pr
        cases qm : ms.lookup c with
        | none => simp only [qm] at pr; exact pr.elim
        | some fm =>
          simp only [qm] at pr
          obtain ⟨f, fd, ps, k, hc, hm, F, hr, hb⟩ := hms _ (lookup_mem qm)
          have w1 : tE (gx X) W mo σ H (fun y H1 => ∃ a dx gs, y = .ref a ∧ H1 a = some (.ins (He.ga X.K c) dx gs) ∧ gs.lookup m = none ∧ tA (gx X) W ma σ H1 fun vs H2 => spE (gx X) n fm (.ref a :: vs) H2 Q (WE W σ)) := ⟨A, ρ, τ, lh, er, S, PRg.get q fun ρ1 H1 v s1 S1 r1 => by
            obtain ⟨a, dx, gs, rfl, rfl, hn, hlh, hH, hf⟩ := ins_rel S1 r1 qi
            refine ⟨a, dx, gs, rfl, hH, hf.lookupN (by simpa using hl), A, ρ1, τ, lh1, er.stp s1, S1, PRg.thn (PRg.stp s1 pr) fun ds lh2 ρ2 H2 vs s2 S2 r2 pr2 => ?_⟩
            by_cases hn2 : ds.length + 1 = n
            · rw [if_pos hn2] at pr2
              exact ⟨by rw [List.length_cons, r2.length]; exact hn2, A, ρ2, lh2, _ :: ds, .cons (r1.stp s2) r2, S2, pr2⟩
            · rw [if_neg hn2] at pr2
              exact pr2.elim⟩
          refine PySem.W.methodCall_KW (pl := pl) (thn (ho.run pins s σ H _ I w1) fun u s1 z => ?_) ht
          obtain ⟨y, H1, I1, ry, a, dx, gs, ey, ea, l, w2⟩ := z
          subst ey
          have eu : u = Value.ref a := ry
          subst eu
          refine getmeth_ok I1 ea hc hm l ?_
          refine PySem.W.callWith_K (h₀ := X.base) (first := [.ref a]) I.ok.mod.kin hm.kp ?_ hst hpl
          refine thn (ha.run pos pins s1 σ H1 _ I1 w2) fun us s2 z => ?_
          obtain ⟨vs, H2, I2, rv, w3⟩ := z
          exact ⟨I2.kIn, run_fnS (E := WE W) (vs := .ref a :: vs) (us := .ref a :: us) F hr hb (passAt tk σ) I2 (.cons rfl rv) w3⟩
      · rw [if_neg hl] at pr
        exact pr.elim
end
end Tb
namespace Tb
open PySem PySem.Spec PyProof.Rows L2
theorem ee_reverse {X : Cx} {W : WX} {o : Expr} {mo : EM} {cpos apos : Pos} (ho : EE X W o mo) (hb : attributeBase o "reverse" X.env (eval o X.env) = eval o X.env := by rfl)
    (h3 : (apos.endLine == cpos.line) = true := by rfl) : EE X W (.Call (.Attribute o "reverse" apos) [] [] cpos) (eMt0 rvG mo) :=
  ee_mt0 PySem.F.slot_list_reverse PySem.F.type_list_reverse mt_reverse (fun A ρ H a vs xs ys d Q ha rs hg k => by
    cases hg
    exact ⟨a, vs, rfl, rfl, ha, k _ _ rs.reverse .non⟩) ho hb h3
end Tb

/-! Defs that are called where nothing is being shown (no repr is under way): str of lists. -/
namespace Tb
open PySem PySem.Spec PyProof.Rows L2

/-- as FnOk, under no repr -/
structure FnG (P : Program) (w : World) (K : PySem.W.Frag) (mg : Str → Option Value) (base : Heap) (k : Nat) (f : Addr) (fd : FuncData) (ps : List Str) (sp : Sp) : Prop where
  len : ∀ us H Q E, sp us H Q E → us.length = ps.length
  go : ∀ (A : Around) (out : List Env) (s : Shared) (H : Hp) (ar : Args) (us : List Value) (vs : List V) (Q : VK) (E : XK), A.guards = some [] → Room k A → Env0 P w K mg base A out s H → BindsTo s fd ar (ps.zip us) → Vals vs us → sp vs H Q E →
    codeAny (model P w) A (.call (.ref f) ar) (CR (L2.CX P w) out P w H s Q E) s
theorem FnG.ofOk {P : Program} {w : World} {K : PySem.W.Frag} {mg : Str → Option Value} {base : Heap} {k : Nat} {f : Addr} {fd : FuncData} {ps : List Str} {sp : Sp} (F : FnOk P w K mg base (L2.CX P w) k f fd ps sp) : FnG P w K mg base k f fd ps sp :=
  ⟨F.len, fun A out s H ar us vs Q E _ hr e0 hb hv hs => F.run A out s H ar us vs Q E hr e0 hb hv hs⟩
section
variable {P : Program} {w : World} {K : PySem.W.Frag} {mg : Str → Option Value} {base : Heap} {x qual : Str} {params : Arguments} {body : List Stmt} {scope : Scope} {f : Addr} {fd : FuncData}
theorem fnG_of {N ps : List Str} {j : Nat} {sp : Sp} (F : FunD K x qual params body scope [] [] f fd) (S : FnScope N ps scope) (hlen : ∀ us H Q E, sp us H Q E → us.length = ps.length)
    (hbody : ∀ (cdv : Value) (A : Around) (out : List Env) (s : Shared) (H : Hp) (vs : List V) (Q : VK) (E : XK), A.guards = some [] → Room j (A.deeper (envOfC qual scope s.heap.objs.size f cdv)) → sp vs H Q E →
      ∃ t, PSs (cxOf (L2.CX P w) P w K mg base N qual scope f cdv A out s H E) body t ∧ t { nx := fun _ H2 => Q .non H2, rt := Q } (start N vs) H) : FnG P w K mg base (j + 1) f fd ps sp := by
  obtain ⟨oc, od, dV, kV, doc, pm, an, cdv, ct, osl, rfl, lk, hcd, _, _⟩ := F.ex
  refine ⟨hlen, fun A out s H ar us vs Q E hG hr e0 hb rv hsp => ?_⟩
  have hl := hlen _ _ _ _ hsp
  have kin : K.In s.heap := e0.mod.kin.keeps fun b o z => (e0.bs b o z).1
  have nolim : s.heap.NoLimit := e0.mod.nolimit.keeps fun b o z => (e0.bs b o z).1
  refine codeAny_call_function hr.depth (kin _ _ lk) rfl S.co S.gen rfl (PySem.W.codeRec_of kin hcd) (hb _ _ _ _ ?_)
  refine wpAny_newFunctionEnv_cells S.kind ?_ ?_
  · intro y hy
    obtain ⟨n, u⟩ := y
    rcases S.par n (List.of_mem_zip hy).1 with z | z
    · exact .inl z
    · exact .inr ⟨z, PySem.W.cellsFrom_some _ _ _ (.inl z)⟩
  · intro env he s1 inCall
    subst he
    refine ⟨nolim.keeps inCall.toInCall.keep, codeAny_func ?_⟩
    obtain ⟨t, ht, hq⟩ := hbody cdv A out s H vs Q E hG (hr.deeper _) hsp
    have J : L2.Inv (cxOf (L2.CX P w) P w K mg base N qual scope f cdv A out s H E) [] (start N vs) H s1 := inv_start S hr.hd e0 hl rv inCall
    refine wpAny_mono (ht.run [] s1 (start N vs) H _ J hq) (fun fl s2 hs2 => ?_) fun _ _ z => z
    cases fl with
    | ret u =>
      obtain ⟨v, σ2, H2, J2, r2, q2⟩ := hs2
      exact ⟨v, H2, J2.os, J2.bare, J2.base, J2.hok, r2, q2⟩
    | next =>
      obtain ⟨σ2, H2, J2, q2⟩ := hs2
      exact ⟨V.non, H2, J2.os, J2.bare, J2.base, J2.hok, rfl, q2⟩
    | brk => obtain ⟨_, _, _, z⟩ := hs2; exact z.elim
    | cont => obtain ⟨_, _, _, z⟩ := hs2; exact z.elim
theorem fnG_ok {N ps : List Str} {j k n : Nat} (b : SM) (F : FunD K x qual params body scope [] [] f fd) (S : FnScope N ps scope) (hn : ps.length = n) (hk : N.length = n + k)
    (hb : ∀ (cdv : Value) (A : Around) (outer : List Env) (s : Shared) (H : Hp) (E : XK), A.guards = some [] → Room j (A.deeper (envOfC qual scope s.heap.objs.size f cdv)) → ESs (cxOf (L2.CX P w) P w K mg base N qual scope f cdv A outer s H E) (WD E) body b) :
    FnG P w K mg base (j + 1) f fd ps (spE ⟨P, w, K⟩ n (fnM k b)) :=
  fnG_of F S (fun vs H Q E h => by rw [h.1, hn]) fun cdv A outer s H vs Q E hG hr ⟨hl, A', ρ, lh, ds, rs, S', pr⟩ => ⟨_, hb cdv A outer s H E hG hr, A', ρ, _, lh, start_rel rs (by rw [hl]; exact hk), S', by
    unfold fnM at pr
    cases q : b (ds.map some ++ List.replicate k none) lh with
    | nx τ lh' => rw [q] at pr; exact fun ρ' H' σ' s' S'' e => pr ρ' H' _ s' S'' .non
    | rt d lh' => rw [q] at pr; exact fun ρ' H' v s' S'' r => pr ρ' H' v s' S'' r
    | bk τ lh' => rw [q] at pr; exact pr.elim
    | exc c τ lh' => rw [q] at pr; exact fun ρ' H' σ' s' S'' e => pr ρ' H' s' S''
    | stuck => rw [q] at pr; exact pr.elim⟩
/-- the def at f: its mirror, under no repr -/
def FOkG (P : Program) (w : World) (K : PySem.W.Frag) (mg : Str → Option Value) (base : Heap) (k : Nat) (f : Addr) (n : Nat) (fm : FM) : Prop := ∃ fd ps, FnG P w K mg base k f fd ps (spE ⟨P, w, K⟩ n fm) ∧ Binds K fd ps []
theorem fokG_of {N ps : List Str} {j k n : Nat} (b : SM) (F : ∃ fd, FunD K x qual params body scope [] [] f fd) (S : FnScope N ps scope) (hn : ps.length = n) (hk : N.length = n + k)
    (hbd : ∀ (kV doc pm : Value) (an : Option Addr) (cdv ct : Value) (us : List Value), us.length = ps.length → bindArgs (PySem.W.fnOf x qual params body scope .none kV doc pm an cdv ct) ⟨us, []⟩ = pure (ps.zip us))
    (hb : ∀ (cdv : Value) (A : Around) (outer : List Env) (s : Shared) (H : Hp) (E : XK), A.guards = some [] → Room j (A.deeper (envOfC qual scope s.heap.objs.size f cdv)) → ESs (cxOf (L2.CX P w) P w K mg base N qual scope f cdv A outer s H E) (WD E) body b) :
    FOkG P w K mg base (j + 1) f n (fnM k b) := by
  obtain ⟨fd, F⟩ := F
  exact ⟨fd, ps, fnG_ok b F S hn hk hb, F.bindsN hbd⟩
end
section
variable {X : Cx} {W : WX} {k n : Nat} {f : Addr} {fd : FuncData} {ps : List Str} {sp : Sp} {x : Str} {p pos : Pos} {e : Expr} {es : List Expr} {ma : AM} {fm : FM}
theorem runG {pins : List (Addr × Obj)} {σ : L2.St} {H : Hp} {s : Shared} {Q : VK} {us : List Value} {vs : List V} {E : L2.St → XK} (F : FnG X.prog X.w X.K X.mg X.base k f fd ps sp) (hG : X.A.guards = some []) (hr : Room k X.A) (hb : Binds X.K fd ps []) (hx : PassesAt (L2.CX X.prog X.w) X σ (E σ))
    (I : L2.Inv X pins σ H s) (r : Vals vs us) (h : sp vs H Q (E σ)) : wpAny (model X.prog X.w) X.A (call (.ref f) us) (EP X pins σ Q) X.xe s := by
  have hl : us.length = ps.length := by
    rw [← r.length]
    exact F.len _ _ _ _ h
  have bb := hb s us I.kIn (by rw [List.append_nil]; exact hl)
  rw [List.append_nil] at bb
  refine wpAny_call (codeAny_mono (F.go X.A X.stack s H ⟨us, []⟩ us vs Q (E σ) hG hr I.env0 bb r h) fun z s2 hz => ?_)
  cases z with
  | error u => exact hx pins H s u s2 I hz
  | ok fl =>
    cases fl with
    | ret u => exact I.after hz
    | next => exact hz.elim
    | brk => exact hz.elim
    | cont => exact hz.elim
theorem pe_callG {E : L2.St → XK} {t : TA} (F : FnG X.prog X.w X.K X.mg X.base k f fd ps sp) (hG : X.A.guards = some []) (hr : Room k X.A) (hg : Gl X x) (hm : X.mg x = some (.ref f)) (hk : PySem.W.keepIn X.K (.ref f) = true) (hb : Binds X.K fd ps []) (hx : ∀ σ, PassesAt (L2.CX X.prog X.w) X σ (E σ))
    (ha : PA X (e :: es) t) (hdb : (x == ("__debug__" : Str)) = false) (he : starEach (e :: es) X.env = (false, eval e X.env) :: starEach es X.env) (hpl : (backTo pos (starEach es X.env)).any (·.1) = false) :
    PE X (.Call (.Name x p) (e :: es) [] pos) (tCallS sp E t) := by
  refine ⟨fun pins s σ H Q I h => wpAny_Call_Name_kw (ld_glob I hg hm ?_ hdb)⟩
  refine PySem.W.callWith_K (h₀ := X.base) I.ok.mod.kin hk (thn (ha.run pos pins s σ H _ I h) fun us s1 z => ?_) he hpl
  obtain ⟨vs, H1, I1, r, q⟩ := z
  exact ⟨I1.kIn, runG F hG hr hb (hx σ) I1 r q⟩
theorem ec_callSG (tk : Takes X W) (hG : X.A.guards = some []) (F : FOkG X.prog X.w X.K X.mg X.base k f n fm) (hr : Room k X.A) (hm : X.mg x = some (.ref f)) (hk : PySem.W.keepIn X.K (.ref f) = true) (ha : EA X W (e :: es) ma) (hg : Gl X x := by rfl)
    (hdb : (x == ("__debug__" : Str)) = false := by decide) (he : starEach (e :: es) X.env = (false, eval e X.env) :: starEach es X.env := by rfl) (hpl : (backTo pos (starEach es X.env)).any (·.1) = false := by rfl) : EE X W (.Call (.Name x p) (e :: es) [] pos) (eCallS n fm ma) := by
  obtain ⟨fd, ps, F, hb⟩ := F
  refine peImp (pe_callG (E := WE W) F hG hr hg hm hk hb (fun σ => passAt tk σ) ha hdb he hpl) fun σ H Q ⟨A, ρ, τ, lh, er, S, pr⟩ => ⟨A, ρ, τ, lh, er, S, PRg.thn pr fun ds lh1 ρ1 H1 xs s1 S1 r1 pr1 => ?_⟩
  by_cases hn : ds.length = n
  · rw [if_pos hn] at pr1
    exact ⟨by rw [r1.length]; exact hn, A, ρ1, lh1, ds, r1, S1, pr1⟩
  · rw [if_neg hn] at pr1
    exact pr1.elim
theorem ec_callPG (tk : Takes X W) (hG : X.A.guards = some []) (F : FOkG X.prog X.w X.K X.mg X.base k f n fm) (hr : Room k X.A) (hm : X.mg x = some (.ref f)) (hk : PySem.W.keepIn X.K (.ref f) = true) (ha : EA X W (e :: es) ma) (hg : Gl X x := by rfl)
    (hdb : (x == ("__debug__" : Str)) = false := by decide) (he : starEach (e :: es) X.env = (false, eval e X.env) :: starEach es X.env := by rfl) (hpl : (backTo pos (starEach es X.env)).any (·.1) = false := by rfl) : EE X W (.Call (.Name x p) (e :: es) [] pos) (eCallP n fm ma) := by
  obtain ⟨fd, ps, F, hb⟩ := F
  refine peImp (pe_callG (E := WE W) F hG hr hg hm hk hb (fun σ => passAt tk σ) ha hdb he hpl) fun σ H Q ⟨A, ρ, τ, lh, er, S, pr⟩ => ⟨A, ρ, τ, lh, er, S, PRg.thn pr fun ds lh1 ρ1 H1 xs s1 S1 r1 pr1 => ?_⟩
  by_cases hn : ds.length = n
  · rw [if_pos hn] at pr1
    obtain ⟨A', ρ', lh', ds', r', S', pr'⟩ := callP_rel S1 r1 pr1
    exact ⟨by rw [r1.length]; exact hn, A', ρ', lh', ds', r', S', pr'⟩
  · rw [if_neg hn] at pr1
    exact pr1.elim
end
/-! ### str(x), x a list or a tuple -/
def shG (lh : LH) (ds : List D) : Ro := match ds with
  | [.tup xs] => (match toP lh fuel (.tup xs) with
    | some p => if p.showable = true ∧ p.canLay0 = true ∧ p.depth ≤ 64 ∧ p.shown.length ≤ sizeLine then .v (.str p.shown) else .no
    | none => .no)
  | [.lst xs] => (match toP lh fuel (.lst xs) with
    | some p => if p.showable = true ∧ p.canLay0 = true ∧ p.depth ≤ 64 ∧ p.shown.length ≤ sizeLine then .v (.str p.shown) else .no
    | none => .no)
  | [.loc n] => (match toP lh fuel (.loc n) with
    | some p => if p.showable = true ∧ p.canLay0 = true ∧ p.depth ≤ 64 ∧ p.shown.length ≤ sizeLine then .v (.str p.shown) else .no
    | none => .no)
  | _ => .no
section
variable {X : Cx}
theorem str_core (hG : X.A.guards = some []) (hu : X.A.units + 200 < cLine) {al : Bool} {pins : List (Addr × Obj)} {σ : L2.St} {s : Shared} {H : Hp} {Q : VK} {A : Addr → Prop} {ρ : List Addr} {lh : LH} {d : D} {v : V} {u : Value} {a : Addr} (I : L2.Inv X pins σ H s) (S : SR (gx X) A ρ H lh) (rv : VR (gx X) A ρ H v d) (ru : RelV v u) (ea : v = .ref a)
    (pr : PRo (gx X) A ρ H al lh (match toP lh fuel d with
      | some p => if p.showable = true ∧ p.canLay0 = true ∧ p.depth ≤ 64 ∧ p.shown.length ≤ sizeLine then .v (.str p.shown) else .no
      | none => .no) Q) : wpAny (model X.prog X.w) X.A (call (.type "str") [u]) (EP X pins σ Q) X.xe s := by
  cases q : toP lh fuel d with
  | none => rw [q] at pr; exact pr.elim
  | some p =>
    rw [q] at pr
    simp only at pr
    by_cases hc : p.showable = true ∧ p.canLay0 = true ∧ p.depth ≤ 64 ∧ p.shown.length ≤ sizeLine
    · rw [if_pos hc] at pr
      obtain ⟨c1, c2, c3, c4⟩ := hc
      obtain ⟨as, rd⟩ := Dp.reads I p v u (toP_dp S _ rv q) ru
      subst ea
      have eu : u = Value.ref a := ru
      subst eu
      exact str_of_reads rd c1 (PyData.noDict_hsm (PyData.hasDict_of_canLay p c2)) hG (by omega) (fun _ _ e => e) (fun h' t tk hk => ⟨.str p.shown, H, I.kept (t' := tk) hk, ⟨t, rfl⟩, PRo.val pr S (.str _)⟩) c4
    · rw [if_neg hc] at pr
      exact pr.elim
theorem cb_str (hG : X.A.guards = some []) (hu : X.A.units + 200 < cLine) : CallD X (.type "str") shG := by
  intro al pins s σ H xs us Q I r ⟨A, ρ, lh, ds, S, rs, pr⟩
  unfold shG at pr
  split at pr
  · rename_i ys
    obtain ⟨v, rfl, rv⟩ := rs.one
    obtain ⟨u, rfl, ru⟩ := vals1 r
    obtain ⟨a, ea⟩ : ∃ a, v = .ref a := by cases rv; exact ⟨_, rfl⟩
    exact str_core hG hu I S rv ru ea pr
  · rename_i ys
    obtain ⟨v, rfl, rv⟩ := rs.one
    obtain ⟨u, rfl, ru⟩ := vals1 r
    obtain ⟨a, ea⟩ : ∃ a, v = .ref a := by cases rv; exact ⟨_, rfl⟩
    exact str_core hG hu I S rv ru ea pr
  · rename_i n
    obtain ⟨v, rfl, rv⟩ := rs.one
    obtain ⟨u, rfl, ru⟩ := vals1 r
    obtain ⟨a, ea⟩ : ∃ a, v = .ref a := by cases rv; exact ⟨_, rfl⟩
    exact str_core hG hu I S rv ru ea pr
  · exact pr.elim
end
end Tb

/-! The law's end, its def called under no repr. -/
namespace Tb
open PySem PySem.Spec PyProof.Rows L2
theorem law_callG {P : Program} {w : World} {K : PySem.W.Frag} {mg mb : Str → Option Value} {k : Nat} {fa a : Addr} {fd : FuncData} {x : Str} {sp : Sp} {s1 : Shared} {us : List Value} {ns : List Int}
    (kin : K.In s1.heap) (hN : s1.heap.Ns mainGlobals mg) (hB : s1.heap.Ns builtinsNs mb) (hBB : ∀ y : Str, y ≠ "__name__" → mb y = bootBuiltins y) (hL : s1.heap.NoLimit) (hgen : s1.gens = #[])
    (ha : s1.heap.get? a = some { cls := .type "list", data := .seq us.toArray }) (hi : IntsAre us ns) (hsz : ns.length ≤ sizeLine) (hr : Room k callerA)
    (F : ∀ base : Heap, FnG P w K mg base k fa fd [x] sp) (hbind : ∀ (s : Shared) (u : Value), BindsTo s fd ⟨[u], []⟩ [(x, u)])
    (hsp : ∀ H : Hp, SqL K H a (ns.map V.int) → sp [.ref a] H (fun v _ => v = .bl true) fun _ _ _ => False) (hCX : ∀ H e s2, L2.CX P w [] H s1 (fun _ _ _ => False) e s2 → False) :
    codeAny (model P w) callerA (.call (.ref fa) ⟨[.ref a], []⟩) (fun r s2 => r = .ok (.ret (.bool true)) ∧ OldK s1.heap s2.heap ∧ s2.os = s1.os ∧ AllBare s2.gens) s1 := by
  have rv := vals_ints hi
  have hlen := hi.length
  -- over a heap of which at most the script is tracked, as it stands
  have main : ∀ H : Hp, (∀ b, H b = none ∨ ∃ o xs, H b = some (.frz o (.lst xs))) → SqL K H a (ns.map V.int) → HOk P w H s1.heap → (∀ b u, H b = some u → b = a ∧ K.lookup a = none) →
      codeAny (model P w) callerA (.call (.ref fa) ⟨[.ref a], []⟩) (fun r s2 => r = .ok (.ret (.bool true)) ∧ OldK s1.heap s2.heap ∧ s2.os = s1.os ∧ AllBare s2.gens) s1 := by
    intro H hF hS hok hA
    have free : ∀ {b : Addr} {o : Obj} {es : Array DictEntry} {n : Nat}, s1.heap.get? b = some o → o.data = .dict es n → H b = none := by
      intro b o es n g d
      cases z : H b with
      | none => rfl
      | some u =>
        obtain ⟨eb, _⟩ := hA b u z
        rw [eb, ha] at g
        cases g
        cases d
    have ns2 : ∀ {b : Addr} {m : Str → Option Value}, s1.heap.Ns b m → (hidT s1.heap H).Ns b m := by
      rintro b m ⟨o, es, n, g, d, r⟩
      exact ⟨o, es, n, hidT_get g (free g d), d, r⟩
    have kin2 : K.In (hidT s1.heap H) := by
      intro b o lk
      refine hidT_get (kin b o lk) ?_
      cases z : H b with
      | none => rfl
      | some u =>
        obtain ⟨eb, en⟩ := hA b u z
        rw [eb, en] at lk
        cases lk
    obtain ⟨mc, hm1, hm2⟩ := hL
    have hM : L2.Mod K mg (hidT s1.heap H) := ⟨kin2, ns2 hN, ⟨mb, ns2 hB, hBB⟩, mc, ns2 hm1, hm2⟩
    have e0 : Env0 P w K mg (hidT s1.heap H) callerA [] s1 H := ⟨rfl, hM, fun b o z => of_hidT z, Nat.le_of_eq (hidT_size _ _), trivial, (fun b z => absurd (show b ∈ ([] : List Addr) from z) (by simp)), hok, .of_eq hgen⟩
    refine codeAny_mono ((F _).go callerA [] s1 H ⟨[.ref a], []⟩ [.ref a] [.ref a] _ _ rfl hr e0 (hbind s1 (.ref a)) (.cons rfl .nil) (hsp H hS)) fun r s2 z => ?_
    cases r with
    | error e => exact (hCX H e s2 z).elim
    | ok fl =>
      cases fl with
      | next => exact z.elim
      | brk => exact z.elim
      | cont => exact z.elim
      | ret u =>
        obtain ⟨v, H2, os, bare, un, hok2, rel, q⟩ := z
        have ev : v = .bl true := q
        subst ev
        have eu : u = Value.bool true := rel
        subst eu
        refine ⟨rfl, OldK.of_keep fun b o g => ?_, os, bare⟩
        rcases hF b with z | ⟨ob, xs, z⟩
        · exact un.keep b o g z (fun y => absurd (show b ∈ ([] : List Addr) from y) (by simp)) (fun y => nomatch y)
        · have g1 := (hok b _ z).1
          have g2 := (hok2 b _ (un.frzs b ob _ z)).1
          rw [g] at g1
          cases g1
          exact g2
  cases lk : K.lookup a with
  | some o =>
    have g := kin a o lk
    rw [ha] at g
    cases g
    exact main (fun _ => none) (fun _ => .inl rfl) (.inr ⟨_, us.toArray, _, lk, rfl, rfl, rfl, by rw [List.size_toArray, hlen]; exact hsz, by simpa using rv⟩) (fun b u z => nomatch z) fun b u z => nomatch z
  | none =>
    refine main (fun b => if b = a then some (.frz { cls := .type "list", data := .seq us.toArray } (.lst (ns.map V.int))) else none) (fun b => ?_) (.inl (.inr ⟨_, if_pos rfl⟩)) (fun b u z => ?_) fun b u z => ?_
    · by_cases hb : b = a
      · exact .inr ⟨_, _, if_pos hb⟩
      · exact .inl (if_neg hb)
    · by_cases hb : b = a
      · subst hb
        have z2 := (if_pos (rfl : b = b)).symm.trans z
        cases z2
        exact ⟨ha, by rw [List.length_map]; exact hsz, us, _, rv, ha⟩
      · have z2 := (if_neg hb).symm.trans z
        cases z2
    · by_cases hb : b = a
      · exact ⟨hb, lk⟩
      · have z2 := (if_neg hb).symm.trans z
        cases z2
theorem walkG {l : PySem.W.OpenLaw} {n k : Nat} {q : Program} {loose : List Str} {XP : (Str → Option Value) → Heap → Prop} {YP : World → Heap → Prop} {d : DefRec} {x : Str}
    (hn : l.most = some n) (hn2 : n ≤ sizeLine) (hdf : d.params.defaults = []) (hr : Room k callerA)
    (F : ∀ (w : World) (mg : Str → Option Value) (fa : Addr) (h : Heap), YP w h → h.Ns mainGlobals mg → mg d.name = some (.ref fa) → ∃ K : PySem.W.Frag, K.In h ∧ ∃ (fd : FuncData) (sp : Sp), (∀ (s : Shared) (u : Value), BindsTo s fd ⟨[u], []⟩ [(x, u)]) ∧
      (∀ (H : Hp) (a : Addr) (ns : List Int), ns.length ≤ n → (∀ z ∈ ns, Builtin.Int.intBits z ≤ 1048576) → SqL K H a (ns.map V.int) → sp [.ref a] H (fun v _ => v = .bl true) fun _ _ _ => False) ∧ ∀ base : Heap, FnG l.prog w K mg base k fa fd [x] sp)
    (hCX : ∀ (w : World) (H : Hp) (s : Shared) (e : Value) (s2 : Shared), L2.CX l.prog w [] H s (fun _ _ _ => False) e s2 → False) :
    PySem.W.WalkO q loose XP YP l.row.toRowW d [] (fun f vs => PySem.call f vs) := by
  refine Att.attach_callB hn hdf fun w s0 s1 mg mb fa o pm cd doc a vs ns G Y ho hd hcd hmg hobj hints hlen hbits hg => ?_
  obtain ⟨K, kin, fd, sp, hb, hsp, hF⟩ := F w mg fa _ Y G.T.g hmg
  exact law_callG kin G.T.g G.T.b G.T.builtins G.T.nolimit hg hobj hints (Nat.le_trans hlen hn2) hr hF hb (fun H hS => hsp H a ns hlen hbits hS) fun H e s2 => hCX w H s1 e s2
end Tb

/-! sorted(d), d a dict with tuples for keys. -/
namespace Tb
open PySem PySem.Spec PyProof.Rows L2
def sortA (lh : LH) (ds : List D) : Ro := match ds with
  | [d] => (match asDic lh d with
    | some (ks, _) => sortG lh [.lst ks]
    | none => sortG lh [d])
  | _ => .no
section
variable {X : Cx}
theorem dr_vals {G : Gx} {A : Addr → Prop} {ρ : List Addr} {H : Hp} : ∀ {xs : List DEnt} {ks us : List D}, DR G A ρ H xs ks us → VRs G A ρ H (xs.map fun x => V.ref x.2.1) ks
  | _, _, _, .nil => .nil
  | _, _, _, .cons _ h _ _ r => .cons h (dr_vals r)
theorem dr_len {G : Gx} {A : Addr → Prop} {ρ : List Addr} {H : Hp} : ∀ {xs : List DEnt} {ks us : List D}, DR G A ρ H xs ks us → xs.length = ks.length
  | _, _, _, .nil => rfl
  | _, _, _, .cons _ h _ _ r => by rw [List.length_cons, List.length_cons, dr_len r]
theorem vals_refs : ∀ (xs : List DEnt) (us : List Value), us.length = xs.length → (∀ (j : Nat) (v : Value), us[j]? = some v → ∃ y, xs[j]? = some y ∧ v = .ref y.2.1) → Vals (xs.map fun x => V.ref x.2.1) us
  | [], [], _, _ => .nil
  | x :: xs, u :: us, hl, h => by
    obtain ⟨y, e1, e2⟩ := h 0 u rfl
    have e1' : x = y := Option.some.inj e1
    subst e1'
    refine .cons e2 (vals_refs xs us (by simpa using hl) fun j v e => ?_)
    exact h (j + 1) v (by simpa using e)
  | [], _ :: _, hl, _ => by simp at hl
  | _ :: _, [], hl, _ => by simp at hl
theorem cb_sortA (hcalm : X.calm = true) (hu : X.A.units + 200 < cLine) : CallD X (.builtin "sorted") sortA := by
  intro al pins s σ H xs us Q I r ⟨A, ρ, lh, ds, S, rs, pr⟩
  unfold sortA at pr
  split at pr
  · rename_i d
    split at pr
    · rename_i ks us' hdic
      obtain ⟨v, rfl, rv⟩ := rs.one
      obtain ⟨a, xs, rfl, ha, dr⟩ := asDic_rel S rv hdic
      simp only at dr
      obtain ⟨u, rfl, ru⟩ := vals1 r
      obtain rfl : u = Value.ref a := ru
      obtain ⟨⟨o, es, ep, h1, h2, h3, h4, h5, h6, h7⟩, _, _⟩ := I.hok a _ ha
      unfold sortG at pr
      have hasL : asL lh (.lst ks) = some ks := rfl
      simp only [hasL] at pr
      split at pr
      · rename_i ps hps
        split at pr
        · rename_i hc
          obtain ⟨c1, hc⟩ := He.ba hc
          obtain ⟨c2, hc⟩ := He.ba hc
          obtain ⟨c3, c4⟩ := He.ba hc
          have r2 : VRs (gx X) A ρ H (xs.map fun x => V.ref x.2.1) ks := dr_vals dr
          obtain ⟨bs, b1, b2, b3, b4⟩ := tri fuel lh (fun v p => Dp X.K H v p) (fun r e => toP_dp S fuel r e) r2 hps
          have hlen : bs.length = ks.length := by
            have := r2.length
            rw [← b1, List.length_map] at this
            exact this
          have hes : es.size = xs.length := by
            have := congrArg List.length h4
            rw [List.length_map, Array.length_toList] at this
            exact this
          have h16 : es.size ≤ sizeLine := by rw [hes]; exact h7
          have hal : PySem.W.AllAlike (bs.map fun b => b.2.2) := by
            rw [b3]
            intro p hp q hq
            exact List.all_eq_true.mp (List.all_eq_true.mp c1 p hp) q hq
          have hks : PySem.W.Sortable (bs.map fun b => b.2.2) := by
            rw [b3]
            rcases Bool.or_eq_true_iff.mp c2 with c2 | c2
            · refine .inl fun p hp => ?_
              have := List.all_eq_true.mp c2 p hp
              unfold tupNe at this
              split at this
              · exact ⟨_, _, rfl⟩
              · cases this
            · refine .inr fun p hp => ?_
              have := List.all_eq_true.mp c2 p hp
              constructor
              · intro e
                rw [e] at this
                cases this
              · intro xs e
                rw [e] at this
                cases this
          refine Calls.call_function_entry PyProof.Rows.kind_sorted PyProof.Rows.plain_sorted PyProof.Rows.entry_sorted (PyProof.Rows.args_sorted1 _) ?_
          unfold Builtin.«sorted»
          refine wpAny_bind (m := checkCount "sorted" 1 1 _) (wpAny_pure ?_)
          refine wpAny_bind (PySem.W.kdu_collect (A := X.A.in1) (kdl_raw h6 h2 h3) (I.ok.hd hcalm) h1 h16 fun h' tk acc hk hacc => ?_)
          have hal2 : acc.toList.length = xs.length := by rw [Array.length_toList, hacc.1, hes]
          have hV : Vals (xs.map fun x => V.ref x.2.1) acc.toList := vals_refs xs acc.toList hal2 fun j v e => by
            obtain ⟨en, e1, e2⟩ := hacc.2 j v (by rw [← Array.getElem?_toList]; exact e)
            rw [← Array.getElem?_toList, h4, List.getElem?_map] at e1
            cases e3 : xs[j]? with
            | none => rw [e3] at e1; cases e1
            | some y =>
              rw [e3] at e1
              have e4 := Option.some.inj e1
              subst e4
              exact ⟨y, rfl, e2⟩
          have I1 : Inv X pins σ H { s with heap := h', toks := tk } := I.kept hk
          have hkl : acc.toList.length ≤ sizeLine := by rw [hal2]; exact h7
          refine wpAny_bind (wpAny_newList ?_ hkl)
          have hoL : (h'.push (seqObj "list" acc.toList.toArray 0)).get? h'.objs.size = some (seqObj "list" acc.toList.toArray 0) := Heap.get?_push_size _ rfl
          show wpAny _ _ _ _ _ { s with heap := h'.push (seqObj "list" acc.toList.toArray 0), toks := tk }
          rw [← b1] at hV
          have e1 : PySem.W.EachIs (fun u (b : V × D × PyData) => RelV b.1 u) acc.toList bs := each_vals hV
          have e2 : PySem.W.EachIs (fun u (b : V × D × PyData) => ∃ as, Reads (h'.push (seqObj "list" acc.toList.toArray 0)) u b.2.2 as ∧ h'.objs.size ∉ as) acc.toList bs := each_imp e1 fun u b hb hr => by
            obtain ⟨as, hrd⟩ := Dp.reads I1 b.2.2 b.1 u (b4 b hb).2 hr
            refine ⟨as, PyProof.Rows.Reads.keeps (fun c o e => Heap.get?_push_of_some _ e) hrd, fun hm => ?_⟩
            obtain ⟨o', ho'⟩ := PyProof.On.reads_mem_get hrd _ hm
            exact absurd (Heap.lt_size ho') (Nat.lt_irrefl _)
          refine wpAny_bind (wpAny_holding (PySem.W.list_sort_data (s := { s with heap := h'.push (seqObj "list" acc.toList.toArray 0), toks := tk }) (enc := fun b : V × D × PyData => b.2.2) (R := fun u b => RelV b.1 u) hoL e1 e2 hal hks (by rw [hlen]; exact of_decide_eq_true c3) (fun b hb => ?_) fun out ho eo => ?_))
          · have : b.2.2 ∈ ps := by rw [← b3]; exact List.mem_map.mpr ⟨b, hb, rfl⟩
            have hd' := of_decide_eq_true (List.all_eq_true.mp c4 _ this)
            show X.A.in1.units + 1 + b.2.2.depth < cLine
            rw [PyProof.Rows.units_in1]
            omega
          · obtain ⟨e', he'⟩ := PyProof.Rows.sortedHeap_at (vs := acc.toList) (out := out.toArray) hoL
            have hmem : ∀ b ∈ bs.mergeSort (PySem.W.dataLe false fun b : V × D × PyData => b.2.2), b ∈ bs := fun b hb => (List.mergeSort_perm _ _).mem_iff.mp hb
            have eD : (bs.mergeSort (PySem.W.dataLe false fun b : V × D × PyData => b.2.2)).map (fun b => (b.2.1, b.2.2)) = isort leP (ks.zip ps) := by
              rw [← b2, ← isort_eq (le := leP) (fun a b c => (PySem.W.sortLe_total (PyProof.Rows.listOrd PyProof.Rows.itemOrd) false fun x : D × PyData => PySem.W.keyToks x.2).trans a b c) (fun a b => by
                rcases (PySem.W.sortLe_total (PyProof.Rows.listOrd PyProof.Rows.itemOrd) false fun x : D × PyData => PySem.W.keyToks x.2).total a b with z | z
                · exact Bool.or_eq_true_iff.mpr (.inl z)
                · exact Bool.or_eq_true_iff.mpr (.inr z))]
              exact List.map_mergeSort fun a _ b _ => rfl
            have eV : VRs (gx X) A ρ H ((bs.mergeSort (PySem.W.dataLe false fun b : V × D × PyData => b.2.2)).map (·.1)) ((isort leP (ks.zip ps)).map (·.1)) := by
              rw [← eD, List.map_map]
              have : ∀ l : List (V × D × PyData), (∀ b ∈ l, VR (gx X) A ρ H b.1 b.2.1) → VRs (gx X) A ρ H (l.map (·.1)) (l.map ((fun x : D × PyData => x.1) ∘ fun b => (b.2.1, b.2.2))) := by
                intro l
                induction l with
                | nil => intro _; exact .nil
                | cons b l ih => intro h; exact .cons (h b List.mem_cons_self) (ih fun c hc => h c (List.mem_cons_of_mem _ hc))
              exact this _ fun b hb => (b4 b (hmem b hb)).1
            refine wpAny_pure ⟨_, rfl, .ref h'.objs.size, _, I1.laid (a := h'.objs.size) (o := .lst ((bs.mergeSort (PySem.W.dataLe false fun b : V × D × PyData => b.2.2)).map (·.1))) (t' := tk) (fun b u e => ?_) (Nat.le_refl _) ⟨?_, out, e', vals_each eo, he'⟩, rfl, PRo.new (PRo.of pr) S eV _ (I1.hok.fresh (Nat.le_refl _))⟩
            · have hb : b < h'.objs.size := Heap.lt_size e
              rw [PyProof.Rows.sortedHeap_old (Nat.ne_of_lt hb) (by rw [size_push']; exact Nat.lt_succ_of_lt hb)]
              exact Heap.get?_push_of_some _ e
            · rw [List.length_map, (List.mergeSort_perm _ _).length_eq, hlen]
              exact of_decide_eq_true c3
        · exact pr.elim
      · exact pr.elim
    · exact cb_sorted hu al pins s σ H _ us Q I r ⟨A, ρ, lh, _, S, rs, pr⟩
  · exact pr.elim
end
end Tb

/-! A call on an empty heap of its own; what it made comes to ours, its places moved on. -/
namespace Tb
open PySem PySem.Spec PyProof.Rows L2
def shV (k : Nat) : Nat → D → Option D
  | 0, _ => none
  | n + 1, d => match d with
    | .non => some .non
    | .bl b => some (.bl b)
    | .int i => some (.int i)
    | .str s => some (.str s)
    | .tup ds => (match mapO (shV k n) ds with
      | some ks => some (.tup ks)
      | none => none)
    | .lst ds => (match mapO (shV k n) ds with
      | some ks => some (.lst ks)
      | none => none)
    | .loc m => some (.loc (k + m))
    | .scr _ => none
    | .dic _ _ => none
def shO (k : Nat) : LO → Option LO
  | .lst ds => (match mapO (shV k fuel) ds with
    | some ks => some (.lst ks)
    | none => none)
  | _ => none
def callD (f : FM) (ds : List D) (lh : LH) : Res D := match mapO (frz [] fuel) ds with
  | some ds' => (match f ds' [] with
    | .ok d lh' => (match shV lh.length fuel d, mapO (shO lh.length) lh' with
      | some d', some l2 => .ok d' (lh ++ l2)
      | _, _ => .stuck)
    | .exc c _ => .exc c lh
    | .stuck => .stuck)
  | none => .stuck
theorem mapO_at {α β : Type} {f : α → Option β} : ∀ {xs : List α} {ys : List β}, mapO f xs = some ys → xs.length = ys.length ∧ ∀ (i : Nat) (y : β), ys[i]? = some y → ∃ x, xs[i]? = some x ∧ f x = some y
  | [], ys, h => by cases h; exact ⟨rfl, fun i y e => by simp at e⟩
  | x :: xs, ys, h => by
    obtain ⟨z, zs, h1, h2, rfl⟩ := mapO_cons h
    obtain ⟨q1, q2⟩ := mapO_at h2
    refine ⟨by simp [q1], fun i y e => ?_⟩
    cases i with
    | zero => cases e; exact ⟨x, rfl, h1⟩
    | succ i => exact q2 i y e
section
variable {G : Gx} {A : Addr → Prop} {ρ ρ' : List Addr} {H H' : Hp} {lh lh' : LH}
theorem shV_rel : ∀ (n : Nat) {v : V} {d d' : D}, VR G (fun a => A a ∨ a ∈ ρ) ρ' H v d → shV ρ.length n d = some d' → VR G A (ρ ++ ρ') H v d' := by
  intro n
  induction n with
  | zero => intro v d d' _ h; cases h
  | succ n ih =>
    have all : ∀ {vs : List V} {ds ks : List D}, VRs G (fun a => A a ∨ a ∈ ρ) ρ' H vs ds → mapO (shV ρ.length n) ds = some ks → VRs G A (ρ ++ ρ') H vs ks := by
      intro vs ds
      induction ds generalizing vs with
      | nil => intro ks r e; cases r; cases e; exact .nil
      | cons d ds ihd =>
        intro ks r e
        cases r with
        | cons r1 r2 =>
          obtain ⟨y, ys, e1, e2, rfl⟩ := mapO_cons e
          exact .cons (ih r1 e1) (ihd r2 e2)
    intro v d d' r h
    cases r with
    | non => cases h; exact .non
    | bl b => cases h; exact .bl b
    | int i => cases h; exact .int i
    | str s => cases h; exact .str s
    | @tup a vs ds h1 h2 =>
      simp only [shV] at h
      cases e : mapO (shV ρ.length n) ds with
      | none => rw [e] at h; cases h
      | some ks => rw [e] at h; cases h; exact .tup h1 (all h2 e)
    | @lst a vs ds h1 h2 h3 h4 =>
      simp only [shV] at h
      cases e : mapO (shV ρ.length n) ds with
      | none => rw [e] at h; cases h
      | some ks =>
        rw [e] at h
        cases h
        exact .lst h1 (fun z => h2 (.inl z)) (fun z => (List.mem_append.mp z).elim (fun z => h2 (.inr z)) h3) (all h4 e)
    | scr _ _ => cases h
    | dic _ _ _ _ => cases h
    | @loc m a q =>
      cases h
      refine .loc ?_
      rw [List.getElem?_append_right (Nat.le_add_right _ _), Nat.add_sub_cancel_left]
      exact q
theorem shVs_rel : ∀ {vs : List V} {ds ks : List D} {n : Nat}, VRs G (fun a => A a ∨ a ∈ ρ) ρ' H vs ds → mapO (shV ρ.length n) ds = some ks → VRs G A (ρ ++ ρ') H vs ks
  | _, [], _, _, r, e => by cases r; cases e; exact .nil
  | _, d :: ds, _, n, .cons r1 r2, e => by
    obtain ⟨y, ys, e1, e2, rfl⟩ := mapO_cons e
    exact .cons (shV_rel n r1 e1) (shVs_rel r2 e2)
theorem Stp.join (s : Stp [] H ρ' H') (ρ : List Addr) : Stp ρ H (ρ ++ ρ') H' := by
  obtain ⟨r, e, hn⟩ := s.pre
  rw [List.nil_append] at e
  subst e
  exact ⟨⟨_, rfl, hn⟩, fun a o h k _ => s.frm a o h k (by simp), s.tup, s.frz, s.trk⟩
theorem SR.join {l2 : LH} (S : SR G A ρ H lh) (s : Stp [] H ρ' H') (S' : SR G (fun a => A a ∨ a ∈ ρ) ρ' H' lh') (h : mapO (shO lh.length) lh' = some l2) : SR G A (ρ ++ ρ') H' (lh ++ l2) := by
  obtain ⟨q1, q2⟩ := mapO_at h
  have hl : ρ.length = lh.length := S.len
  refine ⟨by rw [List.length_append, List.length_append, S.len, S'.len, q1], ?_, fun a z => ?_, fun n o e => ?_, S'.tab⟩
  · rw [List.nodup_append]
    refine ⟨S.nd, S'.nd, fun a ha b hb => ?_⟩
    rintro rfl
    exact (s.new_ S a hb).2 ha
  · exact s.trk a (S.av a z)
  · by_cases hn : n < lh.length
    · rw [List.getElem?_append_left hn] at e
      obtain ⟨a, h1, h2⟩ := S.obj n o e
      refine ⟨a, ?_, h2.stp (s.join ρ) fun u z k => s.frm a u z k (by simp)⟩
      rw [List.getElem?_append_left (by rw [hl]; exact hn)]
      exact h1
    · rw [List.getElem?_append_right (by omega)] at e
      obtain ⟨o1, k1, k2⟩ := q2 _ _ e
      obtain ⟨a, h1, h2⟩ := S'.obj _ _ k1
      refine ⟨a, ?_, ?_⟩
      · rw [List.getElem?_append_right (by omega), hl]
        exact h1
      · cases o1 with
        | lst ds =>
          simp only [shO] at k2
          cases q : mapO (shV lh.length fuel) ds with
          | none => rw [q] at k2; cases k2
          | some ks =>
            rw [q] at k2
            cases k2
            obtain ⟨vs, h3, h4⟩ := h2
            rw [← hl] at q
            exact ⟨vs, h3, shVs_rel h4 q⟩
        | dic _ _ => cases k2
        | ins _ _ => cases k2
theorem callD_rel {f : FM} {vs : List V} {ds : List D} {V' : Str → Hp → Prop} {Q : VK} (S : SR G A ρ H lh) (r : VRs G A ρ H vs ds) (h : PRg G A ρ H (VR G A) (callD f ds lh) V' Q) :
    ∃ A' ρ' lh' ds', VRs G A' ρ' H vs ds' ∧ SR G A' ρ' H lh' ∧ PRg G A' ρ' H (VR G A') (f ds' lh') V' Q := by
  unfold callD at h
  cases q : mapO (frz [] fuel) ds with
  | none => simp only [q] at h; exact h.elim
  | some ds' =>
    simp only [q] at h
    have S0 : SR G (fun a => A a ∨ a ∈ ρ) [] H [] := SR.none_ S.tab fun a z => z.elim (S.av a) S.mutT
    have r0 : VRs G (fun a => A a ∨ a ∈ ρ) [] H vs ds' := all_gen (fun r e => frz_genL (lh := []) (fun m a o _ z => by simp at z) (fun a o ho n1 n2 => ⟨fun z => z.elim n1 n2, by simp⟩) (fun z => absurd rfl z) _ r e) r q
    refine ⟨fun a => A a ∨ a ∈ ρ, [], [], ds', r0, S0, ?_⟩
    cases e : f ds' [] with
    | ok d lh' =>
      simp only [e] at h
      intro ρ' H' v s S' rv
      cases e2 : shV lh.length fuel d with
      | none => simp only [e2] at h; exact h.elim
      | some d' =>
        cases e3 : mapO (shO lh.length) lh' with
        | none => simp only [e2, e3] at h; exact h.elim
        | some l2 =>
          simp only [e2, e3] at h
          have hl : ρ.length = lh.length := S.len
          exact h (ρ ++ ρ') H' v (s.join ρ) (S.join s S' e3) (shV_rel fuel rv (by rw [hl]; exact e2))
    | exc c lh' =>
      simp only [e] at h
      exact fun ρ' H' s S' => h ρ H' (s.widen ρ) (S.widen s S'.tab)
    | stuck => simp only [e] at h; exact h.elim
end
def eCallD (n : Nat) (fm : FM) (ma : AM) : EM := fun τ lh => (ma τ lh).bind fun ds lh => if ds.length = n then callD fm ds lh else .stuck
section
variable {X : Cx} {W : WX} {k n : Nat} {f : Addr} {fd : FuncData} {ps : List Str} {sp : Sp} {x : Str} {p pos : Pos} {e : Expr} {es : List Expr} {ma : AM} {fm : FM}
theorem ee_callD (tk : Takes X W) (F : FnOk X.prog X.w X.K X.mg X.base (L2.CX X.prog X.w) k f fd ps (spE (gx X) n fm)) (hr : Room k X.A) (hm : X.mg x = some (.ref f)) (hk : PySem.W.keepIn X.K (.ref f) = true) (hb : Binds X.K fd ps []) (ha : EA X W (e :: es) ma) (hg : Gl X x := by rfl)
    (hdb : (x == ("__debug__" : Str)) = false := by decide) (he : starEach (e :: es) X.env = (false, eval e X.env) :: starEach es X.env := by rfl) (hpl : (backTo pos (starEach es X.env)).any (·.1) = false := by rfl) : EE X W (.Call (.Name x p) (e :: es) [] pos) (eCallD n fm ma) :=
  peImp (pe_callS (E := WE W) F hr hg hm hk hb (fun σ => passAt tk σ) ha hdb he hpl) fun σ H Q ⟨A, ρ, τ, lh, er, S, pr⟩ => ⟨A, ρ, τ, lh, er, S, PRg.thn pr fun ds lh1 ρ1 H1 xs s1 S1 r1 pr1 => by
    by_cases hn : ds.length = n
    · rw [if_pos hn] at pr1
      obtain ⟨A', ρ', lh', ds', r', S', pr'⟩ := callD_rel S1 r1 pr1
      exact ⟨by rw [r1.length]; exact hn, A', ρ', lh', ds', r', S', pr'⟩
    · rw [if_neg hn] at pr1
      exact pr1.elim⟩
theorem ec_callD (tk : Takes X W) (F : FOk X.prog X.w X.K X.mg X.base k f n fm) (hr : Room k X.A) (hm : X.mg x = some (.ref f)) (hk : PySem.W.keepIn X.K (.ref f) = true) (ha : EA X W (e :: es) ma) (hg : Gl X x := by rfl)
    (hdb : (x == ("__debug__" : Str)) = false := by decide) (he : starEach (e :: es) X.env = (false, eval e X.env) :: starEach es X.env := by rfl) (hpl : (backTo pos (starEach es X.env)).any (·.1) = false := by rfl) : EE X W (.Call (.Name x p) (e :: es) [] pos) (eCallD n fm ma) := by
  obtain ⟨fd, ps, F, hb⟩ := F
  exact ee_callD tk F hr hm hk hb ha hg hdb he hpl
theorem ec_callDG (tk : Takes X W) (hG : X.A.guards = some []) (F : FOkG X.prog X.w X.K X.mg X.base k f n fm) (hr : Room k X.A) (hm : X.mg x = some (.ref f)) (hk : PySem.W.keepIn X.K (.ref f) = true) (ha : EA X W (e :: es) ma) (hg : Gl X x := by rfl)
    (hdb : (x == ("__debug__" : Str)) = false := by decide) (he : starEach (e :: es) X.env = (false, eval e X.env) :: starEach es X.env := by rfl) (hpl : (backTo pos (starEach es X.env)).any (·.1) = false := by rfl) : EE X W (.Call (.Name x p) (e :: es) [] pos) (eCallD n fm ma) := by
  obtain ⟨fd, ps, F, hb⟩ := F
  refine peImp (pe_callG (E := WE W) F hG hr hg hm hk hb (fun σ => passAt tk σ) ha hdb he hpl) fun σ H Q ⟨A, ρ, τ, lh, er, S, pr⟩ => ⟨A, ρ, τ, lh, er, S, PRg.thn pr fun ds lh1 ρ1 H1 xs s1 S1 r1 pr1 => ?_⟩
  by_cases hn : ds.length = n
  · rw [if_pos hn] at pr1
    obtain ⟨A', ρ', lh', ds', r', S', pr'⟩ := callD_rel S1 r1 pr1
    exact ⟨by rw [r1.length]; exact hn, A', ρ', lh', ds', r', S', pr'⟩
  · rw [if_neg hn] at pr1
    exact pr1.elim
end
@[simp] theorem z_callD {τ : Tau} {lh : LH} {n : Nat} {f : FM} {r : AM} : eCallD n f r τ lh = (r τ lh).bind fun ds lh => if ds.length = n then callD f ds lh else .stuck := rfl
end Tb

/-! zip of a tuple with a list, in a for or a comprehension. -/
namespace Tb
open PySem PySem.Spec PyProof.Rows L2
/-- the tuple at a and the list at b, n pairs -/
def ItzM (K : PySem.W.Frag) (a b : Addr) (n : Nat) : It :=
  ⟨fun i H => i < n ∧ ∃ (xs ys : List V) (x y : V), SqT K H a xs ∧ SqL K H b ys ∧ xs[i]? = some x ∧ ys[i]? = some y,
    fun i H v H' => ∃ T x y, v = .ref T ∧ H T = none ∧ H' = upd H T (.tup [x, y]) ∧ (∀ xs, SqT K H a xs → xs[i]? = some x) ∧ ∀ ys, SqL K H b ys → ys[i]? = some y,
    fun i H => n ≤ i ∧ ∃ xs ys : List V, SqT K H a xs ∧ SqL K H b ys ∧ min xs.length ys.length = n⟩
theorem turn_zipM {P : Program} {w : World} {K : PySem.W.Frag} {elts : List Expr} {kk : Nat} {tpos : Pos} {a b z TI TO i1 i2 : Addr} {n : Nat} (D : ZipSep2 z TI TO i1 i2 [i1, a] [i2, b]) (ha : a ≠ i1) (hb : b ≠ i2) :
    Turn P w K (.Tuple elts kk tpos) (ItzM K a b n) [z, TI, TO, i1, i2] z (fun i h => i ≤ n ∧ IsZip h z TI TO .none ∧ IsTupOf2 h TI (.ref i1) (.ref i2) ∧ (∃ x y, IsTupOf2 h TO x y) ∧ h.IsTupleIter i1 a i ∧ h.IsListIter i2 b i) where
  mem := by simp
  obj := fun i h st c hc => by
    obtain ⟨_, hz, hTI, ⟨x, y, hTO⟩, ⟨o1, e1, _, d1⟩, ⟨o2, e2, _, d2⟩⟩ := st
    have e' : c = z ∨ c = TI ∨ c = TO ∨ c = i1 ∨ c = i2 := by simpa using hc
    rcases e' with q | q | q | q | q
    · rw [q]; exact ⟨_, hz, fun v q => nomatch q⟩
    · rw [q]; exact ⟨_, hTI, fun v q => nomatch q⟩
    · rw [q]; exact ⟨_, hTO, fun v q => nomatch q⟩
    · rw [q]; exact ⟨o1, e1, fun v q => by rw [d1] at q; cases q⟩
    · rw [q]; exact ⟨o2, e2, fun v q => by rw [d2] at q; cases q⟩
  keep := fun i h h' st k => by
    obtain ⟨hi, hz, hTI, ⟨x, y, hTO⟩, h1, h2⟩ := st
    exact ⟨hi, k z (by simp) _ hz, k TI (by simp) _ hTI, ⟨x, y, k TO (by simp) _ hTO⟩, h1.at fun o q => k i1 (by simp) o q, h2.at fun o q => k i2 (by simp) o q⟩
  item := by
    intro X hP hw hK hc i pins s σ H E I hf st hg
    subst hP hw hK
    obtain ⟨hin, hz, hTI, ⟨x0, y0, hTO⟩, h1, h2⟩ := st
    obtain ⟨hlt, xs, ys, x, y, hqx, hqy, hx, hy⟩ := hg
    obtain ⟨its, rv, p, _⟩ := I.tuple hqx
    obtain ⟨its2, rv2, p2, _⟩ := I.list hqy
    obtain ⟨u, hu, ru⟩ := rv.get hx
    obtain ⟨u2, hu2, ru2⟩ := rv2.get hy
    have hu' : its.toArray[i]? = some u := by simpa using hu
    have hu2' : its2.toArray[i]? = some u2 := by simpa using hu2
    have hh : X.A.in1.handled = none := I.ok.hd hc
    have G := GoesN.zip2 (elts := elts) (x1 := kk) (pos := tpos) (prog := X.prog) (w := X.w) (A := X.A) D (Draws.tuple hh i1 a ha its.toArray) (Draws.list hh i2 b hb its2.toArray)
    have hlt1 : i < its.toArray.size := (Array.getElem?_eq_some_iff.mp hu').1
    have hlt2 : i < its2.toArray.size := (Array.getElem?_eq_some_iff.mp hu2').1
    refine G.goes i s (fun v s2 => ∃ x H', Inv X pins σ H' s2 ∧ RelV x v ∧ (ItzM X.K a b n).yld i H x H' ∧ (i + 1 ≤ n ∧ IsZip s2.heap z TI TO .none ∧ IsTupOf2 s2.heap TI (.ref i1) (.ref i2) ∧ (∃ x y, IsTupOf2 s2.heap TO x y) ∧ s2.heap.IsTupleIter i1 a (i + 1) ∧ s2.heap.IsListIter i2 b (i + 1)) ∧ ∀ b ∈ [z, TI, TO, i1, i2], H' b = none) E (by omega) ⟨hz, hTI, ⟨_, _, hTO⟩, ⟨h1, p⟩, ⟨h2, p2.isList⟩⟩ fun v h' tk hY hS hk htk => ?_
    obtain ⟨T, x', y', ev, hnew, hx', hy', hT⟩ := hY
    obtain ⟨z', TI', TO', ⟨h1', _⟩, ⟨h2', _⟩⟩ := hS
    subst ev
    rw [hu'] at hx'
    rw [hu2'] at hy'
    cases hx'
    cases hy'
    have new : ObjOk X.prog X.w (upd H T (.tup [x, y])) h' T (.tup [x, y]) :=
      ⟨by show 2 ≤ sizeLine; decide, [u, u2], .cons ru (.cons ru2 .nil), hT⟩
    have I1 : Inv X pins σ (upd H T (.tup [x, y])) { s with heap := h', toks := tk } :=
      I.turnedNew (ch := [z, TO, i1, i2]) hk (fun c hcm => hf c (by
        have e' : c = z ∨ c = TO ∨ c = i1 ∨ c = i2 := by simpa using hcm
        rcases e' with q | q | q | q <;> simp [q])) hnew new
    refine ⟨.ref T, _, I1, rfl, ⟨T, x, y, rfl, I.hok.fresh hnew, rfl, fun l hl => by rw [I.tuple_inj hl hqx]; exact hx, fun l hl => by rw [I.list_inj hl hqy]; exact hy⟩, ⟨hlt, z', TI', TO', h1', h2'⟩, fun c hcm => ?_⟩
    have hlt : c < s.heap.objs.size := by
      have e' : c = z ∨ c = TI ∨ c = TO ∨ c = i1 ∨ c = i2 := by simpa using hcm
      rcases e' with q | q | q | q | q
      · rw [q]; exact Heap.lt_size hz
      · rw [q]; exact Heap.lt_size hTI
      · rw [q]; exact Heap.lt_size hTO
      · rw [q]; obtain ⟨_, e1, _⟩ := h1; exact Heap.lt_size e1
      · rw [q]; obtain ⟨_, e2, _⟩ := h2; exact Heap.lt_size e2
    rw [upd_ne (Nat.ne_of_lt (Nat.lt_of_lt_of_le hlt hnew))]
    exact (hf c hcm).1
  done := by
    intro X hP hw hK hc i pins s σ H E I hf st hg
    subst hP hw hK
    obtain ⟨hin, hz, hTI, ⟨x0, y0, hTO⟩, h1, h2⟩ := st
    obtain ⟨hni, xs, ys, hqx, hqy, hend⟩ := hg
    obtain ⟨its, rv, p, _⟩ := I.tuple hqx
    obtain ⟨its2, rv2, p2, _⟩ := I.list hqy
    have l1 := rv.length
    have l2 := rv2.length
    have hh : X.A.in1.handled = none := I.ok.hd hc
    have hi : i = min its.toArray.size its2.toArray.size := by
      simp only [List.size_toArray]
      omega
    have G := GoesN.zip2 (elts := elts) (x1 := kk) (pos := tpos) (prog := X.prog) (w := X.w) (A := X.A) D (Draws.tuple hh i1 a ha its.toArray) (Draws.list hh i2 b hb its2.toArray)
    refine G.stops s (fun s1 => Inv X pins σ H s1) E ?_ fun h' tk hk htk => I.turnedL (ch := [z, TO, i1, i2]) hk fun c hcm => hf c (by
        have e' : c = z ∨ c = TO ∨ c = i1 ∨ c = i2 := by simpa using hcm
        rcases e' with q | q | q | q <;> simp [q])
    rw [← hi]
    exact ⟨hz, hTI, ⟨_, _, hTO⟩, ⟨h1, p⟩, ⟨h2, p2.isList⟩⟩
  self := fun A i s Q E st h => wpAny_pyIter_zip st.2.1 h
end Tb
namespace Tb
open PySem PySem.Spec PyProof.Rows L2
def iZipTL (K : PySem.W.Frag) (ta : TA) : TI := fun σ H R => ta σ H fun vs H1 => ∃ a b xs ys, vs = [.ref a, .ref b] ∧ SqT K H1 a xs ∧ SqL K H1 b ys ∧ R (ItzM K a b (min xs.length ys.length)) H1
theorem pi_zipM {X : Cx} {e e2 : Expr} {ta : TA} {p pos tpos : Pos} {elts : List Expr} {kk : Nat} (hg : Gl X "zip") (hm : X.mg "zip" = none) (ha : PA X [e, e2] ta)
    (hs : starEach [e, e2] X.env = (false, eval e X.env) :: starEach [e2] X.env := by rfl) (hpl : (backTo pos (starEach [e2] X.env)).any (·.1) = false := by rfl) :
    PI X (.Tuple elts kk tpos) (.Call (.Name "zip" p) [e, e2] [] pos) (iZipTL X.K ta) := by
  refine ⟨fun pins s σ H R I h => ?_⟩
  refine Call_ (ld_blt I hg hm PyProof.Rows.boot_zip (PyProof.Rows.callWith_type1 (thn (ha.run pos pins s σ H _ I h) fun us s1 ⟨vs, H1, I1, r1, q1⟩ => ?_) hs hpl))
  obtain ⟨a, b, xs, ys, ex, hqx, hqy, q⟩ := q1
  subst ex
  obtain ⟨u1, us1, rfl, r, rr⟩ : ∃ u us', us = u :: us' ∧ RelV (.ref a) u ∧ Vals [.ref b] us' := by cases r1 with | cons r rr => exact ⟨_, _, rfl, r, rr⟩
  obtain ⟨u2, rfl, r'⟩ := vals1 rr
  obtain rfl : u1 = Value.ref a := r
  obtain rfl : u2 = Value.ref b := r'
  have fresh5 : ∀ c, c ∈ [s1.heap.objs.size + 4, s1.heap.objs.size + 2, s1.heap.objs.size + 3, s1.heap.objs.size, s1.heap.objs.size + 1] → FpOk X pins H1 c := fun c hcm => by
    have e' : c = s1.heap.objs.size + 4 ∨ c = s1.heap.objs.size + 2 ∨ c = s1.heap.objs.size + 3 ∨ c = s1.heap.objs.size ∨ c = s1.heap.objs.size + 1 := by simpa using hcm
    have hle : s1.heap.objs.size ≤ c := by
      rcases e' with z | z | z | z | z
      · rw [z]; exact Nat.le_add_right _ _
      · rw [z]; exact Nat.le_add_right _ _
      · rw [z]; exact Nat.le_add_right _ _
      · rw [z]; exact Nat.le_refl _
      · rw [z]; exact Nat.le_add_right _ _
    exact I1.fpOk hle (I1.hok.fresh hle)
  obtain ⟨its, rv, p1, _⟩ := I1.tuple hqx
  obtain ⟨its2, rv2, p2, _⟩ := I1.list hqy
  obtain ⟨o1, ho1, _⟩ := id p1
  have la : a < s1.heap.objs.size := Heap.lt_size ho1
  have lb : b < s1.heap.objs.size := p2.lt
  refine zip_begins2 (begins_tuple a its.toArray) (begins_list b its2.toArray) p1 p2.isList fun h' hz hTI hTO g1 g2 hsz hk => wpAny_pyIter_zip hz ?_
  have I2 : Inv X pins σ H1 { s1 with heap := h' } := I1.kept (t' := s1.toks) hk
  have D : ZipSep2 (s1.heap.objs.size + 4) (s1.heap.objs.size + 2) (s1.heap.objs.size + 3) s1.heap.objs.size (s1.heap.objs.size + 1) [s1.heap.objs.size, a] [s1.heap.objs.size + 1, b] :=
    zip_sep2 (fun c hc => by rw [List.mem_singleton.mp hc]; exact la) (fun c hc => by rw [List.mem_singleton.mp hc]; exact lb)
  exact ⟨s1.heap.objs.size + 4, [s1.heap.objs.size + 4, s1.heap.objs.size + 2, s1.heap.objs.size + 3, s1.heap.objs.size, s1.heap.objs.size + 1], _, _, H1, rfl, I2, turn_zipM D (Nat.ne_of_lt la) (Nat.ne_of_lt (Nat.lt_succ_of_lt lb)), ⟨Nat.zero_le _, hz, hTI, ⟨_, _, hTO⟩, ⟨_, g1, rfl, rfl⟩, ⟨_, g2, rfl, rfl⟩⟩, fresh5, q⟩
def zipM (xs ys : List D) : List D := (xs.zip ys).map fun p => .tup [p.1, p.2]
theorem itOk_zipM {G : Gx} {A : Addr → Prop} {ρ : List Addr} {H : Hp} {a b : Addr} {vs ws : List V} {ds es : List D} (q1 : SqT G.K H a vs) (r1 : VRs G A ρ H vs ds) (q2 : LstAt G.K A ρ H b ws) (r2 : VRs G A ρ H ws es) : ItOk G A ρ H (ItzM G.K a b (min vs.length ws.length)) (.st (zipM ds es)) := fun B ρ2 H2 lh2 i hB s S => by
  have k1 := sqT_stp s q1
  have k2 := (lstAt_stp s (lstAt_bar hB q2)).sq
  have n1 := (r1.bar hB).stp s
  have n2 := (r2.bar hB).stp s
  have l1 := n1.length
  have l2 := n2.length
  have lz : (zipM ds es).length = min vs.length ws.length := by
    unfold zipM
    rw [List.length_map, List.length_zip, l1, l2]
  refine ⟨fun d hd => ?_, fun hd => ?_⟩
  · have hd' : (zipM ds es)[i]? = some d := by simpa [Wk.gt] using hd
    have hi : i < min vs.length ws.length := by
      rw [← lz]
      exact (List.getElem?_eq_some_iff.mp hd').1
    have hi1 : i < ds.length := by omega
    have hi2 : i < es.length := by omega
    have w1 : ds[i]? = some ds[i] := List.getElem?_eq_getElem hi1
    have w2 : es[i]? = some es[i] := List.getElem?_eq_getElem hi2
    have ed : d = .tup [ds[i], es[i]] := by
      unfold zipM at hd'
      have hz : (ds.zip es)[i]? = some (ds[i], es[i]) := List.getElem?_zip_eq_some.mpr ⟨w1, w2⟩
      rw [List.getElem?_map, hz] at hd'
      exact (Option.some.inj hd').symm
    subst ed
    obtain ⟨v, h1, h2⟩ := n1.get w1
    obtain ⟨w, h3, h4⟩ := n2.get w2
    refine ⟨⟨hi, vs, ws, v, w, k1, k2, h1, h3⟩, fun x H3 ⟨T, x', y', ex, hT, eH, hx, hy⟩ => ?_⟩
    subst ex eH
    have := hx vs k1
    rw [h1] at this
    cases this
    have := hy ws k2
    rw [h3] at this
    cases this
    exact ⟨stp_new hT, S.new hT, .tup (SqT.of upd_same) (.cons (h2.stp (stp_new hT)) (.cons (h4.stp (stp_new hT)) .nil))⟩
  · have hd' : (zipM ds es).length ≤ i := by simpa [Wk.gt] using hd
    rw [lz] at hd'
    exact ⟨hd', vs, ws, k1, k2, rfl⟩
def iZM (ma : AM) : IM := fun τ lh => (ma τ lh).bind fun ds lh => match ds with
  | [.tup xs, .lst ys] => .ok (.st (zipM xs ys)) lh
  | _ => .stuck
section
variable {X : Cx} {W : WX} {e e2 : Expr} {ma : AM} {pos p : Pos}
theorem ei_zipM {elts : List Expr} {kk : Nat} {tpos : Pos} (h : EA X W [e, e2] ma) (hm : X.mg "zip" = none) (hg : Gl X "zip" := by rfl)
    (hs : starEach [e, e2] X.env = (false, eval e X.env) :: starEach [e2] X.env := by rfl) (hpl : (backTo pos (starEach [e2] X.env)).any (·.1) = false := by rfl) : EI X W (.Tuple elts kk tpos) (.Call (.Name "zip" p) [e, e2] [] pos) (iZM ma) :=
  piImp (pi_zipM hg hm h hs hpl) fun σ H R ⟨A, ρ, τ, lh, er, S, pr⟩ => ⟨A, ρ, τ, lh, er, S, PRg.thn pr fun ds lh1 ρ1 H1 x s1 S1 r1 pr1 => by
    split at pr1
    · rename_i xs ys
      cases r1 with
      | cons r r' =>
        obtain ⟨v2, rfl, r2⟩ := r'.one
        cases r with
        | @tup a vs _ q k =>
          cases r2 with
          | @lst b ws _ g1 g2 g3 g4 =>
            exact ⟨a, b, vs, ws, rfl, q, SqL.of g1, pr1 ρ1 H1 _ (Stp.refl _ _) S1 (itOk_zipM q k (.inl ⟨g1, g2, g3⟩) g4)⟩
    · exact pr1.elim⟩
end
@[simp] theorem z_zipM {τ : Tau} {lh : LH} {ma : AM} : iZM ma τ lh = (ma τ lh).bind fun ds lh => (match ds with
  | [.tup xs, .lst ys] => .ok (.st (zipM xs ys)) lh
  | _ => .stuck) := rfl
end Tb

/-! enumerate of a tuple, in a for or a comprehension. -/
namespace PySem
open Sem (wp)
set_option maxHeartbeats 1000000 in
theorem meets_enum_one {v : Value} {o : Obj} {H : Heap → Prop} (B : Begins v o H) :
    Meets (Builtin.«enumerate.__new__» ⟨[.type "enumerate", v], []⟩) (fun _ R s => H s.heap ∧
      R (.ok (.ret (.ref (s.heap.push o).objs.size))) { s with heap := (s.heap.push o).push { cls := .type "enumerate", data := .fields #[.none, .bool false, .ref s.heap.objs.size, rawInt 0, .none, .none] } }) :=
  .of_wp fun prog w A R s h => by
    obtain ⟨hp, g, d, tk, os⟩ := s; obtain ⟨h1, h⟩ := h
    have hsub := sub_enumerate
    have q1 : ∀ {A' : Around} {E : Value → Shared → Prop} {Q : Value → Shared → Prop}, Q (.ref hp.objs.size) ⟨hp.push o, g, d, tk, os⟩ → wpAny (model prog w) A' (pyIter v) Q E ⟨hp, g, d, tk, os⟩ :=
      fun q => B.iter prog w _ _ ⟨hp, g, d, tk, os⟩ _ h1 q
    wp_walk using q1
    refine wpAny_stack_any fun st => wpAny_pure ?_
    split
    · rename_i c _ _ _ _ _
      cases (c == Value.type "enumerate")
      · wp_walk using q1
        exact ⟨_, rfl, h⟩
      · wp_walk using q1
        exact ⟨_, rfl, h⟩
    · wp_walk using q1
      exact ⟨_, rfl, h⟩
theorem enum_one {prog : Program} {w : World} {A : Around} {E : Value → Shared → Prop} {s : Shared} {v : Value} {o : Obj} {H : Heap → Prop} {Q : Value → Shared → Prop} (B : Begins v o H) (h1 : H s.heap)
    (h : ∀ h', IsEnum h' (s.heap.objs.size + 1) s.heap.objs.size 0 .none → h'.get? s.heap.objs.size = some o → h'.objs.size = s.heap.objs.size + 2 →
      (∀ b o, s.heap.get? b = some o → h'.get? b = some o) → Q (.ref (s.heap.objs.size + 1)) { s with heap := h' }) :
    wpAny (model prog w) A (call (.type "enumerate") [v]) Q E s := by
  refine callType_new F.called_enumerate (by decide) (F.typeCall_enumerate_1 _) (F.newCall_enumerate_1 _) (fun obj => F.args_object_init_2 obj _) F.entry_enumerate_new
    (meets_enum_one B) ⟨h1, ?_⟩
  have hz : (s.heap.push o).objs.size = s.heap.objs.size + 1 := Heap.size_push ..
  show _ ∧ _
  rw [hz]
  have he : IsEnum ((s.heap.push o).push { cls := .type "enumerate", data := .fields #[.none, .bool false, .ref s.heap.objs.size, rawInt 0, .none, .none] }) (s.heap.objs.size + 1) s.heap.objs.size 0 .none := by
    have := Heap.get?_push_size (s.heap.push o) (o := { cls := .type "enumerate", data := .fields #[.none, .bool false, .ref s.heap.objs.size, rawInt 0, .none, .none] }) rfl
    rw [hz] at this; exact this
  refine ⟨⟨_, he, rfl⟩, h _ he (Heap.get?_push_of_some _ (Heap.get?_push_size _ B.free)) (by rw [Heap.size_push, hz]) fun b o x => Heap.get?_push_of_some _ (Heap.get?_push_of_some _ x)⟩
end PySem
namespace Tb
open PySem PySem.Spec PyProof.Rows L2
/-- the tuple at a, numbered, n items -/
def IteT (K : PySem.W.Frag) (a : Addr) (n : Nat) : It :=
  ⟨fun i H => i < n ∧ ∃ (xs : List V) (x : V), SqT K H a xs ∧ xs[i]? = some x,
    fun i H v H' => ∃ T x, v = .ref T ∧ H T = none ∧ H' = upd H T (.tup [.int (i : Nat), x]) ∧ ∀ xs, SqT K H a xs → xs[i]? = some x,
    fun i H => n ≤ i ∧ ∃ xs : List V, SqT K H a xs ∧ xs.length = n⟩
theorem turn_enumT {P : Program} {w : World} {K : PySem.W.Frag} {elts : List Expr} {kk : Nat} {tpos : Pos} {a e it : Addr} {n : Nat} (ha : a ≠ it) (hea : e ≠ a) (hei : e ≠ it) :
    Turn P w K (.Tuple elts kk tpos) (IteT K a n) [e, it] e (fun i h => i ≤ n ∧ (∃ old, IsEnum h e it ((0 : Int) + (i : Int)) old) ∧ h.IsTupleIter it a i) where
  mem := by simp
  obj := fun i h st c hc => by
    obtain ⟨_, ⟨old, he⟩, ⟨o1, e1, _, d1⟩⟩ := st
    have e' : c = e ∨ c = it := by simpa using hc
    rcases e' with q | q
    · rw [q]; exact ⟨_, he, fun v q => nomatch q⟩
    · rw [q]; exact ⟨o1, e1, fun v q => by rw [d1] at q; cases q⟩
  keep := fun i h h' st k => by
    obtain ⟨hi, ⟨old, he⟩, h1⟩ := st
    exact ⟨hi, ⟨old, k e (by simp) _ he⟩, h1.at fun o q => k it (by simp) o q⟩
  item := by
    intro X hP hw hK hc i pins s σ H E I hf st hg
    subst hP hw hK
    obtain ⟨hin, ⟨old, he⟩, h1⟩ := st
    obtain ⟨hlt, xs, x, hqx, hx⟩ := hg
    obtain ⟨its, rv, p, _⟩ := I.tuple hqx
    obtain ⟨u, hu, ru⟩ := rv.get hx
    have hu' : its.toArray[i]? = some u := by simpa using hu
    have hh : X.A.in1.handled = none := I.ok.hd hc
    have hef : e ∉ [it, a] := by simp [hei, hea]
    have G := GoesN.enumFrom (elts := elts) (x1 := kk) (pos := tpos) (prog := X.prog) (w := X.w) (A := X.A) 0 (Draws.tuple hh it a ha its.toArray) e hei hef (by simp)
    have hlt1 : i < its.toArray.size := (Array.getElem?_eq_some_iff.mp hu').1
    refine G.goes i s (fun v s2 => ∃ x H', Inv X pins σ H' s2 ∧ RelV x v ∧ (IteT X.K a n).yld i H x H' ∧ (i + 1 ≤ n ∧ (∃ old, IsEnum s2.heap e it ((0 : Int) + ((i + 1 : Nat) : Int)) old) ∧ s2.heap.IsTupleIter it a (i + 1)) ∧ ∀ b ∈ [e, it], H' b = none) E hlt1 ⟨⟨old, he⟩, h1, p⟩ fun v h' tk hY hS hk htk => ?_
    obtain ⟨T, t, x', ev, hnew, hx', hT⟩ := hY
    obtain ⟨⟨old', he'⟩, h1', _⟩ := hS
    subst ev
    rw [hu'] at hx'
    cases hx'
    rw [Int.zero_add] at hT
    have new : ObjOk X.prog X.w (upd H T (.tup [.int (i : Nat), x])) h' T (.tup [.int (i : Nat), x]) :=
      ⟨by show 2 ≤ sizeLine; decide, [.int (i : Nat) t, u], .cons ⟨_, rfl⟩ (.cons ru .nil), hT⟩
    have I1 : Inv X pins σ (upd H T (.tup [.int (i : Nat), x])) { s with heap := h', toks := tk } :=
      I.turnedNew (ch := [e, it]) hk hf hnew new
    refine ⟨.ref T, _, I1, rfl, ⟨T, x, rfl, I.hok.fresh hnew, rfl, fun l hl => by rw [I.tuple_inj hl hqx]; exact hx⟩, ⟨hlt, ⟨old', he'⟩, h1'⟩, fun c hcm => ?_⟩
    have hlt : c < s.heap.objs.size := by
      have e' : c = e ∨ c = it := by simpa using hcm
      rcases e' with q | q
      · rw [q]; exact Heap.lt_size he
      · rw [q]; obtain ⟨_, e1, _⟩ := h1; exact Heap.lt_size e1
    rw [upd_ne (Nat.ne_of_lt (Nat.lt_of_lt_of_le hlt hnew))]
    exact (hf c hcm).1
  done := by
    intro X hP hw hK hc i pins s σ H E I hf st hg
    subst hP hw hK
    obtain ⟨hin, ⟨old, he⟩, h1⟩ := st
    obtain ⟨hni, xs, hqx, hend⟩ := hg
    obtain ⟨its, rv, p, _⟩ := I.tuple hqx
    have l1 := rv.length
    have hh : X.A.in1.handled = none := I.ok.hd hc
    have hi : i = its.toArray.size := by
      simp only [List.size_toArray]
      omega
    have hef : e ∉ [it, a] := by simp [hei, hea]
    have G := GoesN.enumFrom (elts := elts) (x1 := kk) (pos := tpos) (prog := X.prog) (w := X.w) (A := X.A) 0 (Draws.tuple hh it a ha its.toArray) e hei hef (by simp)
    refine G.stops s (fun s1 => Inv X pins σ H s1) E ?_ fun h' tk hk htk => I.turnedL (ch := [e, it]) hk hf
    rw [← hi]
    exact ⟨⟨old, he⟩, h1, p⟩
  self := fun A i s Q E st h => let ⟨_, ⟨_, he⟩, _⟩ := st; wpAny_pyIter_enum he h
def iEnumT (K : PySem.W.Frag) (ta : TA) : TI := fun σ H R => ta σ H fun vs H1 => ∃ a xs, vs = [.ref a] ∧ SqT K H1 a xs ∧ R (IteT K a xs.length) H1
theorem pi_enumT {X : Cx} {e : Expr} {ta : TA} {p pos tpos : Pos} {elts : List Expr} {kk : Nat} (hg : Gl X "enumerate") (hm : X.mg "enumerate" = none) (ha : PA X [e] ta) (hs : starEach [e] X.env = [(false, eval e X.env)] := by rfl) :
    PI X (.Tuple elts kk tpos) (.Call (.Name "enumerate" p) [e] [] pos) (iEnumT X.K ta) := by
  refine ⟨fun pins s σ H R I h => ?_⟩
  refine Call_ (ld_blt I hg hm boot_enumerate (PyProof.Rows.callWith_type1 (thn (ha.run pos pins s σ H _ I h) fun us s1 ⟨vs, H1, I1, r1, q1⟩ => ?_) hs rfl))
  obtain ⟨a, xs, ex, hq, q⟩ := q1
  subst ex
  cases r1 with
  | cons r rr =>
    cases rr
    cases r
    obtain ⟨its, rv, p', hz⟩ := I1.tuple hq
    obtain ⟨o1, ho1, _⟩ := id p'
    have la : a < s1.heap.objs.size := Heap.lt_size ho1
    refine enum_one (begins_tuple a its.toArray) p' fun h' he hit hsz hk => wpAny_pyIter_enum he ?_
    have I2 : Inv X pins σ H1 { s1 with heap := h' } := I1.kept (t' := s1.toks) hk
    refine ⟨s1.heap.objs.size + 1, [s1.heap.objs.size + 1, s1.heap.objs.size], _, _, H1, rfl, I2, turn_enumT (Nat.ne_of_lt la) (Nat.ne_of_gt (Nat.lt_succ_of_lt la)) (Nat.succ_ne_self _), ⟨Nat.zero_le _, ⟨.none, he⟩, ⟨_, hit, rfl, rfl⟩⟩, fun b hb => ?_, q⟩
    have e' : b = s1.heap.objs.size + 1 ∨ b = s1.heap.objs.size := by simpa using hb
    have hle : s1.heap.objs.size ≤ b := by
      rcases e' with z | z
      · rw [z]; exact Nat.le_add_right _ _
      · rw [z]; exact Nat.le_refl _
    exact I1.fpOk hle (I1.hok.fresh hle)
theorem itOk_enumT {G : Gx} {A : Addr → Prop} {ρ : List Addr} {H : Hp} {a : Addr} {vs : List V} {ds : List D} (q1 : SqT G.K H a vs) (r1 : VRs G A ρ H vs ds) : ItOk G A ρ H (IteT G.K a vs.length) (.st (numb 0 ds)) := fun B ρ2 H2 lh2 i hB s S => by
  have k1 := sqT_stp s q1
  have n1 := (r1.bar hB).stp s
  have l1 := n1.length
  refine ⟨fun d hd => ?_, fun hd => ?_⟩
  · have hd' : (ds[i]?).map (fun d => D.tup [.int ((0 + i : Nat) : Int), d]) = some d := by
      rw [← numb_get]
      simpa [Wk.gt] using hd
    cases e : ds[i]? with
    | none => rw [e] at hd'; cases hd'
    | some z =>
      rw [e] at hd'
      cases hd'
      obtain ⟨v, h1, h2⟩ := n1.get e
      have hi : i < vs.length := (List.getElem?_eq_some_iff.mp h1).1
      refine ⟨⟨hi, vs, v, k1, h1⟩, fun x H3 ⟨T, y, ex, hT, eH, hy⟩ => ?_⟩
      subst ex eH
      have := hy vs k1
      rw [h1] at this
      cases this
      refine ⟨stp_new hT, S.new hT, .tup (SqT.of upd_same) (.cons ?_ (.cons (h2.stp (stp_new hT)) .nil))⟩
      rw [Nat.zero_add]
      exact .int _
  · have hd' : (numb 0 ds).length ≤ i := by simpa [Wk.gt] using hd
    rw [numb_length] at hd'
    exact ⟨by omega, vs, k1, rfl⟩
def iEnuT (m : EM) : IM := fun τ lh => (m τ lh).bind fun d lh => match d with
  | .tup xs => .ok (.st (numb 0 xs)) lh
  | _ => .stuck
section
variable {X : Cx} {W : WX} {e : Expr} {m : EM} {pos p : Pos}
theorem ei_enuT {elts : List Expr} {kk : Nat} {tpos : Pos} (h : EE X W e m) (hm : X.mg "enumerate" = none) (hg : Gl X "enumerate" := by rfl) (hs : starEach [e] X.env = [(false, eval e X.env)] := by rfl) : EI X W (.Tuple elts kk tpos) (.Call (.Name "enumerate" p) [e] [] pos) (iEnuT m) :=
  piImp (pi_enumT hg hm (pa_cons h pa_nil hs) hs) fun σ H R ⟨A, ρ, τ, lh, er, S, pr⟩ => ⟨A, ρ, τ, lh, er, S, PRg.thn pr fun d lh1 ρ1 H1 x s1 S1 r1 pr1 => by
    split at pr1
    · rename_i xs
      cases r1 with
      | @tup a vs _ q k => exact ⟨a, vs, rfl, q, pr1 ρ1 H1 _ (Stp.refl _ _) S1 (itOk_enumT q k)⟩
    · exact pr1.elim⟩
end
@[simp] theorem z_enuT {τ : Tau} {lh : LH} {m : EM} : iEnuT m τ lh = (m τ lh).bind fun d lh => (match d with
  | .tup xs => .ok (.st (numb 0 xs)) lh
  | _ => .stuck) := rfl
end Tb

/-! Calls whose arguments may be lists of ours and whose result is told by value: by value where the arguments are values, else on our heap, what is new told by value. -/
namespace Tb
open PySem PySem.Spec PyProof.Rows L2
/-- the first k objects stay places, the others are told by value -/
def frzK (k : Nat) (lh : LH) : Nat → D → Option D
  | 0, _ => none
  | n + 1, d => match d with
    | .non => some .non
    | .bl b => some (.bl b)
    | .int i => some (.int i)
    | .str s => some (.str s)
    | .tup ds => (match mapO (frzK k lh n) ds with
      | some ks => some (.tup ks)
      | none => none)
    | .lst ds => (match mapO (frzK k lh n) ds with
      | some ks => some (.lst ks)
      | none => none)
    | .scr ds => (match mapO (frzK k lh n) ds with
      | some ks => some (.scr ks)
      | none => none)
    | .dic ks us => (match mapO (frzK k lh n) us with
      | some us => some (.dic ks us)
      | none => none)
    | .loc a => if a < k then some (.loc a) else (match lh[a]? with
      | some (.lst ds) => (match mapO (frzK k lh n) ds with
        | some ks => some (.lst ks)
        | none => none)
      | some (.dic ks us) => (match mapO (frzK k lh n) us with
        | some us => some (.dic ks us)
        | none => none)
      | _ => none)
def frzKF (k : Nat) (lh : LH) : List (Str × D) → Option (List (Str × D))
  | [] => some []
  | (f, d) :: fs => match frzK k lh fuel d, frzKF k lh fs with
    | some d', some fs' => some ((f, d') :: fs')
    | _, _ => none
def frzKO (k : Nat) (lh : LH) : LO → Option LO
  | .lst ds => (match mapO (frzK k lh fuel) ds with
    | some ks => some (.lst ks)
    | none => none)
  | .dic ks us => (match mapO (frzK k lh fuel) us with
    | some us => some (.dic ks us)
    | none => none)
  | .ins c fs => (match frzKF k lh fs with
    | some fs => some (.ins c fs)
    | none => none)
def callF (f : FM) (ds : List D) (lh : LH) : Res D := match f ds lh with
  | .ok d lh' => (match frzK lh.length lh' fuel d, mapO (frzKO lh.length lh') (lh'.take lh.length) with
    | some d', some l2 => .ok d' l2
    | _, _ => .stuck)
  | .exc c lh' => (match mapO (frzKO lh.length lh') (lh'.take lh.length) with
    | some l2 => .exc c l2
    | none => .stuck)
  | .stuck => .stuck
def callQ (f : FM) (ds : List D) (lh : LH) : Res D := match mapO (frz [] fuel) ds with
  | some _ => callP f ds lh
  | none => callF f ds lh
def eCallQ (n : Nat) (f : FM) (m : AM) : EM := fun τ lh => (m τ lh).bind fun ds lh => if ds.length = n then callQ f ds lh else .stuck
section
variable {G : Gx} {A : Addr → Prop} {ρ r : List Addr} {H H' : Hp} {lh lh' : LH}
theorem frzK_gen (S : SR G A (ρ ++ r) H lh) (h2 : ∀ a, a ∈ r → ¬ A a ∧ a ∉ ρ) : ∀ (n : Nat) {v : V} {d d' : D}, VR G A (ρ ++ r) H v d → frzK ρ.length lh n d = some d' → VR G A ρ H v d' := by
  intro n
  induction n with
  | zero => intro v d d' _ h; cases h
  | succ n ih =>
    have all : ∀ {ds : List D} {vs : List V} {ks : List D}, VRs G A (ρ ++ r) H vs ds → mapO (frzK ρ.length lh n) ds = some ks → VRs G A ρ H vs ks := by
      intro ds
      induction ds with
      | nil => intro vs ks r h; cases r; cases h; exact .nil
      | cons d ds ih2 =>
        intro vs ks r h
        cases r with
        | cons r1 r2 =>
          obtain ⟨y, ys, e1, e2, rfl⟩ := mapO_cons h
          exact .cons (ih r1 e1) (ih2 r2 e2)
    have dr : ∀ {us : List D} {xs : List DEnt} {ks us' : List D}, DR G A (ρ ++ r) H xs ks us → mapO (frzK ρ.length lh n) us = some us' → DR G A ρ H xs ks us' := by
      intro us
      induction us with
      | nil => intro xs ks us' r h; cases r; cases h; exact .nil
      | cons d ds ih2 =>
        intro xs ks us' r h
        cases r with
        | cons e r1 rv r2 t =>
          obtain ⟨y, ys, e1, e2, rfl⟩ := mapO_cons h
          exact .cons e (key_free 8 e r1) rv (ih r2 e1) (ih2 t e2)
    have nin : ∀ {a : Addr}, a ∉ ρ ++ r → a ∉ ρ := fun h z => h (List.mem_append_left _ z)
    intro v d d' q h
    cases q with
    | non => cases h; exact .non
    | bl b => cases h; exact .bl b
    | int i => cases h; exact .int i
    | str s => cases h; exact .str s
    | @tup a vs ds q r =>
      simp only [frzK] at h
      cases e : mapO (frzK ρ.length lh n) ds with
      | none => rw [e] at h; cases h
      | some ks => rw [e] at h; cases h; exact .tup q (all r e)
    | @lst a vs ds q nA nρ r =>
      simp only [frzK] at h
      cases e : mapO (frzK ρ.length lh n) ds with
      | none => rw [e] at h; cases h
      | some ks => rw [e] at h; cases h; exact .lst q nA (nin nρ) (all r e)
    | @scr a vs ds q r =>
      simp only [frzK] at h
      cases e : mapO (frzK ρ.length lh n) ds with
      | none => rw [e] at h; cases h
      | some ks =>
        rw [e] at h
        cases h
        refine .scr ?_ (all r e)
        rcases q with ⟨q, q1, q2⟩ | q | q
        · exact .inl ⟨q, q1, nin q2⟩
        · exact .inr (.inl q)
        · exact .inr (.inr q)
    | @dic a xs ks us q nA nρ r =>
      simp only [frzK] at h
      cases e : mapO (frzK ρ.length lh n) us with
      | none => rw [e] at h; cases h
      | some ks => rw [e] at h; cases h; exact .dic q nA (nin nρ) (dr r e)
    | @loc m a q =>
      simp only [frzK] at h
      by_cases hm : m < ρ.length
      · rw [if_pos hm] at h
        cases h
        rw [List.getElem?_append_left hm] at q
        exact .loc q
      · rw [if_neg hm] at h
        have k2 := fun o e0 => S.at_ m a o q e0
        rw [List.getElem?_append_right (by omega)] at q
        have har : a ∈ r := List.mem_of_getElem? q
        have h2 := h2 a har
        cases e0 : lh[m]? with
        | none => rw [e0] at h; cases h
        | some o =>
          have k2 := k2 o e0
          rw [e0] at h
          cases o with
          | lst ds =>
            obtain ⟨vs, k3, k4⟩ := k2
            cases e : mapO (frzK ρ.length lh n) ds with
            | none => simp only [e] at h; cases h
            | some ks => simp only [e] at h; cases h; exact .lst k3 h2.1 h2.2 (all k4 e)
          | dic ks us =>
            obtain ⟨xs, k3, k4⟩ := k2
            cases e : mapO (frzK ρ.length lh n) us with
            | none => simp only [e] at h; cases h
            | some us' => simp only [e] at h; cases h; exact .dic k3 h2.1 h2.2 (dr k4 e)
          | ins _ _ => cases h
theorem frzKF_gen (S : SR G A (ρ ++ r) H lh) (h2 : ∀ a, a ∈ r → ¬ A a ∧ a ∉ ρ) : ∀ {gs : List (Str × V)} {fs fs' : List (Str × D)}, FR G A (ρ ++ r) H gs fs → frzKF ρ.length lh fs = some fs' → FR G A ρ H gs fs'
  | _, _, _, .nil, h => by cases h; exact .nil
  | _, _, fs', @FR.cons _ _ _ _ f v d gs fs q t, h => by
    unfold frzKF at h
    cases e1 : frzK ρ.length lh fuel d with
    | none => rw [e1] at h; cases h
    | some d' =>
      cases e2 : frzKF ρ.length lh fs with
      | none => rw [e1, e2] at h; cases h
      | some fs2 =>
        rw [e1, e2] at h
        cases h
        exact .cons (frzK_gen S h2 fuel q e1) (frzKF_gen S h2 t e2)
theorem frzKO_gen (S : SR G A (ρ ++ r) H lh) (h2 : ∀ a, a ∈ r → ¬ A a ∧ a ∉ ρ) {a : Addr} {o o' : LO} (q : OR G A (ρ ++ r) H a o) (h : frzKO ρ.length lh o = some o') : OR G A ρ H a o' := by
  cases o with
  | lst ds =>
    obtain ⟨vs, h3, h4⟩ := q
    simp only [frzKO] at h
    cases e : mapO (frzK ρ.length lh fuel) ds with
    | none => rw [e] at h; cases h
    | some ks => rw [e] at h; cases h; exact ⟨vs, h3, all_gen (fun r e => frzK_gen S h2 fuel r e) h4 e⟩
  | dic ks us =>
    obtain ⟨xs, h3, h4⟩ := q
    simp only [frzKO] at h
    cases e : mapO (frzK ρ.length lh fuel) us with
    | none => rw [e] at h; cases h
    | some us' =>
      rw [e] at h
      cases h
      refine ⟨xs, h3, ?_⟩
      clear h3
      induction us generalizing xs ks us' with
      | nil => cases h4; cases e; exact .nil
      | cons d ds ih =>
        cases h4 with
        | cons t1 r1 rv r2 t =>
          obtain ⟨y, ys, e1, e2, rfl⟩ := mapO_cons e
          exact .cons t1 (key_free 8 t1 r1) rv (frzK_gen S h2 fuel r2 e1) (ih _ _ t _ e2)
  | ins c fs =>
    obtain ⟨dx, gs, h3, h4⟩ := q
    simp only [frzKO] at h
    cases e : frzKF ρ.length lh fs with
    | none => rw [e] at h; cases h
    | some fs' => rw [e] at h; cases h; exact ⟨dx, gs, h3, frzKF_gen S h2 h4 e⟩
/-- the first objects alone -/
theorem SR.firsts {k : Nat} {l2 : LH} (S : SR G A (ρ ++ r) H lh) (h2 : ∀ a, a ∈ r → ¬ A a ∧ a ∉ ρ) (hk : ρ.length = k) (h : mapO (frzKO k lh) (lh.take k) = some l2) : SR G A ρ H l2 := by
  subst hk
  obtain ⟨q1, q2⟩ := mapO_at h
  have hl := S.len
  rw [List.length_append] at hl
  refine ⟨?_, (List.nodup_append.mp S.nd).1, S.av, fun n o e => ?_, S.tab⟩
  · rw [← q1, List.length_take]
    omega
  · obtain ⟨o1, k1, k3⟩ := q2 n o e
    have hn : n < ρ.length := by
      have := (List.getElem?_eq_some_iff.mp k1).1
      rw [List.length_take] at this
      omega
    rw [List.getElem?_take_of_lt hn] at k1
    obtain ⟨a, h1, h3⟩ := S.obj n o1 k1
    rw [List.getElem?_append_left hn] at h1
    exact ⟨a, h1, frzKO_gen S h2 h3 k3⟩
theorem Stp.back_ {ρ' : List Addr} (s : Stp ρ H ρ' H') : Stp ρ H ρ H' := by
  obtain ⟨r, e, hn⟩ := s.pre
  refine ⟨⟨[], by simp, fun _ z => absurd z (by simp)⟩, fun a o h k n => s.frm a o h k n, s.tup, s.frz, s.trk⟩
theorem callF_rel {f : FM} {vs : List V} {ds : List D} {V' : Str → Hp → Prop} {Q : VK} (S : SR G A ρ H lh) (h : PRg G A ρ H (VR G A) (callF f ds lh) V' Q) : PRg G A ρ H (VR G A) (f ds lh) V' Q := by
  unfold callF at h
  have hl : ρ.length = lh.length := S.len
  have fr : ∀ {ρ' : List Addr} {H' : Hp}, Stp ρ H ρ' H' → ∃ r, ρ' = ρ ++ r ∧ ∀ a, a ∈ r → ¬ A a ∧ a ∉ ρ := fun s => by
    obtain ⟨r, e, hn⟩ := s.pre
    exact ⟨r, e, fun a ha => ⟨S.notAF (hn a ha), S.freshF (hn a ha)⟩⟩
  cases e : f ds lh with
  | stuck => rw [e] at h; exact h.elim
  | exc c lh1 =>
    rw [e] at h
    simp only at h
    cases e2 : mapO (frzKO lh.length lh1) (lh1.take lh.length) with
    | none => rw [e2] at h; exact h.elim
    | some l2 =>
      rw [e2] at h
      intro ρ' H' s S'
      obtain ⟨r, rfl, hr⟩ := fr s
      exact h ρ H' s.back_ (S'.firsts hr hl e2)
  | ok d lh1 =>
    rw [e] at h
    simp only at h
    cases e1 : frzK lh.length lh1 fuel d with
    | none => rw [e1] at h; exact h.elim
    | some d' =>
      cases e2 : mapO (frzKO lh.length lh1) (lh1.take lh.length) with
      | none => rw [e1, e2] at h; exact h.elim
      | some l2 =>
        rw [e1, e2] at h
        intro ρ' H' v s S' rv
        obtain ⟨r, rfl, hr⟩ := fr s
        rw [← hl] at e1
        exact h ρ H' v s.back_ (S'.firsts hr hl e2) (frzK_gen S' hr fuel rv e1)
theorem callQ_rel {f : FM} {vs : List V} {ds : List D} {V' : Str → Hp → Prop} {Q : VK} (S : SR G A ρ H lh) (q : VRs G A ρ H vs ds) (h : PRg G A ρ H (VR G A) (callQ f ds lh) V' Q) :
    ∃ A' ρ' lh' ds', VRs G A' ρ' H vs ds' ∧ SR G A' ρ' H lh' ∧ PRg G A' ρ' H (VR G A') (f ds' lh') V' Q := by
  unfold callQ at h
  cases e : mapO (frz [] fuel) ds with
  | some ds' =>
    rw [e] at h
    exact callP_rel S q h
  | none =>
    rw [e] at h
    exact ⟨A, ρ, lh, ds, q, S, callF_rel (vs := vs) S h⟩
end
section
variable {X : Cx} {W : WX} {k n : Nat} {f : Addr} {fd : FuncData} {ps : List Str} {x : Str} {p pos : Pos} {e : Expr} {es : List Expr} {ma : AM} {fm : FM}
theorem ec_callQ (tk : Takes X W) (F : FOk X.prog X.w X.K X.mg X.base k f n fm) (hr : Room k X.A) (hm : X.mg x = some (.ref f)) (hk : PySem.W.keepIn X.K (.ref f) = true) (ha : EA X W (e :: es) ma) (hg : Gl X x := by rfl)
    (hdb : (x == ("__debug__" : Str)) = false := by decide) (he : starEach (e :: es) X.env = (false, eval e X.env) :: starEach es X.env := by rfl) (hpl : (backTo pos (starEach es X.env)).any (·.1) = false := by rfl) : EE X W (.Call (.Name x p) (e :: es) [] pos) (eCallQ n fm ma) := by
  obtain ⟨fd, ps, F, hb⟩ := F
  refine peImp (pe_callS (E := WE W) F hr hg hm hk hb (fun σ => passAt tk σ) ha hdb he hpl) fun σ H Q ⟨A, ρ, τ, lh, er, S, pr⟩ => ⟨A, ρ, τ, lh, er, S, PRg.thn pr fun ds lh1 ρ1 H1 xs s1 S1 r1 pr1 => ?_⟩
  by_cases hn : ds.length = n
  · rw [if_pos hn] at pr1
    obtain ⟨A', ρ', lh', ds', r', S', pr'⟩ := callQ_rel S1 r1 pr1
    exact ⟨by rw [r1.length]; exact hn, A', ρ', lh', ds', r', S', pr'⟩
  · rw [if_neg hn] at pr1
    exact pr1.elim
theorem ec_callQG (tk : Takes X W) (hG : X.A.guards = some []) (F : FOkG X.prog X.w X.K X.mg X.base k f n fm) (hr : Room k X.A) (hm : X.mg x = some (.ref f)) (hk : PySem.W.keepIn X.K (.ref f) = true) (ha : EA X W (e :: es) ma) (hg : Gl X x := by rfl)
    (hdb : (x == ("__debug__" : Str)) = false := by decide) (he : starEach (e :: es) X.env = (false, eval e X.env) :: starEach es X.env := by rfl) (hpl : (backTo pos (starEach es X.env)).any (·.1) = false := by rfl) : EE X W (.Call (.Name x p) (e :: es) [] pos) (eCallQ n fm ma) := by
  obtain ⟨fd, ps, F, hb⟩ := F
  refine peImp (pe_callG (E := WE W) F hG hr hg hm hk hb (fun σ => passAt tk σ) ha hdb he hpl) fun σ H Q ⟨A, ρ, τ, lh, er, S, pr⟩ => ⟨A, ρ, τ, lh, er, S, PRg.thn pr fun ds lh1 ρ1 H1 xs s1 S1 r1 pr1 => ?_⟩
  by_cases hn : ds.length = n
  · rw [if_pos hn] at pr1
    obtain ⟨A', ρ', lh', ds', r', S', pr'⟩ := callQ_rel S1 r1 pr1
    exact ⟨by rw [r1.length]; exact hn, A', ρ', lh', ds', r', S', pr'⟩
  · rw [if_neg hn] at pr1
    exact pr1.elim
end
@[simp] theorem z_callQ {τ : Tau} {lh : LH} {n : Nat} {f : FM} {r : AM} : eCallQ n f r τ lh = (r τ lh).bind fun ds lh => if ds.length = n then callQ f ds lh else .stuck := rfl
theorem callQ_v {f : FM} {ds ds' : List D} {lh : LH} (h : mapO (frz [] fuel) ds = some ds') : callQ f ds lh = callP f ds lh := by
  unfold callQ
  rw [h]
end Tb

/-! dict(d): a copy of a dict whose keys are tuples of whole numbers, no two of equal hash. -/
namespace PySem
section
variable {prog : Program} {w : World} {K : Type} [DecidableEq K] {knd : HeapKind prog w K} {A : Around} {E : Value → Shared → Prop} {s : Shared}
theorem call_dictH {o : Addr} {more : List (K × Addr × Value)} {Q : Value → Shared → Prop} (hu : knd.room A.in1.in1) (hoS : (o == sysModules) = false) (ho : s.heap.DictOfH knd o more) (hpush : ∀ ob : Obj, (s.heap.push ob).DictOfH knd o more) (hsz : more.length ≤ sizeLine)
    (hap : ∀ ob : Obj, (∀ x ∈ more, ({ s with heap := s.heap.push ob } : Shared).TypeIs (.ref x.2.1) "tuple") ∧ (more.map fun x => knd.hash x.1).Nodup)
    (h : ∀ h', h'.DictOfH knd s.heap.objs.size more → Heap.SameBut s.heap.objs.size (s.heap.push { cls := .type "dict", data := .dict #[] }) h' → Q (.ref s.heap.objs.size) { s with heap := h' }) :
    wpAny (model prog w) A (call (.type "dict") [.ref o]) Q E s := by
  refine callType_codes (Q₁ := fun obj s₁ => obj = .ref s.heap.objs.size ∧ s₁ = { s with heap := s.heap.push { cls := .type "dict", data := .dict #[] } }) F.kt_called_dict (F.kt_typeCall_dict_1 _) F.entry_dict_init (kt_code_dict_new _ ⟨rfl, rfl⟩) ?_
  rintro obj s₁ ⟨rfl, rfl⟩
  have hnew : (s.heap.push { cls := .type "dict", data := .dict #[] }).DictOfH knd s.heap.objs.size [] := ⟨_, #[], 0, Heap.get?_push_size _ rfl, ⟨rfl, rfl, rfl⟩, rfl, rfl, fun x hx => absurd hx (by simp), List.nodup_nil⟩
  have ho' := hpush { cls := .type "dict", data := .dict #[] }
  have hn : (more.map (·.1)).Nodup := ho.nodup
  have hdo : s.heap.objs.size ≠ o := by
    obtain ⟨_, _, _, hg, _⟩ := ho
    exact fun e => absurd (Heap.lt_size hg) (by rw [e]; exact Nat.lt_irrefl _)
  refine ⟨hnew.typeIs, F.args_dict_init_2 _ _, ?_⟩
  unfold Builtin.«dict.__init__»
  refine wpAny_bind ?_
  unfold Builtin.Dict.selfAndRest
  refine wpAny_bind (wpAny_notOrdered_dict hnew.typeIs ?_)
  show wpAny _ _ (pure (s.heap.objs.size, [Value.ref o])) _ _ _
  refine wpAny_pure ?_
  show wpAny _ _ (Builtin.Dict.updateFrom "dict.__init__" s.heap.objs.size (.ref o) [] .none) _ _ _
  unfold Builtin.Dict.updateFrom
  refine wpAny_bind (wpAny_typeOf ho'.typeIs ?_)
  rw [if_neg (by decide)]
  refine wpAny_bind ?_
  unfold Builtin.Dict.merge
  refine wpAny_bind ?_
  unfold Builtin.Dict.readDirectly
  refine wpAny_bind (wpAny_isInstance ho'.typeIs isSubtype_dict_dict ?_)
  simp only [Bool.not_true, Bool.false_eq_true, if_false]
  refine wpAny_bind (wpAny_specialOf ho'.typeIs F.slot_dict_iter.lookup (wpAny_pure ?_))
  simp only [beq_self_eq_true, if_true]
  refine wpAny_bind (wpAny_pure ?_)
  refine wpAny_mergeDict_heap (hsz := by simpa using hsz) hu hdo hoS hnew ho' (.inr (hap _)) fun h' hd' _ hs' => ?_
  show wpAny _ _ (Builtin.Dict.addKeywords s.heap.objs.size [] >>= _) _ _ _
  rw [storedAllH_nil_of_nodup more hn] at hd'
  exact wpAny_bind (wpAny_pure (wpAny_pure ⟨rfl, h h' hd' hs'⟩))
end
end PySem
namespace Tb
open PySem PySem.Spec PyProof.Rows L2
mutual
/-- the hash of a key of whole numbers -/
def nHash : NestedKey → Option Int
  | .num i => some (hashInt i)
  | .tup ks => (match nHashes ks with
    | some hs => some (reduceHash (Builtin.Tuple.tupleHashOf hs))
    | none => none)
  | _ => none
def nHashes : List NestedKey → Option (List Int)
  | [] => some []
  | k :: ks => (match nHash k, nHashes ks with
    | some i, some is => some (i :: is)
    | _, _ => none)
end
mutual
theorem nHash_eq (w : World) : ∀ (k : NestedKey) (i : Int), nHash k = some i → NestedKey.hash w k = i
  | .num j, i, h => by
    simp only [nHash, Option.some.injEq] at h
    simp only [NestedKey.hash]
    exact h
  | .none, i, h => by simp [nHash] at h
  | .text x, i, h => by simp [nHash] at h
  | .tup ks, i, h => by
    simp only [nHash] at h
    simp only [NestedKey.hash]
    cases q : nHashes ks with
    | none => rw [q] at h; cases h
    | some hs =>
      rw [q] at h
      rw [nHashes_eq w ks hs q]
      injection h
theorem nHashes_eq (w : World) : ∀ (ks : List NestedKey) (is : List Int), nHashes ks = some is → NestedKey.hashes w ks = is
  | [], is, h => by
    simp only [nHashes, Option.some.injEq] at h
    simp only [NestedKey.hashes]
    exact h
  | k :: ks, is, h => by
    simp only [nHashes] at h
    simp only [NestedKey.hashes]
    cases q1 : nHash k with
    | none => rw [q1] at h; cases h
    | some i =>
      cases q2 : nHashes ks with
      | none => rw [q1, q2] at h; cases h
      | some js =>
        rw [q1, q2] at h
        rw [nHash_eq w k i q1, nHashes_eq w ks js q2]
        injection h
end
def keyHash (d : D) : Option Int := match d with
  | .tup _ => (match toKey 8 d with
    | some k => nHash k
    | none => none)
  | _ => none
def okCp (ks : List D) : Bool := match mapO keyHash ks with
  | some hs => decide hs.Nodup
  | none => false
def eDcp (m : AM) : EM := fun τ lh => (m τ lh).bind fun ds lh => match ds with
  | [d] => (match asDic lh d with
    | some (ks, us) => if okCp ks = true then .ok (.loc lh.length) (lh ++ [.dic ks us]) else .stuck
    | none => .stuck)
  | _ => .stuck
section
variable {G : Gx} {A : Addr → Prop} {ρ : List Addr} {H : Hp}
theorem dr_hash (w : World) : ∀ {xs : List DEnt} {ks us : List D} {hs : List Int}, DR G A ρ H xs ks us → mapO keyHash ks = some hs → xs.map (fun x => NestedKey.hash w x.1) = hs
  | _, _, _, _, .nil, h => by cases h; rfl
  | _, _, _, _, .cons (nk := nk) (ad := ad) (u := u) (v := v) (k := q) (d := d) (xs := xs) (ks := ks) (us := us) e r1 rv r2 t, h => by
    obtain ⟨y, ys, e1, e2, rfl⟩ := mapO_cons h
    rw [List.map_cons, dr_hash w t e2]
    unfold keyHash at e1
    split at e1
    · rw [e] at e1
      simp only at e1
      rw [nHash_eq w nk y e1]
    · cases e1
theorem dr_tup {X : Cx} {pins : List (Addr × Obj)} {σ : L2.St} {s : Shared} (I : L2.Inv X pins σ H s) : ∀ {xs : List DEnt} {ks us : List D} {hs : List Int}, DR (gx X) A ρ H xs ks us → mapO keyHash ks = some hs → ∀ x ∈ xs, ∃ o, s.heap.get? x.2.1 = some o ∧ o.cls = .type "tuple"
  | _, _, _, _, .nil, _ => fun x hx => absurd hx (by simp)
  | _, _, _, _, .cons (nk := nk) (ad := ad) (u := u) (v := v) (k := q) (d := d) (xs := xs) (ks := ks) (us := us) e r1 rv r2 t, h => fun x hx => by
    obtain ⟨y, ys, e1, e2, rfl⟩ := mapO_cons h
    rcases List.mem_cons.mp hx with rfl | hx
    · unfold keyHash at e1
      split at e1
      · cases r1 with
        | @tup a vs _ hq rs =>
          obtain ⟨its, rv, p, _⟩ := I.tuple hq
          obtain ⟨o, ho, hc, _⟩ := p
          exact ⟨o, ho, hc⟩
      · cases e1
    · exact dr_tup I t e2 x hx
end
section
variable {X : Cx} {W : WX} {e : Expr} {ma : AM} {pos p : Pos}
def rDcp (X : Cx) : List V → Hp → VK → Prop := fun vs H Q => ∃ A ρ lh d ks us, SR (gx X) A ρ H lh ∧ VRs (gx X) A ρ H vs [d] ∧ asDic lh d = some (ks, us) ∧ okCp ks = true ∧ ∀ ρ' H' x, Stp ρ H ρ' H' → SR (gx X) A ρ' H' (lh ++ [.dic ks us]) → VR (gx X) A ρ' H' x (.loc lh.length) → Q x H'
theorem call_dcp (hu : X.A.units + 200 < cLine) : CallR X (.type "dict") (rDcp X) := by
  intro pins s σ H xs us Q I rv ⟨A, ρ, lh, d, ks, us', S, r, hd, hc, h⟩
  obtain ⟨v, rfl, r1⟩ := r.one
  obtain ⟨u, rfl, ru⟩ : ∃ u, us = [u] ∧ RelV v u := by
    cases rv with
    | cons r0 rr => cases rr; exact ⟨_, rfl, r0⟩
  obtain ⟨a, ens, rfl, ha, dr⟩ := asDic_rel S r1 hd
  obtain rfl : u = Value.ref a := ru
  obtain ⟨d1, d2, d3⟩ := dicP_of I ha dr
  unfold okCp at hc
  cases q : mapO keyHash ks with
  | none => rw [q] at hc; cases hc
  | some hs =>
    rw [q] at hc
    have hnd : hs.Nodup := of_decide_eq_true hc
    have hh := dr_hash X.w dr q
    have htp := dr_tup I dr q
    have hn : H s.heap.objs.size = none := I.hok.fresh (Nat.le_refl _)
    have e : ρ.length = lh.length := S.len
    have big : sysModules < s.heap.objs.size := I.big
    refine call_dictH (knd := nestedKind X.prog X.w) (by show X.A.units + 1 + 1 + 8 < cLine; omega) d2 d1 (fun ob => ?_) d3 (fun ob => ⟨fun x hx => ?_, ?_⟩) fun h' hd' hs' => ?_
    · obtain ⟨o, es, ep, h1, h2, h3, h4, h5, h6⟩ := d1
      have I' : L2.Inv X pins σ H { s with heap := s.heap.push ob } := I.kept (t' := s.toks) fun b o q => Heap.get?_push_of_some _ q
      exact ⟨o, es, ep, Heap.get?_push_of_some _ h1, h2, h3, h4, dr_keys I' dr, h6⟩
    · obtain ⟨o, ho, hc⟩ := htp x hx
      exact ⟨o, Heap.get?_push_of_some _ ho, hc⟩
    · show (ens.map fun x => NestedKey.hash X.w x.1).Nodup
      rw [hh]
      exact hnd
    · obtain ⟨o, es, ep, h1, h2, h3, h4, h5, h6⟩ := hd'
      have I' : L2.Inv X pins σ (upd H s.heap.objs.size (.ext (DicP X.prog X.w s.heap.objs.size ens))) { s with heap := h' } :=
        I.laid (a := s.heap.objs.size) (o := .ext (DicP X.prog X.w s.heap.objs.size ens)) (t' := s.toks) (fun b q hq => (hs'.2 b (Nat.ne_of_lt (Heap.lt_size hq))).trans (Heap.get?_push_of_some _ hq)) (Nat.le_refl _) (dicP_ok ⟨o, es, ep, h1, h2, h3, h4, h6, beq_eq_false_iff_ne.mpr (Ne.symm (Nat.ne_of_lt big)), d3⟩)
      refine ⟨.ref s.heap.objs.size, _, I', rfl, ?_⟩
      have st : Stp ρ H (ρ ++ [s.heap.objs.size]) (upd H s.heap.objs.size (.ext (DicP X.prog X.w s.heap.objs.size ens))) := stp_loc hn
      have st0 : Stp ρ H ρ (upd H s.heap.objs.size (.ext (DicP X.prog X.w s.heap.objs.size ens))) := stp_new hn
      refine h (ρ ++ [s.heap.objs.size]) _ _ st (S.newLoc hn ⟨ens, upd_same, ?_⟩) (.loc ?_)
      · exact dr.stp st
      · rw [← e]
        simp
theorem ee_dcp (hu : X.A.units + 200 < cLine) (ha : EA X W [e] ma) (hm : X.mg "dict" = none) (hg : Gl X "dict" := by rfl)
    (he : starEach [e] X.env = (false, eval e X.env) :: starEach [] X.env := by rfl) (hpl : (backTo pos (starEach [] X.env)).any (·.1) = false := by rfl) : EE X W (.Call (.Name "dict" p) [e] [] pos) (eDcp ma) :=
  peImp (pe_callTy (call_dcp hu) hg hm PyProof.Rows.boot_dict ha (he := he) (hpl := hpl)) fun σ H Q ⟨A, ρ, τ, lh, er, S, pr⟩ => ⟨A, ρ, τ, lh, er, S, PRg.thn pr fun ds lh1 ρ1 H1 xs s1 S1 r1 pr1 => by
    split at pr1
    · rename_i d
      split at pr1
      · rename_i ks us hd
        split at pr1
        · rename_i hc
          exact ⟨A, ρ1, lh1, d, ks, us, S1, r1, hd, hc, fun ρ' H' x s2 S2 r2 => pr1 ρ' H' x s2 S2 r2⟩
        · exact pr1.elim
      · exact pr1.elim
    · exact pr1.elim⟩
end
@[simp] theorem z_dcp {τ : Tau} {lh : LH} {ma : AM} : eDcp ma τ lh = (ma τ lh).bind fun ds lh => (match ds with
  | [d] => (match asDic lh d with
    | some (ks, us) => if okCp ks = true then .ok (.loc lh.length) (lh ++ [.dic ks us]) else .stuck
    | none => .stuck)
  | _ => .stuck) := rfl
end Tb

/-! d.get(k, x); for i in range(a, b, -1); a[i], b[j] = x, y. -/
namespace Tb
open PySem PySem.Spec PyProof.Rows L2
def dgG (lh : LH) (d e f : D) : Ro := match e with
  | .tup _ => (match asDic lh d with
    | some (ks, us) => (match toKey 8 e with
      | some k => .v ((dLook k ks us).getD f)
      | none => .no)
    | none => .no)
  | _ => .no
def eDg (mo m1 m2 : EM) : EM := fun τ lh => (mo τ lh).bind fun d lh => match asDic lh d with
  | some _ => (m1 τ lh).bind fun e lh => (m2 τ lh).bind fun f lh => (dgG lh d e f).res false lh
  | none => .stuck
section
variable {X : Cx} {W : WX} {o e f : Expr} {mo m1 m2 : EM} {apos cpos : Pos}
def tDg (G : Gx) (td ty tx : TE) : TE := fun σ H Q => td σ H fun x H1 => ∃ A ρ lh d p, SR G A ρ H1 lh ∧ VR G A ρ H1 x d ∧ asDic lh d = some p ∧ ty σ H1 fun y H2 => tx σ H2 fun z H3 =>
  ∃ A ρ lh d e f, SR G A ρ H3 lh ∧ VR G A ρ H3 x d ∧ VR G A ρ H3 y e ∧ VR G A ρ H3 z f ∧ PRo G A ρ H3 false lh (dgG lh d e f) Q
theorem pe_dg {td ty tx : TE} (hu : X.A.units + 200 < cLine) (ho : PE X o td) (he : PE X e ty) (hf : PE X f tx) (m : M2 X o "get" apos e f cpos) : PE X (.Call (.Attribute o "get" apos) [e, f] [] cpos) (tDg (gx X) td ty tx) := by
  refine ⟨fun pins s σ H Q I h => ?_⟩
  refine wpAny_Call_method m.base m.few m.line PySem.F.plainAttrs_dict PySem.F.slot_dict_get PySem.F.type_dict_get (thn (ho.run pins s σ H _ I h) fun u s1 ⟨x, H1, I1, rx, A, ρ, lh, d, p, S, rd, hd, q1⟩ => ?_)
  obtain ⟨a, xs, rfl, ha, dr⟩ := asDic_rel S rd hd
  obtain rfl : u = Value.ref a := rx
  obtain ⟨d1, d2, d3⟩ := dicP_of I1 ha dr
  refine ⟨d1.typeIs, fun b q => ?_, ?_⟩
  · cases q
    obtain ⟨ob, es, ep, h1, h2, h3, h4, h5, h6⟩ := d1
    exact ⟨ob, h1, h2.2.1⟩
  rw [m.trees]
  refine Calls.callWith_builtin rfl (Calls.evalArgs_plain (Calls.spliced_cons (thn (he.run pins s1 σ H1 _ I1 q1) fun iv s2 ⟨y, H2, I2, ry, q2⟩ =>
    Calls.spliced_cons (thn (hf.run pins s2 σ H2 _ I2 q2) fun fv s3 ⟨z, H3, I3, rz, A3, ρ3, lh3, d', e', f', S3, rx3, ry3, rz3, pr⟩ => Calls.spliced_nil ?_))))
  unfold dgG at pr
  split at pr
  · split at pr
    · rename_i ks us hd3
      split at pr
      · rename_i k hk
        obtain ⟨a3, xs3, e3, ha3, dr3⟩ := asDic_rel S3 rx3 hd3
        cases e3
        obtain ⟨b, rfl⟩ := tupRef ry3
        obtain rfl : iv = Value.ref b := ry
        obtain ⟨h1, h2, h3⟩ := dicP_of I3 ha3 dr3
        refine call_meetsIn PySem.F.slot_dict_get h1.typeIs PySem.F.entry_dict_get (PySem.F.args_dict_get_3 _ _ _) (meetsH_dict_get_default (nestedKind X.prog X.w) a b h2 fv) ⟨by show X.A.units + 1 + 8 < cLine; omega, k, xs3, keyIs_rel I3 ry3 hk, h1, ?_⟩
        have lk := look_rel k dr3
        cases hz : dLook k ks us with
        | some w =>
          rw [hz] at lk pr
          obtain ⟨p, w2, e1, e2, e4⟩ := lk
          rw [e1]
          exact ⟨w2, H3, I3.tok _, e2, PRo.val pr S3 e4⟩
        | none =>
          rw [hz] at lk pr
          rw [lk]
          exact ⟨z, H3, I3.tok _, rz, PRo.val pr S3 rz3⟩
      · exact pr.elim
    · exact pr.elim
  · exact pr.elim
theorem ee_dg (hu : X.A.units + 200 < cLine) (ho : EE X W o mo) (he : EE X W e m1) (hf : EE X W f m2) (hb : attributeBase o "get" X.env (eval o X.env) = eval o X.env := by rfl)
    (h2 : ((backTo cpos (starEach [e, f] X.env)).all (fun x => !x.1) && (backToKw cpos (keywordEach [] X.env)).all (fun x => x.1.isSome)
    && decide (([e, f] : List Expr).length + ([] : List Keyword).length + (if ([] : List Keyword).isEmpty then 0 else 1) < 30)) = true := by rfl)
    (h3 : (apos.endLine == cpos.line) = true := by rfl) (h4 : backTo cpos (starEach [e, f] X.env) = [(false, eval e X.env), (false, eval f X.env)] := by rfl) : EE X W (.Call (.Attribute o "get" apos) [e, f] [] cpos) (eDg mo m1 m2) :=
  peImp (pe_dg hu ho he hf ⟨hb, h2, h3, h4⟩) fun σ H Q ⟨A, ρ, τ, lh, er, S, pr⟩ => ⟨A, ρ, τ, lh, er, S, PRg.thn pr fun d lh1 ρ1 H1 x s1 S1 r1 pr1 => by
    split at pr1
    · rename_i p hp
      exact ⟨A, ρ1, lh1, d, p, S1, r1, hp, A, ρ1, τ, lh1, er.stp s1, S1, PRg.thn pr1 fun e' lh2 ρ2 H2 y s2 S2 r2 pr2 => ⟨A, ρ2, τ, lh2, (er.stp s1).stp s2, S2, PRg.thn pr2 fun f' lh3 ρ3 H3 z s3 S3 r3 pr3 => ⟨A, ρ3, lh3, d, e', f', S3, (r1.stp s2).stp s3, r2.stp s3, r3, PRo.of pr3⟩⟩⟩
    · exact pr1.elim⟩
end
@[simp] theorem z_dg {τ : Tau} {lh : LH} {mo m1 m2 : EM} : eDg mo m1 m2 τ lh = (mo τ lh).bind fun d lh => (match asDic lh d with
  | some _ => (m1 τ lh).bind fun e lh => (m2 τ lh).bind fun f lh => (dgG lh d e f).res false lh
  | none => .stuck) := rfl
/-! ### range(a, b, -1) walked -/
section
variable {X : Cx} {W : WX} {a b c tg : Expr} {m1 m2 m3 : EM} {p pos : Pos}
theorem ei_rng3 (h1 : EE X W a m1) (h2 : EE X W b m2) (h3 : EE X W c m3) (hm : X.mg "range" = none) (hg : Gl X "range" := by rfl)
    (hs1 : starEach [a, b, c] X.env = (false, eval a X.env) :: starEach [b, c] X.env := by rfl) (hs2 : starEach [b, c] X.env = (false, eval b X.env) :: starEach [c] X.env := by rfl) (hs3 : starEach [c] X.env = (false, eval c X.env) :: starEach [] X.env := by rfl) (hpl : (backTo pos (starEach [b, c] X.env)).any (·.1) = false := by rfl) : EI X W tg (.Call (.Name "range" p) [a, b, c] [] pos) (iRng3 m1 m2 m3) :=
  piImp (pi_range3 hg hm (pa_cons h1 (pa_cons h2 (pa_cons h3 pa_nil hs3) hs2) hs1) hs1 hpl) fun σ H R ⟨A, ρ, τ, lh, er, S, pr⟩ => ⟨A, ρ, τ, lh, er, S, PRg.thn pr fun d1 lh1 ρ1 H1 x1 s1 S1 r1 pr1 =>
    ⟨A, ρ1, τ, lh1, er.stp s1, S1, PRg.thn pr1 fun d2 lh2 ρ2 H2 x2 s2 S2 r2 pr2 => ⟨A, ρ2, τ, lh2, (er.stp s1).stp s2, S2, PRg.thn pr2 fun d3 lh3 ρ3 H3 x3 s3 S3 r3 pr3 => by
      cases r1 with
      | int i =>
        cases r2 with
        | int j =>
          cases r3 with
          | int k =>
            simp only at pr3
            split at pr3
            · rename_i hj
              obtain ⟨g1, g2, g3, g4, rfl⟩ := hj
              exact ⟨i, j, -1, (i - j).toNat, rfl, RgC.neg g1 g2 g3 g4, pr3 ρ3 H3 _ (Stp.refl _ _) S3 (itOk_rngC i _)⟩
            · exact pr3.elim
          | _ => exact pr3.elim
        | _ => exact pr3.elim
      | _ => exact pr3.elim⟩⟩⟩
end
/-! ### a[i], b[j] = x, y -/
def put1 (mo mi : EM) (f : D) (τ : Tau) (lh : LH) : Option LH := match mo τ lh with
  | .ok d lh => (match mi τ lh with
    | .ok e lh => setG lh d e f
    | _ => none)
  | _ => none
def sPut2 (m mo mi mo2 mi2 : EM) : SM := fun τ lh => (m τ lh).toS τ fun d lh => match d with
  | .tup [x, y] => (match put1 mo mi x τ lh with
    | some lh => (match put1 mo2 mi2 y τ lh with
      | some lh => .nx τ lh
      | none => .stuck)
    | none => .stuck)
  | _ => .stuck
section
variable {X : Cx} {W : WX} {e o i o2 i2 : Expr} {m mo mi mo2 mi2 : EM} {pos : Pos}
theorem put1_ok {A : Addr → Prop} {ρ : List Addr} {H : Hp} {σ : L2.St} {τ : Tau} {lh lh' : LH} {f : D} {v : V} {Q : L2.St → Hp → Prop} (er : ER (gx X) A ρ H σ τ) (S : SR (gx X) A ρ H lh) (r : VR (gx X) A ρ H v f) (g : put1 mo mi f τ lh = some lh')
    (k : ∀ ρ' H', Stp ρ H ρ' H' → SR (gx X) A ρ' H' lh' → Q σ H') : gSub (tE (gx X) W mo) (tE (gx X) W mi) (rSetD (gx X)) v σ H Q := by
  refine ⟨A, ρ, τ, lh, er, S, ?_⟩
  unfold put1 at g
  cases q : mo τ lh with
  | ok d lh2 =>
    simp only [q] at g
    intro ρ1 H1 x s1 S1 r1
    refine ⟨A, ρ1, τ, lh2, er.stp s1, S1, ?_⟩
    cases q2 : mi τ lh2 with
    | ok e' lh3 =>
      simp only [q2] at g
      intro ρ2 H2 y s2 S2 r2
      exact ⟨A, ρ2, lh3, d, e', f, S2, r1.stp s2, r2, (r.stp s1).stp s2, lh', g, fun H3 s3 S3 => k ρ2 H3 ((s1.trans s2).trans s3) S3⟩
    | exc _ _ => simp only [q2] at g; cases g
    | stuck => simp only [q2] at g; cases g
  | exc _ _ => simp only [q] at g; cases g
  | stuck => simp only [q] at g; cases g
theorem es_put2 {ps ps2 pt : Pos} {kt : Nat} (hc : X.calm = true) (hu : X.A.units + 200 < cLine) (h : EE X W e m) (ho : EE X W o mo) (hi : EE X W i mi) (ho2 : EE X W o2 mo2) (hi2 : EE X W i2 mi2)
    (hs : swapsWithSole [.Tuple [.Subscript o i ps, .Subscript o2 i2 ps2] kt pt] e pos.line X.env = pure false := by rfl) (hw : swappedStores [.Tuple [.Subscript o i ps, .Subscript o2 i2 ps2] kt pt] e X.env = pure none := by rfl) (h3 : (assignEach [.Tuple [.Subscript o i ps, .Subscript o2 i2 ps2] kt pt] X.env).map (·.2) = [assign (.Tuple [.Subscript o i ps, .Subscript o2 i2 ps2] kt pt) X.env] := by rfl)
    (h4 : ∀ (v : Value), assign (.Subscript o i ps) X.env v = (do
      let ov ← holding [v] (eval o X.env)
      let iv ← holding [v, ov] (eval i X.env)
      standAt ps
      holding [v, ov, iv] (setItem ov iv v)
      release [v, ov, iv] []) := by intro _; rfl)
    (h5 : ∀ (v : Value), assign (.Subscript o2 i2 ps2) X.env v = (do
      let ov ← holding [v] (eval o2 X.env)
      let iv ← holding [v, ov] (eval i2 X.env)
      standAt ps2
      holding [v, ov, iv] (setItem ov iv v)
      release [v, ov, iv] []) := by intro _; rfl)
    (e1 : (assignEach [.Subscript o i ps, .Subscript o2 i2 ps2] X.env).map (·.2) = assign (.Subscript o i ps) X.env :: (assignEach [.Subscript o2 i2 ps2] X.env).map (·.2) := by rfl)
    (e2 : (assignEach [.Subscript o2 i2 ps2] X.env).map (·.2) = assign (.Subscript o2 i2 ps2) X.env :: (assignEach [] X.env).map (·.2) := by rfl)
    (hn : (assignEach [.Subscript o i ps, .Subscript o2 i2 ps2] X.env).length = 2 := by rfl) (hst : (assignEach [.Subscript o i ps, .Subscript o2 i2 ps2] X.env).findIdx? (·.1) = none := by rfl) :
    ES X W (.Assign [.Tuple [.Subscript o i ps, .Subscript o2 i2 ps2] kt pt] e pos) (sPut2 m mo mi mo2 mi2) :=
  psImp (ps_asg h (pg_tup hc (pgs_cons (pg_sub ho hi (set_D hu) h4) (pgs_cons (pg_sub ho2 hi2 (set_D hu) h5) pgs_nil e2) e1) hn hst) hs hw h3) fun E σ H ⟨A, ρ, τ, lh, er, S, pr⟩ => ⟨A, ρ, τ, lh, er, S, PSR.thn er pr fun d lh1 ρ1 H1 x s1 S1 r1 pr1 => by
    split at pr1
    · rename_i a b
      split at pr1
      · rename_i lh2 g1
        split at pr1
        · rename_i lh3 g2
          cases r1 with
          | @tup p vs _ hq rs =>
            cases rs with
            | cons ra rs =>
              cases rs with
              | cons rb rs =>
                cases rs
                refine ⟨p, _, rfl, hq, rfl, _, _, rfl, put1_ok (er.stp s1) S1 ra g1 fun ρ2 H2 s2 S2 => ⟨_, _, rfl, put1_ok ((er.stp s1).stp s2) S2 (rb.stp s2) g2 fun ρ3 H3 s3 S3 => ⟨rfl, pr1 ρ3 H3 σ (s2.trans s3) S3 (((er.stp s1).stp s2).stp s3)⟩⟩⟩
        · exact pr1.elim
      · exact pr1.elim
    · exact pr1.elim⟩
end
@[simp] theorem z_put2 {τ : Tau} {lh : LH} {m mo mi mo2 mi2 : EM} : sPut2 m mo mi mo2 mi2 τ lh = (m τ lh).toS τ fun d lh => (match d with
  | .tup [x, y] => (match put1 mo mi x τ lh with
    | some lh => (match put1 mo2 mi2 y τ lh with
      | some lh => .nx τ lh
      | none => .stuck)
    | none => .stuck)
  | _ => .stuck) := rfl
end Tb

/-! sorted(set(xs)), xs a list of whole numbers. -/
namespace L2
open PySem PySem.Spec PyProof.Rows
abbrev nsO (w : World) : Obj := { cls := .type "set", dict := none, data := .set #[] 0 (.fresh 0 0 (!w.params.followText "set-order")) }
section
variable {P : Program} {w : World} {A : Around} {E : Value → Shared → Prop} {s : Shared}
set_option maxHeartbeats 3200000 in
/-- set(xs) of a list of whole numbers (as for a tuple of them) -/
theorem call_set_lstI {l : Addr} {items : Array Value} (ns : List Int) {Q : Value → Shared → Prop} (hh : A.handled = none) (hl : s.heap.IsList l items) (hit : IntsAre items.toList ns) (hb : ns.length + 1 < scanBound)
    (h : ∀ (h' : Heap) (tk c : Nat), SetR w h' s.heap.objs.size (fun j => decide (j ∈ ns)) c → c ≤ ns.length → (∀ b o, s.heap.get? b = some o → h'.get? b = some o) → Q (.ref s.heap.objs.size) { s with heap := h', toks := tk }) :
    wpAny (model P w) A (call (.type "set") [.ref l]) Q E s := by
  have hisz : items.size = ns.length := by
    have q := IntsAre.length hit
    rw [Array.length_toList] at q
    exact q
  obtain ⟨c, tl, hmro⟩ := F.called_set.mro
  have hmade := F.called_set.made
  have hsub := F.called_set.sub
  refine wpAny_call (codeAny_of_tree ?_)
  show wpAny _ _ (callAny (.type "set") _) _ _ _
  refine wpAny_pure ⟨Code.quiet_builtin _ (by decide +kernel), codeAny_builtin F.entry_type_call ?_⟩
  rw [Around.under_plain (weight_type_call_type "set" [.ref l] []) rfl]
  have h1 := F.called_set.notType
  have h2 := F.called_set.canCreate
  have hct := F.typeCall_set_1 (.ref l)
  repeat (any_goals (first | assumption | wp_step))
  refine codeAny_mono (code_set_led1 (.ref l) (E := E) (Q₁ := fun obj s₁ => obj = .ref s.heap.objs.size ∧ s₁ = { s with heap := s.heap.push (nsO w) }) ⟨rfl, rfl⟩) fun r s₁ hr => ?_
  cases r with
  | error e => exact hr
  | ok fl =>
    cases fl with
    | ret obj =>
      obtain ⟨rfl, rfl⟩ := hr
      have hS : (s.heap.push (nsO w)).get? s.heap.objs.size = some (nsO w) := Heap.get?_push_size _ rfl
      have hT : Shared.TypeIs { s with heap := s.heap.push (nsO w) } (.ref s.heap.objs.size) "set" := ⟨_, hS, rfl⟩
      have hli := F.called_set.init.lookup
      have hbi := F.called_set.init.bind (.ref s.heap.objs.size)
      repeat (any_goals (first | assumption | wp_step))
      refine codeAny_mono (codeAny_call_builtin (R := wants (fun r s₂ => r = .none ∧ ∃ h' tk c, s₂ = { s with heap := h', toks := tk } ∧ SetR w h' s.heap.objs.size (fun j => decide (j ∈ ns)) c ∧ c ≤ ns.length ∧
          (∀ b o, s.heap.get? b = some o → h'.get? b = some o)) E) F.called_set.init.plain F.entry_set_init (check_set_init_1 hT ?_)) fun r₂ s₂ hr₂ => ?_
      · obtain ⟨ol, hol, hcl, nl, hdl⟩ := hl
        obtain ⟨ocls, odict, odata, oslots⟩ := ol
        simp only at hcl hdl
        subst hcl; subst hdl
        have hol' : (s.heap.push (nsO w)).get? l = some { cls := .type "list", dict := odict, data := .seq items nl, slots := oslots } := Heap.get?_push_of_some _ hol
        have hsls := F.sub_list_set
        have hslf := F.sub_list_frozenset
        have hne : (Value.type "list" == Value.type "dict") = false := by decide
        have hl1 : (s.heap.push (nsO w)).IsList l items := ⟨_, hol', rfl, nl, rfl⟩
        unfold Builtin.«set.__init__» noKeywords Builtin.Frozenset.updateFrom
        generalize hPI : pyIter = PI
        wp_walk
        subst hPI
        refine wpAny_pyIter_list hl1 ?_
        refine wpAny_bind (wpAny_runValue ?_)
        have hlS : l < s.heap.objs.size := Heap.lt_size hol
        have hh3 : A.in1.in1.in1.handled = none := by simp [hh]
        have hneI : l ≠ (s.heap.push (nsO w)).objs.size := by
          rw [Heap.size_push]; exact Nat.ne_of_lt (Nat.lt_succ_of_lt hlS)
        have hSf : s.heap.objs.size ∉ [(s.heap.push (nsO w)).objs.size, l] := by
          rw [Heap.size_push]; simp only [List.mem_cons, List.mem_singleton, List.not_mem_nil, or_false, not_or]
          exact ⟨Nat.ne_of_lt (Nat.lt_succ_self _), Nat.ne_of_gt hlS⟩
        have hval : ∀ (i : Nat) (v : Value), items[i]? = some v → ∃ k t, ns[i]? = some k ∧ v = .int k t := fun i v hv => by
          have hi : i < ns.length := by rw [← hisz]; exact (Array.getElem?_eq_some_iff.mp hv).1
          obtain ⟨t, e⟩ := PyProof.Rows.IntsAre.int_at hit i v (by rw [Array.getElem?_toList]; exact hv)
          refine ⟨ns[i], t, List.getElem?_eq_getElem hi, ?_⟩
          rw [e, List.getD_eq_getElem?_getD, List.getElem?_eq_getElem hi] <;> rfl
        refine set_update_ints ((Walks.list hh3 _ l hneI items).toS) s.heap.objs.size
          hSf ns hisz hb hval (items.size - 0) 0 _ (by omega) (Nat.zero_le _)
          ⟨⟨_, Heap.get?_push_size _ rfl, rfl, rfl⟩, (hl1.push _)⟩ ⟨0, Nat.le_refl 0, setR_new_at (Heap.get?_push_of_some _ hS)⟩ fun s' c' hm hc' hS' => ?_
        obtain ⟨h', g2, d', tk', os'⟩ := s'
        have eg : g2 = s.gens := hm.gens
        have ed : d' = s.drawn := hm.drawn
        have eo : os' = s.os := hm.os
        subst eg; subst ed; subst eo
        show wpAny _ _ _ _ _ _
        refine wpAny_pure ?_
        show wpAny _ _ (ret Value.none) _ _ _
        rw [hisz] at hc'
        refine wpAny_pure ⟨rfl, h', tk', c', rfl, hS', hc', fun b o e => ?_⟩
        have hb0 : b < s.heap.objs.size := Heap.lt_size e
        exact hm.heap b o (by
          simp only [List.mem_cons, List.mem_singleton, List.not_mem_nil, or_false, not_or]
          exact ⟨Nat.ne_of_lt hb0, by rw [Heap.size_push]; exact Nat.ne_of_lt (Nat.lt_succ_of_lt hb0)⟩) (Heap.get?_push_of_some _ (Heap.get?_push_of_some _ e))
      · cases r₂ with
        | error e => exact hr₂
        | ok fl₂ =>
          cases fl₂ with
          | ret r =>
            obtain ⟨rfl, h', tk, c', rfl, hS', hc', hk'⟩ := hr₂
            repeat (any_goals (first | assumption | wp_step))
            exact h _ _ _ hS' hc' hk'
          | _ => exact hr₂.elim
    | _ => exact hr.elim
end
end L2

namespace Tb
open PySem PySem.Spec PyProof.Rows L2
def insU (k : Int) : List Int → List Int
  | [] => [k]
  | a :: r => if k < a then k :: a :: r else if k = a then a :: r else a :: insU k r
/-- each once, in order -/
def sortU : List Int → List Int
  | [] => []
  | k :: r => insU k (sortU r)
theorem insU_mem (k : Int) : ∀ (l : List Int) (x : Int), x ∈ insU k l ↔ x = k ∨ x ∈ l
  | [], x => by simp [insU]
  | a :: r, x => by
    unfold insU
    split
    · simp
    · split
      · rename_i h
        subst h
        simp
      · simp only [List.mem_cons, insU_mem k r x]
        constructor
        · rintro (h | h | h)
          · exact .inr (.inl h)
          · exact .inl h
          · exact .inr (.inr h)
        · rintro (h | h | h)
          · exact .inr (.inl h)
          · exact .inl h
          · exact .inr (.inr h)
theorem insU_pw (k : Int) : ∀ (l : List Int), l.Pairwise (· < ·) → (insU k l).Pairwise (· < ·)
  | [], _ => by simp [insU]
  | a :: r, h => by
    obtain ⟨h1, h2⟩ := List.pairwise_cons.mp h
    unfold insU
    split
    · rename_i hk
      refine List.pairwise_cons.mpr ⟨fun x hx => ?_, h⟩
      rcases List.mem_cons.mp hx with rfl | hx
      · exact hk
      · have := h1 x hx
        omega
    · split
      · exact h
      · refine List.pairwise_cons.mpr ⟨fun x hx => ?_, insU_pw k r h2⟩
        rcases (insU_mem k r x).mp hx with rfl | hx
        · omega
        · exact h1 x hx
theorem sortU_mem : ∀ (l : List Int) (x : Int), x ∈ sortU l ↔ x ∈ l
  | [], x => by simp [sortU]
  | a :: r, x => by rw [sortU, insU_mem, sortU_mem r x, List.mem_cons]
theorem sortU_pw : ∀ l : List Int, (sortU l).Pairwise (· < ·)
  | [] => .nil
  | a :: r => insU_pw a _ (sortU_pw r)
theorem pw_eq : ∀ {l m : List Int}, l.Pairwise (· < ·) → m.Pairwise (· < ·) → (∀ x, x ∈ l ↔ x ∈ m) → l = m
  | [], [], _, _, _ => rfl
  | [], b :: m, _, _, h => by
    have := (h b).mpr List.mem_cons_self
    cases this
  | a :: l, [], _, _, h => by
    have := (h a).mp List.mem_cons_self
    cases this
  | a :: l, b :: m, hl, hm, h => by
    obtain ⟨h1, h2⟩ := List.pairwise_cons.mp hl
    obtain ⟨h3, h4⟩ := List.pairwise_cons.mp hm
    have e : a = b := by
      rcases List.mem_cons.mp ((h a).mp List.mem_cons_self) with e | e
      · exact e
      · rcases List.mem_cons.mp ((h b).mpr List.mem_cons_self) with e' | e'
        · exact e'.symm
        · have := h3 a e
          have := h1 b e'
          omega
    subst e
    rw [pw_eq h2 h4 fun x => ⟨fun hx => (List.mem_cons.mp ((h x).mp (List.mem_cons_of_mem _ hx))).resolve_left fun e => by
      have := h1 x hx
      omega, fun hx => (List.mem_cons.mp ((h x).mpr (List.mem_cons_of_mem _ hx))).resolve_left fun e => by
      have := h3 x hx
      omega⟩]
def intD (d : D) : Option Int := match d with
  | .int i => some i
  | _ => none
def eSortSet (al : Bool) (m : EM) : EM := fun τ lh => (m τ lh).bind fun d lh => match asL lh d with
  | some ds => (match mapO intD ds with
    | some ns => if ns.length < 60 then (Ro.l ((sortU ns).map .int)).res al lh else .stuck
    | none => .stuck)
  | none => .stuck
section
variable {G : Gx} {A : Addr → Prop} {ρ : List Addr} {H : Hp}
theorem vrs_ints : ∀ {vs : List V} {ds : List D} {ns : List Int}, VRs G A ρ H vs ds → mapO intD ds = some ns → vs = ns.map V.int
  | _, _, _, .nil, h => by cases h; rfl
  | _, _, _, .cons (v := v) (d := d) r rs, h => by
    obtain ⟨y, ys, e1, e2, rfl⟩ := mapO_cons h
    rw [List.map_cons, ← vrs_ints rs e2]
    cases r with
    | int i => cases e1; rfl
    | _ => cases e1
theorem ints_vrs : ∀ (ns : List Int), VRs G A ρ H (ns.map V.int) (ns.map .int)
  | [] => .nil
  | i :: ns => .cons (.int i) (ints_vrs ns)
end
section
variable {X : Cx} {W : WX} {e : Expr} {m : EM} {p p2 pos pos2 : Pos}
def rSetL (X : Cx) : List V → Hp → VK → Prop := fun vs H Q => ∃ (a : Addr) (ns : List Int), vs = [V.ref a] ∧ SqL X.K H a (ns.map V.int) ∧ ns.length < 60 ∧ ∀ (p : Addr) (c : Nat), H p = none → c ≤ ns.length → Q (.ref p) (upd H p (SetO X.w p (fun j => decide (j ∈ ns)) c))
theorem cr_setL (hc : X.calm = true) : CallR X (.type "set") (rSetL X) := by
  intro pins s σ H vs us Q I r h
  obtain ⟨a, ns, rfl, hq, hl, q⟩ := h
  rw [Vals.ref1 r]
  obtain ⟨its, rv, ⟨o, n, e1, e2, e3, e4⟩, hz⟩ := I.list hq
  have hi : IntsAre its.toArray.toList ns := ints_of_vals rv
  refine call_set_lstI ns (I.ok.hd hc) ⟨o, e1, e2, n, e4⟩ hi (by unfold scanBound; omega) fun h' tk c R hcn k => ?_
  exact ⟨.ref s.heap.objs.size, _, I.laid (t' := tk) (fun b u e => k b u e) (Nat.le_refl _) (setO_new R), rfl, q _ c (I.hok.fresh (Nat.le_refl _)) hcn⟩
theorem ee_sortSet (al : Bool) (hc : X.calm = true) (h : EE X W e m) (hms : X.mg "sorted" = none) (hmt : X.mg "set" = none) (hgs : Gl X "sorted" := by rfl) (hgt : Gl X "set" := by rfl)
    (he : starEach [e] X.env = (false, eval e X.env) :: starEach [] X.env := by rfl) (hpl : (backTo pos2 (starEach [] X.env)).any (·.1) = false := by rfl)
    (he2 : starEach [.Call (.Name "set" p2) [e] [] pos2] X.env = (false, eval (.Call (.Name "set" p2) [e] [] pos2) X.env) :: starEach [] X.env := by rfl) (hpl2 : (backTo pos (starEach [] X.env)).any (·.1) = false := by rfl) :
    EE X W (.Call (.Name "sorted" p) [.Call (.Name "set" p2) [e] [] pos2] [] pos) (eSortSet al m) :=
  peImp (pe_callB (cr_sortedSet hc) hgs hms bb_sorted (pa_cons (pe_callTy (cr_setL hc) hgt hmt PyProof.Rows.boot_set (pa_cons h pa_nil he) (he := he) (hpl := hpl)) pa_nil he2) (he := he2) (hpl := hpl2)) fun σ H Q ⟨A, ρ, τ, lh, er, S, pr⟩ => ⟨A, ρ, τ, lh, er, S, PRg.thn pr fun d lh1 ρ1 H1 x s1 S1 r1 pr1 => by
    split at pr1
    · rename_i ds hd
      split at pr1
      · rename_i ns hns
        split at pr1
        · rename_i hl
          obtain ⟨a, vs, rfl, hq, rs⟩ := asL_rel S1 r1 hd
          have ev := vrs_ints rs hns
          subst ev
          refine ⟨a, ns, rfl, hq, hl, fun q c hq' hc' => ⟨q, _, c, rfl, upd_same, by omega, fun out q2 h1 h2 h3 h4 => ?_⟩⟩
          have eo : out = sortU ns := pw_eq h1 (sortU_pw ns) fun k => by rw [h2 k, sortU_mem, decide_eq_true_iff]
          subst eo
          have pr2 : PRo (gx X) A ρ1 H1 al lh1 (.l ((sortU ns).map .int)) Q := PRo.of pr1
          have st : Stp ρ1 H1 ρ1 (upd H1 q (SetO X.w q (fun j => decide (j ∈ ns)) c)) := stp_new hq'
          exact PRo.new (PRg.stp st pr2) (S1.new hq') (ints_vrs (sortU ns)) _ h4
        · exact pr1.elim
      · exact pr1.elim
    · exact pr1.elim⟩
end
@[simp] theorem z_sortSet {τ : Tau} {lh : LH} {al : Bool} {m : EM} : eSortSet al m τ lh = (m τ lh).bind fun d lh => (match asL lh d with
  | some ds => (match mapO intD ds with
    | some ns => if ns.length < 60 then (Ro.l ((sortU ns).map .int)).res al lh else .stuck
    | none => .stuck)
  | none => .stuck) := rfl
/-! ### x += e, x -= e -/
def augP : LH → D → D → Ro := fun _ d e => match d, e with
  | .int a, .int b => .v (.int (a + b))
  | _, _ => .no
def augM : LH → D → D → Ro := fun _ d e => match d, e with
  | .int a, .int b => .v (.int (a - b))
  | _, _ => .no
section
variable {X : Cx} {W : WX} {e : Expr} {m : EM} {pos pos' : Pos}
theorem es_augP (i : Nat) {x : Str} (hN : X.N.Nodup) (h : EE X W e m) (hi : X.N[i]? = some x := by rfl) (hx : Loc X.env.scope x := by first | exact Or.inl rfl | exact Or.inr rfl)
    (hf : X.fn x = true ∨ X.env.scope.names.lookup x = some .local := by first | exact .inl rfl | exact .inr rfl) : ES X W (.AugAssign (.Name x pos') .Add e pos) (sAug i augP m) := es_augAdd i hN h hi hx hf
theorem es_augM (i : Nat) {x : Str} (hN : X.N.Nodup) (h : EE X W e m) (hi : X.N[i]? = some x := by rfl) (hx : Loc X.env.scope x := by first | exact Or.inl rfl | exact Or.inr rfl)
    (hf : X.fn x = true ∨ X.env.scope.names.lookup x = some .local := by first | exact .inl rfl | exact .inr rfl) : ES X W (.AugAssign (.Name x pos') .Sub e pos) (sAug i augM m) := es_augSub i hN h hi hx hf
end
end Tb

/-! a[i], b[j], c[k] = x, y, z. -/
namespace Tb
open PySem PySem.Spec PyProof.Rows L2
def sPut3 (m mo mi mo2 mi2 mo3 mi3 : EM) : SM := fun τ lh => (m τ lh).toS τ fun d lh => match d with
  | .tup [x, y, z] => (match put1 mo mi x τ lh with
    | some lh => (match put1 mo2 mi2 y τ lh with
      | some lh => (match put1 mo3 mi3 z τ lh with
        | some lh => .nx τ lh
        | none => .stuck)
      | none => .stuck)
    | none => .stuck)
  | _ => .stuck
section
variable {X : Cx} {W : WX} {e o i o2 i2 o3 i3 : Expr} {m mo mi mo2 mi2 mo3 mi3 : EM} {pos : Pos}
theorem es_put3 {ps ps2 ps3 pt : Pos} {kt : Nat} (hc : X.calm = true) (hu : X.A.units + 200 < cLine) (h : EE X W e m) (ho : EE X W o mo) (hi : EE X W i mi) (ho2 : EE X W o2 mo2) (hi2 : EE X W i2 mi2) (ho3 : EE X W o3 mo3) (hi3 : EE X W i3 mi3)
    (hs : swapsWithSole [.Tuple [.Subscript o i ps, .Subscript o2 i2 ps2, .Subscript o3 i3 ps3] kt pt] e pos.line X.env = pure false := by rfl) (hw : swappedStores [.Tuple [.Subscript o i ps, .Subscript o2 i2 ps2, .Subscript o3 i3 ps3] kt pt] e X.env = pure none := by rfl) (h3 : (assignEach [.Tuple [.Subscript o i ps, .Subscript o2 i2 ps2, .Subscript o3 i3 ps3] kt pt] X.env).map (·.2) = [assign (.Tuple [.Subscript o i ps, .Subscript o2 i2 ps2, .Subscript o3 i3 ps3] kt pt) X.env] := by rfl)
    (h4 : ∀ (v : Value), assign (.Subscript o i ps) X.env v = (do
      let ov ← holding [v] (eval o X.env)
      let iv ← holding [v, ov] (eval i X.env)
      standAt ps
      holding [v, ov, iv] (setItem ov iv v)
      release [v, ov, iv] []) := by intro _; rfl)
    (h5 : ∀ (v : Value), assign (.Subscript o2 i2 ps2) X.env v = (do
      let ov ← holding [v] (eval o2 X.env)
      let iv ← holding [v, ov] (eval i2 X.env)
      standAt ps2
      holding [v, ov, iv] (setItem ov iv v)
      release [v, ov, iv] []) := by intro _; rfl)
    (h6 : ∀ (v : Value), assign (.Subscript o3 i3 ps3) X.env v = (do
      let ov ← holding [v] (eval o3 X.env)
      let iv ← holding [v, ov] (eval i3 X.env)
      standAt ps3
      holding [v, ov, iv] (setItem ov iv v)
      release [v, ov, iv] []) := by intro _; rfl)
    (e1 : (assignEach [.Subscript o i ps, .Subscript o2 i2 ps2, .Subscript o3 i3 ps3] X.env).map (·.2) = assign (.Subscript o i ps) X.env :: (assignEach [.Subscript o2 i2 ps2, .Subscript o3 i3 ps3] X.env).map (·.2) := by rfl)
    (e2 : (assignEach [.Subscript o2 i2 ps2, .Subscript o3 i3 ps3] X.env).map (·.2) = assign (.Subscript o2 i2 ps2) X.env :: (assignEach [.Subscript o3 i3 ps3] X.env).map (·.2) := by rfl)
    (e3 : (assignEach [.Subscript o3 i3 ps3] X.env).map (·.2) = assign (.Subscript o3 i3 ps3) X.env :: (assignEach [] X.env).map (·.2) := by rfl)
    (hn : (assignEach [.Subscript o i ps, .Subscript o2 i2 ps2, .Subscript o3 i3 ps3] X.env).length = 3 := by rfl) (hst : (assignEach [.Subscript o i ps, .Subscript o2 i2 ps2, .Subscript o3 i3 ps3] X.env).findIdx? (·.1) = none := by rfl) :
    ES X W (.Assign [.Tuple [.Subscript o i ps, .Subscript o2 i2 ps2, .Subscript o3 i3 ps3] kt pt] e pos) (sPut3 m mo mi mo2 mi2 mo3 mi3) :=
  psImp (ps_asg h (pg_tup hc (pgs_cons (pg_sub ho hi (set_D hu) h4) (pgs_cons (pg_sub ho2 hi2 (set_D hu) h5) (pgs_cons (pg_sub ho3 hi3 (set_D hu) h6) pgs_nil e3) e2) e1) hn hst) hs hw h3) fun E σ H ⟨A, ρ, τ, lh, er, S, pr⟩ => ⟨A, ρ, τ, lh, er, S, PSR.thn er pr fun d lh1 ρ1 H1 x s1 S1 r1 pr1 => by
    split at pr1
    · rename_i a b c
      split at pr1
      · rename_i lh2 g1
        split at pr1
        · rename_i lh3 g2
          split at pr1
          · rename_i lh4 g3
            cases r1 with
            | @tup p vs _ hq rs =>
              cases rs with
              | cons ra rs =>
                cases rs with
                | cons rb rs =>
                  cases rs with
                  | cons rc rs =>
                    cases rs
                    refine ⟨p, _, rfl, hq, rfl, _, _, rfl, put1_ok (er.stp s1) S1 ra g1 fun ρ2 H2 s2 S2 => ⟨_, _, rfl, put1_ok ((er.stp s1).stp s2) S2 (rb.stp s2) g2 fun ρ3 H3 s3 S3 => ⟨_, _, rfl, put1_ok (((er.stp s1).stp s2).stp s3) S3 ((rc.stp s2).stp s3) g3 fun ρ4 H4 s4 S4 => ⟨rfl, pr1 ρ4 H4 σ ((s2.trans s3).trans s4) S4 ((((er.stp s1).stp s2).stp s3).stp s4)⟩⟩⟩⟩
          · exact pr1.elim
        · exact pr1.elim
      · exact pr1.elim
    · exact pr1.elim⟩
end
@[simp] theorem z_put3 {τ : Tau} {lh : LH} {m mo mi mo2 mi2 mo3 mi3 : EM} : sPut3 m mo mi mo2 mi2 mo3 mi3 τ lh = (m τ lh).toS τ fun d lh => (match d with
  | .tup [x, y, z] => (match put1 mo mi x τ lh with
    | some lh => (match put1 mo2 mi2 y τ lh with
      | some lh => (match put1 mo3 mi3 z τ lh with
        | some lh => .nx τ lh
        | none => .stuck)
      | none => .stuck)
    | none => .stuck)
  | _ => .stuck) := rfl
end Tb

/-! xs[::2] of lists; calls whose argument is a list of whole numbers of ours, told by value. -/
namespace Tb
open PySem PySem.Spec PyProof.Rows L2
/-! ### xs[::2] -/
def idx2 (n : Nat) : List Nat := sliceRange 0 (n : Int) 2
section
variable {G : Gx} {A B : Addr → Prop} {ρ ρ2 : List Addr} {H H' : Hp} {lh : LH}
theorem picks_rel {vs : List V} {ds : List D} (r : VRs G A ρ H vs ds) : ∀ ns : List Nat, VRs G A ρ H (ns.filterMap (vs[·]?)) (ns.filterMap (ds[·]?))
  | [] => .nil
  | n :: ns => by
    have ih := picks_rel r ns
    rw [List.filterMap_cons, List.filterMap_cons]
    cases q : ds[n]? with
    | none =>
      have hl := r.length
      have : vs[n]? = none := by
        rw [List.getElem?_eq_none_iff] at q ⊢
        omega
      rw [this]
      exact ih
    | some d =>
      obtain ⟨v, h1, h2⟩ := r.get q
      rw [h1]
      exact .cons h2 ih
theorem picks_vals {xs : List V} {us : List Value} (r : Vals xs us) : ∀ ns : List Nat, Vals (ns.filterMap (xs[·]?)) (ns.filterMap (us[·]?))
  | [] => .nil
  | n :: ns => by
    have ih := picks_vals r ns
    rw [List.filterMap_cons, List.filterMap_cons]
    cases q : xs[n]? with
    | none =>
      have hl := r.length
      have : us[n]? = none := by
        rw [List.getElem?_eq_none_iff] at q ⊢
        omega
      rw [this]
      exact ih
    | some d =>
      obtain ⟨v, h1, h2⟩ := r.get q
      rw [h1]
      exact .cons h2 ih
end
theorem idx2_len (n : Nat) : (idx2 n).length ≤ n := by
  unfold idx2 sliceRange
  rw [List.length_map, List.length_range]
  have h2 : (2 : Int) > 0 := by omega
  simp only [h2, if_true]
  split <;> omega
theorem pick2 (its : List Value) : slicePick its.toArray none none (some 2) = ((idx2 its.length).filterMap (its[·]?)).toArray := by
  unfold slicePick idx2 sliceBounds
  simp
theorem fm_len {α β : Type} (f : α → Option β) : ∀ l : List α, (l.filterMap f).length ≤ l.length
  | [] => Nat.le_refl _
  | a :: l => by
    have := fm_len f l
    rw [List.filterMap_cons]
    split
    · simp only [List.length_cons]; omega
    · simp only [List.length_cons]; omega
def tSt2 (K : PySem.W.Frag) (te : TE) : TE := fun σ H Q => te σ H fun x H1 => ∃ a xs, x = .ref a ∧ SqL K H1 a xs ∧ ∀ p, H1 p = none → Q (.ref p) (upd H1 p (.lst ((idx2 xs.length).filterMap (xs[·]?))))
theorem pe_st2 {X : Cx} {e : Expr} {te : TE} {k : Nat} {p1 p3 pos : Pos} (he : PE X e te) : PE X (.Subscript e (.Slice none none (some (.Constant (.int 2) k p1)) p3) pos) (tSt2 X.K te) := by
  refine ⟨fun pins s σ H Q I h => ?_⟩
  refine Subscript_ (thn (he.run pins s σ H _ I h) fun v s1 ⟨x, H1, I1, r1, q1⟩ => ?_)
  obtain ⟨a, xs, ex, hx, hq⟩ := q1
  subst ex
  cases r1
  have hst : PO X (some (.Constant (.int 2) k p1)) (tPart (tC (.int 2))) := po_some pe_int
  refine wpAny_Slice (thn (po_none.run pins s1 σ H1 (fun o H2 => o = none ∧ H2 = H1) I1 ⟨rfl, rfl⟩) fun vl s2 ⟨l, H2, I2, pl, el, e2⟩ => ?_)
  subst el e2
  refine thn (po_none.run pins s2 σ H2 (fun o H3 => o = none ∧ H3 = H2) I2 ⟨rfl, rfl⟩) fun vu s3 ⟨u, H3, I3, pu, eu, e3⟩ => ?_
  subst eu e3
  refine thn (hst.run pins s3 σ H3 (fun o H4 => o = some 2 ∧ H4 = H3) I3 ⟨2, rfl, rfl, rfl⟩) fun vs s4 ⟨o, H4, I4, ps, eo, e4⟩ => ?_
  subst eo e4
  have I5 : Inv X pins σ H4 { s4 with heap := s4.heap.push { cls := .type "slice", data := .fields #[vl, vu, vs] } } := I4.kept (t' := s4.toks) fun b ob q => Heap.get?_push_of_some _ q
  show wpAny (model X.prog X.w) X.A (subscriptTail e (.Slice none none (some (.Constant (.int 2) k p1)) p3) (.ref a) (.ref s4.heap.objs.size)) (EP X pins σ Q) X.xe { s4 with heap := s4.heap.push { cls := .type "slice", data := .fields #[vl, vu, vs] } }
  obtain ⟨its, r, ht, hz⟩ := I5.list hx
  have hlen := r.length
  refine tail_any (ops := [.ref a, .ref s4.heap.objs.size]) ht.isList.typeIs (PySem.slot_list_getitem.lookup) ?_ (by with_unfolding_all rfl)
  refine wpAny_getItem_list_slice ht.isList (Heap.IsSliceOf.new _ vl vu vs) pl pu ps (by decide) ?_ (by rw [List.size_toArray]; omega)
  rw [pick2]
  refine ⟨.ref _, _, I5.laid (t' := s4.toks) (o := .lst ((idx2 xs.length).filterMap (xs[·]?))) (fun b ob q => Heap.get?_push_of_some _ q) (Nat.le_refl _) ?_, rfl, hq _ (I5.hok.fresh (Nat.le_refl _))⟩
  have hr : Vals ((idx2 xs.length).filterMap (xs[·]?)) ((idx2 its.length).filterMap (its[·]?)) := by
    rw [hlen]
    exact picks_vals r _
  exact ⟨Nat.le_trans (fm_len _ _) (Nat.le_trans (idx2_len _) hz), _, 0, hr, Heap.get?_push_size _ rfl⟩
def st2A (lh : LH) (d : D) : Ro := match asL lh d with
  | some xs => .l ((idx2 xs.length).filterMap (xs[·]?))
  | none => .no
theorem ee_st2 {X : Cx} {W : WX} {e : Expr} {m : EM} {pos : Pos} (al : Bool) {k : Nat} {p1 p3 : Pos} (he : EE X W e m) : EE X W (.Subscript e (.Slice none none (some (.Constant (.int 2) k p1)) p3) pos) (e1 al st2A m) :=
  peImp (pe_st2 he) fun σ H Q ⟨A, ρ, τ, lh, er, S, pr⟩ => ⟨A, ρ, τ, lh, er, S, PRg.thn pr fun d lh1 ρ1 H1 x s1 S1 r1 pr1 => by
    have pr4 := PRo.of pr1
    unfold st2A at pr4
    split at pr4
    · rename_i xs h1
      obtain ⟨a, vs, rfl, hq, rs⟩ := asL_rel S1 r1 h1
      refine ⟨a, vs, rfl, hq, PRo.new pr4 S1 ?_⟩
      rw [rs.length]
      exact picks_rel rs _
    · exact pr4.elim⟩
/-! ### calls: a list of whole numbers of ours is handed by value, the result is told by value -/
def isI : D → Bool
  | .int _ => true
  | _ => false
def okI (xs : List D) : Bool := !xs.isEmpty && xs.all isI
def okS : List D → Bool
  | [] => true
  | .str _ :: _ => true
  | _ => false
def argR (lh : LH) (d : D) : Option D := match d with
  | .loc k => (match lh[k]? with
    | some (.lst xs) => if okI xs = true then some (.lst xs) else none
    | _ => none)
  | d => frz [] fuel d
/-- what is told holds no list that could be the one handed in -/
def frzS (lh : LH) : Nat → D → Option D
  | 0, _ => none
  | n + 1, d => match d with
    | .non => some .non
    | .bl b => some (.bl b)
    | .int i => some (.int i)
    | .str s => some (.str s)
    | .tup ds => (match mapO (frzS lh n) ds with
      | some ks => some (.tup ks)
      | none => none)
    | .lst ds => if okS ds = true then (match mapO (frzS lh n) ds with
      | some ks => some (.lst ks)
      | none => none) else none
    | .loc a => (match lh[a]? with
      | some (.lst ds) => (match mapO (frzS lh n) ds with
        | some ks => some (.lst ks)
        | none => none)
      | some (.dic ks us) => (match mapO (frzS lh n) us with
        | some us => some (.dic ks us)
        | none => none)
      | _ => none)
    | _ => none
def callR (f : FM) (ds : List D) (lh : LH) : Res D := match mapO (argR lh) ds with
  | some ds' => (match f ds' [] with
    | .ok d lh' => (match frzS lh' fuel d with
      | some d' => .ok d' lh
      | none => .stuck)
    | .exc c _ => .exc c lh
    | .stuck => .stuck)
  | none => .stuck
def eCallR (n : Nat) (f : FM) (m : AM) : EM := fun τ lh => (m τ lh).bind fun ds lh => if ds.length = n then callR f ds lh else .stuck
section
variable {G : Gx} {A B : Addr → Prop} {ρ ρ2 : List Addr} {H H' : Hp} {lh : LH}
theorem ints_rel : ∀ {ds : List D} {vs : List V}, ds.all isI = true → VRs G A ρ H vs ds → VRs G B ρ2 H' vs ds := by
  intro ds
  induction ds with
  | nil => intro vs _ r; cases r; exact .nil
  | cons d ds ih =>
    intro vs h r
    rw [List.all_cons, Bool.and_eq_true] at h
    cases r with
    | cons r1 r2 =>
      refine .cons ?_ (ih h.2 r2)
      cases r1 with
      | int i => exact .int i
      | _ => exact absurd h.1 (by simp [isI])
theorem head_int {vs : List V} {ds : List D} (h : okI ds = true) (r : VRs G A ρ H vs ds) : ∃ i ws, vs = .int i :: ws := by
  unfold okI at h
  rw [Bool.and_eq_true] at h
  cases r with
  | nil => exact absurd h.1 (by simp)
  | cons r1 r2 =>
    have h2 := h.2
    rw [List.all_cons, Bool.and_eq_true] at h2
    cases r1 with
    | int i => exact ⟨i, _, rfl⟩
    | _ => exact absurd h2.1 (by simp [isI])
def IntH (H : Hp) (a : Addr) : Prop := ∃ i ws, H a = some (.lst (V.int i :: ws))
theorem frzS_gen (S : SR G B ρ2 H lh) (h1 : ∀ a o, H a = some o → ¬ B a → a ∉ ρ2 → IntH H a ∨ (¬ A a ∧ a ∉ ρ)) (h2 : ∀ a, a ∈ ρ2 → ¬ A a ∧ a ∉ ρ) : ∀ (n : Nat) {v : V} {d d' : D}, VR G B ρ2 H v d → frzS lh n d = some d' → VR G A ρ H v d' := by
  intro n
  induction n with
  | zero => intro v d d' _ h; cases h
  | succ n ih =>
    have all : ∀ {ds : List D} {vs : List V} {ks : List D}, VRs G B ρ2 H vs ds → mapO (frzS lh n) ds = some ks → VRs G A ρ H vs ks := by
      intro ds
      induction ds with
      | nil => intro vs ks r h; cases r; cases h; exact .nil
      | cons d ds ih2 =>
        intro vs ks r h
        cases r with
        | cons r1 r2 =>
          obtain ⟨y, ys, e1, e2, rfl⟩ := mapO_cons h
          exact .cons (ih r1 e1) (ih2 r2 e2)
    have dr : ∀ {us : List D} {xs : List DEnt} {ks us' : List D}, DR G B ρ2 H xs ks us → mapO (frzS lh n) us = some us' → DR G A ρ H xs ks us' := by
      intro us
      induction us with
      | nil => intro xs ks us' r h; cases r; cases h; exact .nil
      | cons d ds ih2 =>
        intro xs ks us' r h
        cases r with
        | cons e r1 rv r2 t =>
          obtain ⟨y, ys, e1, e2, rfl⟩ := mapO_cons h
          exact .cons e (key_free 8 e r1) rv (ih r2 e1) (ih2 t e2)
    intro v d d' r h
    cases r with
    | non => cases h; exact .non
    | bl b => cases h; exact .bl b
    | int i => cases h; exact .int i
    | str s => cases h; exact .str s
    | @tup a vs ds q r =>
      simp only [frzS] at h
      cases e : mapO (frzS lh n) ds with
      | none => rw [e] at h; cases h
      | some ks => rw [e] at h; cases h; exact .tup q (all r e)
    | @lst a vs ds q nA nρ r =>
      simp only [frzS] at h
      by_cases hs : okS ds = true
      · rw [if_pos hs] at h
        have hf : ¬ A a ∧ a ∉ ρ := by
          rcases h1 a _ q nA nρ with ⟨i, ws, e⟩ | z
          · rw [q] at e
            have e' : vs = V.int i :: ws := by cases e; rfl
            subst e'
            exfalso
            cases r with
            | cons r1 r2 => cases r1 with
              | int i => exact absurd hs (by simp [okS])
          · exact z
        cases e : mapO (frzS lh n) ds with
        | none => rw [e] at h; cases h
        | some ks => rw [e] at h; cases h; exact .lst q hf.1 hf.2 (all r e)
      · rw [if_neg hs] at h
        cases h
    | scr _ _ => cases h
    | dic _ _ _ _ => cases h
    | @loc m a q =>
      have hm : a ∈ ρ2 := List.mem_of_getElem? q
      simp only [frzS] at h
      cases e0 : lh[m]? with
      | none => rw [e0] at h; cases h
      | some o =>
        have k2 := S.at_ m a o q e0
        have h2 := h2 a hm
        rw [e0] at h
        cases o with
        | lst ds =>
          obtain ⟨vs, k3, k4⟩ := k2
          cases e : mapO (frzS lh n) ds with
          | none => simp only [e] at h; cases h
          | some ks => simp only [e] at h; cases h; exact .lst k3 h2.1 h2.2 (all k4 e)
        | dic ks us =>
          obtain ⟨xs, k3, k4⟩ := k2
          cases e : mapO (frzS lh n) us with
          | none => simp only [e] at h; cases h
          | some us' => simp only [e] at h; cases h; exact .dic k3 h2.1 h2.2 (dr k4 e)
        | ins _ _ => cases h
theorem argR_rel (S : SR G A ρ H lh) {v : V} {d d' : D} (r : VR G A ρ H v d) (e : argR lh d = some d') : VR G (fun a => (A a ∨ a ∈ ρ) ∧ ¬ IntH H a) [] H v d' := by
  have other : ∀ {d d' : D}, VR G A ρ H v d → frz [] fuel d = some d' → VR G (fun a => (A a ∨ a ∈ ρ) ∧ ¬ IntH H a) [] H v d' := fun r e => frz_genL (lh := []) (fun m a o _ z => by simp at z) (fun a o ho n1 n2 => ⟨fun z => z.1.elim n1 n2, by simp⟩) (fun z => absurd rfl z) _ r e
  cases r with
  | @loc m a q =>
    simp only [argR] at e
    cases e0 : lh[m]? with
    | none => rw [e0] at e; cases e
    | some o =>
      have k2 := S.at_ m a o q e0
      rw [e0] at e
      cases o with
      | lst xs =>
        simp only at e
        by_cases hx : okI xs = true
        · rw [if_pos hx] at e
          cases e
          obtain ⟨vs, k3, k4⟩ := k2
          obtain ⟨i, ws, rfl⟩ := head_int hx k4
          have hx2 : xs.all isI = true := by
            unfold okI at hx
            rw [Bool.and_eq_true] at hx
            exact hx.2
          exact .lst k3 (fun z => z.2 ⟨i, ws, k3⟩) (by simp) (ints_rel hx2 k4)
        · rw [if_neg hx] at e
          cases e
      | dic ks us => cases e
      | ins _ _ => cases e
  | non => exact other .non e
  | bl b => exact other (.bl b) e
  | int i => exact other (.int i) e
  | str s => exact other (.str s) e
  | tup q r => exact other (.tup q r) e
  | lst q n1 n2 r => exact other (.lst q n1 n2 r) e
  | scr q r => exact other (.scr q r) e
  | dic q n1 n2 r => exact other (.dic q n1 n2 r) e
theorem callR_rel {f : FM} {vs : List V} {ds : List D} {V' : Str → Hp → Prop} {Q : VK} (S : SR G A ρ H lh) (r : VRs G A ρ H vs ds) (h : PRg G A ρ H (VR G A) (callR f ds lh) V' Q) :
    ∃ A' ρ' lh' ds', VRs G A' ρ' H vs ds' ∧ SR G A' ρ' H lh' ∧ PRg G A' ρ' H (VR G A') (f ds' lh') V' Q := by
  unfold callR at h
  cases q : mapO (argR lh) ds with
  | none => simp only [q] at h; exact h.elim
  | some ds' =>
    simp only [q] at h
    have S0 : SR G (fun a => (A a ∨ a ∈ ρ) ∧ ¬ IntH H a) [] H [] := SR.none_ S.tab fun a z => z.1.elim (S.av a) S.mutT
    have r0 : VRs G (fun a => (A a ∨ a ∈ ρ) ∧ ¬ IntH H a) [] H vs ds' := all_gen (fun r e => argR_rel S r e) r q
    refine ⟨fun a => (A a ∨ a ∈ ρ) ∧ ¬ IntH H a, [], [], ds', r0, S0, ?_⟩
    cases e : f ds' [] with
    | ok d lh' =>
      simp only [e] at h
      intro ρ' H' v s S' rv
      cases e2 : frzS lh' fuel d with
      | none => simp only [e2] at h; exact h.elim
      | some d' =>
        simp only [e2] at h
        refine h ρ H' v (s.widen ρ) (S.widen s S'.tab) (frzS_gen S' (fun a o ho n1 n2 => ?_) (s.new_ S) _ rv e2)
        by_cases hi : IntH H a
        · obtain ⟨i, ws, e3⟩ := hi
          exact .inl ⟨i, ws, s.frm a _ e3 (fun _ z => by cases z) (by simp)⟩
        · exact .inr ⟨fun z => n1 ⟨.inl z, hi⟩, fun z => n1 ⟨.inr z, hi⟩⟩
    | exc c lh' =>
      simp only [e] at h
      exact fun ρ' H' s S' => h ρ H' (s.widen ρ) (S.widen s S'.tab)
    | stuck => simp only [e] at h; exact h.elim
end
section
variable {X : Cx} {W : WX} {k n : Nat} {f : Addr} {fd : FuncData} {ps : List Str} {x : Str} {p pos : Pos} {e : Expr} {es : List Expr} {ma : AM} {fm : FM}
theorem ec_callR (tk : Takes X W) (F : FOk X.prog X.w X.K X.mg X.base k f n fm) (hr : Room k X.A) (hm : X.mg x = some (.ref f)) (hk : PySem.W.keepIn X.K (.ref f) = true) (ha : EA X W (e :: es) ma) (hg : Gl X x := by rfl)
    (hdb : (x == ("__debug__" : Str)) = false := by decide) (he : starEach (e :: es) X.env = (false, eval e X.env) :: starEach es X.env := by rfl) (hpl : (backTo pos (starEach es X.env)).any (·.1) = false := by rfl) : EE X W (.Call (.Name x p) (e :: es) [] pos) (eCallR n fm ma) := by
  obtain ⟨fd, ps, F, hb⟩ := F
  refine peImp (pe_callS (E := WE W) F hr hg hm hk hb (fun σ => passAt tk σ) ha hdb he hpl) fun σ H Q ⟨A, ρ, τ, lh, er, S, pr⟩ => ⟨A, ρ, τ, lh, er, S, PRg.thn pr fun ds lh1 ρ1 H1 xs s1 S1 r1 pr1 => ?_⟩
  by_cases hn : ds.length = n
  · rw [if_pos hn] at pr1
    obtain ⟨A', ρ', lh', ds', r', S', pr'⟩ := callR_rel S1 r1 pr1
    exact ⟨by rw [r1.length]; exact hn, A', ρ', lh', ds', r', S', pr'⟩
  · rw [if_neg hn] at pr1
    exact pr1.elim
end
@[simp] theorem z_callR {τ : Tau} {lh : LH} {n : Nat} {f : FM} {r : AM} : eCallR n f r τ lh = (r τ lh).bind fun ds lh => if ds.length = n then callR f ds lh else .stuck := rfl
end Tb

/-! A def that tells by which exception a lambda handed to it ends. -/
namespace Tb
open PySem PySem.Spec PyProof.Rows L2
def eWord (cs : List (Str × Str)) (no : Str) (m : EM) : EM := fun τ lh => match m τ lh with
  | .ok _ lh' => .ok (.str no) lh'
  | .exc c lh' => (match cs.lookup c with
    | some s => .ok (.str s) lh'
    | none => .stuck)
  | .stuck => .stuck
/-- what the def makes of the lambda's reading -/
def TTword (K : PySem.W.Frag) (cs : List (Str × Str)) (no : Str) : (XK → Hp → VK → Prop) → Hp → VK → Prop := fun tl H Q =>
  tl (fun cls d H' => d = none ∧ ∃ p ∈ cs, cls = .ref (He.ga K p.1) ∧ Q (.str p.2) H') H fun _ H' => Q (.str no) H'
section
variable {X : Cx}
abbrev wordCx (X : Cx) (Ng : List Str) (x : Str) (sg : Scope) (g : Addr) (cdg : Value) (s : Shared) (H : Hp) : Cx := (cxOf C8.CX0 X.prog X.w X.K X.mg X.base Ng x sg g cdg X.A X.stack s H C8.E0).nox
theorem word_gives {Ng : List Str} {x a e n q no : Str} {sg : Scope} {g CS : Addr} {cdg : Value} {cs : List (Str × Str)} {b₀ : Stmt} {suite : List Stmt} {j : Nat} {p1 p2 p3 p4 p5 p6 p7 p8 : Pos}
    (hN : Ng.Nodup) (h1 : Ng[1]? = some n) (hln : sg.names.lookup n = some .local) (hge : sg.names.lookup e = some .globalImplicit) (hme : X.mg e = some (.ref CS)) (hde : (e == ("__debug__" : Str)) = false) (h0 : ∀ f : Addr, (L2.start Ng [V.ref f])[0]? = some (some (V.ref f)))
    (hcs : ∀ p ∈ cs, PySem.W.exmOne X.K (.ref (He.ga X.K p.1)) (.ref CS) = some true)
    (hh : ∀ (s : Shared) (H : Hp), ∀ p ∈ cs, ∀ (a : Addr) (oe : Obj) (pn : List (Addr × Obj)), Zc (.ref (He.ga X.K p.1)) none oe → (∃ vs, oe.data = .fields vs) → PSs ((wordCx X Ng x sg g cdg s H).suite a ((a, oe) :: pn)) (b₀ :: suite) (fun E σ H => σ[1]? = some (some (.ref a)) ∧ E.rt (.str p.2) H)) :
    LamX.GivesTo X Ng x sg g cdg [.Try [.Expr (.Call (.Name a p1) [] [] p2) p3] [.ExceptHandler (some (.Name e p4)) (some n) (b₀ :: suite) p7] [] [] p8, .Return (some (.Constant (.str no) j p5)) p6] a q (TTword X.K cs no) := by
  intro f c' s H Q tl act hc h
  have hgl : Gl (wordCx X Ng x sg g cdg s H) e := hge
  refine ⟨_, pss_cons (ps_try_as (X := wordCx X Ng x sg g cdg s H) (i := 1) (c := .ref CS)
      (tb := fun W D σ H => ∃ Ech : XK, (∀ cls d σ' H', Ech cls d H' → W cls d σ' H') ∧ σ[0]? = some (some (.ref f)) ∧ H c' = some (LamX.CodeO c' q) ∧ tl Ech H fun _ H' => D.nx σ H')
      (ts := fun a cls d E σ H => (∃ σ0, σ = List.set σ0 1 (some (.ref a))) ∧ ∃ p ∈ cs, cls = .ref (He.ga X.K p.1) ∧ d = none ∧ E.rt (.str p.2) H)
      rfl rfl hN h1 hln ⟨hgl, hde, .inl hme⟩ LamX.takes0 (fun W pn xe tk _ => ?_) (fun a oe cls d pn hz hff => ⟨fun pins s σ H E I h => ?_⟩)) (pss_one (ps_ret pe_str)), ?_⟩
  · refine ⟨fun pins s' σ H' D I h' => ?_⟩
    obtain ⟨Ech, hW, k1, k2, k3⟩ := h'
    have hp := act W pn xe Ech p1 p2 tk hW
    have hq := pss_one (ps_expr (pos := p3) hp)
    exact hq.run pins s' σ H' D I ⟨k1, k2, k3⟩
  · obtain ⟨⟨σ0, e0⟩, p, hp, rfl, rfl, hv⟩ := h
    have hl : 1 < σ0.length := by
      have z := I.len
      rw [e0, List.length_set] at z
      rw [z]
      exact (List.getElem?_eq_some_iff.mp h1).1
    exact (hh _ _ p hp a oe pn hz hff).run pins s σ H E I ⟨by rw [e0, List.getElem?_set_self hl], hv⟩
  · refine ⟨fun cls d H' => d = none ∧ ∃ p ∈ cs, cls = .ref (He.ga X.K p.1) ∧ Q (.str p.2) H', fun cls d σ' H' ⟨e1, p, hp, e2, e3⟩ => ⟨true, by rw [e2]; exact hcs p hp, fun _ a _ => ⟨⟨σ', rfl⟩, p, hp, e2, e1, e3⟩, fun z => by cases z⟩, h0 f, hc, h⟩
/-- a step behind which the tables may have grown -/
theorem stp_ext {ρ : List Addr} {H H1 : Hp} (ext : LamX.ExtN H H1) : Stp ρ H ρ H1 := ⟨⟨[], by simp, fun _ z => absurd z (by simp)⟩, fun a o h k _ => ext a o h k, fun a xs h => ext a _ h (fun _ z => by cases z), fun a o u h => ext a _ h (fun _ z => by cases z), fun a ⟨o, e, k⟩ => ⟨o, ext a o e k, k⟩⟩
theorem SR.ext_ {G : Gx} {A : Addr → Prop} {ρ : List Addr} {H H1 : Hp} {lh : LH} (S : SR G A ρ H lh) (ext : LamX.ExtN H H1) (t : LamX.Tabs (tabsOf G.K) H1) : SR G A ρ H1 lh := ⟨S.len, S.nd, fun a z => (stp_ext (ρ := ρ) ext).trk a (S.av a z), fun n o e => by
  obtain ⟨a, h1, h2⟩ := S.obj n o e
  exact ⟨a, h1, h2.stp (stp_ext ext) fun u z k => ext a u z k⟩, t⟩
/-- x(lambda: body) -/
theorem ee_word {W : WX} {x a : Str} {g c P : Addr} {k : Nat} {pg : Arguments} {bg : List Stmt} {sg : Scope} {dV kV doc pm cdv ct oc : Value} {an od : Option Addr} {osl : Array (Option Value)} {Ng : List Str} {cs : List (Str × Str)} {no : Str} {m : EM}
    {params : Arguments} {body : Expr} {scope : Scope} {p lpos pos : Pos} (hg : Gl X x) (hm : X.mg x = some (.ref g)) (hk : PySem.W.keepIn X.K (.ref g) = true)
    (lk : X.K.lookup g = some ⟨oc, od, .func (PySem.W.fnOf x x pg bg sg dV kV doc pm an cdv ct), osl⟩) (hcg : PySem.W.codeIn X.K cdv x = true) (hb : L2.Binds X.K (PySem.W.fnOf x x pg bg sg dV kV doc pm an cdv ct) [a] []) (Sg : FnScope Ng [a] sg) (hNg : Ng[0]? = some a) (hva : Vis sg a)
    (hG : LamX.GivesTo X Ng x sg g cdv bg a (X.env.qual ++ "<lambda>") (TTword X.K cs no))
    (TB : LamX.TabB X.base X.mg c P) (hcode : X.env.code = .ref c) (hmT : (P, X.env.qual ++ "<lambda>") ∈ tabsOf X.K) (hu : ∀ p ∈ tabsOf X.K, p.1 = P → p.2 = X.env.qual ++ "<lambda>") (hr : Room (k + 2) X.A) (L : LamX.LamS X.env.scope scope) (hdef : defaultsOf params X.env = ([], []))
    (hbind : ∀ (q : Str) (cl : List (Str × Addr)) (pm cv ctv : Value), bindArgs (PySem.W.kla_fn "<lambda>" q params body scope cl pm cv ctv) ⟨[], []⟩ = pure [])
    (hbody : ∀ (A : Around) (outer : List Env) (s : Shared) (H : Hp) (E : XK) (f c' : Addr), Room k (A.deeper (LamX.lamEnv X scope s.heap.objs.size f c')) → EE (LamX.lamCx X A outer s H E scope f c') (WD E) body m)
    (hdb : (x == ("__debug__" : Str)) = false := by decide) (hd : (a == ("__debug__" : Str)) = false := by decide) (hcd : (a == ("__classdict__" : Str)) = false := by decide) :
    EE X W (.Call (.Name x p) [.Lambda params body scope lpos] [] pos) (eWord cs no m) := by
  refine peImp (LamX.pe_lamcall (T := tabsOf X.K) (t := fun E => tE (gx X) (WD E) m) hg hm hk lk hcg hb Sg hNg hva hG TB hcode hmT hu hr L hdef hbind hbody hdb hd hcd) fun σ H Q ⟨A, ρ, τ, lh, er, S, pr⟩ => ⟨S.tab, fun H1 ext tb1 => ?_⟩
  have s1 : Stp ρ H ρ H1 := stp_ext ext
  refine ⟨A, ρ, τ, lh, er.stp s1, S.ext_ ext tb1, ?_⟩
  unfold eWord at pr
  cases q : m τ lh with
  | ok d lh' =>
    rw [q] at pr
    exact fun ρ' H' v s' S' r' => pr ρ' H' (.str no) (s1.trans s') S' (.str _)
  | exc c lh' =>
    rw [q] at pr
    simp only at pr
    cases l : cs.lookup c with
    | none => rw [l] at pr; exact pr.elim
    | some w =>
      rw [l] at pr
      exact fun ρ' H' s' S' => ⟨rfl, (c, w), lookup_mem l, rfl, pr ρ' H' (.str w) (s1.trans s') S' (.str _)⟩
  | stuck => rw [q] at pr; exact pr.elim
end
@[simp] theorem z_word {cs : List (Str × Str)} {no : Str} {m : EM} {τ : Tau} {lh : LH} : eWord cs no m τ lh = (match m τ lh with
  | .ok _ lh' => .ok (.str no) lh'
  | .exc c lh' => (match cs.lookup c with
    | some s => .ok (.str s) lh'
    | none => .stuck)
  | .stuck => .stuck) := rfl
end Tb

/-! Defs that make lambdas: their code objects, their tables. -/
namespace Tb
open PySem PySem.Spec PyProof.Rows L2
/-- the code object cdv of the def whose names begin with qual: its table is among those known -/
def MakerAt (K : PySem.W.Frag) (mg : Str → Option Value) (base : Heap) (qual : Str) (cdv : Value) : Prop := ∃ c P, cdv = .ref c ∧ LamX.TabB base mg c P ∧ (P, qual ++ "<lambda>") ∈ tabsOf K ∧ ∀ p ∈ tabsOf K, p.1 = P → p.2 = qual ++ "<lambda>"
/-- each def that makes lambdas has its table -/
def TabAll (K : PySem.W.Frag) (mg : Str → Option Value) (base : Heap) : Prop := ∀ n ∈ lamMakers, ∀ (o : Obj) (fd : FuncData), K.lookup (He.ga K (Str.ofString n)) = some o → o.data = .func fd → MakerAt K mg base (Str.ofString n ++ ".<locals>.") fd.code
section
variable {P : Program} {w : World} {K : PySem.W.Frag} {mg : Str → Option Value} {base : Heap} {x : Str} {params : Arguments} {body : List Stmt} {scope : Scope} {f : Addr} {fd : FuncData}
theorem maker_at {n : String} {oc : Value} {od : Option Addr} {dV kV doc pm cdv ct : Value} {an : Option Addr} {osl : Array (Option Value)} (hn : n ∈ lamMakers) (T : TabAll K mg base) (lk : K.lookup (He.ga K (Str.ofString n)) = some ⟨oc, od, .func (PySem.W.fnOf (Str.ofString n) (Str.ofString n) params body scope dV kV doc pm an cdv ct), osl⟩) : MakerAt K mg base (Str.ofString n ++ ".<locals>.") cdv := T n hn _ _ lk rfl
theorem fok_ofM {N ps : List Str} {j k m : Nat} {n : String} (b : SM) (hn : n ∈ lamMakers) (T : TabAll K mg base) (F : ∃ fd, FunD K (Str.ofString n) (Str.ofString n) params body scope [] [] (He.ga K (Str.ofString n)) fd) (S : FnScope N ps scope) (hm : ps.length = m) (hk : N.length = m + k)
    (hbd : ∀ (kV doc pm : Value) (an : Option Addr) (cdv ct : Value) (us : List Value), us.length = ps.length → bindArgs (PySem.W.fnOf (Str.ofString n) (Str.ofString n) params body scope .none kV doc pm an cdv ct) ⟨us, []⟩ = pure (ps.zip us))
    (hb : ∀ (cdv : Value), MakerAt K mg base (Str.ofString n ++ ".<locals>.") cdv → ∀ (A : Around) (outer : List Env) (s : Shared) (H : Hp) (E : XK), Room j (A.deeper (envOfC (Str.ofString n) scope s.heap.objs.size (He.ga K (Str.ofString n)) cdv)) → ESs (cxOf (L2.CX P w) P w K mg base N (Str.ofString n) scope (He.ga K (Str.ofString n)) cdv A outer s H E) (WD E) body b) :
    FOk P w K mg base (j + 1) (He.ga K (Str.ofString n)) m (fnM k b) := by
  obtain ⟨fd, F⟩ := F
  refine ⟨fd, ps, ?_, F.bindsN hbd⟩
  obtain ⟨oc, od, dV, kV, doc, pm, an, cdv, ct, osl, rfl, lk, hcd, _, _⟩ := F.ex
  refine fn_of lk hcd S (fun vs H Q E h => by rw [h.1, hm]) fun A outer s H vs Q E hr ⟨hl, A', ρ, lh, ds, rs, S', pr⟩ => ⟨_, hb cdv (maker_at hn T lk) A outer s H E hr, A', ρ, _, lh, start_rel rs (by rw [hl]; exact hk), S', ?_⟩
  unfold fnM at pr
  cases q : b (ds.map some ++ List.replicate k none) lh with
  | nx τ lh' => rw [q] at pr; exact fun ρ' H' σ' s' S'' e => pr ρ' H' _ s' S'' .non
  | rt d lh' => rw [q] at pr; exact fun ρ' H' v s' S'' r => pr ρ' H' v s' S'' r
  | bk τ lh' => rw [q] at pr; exact pr.elim
  | exc c τ lh' => rw [q] at pr; exact fun ρ' H' σ' s' S'' e => pr ρ' H' s' S''
  | stuck => rw [q] at pr; exact pr.elim
/-- the code of a def as K has it -/
theorem fokG_ofM {N ps : List Str} {j k m : Nat} {n : String} (b : SM) (hn : n ∈ lamMakers) (T : TabAll K mg base) (F : ∃ fd, FunD K (Str.ofString n) (Str.ofString n) params body scope [] [] (He.ga K (Str.ofString n)) fd) (S : FnScope N ps scope) (hm : ps.length = m) (hk : N.length = m + k)
    (hbd : ∀ (kV doc pm : Value) (an : Option Addr) (cdv ct : Value) (us : List Value), us.length = ps.length → bindArgs (PySem.W.fnOf (Str.ofString n) (Str.ofString n) params body scope .none kV doc pm an cdv ct) ⟨us, []⟩ = pure (ps.zip us))
    (hb : ∀ (cdv : Value), MakerAt K mg base (Str.ofString n ++ ".<locals>.") cdv → ∀ (A : Around) (outer : List Env) (s : Shared) (H : Hp) (E : XK), A.guards = some [] → Room j (A.deeper (envOfC (Str.ofString n) scope s.heap.objs.size (He.ga K (Str.ofString n)) cdv)) → ESs (cxOf (L2.CX P w) P w K mg base N (Str.ofString n) scope (He.ga K (Str.ofString n)) cdv A outer s H E) (WD E) body b) :
    FOkG P w K mg base (j + 1) (He.ga K (Str.ofString n)) m (fnM k b) := by
  obtain ⟨fd, F⟩ := F
  refine ⟨fd, ps, ?_, F.bindsN hbd⟩
  obtain ⟨oc, od, dV, kV, doc, pm, an, cdv, ct, osl, rfl, lk, hcd, _, _⟩ := F.ex
  have hM := maker_at hn T lk
  refine ⟨fun vs H Q E h => by rw [h.1, hm], fun A out s H ar us vs Q E hG hr e0 hb' rv hsp => ?_⟩
  obtain ⟨hl, A', ρ, lh, ds, rs, S', pr⟩ := hsp
  have kin : K.In s.heap := e0.mod.kin.keeps fun b o z => (e0.bs b o z).1
  have nolim : s.heap.NoLimit := e0.mod.nolimit.keeps fun b o z => (e0.bs b o z).1
  refine codeAny_call_function hr.depth (kin _ _ lk) rfl S.co S.gen rfl (PySem.W.codeRec_of kin hcd) (hb' _ _ _ _ ?_)
  refine wpAny_newFunctionEnv_cells S.kind ?_ ?_
  · intro y hy
    obtain ⟨n', u⟩ := y
    rcases S.par n' (List.of_mem_zip hy).1 with z | z
    · exact .inl z
    · exact .inr ⟨z, PySem.W.cellsFrom_some _ _ _ (.inl z)⟩
  · intro env he s1 inCall
    subst he
    refine ⟨nolim.keeps inCall.toInCall.keep, codeAny_func ?_⟩
    have J := inv_start (CX := L2.CX P w) (E := E) S hr.hd e0 (by rw [hl, hm]) rv inCall
    refine wpAny_mono ((hb cdv hM A out s H E hG (hr.deeper _)).run [] s1 (start N vs) H { nx := fun _ H2 => Q .non H2, rt := Q } J ⟨A', ρ, _, lh, start_rel rs (by rw [hl]; exact hk), S', by
      unfold fnM at pr
      cases q : b (ds.map some ++ List.replicate k none) lh with
      | nx τ lh' => rw [q] at pr; exact fun ρ' H' σ' s' S'' e => pr ρ' H' _ s' S'' .non
      | rt d lh' => rw [q] at pr; exact fun ρ' H' v s' S'' r => pr ρ' H' v s' S'' r
      | bk τ lh' => rw [q] at pr; exact pr.elim
      | exc c τ lh' => rw [q] at pr; exact fun ρ' H' σ' s' S'' e => pr ρ' H' s' S''
      | stuck => rw [q] at pr; exact pr.elim⟩) (fun fl s2 hs2 => ?_) fun _ _ z => z
    cases fl with
    | ret u =>
      obtain ⟨v, σ2, H2, J2, r2, q2⟩ := hs2
      exact ⟨v, H2, J2.os, J2.bare, J2.base, J2.hok, r2, q2⟩
    | next =>
      obtain ⟨σ2, H2, J2, q2⟩ := hs2
      exact ⟨V.non, H2, J2.os, J2.bare, J2.base, J2.hok, rfl, q2⟩
    | brk => obtain ⟨_, _, _, z⟩ := hs2; exact z.elim
    | cont => obtain ⟨_, _, _, z⟩ := hs2; exact z.elim
end
section
variable {X : Cx}
/-- x(lambda: body), x told by its def -/
theorem ee_wordM {W : WX} {x a : Str} {k : Nat} {pg : Arguments} {bg : List Stmt} {sg : Scope} {Ng : List Str} {cs : List (Str × Str)} {no : Str} {m : EM}
    {params : Arguments} {body : Expr} {scope : Scope} {p lpos pos : Pos} (hm : X.mg x = some (.ref (He.ga X.K x))) (hk : PySem.W.keepIn X.K (.ref (He.ga X.K x)) = true)
    (F : ∃ fd, FunD X.K x x pg bg sg [] [] (He.ga X.K x) fd) (hbd : ∀ (kV doc pm : Value) (an : Option Addr) (cdv ct : Value) (us : List Value), us.length = [a].length → bindArgs (PySem.W.fnOf x x pg bg sg .none kV doc pm an cdv ct) ⟨us, []⟩ = pure ([a].zip us))
    (Sg : FnScope Ng [a] sg) (hNg : Ng[0]? = some a) (hva : Vis sg a)
    (hG : ∀ cdg, LamX.GivesTo X Ng x sg (He.ga X.K x) cdg bg a (X.env.qual ++ "<lambda>") (TTword X.K cs no))
    (hM : MakerAt X.K X.mg X.base X.env.qual X.env.code) (hr : Room (k + 2) X.A) (L : LamX.lamSB X.env.scope scope = true)
    (hbody : ∀ (A : Around) (outer : List Env) (s : Shared) (H : Hp) (E : XK) (f c' : Addr), Room k (A.deeper (LamX.lamEnv X scope s.heap.objs.size f c')) → EE (LamX.lamCx X A outer s H E scope f c') (WD E) body m)
    (hg : Gl X x := by rfl) (hdef : defaultsOf params X.env = ([], []) := by rfl)
    (hbind : ∀ (q : Str) (cl : List (Str × Addr)) (pm cv ctv : Value), bindArgs (PySem.W.kla_fn "<lambda>" q params body scope cl pm cv ctv) ⟨[], []⟩ = pure [] := by intro _ _ _ _ _; rfl)
    (hdb : (x == ("__debug__" : Str)) = false := by decide) (hd : (a == ("__debug__" : Str)) = false := by decide) (hcd : (a == ("__classdict__" : Str)) = false := by decide) :
    EE X W (.Call (.Name x p) [.Lambda params body scope lpos] [] pos) (eWord cs no m) := by
  obtain ⟨fd, F⟩ := F
  have hb := F.bindsN hbd
  obtain ⟨oc, od, dV, kV, doc, pm, an, cdv, ct, osl, rfl, lk, hcg, _, _⟩ := F.ex
  obtain ⟨c, P, hcode, TB, hmT, hu⟩ := hM
  exact ee_word hg hm hk lk hcg hb Sg hNg hva (hG cdv) TB hcode hmT hu hr (LamX.lamS_by L) hdef hbind hbody hdb hd hcd
end
theorem takes_lam {X : Cx} {A : Around} {outer : List Env} {s : Shared} {H : Hp} {E : XK} {scope : Scope} {f c' : Addr} : Takes (LamX.lamCx X A outer s H E scope f c') (WD E) := takes_of rfl rfl rfl rfl
end Tb

/-! len(set(xs)), xs a list of texts. -/
namespace Tb
open PySem PySem.Spec PyProof.Rows L2
def strO : D → Option Str
  | .str s => some s
  | _ => none
/-- how many different ones -/
def difN : List Str → Nat
  | [] => 0
  | a :: r => if a ∈ r then difN r else difN r + 1
theorem difN_le : ∀ l : List Str, difN l ≤ l.length
  | [] => Nat.le_refl _
  | a :: r => by
    have := difN_le r
    show (if a ∈ r then difN r else difN r + 1) ≤ r.length + 1
    split <;> omega
theorem difN_end (x : Str) : ∀ l : List Str, difN (l ++ [x]) = if x ∈ l then difN l else difN l + 1
  | [] => by simp [difN]
  | a :: r => by
    have ih := difN_end x r
    show (if a ∈ r ++ [x] then difN (r ++ [x]) else difN (r ++ [x]) + 1) = if x ∈ a :: r then (if a ∈ r then difN r else difN r + 1) else (if a ∈ r then difN r else difN r + 1) + 1
    rw [ih]
    by_cases e : x = a
    · subst e
      by_cases h : x ∈ r
      · simp [h]
      · simp [h]
    · have e' : ¬ a = x := fun h => e h.symm
      by_cases h : x ∈ r <;> by_cases h' : a ∈ r <;> simp [h, h', e, e']
def lsG (lh : LH) (d : D) : Ro := match asL lh d with
  | some xs => (match mapO strO xs with
    | some ss => if ss.length + 1 < 64 then .v (.int (difN ss : Nat)) else .no
    | none => .no)
  | none => .no
section
variable {prog : Program} {w : World} {A : Around} {R : Result → Shared → Prop} {I : Addr} {fp wr : List Addr} {G : Array GenState → Array GenState → Prop} {n : Nat} {P : Nat → Value → Prop} {St : Nat → Shared → Prop}
theorem set_update_strs (W : WalksS prog w A.in1 I fp wr G n P St) (S : Addr) (hSf : S ∉ fp) (xs : List Str) (hsz : xs.length = n) (hb : n + 1 < scanBound)
    (hval : ∀ i v, P i v → ∃ x t, xs[i]? = some x ∧ v = .str x t) :
    ∀ (k i : Nat) (s : Shared), n - i = k → i ≤ n → St i s →
      s.heap.SetOf (PySem.strKind prog w) S (fun k' => decide (k' ∈ xs.take i)) (difN (xs.take i)) →
      (∀ s', Moved (S :: wr) G s s' → s'.heap.SetOf (PySem.strKind prog w) S (fun k' => decide (k' ∈ xs)) (difN xs) → R (.ok (.ret .none)) s') →
      codeAny (model prog w) A (.builtin "set.update.loop" ⟨[.ref S, .ref I], []⟩) R s := by
  have hSw : S ∉ wr := fun h => hSf (W.sub _ h)
  have hsub : ∀ b ∈ wr, b ∈ S :: wr := fun b hb => List.mem_cons_of_mem _ hb
  intro k
  induction k with
  | zero =>
    intro i s hk hi hst hS hR
    have hin : i = n := by omega
    subst hin
    refine codeAny_builtin PyProof.Rows.F.entry_set_update_loop ?_
    rw [Around.under_plainId PyProof.Rows.F.plain_set_update_loop _]
    show wpAny _ A.in1 (pyNext (.ref I) >>= _) _ _ s
    refine wpAny_bind (W.done s _ _ hst fun s' hm => ?_)
    show wpAny _ A.in1 (ret Value.none) _ _ s'
    have e : xs.take i = xs := List.take_of_length_le (by omega)
    rw [e] at hS
    exact wpAny_pure (hR s' (hm.mono hsub) (by
      obtain ⟨o, es, ep, t, ho, rest⟩ := hS
      exact ⟨o, es, ep, t, hm.heap S _ hSw ho, rest⟩))
  | succ k ih =>
    intro i s hk hi hst hS hR
    have hlt : i < n := by omega
    refine codeAny_builtin PyProof.Rows.F.entry_set_update_loop ?_
    rw [Around.under_plainId PyProof.Rows.F.plain_set_update_loop _]
    show wpAny _ A.in1 (pyNext (.ref I) >>= _) _ _ s
    refine wpAny_bind (W.item i s _ _ hlt hst fun v s' hP hst' hm => ?_)
    obtain ⟨x, t, hx, rfl⟩ := hval i v hP
    have hS' : s'.heap.SetOf (PySem.strKind prog w) S (fun k' => decide (k' ∈ xs.take i)) (difN (xs.take i)) := by
      obtain ⟨o, es, ep, tb, ho, rest⟩ := hS
      exact ⟨o, es, ep, tb, hm.heap S _ hSw ho, rest⟩
    show wpAny _ A.in1 (holding [Value.str x t] (setAdd S (.str x t)) >>= _) _ _ s'
    refine wpAny_bind (wpAny_holding ?_)
    unfold setAdd
    refine wpAny_holding ?_
    refine wpAny_bind ((PySem.strKind prog w).pyHash (k := x) (strKind_is _ _ _ _) ?_)
    have hdl := difN_le (xs.take i)
    have htl : (xs.take i).length ≤ i := by rw [List.length_take]; exact Nat.min_le_left _ _
    refine wpAny_setAddHashed_of (knd := PySem.strKind prog w) (s := { s' with toks := s'.toks + 1 }) (strKind_is _ _ _ _) rfl hS' (by omega) fun h' hsb hS2 => ?_
    have et : xs.take (i + 1) = xs.take i ++ [x] := by rw [List.take_add_one, hx] <;> rfl
    have hSi : h'.SetOf (PySem.strKind prog w) S (fun k' => decide (k' ∈ xs.take (i + 1))) (difN (xs.take (i + 1))) := by
      rw [et]
      refine SetOf_congr hS2 (fun k' => ?_) ?_
      · simp [List.mem_append]
      · rw [difN_end]
        simp
    refine wpAny_pure ⟨plainId_quiet PyProof.Rows.F.plain_set_update_loop _, ih (i + 1) _ (by omega) hlt (W.frame _ s' _ _ hst' (Nat.le_succ _) fun b hb o e => ?_) hSi fun s'' hm'' hS'' => ?_⟩
    · rw [hsb.2 b (fun h : b = S => hSf (by rw [← h]; exact hb))]; exact e
    · refine hR s'' (Moved.trans W.gtrans ((hm.mono hsub).then_heap (Nat.le_succ _) fun b o hb e => ?_) hm'') hS''
      rw [hsb.2 b (fun h : b = S => hb (by rw [h]; exact List.mem_cons_self))]; exact e
theorem strs_get : ∀ {us : List Value} {xs : List Str}, StrsAre us xs → ∀ (i : Nat) (v : Value), us[i]? = some v → ∃ x t, xs[i]? = some x ∧ v = .str x t
  | _, _, .nil, i, v, h => by simp at h
  | _, _, .cons n t hr, 0, v, h => by simp at h; exact ⟨n, t, rfl, h.symm⟩
  | _, _, .cons n t hr, i + 1, v, h => by
    simp only [List.getElem?_cons_succ] at h ⊢
    exact strs_get hr i v h
end
section
variable {prog : Program} {w : World} {A : Around} {E : Value → Shared → Prop} {s : Shared}
set_option maxHeartbeats 3200000 in
/-- set(xs) of a list of texts -/
theorem call_set_lstS {l : Addr} {items : Array Value} {xs : List Str} {Q : Value → Shared → Prop}
    (hh : A.handled = none) (hl : s.heap.IsList l items) (hi : PyProof.Rows.StrsAre items.toList xs) (hn1 : xs.length + 1 < scanBound)
    (h : ∀ (h' : Heap) (tk : Nat), h'.SetOf (PySem.strKind prog w) s.heap.objs.size (fun k' => decide (k' ∈ xs)) (difN xs) →
      (∀ b o, b < s.heap.objs.size → s.heap.get? b = some o → h'.get? b = some o) → Q (.ref s.heap.objs.size) { s with heap := h', toks := tk }) :
    wpAny (model prog w) A (call (.type "set") [.ref l]) Q E s := by
  obtain ⟨c, tl, hmro⟩ := PySem.F.called_set.mro
  have hmade := PySem.F.called_set.made
  have hsub := PySem.F.called_set.sub
  refine wpAny_call (codeAny_of_tree ?_)
  show wpAny _ _ (callAny (.type "set") _) _ _ _
  refine wpAny_pure ⟨Code.quiet_builtin _ (by decide +kernel), codeAny_builtin PySem.F.entry_type_call ?_⟩
  rw [Around.under_plain (weight_type_call_type "set" [.ref l] []) rfl]
  have h1 := PySem.F.called_set.notType
  have h2 := PySem.F.called_set.canCreate
  have hct := PySem.F.typeCall_set_1 (.ref l)
  repeat (any_goals (first | assumption | wp_step))
  refine codeAny_mono (code_set_new_1 (.ref l) (E := E) (Q₁ := fun obj s₁ => ∃ led : Bool, obj = .ref s.heap.objs.size ∧ s₁ = { s with heap := s.heap.push { cls := .type "set", dict := none, data := .set #[] 0 (.fresh 0 0 led) } }) fun led => ⟨led, rfl, rfl⟩) fun r s₁ hr => ?_
  cases r with
  | error e => exact hr
  | ok fl =>
    cases fl with
    | ret obj =>
      obtain ⟨led, rfl, rfl⟩ := hr
      have hS : (s.heap.push { cls := .type "set", dict := none, data := .set #[] 0 (.fresh 0 0 led) }).get? s.heap.objs.size = some { cls := .type "set", dict := none, data := .set #[] 0 (.fresh 0 0 led) } := Heap.get?_push_size _ rfl
      have hT : Shared.TypeIs { s with heap := s.heap.push { cls := .type "set", dict := none, data := .set #[] 0 (.fresh 0 0 led) } } (.ref s.heap.objs.size) "set" := ⟨_, hS, rfl⟩
      have hli := PySem.F.called_set.init.lookup
      have hbi := PySem.F.called_set.init.bind (.ref s.heap.objs.size)
      repeat (any_goals (first | assumption | wp_step))
      refine codeAny_mono (codeAny_call_builtin (R := wants (fun r s₂ => r = .none ∧ ∃ h' tk, s₂ = { s with heap := h', toks := tk } ∧
          h'.SetOf (PySem.strKind prog w) s.heap.objs.size (fun k' => decide (k' ∈ xs)) (difN xs) ∧
          (∀ b o, b < s.heap.objs.size → s.heap.get? b = some o → h'.get? b = some o)) E) PySem.F.called_set.init.plain PySem.F.entry_set_init (check_set_init_1 hT ?_)) fun r₂ s₂ hr₂ => ?_
      · obtain ⟨ol, hol, hcl, nl, hdl⟩ := hl
        obtain ⟨ocls, odict, odata, oslots⟩ := ol
        simp only at hcl hdl
        subst hcl; subst hdl
        have hol' : (s.heap.push { cls := .type "set", dict := none, data := .set #[] 0 (.fresh 0 0 led) }).get? l = some { cls := .type "list", dict := odict, data := .seq items nl, slots := oslots } := Heap.get?_push_of_some _ hol
        have hsls := PySem.F.sub_list_set
        have hslf := PySem.F.sub_list_frozenset
        have hne : (Value.type "list" == Value.type "dict") = false := by decide
        have hl1 : (s.heap.push { cls := .type "set", dict := none, data := .set #[] 0 (.fresh 0 0 led) }).IsList l items := ⟨_, hol', rfl, nl, rfl⟩
        unfold Builtin.«set.__init__» noKeywords Builtin.Frozenset.updateFrom
        generalize hPI : pyIter = PI
        wp_walk
        subst hPI
        refine wpAny_pyIter_list hl1 ?_
        refine wpAny_bind (wpAny_runValue ?_)
        have hlS : l < s.heap.objs.size := Heap.lt_size hol
        have hh3 : A.in1.in1.in1.handled = none := by simp [hh]
        have hneI : l ≠ (s.heap.push { cls := .type "set", dict := none, data := .set #[] 0 (.fresh 0 0 led) }).objs.size := by
          rw [Heap.size_push]; exact Nat.ne_of_lt (Nat.lt_succ_of_lt hlS)
        have hSf : s.heap.objs.size ∉ [(s.heap.push { cls := .type "set", dict := none, data := .set #[] 0 (.fresh 0 0 led) }).objs.size, l] := by
          rw [Heap.size_push]; simp only [List.mem_cons, List.mem_singleton, List.not_mem_nil, or_false, not_or]
          exact ⟨Nat.ne_of_lt (Nat.lt_succ_self _), Nat.ne_of_gt hlS⟩
        have hsz : xs.length = items.size := by rw [← StrsAre.len_eq hi, Array.length_toList]
        have hval : ∀ (i : Nat) (v : Value), items[i]? = some v → ∃ x t, xs[i]? = some x ∧ v = .str x t := fun i v hv => strs_get hi i v (by rw [Array.getElem?_toList]; exact hv)
        refine set_update_strs ((Walks.list hh3 _ l hneI items).toS) s.heap.objs.size
          hSf xs hsz (by rw [← hsz]; exact hn1) hval (items.size - 0) 0 _ (by omega) (Nat.zero_le _)
          ⟨⟨_, Heap.get?_push_size _ rfl, rfl, rfl⟩, (hl1.push _)⟩ ?hS0 ?hR
        case hS0 =>
          have hget : ((s.heap.push { cls := .type "set", dict := none, data := .set #[] 0 (.fresh 0 0 led) }).push { cls := .type "list_iterator", data := .fields #[.ref l, .int 0 0] }).get? s.heap.objs.size
              = some { cls := .type "set", dict := none, data := .set #[] 0 (.fresh 0 0 led) } := Heap.get?_push_of_some _ hS
          exact PyProof.Rows.SetOf_congr ((PyProof.Rows.setObjOf_fresh (knd := PySem.strKind prog w) led).setOf hget (by unfold scanBound; omega)) (fun _ => by simp) (by simp [difN])
        case hR =>
          intro s' hm hS'
          obtain ⟨h', g', d', tk', os'⟩ := s'
          have eg : g' = s.gens := hm.gens
          have ed : d' = s.drawn := hm.drawn
          have eo : os' = s.os := hm.os
          subst eg; subst ed; subst eo
          show wpAny _ _ _ _ _ _
          refine wpAny_pure ?_
          show wpAny _ _ (ret Value.none) _ _ _
          refine wpAny_pure ⟨rfl, h', tk', rfl, hS', fun b o hb e => ?_⟩
          have hb1 : b ≠ s.heap.objs.size := Nat.ne_of_lt hb
          have hb2 : b ≠ (s.heap.push { cls := .type "set", dict := none, data := .set #[] 0 (.fresh 0 0 led) }).objs.size := by
            rw [Heap.size_push]; exact Nat.ne_of_lt (Nat.lt_succ_of_lt hb)
          exact hm.heap b o (by simp only [List.mem_cons, List.mem_singleton, List.not_mem_nil, or_false, not_or]; exact ⟨hb1, hb2⟩) (Heap.get?_push_of_some _ (Heap.get?_push_of_some _ e))
      · cases r₂ with
        | error e => exact hr₂
        | ok fl₂ =>
          cases fl₂ with
          | ret r =>
            obtain ⟨rfl, h', tk, rfl, hS', hk'⟩ := hr₂
            repeat (any_goals (first | assumption | wp_step))
            exact h _ _ hS' hk'
          | _ => exact hr₂.elim
    | _ => exact hr.elim
end
section
variable {X : Cx}
/-- len(set(xs)), xs a list of texts -/
def tLenSetS (K : PySem.W.Frag) (ta : TE) : TE := fun σ H Q => ta σ H fun x H1 => ∃ l, ∃ xs : List Str, x = .ref l ∧ SqL K H1 l (xs.map V.str) ∧ xs.length + 1 < 64 ∧ Q (.int (difN xs : Nat)) H1
theorem pe_lenSetS {a : Expr} {ta : TE} {p p2 q pos : Pos} (hc : X.calm = true) (hg : Gl X "len") (hm : X.mg "len" = none) (hg2 : Gl X "set") (hm2 : X.mg "set" = none) (ha : PE X a ta)
    (na : starEach [a] X.env = (false, eval a X.env) :: starEach [] X.env := by rfl) : PE X (.Call (.Name "len" p) [.Call (.Name "set" p2) [a] [] q] [] pos) (tLenSetS X.K ta) := by
  refine ⟨fun pins s σ H Q I h => ?_⟩
  refine Call_ (ld_blt I hg hm boot_len ?_)
  refine PyProof.Rows.callWith_builtin1 (PyProof.Rows.args_cons ?_ rfl) rfl rfl
  refine Call_ (ld_blt I hg2 hm2 boot_set ?_)
  refine PyProof.Rows.callWith_type1 (PyProof.Rows.args_cons (thn (ha.run pins s σ H _ I h) fun v s1 ⟨x, H1, I1, r1, q1⟩ => PyProof.Rows.args_nil ?_) na) na rfl
  obtain ⟨l, xs, rfl, hq, h1, q1⟩ := q1
  cases r1
  obtain ⟨its, r, pl, hz⟩ := I1.list hq
  refine call_set_lstS (I1.ok.hd hc) pl.isList (by simpa using strsAre_of r) (by unfold scanBound; omega) fun h' tk hS hk => ?_
  refine PyProof.Rows.args_nil ?_
  have hdl := difN_le xs
  obtain ⟨o, es, ep, t, ho, hex, hd, _, _, _, hf, hn⟩ := hS
  have I2 : Inv X pins σ H1 { s1 with heap := h', toks := tk } := I1.kept fun b o e => hk b o (Heap.lt_size e) e
  exact call_len_set ho hex hd hf (by rw [hn] <;> omega) ⟨.int (difN xs : Nat), H1, I2.tok _, ⟨_, by rw [hn]⟩, q1⟩
end
section
variable {G : Gx} {A : Addr → Prop} {ρ : List Addr} {H : Hp}
theorem vrs_strs : ∀ {vs : List V} {ds : List D} {ns : List Str}, VRs G A ρ H vs ds → mapO strO ds = some ns → vs = ns.map V.str
  | _, _, _, .nil, h => by cases h; rfl
  | _, _, _, .cons (v := v) (d := d) r rs, h => by
    obtain ⟨y, ys, e1, e2, rfl⟩ := mapO_cons h
    rw [List.map_cons, ← vrs_strs rs e2]
    cases r with
    | str i => cases e1; rfl
    | _ => cases e1
end
theorem ee_lenSetS {X : Cx} {W : WX} {e : Expr} {m : EM} {p p2 q pos : Pos} (hc : X.calm = true) (he : EE X W e m) (hm : X.mg "len" = none) (hm2 : X.mg "set" = none) (hg : Gl X "len" := by rfl) (hg2 : Gl X "set" := by rfl)
    (na : starEach [e] X.env = (false, eval e X.env) :: starEach [] X.env := by rfl) : EE X W (.Call (.Name "len" p) [.Call (.Name "set" p2) [e] [] q] [] pos) (e1 false lsG m) :=
  peImp (pe_lenSetS hc hg hm hg2 hm2 he na) fun σ H Q ⟨A, ρ, τ, lh, er, S, pr⟩ => ⟨A, ρ, τ, lh, er, S, PRg.thn pr fun d lh1 ρ1 H1 x s1 S1 r1 pr1 => by
    have pr4 := PRo.of pr1
    unfold lsG at pr4
    split at pr4
    · rename_i ds hd
      split at pr4
      · rename_i ns hns
        split at pr4
        · rename_i hl
          obtain ⟨a, vs, rfl, hq, rs⟩ := asL_rel S1 r1 hd
          have ev := vrs_strs rs hns
          subst ev
          exact ⟨a, ns, rfl, hq, hl, PRo.val (al := false) (lh := lh1) pr4 S1 (.int _)⟩
        · exact pr4.elim
      · exact pr4.elim
    · exact pr4.elim⟩
end Tb

/-! The law's end, its def called under no repr, where defs below it make lambdas: their tables are tracked, empty. -/
namespace Tb
open PySem PySem.Spec PyProof.Rows L2
/-- the table at b of the code object at c, empty, not among what stands fast -/
structure Tbl0 (h : Heap) (K : PySem.W.Frag) (c b : Addr) : Prop where
  emp : h.get? b = some { cls := .none, data := .fields #[] }
  out : K.lookup b = none
  code : PySem.W.CodeHd h c b
theorem law_callGT {P : Program} {w : World} {K : PySem.W.Frag} {mg mb : Str → Option Value} {k : Nat} {fa a : Addr} {fd : FuncData} {x : Str} {sp : Sp} {s1 : Shared} {us : List Value} {ns : List Int} (Ps : List Addr)
    (kin : K.In s1.heap) (hN : s1.heap.Ns mainGlobals mg) (hB : s1.heap.Ns builtinsNs mb) (hBB : ∀ y : Str, y ≠ "__name__" → mb y = bootBuiltins y) (hL : s1.heap.NoLimit) (hgen : s1.gens = #[])
    (hbm : ∃ (bm : Addr) (ob : Obj), mg "__builtins__" = some (.ref bm) ∧ bm ≠ builtinsNs ∧ s1.heap.get? bm = some ob ∧ ob.cls = .type "module" ∧ ob.dict = some builtinsNs ∧ ob.data = .plain)
    (hT : ∀ b ∈ Ps, ∃ c, Tbl0 s1.heap K c b)
    (ha : s1.heap.get? a = some { cls := .type "list", data := .seq us.toArray }) (hi : IntsAre us ns) (hsz : ns.length ≤ sizeLine) (hr : Room k callerA)
    (F : ∀ base : Heap, (∀ c b, b ∈ Ps → Tbl0 s1.heap K c b → LamX.TabB base mg c b) → FnG P w K mg base k fa fd [x] sp) (hbind : ∀ (s : Shared) (u : Value), BindsTo s fd ⟨[u], []⟩ [(x, u)])
    (hsp : ∀ H : Hp, (∀ b ∈ Ps, H b = some (.tbl #[])) → SqL K H a (ns.map V.int) → sp [.ref a] H (fun v _ => v = .bl true) fun _ _ _ => False) (hCX : ∀ H e s2, L2.CX P w [] H s1 (fun _ _ _ => False) e s2 → False) :
    codeAny (model P w) callerA (.call (.ref fa) ⟨[.ref a], []⟩) (fun r s2 => r = .ok (.ret (.bool true)) ∧ OldK s1.heap s2.heap ∧ s2.os = s1.os ∧ AllBare s2.gens) s1 := by
  have rv := vals_ints hi
  have hlen := hi.length
  have emp : ∀ b ∈ Ps, s1.heap.get? b = some { cls := .none, data := .fields #[] } := fun b hb => (hT b hb).elim fun _ t => t.emp
  have notA : a ∉ Ps := fun z => by
    have q := emp a z
    rw [ha] at q
    cases q
  have main : ∀ H : Hp, (∀ b ∈ Ps, H b = some (.tbl #[])) → (∀ b u, H b = some u → (b = a ∧ K.lookup a = none ∧ ∃ o xs, u = .frz o (.lst xs)) ∨ b ∈ Ps) → SqL K H a (ns.map V.int) → HOk P w H s1.heap →
      codeAny (model P w) callerA (.call (.ref fa) ⟨[.ref a], []⟩) (fun r s2 => r = .ok (.ret (.bool true)) ∧ OldK s1.heap s2.heap ∧ s2.os = s1.os ∧ AllBare s2.gens) s1 := by
    intro H hP hO hS hok
    -- what is neither a list nor an empty table is seen
    have seen : ∀ {b : Addr} {o : Obj}, s1.heap.get? b = some o → (∀ vs n, o.data ≠ .seq vs n) → o.data ≠ .fields #[] → H b = none := by
      intro b o g n1 n2
      cases z : H b with
      | none => rfl
      | some u =>
        rcases hO b u z with ⟨eb, _⟩ | hb
        · rw [eb, ha] at g
          cases g
          exact absurd rfl (n1 _ _)
        · rw [emp b hb] at g
          cases g
          exact absurd rfl n2
    have vis : ∀ {b : Addr} {o : Obj}, s1.heap.get? b = some o → (∀ vs n, o.data ≠ .seq vs n) → o.data ≠ .fields #[] → (hidT s1.heap H).get? b = some o := fun g n1 n2 => hidT_get g (seen g n1 n2)
    have ns2 : ∀ {b : Addr} {m : Str → Option Value}, s1.heap.Ns b m → (hidT s1.heap H).Ns b m := by
      rintro b m ⟨o, es, n, g, d, r⟩
      exact ⟨o, es, n, vis g (fun vs n z => by rw [d] at z; cases z) (fun z => by rw [d] at z; cases z), d, r⟩
    have kin2 : K.In (hidT s1.heap H) := by
      intro b o lk
      refine hidT_get (kin b o lk) ?_
      cases z : H b with
      | none => rfl
      | some u =>
        rcases hO b u z with ⟨eb, en, _⟩ | hb
        · rw [eb, en] at lk
          cases lk
        · obtain ⟨c, t⟩ := hT b hb
          rw [t.out] at lk
          cases lk
    obtain ⟨mc, hm1, hm2⟩ := hL
    have hM : L2.Mod K mg (hidT s1.heap H) := ⟨kin2, ns2 hN, ⟨mb, ns2 hB, hBB⟩, mc, ns2 hm1, hm2⟩
    have tabs : ∀ c b, b ∈ Ps → Tbl0 s1.heap K c b → LamX.TabB (hidT s1.heap H) mg c b := by
      intro c b hb t
      refine { code := ?_, bm := ?_, gP := ?_ }
      · obtain ⟨o, vs, f1, f2, f3, f4, f5, f6, f7, g, h1, h2, h3, h4⟩ := t.code
        exact ⟨o, vs, f1, f2, f3, f4, f5, f6, f7, vis g (fun vs n z => by rw [h2] at z; cases z) (fun z => by rw [h2] at z; cases z; simp at h3), h1, h2, h3, h4⟩
      · obtain ⟨bm, ob, k1, k2, k3, k4, k5, k6⟩ := hbm
        refine ⟨bm, ob, k1, k2, fun z => ?_, fun z => ?_, vis k3 (fun vs n z => by rw [k6] at z; cases z) (fun z => by rw [k6] at z; cases z), k4, k5, k6⟩
        · obtain ⟨o, es, ep, g, d, _⟩ := hN
          rw [z, g] at k3
          cases k3
          rw [d] at k6
          cases k6
        · rw [z, t.emp] at k3
          cases k3
          cases k6
      · intro z
        obtain ⟨o, es, ep, g, d, _⟩ := hN
        rw [z, t.emp] at g
        cases g
        cases d
    have e0 : Env0 P w K mg (hidT s1.heap H) callerA [] s1 H := ⟨rfl, hM, fun b o z => of_hidT z, Nat.le_of_eq (hidT_size _ _), trivial, (fun b z => absurd (show b ∈ ([] : List Addr) from z) (by simp)), hok, .of_eq hgen⟩
    refine codeAny_mono ((F _ tabs).go callerA [] s1 H ⟨[.ref a], []⟩ [.ref a] [.ref a] _ _ rfl hr e0 (hbind s1 (.ref a)) (.cons rfl .nil) (hsp H hP hS)) fun r s2 z => ?_
    cases r with
    | error e => exact (hCX H e s2 z).elim
    | ok fl =>
      cases fl with
      | next => exact z.elim
      | brk => exact z.elim
      | cont => exact z.elim
      | ret u =>
        obtain ⟨v, H2, os, bare, un, hok2, rel, q⟩ := z
        have ev : v = .bl true := q
        subst ev
        have eu : u = Value.bool true := rel
        subst eu
        have stay : ∀ b o, b ∉ Ps → s1.heap.get? b = some o → s2.heap.get? b = some o := by
          intro b o nb g
          cases z : H b with
          | none => exact un.keep b o g z (fun y => absurd (show b ∈ ([] : List Addr) from y) (by simp)) (fun y => nomatch y)
          | some u =>
            rcases hO b u z with ⟨_, _, ob, xs, e⟩ | hb
            · rw [e] at z
              have g1 := (hok b _ z).1
              have g2 := (hok2 b _ (un.frzs b ob _ z)).1
              rw [g] at g1
              cases g1
              exact g2
            · exact absurd hb nb
        have more : ∀ b ∈ Ps, ∃ m : Array Value, s2.heap.get? b = some { cls := .none, data := .fields (#[] ++ m) } := fun b hb => by
          obtain ⟨m, z⟩ := un.tbls b #[] (hP b hb)
          exact ⟨m, hok2 b _ z⟩
        refine ⟨rfl, ⟨fun b o g => ?_, fun b o g => ?_⟩, os, bare⟩
        · by_cases hb : b ∈ Ps
          · obtain ⟨c, t⟩ := hT b hb
            obtain ⟨m, hm⟩ := more b hb
            rw [t.emp] at g
            cases g
            exact .inr (.inl ⟨(t.code.tab t.emp).isCodeTable, rfl, #[], m, rfl, hm⟩)
          · exact .inl (stay b o hb g)
        · by_cases hb : b ∈ Ps
          · obtain ⟨m, hm⟩ := more b hb
            exact ⟨_, hm⟩
          · exact ⟨o, stay b o hb g⟩
  cases lk : K.lookup a with
  | some o =>
    have g := kin a o lk
    rw [ha] at g
    cases g
    refine main (fun b => if b ∈ Ps then some (.tbl #[]) else none) (fun b hb => if_pos hb) (fun b u z => ?_) (.inr ⟨_, us.toArray, _, lk, rfl, rfl, rfl, by rw [List.size_toArray, hlen]; exact hsz, by simpa using rv⟩) fun b u z => ?_
    · by_cases hb : b ∈ Ps
      · exact .inr hb
      · simp only [hb, if_false] at z
        cases z
    · by_cases hb : b ∈ Ps
      · simp only [hb, if_true] at z
        cases z
        exact emp b hb
      · simp only [hb, if_false] at z
        cases z
  | none =>
    refine main (fun b => if b = a then some (.frz { cls := .type "list", data := .seq us.toArray } (.lst (ns.map V.int))) else if b ∈ Ps then some (.tbl #[]) else none) (fun b hb => ?_) (fun b u z => ?_) (.inl (.inr ⟨_, if_pos rfl⟩)) (fun b u z => ?_)
    · have nb : ¬ b = a := fun e => notA (by rw [← e]; exact hb)
      simp only [nb, hb, if_false, if_true]
    · by_cases eb : b = a
      · simp only [eb, if_true] at z
        cases z
        exact .inl ⟨eb, lk, _, _, rfl⟩
      · by_cases hb : b ∈ Ps
        · exact .inr hb
        · simp only [eb, hb, if_false] at z
          cases z
    · by_cases eb : b = a
      · subst eb
        simp only [if_true] at z
        cases z
        exact ⟨ha, by rw [List.length_map]; exact hsz, us, _, rv, ha⟩
      · by_cases hb : b ∈ Ps
        · simp only [eb, hb, if_false, if_true] at z
          cases z
          exact emp b hb
        · simp only [eb, hb, if_false] at z
          cases z
theorem tabAt_some {K : PySem.W.Frag} {f P : Addr} (e : tabAt K f = some P) : ∃ (o : Obj) (fd : FuncData) (c : Addr) (oc : Obj) (vs : Array Value), K.lookup f = some o ∧ o.data = .func fd ∧ fd.code = .ref c ∧ K.lookup c = some oc ∧ oc.data = .fields vs ∧ vs[11]? = some (.ref P) := by
  unfold tabAt at e
  split at e
  · rename_i o h1
    split at e
    · rename_i fd h2
      split at e
      · rename_i c h3
        split at e
        · rename_i oc h4
          split at e
          · rename_i vs h5
            split at e
            · rename_i P' h6
              cases e
              exact ⟨o, fd, c, oc, vs, h1, h2, h3, h4, h5, h6⟩
            · cases e
          · cases e
        · cases e
      · cases e
    · cases e
  · cases e
/-- the table of the def n at the head: empty -/
theorem tbl_of {h : Heap} {K : PySem.W.Frag} {mg : Str → Option Value} {n : Str} {P : Addr} (kin : K.In h) (hg : mg n = some (.ref (He.ga K n))) (t : ∃ (a : Addr) (o : Obj) (fd : FuncData) (c P : Addr), mg n = some (.ref a) ∧ h.get? a = some o ∧ o.data = .func fd ∧ fd.code = .ref c ∧ h.IsCode c P #[] ∧ h.TableAt c P #[])
    (e : tabAt K (He.ga K n) = some P) (ho : K.lookup P = none) : ∃ c, Tbl0 h K c P ∧ ∀ (o : Obj) (fd : FuncData), K.lookup (He.ga K n) = some o → o.data = .func fd → fd.code = .ref c := by
  obtain ⟨o, fd, c, oc, vs, k1, k2, k3, k4, k5, k6⟩ := tabAt_some e
  obtain ⟨a', o', fd', c', P', t1, t2, t3, t4, t5, t6⟩ := t
  rw [hg] at t1
  cases t1
  rw [kin _ _ k1] at t2
  cases t2
  rw [k2] at t3
  cases t3
  rw [k3] at t4
  cases t4
  obtain ⟨⟨oc', vs', u1, u2, u3, u4⟩, u5⟩ := id t6
  rw [kin _ _ k4] at u1
  cases u1
  rw [k5] at u3
  cases u3
  rw [k6] at u4
  cases u4
  refine ⟨c, ⟨u5, ho, PySem.W.CodeHd.of t5 t6⟩, fun o2 fd2 q1 q2 => ?_⟩
  rw [k1] at q1
  cases q1
  rw [k2] at q2
  cases q2
  exact k3
/-- what the head shows of the tables: each maker has one, no two the same, none of them stands fast -/
def mkB (K : PySem.W.Frag) : Bool := (lamMakers.all fun n => match tabAt K (He.ga K (Str.ofString n)) with
  | some P => (K.lookup P).isNone
  | none => false) && decide ((tabsOf K).map (·.1)).Nodup
theorem lamName_eq : ∀ n ∈ lamMakers, lamName (Str.ofString n) = (Str.ofString n ++ ".<locals>.") ++ "<lambda>" := by decide +kernel
theorem tabsOf_mem {K : PySem.W.Frag} {p : Addr × Str} : p ∈ tabsOf K ↔ ∃ n ∈ lamMakers, tabAt K (He.ga K (Str.ofString n)) = some p.1 ∧ p.2 = lamName (Str.ofString n) := by
  unfold tabsOf
  rw [List.mem_filterMap]
  constructor
  · rintro ⟨n, hn, e⟩
    obtain ⟨P, h1, rfl⟩ := Option.map_eq_some_iff.mp e
    exact ⟨n, hn, h1, rfl⟩
  · rintro ⟨n, hn, h1, h2⟩
    obtain ⟨P, q⟩ := p
    simp only at h1 h2
    exact ⟨n, hn, by rw [h1, h2]; rfl⟩
theorem nodup_fst {α β : Type} : ∀ {l : List (α × β)}, (l.map (·.1)).Nodup → ∀ {a b : α × β}, a ∈ l → b ∈ l → a.1 = b.1 → a = b := by
  intro l
  induction l with
  | nil => intro _ a b h; cases h
  | cons c l ih =>
    intro hn a b ha hb e
    obtain ⟨n1, n2⟩ := List.nodup_cons.mp (by simpa using hn : (c.1 :: l.map (·.1)).Nodup)
    rcases List.mem_cons.mp ha with ea | ha'
    · rcases List.mem_cons.mp hb with eb | hb'
      · rw [ea, eb]
      · exact absurd (show c.1 ∈ l.map (·.1) from List.mem_map.mpr ⟨b, hb', by rw [← e, ea]⟩) n1
    · rcases List.mem_cons.mp hb with eb | hb'
      · exact absurd (show c.1 ∈ l.map (·.1) from List.mem_map.mpr ⟨a, ha', by rw [e, eb]⟩) n1
      · exact ih n2 ha' hb' e
theorem tabs_head {h : Heap} {K : PySem.W.Frag} {mg : Str → Option Value} (kin : K.In h) (hB : mkB K = true) (hg : ∀ n ∈ lamMakers, mg (Str.ofString n) = some (.ref (He.ga K (Str.ofString n))))
    (t : ∀ n ∈ lamMakers, ∃ (a : Addr) (o : Obj) (fd : FuncData) (c P : Addr), mg (Str.ofString n) = some (.ref a) ∧ h.get? a = some o ∧ o.data = .func fd ∧ fd.code = .ref c ∧ h.IsCode c P #[] ∧ h.TableAt c P #[]) :
    (∀ b ∈ (tabsOf K).map (·.1), ∃ c, Tbl0 h K c b) ∧ ∀ base : Heap, (∀ c b, b ∈ (tabsOf K).map (·.1) → Tbl0 h K c b → LamX.TabB base mg c b) → TabAll K mg base := by
  unfold mkB at hB
  rw [Bool.and_eq_true, decide_eq_true_eq] at hB
  obtain ⟨hB, nd⟩ := hB
  have one : ∀ n ∈ lamMakers, ∃ P, tabAt K (He.ga K (Str.ofString n)) = some P ∧ K.lookup P = none := fun n hn => by
    have q := List.all_eq_true.mp hB n hn
    split at q
    · rename_i P e
      exact ⟨P, e, by simpa using q⟩
    · cases q
  refine ⟨fun b hb => ?_, fun base hb n hn o fd k1 k2 => ?_⟩
  · obtain ⟨p, hp, rfl⟩ := List.mem_map.mp hb
    obtain ⟨n, hn, e, _⟩ := tabsOf_mem.mp hp
    obtain ⟨P, e2, ho⟩ := one n hn
    rw [e] at e2
    cases e2
    obtain ⟨c, q, _⟩ := tbl_of kin (hg n hn) (t n hn) e ho
    exact ⟨c, q⟩
  · obtain ⟨P, e, ho⟩ := one n hn
    obtain ⟨c, q, hc⟩ := tbl_of kin (hg n hn) (t n hn) e ho
    have hm : (P, lamName (Str.ofString n)) ∈ tabsOf K := tabsOf_mem.mpr ⟨n, hn, e, rfl⟩
    have en := lamName_eq n hn
    refine ⟨c, P, hc o fd k1 k2, hb c P (List.mem_map.mpr ⟨_, hm, rfl⟩) q, by rw [← en]; exact hm, fun p hp ep => ?_⟩
    rw [← en]
    have := nodup_fst nd hp hm ep
    rw [this]
theorem tabs_nil {K : PySem.W.Frag} {H : Hp} (h : ∀ b ∈ (tabsOf K).map (·.1), H b = some (.tbl #[])) : LamX.Tabs (tabsOf K) H := fun p hp => LamX.TabS.nil (h p.1 (List.mem_map.mpr ⟨p, hp, rfl⟩))
theorem walkGT {l : PySem.W.OpenLaw} {n k : Nat} {q : Program} {loose : List Str} {XP : (Str → Option Value) → Heap → Prop} {YP : World → Heap → Prop} {d : DefRec} {x : Str}
    (hn : l.most = some n) (hn2 : n ≤ sizeLine) (hdf : d.params.defaults = []) (hr : Room k callerA) (hrec : (lamMakers.all fun n => (recsOf q).any fun e => e.name == Str.ofString n) = true)
    (F : ∀ (w : World) (mg : Str → Option Value) (fa : Addr) (h : Heap), YP w h → h.Ns mainGlobals mg → mg d.name = some (.ref fa) → (∀ n ∈ lamMakers, ∃ (a : Addr) (o : Obj) (fd : FuncData) (c P : Addr), mg (Str.ofString n) = some (.ref a) ∧ h.get? a = some o ∧ o.data = .func fd ∧ fd.code = .ref c ∧ h.IsCode c P #[] ∧ h.TableAt c P #[]) →
      ∃ K : PySem.W.Frag, K.In h ∧ ∃ (Ps : List Addr) (fd : FuncData) (sp : Sp), (∀ b ∈ Ps, ∃ c, Tbl0 h K c b) ∧ (∀ (s : Shared) (u : Value), BindsTo s fd ⟨[u], []⟩ [(x, u)]) ∧
      (∀ (H : Hp) (a : Addr) (ns : List Int), ns.length ≤ n → (∀ z ∈ ns, Builtin.Int.intBits z ≤ 1048576) → (∀ b ∈ Ps, H b = some (.tbl #[])) → SqL K H a (ns.map V.int) → sp [.ref a] H (fun v _ => v = .bl true) fun _ _ _ => False) ∧
      ∀ base : Heap, (∀ c b, b ∈ Ps → Tbl0 h K c b → LamX.TabB base mg c b) → FnG l.prog w K mg base k fa fd [x] sp)
    (hCX : ∀ (w : World) (H : Hp) (s : Shared) (e : Value) (s2 : Shared), L2.CX l.prog w [] H s (fun _ _ _ => False) e s2 → False) :
    PySem.W.WalkO q loose XP YP l.row.toRowW d [] (fun f vs => PySem.call f vs) := by
  refine Att.attach_callB hn hdf fun w s0 s1 mg mb fa o pm cd doc a vs ns G Y ho hd hcd hmg hobj hints hlen hbits hg => ?_
  have tab : ∀ n ∈ lamMakers, ∃ (a : Addr) (o : Obj) (fd : FuncData) (c P : Addr), mg (Str.ofString n) = some (.ref a) ∧ s1.heap.get? a = some o ∧ o.data = .func fd ∧ fd.code = .ref c ∧ s1.heap.IsCode c P #[] ∧ s1.heap.TableAt c P #[] := fun n hn => by
    obtain ⟨dL, hm, he⟩ := List.any_eq_true.mp (List.all_eq_true.mp hrec n hn)
    have en : dL.name = Str.ofString n := beq_iff_eq.mp he
    rw [← en]
    exact G.T.tab dL hm
  obtain ⟨K, kin, Ps, fd, sp, hT, hb, hsp, hF⟩ := F w mg fa _ Y G.T.g hmg tab
  exact law_callGT Ps kin G.T.g G.T.b G.T.builtins G.T.nolimit hg G.T.bmain hT hobj hints (Nat.le_trans hlen hn2) hr hF hb (fun H hP hS => hsp H a ns hlen hbits hP hS) fun H e s2 => hCX w H s1 e s2
end Tb

namespace Lw
open PySem PySem.Spec PyProof.Rows L2 Tb
abbrev cs_stand : List Str := ["Came"]
abbrev cs_gone : List Str := ["Came"]
abbrev cs_place : List Str := ["Barred", "Wrong"]
abbrev cs_deeds : List Str := ["Within", "Yard"]
abbrev cs_heights : List Str := ["Beyond"]
abbrev cs_lines : List Str := ["Yard"]
abbrev cs_here : List Str := ["Yard"]
abbrev cs_left : List Str := ["Yard"]
abbrev c_DEEDS : D := .tup (ss_DEEDS.map .str)
abbrev c_MOST : D := .int 60
structure Hd (K : PySem.W.Frag) (mg : Str → Option Value) : Prop where
  f_len : mg "len" = none
  f_isinstance : mg "isinstance" = none
  f_sorted : mg "sorted" = none
  f_range : mg "range" = none
  f_list : mg "list" = none
  f_tuple : mg "tuple" = none
  f_sum : mg "sum" = none
  f_min : mg "min" = none
  f_all : mg "all" = none
  f_any : mg "any" = none
  f_enumerate : mg "enumerate" = none
  f_int : mg "int" = none
  f_bool : mg "bool" = none
  f_str : mg "str" = none
  f_zip : mg "zip" = none
  f_set : mg "set" = none
  g_is_whole : mg "is_whole" = some (.ref (He.ga K "is_whole"))
  k_is_whole : PySem.W.keepIn K (.ref (He.ga K "is_whole")) = true
  g_between : mg "between" = some (.ref (He.ga K "between"))
  k_between : PySem.W.keepIn K (.ref (He.ga K "between")) = true
  g_is_count : mg "is_count" = some (.ref (He.ga K "is_count"))
  k_is_count : PySem.W.keepIn K (.ref (He.ga K "is_count")) = true
  g_is_line : mg "is_line" = some (.ref (He.ga K "is_line"))
  k_is_line : PySem.W.keepIn K (.ref (He.ga K "is_line")) = true
  g_engines_of : mg "engines_of" = some (.ref (He.ga K "engines_of"))
  k_engines_of : PySem.W.keepIn K (.ref (He.ga K "engines_of")) = true
  g_check_lines : mg "check_lines" = some (.ref (He.ga K "check_lines"))
  k_check_lines : PySem.W.keepIn K (.ref (He.ga K "check_lines")) = true
  g_check_order : mg "check_order" = some (.ref (He.ga K "check_order"))
  k_check_order : PySem.W.keepIn K (.ref (He.ga K "check_order")) = true
  g_is_deed : mg "is_deed" = some (.ref (He.ga K "is_deed"))
  k_is_deed : PySem.W.keepIn K (.ref (He.ga K "is_deed")) = true
  g_check_deeds : mg "check_deeds" = some (.ref (He.ga K "check_deeds"))
  k_check_deeds : PySem.W.keepIn K (.ref (He.ga K "check_deeds")) = true
  g_first_stand : mg "first_stand" = some (.ref (He.ga K "first_stand"))
  k_first_stand : PySem.W.keepIn K (.ref (He.ga K "first_stand")) = true
  g_behind : mg "behind" = some (.ref (He.ga K "behind"))
  k_behind : PySem.W.keepIn K (.ref (He.ga K "behind")) = true
  g_there : mg "there" = some (.ref (He.ga K "there"))
  k_there : PySem.W.keepIn K (.ref (He.ga K "there")) = true
  g_next_of : mg "next_of" = some (.ref (He.ga K "next_of"))
  k_next_of : PySem.W.keepIn K (.ref (He.ga K "next_of")) = true
  g_kept : mg "kept" = some (.ref (He.ga K "kept"))
  k_kept : PySem.W.keepIn K (.ref (He.ga K "kept")) = true
  g_is_last : mg "is_last" = some (.ref (He.ga K "is_last"))
  k_is_last : PySem.W.keepIn K (.ref (He.ga K "is_last")) = true
  g_gone_by : mg "gone_by" = some (.ref (He.ga K "gone_by"))
  k_gone_by : PySem.W.keepIn K (.ref (He.ga K "gone_by")) = true
  g_heights_of : mg "heights_of" = some (.ref (He.ga K "heights_of"))
  k_heights_of : PySem.W.keepIn K (.ref (He.ga K "heights_of")) = true
  g_brings : mg "brings" = some (.ref (He.ga K "brings"))
  k_brings : PySem.W.keepIn K (.ref (He.ga K "brings")) = true
  g_nexts : mg "nexts" = some (.ref (He.ga K "nexts"))
  k_nexts : PySem.W.keepIn K (.ref (He.ga K "nexts")) = true
  g_fits : mg "fits" = some (.ref (He.ga K "fits"))
  k_fits : PySem.W.keepIn K (.ref (He.ga K "fits")) = true
  g_are_closed : mg "are_closed" = some (.ref (He.ga K "are_closed"))
  k_are_closed : PySem.W.keepIn K (.ref (He.ga K "are_closed")) = true
  g_first_wrong : mg "first_wrong" = some (.ref (He.ga K "first_wrong"))
  k_first_wrong : PySem.W.keepIn K (.ref (He.ga K "first_wrong")) = true
  g_came : mg "came" = some (.ref (He.ga K "came"))
  k_came : PySem.W.keepIn K (.ref (He.ga K "came")) = true
  g_least_way : mg "least_way" = some (.ref (He.ga K "least_way"))
  k_least_way : PySem.W.keepIn K (.ref (He.ga K "least_way")) = true
  g_within : mg "within" = some (.ref (He.ga K "within"))
  k_within : PySem.W.keepIn K (.ref (He.ga K "within")) = true
  g_fewest : mg "fewest" = some (.ref (He.ga K "fewest"))
  k_fewest : PySem.W.keepIn K (.ref (He.ga K "fewest")) = true
  g_turns_of : mg "turns_of" = some (.ref (He.ga K "turns_of"))
  k_turns_of : PySem.W.keepIn K (.ref (He.ga K "turns_of")) = true
  g_orders : mg "orders" = some (.ref (He.ga K "orders"))
  k_orders : PySem.W.keepIn K (.ref (He.ga K "orders")) = true
  g_ways_on : mg "ways_on" = some (.ref (He.ga K "ways_on"))
  k_ways_on : PySem.W.keepIn K (.ref (He.ga K "ways_on")) = true
  g_check_all : mg "check_all" = some (.ref (He.ga K "check_all"))
  k_check_all : PySem.W.keepIn K (.ref (He.ga K "check_all")) = true
  g_how_many : mg "how_many" = some (.ref (He.ga K "how_many"))
  k_how_many : PySem.W.keepIn K (.ref (He.ga K "how_many")) = true
  g_part_of : mg "part_of" = some (.ref (He.ga K "part_of"))
  k_part_of : PySem.W.keepIn K (.ref (He.ga K "part_of")) = true
  g_deeds_by : mg "deeds_by" = some (.ref (He.ga K "deeds_by"))
  k_deeds_by : PySem.W.keepIn K (.ref (He.ga K "deeds_by")) = true
  g_number_of : mg "number_of" = some (.ref (He.ga K "number_of"))
  k_number_of : PySem.W.keepIn K (.ref (He.ga K "number_of")) = true
  g_judged : mg "judged" = some (.ref (He.ga K "judged"))
  k_judged : PySem.W.keepIn K (.ref (He.ga K "judged")) = true
  g__law_word : mg "_law_word" = some (.ref (He.ga K "_law_word"))
  k__law_word : PySem.W.keepIn K (.ref (He.ga K "_law_word")) = true
  g__law_three_right : mg "_law_three_right" = some (.ref (He.ga K "_law_three_right"))
  k__law_three_right : PySem.W.keepIn K (.ref (He.ga K "_law_three_right")) = true
  g__law_deeds_right : mg "_law_deeds_right" = some (.ref (He.ga K "_law_deeds_right"))
  k__law_deeds_right : PySem.W.keepIn K (.ref (He.ga K "_law_deeds_right")) = true
  g__law_within_right : mg "_law_within_right" = some (.ref (He.ga K "_law_within_right"))
  k__law_within_right : PySem.W.keepIn K (.ref (He.ga K "_law_within_right")) = true
  g__law_orders_right : mg "_law_orders_right" = some (.ref (He.ga K "_law_orders_right"))
  k__law_orders_right : PySem.W.keepIn K (.ref (He.ga K "_law_orders_right")) = true
  g__law_counted_right : mg "_law_counted_right" = some (.ref (He.ga K "_law_counted_right"))
  k__law_counted_right : PySem.W.keepIn K (.ref (He.ga K "_law_counted_right")) = true
  g__law_yard_right : mg "_law_yard_right" = some (.ref (He.ga K "_law_yard_right"))
  k__law_yard_right : PySem.W.keepIn K (.ref (He.ga K "_law_yard_right")) = true
  g_law : mg "law" = some (.ref (He.ga K "law"))
  k_law : PySem.W.keepIn K (.ref (He.ga K "law")) = true
  g_Came : mg "Came" = some (.ref (He.ga K "Came"))
  g_Barred : mg "Barred" = some (.ref (He.ga K "Barred"))
  g_Within : mg "Within" = some (.ref (He.ga K "Within"))
  g_Beyond : mg "Beyond" = some (.ref (He.ga K "Beyond"))
  g_Right : mg "Right" = some (.ref (He.ga K "Right"))
  g_Wrong : mg "Wrong" = some (.ref (He.ga K "Wrong"))
  g_Yard : mg "Yard" = some (.ref (He.ga K "Yard"))
  g_BadCount : mg "BadCount" = some (.ref (He.ga K "BadCount"))
  g_BadDeed : mg "BadDeed" = some (.ref (He.ga K "BadDeed"))
  g_BadDeeds : mg "BadDeeds" = some (.ref (He.ga K "BadDeeds"))
  g_BadLines : mg "BadLines" = some (.ref (He.ga K "BadLines"))
  g_BadNumber : mg "BadNumber" = some (.ref (He.ga K "BadNumber"))
  g_BadOrder : mg "BadOrder" = some (.ref (He.ga K "BadOrder"))
  g_BadTale : mg "BadTale" = some (.ref (He.ga K "BadTale"))
  g_CannotBe : mg "CannotBe" = some (.ref (He.ga K "CannotBe"))
  g_NotAll : mg "NotAll" = some (.ref (He.ga K "NotAll"))
  g_BridgeError : mg "BridgeError" = some (.ref (He.ga K "BridgeError"))
  c_Came : Cls K (He.ga K "Came")
  mk_Came : Mk K (He.ga K "Came") (He.ma K (He.ga K "Came") "__init__")
  c_Barred : Cls K (He.ga K "Barred")
  mk_Barred : Mk K (He.ga K "Barred") (He.ma K (He.ga K "Barred") "__init__")
  c_Within : Cls K (He.ga K "Within")
  mk_Within : Mk K (He.ga K "Within") (He.ma K (He.ga K "Within") "__init__")
  c_Beyond : Cls K (He.ga K "Beyond")
  mk_Beyond : Mk K (He.ga K "Beyond") (He.ma K (He.ga K "Beyond") "__init__")
  c_Right : Cls K (He.ga K "Right")
  c_Wrong : Cls K (He.ga K "Wrong")
  mk_Wrong : Mk K (He.ga K "Wrong") (He.ma K (He.ga K "Wrong") "__init__")
  c_Yard : Cls K (He.ga K "Yard")
  mk_Yard : Mk K (He.ga K "Yard") (He.ma K (He.ga K "Yard") "__init__")
  me_Came_shows : Meth K (He.ga K "Came") "shows" (He.ma K (He.ga K "Came") "shows")
  me_Barred_shows : Meth K (He.ga K "Barred") "shows" (He.ma K (He.ga K "Barred") "shows")
  me_Within_shows : Meth K (He.ga K "Within") "shows" (He.ma K (He.ga K "Within") "shows")
  me_Beyond_shows : Meth K (He.ga K "Beyond") "shows" (He.ma K (He.ga K "Beyond") "shows")
  me_Right_shows : Meth K (He.ga K "Right") "shows" (He.ma K (He.ga K "Right") "shows")
  me_Wrong_shows : Meth K (He.ga K "Wrong") "shows" (He.ma K (He.ga K "Wrong") "shows")
  me_Yard_do : Meth K (He.ga K "Yard") "do" (He.ma K (He.ga K "Yard") "do")
  me_Yard_now : Meth K (He.ga K "Yard") "now" (He.ma K (He.ga K "Yard") "now")
  me_Yard_away : Meth K (He.ga K "Yard") "away" (He.ma K (He.ga K "Yard") "away")
  me_Yard_done : Meth K (He.ga K "Yard") "done" (He.ma K (He.ga K "Yard") "done")
  me_Yard_tale : Meth K (He.ga K "Yard") "tale" (He.ma K (He.ga K "Yard") "tale")
  e_BadCount : PySem.W.excIn K (He.ga K "BadCount") He.veBase "ValueError.__new__" = true ∧ PySem.W.keepIn K (.ref (He.ga K "BadCount")) = true ∧ PySem.W.subIn K (.ref (He.ga K "BadCount")) (.type "BaseException") = some true ∧ PySem.W.typeIn K (.ref (He.ga K "BadCount")) = some (.type "type")
  e_BadDeed : PySem.W.excIn K (He.ga K "BadDeed") He.veBase "ValueError.__new__" = true ∧ PySem.W.keepIn K (.ref (He.ga K "BadDeed")) = true ∧ PySem.W.subIn K (.ref (He.ga K "BadDeed")) (.type "BaseException") = some true ∧ PySem.W.typeIn K (.ref (He.ga K "BadDeed")) = some (.type "type")
  e_BadDeeds : PySem.W.excIn K (He.ga K "BadDeeds") He.veBase "ValueError.__new__" = true ∧ PySem.W.keepIn K (.ref (He.ga K "BadDeeds")) = true ∧ PySem.W.subIn K (.ref (He.ga K "BadDeeds")) (.type "BaseException") = some true ∧ PySem.W.typeIn K (.ref (He.ga K "BadDeeds")) = some (.type "type")
  e_BadLines : PySem.W.excIn K (He.ga K "BadLines") He.veBase "ValueError.__new__" = true ∧ PySem.W.keepIn K (.ref (He.ga K "BadLines")) = true ∧ PySem.W.subIn K (.ref (He.ga K "BadLines")) (.type "BaseException") = some true ∧ PySem.W.typeIn K (.ref (He.ga K "BadLines")) = some (.type "type")
  e_BadNumber : PySem.W.excIn K (He.ga K "BadNumber") He.veBase "ValueError.__new__" = true ∧ PySem.W.keepIn K (.ref (He.ga K "BadNumber")) = true ∧ PySem.W.subIn K (.ref (He.ga K "BadNumber")) (.type "BaseException") = some true ∧ PySem.W.typeIn K (.ref (He.ga K "BadNumber")) = some (.type "type")
  e_BadOrder : PySem.W.excIn K (He.ga K "BadOrder") He.veBase "ValueError.__new__" = true ∧ PySem.W.keepIn K (.ref (He.ga K "BadOrder")) = true ∧ PySem.W.subIn K (.ref (He.ga K "BadOrder")) (.type "BaseException") = some true ∧ PySem.W.typeIn K (.ref (He.ga K "BadOrder")) = some (.type "type")
  e_BadTale : PySem.W.excIn K (He.ga K "BadTale") He.veBase "ValueError.__new__" = true ∧ PySem.W.keepIn K (.ref (He.ga K "BadTale")) = true ∧ PySem.W.subIn K (.ref (He.ga K "BadTale")) (.type "BaseException") = some true ∧ PySem.W.typeIn K (.ref (He.ga K "BadTale")) = some (.type "type")
  e_CannotBe : PySem.W.excIn K (He.ga K "CannotBe") He.veBase "ValueError.__new__" = true ∧ PySem.W.keepIn K (.ref (He.ga K "CannotBe")) = true ∧ PySem.W.subIn K (.ref (He.ga K "CannotBe")) (.type "BaseException") = some true ∧ PySem.W.typeIn K (.ref (He.ga K "CannotBe")) = some (.type "type")
  e_NotAll : PySem.W.excIn K (He.ga K "NotAll") He.veBase "ValueError.__new__" = true ∧ PySem.W.keepIn K (.ref (He.ga K "NotAll")) = true ∧ PySem.W.subIn K (.ref (He.ga K "NotAll")) (.type "BaseException") = some true ∧ PySem.W.typeIn K (.ref (He.ga K "NotAll")) = some (.type "type")
  at_stand : ∀ c ∈ cs_stand, Cls K (He.ga K c) ∧ NoAttr K (He.ga K c) "stand"
  at_gone : ∀ c ∈ cs_gone, Cls K (He.ga K c) ∧ NoAttr K (He.ga K c) "gone"
  at_place : ∀ c ∈ cs_place, Cls K (He.ga K c) ∧ NoAttr K (He.ga K c) "place"
  at_deeds : ∀ c ∈ cs_deeds, Cls K (He.ga K c) ∧ NoAttr K (He.ga K c) "deeds"
  at_heights : ∀ c ∈ cs_heights, Cls K (He.ga K c) ∧ NoAttr K (He.ga K c) "heights"
  at_lines : ∀ c ∈ cs_lines, Cls K (He.ga K c) ∧ NoAttr K (He.ga K c) "lines"
  at_here : ∀ c ∈ cs_here, Cls K (He.ga K c) ∧ NoAttr K (He.ga K c) "here"
  at_left : ∀ c ∈ cs_left, Cls K (He.ga K c) ∧ NoAttr K (He.ga K c) "left"
  ec_BadCount : ExcC K (He.ga K "BadCount")
  em_BadCount_BridgeError : PySem.W.exmOne K (.ref (He.ga K "BadCount")) (.ref (He.ga K "BridgeError")) = some true
  ki_BadCount_CannotBe : PySem.W.kitOne K (.ref (He.ga K "BadCount")) (.ref (He.ga K "CannotBe")) = some false
  ki_BadCount_NotAll : PySem.W.kitOne K (.ref (He.ga K "BadCount")) (.ref (He.ga K "NotAll")) = some false
  ec_BadDeed : ExcC K (He.ga K "BadDeed")
  em_BadDeed_BridgeError : PySem.W.exmOne K (.ref (He.ga K "BadDeed")) (.ref (He.ga K "BridgeError")) = some true
  ki_BadDeed_CannotBe : PySem.W.kitOne K (.ref (He.ga K "BadDeed")) (.ref (He.ga K "CannotBe")) = some false
  ki_BadDeed_NotAll : PySem.W.kitOne K (.ref (He.ga K "BadDeed")) (.ref (He.ga K "NotAll")) = some false
  ec_BadDeeds : ExcC K (He.ga K "BadDeeds")
  em_BadDeeds_BridgeError : PySem.W.exmOne K (.ref (He.ga K "BadDeeds")) (.ref (He.ga K "BridgeError")) = some true
  ki_BadDeeds_CannotBe : PySem.W.kitOne K (.ref (He.ga K "BadDeeds")) (.ref (He.ga K "CannotBe")) = some false
  ki_BadDeeds_NotAll : PySem.W.kitOne K (.ref (He.ga K "BadDeeds")) (.ref (He.ga K "NotAll")) = some false
  ec_BadLines : ExcC K (He.ga K "BadLines")
  em_BadLines_BridgeError : PySem.W.exmOne K (.ref (He.ga K "BadLines")) (.ref (He.ga K "BridgeError")) = some true
  ki_BadLines_CannotBe : PySem.W.kitOne K (.ref (He.ga K "BadLines")) (.ref (He.ga K "CannotBe")) = some false
  ki_BadLines_NotAll : PySem.W.kitOne K (.ref (He.ga K "BadLines")) (.ref (He.ga K "NotAll")) = some false
  ec_BadNumber : ExcC K (He.ga K "BadNumber")
  em_BadNumber_BridgeError : PySem.W.exmOne K (.ref (He.ga K "BadNumber")) (.ref (He.ga K "BridgeError")) = some true
  ki_BadNumber_CannotBe : PySem.W.kitOne K (.ref (He.ga K "BadNumber")) (.ref (He.ga K "CannotBe")) = some false
  ki_BadNumber_NotAll : PySem.W.kitOne K (.ref (He.ga K "BadNumber")) (.ref (He.ga K "NotAll")) = some false
  ec_BadOrder : ExcC K (He.ga K "BadOrder")
  em_BadOrder_BridgeError : PySem.W.exmOne K (.ref (He.ga K "BadOrder")) (.ref (He.ga K "BridgeError")) = some true
  ki_BadOrder_CannotBe : PySem.W.kitOne K (.ref (He.ga K "BadOrder")) (.ref (He.ga K "CannotBe")) = some false
  ki_BadOrder_NotAll : PySem.W.kitOne K (.ref (He.ga K "BadOrder")) (.ref (He.ga K "NotAll")) = some false
  ec_BadTale : ExcC K (He.ga K "BadTale")
  em_BadTale_BridgeError : PySem.W.exmOne K (.ref (He.ga K "BadTale")) (.ref (He.ga K "BridgeError")) = some true
  ki_BadTale_CannotBe : PySem.W.kitOne K (.ref (He.ga K "BadTale")) (.ref (He.ga K "CannotBe")) = some false
  ki_BadTale_NotAll : PySem.W.kitOne K (.ref (He.ga K "BadTale")) (.ref (He.ga K "NotAll")) = some false
  ec_CannotBe : ExcC K (He.ga K "CannotBe")
  em_CannotBe_BridgeError : PySem.W.exmOne K (.ref (He.ga K "CannotBe")) (.ref (He.ga K "BridgeError")) = some true
  ki_CannotBe_CannotBe : PySem.W.kitOne K (.ref (He.ga K "CannotBe")) (.ref (He.ga K "CannotBe")) = some true
  ki_CannotBe_NotAll : PySem.W.kitOne K (.ref (He.ga K "CannotBe")) (.ref (He.ga K "NotAll")) = some false
  ec_NotAll : ExcC K (He.ga K "NotAll")
  em_NotAll_BridgeError : PySem.W.exmOne K (.ref (He.ga K "NotAll")) (.ref (He.ga K "BridgeError")) = some true
  ki_NotAll_CannotBe : PySem.W.kitOne K (.ref (He.ga K "NotAll")) (.ref (He.ga K "CannotBe")) = some false
  ki_NotAll_NotAll : PySem.W.kitOne K (.ref (He.ga K "NotAll")) (.ref (He.ga K "NotAll")) = some true
  mk_Right : Mk0 K (He.ga K "Right")
  is_Barred : OwnIs K "Barred" is_Barred
  is_Beyond : OwnIs K "Beyond" is_Beyond
  is_Came : OwnIs K "Came" is_Came
  is_Right : OwnIs K "Right" is_Right
  is_Within : OwnIs K "Within" is_Within
  is_Wrong : OwnIs K "Wrong" is_Wrong
  x_DEEDS : ∀ (X : Cx) (W : WX) {pos : Pos}, X.K = K → X.mg = mg → Gl X "DEEDS" → EE X W (.Name "DEEDS" pos) (eC c_DEEDS)
  x_MOST : ∀ (X : Cx) (W : WX) {pos : Pos}, X.K = K → X.mg = mg → Gl X "MOST" → EE X W (.Name "MOST" pos) (eC c_MOST)
  mkT : mkB K = true
  F_is_whole : ∃ fd, FunD K "is_whole" "is_whole" (defArgs s_is_whole) (defBody s_is_whole) (defScope s_is_whole) [] [] (He.ga K "is_whole") fd
  F_between : ∃ fd, FunD K "between" "between" (defArgs s_between) (defBody s_between) (defScope s_between) [] [] (He.ga K "between") fd
  F_is_count : ∃ fd, FunD K "is_count" "is_count" (defArgs s_is_count) (defBody s_is_count) (defScope s_is_count) [] [] (He.ga K "is_count") fd
  F_is_line : ∃ fd, FunD K "is_line" "is_line" (defArgs s_is_line) (defBody s_is_line) (defScope s_is_line) [] [] (He.ga K "is_line") fd
  F_engines_of : ∃ fd, FunD K "engines_of" "engines_of" (defArgs s_engines_of) (defBody s_engines_of) (defScope s_engines_of) [] [] (He.ga K "engines_of") fd
  F_check_lines : ∃ fd, FunD K "check_lines" "check_lines" (defArgs s_check_lines) (defBody s_check_lines) (defScope s_check_lines) [] [] (He.ga K "check_lines") fd
  F_check_order : ∃ fd, FunD K "check_order" "check_order" (defArgs s_check_order) (defBody s_check_order) (defScope s_check_order) [] [] (He.ga K "check_order") fd
  F_is_deed : ∃ fd, FunD K "is_deed" "is_deed" (defArgs s_is_deed) (defBody s_is_deed) (defScope s_is_deed) [] [] (He.ga K "is_deed") fd
  F_check_deeds : ∃ fd, FunD K "check_deeds" "check_deeds" (defArgs s_check_deeds) (defBody s_check_deeds) (defScope s_check_deeds) [] [] (He.ga K "check_deeds") fd
  F_first_stand : ∃ fd, FunD K "first_stand" "first_stand" (defArgs s_first_stand) (defBody s_first_stand) (defScope s_first_stand) [] [] (He.ga K "first_stand") fd
  F_behind : ∃ fd, FunD K "behind" "behind" (defArgs s_behind) (defBody s_behind) (defScope s_behind) [] [] (He.ga K "behind") fd
  F_there : ∃ fd, FunD K "there" "there" (defArgs s_there) (defBody s_there) (defScope s_there) [] [] (He.ga K "there") fd
  F_next_of : ∃ fd, FunD K "next_of" "next_of" (defArgs s_next_of) (defBody s_next_of) (defScope s_next_of) [] [] (He.ga K "next_of") fd
  F_kept : ∃ fd, FunD K "kept" "kept" (defArgs s_kept) (defBody s_kept) (defScope s_kept) [] [] (He.ga K "kept") fd
  F_is_last : ∃ fd, FunD K "is_last" "is_last" (defArgs s_is_last) (defBody s_is_last) (defScope s_is_last) [] [] (He.ga K "is_last") fd
  F_gone_by : ∃ fd, FunD K "gone_by" "gone_by" (defArgs s_gone_by) (defBody s_gone_by) (defScope s_gone_by) [] [] (He.ga K "gone_by") fd
  F_heights_of : ∃ fd, FunD K "heights_of" "heights_of" (defArgs s_heights_of) (defBody s_heights_of) (defScope s_heights_of) [] [] (He.ga K "heights_of") fd
  F_brings : ∃ fd, FunD K "brings" "brings" (defArgs s_brings) (defBody s_brings) (defScope s_brings) [] [] (He.ga K "brings") fd
  F_Came_init : ∃ fd, FunD K "__init__" "Came.__init__" (defArgs s_Came_init) (defBody s_Came_init) (defScope s_Came_init) [] [] (He.ma K (He.ga K "Came") "__init__") fd
  F_Came_shows : ∃ fd, FunD K "shows" "Came.shows" (defArgs s_Came_shows) (defBody s_Came_shows) (defScope s_Came_shows) [] [] (He.ma K (He.ga K "Came") "shows") fd
  F_Barred_init : ∃ fd, FunD K "__init__" "Barred.__init__" (defArgs s_Barred_init) (defBody s_Barred_init) (defScope s_Barred_init) [] [] (He.ma K (He.ga K "Barred") "__init__") fd
  F_Barred_shows : ∃ fd, FunD K "shows" "Barred.shows" (defArgs s_Barred_shows) (defBody s_Barred_shows) (defScope s_Barred_shows) [] [] (He.ma K (He.ga K "Barred") "shows") fd
  F_Within_init : ∃ fd, FunD K "__init__" "Within.__init__" (defArgs s_Within_init) (defBody s_Within_init) (defScope s_Within_init) [] [] (He.ma K (He.ga K "Within") "__init__") fd
  F_Within_shows : ∃ fd, FunD K "shows" "Within.shows" (defArgs s_Within_shows) (defBody s_Within_shows) (defScope s_Within_shows) [] [] (He.ma K (He.ga K "Within") "shows") fd
  F_Beyond_init : ∃ fd, FunD K "__init__" "Beyond.__init__" (defArgs s_Beyond_init) (defBody s_Beyond_init) (defScope s_Beyond_init) [] [] (He.ma K (He.ga K "Beyond") "__init__") fd
  F_nexts : ∃ fd, FunD K "nexts" "nexts" (defArgs s_nexts) (defBody s_nexts) (defScope s_nexts) [] [] (He.ga K "nexts") fd
  F_fits : ∃ fd, FunD K "fits" "fits" (defArgs s_fits) (defBody s_fits) (defScope s_fits) [] [] (He.ga K "fits") fd
  F_are_closed : ∃ fd, FunD K "are_closed" "are_closed" (defArgs s_are_closed) (defBody s_are_closed) (defScope s_are_closed) [] [] (He.ga K "are_closed") fd
  F_Beyond_shows : ∃ fd, FunD K "shows" "Beyond.shows" (defArgs s_Beyond_shows) (defBody s_Beyond_shows) (defScope s_Beyond_shows) [] [] (He.ma K (He.ga K "Beyond") "shows") fd
  F_first_wrong : ∃ fd, FunD K "first_wrong" "first_wrong" (defArgs s_first_wrong) (defBody s_first_wrong) (defScope s_first_wrong) [] [] (He.ga K "first_wrong") fd
  F_Right_shows : ∃ fd, FunD K "shows" "Right.shows" (defArgs s_Right_shows) (defBody s_Right_shows) (defScope s_Right_shows) [] [] (He.ma K (He.ga K "Right") "shows") fd
  F_Wrong_init : ∃ fd, FunD K "__init__" "Wrong.__init__" (defArgs s_Wrong_init) (defBody s_Wrong_init) (defScope s_Wrong_init) [] [] (He.ma K (He.ga K "Wrong") "__init__") fd
  F_Wrong_shows : ∃ fd, FunD K "shows" "Wrong.shows" (defArgs s_Wrong_shows) (defBody s_Wrong_shows) (defScope s_Wrong_shows) [] [] (He.ma K (He.ga K "Wrong") "shows") fd
  F_came : ∃ fd, FunD K "came" "came" (defArgs s_came) (defBody s_came) (defScope s_came) [] [] (He.ga K "came") fd
  F_least_way : ∃ fd, FunD K "least_way" "least_way" (defArgs s_least_way) (defBody s_least_way) (defScope s_least_way) [] [] (He.ga K "least_way") fd
  F_within : ∃ fd, FunD K "within" "within" (defArgs s_within) (defBody s_within) (defScope s_within) [] [] (He.ga K "within") fd
  F_fewest : ∃ fd, FunD K "fewest" "fewest" (defArgs s_fewest) (defBody s_fewest) (defScope s_fewest) [] [] (He.ga K "fewest") fd
  F_turns_of : ∃ fd, FunD K "turns_of" "turns_of" (defArgs s_turns_of) (defBody s_turns_of) (defScope s_turns_of) [] [] (He.ga K "turns_of") fd
  F_orders : ∃ fd, FunD K "orders" "orders" (defArgs s_orders) (defBody s_orders) (defScope s_orders) [] [] (He.ga K "orders") fd
  F_ways_on : ∃ fd, FunD K "ways_on" "ways_on" (defArgs s_ways_on) (defBody s_ways_on) (defScope s_ways_on) [] [] (He.ga K "ways_on") fd
  F_check_all : ∃ fd, FunD K "check_all" "check_all" (defArgs s_check_all) (defBody s_check_all) (defScope s_check_all) [] [] (He.ga K "check_all") fd
  F_how_many : ∃ fd, FunD K "how_many" "how_many" (defArgs s_how_many) (defBody s_how_many) (defScope s_how_many) [] [] (He.ga K "how_many") fd
  F_part_of : ∃ fd, FunD K "part_of" "part_of" (defArgs s_part_of) (defBody s_part_of) (defScope s_part_of) [] [] (He.ga K "part_of") fd
  F_deeds_by : ∃ fd, FunD K "deeds_by" "deeds_by" (defArgs s_deeds_by) (defBody s_deeds_by) (defScope s_deeds_by) [] [] (He.ga K "deeds_by") fd
  F_number_of : ∃ fd, FunD K "number_of" "number_of" (defArgs s_number_of) (defBody s_number_of) (defScope s_number_of) [] [] (He.ga K "number_of") fd
  F_judged : ∃ fd, FunD K "judged" "judged" (defArgs s_judged) (defBody s_judged) (defScope s_judged) [] [] (He.ga K "judged") fd
  F_Yard_init : ∃ fd, FunD K "__init__" "Yard.__init__" (defArgs s_Yard_init) (defBody s_Yard_init) (defScope s_Yard_init) [] [] (He.ma K (He.ga K "Yard") "__init__") fd
  F_Yard_do : ∃ fd, FunD K "do" "Yard.do" (defArgs s_Yard_do) (defBody s_Yard_do) (defScope s_Yard_do) [] [] (He.ma K (He.ga K "Yard") "do") fd
  F_Yard_now : ∃ fd, FunD K "now" "Yard.now" (defArgs s_Yard_now) (defBody s_Yard_now) (defScope s_Yard_now) [] [] (He.ma K (He.ga K "Yard") "now") fd
  F_Yard_away : ∃ fd, FunD K "away" "Yard.away" (defArgs s_Yard_away) (defBody s_Yard_away) (defScope s_Yard_away) [] [] (He.ma K (He.ga K "Yard") "away") fd
  F_Yard_done : ∃ fd, FunD K "done" "Yard.done" (defArgs s_Yard_done) (defBody s_Yard_done) (defScope s_Yard_done) [] [] (He.ma K (He.ga K "Yard") "done") fd
  F_Yard_tale : ∃ fd, FunD K "tale" "Yard.tale" (defArgs s_Yard_tale) (defBody s_Yard_tale) (defScope s_Yard_tale) [] [] (He.ma K (He.ga K "Yard") "tale") fd
  F__law_word : ∃ fd, FunD K "_law_word" "_law_word" (defArgs s__law_word) (defBody s__law_word) (defScope s__law_word) [] [] (He.ga K "_law_word") fd
  F__law_three_right : ∃ fd, FunD K "_law_three_right" "_law_three_right" (defArgs s__law_three_right) (defBody s__law_three_right) (defScope s__law_three_right) [] [] (He.ga K "_law_three_right") fd
  F__law_deeds_right : ∃ fd, FunD K "_law_deeds_right" "_law_deeds_right" (defArgs s__law_deeds_right) (defBody s__law_deeds_right) (defScope s__law_deeds_right) [] [] (He.ga K "_law_deeds_right") fd
  F__law_within_right : ∃ fd, FunD K "_law_within_right" "_law_within_right" (defArgs s__law_within_right) (defBody s__law_within_right) (defScope s__law_within_right) [] [] (He.ga K "_law_within_right") fd
  F__law_orders_right : ∃ fd, FunD K "_law_orders_right" "_law_orders_right" (defArgs s__law_orders_right) (defBody s__law_orders_right) (defScope s__law_orders_right) [] [] (He.ga K "_law_orders_right") fd
  F__law_counted_right : ∃ fd, FunD K "_law_counted_right" "_law_counted_right" (defArgs s__law_counted_right) (defBody s__law_counted_right) (defScope s__law_counted_right) [] [] (He.ga K "_law_counted_right") fd
  F__law_yard_right : ∃ fd, FunD K "_law_yard_right" "_law_yard_right" (defArgs s__law_yard_right) (defBody s__law_yard_right) (defScope s__law_yard_right) [] [] (He.ga K "_law_yard_right") fd
  F_law : ∃ fd, FunD K "law" "law" (defArgs s_law) (defBody s_law) (defScope s_law) [] [] (He.ga K "law") fd
section
variable {P : Program} {w : World} {K : PySem.W.Frag} {mg : Str → Option Value} {base : Heap}
def m_is_whole : SM := (sRet (eAnd (eIsi (fB ["int"]) (eVar 0)) (eNot (eIsi (fB ["bool"]) (eVar 0)))))
def f_is_whole : FM := fnM 0 m_is_whole
def N_is_whole : List Str := ["thing"]
theorem sc_is_whole : FnScope N_is_whole ["thing"] (defScope s_is_whole) := ⟨rfl, rfl, rfl, by decide, by decide, by decide, by decide⟩
theorem bd_is_whole (kV doc pm : Value) (an : Option Addr) (cdv ct : Value) (us : List Value) (hl : us.length = (["thing"] : List Str).length) : bindArgs (PySem.W.fnOf "is_whole" "is_whole" (defArgs s_is_whole) (defBody s_is_whole) (defScope s_is_whole) .none kV doc pm an cdv ct) ⟨us, []⟩ = pure ((["thing"] : List Str).zip us) := match us, hl with | [_], _ => rfl
theorem b_is_whole (h : Hd K mg) (cdv : Value) (A : Around) (outer : List Env) (s : Shared) (H : Hp) (E : XK) (hr : Room 0 (A.deeper (envOfC "is_whole" (defScope s_is_whole) s.heap.objs.size (He.ga K "is_whole") cdv))) : ESs (cxOf (L2.CX P w) P w K mg base N_is_whole "is_whole" (defScope s_is_whole) (He.ga K "is_whole") cdv A outer s H E) (WD E) (defBody s_is_whole) m_is_whole := by
      have hN : N_is_whole.Nodup := by decide
      have hu := units_of hr
      have hp := passes_of (X := cxOf (L2.CX P w) P w K mg base N_is_whole "is_whole" (defScope s_is_whole) (He.ga K "is_whole") cdv A outer s H E) rfl
      have tk : Takes (cxOf (L2.CX P w) P w K mg base N_is_whole "is_whole" (defScope s_is_whole) (He.ga K "is_whole") cdv A outer s H E) (WD E) := takes_of rfl rfl rfl rfl
      have hc : (cxOf (L2.CX P w) P w K mg base N_is_whole "is_whole" (defScope s_is_whole) (He.ga K "is_whole") cdv A outer s H E).calm = true := rfl
      exact (ess_one (es_ret (ee_and (ee_isiB "int" "int" (kb_int _) (ee_var 0) h.f_isinstance h.f_int bb_int) (ee_one (ee_not (ee_isiB "bool" "bool" (kb_bool _) (ee_var 0) h.f_isinstance h.f_bool bb_bool))))))
theorem ok_is_whole (h : Hd K mg) : FOk P w K mg base 1 (He.ga K "is_whole") 1 f_is_whole :=
  fok_of (N := N_is_whole) (ps := ["thing"]) m_is_whole h.F_is_whole sc_is_whole rfl rfl bd_is_whole (b_is_whole h)
def m_between : SM := (sRet (eAnd (eCallP 1 f_is_whole (aCons (eVar 0) aNil)) (eChain leG leG (eVar 1) (eVar 0) (eVar 2))))
def f_between : FM := fnM 0 m_between
def N_between : List Str := ["thing", "low", "high"]
theorem sc_between : FnScope N_between ["thing", "low", "high"] (defScope s_between) := ⟨rfl, rfl, rfl, by decide, by decide, by decide, by decide⟩
theorem bd_between (kV doc pm : Value) (an : Option Addr) (cdv ct : Value) (us : List Value) (hl : us.length = (["thing", "low", "high"] : List Str).length) : bindArgs (PySem.W.fnOf "between" "between" (defArgs s_between) (defBody s_between) (defScope s_between) .none kV doc pm an cdv ct) ⟨us, []⟩ = pure ((["thing", "low", "high"] : List Str).zip us) := match us, hl with | [_, _, _], _ => rfl
theorem b_between (h : Hd K mg) (cdv : Value) (A : Around) (outer : List Env) (s : Shared) (H : Hp) (E : XK) (hr : Room 1 (A.deeper (envOfC "between" (defScope s_between) s.heap.objs.size (He.ga K "between") cdv))) : ESs (cxOf (L2.CX P w) P w K mg base N_between "between" (defScope s_between) (He.ga K "between") cdv A outer s H E) (WD E) (defBody s_between) m_between := by
      have hN : N_between.Nodup := by decide
      have hu := units_of hr
      have hp := passes_of (X := cxOf (L2.CX P w) P w K mg base N_between "between" (defScope s_between) (He.ga K "between") cdv A outer s H E) rfl
      have tk : Takes (cxOf (L2.CX P w) P w K mg base N_between "between" (defScope s_between) (He.ga K "between") cdv A outer s H E) (WD E) := takes_of rfl rfl rfl rfl
      have hc : (cxOf (L2.CX P w) P w K mg base N_between "between" (defScope s_between) (He.ga K "between") cdv A outer s H E).calm = true := rfl
      exact (ess_one (es_ret (ee_and (ec_callP tk (ok_is_whole h) (hr.mono (by decide)) h.g_is_whole h.k_is_whole (ea_cons (ee_var 0) ea_nil)) (ee_one (ee_chain op_leD op_leD (ee_var 1) (ee_var 0) (ee_var 2))))))
theorem ok_between (h : Hd K mg) : FOk P w K mg base 2 (He.ga K "between") 3 f_between :=
  fok_of (N := N_between) (ps := ["thing", "low", "high"]) m_between h.F_between sc_between rfl rfl bd_between (b_between h)
def m_is_count : SM := (sRet (eCallP 3 f_between (aCons (eVar 0) (aCons (eC (.int 0)) (aCons (eC c_MOST) aNil)))))
def f_is_count : FM := fnM 0 m_is_count
def N_is_count : List Str := ["thing"]
theorem sc_is_count : FnScope N_is_count ["thing"] (defScope s_is_count) := ⟨rfl, rfl, rfl, by decide, by decide, by decide, by decide⟩
theorem bd_is_count (kV doc pm : Value) (an : Option Addr) (cdv ct : Value) (us : List Value) (hl : us.length = (["thing"] : List Str).length) : bindArgs (PySem.W.fnOf "is_count" "is_count" (defArgs s_is_count) (defBody s_is_count) (defScope s_is_count) .none kV doc pm an cdv ct) ⟨us, []⟩ = pure ((["thing"] : List Str).zip us) := match us, hl with | [_], _ => rfl
theorem b_is_count (h : Hd K mg) (cdv : Value) (A : Around) (outer : List Env) (s : Shared) (H : Hp) (E : XK) (hr : Room 2 (A.deeper (envOfC "is_count" (defScope s_is_count) s.heap.objs.size (He.ga K "is_count") cdv))) : ESs (cxOf (L2.CX P w) P w K mg base N_is_count "is_count" (defScope s_is_count) (He.ga K "is_count") cdv A outer s H E) (WD E) (defBody s_is_count) m_is_count := by
      have hN : N_is_count.Nodup := by decide
      have hu := units_of hr
      have hp := passes_of (X := cxOf (L2.CX P w) P w K mg base N_is_count "is_count" (defScope s_is_count) (He.ga K "is_count") cdv A outer s H E) rfl
      have tk : Takes (cxOf (L2.CX P w) P w K mg base N_is_count "is_count" (defScope s_is_count) (He.ga K "is_count") cdv A outer s H E) (WD E) := takes_of rfl rfl rfl rfl
      have hc : (cxOf (L2.CX P w) P w K mg base N_is_count "is_count" (defScope s_is_count) (He.ga K "is_count") cdv A outer s H E).calm = true := rfl
      exact (ess_one (es_ret (ec_callP tk (ok_between h) (hr.mono (by decide)) h.g_between h.k_between (ea_cons (ee_var 0) (ea_cons ee_int (ea_cons (h.x_MOST _ _ rfl rfl rfl) ea_nil))))))
theorem ok_is_count (h : Hd K mg) : FOk P w K mg base 3 (He.ga K "is_count") 1 f_is_count :=
  fok_of (N := N_is_count) (ps := ["thing"]) m_is_count h.F_is_count sc_is_count rfl rfl bd_is_count (b_is_count h)
def m_is_line : SM := (sSeq (sIf (tOrD (tNotD (tOf (eIsi (fB ["tuple"]) (eVar 0)))) (tOrD (t2 neG (eCall false lenG (aCons (eVar 0) aNil)) (eC (.int 2))) (tNotD (tOf (eCallP 3 f_between (aCons (e2 false ixG (eVar 0) (eC (.int 0))) (aCons (eC (.int 1)) (aCons (eC (.int 2)) aNil))))))))
  (sRet (eC (.bl false)))
  sNil)
  (sRet (eAnd (eIsi (fB ["tuple"]) (e2 false ixG (eVar 0) (eC (.int 1)))) (eAnd (e2 false leG (eCall false lenG (aCons (e2 false ixG (eVar 0) (eC (.int 1))) aNil)) (e2 false ixG (eVar 0) (eC (.int 0)))) (eCall true allG (aCons (eLc false (iOf (e2 false ixG (eVar 0) (eC (.int 1)))) (gbName 1) tYesD (eCallP 3 f_between (aCons (eVar 1) (aCons (eC (.int 0)) (aCons (eC (.int 2)) aNil)))) [1]) aNil))))))
def f_is_line : FM := fnM 1 m_is_line
def N_is_line : List Str := ["thing", "one"]
theorem sc_is_line : FnScope N_is_line ["thing"] (defScope s_is_line) := ⟨rfl, rfl, rfl, by decide, by decide, by decide, by decide⟩
theorem bd_is_line (kV doc pm : Value) (an : Option Addr) (cdv ct : Value) (us : List Value) (hl : us.length = (["thing"] : List Str).length) : bindArgs (PySem.W.fnOf "is_line" "is_line" (defArgs s_is_line) (defBody s_is_line) (defScope s_is_line) .none kV doc pm an cdv ct) ⟨us, []⟩ = pure ((["thing"] : List Str).zip us) := match us, hl with | [_], _ => rfl
theorem b_is_line (h : Hd K mg) (cdv : Value) (A : Around) (outer : List Env) (s : Shared) (H : Hp) (E : XK) (hr : Room 2 (A.deeper (envOfC "is_line" (defScope s_is_line) s.heap.objs.size (He.ga K "is_line") cdv))) : ESs (cxOf (L2.CX P w) P w K mg base N_is_line "is_line" (defScope s_is_line) (He.ga K "is_line") cdv A outer s H E) (WD E) (defBody s_is_line) m_is_line := by
      have hN : N_is_line.Nodup := by decide
      have hu := units_of hr
      have hp := passes_of (X := cxOf (L2.CX P w) P w K mg base N_is_line "is_line" (defScope s_is_line) (He.ga K "is_line") cdv A outer s H E) rfl
      have tk : Takes (cxOf (L2.CX P w) P w K mg base N_is_line "is_line" (defScope s_is_line) (He.ga K "is_line") cdv A outer s H E) (WD E) := takes_of rfl rfl rfl rfl
      have hc : (cxOf (L2.CX P w) P w K mg base N_is_line "is_line" (defScope s_is_line) (He.ga K "is_line") cdv A outer s H E).calm = true := rfl
      exact (ess_cons (es_if (et_w (ew_or (et_not (et_of (ee_isiB "tuple" "tuple" (kb_tuple _) (ee_var 0) h.f_isinstance h.f_tuple bb_tuple))) (ew_or (et_cmp (op_neDD hu) (ee_callB false cb_len (ea_cons (ee_var 0) ea_nil) h.f_len bb_len) ee_int) (ew_or1 (et_not (et_of (ec_callP tk (ok_between h) (hr.mono (by decide)) h.g_between h.k_between (ea_cons (ee_sub hu (ee_var 0) ee_int) (ea_cons ee_int (ea_cons ee_int ea_nil))))))))))
  (ess_one (es_ret ee_bl))
  ess_nil)
  (ess_one (es_ret (ee_and (ee_isiB "tuple" "tuple" (kb_tuple _) (ee_sub hu (ee_var 0) ee_int) h.f_isinstance h.f_tuple bb_tuple) (ee_and (ee_cmp op_leD (ee_callB false cb_len (ea_cons (ee_sub hu (ee_var 0) ee_int) ea_nil) h.f_len bb_len) (ee_sub hu (ee_var 0) ee_int)) (ee_one (ee_callB true (cb_all rfl) (ea_cons (ee_lc false rfl hN [("one", 1)] (ei_of (ee_sub hu (ee_var 0) ee_int)) (by rfl) (fun _ _ _ _ _ => (eg_name 1 hN)) (fun _ _ _ _ _ => ets_nil) (fun _ _ _ _ _ => (ec_callP takes0 (ok_between h) (hr.mono (by decide)) h.g_between h.k_between (ea_cons (ee_var 1) (ea_cons ee_int (ea_cons ee_int ea_nil)))))) ea_nil) h.f_all bb_all)))))))
theorem ok_is_line (h : Hd K mg) : FOk P w K mg base 3 (He.ga K "is_line") 1 f_is_line :=
  fok_of (N := N_is_line) (ps := ["thing"]) m_is_line h.F_is_line sc_is_line rfl rfl bd_is_line (b_is_line h)
def m_engines_of : SM := (sSeq (sSet 1 (eLst true aNil))
  (sSeq (sFor 0 (iOf (eVar 0)) (gbTup (gbCons (gbName 2) (gbCons (gbName 3) gbNil)))
  (sDrop (eMt exG (eVar 1) (eVar 3))))
  (sRet (eCall true sortA (aCons (eVar 1) aNil)))))
def f_engines_of : FM := fnM 3 m_engines_of
def N_engines_of : List Str := ["lines", "found", "room", "engines"]
theorem sc_engines_of : FnScope N_engines_of ["lines"] (defScope s_engines_of) := ⟨rfl, rfl, rfl, by decide, by decide, by decide, by decide⟩
theorem bd_engines_of (kV doc pm : Value) (an : Option Addr) (cdv ct : Value) (us : List Value) (hl : us.length = (["lines"] : List Str).length) : bindArgs (PySem.W.fnOf "engines_of" "engines_of" (defArgs s_engines_of) (defBody s_engines_of) (defScope s_engines_of) .none kV doc pm an cdv ct) ⟨us, []⟩ = pure ((["lines"] : List Str).zip us) := match us, hl with | [_], _ => rfl
theorem b_engines_of (h : Hd K mg) (cdv : Value) (A : Around) (outer : List Env) (s : Shared) (H : Hp) (E : XK) (hr : Room 0 (A.deeper (envOfC "engines_of" (defScope s_engines_of) s.heap.objs.size (He.ga K "engines_of") cdv))) : ESs (cxOf (L2.CX P w) P w K mg base N_engines_of "engines_of" (defScope s_engines_of) (He.ga K "engines_of") cdv A outer s H E) (WD E) (defBody s_engines_of) m_engines_of := by
      have hN : N_engines_of.Nodup := by decide
      have hu := units_of hr
      have hp := passes_of (X := cxOf (L2.CX P w) P w K mg base N_engines_of "engines_of" (defScope s_engines_of) (He.ga K "engines_of") cdv A outer s H E) rfl
      have tk : Takes (cxOf (L2.CX P w) P w K mg base N_engines_of "engines_of" (defScope s_engines_of) (He.ga K "engines_of") cdv A outer s H E) (WD E) := takes_of rfl rfl rfl rfl
      have hc : (cxOf (L2.CX P w) P w K mg base N_engines_of "engines_of" (defScope s_engines_of) (He.ga K "engines_of") cdv A outer s H E).calm = true := rfl
      exact (ess_cons (es_set 1 hN (ee_lst true ea_nil))
  (ess_cons (es_for 0 hp rfl (ei_of (ee_var 0)) (eg_tup rfl (egs_cons (eg_name 2 hN) (egs_cons (eg_name 3 hN) egs_nil)))
  (ess_one (es_expr (ee_extend (ee_var 1) (ee_var 3)))))
  (ess_one (es_ret (ee_callB true (cb_sortA rfl hu) (ea_cons (ee_var 1) ea_nil) h.f_sorted bb_sorted)))))
theorem ok_engines_of (h : Hd K mg) : FOk P w K mg base 1 (He.ga K "engines_of") 1 f_engines_of :=
  fok_of (N := N_engines_of) (ps := ["lines"]) m_engines_of h.F_engines_of sc_engines_of rfl rfl bd_engines_of (b_engines_of h)
def m_check_lines : SM := (sSeq (sIf (tOrD (tNotD (tOf (eIsi (fB ["list"]) (eVar 0)))) (tOrD (tNotD (tBl (eChain leG leG (eC (.int 2)) (eCall false lenG (aCons (eVar 0) aNil)) (eC (.int 3))))) (tNotD (tOf (eCall false allG (aCons (eLc false (iOf (eVar 0)) (gbName 2) tYesD (eCallP 1 f_is_line (aCons (eVar 2) aNil)) [2]) aNil))))))
  (sRaise "BadLines")
  sNil)
  (sSeq (sIf (t2 gtG (eCall false sumG (aCons (eLc false (iOf (eVar 0)) (gbTup (gbCons (gbName 3) (gbCons (gbName 4) gbNil))) tYesD (eVar 3) [3, 4]) aNil)) (eC (.int 4)))
  (sRaise "BadLines")
  sNil)
  (sSeq (sSet 1 (eCallP 1 f_engines_of (aCons (eVar 0) aNil)))
  (sIf (tOrD (tNotD (tBl (eChain leG leG (eC (.int 1)) (eCall false lenG (aCons (eVar 1) aNil)) (eC (.int 3))))) (t2 neG (eVar 1) (eLisRng false (eCall false lenG (aCons (eVar 1) aNil)))))
  (sRaise "BadLines")
  sNil))))
def f_check_lines : FM := fnM 4 m_check_lines
def N_check_lines : List Str := ["lines", "engines", "one", "room", "some"]
theorem sc_check_lines : FnScope N_check_lines ["lines"] (defScope s_check_lines) := ⟨rfl, rfl, rfl, by decide, by decide, by decide, by decide⟩
theorem bd_check_lines (kV doc pm : Value) (an : Option Addr) (cdv ct : Value) (us : List Value) (hl : us.length = (["lines"] : List Str).length) : bindArgs (PySem.W.fnOf "check_lines" "check_lines" (defArgs s_check_lines) (defBody s_check_lines) (defScope s_check_lines) .none kV doc pm an cdv ct) ⟨us, []⟩ = pure ((["lines"] : List Str).zip us) := match us, hl with | [_], _ => rfl
theorem b_check_lines (h : Hd K mg) (cdv : Value) (A : Around) (outer : List Env) (s : Shared) (H : Hp) (E : XK) (hr : Room 3 (A.deeper (envOfC "check_lines" (defScope s_check_lines) s.heap.objs.size (He.ga K "check_lines") cdv))) : ESs (cxOf (L2.CX P w) P w K mg base N_check_lines "check_lines" (defScope s_check_lines) (He.ga K "check_lines") cdv A outer s H E) (WD E) (defBody s_check_lines) m_check_lines := by
      have hN : N_check_lines.Nodup := by decide
      have hu := units_of hr
      have hp := passes_of (X := cxOf (L2.CX P w) P w K mg base N_check_lines "check_lines" (defScope s_check_lines) (He.ga K "check_lines") cdv A outer s H E) rfl
      have tk : Takes (cxOf (L2.CX P w) P w K mg base N_check_lines "check_lines" (defScope s_check_lines) (He.ga K "check_lines") cdv A outer s H E) (WD E) := takes_of rfl rfl rfl rfl
      have hc : (cxOf (L2.CX P w) P w K mg base N_check_lines "check_lines" (defScope s_check_lines) (He.ga K "check_lines") cdv A outer s H E).calm = true := rfl
      exact (ess_cons (es_if (et_w (ew_or (et_not (et_of (ee_isiB "list" "list" (kb_list _) (ee_var 0) h.f_isinstance h.f_list bb_list))) (ew_or (et_not (et_chain2 op_leD op_leD ee_int (ee_callB false cb_len (ea_cons (ee_var 0) ea_nil) h.f_len bb_len) ee_int)) (ew_or1 (et_not (et_of (ee_callB false (cb_all rfl) (ea_cons (ee_lc false rfl hN [("one", 2)] (ei_of (ee_var 0)) (by rfl) (fun _ _ _ _ _ => (eg_name 2 hN)) (fun _ _ _ _ _ => ets_nil) (fun _ _ _ _ _ => (ec_callP takes0 (ok_is_line h) (hr.mono (by decide)) h.g_is_line h.k_is_line (ea_cons (ee_var 2) ea_nil)))) ea_nil) h.f_all bb_all)))))))
  (ess_one (es_raise rfl tk h.e_BadLines.1 h.g_BadLines h.e_BadLines.2.1 h.e_BadLines.2.2.1 h.e_BadLines.2.2.2))
  ess_nil)
  (ess_cons (es_if (et_cmp op_gtD (ee_callB false (cb_sum rfl) (ea_cons (ee_lc false rfl hN [("room", 3), ("some", 4)] (ei_of (ee_var 0)) (by rfl) (fun _ _ _ _ _ => (eg_tup rfl (egs_cons (eg_name 3 hN) (egs_cons (eg_name 4 hN) egs_nil)))) (fun _ _ _ _ _ => ets_nil) (fun _ _ _ _ _ => (ee_var 3))) ea_nil) h.f_sum bb_sum) ee_int)
  (ess_one (es_raise rfl tk h.e_BadLines.1 h.g_BadLines h.e_BadLines.2.1 h.e_BadLines.2.2.1 h.e_BadLines.2.2.2))
  ess_nil)
  (ess_cons (es_set 1 hN (ec_callP tk (ok_engines_of h) (hr.mono (by decide)) h.g_engines_of h.k_engines_of (ea_cons (ee_var 0) ea_nil)))
  (ess_one (es_if (et_w (ew_or (et_not (et_chain2 op_leD op_leD ee_int (ee_callB false cb_len (ea_cons (ee_var 1) ea_nil) h.f_len bb_len) ee_int)) (ew_or1 (et_cmp (op_neDD hu) (ee_var 1) (ee_lisRng false rfl (ee_callB false cb_len (ea_cons (ee_var 1) ea_nil) h.f_len bb_len) h.f_list h.f_range)))))
  (ess_one (es_raise rfl tk h.e_BadLines.1 h.g_BadLines h.e_BadLines.2.1 h.e_BadLines.2.2.1 h.e_BadLines.2.2.2))
  ess_nil)))))
theorem ok_check_lines (h : Hd K mg) : FOk P w K mg base 4 (He.ga K "check_lines") 1 f_check_lines :=
  fok_of (N := N_check_lines) (ps := ["lines"]) m_check_lines h.F_check_lines sc_check_lines rfl rfl bd_check_lines (b_check_lines h)
def m_check_order : SM := (sIf (tOrD (tNotD (tOf (eIsi (fB ["list"]) (eVar 1)))) (tOrD (tNotD (tOf (eCall false allG (aCons (eLc false (iOf (eVar 1)) (gbName 2) tYesD (eCallP 1 f_is_whole (aCons (eVar 2) aNil)) [2]) aNil)))) (t2 neG (eCall false sortA (aCons (eVar 1) aNil)) (eCallP 1 f_engines_of (aCons (eVar 0) aNil)))))
  (sRaise "BadOrder")
  sNil)
def f_check_order : FM := fnM 1 m_check_order
def N_check_order : List Str := ["lines", "order", "one"]
theorem sc_check_order : FnScope N_check_order ["lines", "order"] (defScope s_check_order) := ⟨rfl, rfl, rfl, by decide, by decide, by decide, by decide⟩
theorem bd_check_order (kV doc pm : Value) (an : Option Addr) (cdv ct : Value) (us : List Value) (hl : us.length = (["lines", "order"] : List Str).length) : bindArgs (PySem.W.fnOf "check_order" "check_order" (defArgs s_check_order) (defBody s_check_order) (defScope s_check_order) .none kV doc pm an cdv ct) ⟨us, []⟩ = pure ((["lines", "order"] : List Str).zip us) := match us, hl with | [_, _], _ => rfl
theorem b_check_order (h : Hd K mg) (cdv : Value) (A : Around) (outer : List Env) (s : Shared) (H : Hp) (E : XK) (hr : Room 1 (A.deeper (envOfC "check_order" (defScope s_check_order) s.heap.objs.size (He.ga K "check_order") cdv))) : ESs (cxOf (L2.CX P w) P w K mg base N_check_order "check_order" (defScope s_check_order) (He.ga K "check_order") cdv A outer s H E) (WD E) (defBody s_check_order) m_check_order := by
      have hN : N_check_order.Nodup := by decide
      have hu := units_of hr
      have hp := passes_of (X := cxOf (L2.CX P w) P w K mg base N_check_order "check_order" (defScope s_check_order) (He.ga K "check_order") cdv A outer s H E) rfl
      have tk : Takes (cxOf (L2.CX P w) P w K mg base N_check_order "check_order" (defScope s_check_order) (He.ga K "check_order") cdv A outer s H E) (WD E) := takes_of rfl rfl rfl rfl
      have hc : (cxOf (L2.CX P w) P w K mg base N_check_order "check_order" (defScope s_check_order) (He.ga K "check_order") cdv A outer s H E).calm = true := rfl
      exact (ess_one (es_if (et_w (ew_or (et_not (et_of (ee_isiB "list" "list" (kb_list _) (ee_var 1) h.f_isinstance h.f_list bb_list))) (ew_or (et_not (et_of (ee_callB false (cb_all rfl) (ea_cons (ee_lc false rfl hN [("one", 2)] (ei_of (ee_var 1)) (by rfl) (fun _ _ _ _ _ => (eg_name 2 hN)) (fun _ _ _ _ _ => ets_nil) (fun _ _ _ _ _ => (ec_callP takes0 (ok_is_whole h) (hr.mono (by decide)) h.g_is_whole h.k_is_whole (ea_cons (ee_var 2) ea_nil)))) ea_nil) h.f_all bb_all))) (ew_or1 (et_cmp (op_neDD hu) (ee_callB false (cb_sortA rfl hu) (ea_cons (ee_var 1) ea_nil) h.f_sorted bb_sorted) (ec_callP tk (ok_engines_of h) (hr.mono (by decide)) h.g_engines_of h.k_engines_of (ea_cons (ee_var 0) ea_nil)))))))
  (ess_one (es_raise rfl tk h.e_BadOrder.1 h.g_BadOrder h.e_BadOrder.2.1 h.e_BadOrder.2.2.1 h.e_BadOrder.2.2.2))
  ess_nil))
theorem ok_check_order (h : Hd K mg) : FOk P w K mg base 2 (He.ga K "check_order") 2 f_check_order :=
  fok_of (N := N_check_order) (ps := ["lines", "order"]) m_check_order h.F_check_order sc_check_order rfl rfl bd_check_order (b_check_order h)
def m_is_deed : SM := (sRet (eAnd (eIsi (fB ["str"]) (eVar 0)) (e2 false inG (eVar 0) (eC c_DEEDS))))
def f_is_deed : FM := fnM 0 m_is_deed
def N_is_deed : List Str := ["thing"]
theorem sc_is_deed : FnScope N_is_deed ["thing"] (defScope s_is_deed) := ⟨rfl, rfl, rfl, by decide, by decide, by decide, by decide⟩
theorem bd_is_deed (kV doc pm : Value) (an : Option Addr) (cdv ct : Value) (us : List Value) (hl : us.length = (["thing"] : List Str).length) : bindArgs (PySem.W.fnOf "is_deed" "is_deed" (defArgs s_is_deed) (defBody s_is_deed) (defScope s_is_deed) .none kV doc pm an cdv ct) ⟨us, []⟩ = pure ((["thing"] : List Str).zip us) := match us, hl with | [_], _ => rfl
theorem b_is_deed (h : Hd K mg) (cdv : Value) (A : Around) (outer : List Env) (s : Shared) (H : Hp) (E : XK) (hr : Room 0 (A.deeper (envOfC "is_deed" (defScope s_is_deed) s.heap.objs.size (He.ga K "is_deed") cdv))) : ESs (cxOf (L2.CX P w) P w K mg base N_is_deed "is_deed" (defScope s_is_deed) (He.ga K "is_deed") cdv A outer s H E) (WD E) (defBody s_is_deed) m_is_deed := by
      have hN : N_is_deed.Nodup := by decide
      have hu := units_of hr
      have hp := passes_of (X := cxOf (L2.CX P w) P w K mg base N_is_deed "is_deed" (defScope s_is_deed) (He.ga K "is_deed") cdv A outer s H E) rfl
      have tk : Takes (cxOf (L2.CX P w) P w K mg base N_is_deed "is_deed" (defScope s_is_deed) (He.ga K "is_deed") cdv A outer s H E) (WD E) := takes_of rfl rfl rfl rfl
      have hc : (cxOf (L2.CX P w) P w K mg base N_is_deed "is_deed" (defScope s_is_deed) (He.ga K "is_deed") cdv A outer s H E).calm = true := rfl
      exact (ess_one (es_ret (ee_and (ee_isiB "str" "str" (kb_str _) (ee_var 0) h.f_isinstance h.f_str bb_str) (ee_one (ee_cmp (op_inDD hu) (ee_var 0) (h.x_DEEDS _ _ rfl rfl rfl))))))
theorem ok_is_deed (h : Hd K mg) : FOk P w K mg base 1 (He.ga K "is_deed") 1 f_is_deed :=
  fok_of (N := N_is_deed) (ps := ["thing"]) m_is_deed h.F_is_deed sc_is_deed rfl rfl bd_is_deed (b_is_deed h)
def m_check_deeds : SM := (sIf (tOrD (tNotD (tOf (eIsi (fB ["list"]) (eVar 0)))) (tOrD (t2 gtG (eCall false lenG (aCons (eVar 0) aNil)) (eC c_MOST)) (tNotD (tOf (eCall false allG (aCons (eLc false (iOf (eVar 0)) (gbName 1) tYesD (eCallP 1 f_is_deed (aCons (eVar 1) aNil)) [1]) aNil))))))
  (sRaise "BadDeeds")
  sNil)
def f_check_deeds : FM := fnM 1 m_check_deeds
def N_check_deeds : List Str := ["deeds", "deed"]
theorem sc_check_deeds : FnScope N_check_deeds ["deeds"] (defScope s_check_deeds) := ⟨rfl, rfl, rfl, by decide, by decide, by decide, by decide⟩
theorem bd_check_deeds (kV doc pm : Value) (an : Option Addr) (cdv ct : Value) (us : List Value) (hl : us.length = (["deeds"] : List Str).length) : bindArgs (PySem.W.fnOf "check_deeds" "check_deeds" (defArgs s_check_deeds) (defBody s_check_deeds) (defScope s_check_deeds) .none kV doc pm an cdv ct) ⟨us, []⟩ = pure ((["deeds"] : List Str).zip us) := match us, hl with | [_], _ => rfl
theorem b_check_deeds (h : Hd K mg) (cdv : Value) (A : Around) (outer : List Env) (s : Shared) (H : Hp) (E : XK) (hr : Room 1 (A.deeper (envOfC "check_deeds" (defScope s_check_deeds) s.heap.objs.size (He.ga K "check_deeds") cdv))) : ESs (cxOf (L2.CX P w) P w K mg base N_check_deeds "check_deeds" (defScope s_check_deeds) (He.ga K "check_deeds") cdv A outer s H E) (WD E) (defBody s_check_deeds) m_check_deeds := by
      have hN : N_check_deeds.Nodup := by decide
      have hu := units_of hr
      have hp := passes_of (X := cxOf (L2.CX P w) P w K mg base N_check_deeds "check_deeds" (defScope s_check_deeds) (He.ga K "check_deeds") cdv A outer s H E) rfl
      have tk : Takes (cxOf (L2.CX P w) P w K mg base N_check_deeds "check_deeds" (defScope s_check_deeds) (He.ga K "check_deeds") cdv A outer s H E) (WD E) := takes_of rfl rfl rfl rfl
      have hc : (cxOf (L2.CX P w) P w K mg base N_check_deeds "check_deeds" (defScope s_check_deeds) (He.ga K "check_deeds") cdv A outer s H E).calm = true := rfl
      exact (ess_one (es_if (et_w (ew_or (et_not (et_of (ee_isiB "list" "list" (kb_list _) (ee_var 0) h.f_isinstance h.f_list bb_list))) (ew_or (et_cmp op_gtD (ee_callB false cb_len (ea_cons (ee_var 0) ea_nil) h.f_len bb_len) (h.x_MOST _ _ rfl rfl rfl)) (ew_or1 (et_not (et_of (ee_callB false (cb_all rfl) (ea_cons (ee_lc false rfl hN [("deed", 1)] (ei_of (ee_var 0)) (by rfl) (fun _ _ _ _ _ => (eg_name 1 hN)) (fun _ _ _ _ _ => ets_nil) (fun _ _ _ _ _ => (ec_callP takes0 (ok_is_deed h) (hr.mono (by decide)) h.g_is_deed h.k_is_deed (ea_cons (ee_var 1) ea_nil)))) ea_nil) h.f_all bb_all)))))))
  (ess_one (es_raise rfl tk h.e_BadDeeds.1 h.g_BadDeeds h.e_BadDeeds.2.1 h.e_BadDeeds.2.2.1 h.e_BadDeeds.2.2.2))
  ess_nil))
theorem ok_check_deeds (h : Hd K mg) : FOk P w K mg base 2 (He.ga K "check_deeds") 1 f_check_deeds :=
  fok_of (N := N_check_deeds) (ps := ["deeds"]) m_check_deeds h.F_check_deeds sc_check_deeds rfl rfl bd_check_deeds (b_check_deeds h)
def m_first_stand : SM := (sRet (eTup (aCons (eCall true tupG (aCons (eLc false (iOf (eVar 0)) (gbTup (gbCons (gbName 1) (gbCons (gbName 2) gbNil))) tYesD (eVar 2) [1, 2]) aNil)) (aCons (eC (.int 0)) (aCons (e1 false negG (eC (.int 1))) aNil)))))
def f_first_stand : FM := fnM 2 m_first_stand
def N_first_stand : List Str := ["lines", "room", "engines"]
theorem sc_first_stand : FnScope N_first_stand ["lines"] (defScope s_first_stand) := ⟨rfl, rfl, rfl, by decide, by decide, by decide, by decide⟩
theorem bd_first_stand (kV doc pm : Value) (an : Option Addr) (cdv ct : Value) (us : List Value) (hl : us.length = (["lines"] : List Str).length) : bindArgs (PySem.W.fnOf "first_stand" "first_stand" (defArgs s_first_stand) (defBody s_first_stand) (defScope s_first_stand) .none kV doc pm an cdv ct) ⟨us, []⟩ = pure ((["lines"] : List Str).zip us) := match us, hl with | [_], _ => rfl
theorem b_first_stand (h : Hd K mg) (cdv : Value) (A : Around) (outer : List Env) (s : Shared) (H : Hp) (E : XK) (hr : Room 0 (A.deeper (envOfC "first_stand" (defScope s_first_stand) s.heap.objs.size (He.ga K "first_stand") cdv))) : ESs (cxOf (L2.CX P w) P w K mg base N_first_stand "first_stand" (defScope s_first_stand) (He.ga K "first_stand") cdv A outer s H E) (WD E) (defBody s_first_stand) m_first_stand := by
      have hN : N_first_stand.Nodup := by decide
      have hu := units_of hr
      have hp := passes_of (X := cxOf (L2.CX P w) P w K mg base N_first_stand "first_stand" (defScope s_first_stand) (He.ga K "first_stand") cdv A outer s H E) rfl
      have tk : Takes (cxOf (L2.CX P w) P w K mg base N_first_stand "first_stand" (defScope s_first_stand) (He.ga K "first_stand") cdv A outer s H E) (WD E) := takes_of rfl rfl rfl rfl
      have hc : (cxOf (L2.CX P w) P w K mg base N_first_stand "first_stand" (defScope s_first_stand) (He.ga K "first_stand") cdv A outer s H E).calm = true := rfl
      exact (ess_one (es_ret (ee_tup (ea_cons (ee_callTy true cb_tuple (ea_cons (ee_lc false rfl hN [("room", 1), ("engines", 2)] (ei_of (ee_var 0)) (by rfl) (fun _ _ _ _ _ => (eg_tup rfl (egs_cons (eg_name 1 hN) (egs_cons (eg_name 2 hN) egs_nil)))) (fun _ _ _ _ _ => ets_nil) (fun _ _ _ _ _ => (ee_var 2))) ea_nil) h.f_tuple bb_tuple) (ea_cons ee_int (ea_cons (ee_un (un_negD false) ee_int) ea_nil))))))
theorem ok_first_stand (h : Hd K mg) : FOk P w K mg base 1 (He.ga K "first_stand") 1 f_first_stand :=
  fok_of (N := N_first_stand) (ps := ["lines"]) m_first_stand h.F_first_stand sc_first_stand rfl rfl bd_first_stand (b_first_stand h)
def m_behind : SM := (sSeq (sAsg (gbTup (gbCons (gbName 3) (gbCons (gbName 4) (gbCons (gbName 5) gbNil)))) (eVar 1))
  (sSeq (sIf (tOrD (t2 eqG (eVar 2) (eC (.str "left"))) (t2 eqG (eVar 2) (eC (.str "right"))))
  (sRet (eTup (aCons (eVar 3) (aCons (e2 true modG (e2 false addG (eVar 4) (eIf (t2 eqG (eVar 2) (eC (.str "right"))) (eC (.int 1)) (e1 false negG (eC (.int 1))))) (eCall false lenG (aCons (eVar 0) aNil))) (aCons (eVar 5) aNil)))))
  sNil)
  (sSeq (sIf (t2 eqG (eVar 2) (eC (.str "take")))
  (sSeq (sIf (tOrD (t2 geG (eVar 5) (eC (.int 0))) (t2 eqG (e2 false ixG (eVar 3) (eVar 4)) (eTup aNil)))
  (sRet (eC .non))
  sNil)
  (sRet (eTup (aCons (e2 true addG (e2 false addG (eSl false (eVar 3) oNone (oSome (eVar 4))) (eTup (aCons (eSl false (e2 false ixG (eVar 3) (eVar 4)) (oSome (eC (.int 1))) oNone) aNil))) (eSl false (eVar 3) (oSome (e2 false addG (eVar 4) (eC (.int 1)))) oNone)) (aCons (eVar 4) (aCons (e2 false ixG (e2 false ixG (eVar 3) (eVar 4)) (eC (.int 0))) aNil))))))
  sNil)
  (sSeq (sIf (t2 eqG (eVar 2) (eC (.str "put")))
  (sSeq (sIf (tOrD (t2 ltG (eVar 5) (eC (.int 0))) (t2 geG (eCall false lenG (aCons (e2 false ixG (eVar 3) (eVar 4)) aNil)) (e2 false ixG (e2 false ixG (eVar 0) (eVar 4)) (eC (.int 0)))))
  (sRet (eC .non))
  sNil)
  (sRet (eTup (aCons (e2 true addG (e2 false addG (eSl false (eVar 3) oNone (oSome (eVar 4))) (eTup (aCons (e2 false addG (eTup (aCons (eVar 5) aNil)) (e2 false ixG (eVar 3) (eVar 4))) aNil))) (eSl false (eVar 3) (oSome (e2 false addG (eVar 4) (eC (.int 1)))) oNone)) (aCons (eVar 4) (aCons (e1 false negG (eC (.int 1))) aNil))))))
  sNil)
  (sSeq (sIf (tAndD (t2 eqG (eVar 2) (eC (.str "out"))) (tAndD (t2 geG (eVar 5) (eC (.int 0))) (t2 eqG (eVar 4) (eC (.int 0)))))
  (sRet (eTup (aCons (eVar 3) (aCons (eVar 4) (aCons (e1 false negG (eC (.int 1))) aNil)))))
  sNil)
  (sRet (eC .non)))))))
def f_behind : FM := fnM 3 m_behind
def N_behind : List Str := ["lines", "stand", "deed", "rows", "place", "engine"]
theorem sc_behind : FnScope N_behind ["lines", "stand", "deed"] (defScope s_behind) := ⟨rfl, rfl, rfl, by decide, by decide, by decide, by decide⟩
theorem bd_behind (kV doc pm : Value) (an : Option Addr) (cdv ct : Value) (us : List Value) (hl : us.length = (["lines", "stand", "deed"] : List Str).length) : bindArgs (PySem.W.fnOf "behind" "behind" (defArgs s_behind) (defBody s_behind) (defScope s_behind) .none kV doc pm an cdv ct) ⟨us, []⟩ = pure ((["lines", "stand", "deed"] : List Str).zip us) := match us, hl with | [_, _, _], _ => rfl
theorem b_behind (h : Hd K mg) (cdv : Value) (A : Around) (outer : List Env) (s : Shared) (H : Hp) (E : XK) (hr : Room 0 (A.deeper (envOfC "behind" (defScope s_behind) s.heap.objs.size (He.ga K "behind") cdv))) : ESs (cxOf (L2.CX P w) P w K mg base N_behind "behind" (defScope s_behind) (He.ga K "behind") cdv A outer s H E) (WD E) (defBody s_behind) m_behind := by
      have hN : N_behind.Nodup := by decide
      have hu := units_of hr
      have hp := passes_of (X := cxOf (L2.CX P w) P w K mg base N_behind "behind" (defScope s_behind) (He.ga K "behind") cdv A outer s H E) rfl
      have tk : Takes (cxOf (L2.CX P w) P w K mg base N_behind "behind" (defScope s_behind) (He.ga K "behind") cdv A outer s H E) (WD E) := takes_of rfl rfl rfl rfl
      have hc : (cxOf (L2.CX P w) P w K mg base N_behind "behind" (defScope s_behind) (He.ga K "behind") cdv A outer s H E).calm = true := rfl
      exact (ess_cons (es_asg (ee_var 1) (eg_tup rfl (egs_cons (eg_name 3 hN) (egs_cons (eg_name 4 hN) (egs_cons (eg_name 5 hN) egs_nil)))))
  (ess_cons (es_if (et_w (ew_or (et_cmp (op_eqDD hu) (ee_var 2) ee_str) (ew_or1 (et_cmp (op_eqDD hu) (ee_var 2) ee_str))))
  (ess_one (es_ret (ee_tup (ea_cons (ee_var 3) (ea_cons (ee_op op_modD true (ee_op op_addD false (ee_var 4) (ee_if (et_cmp (op_eqDD hu) (ee_var 2) ee_str) ee_int (ee_un (un_negD false) ee_int))) (ee_callB false cb_len (ea_cons (ee_var 0) ea_nil) h.f_len bb_len)) (ea_cons (ee_var 5) ea_nil))))))
  ess_nil)
  (ess_cons (es_if (et_cmp (op_eqDD hu) (ee_var 2) ee_str)
  (ess_cons (es_if (et_w (ew_or (et_cmp op_geD (ee_var 5) ee_int) (ew_or1 (et_cmp (op_eqDD hu) (ee_sub hu (ee_var 3) (ee_var 4)) (ee_tup ea_nil)))))
  (ess_one (es_ret ee_non))
  ess_nil)
  (ess_one (es_ret (ee_tup (ea_cons (ee_op op_addD true (ee_op op_addD false (ee_sl false (ee_var 3) eo_none (eo_some (ee_var 4))) (ee_tup (ea_cons (ee_sl false (ee_sub hu (ee_var 3) (ee_var 4)) (eo_some ee_int) eo_none) ea_nil))) (ee_sl false (ee_var 3) (eo_some (ee_op op_addD false (ee_var 4) ee_int)) eo_none)) (ea_cons (ee_var 4) (ea_cons (ee_sub hu (ee_sub hu (ee_var 3) (ee_var 4)) ee_int) ea_nil)))))))
  ess_nil)
  (ess_cons (es_if (et_cmp (op_eqDD hu) (ee_var 2) ee_str)
  (ess_cons (es_if (et_w (ew_or (et_cmp (op_ltD hu) (ee_var 5) ee_int) (ew_or1 (et_cmp op_geD (ee_callB false cb_len (ea_cons (ee_sub hu (ee_var 3) (ee_var 4)) ea_nil) h.f_len bb_len) (ee_sub hu (ee_sub hu (ee_var 0) (ee_var 4)) ee_int)))))
  (ess_one (es_ret ee_non))
  ess_nil)
  (ess_one (es_ret (ee_tup (ea_cons (ee_op op_addD true (ee_op op_addD false (ee_sl false (ee_var 3) eo_none (eo_some (ee_var 4))) (ee_tup (ea_cons (ee_op op_addD false (ee_tup (ea_cons (ee_var 5) ea_nil)) (ee_sub hu (ee_var 3) (ee_var 4))) ea_nil))) (ee_sl false (ee_var 3) (eo_some (ee_op op_addD false (ee_var 4) ee_int)) eo_none)) (ea_cons (ee_var 4) (ea_cons (ee_un (un_negD false) ee_int) ea_nil)))))))
  ess_nil)
  (ess_cons (es_if (et_w (ew_and (et_cmp (op_eqDD hu) (ee_var 2) ee_str) (ew_and (et_cmp op_geD (ee_var 5) ee_int) (ew_and1 (et_cmp (op_eqDD hu) (ee_var 4) ee_int)))))
  (ess_one (es_ret (ee_tup (ea_cons (ee_var 3) (ea_cons (ee_var 4) (ea_cons (ee_un (un_negD false) ee_int) ea_nil))))))
  ess_nil)
  (ess_one (es_ret ee_non)))))))
theorem ok_behind (h : Hd K mg) : FOk P w K mg base 1 (He.ga K "behind") 3 f_behind :=
  fok_of (N := N_behind) (ps := ["lines", "stand", "deed"]) m_behind h.F_behind sc_behind rfl rfl bd_behind (b_behind h)
def m_there : SM := (sSeq (sSet 1 (eIf (t2 geG (e2 false ixG (eVar 0) (eC (.int 2))) (eC (.int 0))) (eLst true (aCons (e2 false ixG (eVar 0) (eC (.int 2))) aNil)) (eLst true aNil)))
  (sSeq (sFor 0 (iOf (e2 false ixG (eVar 0) (eC (.int 0)))) (gbName 2)
  (sDrop (eMt exG (eVar 1) (eVar 2))))
  (sRet (eCall true sortA (aCons (eVar 1) aNil)))))
def f_there : FM := fnM 2 m_there
def N_there : List Str := ["stand", "found", "row"]
theorem sc_there : FnScope N_there ["stand"] (defScope s_there) := ⟨rfl, rfl, rfl, by decide, by decide, by decide, by decide⟩
theorem bd_there (kV doc pm : Value) (an : Option Addr) (cdv ct : Value) (us : List Value) (hl : us.length = (["stand"] : List Str).length) : bindArgs (PySem.W.fnOf "there" "there" (defArgs s_there) (defBody s_there) (defScope s_there) .none kV doc pm an cdv ct) ⟨us, []⟩ = pure ((["stand"] : List Str).zip us) := match us, hl with | [_], _ => rfl
theorem b_there (h : Hd K mg) (cdv : Value) (A : Around) (outer : List Env) (s : Shared) (H : Hp) (E : XK) (hr : Room 0 (A.deeper (envOfC "there" (defScope s_there) s.heap.objs.size (He.ga K "there") cdv))) : ESs (cxOf (L2.CX P w) P w K mg base N_there "there" (defScope s_there) (He.ga K "there") cdv A outer s H E) (WD E) (defBody s_there) m_there := by
      have hN : N_there.Nodup := by decide
      have hu := units_of hr
      have hp := passes_of (X := cxOf (L2.CX P w) P w K mg base N_there "there" (defScope s_there) (He.ga K "there") cdv A outer s H E) rfl
      have tk : Takes (cxOf (L2.CX P w) P w K mg base N_there "there" (defScope s_there) (He.ga K "there") cdv A outer s H E) (WD E) := takes_of rfl rfl rfl rfl
      have hc : (cxOf (L2.CX P w) P w K mg base N_there "there" (defScope s_there) (He.ga K "there") cdv A outer s H E).calm = true := rfl
      exact (ess_cons (es_set 1 hN (ee_if (et_cmp op_geD (ee_sub hu (ee_var 0) ee_int) ee_int) (ee_lst true (ea_cons (ee_sub hu (ee_var 0) ee_int) ea_nil)) (ee_lst true ea_nil)))
  (ess_cons (es_for 0 hp rfl (ei_of (ee_sub hu (ee_var 0) ee_int)) (eg_name 2 hN)
  (ess_one (es_expr (ee_extend (ee_var 1) (ee_var 2)))))
  (ess_one (es_ret (ee_callB true (cb_sortA rfl hu) (ea_cons (ee_var 1) ea_nil) h.f_sorted bb_sorted)))))
theorem ok_there (h : Hd K mg) : FOk P w K mg base 1 (He.ga K "there") 1 f_there :=
  fok_of (N := N_there) (ps := ["stand"]) m_there h.F_there sc_there rfl rfl bd_there (b_there h)
def m_next_of : SM := (sRet (e2 false ixG (eVar 0) (e2 false subG (eCall false lenG (aCons (eVar 0) aNil)) (eCall false lenG (aCons (eCallP 1 f_there (aCons (eVar 1) aNil)) aNil)))))
def f_next_of : FM := fnM 0 m_next_of
def N_next_of : List Str := ["order", "stand"]
theorem sc_next_of : FnScope N_next_of ["order", "stand"] (defScope s_next_of) := ⟨rfl, rfl, rfl, by decide, by decide, by decide, by decide⟩
theorem bd_next_of (kV doc pm : Value) (an : Option Addr) (cdv ct : Value) (us : List Value) (hl : us.length = (["order", "stand"] : List Str).length) : bindArgs (PySem.W.fnOf "next_of" "next_of" (defArgs s_next_of) (defBody s_next_of) (defScope s_next_of) .none kV doc pm an cdv ct) ⟨us, []⟩ = pure ((["order", "stand"] : List Str).zip us) := match us, hl with | [_, _], _ => rfl
theorem b_next_of (h : Hd K mg) (cdv : Value) (A : Around) (outer : List Env) (s : Shared) (H : Hp) (E : XK) (hr : Room 1 (A.deeper (envOfC "next_of" (defScope s_next_of) s.heap.objs.size (He.ga K "next_of") cdv))) : ESs (cxOf (L2.CX P w) P w K mg base N_next_of "next_of" (defScope s_next_of) (He.ga K "next_of") cdv A outer s H E) (WD E) (defBody s_next_of) m_next_of := by
      have hN : N_next_of.Nodup := by decide
      have hu := units_of hr
      have hp := passes_of (X := cxOf (L2.CX P w) P w K mg base N_next_of "next_of" (defScope s_next_of) (He.ga K "next_of") cdv A outer s H E) rfl
      have tk : Takes (cxOf (L2.CX P w) P w K mg base N_next_of "next_of" (defScope s_next_of) (He.ga K "next_of") cdv A outer s H E) (WD E) := takes_of rfl rfl rfl rfl
      have hc : (cxOf (L2.CX P w) P w K mg base N_next_of "next_of" (defScope s_next_of) (He.ga K "next_of") cdv A outer s H E).calm = true := rfl
      exact (ess_one (es_ret (ee_sub hu (ee_var 0) (ee_op op_subD false (ee_callB false cb_len (ea_cons (ee_var 0) ea_nil) h.f_len bb_len) (ee_callB false cb_len (ea_cons (ec_callP tk (ok_there h) (hr.mono (by decide)) h.g_there h.k_there (ea_cons (ee_var 1) ea_nil)) ea_nil) h.f_len bb_len)))))
theorem ok_next_of (h : Hd K mg) : FOk P w K mg base 2 (He.ga K "next_of") 2 f_next_of :=
  fok_of (N := N_next_of) (ps := ["order", "stand"]) m_next_of h.F_next_of sc_next_of rfl rfl bd_next_of (b_next_of h)
def m_kept : SM := (sSeq (sSet 3 (eLst true aNil))
  (sSeq (sFor 0 (iOf (eC c_DEEDS)) (gbName 4)
  (sIf (tOrD (t2 neG (eVar 4) (eC (.str "out"))) (t2 eqG (e2 false ixG (eVar 2) (eC (.int 2))) (eCallP 2 f_next_of (aCons (eVar 1) (aCons (eVar 2) aNil)))))
  (sSeq (sSet 5 (eCallP 3 f_behind (aCons (eVar 0) (aCons (eVar 2) (aCons (eVar 4) aNil)))))
  (sIf (t2 isNotG (eVar 5) (eC .non))
  (sDrop (eMt apG (eVar 3) (eTup (aCons (eVar 4) (aCons (eVar 5) aNil)))))
  sNil))
  sNil))
  (sRet (eVar 3))))
def f_kept : FM := fnM 3 m_kept
def N_kept : List Str := ["lines", "order", "stand", "found", "deed", "other"]
theorem sc_kept : FnScope N_kept ["lines", "order", "stand"] (defScope s_kept) := ⟨rfl, rfl, rfl, by decide, by decide, by decide, by decide⟩
theorem bd_kept (kV doc pm : Value) (an : Option Addr) (cdv ct : Value) (us : List Value) (hl : us.length = (["lines", "order", "stand"] : List Str).length) : bindArgs (PySem.W.fnOf "kept" "kept" (defArgs s_kept) (defBody s_kept) (defScope s_kept) .none kV doc pm an cdv ct) ⟨us, []⟩ = pure ((["lines", "order", "stand"] : List Str).zip us) := match us, hl with | [_, _, _], _ => rfl
theorem b_kept (h : Hd K mg) (cdv : Value) (A : Around) (outer : List Env) (s : Shared) (H : Hp) (E : XK) (hr : Room 2 (A.deeper (envOfC "kept" (defScope s_kept) s.heap.objs.size (He.ga K "kept") cdv))) : ESs (cxOf (L2.CX P w) P w K mg base N_kept "kept" (defScope s_kept) (He.ga K "kept") cdv A outer s H E) (WD E) (defBody s_kept) m_kept := by
      have hN : N_kept.Nodup := by decide
      have hu := units_of hr
      have hp := passes_of (X := cxOf (L2.CX P w) P w K mg base N_kept "kept" (defScope s_kept) (He.ga K "kept") cdv A outer s H E) rfl
      have tk : Takes (cxOf (L2.CX P w) P w K mg base N_kept "kept" (defScope s_kept) (He.ga K "kept") cdv A outer s H E) (WD E) := takes_of rfl rfl rfl rfl
      have hc : (cxOf (L2.CX P w) P w K mg base N_kept "kept" (defScope s_kept) (He.ga K "kept") cdv A outer s H E).calm = true := rfl
      exact (ess_cons (es_set 3 hN (ee_lst true ea_nil))
  (ess_cons (es_for 0 hp rfl (ei_of (h.x_DEEDS _ _ rfl rfl rfl)) (eg_name 4 hN)
  (ess_one (es_if (et_w (ew_or (et_cmp (op_neDD hu) (ee_var 4) ee_str) (ew_or1 (et_cmp (op_eqDD hu) (ee_sub hu (ee_var 2) ee_int) (ec_callP tk (ok_next_of h) (hr.mono (by decide)) h.g_next_of h.k_next_of (ea_cons (ee_var 1) (ea_cons (ee_var 2) ea_nil)))))))
  (ess_cons (es_set 5 hN (ec_callP tk (ok_behind h) (hr.mono (by decide)) h.g_behind h.k_behind (ea_cons (ee_var 0) (ea_cons (ee_var 2) (ea_cons (ee_var 4) ea_nil)))))
  (ess_one (es_if (et_cmp op_isNotD (ee_var 5) ee_non)
  (ess_one (es_expr (ee_append (ee_var 3) (ee_tup (ea_cons (ee_var 4) (ea_cons (ee_var 5) ea_nil))))))
  ess_nil)))
  ess_nil)))
  (ess_one (es_ret (ee_var 3)))))
theorem ok_kept (h : Hd K mg) : FOk P w K mg base 3 (He.ga K "kept") 3 f_kept :=
  fok_of (N := N_kept) (ps := ["lines", "order", "stand"]) m_kept h.F_kept sc_kept rfl rfl bd_kept (b_kept h)
def m_is_last : SM := (sRet (eAnd (e2 false eqG (e2 false ixG (eVar 0) (eC (.int 1))) (eC (.int 0))) (eAnd (e2 false geG (e2 false ixG (eVar 0) (eC (.int 2))) (eC (.int 0))) (e2 false eqG (eCallP 1 f_there (aCons (eVar 0) aNil)) (eLst false (aCons (e2 false ixG (eVar 0) (eC (.int 2))) aNil))))))
def f_is_last : FM := fnM 0 m_is_last
def N_is_last : List Str := ["stand"]
theorem sc_is_last : FnScope N_is_last ["stand"] (defScope s_is_last) := ⟨rfl, rfl, rfl, by decide, by decide, by decide, by decide⟩
theorem bd_is_last (kV doc pm : Value) (an : Option Addr) (cdv ct : Value) (us : List Value) (hl : us.length = (["stand"] : List Str).length) : bindArgs (PySem.W.fnOf "is_last" "is_last" (defArgs s_is_last) (defBody s_is_last) (defScope s_is_last) .none kV doc pm an cdv ct) ⟨us, []⟩ = pure ((["stand"] : List Str).zip us) := match us, hl with | [_], _ => rfl
theorem b_is_last (h : Hd K mg) (cdv : Value) (A : Around) (outer : List Env) (s : Shared) (H : Hp) (E : XK) (hr : Room 1 (A.deeper (envOfC "is_last" (defScope s_is_last) s.heap.objs.size (He.ga K "is_last") cdv))) : ESs (cxOf (L2.CX P w) P w K mg base N_is_last "is_last" (defScope s_is_last) (He.ga K "is_last") cdv A outer s H E) (WD E) (defBody s_is_last) m_is_last := by
      have hN : N_is_last.Nodup := by decide
      have hu := units_of hr
      have hp := passes_of (X := cxOf (L2.CX P w) P w K mg base N_is_last "is_last" (defScope s_is_last) (He.ga K "is_last") cdv A outer s H E) rfl
      have tk : Takes (cxOf (L2.CX P w) P w K mg base N_is_last "is_last" (defScope s_is_last) (He.ga K "is_last") cdv A outer s H E) (WD E) := takes_of rfl rfl rfl rfl
      have hc : (cxOf (L2.CX P w) P w K mg base N_is_last "is_last" (defScope s_is_last) (He.ga K "is_last") cdv A outer s H E).calm = true := rfl
      exact (ess_one (es_ret (ee_and (ee_cmp (op_eqDD hu) (ee_sub hu (ee_var 0) ee_int) ee_int) (ee_and (ee_cmp op_geD (ee_sub hu (ee_var 0) ee_int) ee_int) (ee_one (ee_cmp (op_eqDD hu) (ec_callP tk (ok_there h) (hr.mono (by decide)) h.g_there h.k_there (ea_cons (ee_var 0) ea_nil)) (ee_lst false (ea_cons (ee_sub hu (ee_var 0) ee_int) ea_nil))))))))
theorem ok_is_last (h : Hd K mg) : FOk P w K mg base 2 (He.ga K "is_last") 1 f_is_last :=
  fok_of (N := N_is_last) (ps := ["stand"]) m_is_last h.F_is_last sc_is_last rfl rfl bd_is_last (b_is_last h)
def m_gone_by : SM := (sSeq (sPar [2, 3] (aCons (eCallP 1 f_first_stand (aCons (eVar 0) aNil)) (aCons (eLst true aNil) aNil)))
  (sSeq (sFor 0 (iEnu (eVar 1)) (gbTup (gbCons (gbName 4) (gbCons (gbName 5) gbNil)))
  (sSeq (sSet 6 (eCallP 3 f_behind (aCons (eVar 0) (aCons (eVar 2) (aCons (eVar 5) aNil)))))
  (sSeq (sIf (t2 isG (eVar 6) (eC .non))
  (sRet (eTup (aCons (eVar 2) (aCons (eVar 3) (aCons (eVar 4) aNil)))))
  sNil)
  (sSeq (sIf (t2 eqG (eVar 5) (eC (.str "out")))
  (sDrop (eMt apG (eVar 3) (e2 false ixG (eVar 2) (eC (.int 2)))))
  sNil)
  (sSet 2 (eVar 6))))))
  (sRet (eTup (aCons (eVar 2) (aCons (eVar 3) (aCons (e1 false negG (eC (.int 1))) aNil)))))))
def f_gone_by : FM := fnM 5 m_gone_by
def N_gone_by : List Str := ["lines", "deeds", "stand", "gone", "place", "deed", "other"]
theorem sc_gone_by : FnScope N_gone_by ["lines", "deeds"] (defScope s_gone_by) := ⟨rfl, rfl, rfl, by decide, by decide, by decide, by decide⟩
theorem bd_gone_by (kV doc pm : Value) (an : Option Addr) (cdv ct : Value) (us : List Value) (hl : us.length = (["lines", "deeds"] : List Str).length) : bindArgs (PySem.W.fnOf "gone_by" "gone_by" (defArgs s_gone_by) (defBody s_gone_by) (defScope s_gone_by) .none kV doc pm an cdv ct) ⟨us, []⟩ = pure ((["lines", "deeds"] : List Str).zip us) := match us, hl with | [_, _], _ => rfl
theorem b_gone_by (h : Hd K mg) (cdv : Value) (A : Around) (outer : List Env) (s : Shared) (H : Hp) (E : XK) (hr : Room 1 (A.deeper (envOfC "gone_by" (defScope s_gone_by) s.heap.objs.size (He.ga K "gone_by") cdv))) : ESs (cxOf (L2.CX P w) P w K mg base N_gone_by "gone_by" (defScope s_gone_by) (He.ga K "gone_by") cdv A outer s H E) (WD E) (defBody s_gone_by) m_gone_by := by
      have hN : N_gone_by.Nodup := by decide
      have hu := units_of hr
      have hp := passes_of (X := cxOf (L2.CX P w) P w K mg base N_gone_by "gone_by" (defScope s_gone_by) (He.ga K "gone_by") cdv A outer s H E) rfl
      have tk : Takes (cxOf (L2.CX P w) P w K mg base N_gone_by "gone_by" (defScope s_gone_by) (He.ga K "gone_by") cdv A outer s H E) (WD E) := takes_of rfl rfl rfl rfl
      have hc : (cxOf (L2.CX P w) P w K mg base N_gone_by "gone_by" (defScope s_gone_by) (He.ga K "gone_by") cdv A outer s H E).calm = true := rfl
      exact (ess_cons (es_par (i := 2) (j := 3) rfl hN (ea_cons (ec_callP tk (ok_first_stand h) (hr.mono (by decide)) h.g_first_stand h.k_first_stand (ea_cons (ee_var 0) ea_nil)) (ea_cons (ee_lst true ea_nil) ea_nil)))
  (ess_cons (es_for 0 hp rfl (ei_enu (ee_var 1) h.f_enumerate) (eg_tup rfl (egs_cons (eg_name 4 hN) (egs_cons (eg_name 5 hN) egs_nil)))
  (ess_cons (es_set 6 hN (ec_callP tk (ok_behind h) (hr.mono (by decide)) h.g_behind h.k_behind (ea_cons (ee_var 0) (ea_cons (ee_var 2) (ea_cons (ee_var 5) ea_nil)))))
  (ess_cons (es_if (et_cmp op_isD (ee_var 6) ee_non)
  (ess_one (es_ret (ee_tup (ea_cons (ee_var 2) (ea_cons (ee_var 3) (ea_cons (ee_var 4) ea_nil))))))
  ess_nil)
  (ess_cons (es_if (et_cmp (op_eqDD hu) (ee_var 5) ee_str)
  (ess_one (es_expr (ee_append (ee_var 3) (ee_sub hu (ee_var 2) ee_int))))
  ess_nil)
  (ess_one (es_set 2 hN (ee_var 6)))))))
  (ess_one (es_ret (ee_tup (ea_cons (ee_var 2) (ea_cons (ee_var 3) (ea_cons (ee_un (un_negD false) ee_int) ea_nil))))))))
theorem ok_gone_by (h : Hd K mg) : FOk P w K mg base 2 (He.ga K "gone_by") 2 f_gone_by :=
  fok_of (N := N_gone_by) (ps := ["lines", "deeds"]) m_gone_by h.F_gone_by sc_gone_by rfl rfl bd_gone_by (b_gone_by h)
def m_heights_of : SM := (sSeq (sSet 2 (eCallP 1 f_first_stand (aCons (eVar 0) aNil)))
  (sSeq (sPar [3, 4] (aCons eDict (aCons (eLst false (aCons (eVar 2) aNil)) aNil)))
  (sSeq (sPut (eLst false aNil) (eVar 3) (eVar 2))
  (sSeq (sWhile 100000 (t2 neG (eVar 4) (eLst false aNil))
  (sSeq (sSet 5 (eLst true aNil))
  (sSeq (sFor 0 (iOf (eVar 4)) (gbName 6)
  (sFor 0 (iOf (eCallP 3 f_kept (aCons (eVar 0) (aCons (eVar 1) (aCons (eVar 6) aNil))))) (gbTup (gbCons (gbName 7) (gbCons (gbName 8) gbNil)))
  (sIf (tAndD (tNotD (tAndD (t2 eqG (eVar 7) (eC (.str "out"))) (tOf (eCallP 1 f_is_last (aCons (eVar 6) aNil))))) (t2 notInG (eVar 8) (eVar 3)))
  (sSeq (sPut (e2 false addG (e2 false ixG (eVar 3) (eVar 6)) (eLst false (aCons (eVar 7) aNil))) (eVar 3) (eVar 8))
  (sDrop (eMt apG (eVar 5) (eVar 8))))
  sNil)))
  (sSet 4 (eVar 5)))))
  (sRet (eVar 3))))))
def f_heights_of : FM := fnM 7 m_heights_of
def N_heights_of : List Str := ["lines", "order", "first", "found", "line", "more", "stand", "deed", "other"]
theorem sc_heights_of : FnScope N_heights_of ["lines", "order"] (defScope s_heights_of) := ⟨rfl, rfl, rfl, by decide, by decide, by decide, by decide⟩
theorem bd_heights_of (kV doc pm : Value) (an : Option Addr) (cdv ct : Value) (us : List Value) (hl : us.length = (["lines", "order"] : List Str).length) : bindArgs (PySem.W.fnOf "heights_of" "heights_of" (defArgs s_heights_of) (defBody s_heights_of) (defScope s_heights_of) .none kV doc pm an cdv ct) ⟨us, []⟩ = pure ((["lines", "order"] : List Str).zip us) := match us, hl with | [_, _], _ => rfl
theorem b_heights_of (h : Hd K mg) (cdv : Value) (A : Around) (outer : List Env) (s : Shared) (H : Hp) (E : XK) (hr : Room 3 (A.deeper (envOfC "heights_of" (defScope s_heights_of) s.heap.objs.size (He.ga K "heights_of") cdv))) : ESs (cxOf (L2.CX P w) P w K mg base N_heights_of "heights_of" (defScope s_heights_of) (He.ga K "heights_of") cdv A outer s H E) (WD E) (defBody s_heights_of) m_heights_of := by
      have hN : N_heights_of.Nodup := by decide
      have hu := units_of hr
      have hp := passes_of (X := cxOf (L2.CX P w) P w K mg base N_heights_of "heights_of" (defScope s_heights_of) (He.ga K "heights_of") cdv A outer s H E) rfl
      have tk : Takes (cxOf (L2.CX P w) P w K mg base N_heights_of "heights_of" (defScope s_heights_of) (He.ga K "heights_of") cdv A outer s H E) (WD E) := takes_of rfl rfl rfl rfl
      have hc : (cxOf (L2.CX P w) P w K mg base N_heights_of "heights_of" (defScope s_heights_of) (He.ga K "heights_of") cdv A outer s H E).calm = true := rfl
      exact (ess_cons (es_set 2 hN (ec_callP tk (ok_first_stand h) (hr.mono (by decide)) h.g_first_stand h.k_first_stand (ea_cons (ee_var 0) ea_nil)))
  (ess_cons (es_par (i := 3) (j := 4) rfl hN (ea_cons ee_dict (ea_cons (ee_lst false (ea_cons (ee_var 2) ea_nil)) ea_nil)))
  (ess_cons (es_put hu (ee_lst false ea_nil) (ee_var 3) (ee_var 2))
  (ess_cons (es_while 100000 hp (et_cmp (op_neDD hu) (ee_var 4) (ee_lst false ea_nil))
  (ess_cons (es_set 5 hN (ee_lst true ea_nil))
  (ess_cons (es_for 0 hp rfl (ei_of (ee_var 4)) (eg_name 6 hN)
  (ess_one (es_for 0 hp rfl (ei_of (ec_callP tk (ok_kept h) (hr.mono (by decide)) h.g_kept h.k_kept (ea_cons (ee_var 0) (ea_cons (ee_var 1) (ea_cons (ee_var 6) ea_nil))))) (eg_tup rfl (egs_cons (eg_name 7 hN) (egs_cons (eg_name 8 hN) egs_nil)))
  (ess_one (es_if (et_w (ew_and (et_not (et_w (ew_and (et_cmp (op_eqDD hu) (ee_var 7) ee_str) (ew_and1 (et_of (ec_callP tk (ok_is_last h) (hr.mono (by decide)) h.g_is_last h.k_is_last (ea_cons (ee_var 6) ea_nil))))))) (ew_and1 (et_cmp (op_notInDD hu) (ee_var 8) (ee_var 3)))))
  (ess_cons (es_put hu (ee_op op_addD false (ee_sub hu (ee_var 3) (ee_var 6)) (ee_lst false (ea_cons (ee_var 7) ea_nil))) (ee_var 3) (ee_var 8))
  (ess_one (es_expr (ee_append (ee_var 5) (ee_var 8)))))
  ess_nil)))))
  (ess_one (es_set 4 hN (ee_var 5))))))
  (ess_one (es_ret (ee_var 3)))))))
theorem ok_heights_of (h : Hd K mg) : FOk P w K mg base 4 (He.ga K "heights_of") 2 f_heights_of :=
  fok_of (N := N_heights_of) (ps := ["lines", "order"]) m_heights_of h.F_heights_of sc_heights_of rfl rfl bd_heights_of (b_heights_of h)
def m_brings : SM := (sSeq (sAsg (gbTup (gbCons (gbName 3) (gbCons (gbName 4) (gbCons (gbName 5) gbNil)))) (eCallP 2 f_gone_by (aCons (eVar 0) (aCons (eVar 2) aNil))))
  (sRet (eAnd (e2 false ltG (eVar 5) (eC (.int 0))) (eAnd (e2 false neG (eVar 2) (eLst false aNil)) (eAnd (e2 false eqG (e2 false ixG (eVar 2) (e1 false negG (eC (.int 1)))) (eC (.str "out"))) (e2 false eqG (eVar 4) (eVar 1)))))))
def f_brings : FM := fnM 3 m_brings
def N_brings : List Str := ["lines", "order", "deeds", "stand", "gone", "place"]
theorem sc_brings : FnScope N_brings ["lines", "order", "deeds"] (defScope s_brings) := ⟨rfl, rfl, rfl, by decide, by decide, by decide, by decide⟩
theorem bd_brings (kV doc pm : Value) (an : Option Addr) (cdv ct : Value) (us : List Value) (hl : us.length = (["lines", "order", "deeds"] : List Str).length) : bindArgs (PySem.W.fnOf "brings" "brings" (defArgs s_brings) (defBody s_brings) (defScope s_brings) .none kV doc pm an cdv ct) ⟨us, []⟩ = pure ((["lines", "order", "deeds"] : List Str).zip us) := match us, hl with | [_, _, _], _ => rfl
theorem b_brings (h : Hd K mg) (cdv : Value) (A : Around) (outer : List Env) (s : Shared) (H : Hp) (E : XK) (hr : Room 2 (A.deeper (envOfC "brings" (defScope s_brings) s.heap.objs.size (He.ga K "brings") cdv))) : ESs (cxOf (L2.CX P w) P w K mg base N_brings "brings" (defScope s_brings) (He.ga K "brings") cdv A outer s H E) (WD E) (defBody s_brings) m_brings := by
      have hN : N_brings.Nodup := by decide
      have hu := units_of hr
      have hp := passes_of (X := cxOf (L2.CX P w) P w K mg base N_brings "brings" (defScope s_brings) (He.ga K "brings") cdv A outer s H E) rfl
      have tk : Takes (cxOf (L2.CX P w) P w K mg base N_brings "brings" (defScope s_brings) (He.ga K "brings") cdv A outer s H E) (WD E) := takes_of rfl rfl rfl rfl
      have hc : (cxOf (L2.CX P w) P w K mg base N_brings "brings" (defScope s_brings) (He.ga K "brings") cdv A outer s H E).calm = true := rfl
      exact (ess_cons (es_asg (ec_callP tk (ok_gone_by h) (hr.mono (by decide)) h.g_gone_by h.k_gone_by (ea_cons (ee_var 0) (ea_cons (ee_var 2) ea_nil))) (eg_tup rfl (egs_cons (eg_name 3 hN) (egs_cons (eg_name 4 hN) (egs_cons (eg_name 5 hN) egs_nil)))))
  (ess_one (es_ret (ee_and (ee_cmp (op_ltD hu) (ee_var 5) ee_int) (ee_and (ee_cmp (op_neDD hu) (ee_var 2) (ee_lst false ea_nil)) (ee_and (ee_cmp (op_eqDD hu) (ee_sub hu (ee_var 2) (ee_un (un_negD false) ee_int)) ee_str) (ee_one (ee_cmp (op_eqDD hu) (ee_var 4) (ee_var 1)))))))))
theorem ok_brings (h : Hd K mg) : FOk P w K mg base 3 (He.ga K "brings") 3 f_brings :=
  fok_of (N := N_brings) (ps := ["lines", "order", "deeds"]) m_brings h.F_brings sc_brings rfl rfl bd_brings (b_brings h)
def m_Came_init : SM := (sSeq (sFldM cs_stand "stand" (eVar 1) (eVar 0))
  (sFldM cs_gone "gone" (eCall true lisG (aCons (eVar 2) aNil)) (eVar 0)))
def f_Came_init : FM := fnM 0 m_Came_init
def N_Came_init : List Str := ["self", "stand", "gone"]
theorem sc_Came_init : FnScope N_Came_init ["self", "stand", "gone"] (defScope s_Came_init) := ⟨rfl, rfl, rfl, by decide, by decide, by decide, by decide⟩
theorem bd_Came_init (kV doc pm : Value) (an : Option Addr) (cdv ct : Value) (us : List Value) (hl : us.length = (["self", "stand", "gone"] : List Str).length) : bindArgs (PySem.W.fnOf "__init__" "Came.__init__" (defArgs s_Came_init) (defBody s_Came_init) (defScope s_Came_init) .none kV doc pm an cdv ct) ⟨us, []⟩ = pure ((["self", "stand", "gone"] : List Str).zip us) := match us, hl with | [_, _, _], _ => rfl
theorem b_Came_init (h : Hd K mg) (cdv : Value) (A : Around) (outer : List Env) (s : Shared) (H : Hp) (E : XK) (hr : Room 0 (A.deeper (envOfC "Came.__init__" (defScope s_Came_init) s.heap.objs.size (He.ma K (He.ga K "Came") "__init__") cdv))) : ESs (cxOf (L2.CX P w) P w K mg base N_Came_init "Came.__init__" (defScope s_Came_init) (He.ma K (He.ga K "Came") "__init__") cdv A outer s H E) (WD E) (defBody s_Came_init) m_Came_init := by
      have hN : N_Came_init.Nodup := by decide
      have hu := units_of hr
      have hp := passes_of (X := cxOf (L2.CX P w) P w K mg base N_Came_init "Came.__init__" (defScope s_Came_init) (He.ma K (He.ga K "Came") "__init__") cdv A outer s H E) rfl
      have tk : Takes (cxOf (L2.CX P w) P w K mg base N_Came_init "Came.__init__" (defScope s_Came_init) (He.ma K (He.ga K "Came") "__init__") cdv A outer s H E) (WD E) := takes_of rfl rfl rfl rfl
      have hc : (cxOf (L2.CX P w) P w K mg base N_Came_init "Came.__init__" (defScope s_Came_init) (He.ma K (He.ga K "Came") "__init__") cdv A outer s H E).calm = true := rfl
      exact (ess_cons (es_fld cs_stand h.at_stand (ee_var 0) (ee_var 1))
  (ess_one (es_fld cs_gone h.at_gone (ee_var 0) (ee_callTy true cb_list (ea_cons (ee_var 2) ea_nil) h.f_list bb_list))))
theorem ok_Came_init (h : Hd K mg) : FOk P w K mg base 1 (He.ma K (He.ga K "Came") "__init__") 3 f_Came_init :=
  fok_of (N := N_Came_init) (ps := ["self", "stand", "gone"]) m_Came_init h.F_Came_init sc_Came_init rfl rfl bd_Came_init (b_Came_init h)
def m_Came_shows : SM := (sSeq (sAsg (gbTup (gbCons (gbName 3) (gbCons (gbName 4) (gbCons (gbName 5) gbNil)))) (eCallP 2 f_gone_by (aCons (eVar 1) (aCons (eVar 2) aNil))))
  (sRet (eAnd (e2 false ltG (eVar 5) (eC (.int 0))) (eAnd (e2 false eqG (eFldC cs_stand "stand" (eVar 0)) (eVar 3)) (e2 false eqG (eFldC cs_gone "gone" (eVar 0)) (eVar 4))))))
def f_Came_shows : FM := fnM 3 m_Came_shows
def N_Came_shows : List Str := ["self", "lines", "deeds", "stand", "gone", "place"]
theorem sc_Came_shows : FnScope N_Came_shows ["self", "lines", "deeds"] (defScope s_Came_shows) := ⟨rfl, rfl, rfl, by decide, by decide, by decide, by decide⟩
theorem bd_Came_shows (kV doc pm : Value) (an : Option Addr) (cdv ct : Value) (us : List Value) (hl : us.length = (["self", "lines", "deeds"] : List Str).length) : bindArgs (PySem.W.fnOf "shows" "Came.shows" (defArgs s_Came_shows) (defBody s_Came_shows) (defScope s_Came_shows) .none kV doc pm an cdv ct) ⟨us, []⟩ = pure ((["self", "lines", "deeds"] : List Str).zip us) := match us, hl with | [_, _, _], _ => rfl
theorem b_Came_shows (h : Hd K mg) (cdv : Value) (A : Around) (outer : List Env) (s : Shared) (H : Hp) (E : XK) (hr : Room 2 (A.deeper (envOfC "Came.shows" (defScope s_Came_shows) s.heap.objs.size (He.ma K (He.ga K "Came") "shows") cdv))) : ESs (cxOf (L2.CX P w) P w K mg base N_Came_shows "Came.shows" (defScope s_Came_shows) (He.ma K (He.ga K "Came") "shows") cdv A outer s H E) (WD E) (defBody s_Came_shows) m_Came_shows := by
      have hN : N_Came_shows.Nodup := by decide
      have hu := units_of hr
      have hp := passes_of (X := cxOf (L2.CX P w) P w K mg base N_Came_shows "Came.shows" (defScope s_Came_shows) (He.ma K (He.ga K "Came") "shows") cdv A outer s H E) rfl
      have tk : Takes (cxOf (L2.CX P w) P w K mg base N_Came_shows "Came.shows" (defScope s_Came_shows) (He.ma K (He.ga K "Came") "shows") cdv A outer s H E) (WD E) := takes_of rfl rfl rfl rfl
      have hc : (cxOf (L2.CX P w) P w K mg base N_Came_shows "Came.shows" (defScope s_Came_shows) (He.ma K (He.ga K "Came") "shows") cdv A outer s H E).calm = true := rfl
      exact (ess_cons (es_asg (ec_callP tk (ok_gone_by h) (hr.mono (by decide)) h.g_gone_by h.k_gone_by (ea_cons (ee_var 1) (ea_cons (ee_var 2) ea_nil))) (eg_tup rfl (egs_cons (eg_name 3 hN) (egs_cons (eg_name 4 hN) (egs_cons (eg_name 5 hN) egs_nil)))))
  (ess_one (es_ret (ee_and (ee_cmp (op_ltD hu) (ee_var 5) ee_int) (ee_and (ee_cmp (op_eqDD hu) (ee_fld cs_stand h.at_stand (ee_var 0)) (ee_var 3)) (ee_one (ee_cmp (op_eqDD hu) (ee_fld cs_gone h.at_gone (ee_var 0)) (ee_var 4))))))))
theorem ok_Came_shows (h : Hd K mg) : FOk P w K mg base 3 (He.ma K (He.ga K "Came") "shows") 3 f_Came_shows :=
  fok_of (N := N_Came_shows) (ps := ["self", "lines", "deeds"]) m_Came_shows h.F_Came_shows sc_Came_shows rfl rfl bd_Came_shows (b_Came_shows h)
def m_Barred_init : SM := (sFldM cs_place "place" (eVar 1) (eVar 0))
def f_Barred_init : FM := fnM 0 m_Barred_init
def N_Barred_init : List Str := ["self", "place"]
theorem sc_Barred_init : FnScope N_Barred_init ["self", "place"] (defScope s_Barred_init) := ⟨rfl, rfl, rfl, by decide, by decide, by decide, by decide⟩
theorem bd_Barred_init (kV doc pm : Value) (an : Option Addr) (cdv ct : Value) (us : List Value) (hl : us.length = (["self", "place"] : List Str).length) : bindArgs (PySem.W.fnOf "__init__" "Barred.__init__" (defArgs s_Barred_init) (defBody s_Barred_init) (defScope s_Barred_init) .none kV doc pm an cdv ct) ⟨us, []⟩ = pure ((["self", "place"] : List Str).zip us) := match us, hl with | [_, _], _ => rfl
theorem b_Barred_init (h : Hd K mg) (cdv : Value) (A : Around) (outer : List Env) (s : Shared) (H : Hp) (E : XK) (hr : Room 0 (A.deeper (envOfC "Barred.__init__" (defScope s_Barred_init) s.heap.objs.size (He.ma K (He.ga K "Barred") "__init__") cdv))) : ESs (cxOf (L2.CX P w) P w K mg base N_Barred_init "Barred.__init__" (defScope s_Barred_init) (He.ma K (He.ga K "Barred") "__init__") cdv A outer s H E) (WD E) (defBody s_Barred_init) m_Barred_init := by
      have hN : N_Barred_init.Nodup := by decide
      have hu := units_of hr
      have hp := passes_of (X := cxOf (L2.CX P w) P w K mg base N_Barred_init "Barred.__init__" (defScope s_Barred_init) (He.ma K (He.ga K "Barred") "__init__") cdv A outer s H E) rfl
      have tk : Takes (cxOf (L2.CX P w) P w K mg base N_Barred_init "Barred.__init__" (defScope s_Barred_init) (He.ma K (He.ga K "Barred") "__init__") cdv A outer s H E) (WD E) := takes_of rfl rfl rfl rfl
      have hc : (cxOf (L2.CX P w) P w K mg base N_Barred_init "Barred.__init__" (defScope s_Barred_init) (He.ma K (He.ga K "Barred") "__init__") cdv A outer s H E).calm = true := rfl
      exact (ess_one (es_fld cs_place h.at_place (ee_var 0) (ee_var 1)))
theorem ok_Barred_init (h : Hd K mg) : FOk P w K mg base 1 (He.ma K (He.ga K "Barred") "__init__") 2 f_Barred_init :=
  fok_of (N := N_Barred_init) (ps := ["self", "place"]) m_Barred_init h.F_Barred_init sc_Barred_init rfl rfl bd_Barred_init (b_Barred_init h)
def m_Barred_shows : SM := (sRet (eAnd (e2 false geG (eFldC cs_place "place" (eVar 0)) (eC (.int 0))) (e2 false eqG (e2 false ixG (eCallP 2 f_gone_by (aCons (eVar 1) (aCons (eVar 2) aNil))) (eC (.int 2))) (eFldC cs_place "place" (eVar 0)))))
def f_Barred_shows : FM := fnM 0 m_Barred_shows
def N_Barred_shows : List Str := ["self", "lines", "deeds"]
theorem sc_Barred_shows : FnScope N_Barred_shows ["self", "lines", "deeds"] (defScope s_Barred_shows) := ⟨rfl, rfl, rfl, by decide, by decide, by decide, by decide⟩
theorem bd_Barred_shows (kV doc pm : Value) (an : Option Addr) (cdv ct : Value) (us : List Value) (hl : us.length = (["self", "lines", "deeds"] : List Str).length) : bindArgs (PySem.W.fnOf "shows" "Barred.shows" (defArgs s_Barred_shows) (defBody s_Barred_shows) (defScope s_Barred_shows) .none kV doc pm an cdv ct) ⟨us, []⟩ = pure ((["self", "lines", "deeds"] : List Str).zip us) := match us, hl with | [_, _, _], _ => rfl
theorem b_Barred_shows (h : Hd K mg) (cdv : Value) (A : Around) (outer : List Env) (s : Shared) (H : Hp) (E : XK) (hr : Room 2 (A.deeper (envOfC "Barred.shows" (defScope s_Barred_shows) s.heap.objs.size (He.ma K (He.ga K "Barred") "shows") cdv))) : ESs (cxOf (L2.CX P w) P w K mg base N_Barred_shows "Barred.shows" (defScope s_Barred_shows) (He.ma K (He.ga K "Barred") "shows") cdv A outer s H E) (WD E) (defBody s_Barred_shows) m_Barred_shows := by
      have hN : N_Barred_shows.Nodup := by decide
      have hu := units_of hr
      have hp := passes_of (X := cxOf (L2.CX P w) P w K mg base N_Barred_shows "Barred.shows" (defScope s_Barred_shows) (He.ma K (He.ga K "Barred") "shows") cdv A outer s H E) rfl
      have tk : Takes (cxOf (L2.CX P w) P w K mg base N_Barred_shows "Barred.shows" (defScope s_Barred_shows) (He.ma K (He.ga K "Barred") "shows") cdv A outer s H E) (WD E) := takes_of rfl rfl rfl rfl
      have hc : (cxOf (L2.CX P w) P w K mg base N_Barred_shows "Barred.shows" (defScope s_Barred_shows) (He.ma K (He.ga K "Barred") "shows") cdv A outer s H E).calm = true := rfl
      exact (ess_one (es_ret (ee_and (ee_cmp op_geD (ee_fld cs_place h.at_place (ee_var 0)) ee_int) (ee_one (ee_cmp (op_eqDD hu) (ee_sub hu (ec_callP tk (ok_gone_by h) (hr.mono (by decide)) h.g_gone_by h.k_gone_by (ea_cons (ee_var 1) (ea_cons (ee_var 2) ea_nil))) ee_int) (ee_fld cs_place h.at_place (ee_var 0)))))))
theorem ok_Barred_shows (h : Hd K mg) : FOk P w K mg base 3 (He.ma K (He.ga K "Barred") "shows") 3 f_Barred_shows :=
  fok_of (N := N_Barred_shows) (ps := ["self", "lines", "deeds"]) m_Barred_shows h.F_Barred_shows sc_Barred_shows rfl rfl bd_Barred_shows (b_Barred_shows h)
def m_Within_init : SM := (sFldM cs_deeds "deeds" (eCall true lisG (aCons (eVar 1) aNil)) (eVar 0))
def f_Within_init : FM := fnM 0 m_Within_init
def N_Within_init : List Str := ["self", "deeds"]
theorem sc_Within_init : FnScope N_Within_init ["self", "deeds"] (defScope s_Within_init) := ⟨rfl, rfl, rfl, by decide, by decide, by decide, by decide⟩
theorem bd_Within_init (kV doc pm : Value) (an : Option Addr) (cdv ct : Value) (us : List Value) (hl : us.length = (["self", "deeds"] : List Str).length) : bindArgs (PySem.W.fnOf "__init__" "Within.__init__" (defArgs s_Within_init) (defBody s_Within_init) (defScope s_Within_init) .none kV doc pm an cdv ct) ⟨us, []⟩ = pure ((["self", "deeds"] : List Str).zip us) := match us, hl with | [_, _], _ => rfl
theorem b_Within_init (h : Hd K mg) (cdv : Value) (A : Around) (outer : List Env) (s : Shared) (H : Hp) (E : XK) (hr : Room 0 (A.deeper (envOfC "Within.__init__" (defScope s_Within_init) s.heap.objs.size (He.ma K (He.ga K "Within") "__init__") cdv))) : ESs (cxOf (L2.CX P w) P w K mg base N_Within_init "Within.__init__" (defScope s_Within_init) (He.ma K (He.ga K "Within") "__init__") cdv A outer s H E) (WD E) (defBody s_Within_init) m_Within_init := by
      have hN : N_Within_init.Nodup := by decide
      have hu := units_of hr
      have hp := passes_of (X := cxOf (L2.CX P w) P w K mg base N_Within_init "Within.__init__" (defScope s_Within_init) (He.ma K (He.ga K "Within") "__init__") cdv A outer s H E) rfl
      have tk : Takes (cxOf (L2.CX P w) P w K mg base N_Within_init "Within.__init__" (defScope s_Within_init) (He.ma K (He.ga K "Within") "__init__") cdv A outer s H E) (WD E) := takes_of rfl rfl rfl rfl
      have hc : (cxOf (L2.CX P w) P w K mg base N_Within_init "Within.__init__" (defScope s_Within_init) (He.ma K (He.ga K "Within") "__init__") cdv A outer s H E).calm = true := rfl
      exact (ess_one (es_fld cs_deeds h.at_deeds (ee_var 0) (ee_callTy true cb_list (ea_cons (ee_var 1) ea_nil) h.f_list bb_list)))
theorem ok_Within_init (h : Hd K mg) : FOk P w K mg base 1 (He.ma K (He.ga K "Within") "__init__") 2 f_Within_init :=
  fok_of (N := N_Within_init) (ps := ["self", "deeds"]) m_Within_init h.F_Within_init sc_Within_init rfl rfl bd_Within_init (b_Within_init h)
def m_Within_shows : SM := (sSeq (sIf (tOrD (t2 gtG (eCall false lenG (aCons (eFldC cs_deeds "deeds" (eVar 0)) aNil)) (eVar 3)) (tNotD (tOf (eCall false allG (aCons (eLc false (iOf (eFldC cs_deeds "deeds" (eVar 0))) (gbName 4) tYesD (eCallP 1 f_is_deed (aCons (eVar 4) aNil)) [4]) aNil)))))
  (sRet (eC (.bl false)))
  sNil)
  (sRet (eCallP 3 f_brings (aCons (eVar 1) (aCons (eVar 2) (aCons (eFldC cs_deeds "deeds" (eVar 0)) aNil))))))
def f_Within_shows : FM := fnM 1 m_Within_shows
def N_Within_shows : List Str := ["self", "lines", "order", "many", "deed"]
theorem sc_Within_shows : FnScope N_Within_shows ["self", "lines", "order", "many"] (defScope s_Within_shows) := ⟨rfl, rfl, rfl, by decide, by decide, by decide, by decide⟩
theorem bd_Within_shows (kV doc pm : Value) (an : Option Addr) (cdv ct : Value) (us : List Value) (hl : us.length = (["self", "lines", "order", "many"] : List Str).length) : bindArgs (PySem.W.fnOf "shows" "Within.shows" (defArgs s_Within_shows) (defBody s_Within_shows) (defScope s_Within_shows) .none kV doc pm an cdv ct) ⟨us, []⟩ = pure ((["self", "lines", "order", "many"] : List Str).zip us) := match us, hl with | [_, _, _, _], _ => rfl
theorem b_Within_shows (h : Hd K mg) (cdv : Value) (A : Around) (outer : List Env) (s : Shared) (H : Hp) (E : XK) (hr : Room 3 (A.deeper (envOfC "Within.shows" (defScope s_Within_shows) s.heap.objs.size (He.ma K (He.ga K "Within") "shows") cdv))) : ESs (cxOf (L2.CX P w) P w K mg base N_Within_shows "Within.shows" (defScope s_Within_shows) (He.ma K (He.ga K "Within") "shows") cdv A outer s H E) (WD E) (defBody s_Within_shows) m_Within_shows := by
      have hN : N_Within_shows.Nodup := by decide
      have hu := units_of hr
      have hp := passes_of (X := cxOf (L2.CX P w) P w K mg base N_Within_shows "Within.shows" (defScope s_Within_shows) (He.ma K (He.ga K "Within") "shows") cdv A outer s H E) rfl
      have tk : Takes (cxOf (L2.CX P w) P w K mg base N_Within_shows "Within.shows" (defScope s_Within_shows) (He.ma K (He.ga K "Within") "shows") cdv A outer s H E) (WD E) := takes_of rfl rfl rfl rfl
      have hc : (cxOf (L2.CX P w) P w K mg base N_Within_shows "Within.shows" (defScope s_Within_shows) (He.ma K (He.ga K "Within") "shows") cdv A outer s H E).calm = true := rfl
      exact (ess_cons (es_if (et_w (ew_or (et_cmp op_gtD (ee_callB false cb_len (ea_cons (ee_fld cs_deeds h.at_deeds (ee_var 0)) ea_nil) h.f_len bb_len) (ee_var 3)) (ew_or1 (et_not (et_of (ee_callB false (cb_all rfl) (ea_cons (ee_lc false rfl hN [("deed", 4)] (ei_of (ee_fld cs_deeds h.at_deeds (ee_var 0))) (by rfl) (fun _ _ _ _ _ => (eg_name 4 hN)) (fun _ _ _ _ _ => ets_nil) (fun _ _ _ _ _ => (ec_callP takes0 (ok_is_deed h) (hr.mono (by decide)) h.g_is_deed h.k_is_deed (ea_cons (ee_var 4) ea_nil)))) ea_nil) h.f_all bb_all))))))
  (ess_one (es_ret ee_bl))
  ess_nil)
  (ess_one (es_ret (ec_callP tk (ok_brings h) (hr.mono (by decide)) h.g_brings h.k_brings (ea_cons (ee_var 1) (ea_cons (ee_var 2) (ea_cons (ee_fld cs_deeds h.at_deeds (ee_var 0)) ea_nil)))))))
theorem ok_Within_shows (h : Hd K mg) : FOk P w K mg base 4 (He.ma K (He.ga K "Within") "shows") 4 f_Within_shows :=
  fok_of (N := N_Within_shows) (ps := ["self", "lines", "order", "many"]) m_Within_shows h.F_Within_shows sc_Within_shows rfl rfl bd_Within_shows (b_Within_shows h)
def m_Beyond_init : SM := (sFldM cs_heights "heights" (eCall true lisG (aCons (eVar 1) aNil)) (eVar 0))
def f_Beyond_init : FM := fnM 0 m_Beyond_init
def N_Beyond_init : List Str := ["self", "heights"]
theorem sc_Beyond_init : FnScope N_Beyond_init ["self", "heights"] (defScope s_Beyond_init) := ⟨rfl, rfl, rfl, by decide, by decide, by decide, by decide⟩
theorem bd_Beyond_init (kV doc pm : Value) (an : Option Addr) (cdv ct : Value) (us : List Value) (hl : us.length = (["self", "heights"] : List Str).length) : bindArgs (PySem.W.fnOf "__init__" "Beyond.__init__" (defArgs s_Beyond_init) (defBody s_Beyond_init) (defScope s_Beyond_init) .none kV doc pm an cdv ct) ⟨us, []⟩ = pure ((["self", "heights"] : List Str).zip us) := match us, hl with | [_, _], _ => rfl
theorem b_Beyond_init (h : Hd K mg) (cdv : Value) (A : Around) (outer : List Env) (s : Shared) (H : Hp) (E : XK) (hr : Room 0 (A.deeper (envOfC "Beyond.__init__" (defScope s_Beyond_init) s.heap.objs.size (He.ma K (He.ga K "Beyond") "__init__") cdv))) : ESs (cxOf (L2.CX P w) P w K mg base N_Beyond_init "Beyond.__init__" (defScope s_Beyond_init) (He.ma K (He.ga K "Beyond") "__init__") cdv A outer s H E) (WD E) (defBody s_Beyond_init) m_Beyond_init := by
      have hN : N_Beyond_init.Nodup := by decide
      have hu := units_of hr
      have hp := passes_of (X := cxOf (L2.CX P w) P w K mg base N_Beyond_init "Beyond.__init__" (defScope s_Beyond_init) (He.ma K (He.ga K "Beyond") "__init__") cdv A outer s H E) rfl
      have tk : Takes (cxOf (L2.CX P w) P w K mg base N_Beyond_init "Beyond.__init__" (defScope s_Beyond_init) (He.ma K (He.ga K "Beyond") "__init__") cdv A outer s H E) (WD E) := takes_of rfl rfl rfl rfl
      have hc : (cxOf (L2.CX P w) P w K mg base N_Beyond_init "Beyond.__init__" (defScope s_Beyond_init) (He.ma K (He.ga K "Beyond") "__init__") cdv A outer s H E).calm = true := rfl
      exact (ess_one (es_fld cs_heights h.at_heights (ee_var 0) (ee_callTy true cb_list (ea_cons (ee_var 1) ea_nil) h.f_list bb_list)))
theorem ok_Beyond_init (h : Hd K mg) : FOk P w K mg base 1 (He.ma K (He.ga K "Beyond") "__init__") 2 f_Beyond_init :=
  fok_of (N := N_Beyond_init) (ps := ["self", "heights"]) m_Beyond_init h.F_Beyond_init sc_Beyond_init rfl rfl bd_Beyond_init (b_Beyond_init h)
def m_nexts : SM := (sRet (eLc true (iOf (eCallP 3 f_kept (aCons (eVar 0) (aCons (eVar 1) (aCons (eVar 2) aNil))))) (gbTup (gbCons (gbName 3) (gbCons (gbName 4) gbNil))) (tOrD (t2 neG (eVar 3) (eC (.str "out"))) (tNotD (tOf (eCallP 1 f_is_last (aCons (eVar 2) aNil))))) (eVar 4) [3, 4]))
def f_nexts : FM := fnM 2 m_nexts
def N_nexts : List Str := ["lines", "order", "stand", "deed", "other"]
theorem sc_nexts : FnScope N_nexts ["lines", "order", "stand"] (defScope s_nexts) := ⟨rfl, rfl, rfl, by decide, by decide, by decide, by decide⟩
theorem bd_nexts (kV doc pm : Value) (an : Option Addr) (cdv ct : Value) (us : List Value) (hl : us.length = (["lines", "order", "stand"] : List Str).length) : bindArgs (PySem.W.fnOf "nexts" "nexts" (defArgs s_nexts) (defBody s_nexts) (defScope s_nexts) .none kV doc pm an cdv ct) ⟨us, []⟩ = pure ((["lines", "order", "stand"] : List Str).zip us) := match us, hl with | [_, _, _], _ => rfl
theorem b_nexts (h : Hd K mg) (cdv : Value) (A : Around) (outer : List Env) (s : Shared) (H : Hp) (E : XK) (hr : Room 3 (A.deeper (envOfC "nexts" (defScope s_nexts) s.heap.objs.size (He.ga K "nexts") cdv))) : ESs (cxOf (L2.CX P w) P w K mg base N_nexts "nexts" (defScope s_nexts) (He.ga K "nexts") cdv A outer s H E) (WD E) (defBody s_nexts) m_nexts := by
      have hN : N_nexts.Nodup := by decide
      have hu := units_of hr
      have hp := passes_of (X := cxOf (L2.CX P w) P w K mg base N_nexts "nexts" (defScope s_nexts) (He.ga K "nexts") cdv A outer s H E) rfl
      have tk : Takes (cxOf (L2.CX P w) P w K mg base N_nexts "nexts" (defScope s_nexts) (He.ga K "nexts") cdv A outer s H E) (WD E) := takes_of rfl rfl rfl rfl
      have hc : (cxOf (L2.CX P w) P w K mg base N_nexts "nexts" (defScope s_nexts) (He.ga K "nexts") cdv A outer s H E).calm = true := rfl
      exact (ess_one (es_ret (ee_lc true rfl hN [("deed", 3), ("other", 4)] (ei_of (ec_callP tk (ok_kept h) (hr.mono (by decide)) h.g_kept h.k_kept (ea_cons (ee_var 0) (ea_cons (ee_var 1) (ea_cons (ee_var 2) ea_nil))))) (by rfl) (fun _ _ _ _ _ => (eg_tup rfl (egs_cons (eg_name 3 hN) (egs_cons (eg_name 4 hN) egs_nil)))) (fun _ _ _ _ _ => (ets_one (et_w (ew_or (et_cmp (op_neDD hu) (ee_var 3) ee_str) (ew_or1 (et_not (et_of (ec_callP takes0 (ok_is_last h) (hr.mono (by decide)) h.g_is_last h.k_is_last (ea_cons (ee_var 2) ea_nil))))))))) (fun _ _ _ _ _ => (ee_var 4)))))
theorem ok_nexts (h : Hd K mg) : FOk P w K mg base 4 (He.ga K "nexts") 3 f_nexts :=
  fok_of (N := N_nexts) (ps := ["lines", "order", "stand"]) m_nexts h.F_nexts sc_nexts rfl rfl bd_nexts (b_nexts h)
def m_fits : SM := (sSeq (sAsg (gbTup (gbCons (gbName 3) (gbCons (gbName 4) (gbCons (gbName 5) gbNil)))) (eVar 2))
  (sSeq (sIf (tOrD (t2 neG (eCall false lenG (aCons (eVar 3) aNil)) (eCall false lenG (aCons (eVar 0) aNil))) (tOrD (tNotD (tBl (eChain leG ltG (eC (.int 0)) (eVar 4) (eCall false lenG (aCons (eVar 0) aNil))))) (t2 ltG (eVar 5) (e1 false negG (eC (.int 1))))))
  (sRet (eC (.bl false)))
  sNil)
  (sSeq (sIf (tOf (eCall false anyG (aCons (eLc false (iZM (aCons (eVar 3) (aCons (eVar 0) aNil))) (gbTup (gbCons (gbName 7) (gbCons (gbTup (gbCons (gbName 8) (gbCons (gbName 9) gbNil))) gbNil))) tYesD (e2 false gtG (eCall false lenG (aCons (eVar 7) aNil)) (eVar 8)) [7, 8, 9]) aNil)))
  (sRet (eC (.bl false)))
  sNil)
  (sSeq (sSet 6 (eCallP 1 f_there (aCons (eVar 2) aNil)))
  (sRet (eAnd (e2 false neG (eVar 6) (eLst false aNil)) (e2 false eqG (eVar 6) (eCall false sortA (aCons (eSl false (eVar 1) (oSome (e2 false subG (eCall false lenG (aCons (eVar 1) aNil)) (eCall false lenG (aCons (eVar 6) aNil)))) oNone) aNil)))))))))
def f_fits : FM := fnM 7 m_fits
def N_fits : List Str := ["lines", "order", "stand", "rows", "place", "engine", "some", "row", "room", "engines"]
theorem sc_fits : FnScope N_fits ["lines", "order", "stand"] (defScope s_fits) := ⟨rfl, rfl, rfl, by decide, by decide, by decide, by decide⟩
theorem bd_fits (kV doc pm : Value) (an : Option Addr) (cdv ct : Value) (us : List Value) (hl : us.length = (["lines", "order", "stand"] : List Str).length) : bindArgs (PySem.W.fnOf "fits" "fits" (defArgs s_fits) (defBody s_fits) (defScope s_fits) .none kV doc pm an cdv ct) ⟨us, []⟩ = pure ((["lines", "order", "stand"] : List Str).zip us) := match us, hl with | [_, _, _], _ => rfl
theorem b_fits (h : Hd K mg) (cdv : Value) (A : Around) (outer : List Env) (s : Shared) (H : Hp) (E : XK) (hr : Room 1 (A.deeper (envOfC "fits" (defScope s_fits) s.heap.objs.size (He.ga K "fits") cdv))) : ESs (cxOf (L2.CX P w) P w K mg base N_fits "fits" (defScope s_fits) (He.ga K "fits") cdv A outer s H E) (WD E) (defBody s_fits) m_fits := by
      have hN : N_fits.Nodup := by decide
      have hu := units_of hr
      have hp := passes_of (X := cxOf (L2.CX P w) P w K mg base N_fits "fits" (defScope s_fits) (He.ga K "fits") cdv A outer s H E) rfl
      have tk : Takes (cxOf (L2.CX P w) P w K mg base N_fits "fits" (defScope s_fits) (He.ga K "fits") cdv A outer s H E) (WD E) := takes_of rfl rfl rfl rfl
      have hc : (cxOf (L2.CX P w) P w K mg base N_fits "fits" (defScope s_fits) (He.ga K "fits") cdv A outer s H E).calm = true := rfl
      exact (ess_cons (es_asg (ee_var 2) (eg_tup rfl (egs_cons (eg_name 3 hN) (egs_cons (eg_name 4 hN) (egs_cons (eg_name 5 hN) egs_nil)))))
  (ess_cons (es_if (et_w (ew_or (et_cmp (op_neDD hu) (ee_callB false cb_len (ea_cons (ee_var 3) ea_nil) h.f_len bb_len) (ee_callB false cb_len (ea_cons (ee_var 0) ea_nil) h.f_len bb_len)) (ew_or (et_not (et_chain2 op_leD (op_ltD hu) ee_int (ee_var 4) (ee_callB false cb_len (ea_cons (ee_var 0) ea_nil) h.f_len bb_len))) (ew_or1 (et_cmp (op_ltD hu) (ee_var 5) (ee_un (un_negD false) ee_int))))))
  (ess_one (es_ret ee_bl))
  ess_nil)
  (ess_cons (es_if (et_of (ee_callB false (cb_any rfl) (ea_cons (ee_lc false rfl hN [("row", 7), ("room", 8), ("engines", 9)] (ei_zipM (ea_cons (ee_var 3) (ea_cons (ee_var 0) ea_nil)) h.f_zip) (by rfl) (fun _ _ _ _ _ => (eg_tup rfl (egs_cons (eg_name 7 hN) (egs_cons (eg_tup rfl (egs_cons (eg_name 8 hN) (egs_cons (eg_name 9 hN) egs_nil))) egs_nil)))) (fun _ _ _ _ _ => ets_nil) (fun _ _ _ _ _ => (ee_cmp op_gtD (ee_callB false cb_len (ea_cons (ee_var 7) ea_nil) h.f_len bb_len) (ee_var 8)))) ea_nil) h.f_any bb_any))
  (ess_one (es_ret ee_bl))
  ess_nil)
  (ess_cons (es_set 6 hN (ec_callP tk (ok_there h) (hr.mono (by decide)) h.g_there h.k_there (ea_cons (ee_var 2) ea_nil)))
  (ess_one (es_ret (ee_and (ee_cmp (op_neDD hu) (ee_var 6) (ee_lst false ea_nil)) (ee_one (ee_cmp (op_eqDD hu) (ee_var 6) (ee_callB false (cb_sortA rfl hu) (ea_cons (ee_sl false (ee_var 1) (eo_some (ee_op op_subD false (ee_callB false cb_len (ea_cons (ee_var 1) ea_nil) h.f_len bb_len) (ee_callB false cb_len (ea_cons (ee_var 6) ea_nil) h.f_len bb_len))) eo_none) ea_nil) h.f_sorted bb_sorted))))))))))
theorem ok_fits (h : Hd K mg) : FOk P w K mg base 2 (He.ga K "fits") 3 f_fits :=
  fok_of (N := N_fits) (ps := ["lines", "order", "stand"]) m_fits h.F_fits sc_fits rfl rfl bd_fits (b_fits h)
def m_are_closed : SM := (sSeq (sIf (tOf (eCall false anyG (aCons (eLc false (iOf (eVar 2)) (gbName 4) tYesD (eNot (eCallP 3 f_fits (aCons (eVar 0) (aCons (eVar 1) (aCons (eVar 4) aNil))))) [4]) aNil)))
  (sRet (eC (.bl false)))
  sNil)
  (sSeq (sIf (tOf (eCall false anyG (aCons (eLc false (iRng (e2 false subG (eCall false lenG (aCons (eVar 2) aNil)) (eC (.int 1)))) (gbName 5) tYesD (eNot (e2 false ltG (e2 false ixG (eVar 2) (eVar 5)) (e2 false ixG (eVar 2) (e2 false addG (eVar 5) (eC (.int 1)))))) [5]) aNil)))
  (sRet (eC (.bl false)))
  sNil)
  (sSeq (sSet 3 eDict)
  (sSeq (sFor 0 (iOf (eVar 2)) (gbName 4)
  (sPut (eC (.bl true)) (eVar 3) (eVar 4)))
  (sSeq (sIf (t2 notInG (eCallP 1 f_first_stand (aCons (eVar 0) aNil)) (eVar 3))
  (sRet (eC (.bl false)))
  sNil)
  (sRet (eCall true allG (aCons (eLc false (iOf (eVar 2)) (gbName 4) tYesD (eCall false allG (aCons (eLc false (iOf (eCallP 3 f_nexts (aCons (eVar 0) (aCons (eVar 1) (aCons (eVar 4) aNil))))) (gbName 6) tYesD (e2 false inG (eVar 6) (eVar 3)) [6]) aNil)) [4]) aNil))))))))
def f_are_closed : FM := fnM 4 m_are_closed
def N_are_closed : List Str := ["lines", "order", "stands", "known", "stand", "at", "other"]
theorem sc_are_closed : FnScope N_are_closed ["lines", "order", "stands"] (defScope s_are_closed) := ⟨rfl, rfl, rfl, by decide, by decide, by decide, by decide⟩
theorem bd_are_closed (kV doc pm : Value) (an : Option Addr) (cdv ct : Value) (us : List Value) (hl : us.length = (["lines", "order", "stands"] : List Str).length) : bindArgs (PySem.W.fnOf "are_closed" "are_closed" (defArgs s_are_closed) (defBody s_are_closed) (defScope s_are_closed) .none kV doc pm an cdv ct) ⟨us, []⟩ = pure ((["lines", "order", "stands"] : List Str).zip us) := match us, hl with | [_, _, _], _ => rfl
theorem b_are_closed (h : Hd K mg) (cdv : Value) (A : Around) (outer : List Env) (s : Shared) (H : Hp) (E : XK) (hr : Room 4 (A.deeper (envOfC "are_closed" (defScope s_are_closed) s.heap.objs.size (He.ga K "are_closed") cdv))) : ESs (cxOf (L2.CX P w) P w K mg base N_are_closed "are_closed" (defScope s_are_closed) (He.ga K "are_closed") cdv A outer s H E) (WD E) (defBody s_are_closed) m_are_closed := by
      have hN : N_are_closed.Nodup := by decide
      have hu := units_of hr
      have hp := passes_of (X := cxOf (L2.CX P w) P w K mg base N_are_closed "are_closed" (defScope s_are_closed) (He.ga K "are_closed") cdv A outer s H E) rfl
      have tk : Takes (cxOf (L2.CX P w) P w K mg base N_are_closed "are_closed" (defScope s_are_closed) (He.ga K "are_closed") cdv A outer s H E) (WD E) := takes_of rfl rfl rfl rfl
      have hc : (cxOf (L2.CX P w) P w K mg base N_are_closed "are_closed" (defScope s_are_closed) (He.ga K "are_closed") cdv A outer s H E).calm = true := rfl
      exact (ess_cons (es_if (et_of (ee_callB false (cb_any rfl) (ea_cons (ee_lc false rfl hN [("stand", 4)] (ei_of (ee_var 2)) (by rfl) (fun _ _ _ _ _ => (eg_name 4 hN)) (fun _ _ _ _ _ => ets_nil) (fun _ _ _ _ _ => (ee_not (ec_callP takes0 (ok_fits h) (hr.mono (by decide)) h.g_fits h.k_fits (ea_cons (ee_var 0) (ea_cons (ee_var 1) (ea_cons (ee_var 4) ea_nil))))))) ea_nil) h.f_any bb_any))
  (ess_one (es_ret ee_bl))
  ess_nil)
  (ess_cons (es_if (et_of (ee_callB false (cb_any rfl) (ea_cons (ee_lc false rfl hN [("at", 5)] (ei_rng (ee_op op_subD false (ee_callB false cb_len (ea_cons (ee_var 2) ea_nil) h.f_len bb_len) ee_int) h.f_range) (by rfl) (fun _ _ _ _ _ => (eg_name 5 hN)) (fun _ _ _ _ _ => ets_nil) (fun _ _ _ _ _ => (ee_not (ee_cmp (op_ltD hu) (ee_sub hu (ee_var 2) (ee_var 5)) (ee_sub hu (ee_var 2) (ee_op op_addD false (ee_var 5) ee_int)))))) ea_nil) h.f_any bb_any))
  (ess_one (es_ret ee_bl))
  ess_nil)
  (ess_cons (es_set 3 hN ee_dict)
  (ess_cons (es_for 0 hp rfl (ei_of (ee_var 2)) (eg_name 4 hN)
  (ess_one (es_put hu ee_bl (ee_var 3) (ee_var 4))))
  (ess_cons (es_if (et_cmp (op_notInDD hu) (ec_callP tk (ok_first_stand h) (hr.mono (by decide)) h.g_first_stand h.k_first_stand (ea_cons (ee_var 0) ea_nil)) (ee_var 3))
  (ess_one (es_ret ee_bl))
  ess_nil)
  (ess_one (es_ret (ee_callB true (cb_all rfl) (ea_cons (ee_lc false rfl hN [("stand", 4)] (ei_of (ee_var 2)) (by rfl) (fun _ _ _ _ _ => (eg_name 4 hN)) (fun _ _ _ _ _ => ets_nil) (fun _ _ _ _ _ => (ee_callB false (cb_all rfl) (ea_cons (ee_lc false rfl hN [("other", 6)] (ei_of (ec_callP takes0 (ok_nexts h) (hr.mono (by decide)) h.g_nexts h.k_nexts (ea_cons (ee_var 0) (ea_cons (ee_var 1) (ea_cons (ee_var 4) ea_nil))))) (by rfl) (fun _ _ _ _ _ => (eg_name 6 hN)) (fun _ _ _ _ _ => ets_nil) (fun _ _ _ _ _ => (ee_cmp (op_inDD hu) (ee_var 6) (ee_var 3)))) ea_nil) h.f_all bb_all))) ea_nil) h.f_all bb_all))))))))
theorem ok_are_closed (h : Hd K mg) : FOk P w K mg base 5 (He.ga K "are_closed") 3 f_are_closed :=
  fok_of (N := N_are_closed) (ps := ["lines", "order", "stands"]) m_are_closed h.F_are_closed sc_are_closed rfl rfl bd_are_closed (b_are_closed h)
def m_Beyond_shows : SM := (sSeq (sIf (tNotD (tOf (eCallP 3 f_are_closed (aCons (eVar 1) (aCons (eVar 2) (aCons (eLc false (iOf (eFldC cs_heights "heights" (eVar 0))) (gbTup (gbCons (gbName 5) (gbCons (gbName 6) gbNil))) tYesD (eVar 5) [5, 6]) aNil))))))
  (sRet (eC (.bl false)))
  sNil)
  (sSeq (sSet 4 eDict)
  (sSeq (sFor 0 (iOf (eFldC cs_heights "heights" (eVar 0))) (gbTup (gbCons (gbName 5) (gbCons (gbName 6) gbNil)))
  (sPut (eVar 6) (eVar 4) (eVar 5)))
  (sSeq (sIf (t2 neG (e2 false ixG (eVar 4) (eCallP 1 f_first_stand (aCons (eVar 1) aNil))) (eC (.int 0)))
  (sRet (eC (.bl false)))
  sNil)
  (sSeq (sFor 0 (iOf (eFldC cs_heights "heights" (eVar 0))) (gbTup (gbCons (gbName 5) (gbCons (gbName 6) gbNil)))
  (sSeq (sIf (tAndD (tOf (eCallP 1 f_is_last (aCons (eVar 5) aNil))) (t2 ltG (eVar 6) (eVar 3)))
  (sRet (eC (.bl false)))
  sNil)
  (sIf (tOf (eCall false anyG (aCons (eLc false (iOf (eCallP 3 f_nexts (aCons (eVar 1) (aCons (eVar 2) (aCons (eVar 5) aNil))))) (gbName 7) tYesD (e2 false gtG (e2 false ixG (eVar 4) (eVar 7)) (e2 false addG (eVar 6) (eC (.int 1)))) [7]) aNil)))
  (sRet (eC (.bl false)))
  sNil)))
  (sRet (eC (.bl true))))))))
def f_Beyond_shows : FM := fnM 4 m_Beyond_shows
def N_Beyond_shows : List Str := ["self", "lines", "order", "many", "known", "stand", "height", "other"]
theorem sc_Beyond_shows : FnScope N_Beyond_shows ["self", "lines", "order", "many"] (defScope s_Beyond_shows) := ⟨rfl, rfl, rfl, by decide, by decide, by decide, by decide⟩
theorem bd_Beyond_shows (kV doc pm : Value) (an : Option Addr) (cdv ct : Value) (us : List Value) (hl : us.length = (["self", "lines", "order", "many"] : List Str).length) : bindArgs (PySem.W.fnOf "shows" "Beyond.shows" (defArgs s_Beyond_shows) (defBody s_Beyond_shows) (defScope s_Beyond_shows) .none kV doc pm an cdv ct) ⟨us, []⟩ = pure ((["self", "lines", "order", "many"] : List Str).zip us) := match us, hl with | [_, _, _, _], _ => rfl
theorem b_Beyond_shows (h : Hd K mg) (cdv : Value) (A : Around) (outer : List Env) (s : Shared) (H : Hp) (E : XK) (hr : Room 5 (A.deeper (envOfC "Beyond.shows" (defScope s_Beyond_shows) s.heap.objs.size (He.ma K (He.ga K "Beyond") "shows") cdv))) : ESs (cxOf (L2.CX P w) P w K mg base N_Beyond_shows "Beyond.shows" (defScope s_Beyond_shows) (He.ma K (He.ga K "Beyond") "shows") cdv A outer s H E) (WD E) (defBody s_Beyond_shows) m_Beyond_shows := by
      have hN : N_Beyond_shows.Nodup := by decide
      have hu := units_of hr
      have hp := passes_of (X := cxOf (L2.CX P w) P w K mg base N_Beyond_shows "Beyond.shows" (defScope s_Beyond_shows) (He.ma K (He.ga K "Beyond") "shows") cdv A outer s H E) rfl
      have tk : Takes (cxOf (L2.CX P w) P w K mg base N_Beyond_shows "Beyond.shows" (defScope s_Beyond_shows) (He.ma K (He.ga K "Beyond") "shows") cdv A outer s H E) (WD E) := takes_of rfl rfl rfl rfl
      have hc : (cxOf (L2.CX P w) P w K mg base N_Beyond_shows "Beyond.shows" (defScope s_Beyond_shows) (He.ma K (He.ga K "Beyond") "shows") cdv A outer s H E).calm = true := rfl
      exact (ess_cons (es_if (et_not (et_of (ec_callP tk (ok_are_closed h) (hr.mono (by decide)) h.g_are_closed h.k_are_closed (ea_cons (ee_var 1) (ea_cons (ee_var 2) (ea_cons (ee_lc false rfl hN [("stand", 5), ("height", 6)] (ei_of (ee_fld cs_heights h.at_heights (ee_var 0))) (by rfl) (fun _ _ _ _ _ => (eg_tup rfl (egs_cons (eg_name 5 hN) (egs_cons (eg_name 6 hN) egs_nil)))) (fun _ _ _ _ _ => ets_nil) (fun _ _ _ _ _ => (ee_var 5))) ea_nil))))))
  (ess_one (es_ret ee_bl))
  ess_nil)
  (ess_cons (es_set 4 hN ee_dict)
  (ess_cons (es_for 0 hp rfl (ei_of (ee_fld cs_heights h.at_heights (ee_var 0))) (eg_tup rfl (egs_cons (eg_name 5 hN) (egs_cons (eg_name 6 hN) egs_nil)))
  (ess_one (es_put hu (ee_var 6) (ee_var 4) (ee_var 5))))
  (ess_cons (es_if (et_cmp (op_neDD hu) (ee_sub hu (ee_var 4) (ec_callP tk (ok_first_stand h) (hr.mono (by decide)) h.g_first_stand h.k_first_stand (ea_cons (ee_var 1) ea_nil))) ee_int)
  (ess_one (es_ret ee_bl))
  ess_nil)
  (ess_cons (es_for 0 hp rfl (ei_of (ee_fld cs_heights h.at_heights (ee_var 0))) (eg_tup rfl (egs_cons (eg_name 5 hN) (egs_cons (eg_name 6 hN) egs_nil)))
  (ess_cons (es_if (et_w (ew_and (et_of (ec_callP tk (ok_is_last h) (hr.mono (by decide)) h.g_is_last h.k_is_last (ea_cons (ee_var 5) ea_nil))) (ew_and1 (et_cmp (op_ltD hu) (ee_var 6) (ee_var 3)))))
  (ess_one (es_ret ee_bl))
  ess_nil)
  (ess_one (es_if (et_of (ee_callB false (cb_any rfl) (ea_cons (ee_lc false rfl hN [("other", 7)] (ei_of (ec_callP tk (ok_nexts h) (hr.mono (by decide)) h.g_nexts h.k_nexts (ea_cons (ee_var 1) (ea_cons (ee_var 2) (ea_cons (ee_var 5) ea_nil))))) (by rfl) (fun _ _ _ _ _ => (eg_name 7 hN)) (fun _ _ _ _ _ => ets_nil) (fun _ _ _ _ _ => (ee_cmp op_gtD (ee_sub hu (ee_var 4) (ee_var 7)) (ee_op op_addD false (ee_var 6) ee_int)))) ea_nil) h.f_any bb_any))
  (ess_one (es_ret ee_bl))
  ess_nil))))
  (ess_one (es_ret ee_bl)))))))
theorem ok_Beyond_shows (h : Hd K mg) : FOk P w K mg base 6 (He.ma K (He.ga K "Beyond") "shows") 4 f_Beyond_shows :=
  fok_of (N := N_Beyond_shows) (ps := ["self", "lines", "order", "many"]) m_Beyond_shows h.F_Beyond_shows sc_Beyond_shows rfl rfl bd_Beyond_shows (b_Beyond_shows h)
def m_first_wrong : SM := (sSeq (sFor 0 (iEnu (eVar 1)) (gbTup (gbCons (gbName 2) (gbCons (gbName 3) gbNil)))
  (sSeq (sIf (t2 notInG (eVar 3) (eC c_DEEDS))
  (sRet (eVar 2))
  sNil)
  (sIf (t2 geG (e2 false ixG (eCallP 2 f_gone_by (aCons (eVar 0) (aCons (eSl false (eVar 1) oNone (oSome (e2 false addG (eVar 2) (eC (.int 1))))) aNil))) (eC (.int 2))) (eC (.int 0)))
  (sRet (eVar 2))
  sNil)))
  (sRet (e1 false negG (eC (.int 1)))))
def f_first_wrong : FM := fnM 2 m_first_wrong
def N_first_wrong : List Str := ["lines", "tale", "place", "deed"]
theorem sc_first_wrong : FnScope N_first_wrong ["lines", "tale"] (defScope s_first_wrong) := ⟨rfl, rfl, rfl, by decide, by decide, by decide, by decide⟩
theorem bd_first_wrong (kV doc pm : Value) (an : Option Addr) (cdv ct : Value) (us : List Value) (hl : us.length = (["lines", "tale"] : List Str).length) : bindArgs (PySem.W.fnOf "first_wrong" "first_wrong" (defArgs s_first_wrong) (defBody s_first_wrong) (defScope s_first_wrong) .none kV doc pm an cdv ct) ⟨us, []⟩ = pure ((["lines", "tale"] : List Str).zip us) := match us, hl with | [_, _], _ => rfl
theorem b_first_wrong (h : Hd K mg) (cdv : Value) (A : Around) (outer : List Env) (s : Shared) (H : Hp) (E : XK) (hr : Room 2 (A.deeper (envOfC "first_wrong" (defScope s_first_wrong) s.heap.objs.size (He.ga K "first_wrong") cdv))) : ESs (cxOf (L2.CX P w) P w K mg base N_first_wrong "first_wrong" (defScope s_first_wrong) (He.ga K "first_wrong") cdv A outer s H E) (WD E) (defBody s_first_wrong) m_first_wrong := by
      have hN : N_first_wrong.Nodup := by decide
      have hu := units_of hr
      have hp := passes_of (X := cxOf (L2.CX P w) P w K mg base N_first_wrong "first_wrong" (defScope s_first_wrong) (He.ga K "first_wrong") cdv A outer s H E) rfl
      have tk : Takes (cxOf (L2.CX P w) P w K mg base N_first_wrong "first_wrong" (defScope s_first_wrong) (He.ga K "first_wrong") cdv A outer s H E) (WD E) := takes_of rfl rfl rfl rfl
      have hc : (cxOf (L2.CX P w) P w K mg base N_first_wrong "first_wrong" (defScope s_first_wrong) (He.ga K "first_wrong") cdv A outer s H E).calm = true := rfl
      exact (ess_cons (es_for 0 hp rfl (ei_enu (ee_var 1) h.f_enumerate) (eg_tup rfl (egs_cons (eg_name 2 hN) (egs_cons (eg_name 3 hN) egs_nil)))
  (ess_cons (es_if (et_cmp (op_notInDD hu) (ee_var 3) (h.x_DEEDS _ _ rfl rfl rfl))
  (ess_one (es_ret (ee_var 2)))
  ess_nil)
  (ess_one (es_if (et_cmp op_geD (ee_sub hu (ec_callP tk (ok_gone_by h) (hr.mono (by decide)) h.g_gone_by h.k_gone_by (ea_cons (ee_var 0) (ea_cons (ee_sl false (ee_var 1) eo_none (eo_some (ee_op op_addD false (ee_var 2) ee_int))) ea_nil))) ee_int) ee_int)
  (ess_one (es_ret (ee_var 2)))
  ess_nil))))
  (ess_one (es_ret (ee_un (un_negD false) ee_int))))
theorem ok_first_wrong (h : Hd K mg) : FOk P w K mg base 3 (He.ga K "first_wrong") 2 f_first_wrong :=
  fok_of (N := N_first_wrong) (ps := ["lines", "tale"]) m_first_wrong h.F_first_wrong sc_first_wrong rfl rfl bd_first_wrong (b_first_wrong h)
def m_Right_shows : SM := (sRet (e2 false ltG (eCallP 2 f_first_wrong (aCons (eVar 1) (aCons (eVar 2) aNil))) (eC (.int 0))))
def f_Right_shows : FM := fnM 0 m_Right_shows
def N_Right_shows : List Str := ["self", "lines", "tale"]
theorem sc_Right_shows : FnScope N_Right_shows ["self", "lines", "tale"] (defScope s_Right_shows) := ⟨rfl, rfl, rfl, by decide, by decide, by decide, by decide⟩
theorem bd_Right_shows (kV doc pm : Value) (an : Option Addr) (cdv ct : Value) (us : List Value) (hl : us.length = (["self", "lines", "tale"] : List Str).length) : bindArgs (PySem.W.fnOf "shows" "Right.shows" (defArgs s_Right_shows) (defBody s_Right_shows) (defScope s_Right_shows) .none kV doc pm an cdv ct) ⟨us, []⟩ = pure ((["self", "lines", "tale"] : List Str).zip us) := match us, hl with | [_, _, _], _ => rfl
theorem b_Right_shows (h : Hd K mg) (cdv : Value) (A : Around) (outer : List Env) (s : Shared) (H : Hp) (E : XK) (hr : Room 3 (A.deeper (envOfC "Right.shows" (defScope s_Right_shows) s.heap.objs.size (He.ma K (He.ga K "Right") "shows") cdv))) : ESs (cxOf (L2.CX P w) P w K mg base N_Right_shows "Right.shows" (defScope s_Right_shows) (He.ma K (He.ga K "Right") "shows") cdv A outer s H E) (WD E) (defBody s_Right_shows) m_Right_shows := by
      have hN : N_Right_shows.Nodup := by decide
      have hu := units_of hr
      have hp := passes_of (X := cxOf (L2.CX P w) P w K mg base N_Right_shows "Right.shows" (defScope s_Right_shows) (He.ma K (He.ga K "Right") "shows") cdv A outer s H E) rfl
      have tk : Takes (cxOf (L2.CX P w) P w K mg base N_Right_shows "Right.shows" (defScope s_Right_shows) (He.ma K (He.ga K "Right") "shows") cdv A outer s H E) (WD E) := takes_of rfl rfl rfl rfl
      have hc : (cxOf (L2.CX P w) P w K mg base N_Right_shows "Right.shows" (defScope s_Right_shows) (He.ma K (He.ga K "Right") "shows") cdv A outer s H E).calm = true := rfl
      exact (ess_one (es_ret (ee_cmp (op_ltD hu) (ec_callP tk (ok_first_wrong h) (hr.mono (by decide)) h.g_first_wrong h.k_first_wrong (ea_cons (ee_var 1) (ea_cons (ee_var 2) ea_nil))) ee_int)))
theorem ok_Right_shows (h : Hd K mg) : FOk P w K mg base 4 (He.ma K (He.ga K "Right") "shows") 3 f_Right_shows :=
  fok_of (N := N_Right_shows) (ps := ["self", "lines", "tale"]) m_Right_shows h.F_Right_shows sc_Right_shows rfl rfl bd_Right_shows (b_Right_shows h)
def m_Wrong_init : SM := (sFldM cs_place "place" (eVar 1) (eVar 0))
def f_Wrong_init : FM := fnM 0 m_Wrong_init
def N_Wrong_init : List Str := ["self", "place"]
theorem sc_Wrong_init : FnScope N_Wrong_init ["self", "place"] (defScope s_Wrong_init) := ⟨rfl, rfl, rfl, by decide, by decide, by decide, by decide⟩
theorem bd_Wrong_init (kV doc pm : Value) (an : Option Addr) (cdv ct : Value) (us : List Value) (hl : us.length = (["self", "place"] : List Str).length) : bindArgs (PySem.W.fnOf "__init__" "Wrong.__init__" (defArgs s_Wrong_init) (defBody s_Wrong_init) (defScope s_Wrong_init) .none kV doc pm an cdv ct) ⟨us, []⟩ = pure ((["self", "place"] : List Str).zip us) := match us, hl with | [_, _], _ => rfl
theorem b_Wrong_init (h : Hd K mg) (cdv : Value) (A : Around) (outer : List Env) (s : Shared) (H : Hp) (E : XK) (hr : Room 0 (A.deeper (envOfC "Wrong.__init__" (defScope s_Wrong_init) s.heap.objs.size (He.ma K (He.ga K "Wrong") "__init__") cdv))) : ESs (cxOf (L2.CX P w) P w K mg base N_Wrong_init "Wrong.__init__" (defScope s_Wrong_init) (He.ma K (He.ga K "Wrong") "__init__") cdv A outer s H E) (WD E) (defBody s_Wrong_init) m_Wrong_init := by
      have hN : N_Wrong_init.Nodup := by decide
      have hu := units_of hr
      have hp := passes_of (X := cxOf (L2.CX P w) P w K mg base N_Wrong_init "Wrong.__init__" (defScope s_Wrong_init) (He.ma K (He.ga K "Wrong") "__init__") cdv A outer s H E) rfl
      have tk : Takes (cxOf (L2.CX P w) P w K mg base N_Wrong_init "Wrong.__init__" (defScope s_Wrong_init) (He.ma K (He.ga K "Wrong") "__init__") cdv A outer s H E) (WD E) := takes_of rfl rfl rfl rfl
      have hc : (cxOf (L2.CX P w) P w K mg base N_Wrong_init "Wrong.__init__" (defScope s_Wrong_init) (He.ma K (He.ga K "Wrong") "__init__") cdv A outer s H E).calm = true := rfl
      exact (ess_one (es_fld cs_place h.at_place (ee_var 0) (ee_var 1)))
theorem ok_Wrong_init (h : Hd K mg) : FOk P w K mg base 1 (He.ma K (He.ga K "Wrong") "__init__") 2 f_Wrong_init :=
  fok_of (N := N_Wrong_init) (ps := ["self", "place"]) m_Wrong_init h.F_Wrong_init sc_Wrong_init rfl rfl bd_Wrong_init (b_Wrong_init h)
def m_Wrong_shows : SM := (sRet (eAnd (e2 false geG (eFldC cs_place "place" (eVar 0)) (eC (.int 0))) (e2 false eqG (eCallP 2 f_first_wrong (aCons (eVar 1) (aCons (eVar 2) aNil))) (eFldC cs_place "place" (eVar 0)))))
def f_Wrong_shows : FM := fnM 0 m_Wrong_shows
def N_Wrong_shows : List Str := ["self", "lines", "tale"]
theorem sc_Wrong_shows : FnScope N_Wrong_shows ["self", "lines", "tale"] (defScope s_Wrong_shows) := ⟨rfl, rfl, rfl, by decide, by decide, by decide, by decide⟩
theorem bd_Wrong_shows (kV doc pm : Value) (an : Option Addr) (cdv ct : Value) (us : List Value) (hl : us.length = (["self", "lines", "tale"] : List Str).length) : bindArgs (PySem.W.fnOf "shows" "Wrong.shows" (defArgs s_Wrong_shows) (defBody s_Wrong_shows) (defScope s_Wrong_shows) .none kV doc pm an cdv ct) ⟨us, []⟩ = pure ((["self", "lines", "tale"] : List Str).zip us) := match us, hl with | [_, _, _], _ => rfl
theorem b_Wrong_shows (h : Hd K mg) (cdv : Value) (A : Around) (outer : List Env) (s : Shared) (H : Hp) (E : XK) (hr : Room 3 (A.deeper (envOfC "Wrong.shows" (defScope s_Wrong_shows) s.heap.objs.size (He.ma K (He.ga K "Wrong") "shows") cdv))) : ESs (cxOf (L2.CX P w) P w K mg base N_Wrong_shows "Wrong.shows" (defScope s_Wrong_shows) (He.ma K (He.ga K "Wrong") "shows") cdv A outer s H E) (WD E) (defBody s_Wrong_shows) m_Wrong_shows := by
      have hN : N_Wrong_shows.Nodup := by decide
      have hu := units_of hr
      have hp := passes_of (X := cxOf (L2.CX P w) P w K mg base N_Wrong_shows "Wrong.shows" (defScope s_Wrong_shows) (He.ma K (He.ga K "Wrong") "shows") cdv A outer s H E) rfl
      have tk : Takes (cxOf (L2.CX P w) P w K mg base N_Wrong_shows "Wrong.shows" (defScope s_Wrong_shows) (He.ma K (He.ga K "Wrong") "shows") cdv A outer s H E) (WD E) := takes_of rfl rfl rfl rfl
      have hc : (cxOf (L2.CX P w) P w K mg base N_Wrong_shows "Wrong.shows" (defScope s_Wrong_shows) (He.ma K (He.ga K "Wrong") "shows") cdv A outer s H E).calm = true := rfl
      exact (ess_one (es_ret (ee_and (ee_cmp op_geD (ee_fld cs_place h.at_place (ee_var 0)) ee_int) (ee_one (ee_cmp (op_eqDD hu) (ec_callP tk (ok_first_wrong h) (hr.mono (by decide)) h.g_first_wrong h.k_first_wrong (ea_cons (ee_var 1) (ea_cons (ee_var 2) ea_nil))) (ee_fld cs_place h.at_place (ee_var 0)))))))
theorem ok_Wrong_shows (h : Hd K mg) : FOk P w K mg base 4 (He.ma K (He.ga K "Wrong") "shows") 3 f_Wrong_shows :=
  fok_of (N := N_Wrong_shows) (ps := ["self", "lines", "tale"]) m_Wrong_shows h.F_Wrong_shows sc_Wrong_shows rfl rfl bd_Wrong_shows (b_Wrong_shows h)
def m_came : SM := (sSeq (sDrop (eCallP 1 f_check_lines (aCons (eVar 0) aNil)))
  (sSeq (sDrop (eCallP 1 f_check_deeds (aCons (eVar 1) aNil)))
  (sSeq (sAsg (gbTup (gbCons (gbName 2) (gbCons (gbName 3) (gbCons (gbName 4) gbNil)))) (eCallP 2 f_gone_by (aCons (eVar 0) (aCons (eVar 1) aNil))))
  (sRet (eIf (t2 ltG (eVar 4) (eC (.int 0))) (eMake "Came" 3 f_Came_init (aCons (eVar 2) (aCons (eVar 3) aNil))) (eMake "Barred" 2 f_Barred_init (aCons (eVar 4) aNil)))))))
def f_came : FM := fnM 3 m_came
def N_came : List Str := ["lines", "deeds", "stand", "gone", "place"]
theorem sc_came : FnScope N_came ["lines", "deeds"] (defScope s_came) := ⟨rfl, rfl, rfl, by decide, by decide, by decide, by decide⟩
theorem bd_came (kV doc pm : Value) (an : Option Addr) (cdv ct : Value) (us : List Value) (hl : us.length = (["lines", "deeds"] : List Str).length) : bindArgs (PySem.W.fnOf "came" "came" (defArgs s_came) (defBody s_came) (defScope s_came) .none kV doc pm an cdv ct) ⟨us, []⟩ = pure ((["lines", "deeds"] : List Str).zip us) := match us, hl with | [_, _], _ => rfl
theorem b_came (h : Hd K mg) (cdv : Value) (A : Around) (outer : List Env) (s : Shared) (H : Hp) (E : XK) (hr : Room 4 (A.deeper (envOfC "came" (defScope s_came) s.heap.objs.size (He.ga K "came") cdv))) : ESs (cxOf (L2.CX P w) P w K mg base N_came "came" (defScope s_came) (He.ga K "came") cdv A outer s H E) (WD E) (defBody s_came) m_came := by
      have hN : N_came.Nodup := by decide
      have hu := units_of hr
      have hp := passes_of (X := cxOf (L2.CX P w) P w K mg base N_came "came" (defScope s_came) (He.ga K "came") cdv A outer s H E) rfl
      have tk : Takes (cxOf (L2.CX P w) P w K mg base N_came "came" (defScope s_came) (He.ga K "came") cdv A outer s H E) (WD E) := takes_of rfl rfl rfl rfl
      have hc : (cxOf (L2.CX P w) P w K mg base N_came "came" (defScope s_came) (He.ga K "came") cdv A outer s H E).calm = true := rfl
      exact (ess_cons (es_expr (ec_callP tk (ok_check_lines h) (hr.mono (by decide)) h.g_check_lines h.k_check_lines (ea_cons (ee_var 0) ea_nil)))
  (ess_cons (es_expr (ec_callP tk (ok_check_deeds h) (hr.mono (by decide)) h.g_check_deeds h.k_check_deeds (ea_cons (ee_var 1) ea_nil)))
  (ess_cons (es_asg (ec_callP tk (ok_gone_by h) (hr.mono (by decide)) h.g_gone_by h.k_gone_by (ea_cons (ee_var 0) (ea_cons (ee_var 1) ea_nil))) (eg_tup rfl (egs_cons (eg_name 2 hN) (egs_cons (eg_name 3 hN) (egs_cons (eg_name 4 hN) egs_nil)))))
  (ess_one (es_ret (ee_if (et_cmp (op_ltD hu) (ee_var 4) ee_int) (ec_make tk h.mk_Came (ok_Came_init h) (hr.mono (by decide)) h.g_Came (ea_cons (ee_var 2) (ea_cons (ee_var 3) ea_nil))) (ec_make tk h.mk_Barred (ok_Barred_init h) (hr.mono (by decide)) h.g_Barred (ea_cons (ee_var 4) ea_nil))))))))
theorem ok_came (h : Hd K mg) : FOk P w K mg base 5 (He.ga K "came") 2 f_came :=
  fok_of (N := N_came) (ps := ["lines", "deeds"]) m_came h.F_came sc_came rfl rfl bd_came (b_came h)
def m_least_way : SM := (sSeq (sSet 1 (eLc false (iOf (eCall false sortA (aCons (eVar 0) aNil))) (gbName 3) (tOf (eCallP 1 f_is_last (aCons (eVar 3) aNil))) (e2 false ixG (eVar 0) (eVar 3)) [3]))
  (sSeq (sIf (t2 eqG (eVar 1) (eLst false aNil))
  (sRet (eC .non))
  sNil)
  (sSeq (sSet 2 (eCall false minG (aCons (eLc false (iOf (eVar 1)) (gbName 4) tYesD (eCall false lenG (aCons (eVar 4) aNil)) [4]) aNil)))
  (sRet (e2 true addG (e2 false ixG (eLc false (iOf (eVar 1)) (gbName 4) (t2 eqG (eCall false lenG (aCons (eVar 4) aNil)) (eVar 2)) (eVar 4) [4]) (eC (.int 0))) (eLst false (aCons (eC (.str "out")) aNil)))))))
def f_least_way : FM := fnM 4 m_least_way
def N_least_way : List Str := ["ways", "some", "least", "stand", "way"]
theorem sc_least_way : FnScope N_least_way ["ways"] (defScope s_least_way) := ⟨rfl, rfl, rfl, by decide, by decide, by decide, by decide⟩
theorem bd_least_way (kV doc pm : Value) (an : Option Addr) (cdv ct : Value) (us : List Value) (hl : us.length = (["ways"] : List Str).length) : bindArgs (PySem.W.fnOf "least_way" "least_way" (defArgs s_least_way) (defBody s_least_way) (defScope s_least_way) .none kV doc pm an cdv ct) ⟨us, []⟩ = pure ((["ways"] : List Str).zip us) := match us, hl with | [_], _ => rfl
theorem b_least_way (h : Hd K mg) (cdv : Value) (A : Around) (outer : List Env) (s : Shared) (H : Hp) (E : XK) (hr : Room 2 (A.deeper (envOfC "least_way" (defScope s_least_way) s.heap.objs.size (He.ga K "least_way") cdv))) : ESs (cxOf (L2.CX P w) P w K mg base N_least_way "least_way" (defScope s_least_way) (He.ga K "least_way") cdv A outer s H E) (WD E) (defBody s_least_way) m_least_way := by
      have hN : N_least_way.Nodup := by decide
      have hu := units_of hr
      have hp := passes_of (X := cxOf (L2.CX P w) P w K mg base N_least_way "least_way" (defScope s_least_way) (He.ga K "least_way") cdv A outer s H E) rfl
      have tk : Takes (cxOf (L2.CX P w) P w K mg base N_least_way "least_way" (defScope s_least_way) (He.ga K "least_way") cdv A outer s H E) (WD E) := takes_of rfl rfl rfl rfl
      have hc : (cxOf (L2.CX P w) P w K mg base N_least_way "least_way" (defScope s_least_way) (He.ga K "least_way") cdv A outer s H E).calm = true := rfl
      exact (ess_cons (es_setLc 1 false rfl hN [("stand", 3)] (ei_of (ee_callB false (cb_sortA rfl hu) (ea_cons (ee_var 0) ea_nil) h.f_sorted bb_sorted)) (by rfl) (fun _ _ _ _ _ => (eg_name 3 hN)) (fun _ _ _ _ _ => (ets_one (et_of (ec_callP takes0 (ok_is_last h) (hr.mono (by decide)) h.g_is_last h.k_is_last (ea_cons (ee_var 3) ea_nil))))) (fun _ _ _ _ _ => (ee_sub hu (ee_var 0) (ee_var 3))))
  (ess_cons (es_if (et_cmp (op_eqDD hu) (ee_var 1) (ee_lst false ea_nil))
  (ess_one (es_ret ee_non))
  ess_nil)
  (ess_cons (es_set 2 hN (ee_callB false (cb_min rfl) (ea_cons (ee_lc false rfl hN [("way", 4)] (ei_of (ee_var 1)) (by rfl) (fun _ _ _ _ _ => (eg_name 4 hN)) (fun _ _ _ _ _ => ets_nil) (fun _ _ _ _ _ => (ee_callB false cb_len (ea_cons (ee_var 4) ea_nil) h.f_len bb_len))) ea_nil) h.f_min bb_min))
  (ess_one (es_ret (ee_op op_addD true (ee_sub hu (ee_lc false rfl hN [("way", 4)] (ei_of (ee_var 1)) (by rfl) (fun _ _ _ _ _ => (eg_name 4 hN)) (fun _ _ _ _ _ => (ets_one (et_cmp (op_eqDD hu) (ee_callB false cb_len (ea_cons (ee_var 4) ea_nil) h.f_len bb_len) (ee_var 2)))) (fun _ _ _ _ _ => (ee_var 4))) ee_int) (ee_lst false (ea_cons ee_str ea_nil))))))))
theorem ok_least_way (h : Hd K mg) : FOk P w K mg base 3 (He.ga K "least_way") 1 f_least_way :=
  fok_of (N := N_least_way) (ps := ["ways"]) m_least_way h.F_least_way sc_least_way rfl rfl bd_least_way (b_least_way h)
def m_within : SM := (sSeq (sDrop (eCallP 1 f_check_lines (aCons (eVar 0) aNil)))
  (sSeq (sDrop (eCallP 2 f_check_order (aCons (eVar 0) (aCons (eVar 1) aNil))))
  (sSeq (sIf (tNotD (tOf (eCallP 1 f_is_count (aCons (eVar 2) aNil))))
  (sRaise "BadCount")
  sNil)
  (sSeq (sSet 3 (eCallQ 2 f_heights_of (aCons (eVar 0) (aCons (eVar 1) aNil))))
  (sSeq (sSet 4 (eCallP 1 f_least_way (aCons (eVar 3) aNil)))
  (sSeq (sIf (tAndD (t2 isNotG (eVar 4) (eC .non)) (t2 leG (eCall false lenG (aCons (eVar 4) aNil)) (eVar 2)))
  (sRet (eMake "Within" 2 f_Within_init (aCons (eVar 4) aNil)))
  sNil)
  (sRet (eMake "Beyond" 2 f_Beyond_init (aCons (eLc false (iOf (eCall false sortA (aCons (eVar 3) aNil))) (gbName 5) tYesD (eTup (aCons (eVar 5) (aCons (eCall false lenG (aCons (e2 false ixG (eVar 3) (eVar 5)) aNil)) aNil))) [5]) aNil)))))))))
def f_within : FM := fnM 3 m_within
def N_within : List Str := ["lines", "order", "many", "ways", "deeds", "stand"]
theorem sc_within : FnScope N_within ["lines", "order", "many"] (defScope s_within) := ⟨rfl, rfl, rfl, by decide, by decide, by decide, by decide⟩
theorem bd_within (kV doc pm : Value) (an : Option Addr) (cdv ct : Value) (us : List Value) (hl : us.length = (["lines", "order", "many"] : List Str).length) : bindArgs (PySem.W.fnOf "within" "within" (defArgs s_within) (defBody s_within) (defScope s_within) .none kV doc pm an cdv ct) ⟨us, []⟩ = pure ((["lines", "order", "many"] : List Str).zip us) := match us, hl with | [_, _, _], _ => rfl
theorem b_within (h : Hd K mg) (cdv : Value) (A : Around) (outer : List Env) (s : Shared) (H : Hp) (E : XK) (hr : Room 4 (A.deeper (envOfC "within" (defScope s_within) s.heap.objs.size (He.ga K "within") cdv))) : ESs (cxOf (L2.CX P w) P w K mg base N_within "within" (defScope s_within) (He.ga K "within") cdv A outer s H E) (WD E) (defBody s_within) m_within := by
      have hN : N_within.Nodup := by decide
      have hu := units_of hr
      have hp := passes_of (X := cxOf (L2.CX P w) P w K mg base N_within "within" (defScope s_within) (He.ga K "within") cdv A outer s H E) rfl
      have tk : Takes (cxOf (L2.CX P w) P w K mg base N_within "within" (defScope s_within) (He.ga K "within") cdv A outer s H E) (WD E) := takes_of rfl rfl rfl rfl
      have hc : (cxOf (L2.CX P w) P w K mg base N_within "within" (defScope s_within) (He.ga K "within") cdv A outer s H E).calm = true := rfl
      exact (ess_cons (es_expr (ec_callP tk (ok_check_lines h) (hr.mono (by decide)) h.g_check_lines h.k_check_lines (ea_cons (ee_var 0) ea_nil)))
  (ess_cons (es_expr (ec_callP tk (ok_check_order h) (hr.mono (by decide)) h.g_check_order h.k_check_order (ea_cons (ee_var 0) (ea_cons (ee_var 1) ea_nil))))
  (ess_cons (es_if (et_not (et_of (ec_callP tk (ok_is_count h) (hr.mono (by decide)) h.g_is_count h.k_is_count (ea_cons (ee_var 2) ea_nil))))
  (ess_one (es_raise rfl tk h.e_BadCount.1 h.g_BadCount h.e_BadCount.2.1 h.e_BadCount.2.2.1 h.e_BadCount.2.2.2))
  ess_nil)
  (ess_cons (es_set 3 hN (ec_callQ tk (ok_heights_of h) (hr.mono (by decide)) h.g_heights_of h.k_heights_of (ea_cons (ee_var 0) (ea_cons (ee_var 1) ea_nil))))
  (ess_cons (es_set 4 hN (ec_callP tk (ok_least_way h) (hr.mono (by decide)) h.g_least_way h.k_least_way (ea_cons (ee_var 3) ea_nil)))
  (ess_cons (es_if (et_w (ew_and (et_cmp op_isNotD (ee_var 4) ee_non) (ew_and1 (et_cmp op_leD (ee_callB false cb_len (ea_cons (ee_var 4) ea_nil) h.f_len bb_len) (ee_var 2)))))
  (ess_one (es_ret (ec_make tk h.mk_Within (ok_Within_init h) (hr.mono (by decide)) h.g_Within (ea_cons (ee_var 4) ea_nil))))
  ess_nil)
  (ess_one (es_ret (ec_make tk h.mk_Beyond (ok_Beyond_init h) (hr.mono (by decide)) h.g_Beyond (ea_cons (ee_lc false rfl hN [("stand", 5)] (ei_of (ee_callB false (cb_sortA rfl hu) (ea_cons (ee_var 3) ea_nil) h.f_sorted bb_sorted)) (by rfl) (fun _ _ _ _ _ => (eg_name 5 hN)) (fun _ _ _ _ _ => ets_nil) (fun _ _ _ _ _ => (ee_tup (ea_cons (ee_var 5) (ea_cons (ee_callB false cb_len (ea_cons (ee_sub hu (ee_var 3) (ee_var 5)) ea_nil) h.f_len bb_len) ea_nil))))) ea_nil))))))))))
theorem ok_within (h : Hd K mg) : FOk P w K mg base 5 (He.ga K "within") 3 f_within :=
  fok_of (N := N_within) (ps := ["lines", "order", "many"]) m_within h.F_within sc_within rfl rfl bd_within (b_within h)
def m_fewest : SM := (sSeq (sDrop (eCallP 1 f_check_lines (aCons (eVar 0) aNil)))
  (sSeq (sDrop (eCallP 2 f_check_order (aCons (eVar 0) (aCons (eVar 1) aNil))))
  (sSeq (sSet 2 (eCallP 1 f_least_way (aCons (eCallQ 2 f_heights_of (aCons (eVar 0) (aCons (eVar 1) aNil))) aNil)))
  (sRet (eIf (t2 isG (eVar 2) (eC .non)) (eC .non) (eCall true lenG (aCons (eVar 2) aNil)))))))
def f_fewest : FM := fnM 1 m_fewest
def N_fewest : List Str := ["lines", "order", "deeds"]
theorem sc_fewest : FnScope N_fewest ["lines", "order"] (defScope s_fewest) := ⟨rfl, rfl, rfl, by decide, by decide, by decide, by decide⟩
theorem bd_fewest (kV doc pm : Value) (an : Option Addr) (cdv ct : Value) (us : List Value) (hl : us.length = (["lines", "order"] : List Str).length) : bindArgs (PySem.W.fnOf "fewest" "fewest" (defArgs s_fewest) (defBody s_fewest) (defScope s_fewest) .none kV doc pm an cdv ct) ⟨us, []⟩ = pure ((["lines", "order"] : List Str).zip us) := match us, hl with | [_, _], _ => rfl
theorem b_fewest (h : Hd K mg) (cdv : Value) (A : Around) (outer : List Env) (s : Shared) (H : Hp) (E : XK) (hr : Room 4 (A.deeper (envOfC "fewest" (defScope s_fewest) s.heap.objs.size (He.ga K "fewest") cdv))) : ESs (cxOf (L2.CX P w) P w K mg base N_fewest "fewest" (defScope s_fewest) (He.ga K "fewest") cdv A outer s H E) (WD E) (defBody s_fewest) m_fewest := by
      have hN : N_fewest.Nodup := by decide
      have hu := units_of hr
      have hp := passes_of (X := cxOf (L2.CX P w) P w K mg base N_fewest "fewest" (defScope s_fewest) (He.ga K "fewest") cdv A outer s H E) rfl
      have tk : Takes (cxOf (L2.CX P w) P w K mg base N_fewest "fewest" (defScope s_fewest) (He.ga K "fewest") cdv A outer s H E) (WD E) := takes_of rfl rfl rfl rfl
      have hc : (cxOf (L2.CX P w) P w K mg base N_fewest "fewest" (defScope s_fewest) (He.ga K "fewest") cdv A outer s H E).calm = true := rfl
      exact (ess_cons (es_expr (ec_callP tk (ok_check_lines h) (hr.mono (by decide)) h.g_check_lines h.k_check_lines (ea_cons (ee_var 0) ea_nil)))
  (ess_cons (es_expr (ec_callP tk (ok_check_order h) (hr.mono (by decide)) h.g_check_order h.k_check_order (ea_cons (ee_var 0) (ea_cons (ee_var 1) ea_nil))))
  (ess_cons (es_set 2 hN (ec_callP tk (ok_least_way h) (hr.mono (by decide)) h.g_least_way h.k_least_way (ea_cons (ec_callQ tk (ok_heights_of h) (hr.mono (by decide)) h.g_heights_of h.k_heights_of (ea_cons (ee_var 0) (ea_cons (ee_var 1) ea_nil))) ea_nil)))
  (ess_one (es_ret (ee_if (et_cmp op_isD (ee_var 2) ee_non) ee_non (ee_callB true cb_len (ea_cons (ee_var 2) ea_nil) h.f_len bb_len)))))))
theorem ok_fewest (h : Hd K mg) : FOk P w K mg base 5 (He.ga K "fewest") 2 f_fewest :=
  fok_of (N := N_fewest) (ps := ["lines", "order"]) m_fewest h.F_fewest sc_fewest rfl rfl bd_fewest (b_fewest h)
def m_turns_of (F : FM) : SM := (sSeq (sIf (t2 eqG (eVar 0) (eLst false aNil))
  (sRet (eLst true (aCons (eLst true aNil) aNil)))
  sNil)
  (sSeq (sSet 1 (eLst true aNil))
  (sSeq (sFor 0 (iEnu (eVar 0)) (gbTup (gbCons (gbName 2) (gbCons (gbName 3) gbNil)))
  (sDrop (eMt exG (eVar 1) (eLc false (iOf (eCallP 1 F (aCons (e2 false addG (eSl false (eVar 0) oNone (oSome (eVar 2))) (eSl false (eVar 0) (oSome (e2 false addG (eVar 2) (eC (.int 1)))) oNone)) aNil))) (gbName 4) tYesD (e2 false addG (eLst false (aCons (eVar 3) aNil)) (eVar 4)) [4]))))
  (sRet (eVar 1)))))
def fr_turns_of : Nat → FM
  | 0 => fun _ _ => .stuck
  | i + 1 => fnM 4 (m_turns_of (fr_turns_of i))
def f_turns_of : FM := fr_turns_of 4
def N_turns_of : List Str := ["some", "found", "at", "one", "rest"]
theorem sc_turns_of : FnScope N_turns_of ["some"] (defScope s_turns_of) := ⟨rfl, rfl, rfl, by decide, by decide, by decide, by decide⟩
theorem bd_turns_of (kV doc pm : Value) (an : Option Addr) (cdv ct : Value) (us : List Value) (hl : us.length = (["some"] : List Str).length) : bindArgs (PySem.W.fnOf "turns_of" "turns_of" (defArgs s_turns_of) (defBody s_turns_of) (defScope s_turns_of) .none kV doc pm an cdv ct) ⟨us, []⟩ = pure ((["some"] : List Str).zip us) := match us, hl with | [_], _ => rfl
theorem b_turns_of (h : Hd K mg) (F : FM) (i j : Nat) (hj : 0 ≤ j) (hi : i ≤ j) (hF : FOk P w K mg base i (He.ga K "turns_of") 1 F) (cdv : Value) (A : Around) (outer : List Env) (s : Shared) (H : Hp) (E : XK) (hr : Room j (A.deeper (envOfC "turns_of" (defScope s_turns_of) s.heap.objs.size (He.ga K "turns_of") cdv))) : ESs (cxOf (L2.CX P w) P w K mg base N_turns_of "turns_of" (defScope s_turns_of) (He.ga K "turns_of") cdv A outer s H E) (WD E) (defBody s_turns_of) (m_turns_of F) := by
      have hN : N_turns_of.Nodup := by decide
      have hu := units_of hr
      have hp := passes_of (X := (cxOf (L2.CX P w) P w K mg base N_turns_of "turns_of" (defScope s_turns_of) (He.ga K "turns_of") cdv A outer s H E)) rfl
      have tk : Takes (cxOf (L2.CX P w) P w K mg base N_turns_of "turns_of" (defScope s_turns_of) (He.ga K "turns_of") cdv A outer s H E) (WD E) := takes_of rfl rfl rfl rfl
      exact (ess_cons (es_if (et_cmp (op_eqDD hu) (ee_var 0) (ee_lst false ea_nil))
  (ess_one (es_ret (ee_lst true (ea_cons (ee_lst true ea_nil) ea_nil))))
  ess_nil)
  (ess_cons (es_set 1 hN (ee_lst true ea_nil))
  (ess_cons (es_for 0 hp rfl (ei_enu (ee_var 0) h.f_enumerate) (eg_tup rfl (egs_cons (eg_name 2 hN) (egs_cons (eg_name 3 hN) egs_nil)))
  (ess_one (es_expr (ee_extend (ee_var 1) (ee_lc false rfl hN [("rest", 4)] (ei_of (ec_callP tk hF (hr.mono hi) h.g_turns_of h.k_turns_of (ea_cons (ee_op op_addD false (ee_sl false (ee_var 0) eo_none (eo_some (ee_var 2))) (ee_sl false (ee_var 0) (eo_some (ee_op op_addD false (ee_var 2) ee_int)) eo_none)) ea_nil))) (by rfl) (fun _ _ _ _ _ => (eg_name 4 hN)) (fun _ _ _ _ _ => ets_nil) (fun _ _ _ _ _ => (ee_op op_addD false (ee_lst false (ea_cons (ee_var 3) ea_nil)) (ee_var 4))))))))
  (ess_one (es_ret (ee_var 1))))))
theorem okr_turns_of (h : Hd K mg) : ∀ i, FOk P w K mg base (0 + i + 1) (He.ga K "turns_of") 1 (fr_turns_of i)
  | 0 => fok_stuck (ps := ["some"]) h.F_turns_of bd_turns_of
  | i + 1 => fok_of (N := N_turns_of) (ps := ["some"]) (m_turns_of (fr_turns_of i)) h.F_turns_of sc_turns_of rfl rfl bd_turns_of (fun cdv A outer s H E hr => b_turns_of h (fr_turns_of i) (0 + i + 1) (0 + (i + 1)) (Nat.le_add_right _ _) (Nat.le_refl _) (okr_turns_of h i) cdv A outer s H E hr)
theorem ok_turns_of (h : Hd K mg) : FOk P w K mg base 5 (He.ga K "turns_of") 1 f_turns_of := okr_turns_of h 4
def m_orders : SM := (sSeq (sDrop (eCallP 1 f_check_lines (aCons (eVar 0) aNil)))
  (sSeq (sSet 1 (eLst true aNil))
  (sSeq (sFor 0 (iOf (eCallP 1 f_turns_of (aCons (eCallP 1 f_engines_of (aCons (eVar 0) aNil)) aNil))) (gbName 2)
  (sSeq (sSet 3 (eCallP 1 f_least_way (aCons (eCallQ 2 f_heights_of (aCons (eVar 0) (aCons (eVar 2) aNil))) aNil)))
  (sIf (t2 isNotG (eVar 3) (eC .non))
  (sDrop (eMt apG (eVar 1) (eTup (aCons (eVar 2) (aCons (eCall false lenG (aCons (eVar 3) aNil)) aNil)))))
  sNil)))
  (sRet (eVar 1)))))
def f_orders : FM := fnM 3 m_orders
def N_orders : List Str := ["lines", "found", "order", "deeds"]
theorem sc_orders : FnScope N_orders ["lines"] (defScope s_orders) := ⟨rfl, rfl, rfl, by decide, by decide, by decide, by decide⟩
theorem bd_orders (kV doc pm : Value) (an : Option Addr) (cdv ct : Value) (us : List Value) (hl : us.length = (["lines"] : List Str).length) : bindArgs (PySem.W.fnOf "orders" "orders" (defArgs s_orders) (defBody s_orders) (defScope s_orders) .none kV doc pm an cdv ct) ⟨us, []⟩ = pure ((["lines"] : List Str).zip us) := match us, hl with | [_], _ => rfl
theorem b_orders (h : Hd K mg) (cdv : Value) (A : Around) (outer : List Env) (s : Shared) (H : Hp) (E : XK) (hr : Room 5 (A.deeper (envOfC "orders" (defScope s_orders) s.heap.objs.size (He.ga K "orders") cdv))) : ESs (cxOf (L2.CX P w) P w K mg base N_orders "orders" (defScope s_orders) (He.ga K "orders") cdv A outer s H E) (WD E) (defBody s_orders) m_orders := by
      have hN : N_orders.Nodup := by decide
      have hu := units_of hr
      have hp := passes_of (X := cxOf (L2.CX P w) P w K mg base N_orders "orders" (defScope s_orders) (He.ga K "orders") cdv A outer s H E) rfl
      have tk : Takes (cxOf (L2.CX P w) P w K mg base N_orders "orders" (defScope s_orders) (He.ga K "orders") cdv A outer s H E) (WD E) := takes_of rfl rfl rfl rfl
      have hc : (cxOf (L2.CX P w) P w K mg base N_orders "orders" (defScope s_orders) (He.ga K "orders") cdv A outer s H E).calm = true := rfl
      exact (ess_cons (es_expr (ec_callP tk (ok_check_lines h) (hr.mono (by decide)) h.g_check_lines h.k_check_lines (ea_cons (ee_var 0) ea_nil)))
  (ess_cons (es_set 1 hN (ee_lst true ea_nil))
  (ess_cons (es_for 0 hp rfl (ei_of (ec_callP tk (ok_turns_of h) (hr.mono (by decide)) h.g_turns_of h.k_turns_of (ea_cons (ec_callP tk (ok_engines_of h) (hr.mono (by decide)) h.g_engines_of h.k_engines_of (ea_cons (ee_var 0) ea_nil)) ea_nil))) (eg_name 2 hN)
  (ess_cons (es_set 3 hN (ec_callP tk (ok_least_way h) (hr.mono (by decide)) h.g_least_way h.k_least_way (ea_cons (ec_callQ tk (ok_heights_of h) (hr.mono (by decide)) h.g_heights_of h.k_heights_of (ea_cons (ee_var 0) (ea_cons (ee_var 2) ea_nil))) ea_nil)))
  (ess_one (es_if (et_cmp op_isNotD (ee_var 3) ee_non)
  (ess_one (es_expr (ee_append (ee_var 1) (ee_tup (ea_cons (ee_var 2) (ea_cons (ee_callB false cb_len (ea_cons (ee_var 3) ea_nil) h.f_len bb_len) ea_nil))))))
  ess_nil))))
  (ess_one (es_ret (ee_var 1))))))
theorem ok_orders (h : Hd K mg) : FOk P w K mg base 6 (He.ga K "orders") 1 f_orders :=
  fok_of (N := N_orders) (ps := ["lines"]) m_orders h.F_orders sc_orders rfl rfl bd_orders (b_orders h)
def m_ways_on (F : FM) : SM := (sSeq (sIf (t2 eqG (eVar 3) (eC (.int 0)))
  (sRet (eC (.int 0)))
  sNil)
  (sSeq (sIf (t2 notInG (eTup (aCons (eVar 2) (aCons (eVar 3) aNil))) (eVar 4))
  (sSeq (sSet 5 (eC (.int 0)))
  (sSeq (sFor 0 (iOf (eCallP 3 f_kept (aCons (eVar 0) (aCons (eVar 1) (aCons (eVar 2) aNil))))) (gbTup (gbCons (gbName 6) (gbCons (gbName 7) gbNil)))
  (sIf (tAndD (t2 eqG (eVar 6) (eC (.str "out"))) (tOf (eCallP 1 f_is_last (aCons (eVar 2) aNil))))
  (sAug 5 augP (eCall false intG (aCons (e2 false eqG (eVar 3) (eC (.int 1))) aNil)))
  (sAug 5 augP (eCallS 5 F (aCons (eVar 0) (aCons (eVar 1) (aCons (eVar 7) (aCons (e2 false subG (eVar 3) (eC (.int 1))) (aCons (eVar 4) aNil)))))))))
  (sPut (eVar 5) (eVar 4) (eTup (aCons (eVar 2) (aCons (eVar 3) aNil))))))
  sNil)
  (sRet (e2 false ixG (eVar 4) (eTup (aCons (eVar 2) (aCons (eVar 3) aNil)))))))
def fr_ways_on : Nat → FM
  | 0 => fun _ _ => .stuck
  | i + 1 => fnM 3 (m_ways_on (fr_ways_on i))
def f_ways_on : FM := fr_ways_on 61
def N_ways_on : List Str := ["lines", "order", "stand", "left", "known", "found", "deed", "other"]
theorem sc_ways_on : FnScope N_ways_on ["lines", "order", "stand", "left", "known"] (defScope s_ways_on) := ⟨rfl, rfl, rfl, by decide, by decide, by decide, by decide⟩
theorem bd_ways_on (kV doc pm : Value) (an : Option Addr) (cdv ct : Value) (us : List Value) (hl : us.length = (["lines", "order", "stand", "left", "known"] : List Str).length) : bindArgs (PySem.W.fnOf "ways_on" "ways_on" (defArgs s_ways_on) (defBody s_ways_on) (defScope s_ways_on) .none kV doc pm an cdv ct) ⟨us, []⟩ = pure ((["lines", "order", "stand", "left", "known"] : List Str).zip us) := match us, hl with | [_, _, _, _, _], _ => rfl
theorem b_ways_on (h : Hd K mg) (F : FM) (i j : Nat) (hj : 3 ≤ j) (hi : i ≤ j) (hF : FOk P w K mg base i (He.ga K "ways_on") 5 F) (cdv : Value) (A : Around) (outer : List Env) (s : Shared) (H : Hp) (E : XK) (hr : Room j (A.deeper (envOfC "ways_on" (defScope s_ways_on) s.heap.objs.size (He.ga K "ways_on") cdv))) : ESs (cxOf (L2.CX P w) P w K mg base N_ways_on "ways_on" (defScope s_ways_on) (He.ga K "ways_on") cdv A outer s H E) (WD E) (defBody s_ways_on) (m_ways_on F) := by
      have hN : N_ways_on.Nodup := by decide
      have hu := units_of hr
      have hp := passes_of (X := (cxOf (L2.CX P w) P w K mg base N_ways_on "ways_on" (defScope s_ways_on) (He.ga K "ways_on") cdv A outer s H E)) rfl
      have tk : Takes (cxOf (L2.CX P w) P w K mg base N_ways_on "ways_on" (defScope s_ways_on) (He.ga K "ways_on") cdv A outer s H E) (WD E) := takes_of rfl rfl rfl rfl
      exact (ess_cons (es_if (et_cmp (op_eqDD hu) (ee_var 3) ee_int)
  (ess_one (es_ret ee_int))
  ess_nil)
  (ess_cons (es_if (et_cmp (op_notInDD hu) (ee_tup (ea_cons (ee_var 2) (ea_cons (ee_var 3) ea_nil))) (ee_var 4))
  (ess_cons (es_set 5 hN ee_int)
  (ess_cons (es_for 0 hp rfl (ei_of (ec_callP tk (ok_kept h) (hr.mono (Nat.le_trans (by decide) hj)) h.g_kept h.k_kept (ea_cons (ee_var 0) (ea_cons (ee_var 1) (ea_cons (ee_var 2) ea_nil))))) (eg_tup rfl (egs_cons (eg_name 6 hN) (egs_cons (eg_name 7 hN) egs_nil)))
  (ess_one (es_if (et_w (ew_and (et_cmp (op_eqDD hu) (ee_var 6) ee_str) (ew_and1 (et_of (ec_callP tk (ok_is_last h) (hr.mono (Nat.le_trans (by decide) hj)) h.g_is_last h.k_is_last (ea_cons (ee_var 2) ea_nil))))))
  (ess_one (es_augP 5 hN (ee_callTy false cb_int (ea_cons (ee_cmp (op_eqDD hu) (ee_var 3) ee_int) ea_nil) h.f_int bb_int)))
  (ess_one (es_augP 5 hN (ec_callS tk hF (hr.mono hi) h.g_ways_on h.k_ways_on (ea_cons (ee_var 0) (ea_cons (ee_var 1) (ea_cons (ee_var 7) (ea_cons (ee_op op_subD false (ee_var 3) ee_int) (ea_cons (ee_var 4) ea_nil)))))))))))
  (ess_one (es_put hu (ee_var 5) (ee_var 4) (ee_tup (ea_cons (ee_var 2) (ea_cons (ee_var 3) ea_nil)))))))
  ess_nil)
  (ess_one (es_ret (ee_sub hu (ee_var 4) (ee_tup (ea_cons (ee_var 2) (ea_cons (ee_var 3) ea_nil))))))))
theorem okr_ways_on (h : Hd K mg) : ∀ i, FOk P w K mg base (3 + i + 1) (He.ga K "ways_on") 5 (fr_ways_on i)
  | 0 => fok_stuck (ps := ["lines", "order", "stand", "left", "known"]) h.F_ways_on bd_ways_on
  | i + 1 => fok_of (N := N_ways_on) (ps := ["lines", "order", "stand", "left", "known"]) (m_ways_on (fr_ways_on i)) h.F_ways_on sc_ways_on rfl rfl bd_ways_on (fun cdv A outer s H E hr => b_ways_on h (fr_ways_on i) (3 + i + 1) (3 + (i + 1)) (Nat.le_add_right _ _) (Nat.le_refl _) (okr_ways_on h i) cdv A outer s H E hr)
theorem ok_ways_on (h : Hd K mg) : FOk P w K mg base 65 (He.ga K "ways_on") 5 f_ways_on := okr_ways_on h 61
def m_check_all : SM := (sSeq (sDrop (eCallP 1 f_check_lines (aCons (eVar 0) aNil)))
  (sSeq (sDrop (eCallP 2 f_check_order (aCons (eVar 0) (aCons (eVar 1) aNil))))
  (sIf (tNotD (tOf (eCallP 1 f_is_count (aCons (eVar 2) aNil))))
  (sRaise "BadCount")
  sNil)))
def f_check_all : FM := fnM 0 m_check_all
def N_check_all : List Str := ["lines", "order", "many"]
theorem sc_check_all : FnScope N_check_all ["lines", "order", "many"] (defScope s_check_all) := ⟨rfl, rfl, rfl, by decide, by decide, by decide, by decide⟩
theorem bd_check_all (kV doc pm : Value) (an : Option Addr) (cdv ct : Value) (us : List Value) (hl : us.length = (["lines", "order", "many"] : List Str).length) : bindArgs (PySem.W.fnOf "check_all" "check_all" (defArgs s_check_all) (defBody s_check_all) (defScope s_check_all) .none kV doc pm an cdv ct) ⟨us, []⟩ = pure ((["lines", "order", "many"] : List Str).zip us) := match us, hl with | [_, _, _], _ => rfl
theorem b_check_all (h : Hd K mg) (cdv : Value) (A : Around) (outer : List Env) (s : Shared) (H : Hp) (E : XK) (hr : Room 4 (A.deeper (envOfC "check_all" (defScope s_check_all) s.heap.objs.size (He.ga K "check_all") cdv))) : ESs (cxOf (L2.CX P w) P w K mg base N_check_all "check_all" (defScope s_check_all) (He.ga K "check_all") cdv A outer s H E) (WD E) (defBody s_check_all) m_check_all := by
      have hN : N_check_all.Nodup := by decide
      have hu := units_of hr
      have hp := passes_of (X := cxOf (L2.CX P w) P w K mg base N_check_all "check_all" (defScope s_check_all) (He.ga K "check_all") cdv A outer s H E) rfl
      have tk : Takes (cxOf (L2.CX P w) P w K mg base N_check_all "check_all" (defScope s_check_all) (He.ga K "check_all") cdv A outer s H E) (WD E) := takes_of rfl rfl rfl rfl
      have hc : (cxOf (L2.CX P w) P w K mg base N_check_all "check_all" (defScope s_check_all) (He.ga K "check_all") cdv A outer s H E).calm = true := rfl
      exact (ess_cons (es_expr (ec_callP tk (ok_check_lines h) (hr.mono (by decide)) h.g_check_lines h.k_check_lines (ea_cons (ee_var 0) ea_nil)))
  (ess_cons (es_expr (ec_callP tk (ok_check_order h) (hr.mono (by decide)) h.g_check_order h.k_check_order (ea_cons (ee_var 0) (ea_cons (ee_var 1) ea_nil))))
  (ess_one (es_if (et_not (et_of (ec_callP tk (ok_is_count h) (hr.mono (by decide)) h.g_is_count h.k_is_count (ea_cons (ee_var 2) ea_nil))))
  (ess_one (es_raise rfl tk h.e_BadCount.1 h.g_BadCount h.e_BadCount.2.1 h.e_BadCount.2.2.1 h.e_BadCount.2.2.2))
  ess_nil))))
theorem ok_check_all (h : Hd K mg) : FOk P w K mg base 5 (He.ga K "check_all") 3 f_check_all :=
  fok_of (N := N_check_all) (ps := ["lines", "order", "many"]) m_check_all h.F_check_all sc_check_all rfl rfl bd_check_all (b_check_all h)
def m_how_many : SM := (sSeq (sDrop (eCallP 3 f_check_all (aCons (eVar 0) (aCons (eVar 1) (aCons (eVar 2) aNil)))))
  (sRet (eCallS 5 f_ways_on (aCons (eVar 0) (aCons (eVar 1) (aCons (eCallP 1 f_first_stand (aCons (eVar 0) aNil)) (aCons (eVar 2) (aCons eDict aNil))))))))
def f_how_many : FM := fnM 0 m_how_many
def N_how_many : List Str := ["lines", "order", "many"]
theorem sc_how_many : FnScope N_how_many ["lines", "order", "many"] (defScope s_how_many) := ⟨rfl, rfl, rfl, by decide, by decide, by decide, by decide⟩
theorem bd_how_many (kV doc pm : Value) (an : Option Addr) (cdv ct : Value) (us : List Value) (hl : us.length = (["lines", "order", "many"] : List Str).length) : bindArgs (PySem.W.fnOf "how_many" "how_many" (defArgs s_how_many) (defBody s_how_many) (defScope s_how_many) .none kV doc pm an cdv ct) ⟨us, []⟩ = pure ((["lines", "order", "many"] : List Str).zip us) := match us, hl with | [_, _, _], _ => rfl
theorem b_how_many (h : Hd K mg) (cdv : Value) (A : Around) (outer : List Env) (s : Shared) (H : Hp) (E : XK) (hr : Room 65 (A.deeper (envOfC "how_many" (defScope s_how_many) s.heap.objs.size (He.ga K "how_many") cdv))) : ESs (cxOf (L2.CX P w) P w K mg base N_how_many "how_many" (defScope s_how_many) (He.ga K "how_many") cdv A outer s H E) (WD E) (defBody s_how_many) m_how_many := by
      have hN : N_how_many.Nodup := by decide
      have hu := units_of hr
      have hp := passes_of (X := cxOf (L2.CX P w) P w K mg base N_how_many "how_many" (defScope s_how_many) (He.ga K "how_many") cdv A outer s H E) rfl
      have tk : Takes (cxOf (L2.CX P w) P w K mg base N_how_many "how_many" (defScope s_how_many) (He.ga K "how_many") cdv A outer s H E) (WD E) := takes_of rfl rfl rfl rfl
      have hc : (cxOf (L2.CX P w) P w K mg base N_how_many "how_many" (defScope s_how_many) (He.ga K "how_many") cdv A outer s H E).calm = true := rfl
      exact (ess_cons (es_expr (ec_callP tk (ok_check_all h) (hr.mono (by decide)) h.g_check_all h.k_check_all (ea_cons (ee_var 0) (ea_cons (ee_var 1) (ea_cons (ee_var 2) ea_nil)))))
  (ess_one (es_ret (ec_callS tk (ok_ways_on h) (hr.mono (by decide)) h.g_ways_on h.k_ways_on (ea_cons (ee_var 0) (ea_cons (ee_var 1) (ea_cons (ec_callP tk (ok_first_stand h) (hr.mono (by decide)) h.g_first_stand h.k_first_stand (ea_cons (ee_var 0) ea_nil)) (ea_cons (ee_var 2) (ea_cons ee_dict ea_nil)))))))))
theorem ok_how_many (h : Hd K mg) : FOk P w K mg base 66 (He.ga K "how_many") 3 f_how_many :=
  fok_of (N := N_how_many) (ps := ["lines", "order", "many"]) m_how_many h.F_how_many sc_how_many rfl rfl bd_how_many (b_how_many h)
def m_part_of : SM := (sSeq (sIf (tAndD (t2 eqG (e2 false ixG (eVar 3) (eC (.int 0))) (eC (.str "out"))) (tOf (eCallP 1 f_is_last (aCons (eVar 2) aNil))))
  (sRet (eCall true intG (aCons (e2 false eqG (eVar 4) (eC (.int 1))) aNil)))
  sNil)
  (sRet (eCallS 5 f_ways_on (aCons (eVar 0) (aCons (eVar 1) (aCons (e2 false ixG (eVar 3) (eC (.int 1))) (aCons (e2 false subG (eVar 4) (eC (.int 1))) (aCons (eVar 5) aNil))))))))
def f_part_of : FM := fnM 0 m_part_of
def N_part_of : List Str := ["lines", "order", "stand", "step", "left", "known"]
theorem sc_part_of : FnScope N_part_of ["lines", "order", "stand", "step", "left", "known"] (defScope s_part_of) := ⟨rfl, rfl, rfl, by decide, by decide, by decide, by decide⟩
theorem bd_part_of (kV doc pm : Value) (an : Option Addr) (cdv ct : Value) (us : List Value) (hl : us.length = (["lines", "order", "stand", "step", "left", "known"] : List Str).length) : bindArgs (PySem.W.fnOf "part_of" "part_of" (defArgs s_part_of) (defBody s_part_of) (defScope s_part_of) .none kV doc pm an cdv ct) ⟨us, []⟩ = pure ((["lines", "order", "stand", "step", "left", "known"] : List Str).zip us) := match us, hl with | [_, _, _, _, _, _], _ => rfl
theorem b_part_of (h : Hd K mg) (cdv : Value) (A : Around) (outer : List Env) (s : Shared) (H : Hp) (E : XK) (hr : Room 65 (A.deeper (envOfC "part_of" (defScope s_part_of) s.heap.objs.size (He.ga K "part_of") cdv))) : ESs (cxOf (L2.CX P w) P w K mg base N_part_of "part_of" (defScope s_part_of) (He.ga K "part_of") cdv A outer s H E) (WD E) (defBody s_part_of) m_part_of := by
      have hN : N_part_of.Nodup := by decide
      have hu := units_of hr
      have hp := passes_of (X := cxOf (L2.CX P w) P w K mg base N_part_of "part_of" (defScope s_part_of) (He.ga K "part_of") cdv A outer s H E) rfl
      have tk : Takes (cxOf (L2.CX P w) P w K mg base N_part_of "part_of" (defScope s_part_of) (He.ga K "part_of") cdv A outer s H E) (WD E) := takes_of rfl rfl rfl rfl
      have hc : (cxOf (L2.CX P w) P w K mg base N_part_of "part_of" (defScope s_part_of) (He.ga K "part_of") cdv A outer s H E).calm = true := rfl
      exact (ess_cons (es_if (et_w (ew_and (et_cmp (op_eqDD hu) (ee_sub hu (ee_var 3) ee_int) ee_str) (ew_and1 (et_of (ec_callP tk (ok_is_last h) (hr.mono (by decide)) h.g_is_last h.k_is_last (ea_cons (ee_var 2) ea_nil))))))
  (ess_one (es_ret (ee_callTy true cb_int (ea_cons (ee_cmp (op_eqDD hu) (ee_var 4) ee_int) ea_nil) h.f_int bb_int)))
  ess_nil)
  (ess_one (es_ret (ec_callS tk (ok_ways_on h) (hr.mono (by decide)) h.g_ways_on h.k_ways_on (ea_cons (ee_var 0) (ea_cons (ee_var 1) (ea_cons (ee_sub hu (ee_var 3) ee_int) (ea_cons (ee_op op_subD false (ee_var 4) ee_int) (ea_cons (ee_var 5) ea_nil)))))))))
theorem ok_part_of (h : Hd K mg) : FOk P w K mg base 66 (He.ga K "part_of") 6 f_part_of :=
  fok_of (N := N_part_of) (ps := ["lines", "order", "stand", "step", "left", "known"]) m_part_of h.F_part_of sc_part_of rfl rfl bd_part_of (b_part_of h)
def m_deeds_by : SM := (sSeq (sDrop (eCallP 3 f_check_all (aCons (eVar 0) (aCons (eVar 1) (aCons (eVar 2) aNil)))))
  (sSeq (sPar [4, 5, 6] (aCons (eCallP 1 f_first_stand (aCons (eVar 0) aNil)) (aCons eDict (aCons (eLst true aNil) aNil))))
  (sSeq (sIf (tOrD (tNotD (tOf (eCallP 1 f_is_whole (aCons (eVar 3) aNil)))) (tNotD (tBl (eChain leG ltG (eC (.int 0)) (eVar 3) (eCallS 5 f_ways_on (aCons (eVar 0) (aCons (eVar 1) (aCons (eVar 4) (aCons (eVar 2) (aCons (eVar 5) aNil))))))))))
  (sRaise "BadNumber")
  sNil)
  (sSeq (sFor 0 (iRng3 (eVar 2) (eC (.int 0)) (e1 false negG (eC (.int 1)))) (gbName 7)
  (sFor 0 (iOf (eCallP 3 f_kept (aCons (eVar 0) (aCons (eVar 1) (aCons (eVar 4) aNil))))) (gbName 8)
  (sSeq (sSet 9 (eCallS 6 f_part_of (aCons (eVar 0) (aCons (eVar 1) (aCons (eVar 4) (aCons (eVar 8) (aCons (eVar 7) (aCons (eVar 5) aNil))))))))
  (sSeq (sIf (t2 ltG (eVar 3) (eVar 9))
  (sSeq (sDrop (eMt apG (eVar 6) (e2 false ixG (eVar 8) (eC (.int 0)))))
  (sSeq (sSet 4 (e2 false ixG (eVar 8) (eC (.int 1))))
  sBrk))
  sNil)
  (sAug 3 augM (eVar 9))))))
  (sRet (eVar 6))))))
def f_deeds_by : FM := fnM 6 m_deeds_by
def N_deeds_by : List Str := ["lines", "order", "many", "number", "stand", "known", "found", "left", "step", "count"]
theorem sc_deeds_by : FnScope N_deeds_by ["lines", "order", "many", "number"] (defScope s_deeds_by) := ⟨rfl, rfl, rfl, by decide, by decide, by decide, by decide⟩
theorem bd_deeds_by (kV doc pm : Value) (an : Option Addr) (cdv ct : Value) (us : List Value) (hl : us.length = (["lines", "order", "many", "number"] : List Str).length) : bindArgs (PySem.W.fnOf "deeds_by" "deeds_by" (defArgs s_deeds_by) (defBody s_deeds_by) (defScope s_deeds_by) .none kV doc pm an cdv ct) ⟨us, []⟩ = pure ((["lines", "order", "many", "number"] : List Str).zip us) := match us, hl with | [_, _, _, _], _ => rfl
theorem b_deeds_by (h : Hd K mg) (cdv : Value) (A : Around) (outer : List Env) (s : Shared) (H : Hp) (E : XK) (hr : Room 66 (A.deeper (envOfC "deeds_by" (defScope s_deeds_by) s.heap.objs.size (He.ga K "deeds_by") cdv))) : ESs (cxOf (L2.CX P w) P w K mg base N_deeds_by "deeds_by" (defScope s_deeds_by) (He.ga K "deeds_by") cdv A outer s H E) (WD E) (defBody s_deeds_by) m_deeds_by := by
      have hN : N_deeds_by.Nodup := by decide
      have hu := units_of hr
      have hp := passes_of (X := cxOf (L2.CX P w) P w K mg base N_deeds_by "deeds_by" (defScope s_deeds_by) (He.ga K "deeds_by") cdv A outer s H E) rfl
      have tk : Takes (cxOf (L2.CX P w) P w K mg base N_deeds_by "deeds_by" (defScope s_deeds_by) (He.ga K "deeds_by") cdv A outer s H E) (WD E) := takes_of rfl rfl rfl rfl
      have hc : (cxOf (L2.CX P w) P w K mg base N_deeds_by "deeds_by" (defScope s_deeds_by) (He.ga K "deeds_by") cdv A outer s H E).calm = true := rfl
      exact (ess_cons (es_expr (ec_callP tk (ok_check_all h) (hr.mono (by decide)) h.g_check_all h.k_check_all (ea_cons (ee_var 0) (ea_cons (ee_var 1) (ea_cons (ee_var 2) ea_nil)))))
  (ess_cons (es_par3 (i := 4) (j := 5) (l := 6) rfl hN (ea_cons (ec_callP tk (ok_first_stand h) (hr.mono (by decide)) h.g_first_stand h.k_first_stand (ea_cons (ee_var 0) ea_nil)) (ea_cons ee_dict (ea_cons (ee_lst true ea_nil) ea_nil))))
  (ess_cons (es_if (et_w (ew_or (et_not (et_of (ec_callP tk (ok_is_whole h) (hr.mono (by decide)) h.g_is_whole h.k_is_whole (ea_cons (ee_var 3) ea_nil)))) (ew_or1 (et_not (et_chain2 op_leD (op_ltD hu) ee_int (ee_var 3) (ec_callS tk (ok_ways_on h) (hr.mono (by decide)) h.g_ways_on h.k_ways_on (ea_cons (ee_var 0) (ea_cons (ee_var 1) (ea_cons (ee_var 4) (ea_cons (ee_var 2) (ea_cons (ee_var 5) ea_nil)))))))))))
  (ess_one (es_raise rfl tk h.e_BadNumber.1 h.g_BadNumber h.e_BadNumber.2.1 h.e_BadNumber.2.2.1 h.e_BadNumber.2.2.2))
  ess_nil)
  (ess_cons (es_for 0 hp rfl (ei_rng3 (ee_var 2) ee_int (ee_un (un_negD false) ee_int) h.f_range) (eg_name 7 hN)
  (ess_one (es_for 0 hp rfl (ei_of (ec_callP tk (ok_kept h) (hr.mono (by decide)) h.g_kept h.k_kept (ea_cons (ee_var 0) (ea_cons (ee_var 1) (ea_cons (ee_var 4) ea_nil))))) (eg_name 8 hN)
  (ess_cons (es_set 9 hN (ec_callS tk (ok_part_of h) (hr.mono (by decide)) h.g_part_of h.k_part_of (ea_cons (ee_var 0) (ea_cons (ee_var 1) (ea_cons (ee_var 4) (ea_cons (ee_var 8) (ea_cons (ee_var 7) (ea_cons (ee_var 5) ea_nil))))))))
  (ess_cons (es_if (et_cmp (op_ltD hu) (ee_var 3) (ee_var 9))
  (ess_cons (es_expr (ee_append (ee_var 6) (ee_sub hu (ee_var 8) ee_int)))
  (ess_cons (es_set 4 hN (ee_sub hu (ee_var 8) ee_int))
  (ess_one es_break)))
  ess_nil)
  (ess_one (es_augM 3 hN (ee_var 9))))))))
  (ess_one (es_ret (ee_var 6)))))))
theorem ok_deeds_by (h : Hd K mg) : FOk P w K mg base 67 (He.ga K "deeds_by") 4 f_deeds_by :=
  fok_of (N := N_deeds_by) (ps := ["lines", "order", "many", "number"]) m_deeds_by h.F_deeds_by sc_deeds_by rfl rfl bd_deeds_by (b_deeds_by h)
def m_number_of : SM := (sSeq (sDrop (eCallP 1 f_check_lines (aCons (eVar 0) aNil)))
  (sSeq (sDrop (eCallP 2 f_check_order (aCons (eVar 0) (aCons (eVar 1) aNil))))
  (sSeq (sDrop (eCallP 1 f_check_deeds (aCons (eVar 2) aNil)))
  (sSeq (sIf (tNotD (tOf (eCallP 3 f_brings (aCons (eVar 0) (aCons (eVar 1) (aCons (eVar 2) aNil))))))
  (sRaise "NotAll")
  sNil)
  (sSeq (sPar [3, 4, 5] (aCons (eCallP 1 f_first_stand (aCons (eVar 0) aNil)) (aCons eDict (aCons (eC (.int 0)) aNil))))
  (sSeq (sFor 0 (iEnu (eVar 2)) (gbTup (gbCons (gbName 6) (gbCons (gbName 7) gbNil)))
  (sFor 0 (iOf (eCallP 3 f_kept (aCons (eVar 0) (aCons (eVar 1) (aCons (eVar 3) aNil))))) (gbName 8)
  (sSeq (sIf (t2 eqG (e2 false ixG (eVar 8) (eC (.int 0))) (eVar 7))
  (sSeq (sSet 3 (e2 false ixG (eVar 8) (eC (.int 1))))
  sBrk)
  sNil)
  (sAug 5 augP (eCallS 6 f_part_of (aCons (eVar 0) (aCons (eVar 1) (aCons (eVar 3) (aCons (eVar 8) (aCons (e2 false subG (eCall false lenG (aCons (eVar 2) aNil)) (eVar 6)) (aCons (eVar 4) aNil)))))))))))
  (sRet (eVar 5))))))))
def f_number_of : FM := fnM 6 m_number_of
def N_number_of : List Str := ["lines", "order", "deeds", "stand", "known", "found", "at", "deed", "step"]
theorem sc_number_of : FnScope N_number_of ["lines", "order", "deeds"] (defScope s_number_of) := ⟨rfl, rfl, rfl, by decide, by decide, by decide, by decide⟩
theorem bd_number_of (kV doc pm : Value) (an : Option Addr) (cdv ct : Value) (us : List Value) (hl : us.length = (["lines", "order", "deeds"] : List Str).length) : bindArgs (PySem.W.fnOf "number_of" "number_of" (defArgs s_number_of) (defBody s_number_of) (defScope s_number_of) .none kV doc pm an cdv ct) ⟨us, []⟩ = pure ((["lines", "order", "deeds"] : List Str).zip us) := match us, hl with | [_, _, _], _ => rfl
theorem b_number_of (h : Hd K mg) (cdv : Value) (A : Around) (outer : List Env) (s : Shared) (H : Hp) (E : XK) (hr : Room 66 (A.deeper (envOfC "number_of" (defScope s_number_of) s.heap.objs.size (He.ga K "number_of") cdv))) : ESs (cxOf (L2.CX P w) P w K mg base N_number_of "number_of" (defScope s_number_of) (He.ga K "number_of") cdv A outer s H E) (WD E) (defBody s_number_of) m_number_of := by
      have hN : N_number_of.Nodup := by decide
      have hu := units_of hr
      have hp := passes_of (X := cxOf (L2.CX P w) P w K mg base N_number_of "number_of" (defScope s_number_of) (He.ga K "number_of") cdv A outer s H E) rfl
      have tk : Takes (cxOf (L2.CX P w) P w K mg base N_number_of "number_of" (defScope s_number_of) (He.ga K "number_of") cdv A outer s H E) (WD E) := takes_of rfl rfl rfl rfl
      have hc : (cxOf (L2.CX P w) P w K mg base N_number_of "number_of" (defScope s_number_of) (He.ga K "number_of") cdv A outer s H E).calm = true := rfl
      exact (ess_cons (es_expr (ec_callP tk (ok_check_lines h) (hr.mono (by decide)) h.g_check_lines h.k_check_lines (ea_cons (ee_var 0) ea_nil)))
  (ess_cons (es_expr (ec_callP tk (ok_check_order h) (hr.mono (by decide)) h.g_check_order h.k_check_order (ea_cons (ee_var 0) (ea_cons (ee_var 1) ea_nil))))
  (ess_cons (es_expr (ec_callP tk (ok_check_deeds h) (hr.mono (by decide)) h.g_check_deeds h.k_check_deeds (ea_cons (ee_var 2) ea_nil)))
  (ess_cons (es_if (et_not (et_of (ec_callP tk (ok_brings h) (hr.mono (by decide)) h.g_brings h.k_brings (ea_cons (ee_var 0) (ea_cons (ee_var 1) (ea_cons (ee_var 2) ea_nil))))))
  (ess_one (es_raise rfl tk h.e_NotAll.1 h.g_NotAll h.e_NotAll.2.1 h.e_NotAll.2.2.1 h.e_NotAll.2.2.2))
  ess_nil)
  (ess_cons (es_par3 (i := 3) (j := 4) (l := 5) rfl hN (ea_cons (ec_callP tk (ok_first_stand h) (hr.mono (by decide)) h.g_first_stand h.k_first_stand (ea_cons (ee_var 0) ea_nil)) (ea_cons ee_dict (ea_cons ee_int ea_nil))))
  (ess_cons (es_for 0 hp rfl (ei_enu (ee_var 2) h.f_enumerate) (eg_tup rfl (egs_cons (eg_name 6 hN) (egs_cons (eg_name 7 hN) egs_nil)))
  (ess_one (es_for 0 hp rfl (ei_of (ec_callP tk (ok_kept h) (hr.mono (by decide)) h.g_kept h.k_kept (ea_cons (ee_var 0) (ea_cons (ee_var 1) (ea_cons (ee_var 3) ea_nil))))) (eg_name 8 hN)
  (ess_cons (es_if (et_cmp (op_eqDD hu) (ee_sub hu (ee_var 8) ee_int) (ee_var 7))
  (ess_cons (es_set 3 hN (ee_sub hu (ee_var 8) ee_int))
  (ess_one es_break))
  ess_nil)
  (ess_one (es_augP 5 hN (ec_callS tk (ok_part_of h) (hr.mono (by decide)) h.g_part_of h.k_part_of (ea_cons (ee_var 0) (ea_cons (ee_var 1) (ea_cons (ee_var 3) (ea_cons (ee_var 8) (ea_cons (ee_op op_subD false (ee_callB false cb_len (ea_cons (ee_var 2) ea_nil) h.f_len bb_len) (ee_var 6)) (ea_cons (ee_var 4) ea_nil)))))))))))))
  (ess_one (es_ret (ee_var 5)))))))))
theorem ok_number_of (h : Hd K mg) : FOk P w K mg base 67 (He.ga K "number_of") 3 f_number_of :=
  fok_of (N := N_number_of) (ps := ["lines", "order", "deeds"]) m_number_of h.F_number_of sc_number_of rfl rfl bd_number_of (b_number_of h)
def m_judged : SM := (sSeq (sDrop (eCallP 1 f_check_lines (aCons (eVar 0) aNil)))
  (sSeq (sIf (tOrD (tNotD (tOf (eIsi (fB ["list"]) (eVar 1)))) (tOrD (t2 gtG (eCall false lenG (aCons (eVar 1) aNil)) (eC c_MOST)) (tNotD (tOf (eCall false allG (aCons (eLc false (iOf (eVar 1)) (gbName 3) tYesD (eIsi (fB ["str"]) (eVar 3)) [3]) aNil))))))
  (sRaise "BadTale")
  sNil)
  (sSeq (sSet 2 (eCallP 2 f_first_wrong (aCons (eVar 0) (aCons (eVar 1) aNil))))
  (sRet (eIf (t2 ltG (eVar 2) (eC (.int 0))) (eMake0 "Right") (eMake "Wrong" 2 f_Wrong_init (aCons (eVar 2) aNil)))))))
def f_judged : FM := fnM 2 m_judged
def N_judged : List Str := ["lines", "tale", "place", "deed"]
theorem sc_judged : FnScope N_judged ["lines", "tale"] (defScope s_judged) := ⟨rfl, rfl, rfl, by decide, by decide, by decide, by decide⟩
theorem bd_judged (kV doc pm : Value) (an : Option Addr) (cdv ct : Value) (us : List Value) (hl : us.length = (["lines", "tale"] : List Str).length) : bindArgs (PySem.W.fnOf "judged" "judged" (defArgs s_judged) (defBody s_judged) (defScope s_judged) .none kV doc pm an cdv ct) ⟨us, []⟩ = pure ((["lines", "tale"] : List Str).zip us) := match us, hl with | [_, _], _ => rfl
theorem b_judged (h : Hd K mg) (cdv : Value) (A : Around) (outer : List Env) (s : Shared) (H : Hp) (E : XK) (hr : Room 4 (A.deeper (envOfC "judged" (defScope s_judged) s.heap.objs.size (He.ga K "judged") cdv))) : ESs (cxOf (L2.CX P w) P w K mg base N_judged "judged" (defScope s_judged) (He.ga K "judged") cdv A outer s H E) (WD E) (defBody s_judged) m_judged := by
      have hN : N_judged.Nodup := by decide
      have hu := units_of hr
      have hp := passes_of (X := cxOf (L2.CX P w) P w K mg base N_judged "judged" (defScope s_judged) (He.ga K "judged") cdv A outer s H E) rfl
      have tk : Takes (cxOf (L2.CX P w) P w K mg base N_judged "judged" (defScope s_judged) (He.ga K "judged") cdv A outer s H E) (WD E) := takes_of rfl rfl rfl rfl
      have hc : (cxOf (L2.CX P w) P w K mg base N_judged "judged" (defScope s_judged) (He.ga K "judged") cdv A outer s H E).calm = true := rfl
      exact (ess_cons (es_expr (ec_callP tk (ok_check_lines h) (hr.mono (by decide)) h.g_check_lines h.k_check_lines (ea_cons (ee_var 0) ea_nil)))
  (ess_cons (es_if (et_w (ew_or (et_not (et_of (ee_isiB "list" "list" (kb_list _) (ee_var 1) h.f_isinstance h.f_list bb_list))) (ew_or (et_cmp op_gtD (ee_callB false cb_len (ea_cons (ee_var 1) ea_nil) h.f_len bb_len) (h.x_MOST _ _ rfl rfl rfl)) (ew_or1 (et_not (et_of (ee_callB false (cb_all rfl) (ea_cons (ee_lc false rfl hN [("deed", 3)] (ei_of (ee_var 1)) (by rfl) (fun _ _ _ _ _ => (eg_name 3 hN)) (fun _ _ _ _ _ => ets_nil) (fun _ _ _ _ _ => (ee_isiB "str" "str" (kb_str _) (ee_var 3) h.f_isinstance h.f_str bb_str))) ea_nil) h.f_all bb_all)))))))
  (ess_one (es_raise rfl tk h.e_BadTale.1 h.g_BadTale h.e_BadTale.2.1 h.e_BadTale.2.2.1 h.e_BadTale.2.2.2))
  ess_nil)
  (ess_cons (es_set 2 hN (ec_callP tk (ok_first_wrong h) (hr.mono (by decide)) h.g_first_wrong h.k_first_wrong (ea_cons (ee_var 0) (ea_cons (ee_var 1) ea_nil))))
  (ess_one (es_ret (ee_if (et_cmp (op_ltD hu) (ee_var 2) ee_int) (ee_make0 h.mk_Right h.g_Right) (ec_make tk h.mk_Wrong (ok_Wrong_init h) (hr.mono (by decide)) h.g_Wrong (ea_cons (ee_var 2) ea_nil))))))))
theorem ok_judged (h : Hd K mg) : FOk P w K mg base 5 (He.ga K "judged") 2 f_judged :=
  fok_of (N := N_judged) (ps := ["lines", "tale"]) m_judged h.F_judged sc_judged rfl rfl bd_judged (b_judged h)
def m_Yard_init : SM := (sSeq (sDrop (eCallP 1 f_check_lines (aCons (eVar 1) aNil)))
  (sSeq (sFldM cs_lines "lines" (eCall true lisG (aCons (eVar 1) aNil)) (eVar 0))
  (sSeq (sFldM cs_here "here" (eCallP 1 f_first_stand (aCons (eVar 1) aNil)) (eVar 0))
  (sSeq (sFldM cs_left "left" (eLst true aNil) (eVar 0))
  (sFldM cs_deeds "deeds" (eLst true aNil) (eVar 0))))))
def f_Yard_init : FM := fnM 0 m_Yard_init
def N_Yard_init : List Str := ["self", "lines"]
theorem sc_Yard_init : FnScope N_Yard_init ["self", "lines"] (defScope s_Yard_init) := ⟨rfl, rfl, rfl, by decide, by decide, by decide, by decide⟩
theorem bd_Yard_init (kV doc pm : Value) (an : Option Addr) (cdv ct : Value) (us : List Value) (hl : us.length = (["self", "lines"] : List Str).length) : bindArgs (PySem.W.fnOf "__init__" "Yard.__init__" (defArgs s_Yard_init) (defBody s_Yard_init) (defScope s_Yard_init) .none kV doc pm an cdv ct) ⟨us, []⟩ = pure ((["self", "lines"] : List Str).zip us) := match us, hl with | [_, _], _ => rfl
theorem b_Yard_init (h : Hd K mg) (cdv : Value) (A : Around) (outer : List Env) (s : Shared) (H : Hp) (E : XK) (hr : Room 4 (A.deeper (envOfC "Yard.__init__" (defScope s_Yard_init) s.heap.objs.size (He.ma K (He.ga K "Yard") "__init__") cdv))) : ESs (cxOf (L2.CX P w) P w K mg base N_Yard_init "Yard.__init__" (defScope s_Yard_init) (He.ma K (He.ga K "Yard") "__init__") cdv A outer s H E) (WD E) (defBody s_Yard_init) m_Yard_init := by
      have hN : N_Yard_init.Nodup := by decide
      have hu := units_of hr
      have hp := passes_of (X := cxOf (L2.CX P w) P w K mg base N_Yard_init "Yard.__init__" (defScope s_Yard_init) (He.ma K (He.ga K "Yard") "__init__") cdv A outer s H E) rfl
      have tk : Takes (cxOf (L2.CX P w) P w K mg base N_Yard_init "Yard.__init__" (defScope s_Yard_init) (He.ma K (He.ga K "Yard") "__init__") cdv A outer s H E) (WD E) := takes_of rfl rfl rfl rfl
      have hc : (cxOf (L2.CX P w) P w K mg base N_Yard_init "Yard.__init__" (defScope s_Yard_init) (He.ma K (He.ga K "Yard") "__init__") cdv A outer s H E).calm = true := rfl
      exact (ess_cons (es_expr (ec_callP tk (ok_check_lines h) (hr.mono (by decide)) h.g_check_lines h.k_check_lines (ea_cons (ee_var 1) ea_nil)))
  (ess_cons (es_fld cs_lines h.at_lines (ee_var 0) (ee_callTy true cb_list (ea_cons (ee_var 1) ea_nil) h.f_list bb_list))
  (ess_cons (es_fld cs_here h.at_here (ee_var 0) (ec_callP tk (ok_first_stand h) (hr.mono (by decide)) h.g_first_stand h.k_first_stand (ea_cons (ee_var 1) ea_nil)))
  (ess_cons (es_fld cs_left h.at_left (ee_var 0) (ee_lst true ea_nil))
  (ess_one (es_fld cs_deeds h.at_deeds (ee_var 0) (ee_lst true ea_nil)))))))
theorem ok_Yard_init (h : Hd K mg) : FOk P w K mg base 5 (He.ma K (He.ga K "Yard") "__init__") 2 f_Yard_init :=
  fok_of (N := N_Yard_init) (ps := ["self", "lines"]) m_Yard_init h.F_Yard_init sc_Yard_init rfl rfl bd_Yard_init (b_Yard_init h)
def m_Yard_do : SM := (sSeq (sIf (tNotD (tOf (eCallP 1 f_is_deed (aCons (eVar 1) aNil))))
  (sRaise "BadDeed")
  sNil)
  (sSeq (sSet 2 (eCallP 3 f_behind (aCons (eFldC cs_lines "lines" (eVar 0)) (aCons (eFldC cs_here "here" (eVar 0)) (aCons (eVar 1) aNil)))))
  (sSeq (sIf (t2 isG (eVar 2) (eC .non))
  (sRaise "CannotBe")
  sNil)
  (sSeq (sIf (t2 eqG (eVar 1) (eC (.str "out")))
  (sDrop (eMt apG (eFldC cs_left "left" (eVar 0)) (e2 false ixG (eFldC cs_here "here" (eVar 0)) (eC (.int 2)))))
  sNil)
  (sSeq (sFldM cs_here "here" (eVar 2) (eVar 0))
  (sSeq (sDrop (eMt apG (eFldC cs_deeds "deeds" (eVar 0)) (eVar 1)))
  (sRet (eFldC cs_here "here" (eVar 0)))))))))
def f_Yard_do : FM := fnM 1 m_Yard_do
def N_Yard_do : List Str := ["self", "deed", "other"]
theorem sc_Yard_do : FnScope N_Yard_do ["self", "deed"] (defScope s_Yard_do) := ⟨rfl, rfl, rfl, by decide, by decide, by decide, by decide⟩
theorem bd_Yard_do (kV doc pm : Value) (an : Option Addr) (cdv ct : Value) (us : List Value) (hl : us.length = (["self", "deed"] : List Str).length) : bindArgs (PySem.W.fnOf "do" "Yard.do" (defArgs s_Yard_do) (defBody s_Yard_do) (defScope s_Yard_do) .none kV doc pm an cdv ct) ⟨us, []⟩ = pure ((["self", "deed"] : List Str).zip us) := match us, hl with | [_, _], _ => rfl
theorem b_Yard_do (h : Hd K mg) (cdv : Value) (A : Around) (outer : List Env) (s : Shared) (H : Hp) (E : XK) (hr : Room 1 (A.deeper (envOfC "Yard.do" (defScope s_Yard_do) s.heap.objs.size (He.ma K (He.ga K "Yard") "do") cdv))) : ESs (cxOf (L2.CX P w) P w K mg base N_Yard_do "Yard.do" (defScope s_Yard_do) (He.ma K (He.ga K "Yard") "do") cdv A outer s H E) (WD E) (defBody s_Yard_do) m_Yard_do := by
      have hN : N_Yard_do.Nodup := by decide
      have hu := units_of hr
      have hp := passes_of (X := cxOf (L2.CX P w) P w K mg base N_Yard_do "Yard.do" (defScope s_Yard_do) (He.ma K (He.ga K "Yard") "do") cdv A outer s H E) rfl
      have tk : Takes (cxOf (L2.CX P w) P w K mg base N_Yard_do "Yard.do" (defScope s_Yard_do) (He.ma K (He.ga K "Yard") "do") cdv A outer s H E) (WD E) := takes_of rfl rfl rfl rfl
      have hc : (cxOf (L2.CX P w) P w K mg base N_Yard_do "Yard.do" (defScope s_Yard_do) (He.ma K (He.ga K "Yard") "do") cdv A outer s H E).calm = true := rfl
      exact (ess_cons (es_if (et_not (et_of (ec_callP tk (ok_is_deed h) (hr.mono (by decide)) h.g_is_deed h.k_is_deed (ea_cons (ee_var 1) ea_nil))))
  (ess_one (es_raise rfl tk h.e_BadDeed.1 h.g_BadDeed h.e_BadDeed.2.1 h.e_BadDeed.2.2.1 h.e_BadDeed.2.2.2))
  ess_nil)
  (ess_cons (es_set 2 hN (ec_callP tk (ok_behind h) (hr.mono (by decide)) h.g_behind h.k_behind (ea_cons (ee_fld cs_lines h.at_lines (ee_var 0)) (ea_cons (ee_fld cs_here h.at_here (ee_var 0)) (ea_cons (ee_var 1) ea_nil)))))
  (ess_cons (es_if (et_cmp op_isD (ee_var 2) ee_non)
  (ess_one (es_raise rfl tk h.e_CannotBe.1 h.g_CannotBe h.e_CannotBe.2.1 h.e_CannotBe.2.2.1 h.e_CannotBe.2.2.2))
  ess_nil)
  (ess_cons (es_if (et_cmp (op_eqDD hu) (ee_var 1) ee_str)
  (ess_one (es_expr (ee_append (ee_fld cs_left h.at_left (ee_var 0)) (ee_sub hu (ee_fld cs_here h.at_here (ee_var 0)) ee_int))))
  ess_nil)
  (ess_cons (es_fld cs_here h.at_here (ee_var 0) (ee_var 2))
  (ess_cons (es_expr (ee_append (ee_fld cs_deeds h.at_deeds (ee_var 0)) (ee_var 1)))
  (ess_one (es_ret (ee_fld cs_here h.at_here (ee_var 0))))))))))
theorem ok_Yard_do (h : Hd K mg) : FOk P w K mg base 2 (He.ma K (He.ga K "Yard") "do") 2 f_Yard_do :=
  fok_of (N := N_Yard_do) (ps := ["self", "deed"]) m_Yard_do h.F_Yard_do sc_Yard_do rfl rfl bd_Yard_do (b_Yard_do h)
def m_Yard_now : SM := (sRet (eFldC cs_here "here" (eVar 0)))
def f_Yard_now : FM := fnM 0 m_Yard_now
def N_Yard_now : List Str := ["self"]
theorem sc_Yard_now : FnScope N_Yard_now ["self"] (defScope s_Yard_now) := ⟨rfl, rfl, rfl, by decide, by decide, by decide, by decide⟩
theorem bd_Yard_now (kV doc pm : Value) (an : Option Addr) (cdv ct : Value) (us : List Value) (hl : us.length = (["self"] : List Str).length) : bindArgs (PySem.W.fnOf "now" "Yard.now" (defArgs s_Yard_now) (defBody s_Yard_now) (defScope s_Yard_now) .none kV doc pm an cdv ct) ⟨us, []⟩ = pure ((["self"] : List Str).zip us) := match us, hl with | [_], _ => rfl
theorem b_Yard_now (h : Hd K mg) (cdv : Value) (A : Around) (outer : List Env) (s : Shared) (H : Hp) (E : XK) (hr : Room 0 (A.deeper (envOfC "Yard.now" (defScope s_Yard_now) s.heap.objs.size (He.ma K (He.ga K "Yard") "now") cdv))) : ESs (cxOf (L2.CX P w) P w K mg base N_Yard_now "Yard.now" (defScope s_Yard_now) (He.ma K (He.ga K "Yard") "now") cdv A outer s H E) (WD E) (defBody s_Yard_now) m_Yard_now := by
      have hN : N_Yard_now.Nodup := by decide
      have hu := units_of hr
      have hp := passes_of (X := cxOf (L2.CX P w) P w K mg base N_Yard_now "Yard.now" (defScope s_Yard_now) (He.ma K (He.ga K "Yard") "now") cdv A outer s H E) rfl
      have tk : Takes (cxOf (L2.CX P w) P w K mg base N_Yard_now "Yard.now" (defScope s_Yard_now) (He.ma K (He.ga K "Yard") "now") cdv A outer s H E) (WD E) := takes_of rfl rfl rfl rfl
      have hc : (cxOf (L2.CX P w) P w K mg base N_Yard_now "Yard.now" (defScope s_Yard_now) (He.ma K (He.ga K "Yard") "now") cdv A outer s H E).calm = true := rfl
      exact (ess_one (es_ret (ee_fld cs_here h.at_here (ee_var 0))))
theorem ok_Yard_now (h : Hd K mg) : FOk P w K mg base 1 (He.ma K (He.ga K "Yard") "now") 1 f_Yard_now :=
  fok_of (N := N_Yard_now) (ps := ["self"]) m_Yard_now h.F_Yard_now sc_Yard_now rfl rfl bd_Yard_now (b_Yard_now h)
def m_Yard_away : SM := (sRet (eCall true lisG (aCons (eFldC cs_left "left" (eVar 0)) aNil)))
def f_Yard_away : FM := fnM 0 m_Yard_away
def N_Yard_away : List Str := ["self"]
theorem sc_Yard_away : FnScope N_Yard_away ["self"] (defScope s_Yard_away) := ⟨rfl, rfl, rfl, by decide, by decide, by decide, by decide⟩
theorem bd_Yard_away (kV doc pm : Value) (an : Option Addr) (cdv ct : Value) (us : List Value) (hl : us.length = (["self"] : List Str).length) : bindArgs (PySem.W.fnOf "away" "Yard.away" (defArgs s_Yard_away) (defBody s_Yard_away) (defScope s_Yard_away) .none kV doc pm an cdv ct) ⟨us, []⟩ = pure ((["self"] : List Str).zip us) := match us, hl with | [_], _ => rfl
theorem b_Yard_away (h : Hd K mg) (cdv : Value) (A : Around) (outer : List Env) (s : Shared) (H : Hp) (E : XK) (hr : Room 0 (A.deeper (envOfC "Yard.away" (defScope s_Yard_away) s.heap.objs.size (He.ma K (He.ga K "Yard") "away") cdv))) : ESs (cxOf (L2.CX P w) P w K mg base N_Yard_away "Yard.away" (defScope s_Yard_away) (He.ma K (He.ga K "Yard") "away") cdv A outer s H E) (WD E) (defBody s_Yard_away) m_Yard_away := by
      have hN : N_Yard_away.Nodup := by decide
      have hu := units_of hr
      have hp := passes_of (X := cxOf (L2.CX P w) P w K mg base N_Yard_away "Yard.away" (defScope s_Yard_away) (He.ma K (He.ga K "Yard") "away") cdv A outer s H E) rfl
      have tk : Takes (cxOf (L2.CX P w) P w K mg base N_Yard_away "Yard.away" (defScope s_Yard_away) (He.ma K (He.ga K "Yard") "away") cdv A outer s H E) (WD E) := takes_of rfl rfl rfl rfl
      have hc : (cxOf (L2.CX P w) P w K mg base N_Yard_away "Yard.away" (defScope s_Yard_away) (He.ma K (He.ga K "Yard") "away") cdv A outer s H E).calm = true := rfl
      exact (ess_one (es_ret (ee_callTy true cb_list (ea_cons (ee_fld cs_left h.at_left (ee_var 0)) ea_nil) h.f_list bb_list)))
theorem ok_Yard_away (h : Hd K mg) : FOk P w K mg base 1 (He.ma K (He.ga K "Yard") "away") 1 f_Yard_away :=
  fok_of (N := N_Yard_away) (ps := ["self"]) m_Yard_away h.F_Yard_away sc_Yard_away rfl rfl bd_Yard_away (b_Yard_away h)
def m_Yard_done : SM := (sRet (eCall true lenG (aCons (eFldC cs_deeds "deeds" (eVar 0)) aNil)))
def f_Yard_done : FM := fnM 0 m_Yard_done
def N_Yard_done : List Str := ["self"]
theorem sc_Yard_done : FnScope N_Yard_done ["self"] (defScope s_Yard_done) := ⟨rfl, rfl, rfl, by decide, by decide, by decide, by decide⟩
theorem bd_Yard_done (kV doc pm : Value) (an : Option Addr) (cdv ct : Value) (us : List Value) (hl : us.length = (["self"] : List Str).length) : bindArgs (PySem.W.fnOf "done" "Yard.done" (defArgs s_Yard_done) (defBody s_Yard_done) (defScope s_Yard_done) .none kV doc pm an cdv ct) ⟨us, []⟩ = pure ((["self"] : List Str).zip us) := match us, hl with | [_], _ => rfl
theorem b_Yard_done (h : Hd K mg) (cdv : Value) (A : Around) (outer : List Env) (s : Shared) (H : Hp) (E : XK) (hr : Room 0 (A.deeper (envOfC "Yard.done" (defScope s_Yard_done) s.heap.objs.size (He.ma K (He.ga K "Yard") "done") cdv))) : ESs (cxOf (L2.CX P w) P w K mg base N_Yard_done "Yard.done" (defScope s_Yard_done) (He.ma K (He.ga K "Yard") "done") cdv A outer s H E) (WD E) (defBody s_Yard_done) m_Yard_done := by
      have hN : N_Yard_done.Nodup := by decide
      have hu := units_of hr
      have hp := passes_of (X := cxOf (L2.CX P w) P w K mg base N_Yard_done "Yard.done" (defScope s_Yard_done) (He.ma K (He.ga K "Yard") "done") cdv A outer s H E) rfl
      have tk : Takes (cxOf (L2.CX P w) P w K mg base N_Yard_done "Yard.done" (defScope s_Yard_done) (He.ma K (He.ga K "Yard") "done") cdv A outer s H E) (WD E) := takes_of rfl rfl rfl rfl
      have hc : (cxOf (L2.CX P w) P w K mg base N_Yard_done "Yard.done" (defScope s_Yard_done) (He.ma K (He.ga K "Yard") "done") cdv A outer s H E).calm = true := rfl
      exact (ess_one (es_ret (ee_callB true cb_len (ea_cons (ee_fld cs_deeds h.at_deeds (ee_var 0)) ea_nil) h.f_len bb_len)))
theorem ok_Yard_done (h : Hd K mg) : FOk P w K mg base 1 (He.ma K (He.ga K "Yard") "done") 1 f_Yard_done :=
  fok_of (N := N_Yard_done) (ps := ["self"]) m_Yard_done h.F_Yard_done sc_Yard_done rfl rfl bd_Yard_done (b_Yard_done h)
def m_Yard_tale : SM := (sRet (eCall true lisG (aCons (eFldC cs_deeds "deeds" (eVar 0)) aNil)))
def f_Yard_tale : FM := fnM 0 m_Yard_tale
def N_Yard_tale : List Str := ["self"]
theorem sc_Yard_tale : FnScope N_Yard_tale ["self"] (defScope s_Yard_tale) := ⟨rfl, rfl, rfl, by decide, by decide, by decide, by decide⟩
theorem bd_Yard_tale (kV doc pm : Value) (an : Option Addr) (cdv ct : Value) (us : List Value) (hl : us.length = (["self"] : List Str).length) : bindArgs (PySem.W.fnOf "tale" "Yard.tale" (defArgs s_Yard_tale) (defBody s_Yard_tale) (defScope s_Yard_tale) .none kV doc pm an cdv ct) ⟨us, []⟩ = pure ((["self"] : List Str).zip us) := match us, hl with | [_], _ => rfl
theorem b_Yard_tale (h : Hd K mg) (cdv : Value) (A : Around) (outer : List Env) (s : Shared) (H : Hp) (E : XK) (hr : Room 0 (A.deeper (envOfC "Yard.tale" (defScope s_Yard_tale) s.heap.objs.size (He.ma K (He.ga K "Yard") "tale") cdv))) : ESs (cxOf (L2.CX P w) P w K mg base N_Yard_tale "Yard.tale" (defScope s_Yard_tale) (He.ma K (He.ga K "Yard") "tale") cdv A outer s H E) (WD E) (defBody s_Yard_tale) m_Yard_tale := by
      have hN : N_Yard_tale.Nodup := by decide
      have hu := units_of hr
      have hp := passes_of (X := cxOf (L2.CX P w) P w K mg base N_Yard_tale "Yard.tale" (defScope s_Yard_tale) (He.ma K (He.ga K "Yard") "tale") cdv A outer s H E) rfl
      have tk : Takes (cxOf (L2.CX P w) P w K mg base N_Yard_tale "Yard.tale" (defScope s_Yard_tale) (He.ma K (He.ga K "Yard") "tale") cdv A outer s H E) (WD E) := takes_of rfl rfl rfl rfl
      have hc : (cxOf (L2.CX P w) P w K mg base N_Yard_tale "Yard.tale" (defScope s_Yard_tale) (He.ma K (He.ga K "Yard") "tale") cdv A outer s H E).calm = true := rfl
      exact (ess_one (es_ret (ee_callTy true cb_list (ea_cons (ee_fld cs_deeds h.at_deeds (ee_var 0)) ea_nil) h.f_list bb_list)))
theorem ok_Yard_tale (h : Hd K mg) : FOk P w K mg base 1 (He.ma K (He.ga K "Yard") "tale") 1 f_Yard_tale :=
  fok_of (N := N_Yard_tale) (ps := ["self"]) m_Yard_tale h.F_Yard_tale sc_Yard_tale rfl rfl bd_Yard_tale (b_Yard_tale h)
def ws__law_word : List (Str × Str) := [("BadCount", "other"), ("BadDeed", "other"), ("BadDeeds", "other"), ("BadLines", "other"), ("BadNumber", "other"), ("BadOrder", "other"), ("BadTale", "other"), ("CannotBe", "not"), ("NotAll", "all")]
def N__law_word : List Str := ["_law_ask", "error"]
theorem sc__law_word : FnScope N__law_word ["_law_ask"] (defScope s__law_word) := ⟨rfl, rfl, rfl, by decide, by decide, by decide, by decide⟩
theorem bd__law_word (kV doc pm : Value) (an : Option Addr) (cdv ct : Value) (us : List Value) (hl : us.length = (["_law_ask"] : List Str).length) : bindArgs (PySem.W.fnOf "_law_word" "_law_word" (defArgs s__law_word) (defBody s__law_word) (defScope s__law_word) .none kV doc pm an cdv ct) ⟨us, []⟩ = pure ((["_law_ask"] : List Str).zip us) := match us, hl with | [_], _ => rfl
theorem gv__law_word {X : Cx} (h : Hd K mg) (e1 : X.K = K) (e2 : X.mg = mg) (qq : Str) (cdg : Value) : LamX.GivesTo X N__law_word "_law_word" (defScope s__law_word) (He.ga X.K "_law_word") cdg (defBody s__law_word) "_law_ask" qq (TTword X.K ws__law_word "none") := by
  subst e1
  subst e2
  exact word_gives (n := "error") (by decide) rfl rfl rfl h.g_BridgeError (by decide) (fun _ => rfl) (List.forall_mem_cons.mpr ⟨h.em_BadCount_BridgeError, List.forall_mem_cons.mpr ⟨h.em_BadDeed_BridgeError, List.forall_mem_cons.mpr ⟨h.em_BadDeeds_BridgeError, List.forall_mem_cons.mpr ⟨h.em_BadLines_BridgeError, List.forall_mem_cons.mpr ⟨h.em_BadNumber_BridgeError, List.forall_mem_cons.mpr ⟨h.em_BadOrder_BridgeError, List.forall_mem_cons.mpr ⟨h.em_BadTale_BridgeError, List.forall_mem_cons.mpr ⟨h.em_CannotBe_BridgeError, List.forall_mem_cons.mpr ⟨h.em_NotAll_BridgeError, fun _ z => nomatch z⟩⟩⟩⟩⟩⟩⟩⟩⟩) (fun s H => List.forall_mem_cons.mpr ⟨fun a oe pn hz hf => hv_ret (hv_ifF (hv_isE h.ec_BadCount hz hf h.ki_BadCount_CannotBe h.f_isinstance h.g_CannotBe) (hv_str (j := none)) (hv_ifF (hv_isE h.ec_BadCount hz hf h.ki_BadCount_NotAll h.f_isinstance h.g_NotAll) (hv_str (j := none)) (hv_str (j := none)))), List.forall_mem_cons.mpr ⟨fun a oe pn hz hf => hv_ret (hv_ifF (hv_isE h.ec_BadDeed hz hf h.ki_BadDeed_CannotBe h.f_isinstance h.g_CannotBe) (hv_str (j := none)) (hv_ifF (hv_isE h.ec_BadDeed hz hf h.ki_BadDeed_NotAll h.f_isinstance h.g_NotAll) (hv_str (j := none)) (hv_str (j := none)))), List.forall_mem_cons.mpr ⟨fun a oe pn hz hf => hv_ret (hv_ifF (hv_isE h.ec_BadDeeds hz hf h.ki_BadDeeds_CannotBe h.f_isinstance h.g_CannotBe) (hv_str (j := none)) (hv_ifF (hv_isE h.ec_BadDeeds hz hf h.ki_BadDeeds_NotAll h.f_isinstance h.g_NotAll) (hv_str (j := none)) (hv_str (j := none)))), List.forall_mem_cons.mpr ⟨fun a oe pn hz hf => hv_ret (hv_ifF (hv_isE h.ec_BadLines hz hf h.ki_BadLines_CannotBe h.f_isinstance h.g_CannotBe) (hv_str (j := none)) (hv_ifF (hv_isE h.ec_BadLines hz hf h.ki_BadLines_NotAll h.f_isinstance h.g_NotAll) (hv_str (j := none)) (hv_str (j := none)))), List.forall_mem_cons.mpr ⟨fun a oe pn hz hf => hv_ret (hv_ifF (hv_isE h.ec_BadNumber hz hf h.ki_BadNumber_CannotBe h.f_isinstance h.g_CannotBe) (hv_str (j := none)) (hv_ifF (hv_isE h.ec_BadNumber hz hf h.ki_BadNumber_NotAll h.f_isinstance h.g_NotAll) (hv_str (j := none)) (hv_str (j := none)))), List.forall_mem_cons.mpr ⟨fun a oe pn hz hf => hv_ret (hv_ifF (hv_isE h.ec_BadOrder hz hf h.ki_BadOrder_CannotBe h.f_isinstance h.g_CannotBe) (hv_str (j := none)) (hv_ifF (hv_isE h.ec_BadOrder hz hf h.ki_BadOrder_NotAll h.f_isinstance h.g_NotAll) (hv_str (j := none)) (hv_str (j := none)))), List.forall_mem_cons.mpr ⟨fun a oe pn hz hf => hv_ret (hv_ifF (hv_isE h.ec_BadTale hz hf h.ki_BadTale_CannotBe h.f_isinstance h.g_CannotBe) (hv_str (j := none)) (hv_ifF (hv_isE h.ec_BadTale hz hf h.ki_BadTale_NotAll h.f_isinstance h.g_NotAll) (hv_str (j := none)) (hv_str (j := none)))), List.forall_mem_cons.mpr ⟨fun a oe pn hz hf => hv_ret (hv_ifT (hv_isE h.ec_CannotBe hz hf h.ki_CannotBe_CannotBe h.f_isinstance h.g_CannotBe) (hv_str (j := none)) (hv_ifF (hv_isE h.ec_CannotBe hz hf h.ki_CannotBe_NotAll h.f_isinstance h.g_NotAll) (hv_str (j := none)) (hv_str (j := none)))), List.forall_mem_cons.mpr ⟨fun a oe pn hz hf => hv_ret (hv_ifF (hv_isE h.ec_NotAll hz hf h.ki_NotAll_CannotBe h.f_isinstance h.g_CannotBe) (hv_str (j := none)) (hv_ifT (hv_isE h.ec_NotAll hz hf h.ki_NotAll_NotAll h.f_isinstance h.g_NotAll) (hv_str (j := none)) (hv_str (j := none)))), fun _ z => nomatch z⟩⟩⟩⟩⟩⟩⟩⟩⟩)
def m__law_three_right : SM := (sSeq (sSet 1 (eLst false (aCons (eTup (aCons (eC (.int 1)) (aCons (eTup aNil) aNil))) (aCons (eTup (aCons (eC (.int 1)) (aCons (eTup (aCons (eC (.int 0)) aNil)) aNil))) (aCons (eTup (aCons (eC (.int 2)) (aCons (eTup aNil) aNil))) aNil)))))
  (sSeq (sIf (t2 neG (eFldC cs_gone "gone" (eCallS 2 f_came (aCons (eVar 1) (aCons (eLst false (aCons (eC (.str "left")) (aCons (eC (.str "left")) (aCons (eC (.str "take")) (aCons (eC (.str "left")) (aCons (eC (.str "out")) aNil)))))) aNil)))) (eLst false (aCons (eC (.int 0)) aNil)))
  (sRet (eC (.bl false)))
  sNil)
  (sSeq (sIf (t2 neG (eFldC cs_stand "stand" (eCallS 2 f_came (aCons (eVar 1) (aCons (eLst false (aCons (eC (.str "right")) (aCons (eC (.str "take")) (aCons (eC (.str "left")) aNil)))) aNil)))) (eTup (aCons (eTup (aCons (eTup aNil) (aCons (eTup aNil) (aCons (eTup aNil) aNil)))) (aCons (eC (.int 0)) (aCons (eC (.int 0)) aNil)))))
  (sRet (eC (.bl false)))
  sNil)
  (sSeq (sIf (t2 neG (eCallP 2 f_fewest (aCons (eVar 1) (aCons (eLst false (aCons (eC (.int 0)) aNil)) aNil))) (eC (.int 4)))
  (sRet (eC (.bl false)))
  sNil)
  (sSeq (sIf (t2 neG (eCallP 1 f_orders (aCons (eVar 1) aNil)) (eLst false (aCons (eTup (aCons (eLst false (aCons (eC (.int 0)) aNil)) (aCons (eC (.int 4)) aNil))) aNil)))
  (sRet (eC (.bl false)))
  sNil)
  (sRet (e2 false eqG (e2 false ixG (eFldC cs_stand "stand" (eCallS 2 f_came (aCons (eVar 1) (aCons (eLst false (aCons (eC (.str "right")) (aCons (eC (.str "right")) (aCons (eC (.str "right")) aNil)))) aNil)))) (eC (.int 1))) (eC (.int 0)))))))))
def f__law_three_right : FM := fnM 1 m__law_three_right
def N__law_three_right : List Str := ["_law_turn", "_law_three"]
theorem sc__law_three_right : FnScope N__law_three_right ["_law_turn"] (defScope s__law_three_right) := ⟨rfl, rfl, rfl, by decide, by decide, by decide, by decide⟩
theorem bd__law_three_right (kV doc pm : Value) (an : Option Addr) (cdv ct : Value) (us : List Value) (hl : us.length = (["_law_turn"] : List Str).length) : bindArgs (PySem.W.fnOf "_law_three_right" "_law_three_right" (defArgs s__law_three_right) (defBody s__law_three_right) (defScope s__law_three_right) .none kV doc pm an cdv ct) ⟨us, []⟩ = pure ((["_law_turn"] : List Str).zip us) := match us, hl with | [_], _ => rfl
theorem b__law_three_right (h : Hd K mg) (cdv : Value) (A : Around) (outer : List Env) (s : Shared) (H : Hp) (E : XK) (hr : Room 6 (A.deeper (envOfC "_law_three_right" (defScope s__law_three_right) s.heap.objs.size (He.ga K "_law_three_right") cdv))) : ESs (cxOf (L2.CX P w) P w K mg base N__law_three_right "_law_three_right" (defScope s__law_three_right) (He.ga K "_law_three_right") cdv A outer s H E) (WD E) (defBody s__law_three_right) m__law_three_right := by
      have hN : N__law_three_right.Nodup := by decide
      have hu := units_of hr
      have hp := passes_of (X := cxOf (L2.CX P w) P w K mg base N__law_three_right "_law_three_right" (defScope s__law_three_right) (He.ga K "_law_three_right") cdv A outer s H E) rfl
      have tk : Takes (cxOf (L2.CX P w) P w K mg base N__law_three_right "_law_three_right" (defScope s__law_three_right) (He.ga K "_law_three_right") cdv A outer s H E) (WD E) := takes_of rfl rfl rfl rfl
      have hc : (cxOf (L2.CX P w) P w K mg base N__law_three_right "_law_three_right" (defScope s__law_three_right) (He.ga K "_law_three_right") cdv A outer s H E).calm = true := rfl
      exact (ess_cons (es_set 1 hN (ee_lst false (ea_cons (ee_tup (ea_cons ee_int (ea_cons (ee_tup ea_nil) ea_nil))) (ea_cons (ee_tup (ea_cons ee_int (ea_cons (ee_tup (ea_cons ee_int ea_nil)) ea_nil))) (ea_cons (ee_tup (ea_cons ee_int (ea_cons (ee_tup ea_nil) ea_nil))) ea_nil)))))
  (ess_cons (es_if (et_cmp (op_neDD hu) (ee_fld cs_gone h.at_gone (ec_callS tk (ok_came h) (hr.mono (by decide)) h.g_came h.k_came (ea_cons (ee_var 1) (ea_cons (ee_lst false (ea_cons ee_str (ea_cons ee_str (ea_cons ee_str (ea_cons ee_str (ea_cons ee_str ea_nil)))))) ea_nil)))) (ee_lst false (ea_cons ee_int ea_nil)))
  (ess_one (es_ret ee_bl))
  ess_nil)
  (ess_cons (es_if (et_cmp (op_neDD hu) (ee_fld cs_stand h.at_stand (ec_callS tk (ok_came h) (hr.mono (by decide)) h.g_came h.k_came (ea_cons (ee_var 1) (ea_cons (ee_lst false (ea_cons ee_str (ea_cons ee_str (ea_cons ee_str ea_nil)))) ea_nil)))) (ee_tup (ea_cons (ee_tup (ea_cons (ee_tup ea_nil) (ea_cons (ee_tup ea_nil) (ea_cons (ee_tup ea_nil) ea_nil)))) (ea_cons ee_int (ea_cons ee_int ea_nil)))))
  (ess_one (es_ret ee_bl))
  ess_nil)
  (ess_cons (es_if (et_cmp (op_neDD hu) (ec_callP tk (ok_fewest h) (hr.mono (by decide)) h.g_fewest h.k_fewest (ea_cons (ee_var 1) (ea_cons (ee_lst false (ea_cons ee_int ea_nil)) ea_nil))) ee_int)
  (ess_one (es_ret ee_bl))
  ess_nil)
  (ess_cons (es_if (et_cmp (op_neDD hu) (ec_callP tk (ok_orders h) (hr.mono (by decide)) h.g_orders h.k_orders (ea_cons (ee_var 1) ea_nil)) (ee_lst false (ea_cons (ee_tup (ea_cons (ee_lst false (ea_cons ee_int ea_nil)) (ea_cons ee_int ea_nil))) ea_nil)))
  (ess_one (es_ret ee_bl))
  ess_nil)
  (ess_one (es_ret (ee_cmp (op_eqDD hu) (ee_sub hu (ee_fld cs_stand h.at_stand (ec_callS tk (ok_came h) (hr.mono (by decide)) h.g_came h.k_came (ea_cons (ee_var 1) (ea_cons (ee_lst false (ea_cons ee_str (ea_cons ee_str (ea_cons ee_str ea_nil)))) ea_nil)))) ee_int) ee_int))))))))
theorem ok__law_three_right (h : Hd K mg) : FOk P w K mg base 7 (He.ga K "_law_three_right") 1 f__law_three_right :=
  fok_of (N := N__law_three_right) (ps := ["_law_turn"]) m__law_three_right h.F__law_three_right sc__law_three_right rfl rfl bd__law_three_right (b__law_three_right h)
def m__law_deeds_right : SM := (sSeq (sPar [1, 2] (aCons (eLst false (aCons (eTup (aCons (eC (.int 1)) (aCons (eTup (aCons (eC (.int 0)) aNil)) aNil))) (aCons (eTup (aCons (eC (.int 1)) (aCons (eTup aNil) aNil))) aNil))) (aCons (eLst false (aCons (eTup (aCons (eC (.int 2)) (aCons (eTup (aCons (eC (.int 0)) (aCons (eC (.int 1)) aNil))) aNil))) (aCons (eTup (aCons (eC (.int 1)) (aCons (eTup aNil) aNil))) aNil))) aNil)))
  (sSeq (sSet 3 (eLst false (aCons (eTup (aCons (eVar 1) (aCons (eLst false (aCons (eC (.str "take")) (aCons (eC (.str "out")) aNil))) (aCons (eTup (aCons (eTup (aCons (eTup aNil) (aCons (eTup aNil) aNil))) (aCons (eC (.int 0)) (aCons (e1 false negG (eC (.int 1))) aNil)))) (aCons (eLst false (aCons (eC (.int 0)) aNil)) aNil))))) aNil)))
  (sSeq (sSet 3 (e2 false addG (eVar 3) (eLst false (aCons (eTup (aCons (eVar 1) (aCons (eLst false (aCons (eC (.str "take")) (aCons (eVar 0) (aCons (eC (.str "put")) aNil)))) (aCons (eTup (aCons (eTup (aCons (eTup aNil) (aCons (eTup (aCons (eC (.int 0)) aNil)) aNil))) (aCons (eC (.int 1)) (aCons (e1 false negG (eC (.int 1))) aNil)))) (aCons (eLst false aNil) aNil))))) aNil))))
  (sSeq (sSet 3 (e2 false addG (eVar 3) (eLst false (aCons (eTup (aCons (eVar 1) (aCons (eLst false aNil) (aCons (eTup (aCons (eTup (aCons (eTup (aCons (eC (.int 0)) aNil)) (aCons (eTup aNil) aNil))) (aCons (eC (.int 0)) (aCons (e1 false negG (eC (.int 1))) aNil)))) (aCons (eLst false aNil) aNil))))) aNil))))
  (sSeq (sSet 3 (e2 false addG (eVar 3) (eLst false (aCons (eTup (aCons (eVar 1) (aCons (eLst false (aCons (eC (.str "take")) (aCons (eVar 0) (aCons (eVar 0) (aCons (eC (.str "out")) (aCons (eVar 0) aNil)))))) (aCons (eTup (aCons (eTup (aCons (eTup aNil) (aCons (eTup aNil) aNil))) (aCons (eC (.int 1)) (aCons (e1 false negG (eC (.int 1))) aNil)))) (aCons (eLst false (aCons (eC (.int 0)) aNil)) aNil))))) aNil))))
  (sSeq (sSet 3 (e2 false addG (eVar 3) (eLst false (aCons (eTup (aCons (eVar 2) (aCons (eLst false (aCons (eC (.str "take")) (aCons (eC (.str "put")) (aCons (eC (.str "take")) (aCons (eVar 0) aNil))))) (aCons (eTup (aCons (eTup (aCons (eTup (aCons (eC (.int 1)) aNil)) (aCons (eTup aNil) aNil))) (aCons (eC (.int 1)) (aCons (eC (.int 0)) aNil)))) (aCons (eLst false aNil) aNil))))) aNil))))
  (sSeq (sSet 3 (e2 false addG (eVar 3) (eLst false (aCons (eTup (aCons (eVar 2) (aCons (eLst false (aCons (eC (.str "take")) (aCons (eVar 0) (aCons (eC (.str "put")) (aCons (eVar 0) (aCons (eC (.str "take")) (aCons (eC (.str "put")) aNil))))))) (aCons (eTup (aCons (eTup (aCons (eTup (aCons (eC (.int 1)) aNil)) (aCons (eTup (aCons (eC (.int 0)) aNil)) aNil))) (aCons (eC (.int 0)) (aCons (e1 false negG (eC (.int 1))) aNil)))) (aCons (eLst false aNil) aNil))))) aNil))))
  (sSeq (sSet 3 (e2 false addG (eVar 3) (eLst false (aCons (eTup (aCons (eVar 2) (aCons (eLst false (aCons (eC (.str "take")) (aCons (eC (.str "out")) (aCons (eC (.str "take")) (aCons (eC (.str "out")) aNil))))) (aCons (eTup (aCons (eTup (aCons (eTup aNil) (aCons (eTup aNil) aNil))) (aCons (eC (.int 0)) (aCons (e1 false negG (eC (.int 1))) aNil)))) (aCons (eLst false (aCons (eC (.int 0)) (aCons (eC (.int 1)) aNil))) aNil))))) aNil))))
  (sSeq (sFor 0 (iOf (eVar 3)) (gbTup (gbCons (gbName 4) (gbCons (gbName 5) (gbCons (gbName 6) (gbCons (gbName 7) gbNil)))))
  (sSeq (sSet 8 (eCallS 2 f_came (aCons (eVar 4) (aCons (eVar 5) aNil))))
  (sSeq (sIf (tNotD (tOf (eIsi (fO is_Came) (eVar 8))))
  (sRet (eC (.bl false)))
  sNil)
  (sSeq (sIf (t2 neG (eTup (aCons (eFldC cs_stand "stand" (eVar 8)) (aCons (eFldC cs_gone "gone" (eVar 8)) aNil))) (eTup (aCons (eVar 6) (aCons (eVar 7) aNil))))
  (sRet (eC (.bl false)))
  sNil)
  (sIf (t2 isNotG (eMethM [("Came", f_Came_shows), ("Barred", f_Barred_shows), ("Right", f_Right_shows), ("Wrong", f_Wrong_shows)] "shows" 3 (eVar 8) (aCons (eVar 4) (aCons (eVar 5) aNil))) (eC (.bl true)))
  (sRet (eC (.bl false)))
  sNil)))))
  (sSeq (sSet 3 (eLst false (aCons (eTup (aCons (eVar 1) (aCons (eLst false (aCons (eC (.str "put")) aNil)) (aCons (eC (.int 0)) aNil)))) (aCons (eTup (aCons (eVar 1) (aCons (eLst false (aCons (eC (.str "take")) (aCons (eC (.str "take")) aNil))) (aCons (eC (.int 1)) aNil)))) aNil))))
  (sSeq (sSet 3 (e2 false addG (eVar 3) (eLst false (aCons (eTup (aCons (eVar 1) (aCons (eLst false (aCons (eC (.str "take")) (aCons (eVar 0) (aCons (eC (.str "out")) aNil)))) (aCons (eC (.int 2)) aNil)))) (aCons (eTup (aCons (eVar 1) (aCons (eLst false (aCons (eVar 0) (aCons (eC (.str "take")) aNil))) (aCons (eC (.int 1)) aNil)))) aNil)))))
  (sSeq (sSet 3 (e2 false addG (eVar 3) (eLst false (aCons (eTup (aCons (eVar 1) (aCons (eLst false (aCons (eC (.str "out")) aNil)) (aCons (eC (.int 0)) aNil)))) (aCons (eTup (aCons (eVar 1) (aCons (eLst false (aCons (eC (.str "take")) (aCons (eC (.str "out")) (aCons (eC (.str "out")) aNil)))) (aCons (eC (.int 2)) aNil)))) aNil)))))
  (sSeq (sSet 3 (e2 false addG (eVar 3) (eLst false (aCons (eTup (aCons (eVar 2) (aCons (eLst false (aCons (eC (.str "take")) (aCons (eVar 0) (aCons (eC (.str "put")) (aCons (eC (.str "take")) (aCons (eVar 0) (aCons (eC (.str "put")) (aCons (eVar 0) (aCons (eC (.str "put")) aNil))))))))) (aCons (eC (.int 7)) aNil)))) aNil))))
  (sSeq (sSet 3 (e2 false addG (eVar 3) (eLst false (aCons (eTup (aCons (eVar 2) (aCons (eLst false (aCons (eC (.str "take")) (aCons (eVar 0) (aCons (eC (.str "put")) (aCons (eVar 0) (aCons (eC (.str "take")) (aCons (eVar 0) (aCons (eC (.str "put")) aNil)))))))) (aCons (eC (.int 6)) aNil)))) aNil))))
  (sSeq (sFor 0 (iOf (eVar 3)) (gbTup (gbCons (gbName 4) (gbCons (gbName 5) (gbCons (gbName 9) gbNil))))
  (sSeq (sSet 8 (eCallS 2 f_came (aCons (eVar 4) (aCons (eVar 5) aNil))))
  (sSeq (sIf (tNotD (tOf (eIsi (fO is_Barred) (eVar 8))))
  (sRet (eC (.bl false)))
  sNil)
  (sSeq (sIf (t2 neG (eFldC cs_place "place" (eVar 8)) (eVar 9))
  (sRet (eC (.bl false)))
  sNil)
  (sSeq (sIf (t2 isNotG (eMethM [("Came", f_Came_shows), ("Barred", f_Barred_shows), ("Right", f_Right_shows), ("Wrong", f_Wrong_shows)] "shows" 3 (eVar 8) (aCons (eVar 4) (aCons (eVar 5) aNil))) (eC (.bl true)))
  (sRet (eC (.bl false)))
  sNil)
  (sIf (t2 isNotG (eMethM [("Came", f_Came_shows), ("Barred", f_Barred_shows), ("Right", f_Right_shows), ("Wrong", f_Wrong_shows)] "shows" 3 (eMake "Barred" 2 f_Barred_init (aCons (e2 false addG (eVar 9) (eC (.int 1))) aNil)) (aCons (eVar 4) (aCons (eVar 5) aNil))) (eC (.bl false)))
  (sRet (eC (.bl false)))
  sNil))))))
  (sRet (eCallP 1 f__law_three_right (aCons (eVar 0) aNil))))))))))))))))))
def f__law_deeds_right : FM := fnM 9 m__law_deeds_right
def N__law_deeds_right : List Str := ["_law_turn", "_law_lines", "_law_two", "_law_rows", "_law_some", "_law_deeds", "_law_stand", "_law_gone", "_law_found", "_law_place"]
theorem sc__law_deeds_right : FnScope N__law_deeds_right ["_law_turn"] (defScope s__law_deeds_right) := ⟨rfl, rfl, rfl, by decide, by decide, by decide, by decide⟩
theorem bd__law_deeds_right (kV doc pm : Value) (an : Option Addr) (cdv ct : Value) (us : List Value) (hl : us.length = (["_law_turn"] : List Str).length) : bindArgs (PySem.W.fnOf "_law_deeds_right" "_law_deeds_right" (defArgs s__law_deeds_right) (defBody s__law_deeds_right) (defScope s__law_deeds_right) .none kV doc pm an cdv ct) ⟨us, []⟩ = pure ((["_law_turn"] : List Str).zip us) := match us, hl with | [_], _ => rfl
theorem b__law_deeds_right (h : Hd K mg) (cdv : Value) (A : Around) (outer : List Env) (s : Shared) (H : Hp) (E : XK) (hr : Room 7 (A.deeper (envOfC "_law_deeds_right" (defScope s__law_deeds_right) s.heap.objs.size (He.ga K "_law_deeds_right") cdv))) : ESs (cxOf (L2.CX P w) P w K mg base N__law_deeds_right "_law_deeds_right" (defScope s__law_deeds_right) (He.ga K "_law_deeds_right") cdv A outer s H E) (WD E) (defBody s__law_deeds_right) m__law_deeds_right := by
      have hN : N__law_deeds_right.Nodup := by decide
      have hu := units_of hr
      have hp := passes_of (X := cxOf (L2.CX P w) P w K mg base N__law_deeds_right "_law_deeds_right" (defScope s__law_deeds_right) (He.ga K "_law_deeds_right") cdv A outer s H E) rfl
      have tk : Takes (cxOf (L2.CX P w) P w K mg base N__law_deeds_right "_law_deeds_right" (defScope s__law_deeds_right) (He.ga K "_law_deeds_right") cdv A outer s H E) (WD E) := takes_of rfl rfl rfl rfl
      have hc : (cxOf (L2.CX P w) P w K mg base N__law_deeds_right "_law_deeds_right" (defScope s__law_deeds_right) (He.ga K "_law_deeds_right") cdv A outer s H E).calm = true := rfl
      exact (ess_cons (es_par (i := 1) (j := 2) rfl hN (ea_cons (ee_lst false (ea_cons (ee_tup (ea_cons ee_int (ea_cons (ee_tup (ea_cons ee_int ea_nil)) ea_nil))) (ea_cons (ee_tup (ea_cons ee_int (ea_cons (ee_tup ea_nil) ea_nil))) ea_nil))) (ea_cons (ee_lst false (ea_cons (ee_tup (ea_cons ee_int (ea_cons (ee_tup (ea_cons ee_int (ea_cons ee_int ea_nil))) ea_nil))) (ea_cons (ee_tup (ea_cons ee_int (ea_cons (ee_tup ea_nil) ea_nil))) ea_nil))) ea_nil)))
  (ess_cons (es_set 3 hN (ee_lst false (ea_cons (ee_tup (ea_cons (ee_var 1) (ea_cons (ee_lst false (ea_cons ee_str (ea_cons ee_str ea_nil))) (ea_cons (ee_tup (ea_cons (ee_tup (ea_cons (ee_tup ea_nil) (ea_cons (ee_tup ea_nil) ea_nil))) (ea_cons ee_int (ea_cons (ee_un (un_negD false) ee_int) ea_nil)))) (ea_cons (ee_lst false (ea_cons ee_int ea_nil)) ea_nil))))) ea_nil)))
  (ess_cons (es_set 3 hN (ee_op op_addD false (ee_var 3) (ee_lst false (ea_cons (ee_tup (ea_cons (ee_var 1) (ea_cons (ee_lst false (ea_cons ee_str (ea_cons (ee_var 0) (ea_cons ee_str ea_nil)))) (ea_cons (ee_tup (ea_cons (ee_tup (ea_cons (ee_tup ea_nil) (ea_cons (ee_tup (ea_cons ee_int ea_nil)) ea_nil))) (ea_cons ee_int (ea_cons (ee_un (un_negD false) ee_int) ea_nil)))) (ea_cons (ee_lst false ea_nil) ea_nil))))) ea_nil))))
  (ess_cons (es_set 3 hN (ee_op op_addD false (ee_var 3) (ee_lst false (ea_cons (ee_tup (ea_cons (ee_var 1) (ea_cons (ee_lst false ea_nil) (ea_cons (ee_tup (ea_cons (ee_tup (ea_cons (ee_tup (ea_cons ee_int ea_nil)) (ea_cons (ee_tup ea_nil) ea_nil))) (ea_cons ee_int (ea_cons (ee_un (un_negD false) ee_int) ea_nil)))) (ea_cons (ee_lst false ea_nil) ea_nil))))) ea_nil))))
  (ess_cons (es_set 3 hN (ee_op op_addD false (ee_var 3) (ee_lst false (ea_cons (ee_tup (ea_cons (ee_var 1) (ea_cons (ee_lst false (ea_cons ee_str (ea_cons (ee_var 0) (ea_cons (ee_var 0) (ea_cons ee_str (ea_cons (ee_var 0) ea_nil)))))) (ea_cons (ee_tup (ea_cons (ee_tup (ea_cons (ee_tup ea_nil) (ea_cons (ee_tup ea_nil) ea_nil))) (ea_cons ee_int (ea_cons (ee_un (un_negD false) ee_int) ea_nil)))) (ea_cons (ee_lst false (ea_cons ee_int ea_nil)) ea_nil))))) ea_nil))))
  (ess_cons (es_set 3 hN (ee_op op_addD false (ee_var 3) (ee_lst false (ea_cons (ee_tup (ea_cons (ee_var 2) (ea_cons (ee_lst false (ea_cons ee_str (ea_cons ee_str (ea_cons ee_str (ea_cons (ee_var 0) ea_nil))))) (ea_cons (ee_tup (ea_cons (ee_tup (ea_cons (ee_tup (ea_cons ee_int ea_nil)) (ea_cons (ee_tup ea_nil) ea_nil))) (ea_cons ee_int (ea_cons ee_int ea_nil)))) (ea_cons (ee_lst false ea_nil) ea_nil))))) ea_nil))))
  (ess_cons (es_set 3 hN (ee_op op_addD false (ee_var 3) (ee_lst false (ea_cons (ee_tup (ea_cons (ee_var 2) (ea_cons (ee_lst false (ea_cons ee_str (ea_cons (ee_var 0) (ea_cons ee_str (ea_cons (ee_var 0) (ea_cons ee_str (ea_cons ee_str ea_nil))))))) (ea_cons (ee_tup (ea_cons (ee_tup (ea_cons (ee_tup (ea_cons ee_int ea_nil)) (ea_cons (ee_tup (ea_cons ee_int ea_nil)) ea_nil))) (ea_cons ee_int (ea_cons (ee_un (un_negD false) ee_int) ea_nil)))) (ea_cons (ee_lst false ea_nil) ea_nil))))) ea_nil))))
  (ess_cons (es_set 3 hN (ee_op op_addD false (ee_var 3) (ee_lst false (ea_cons (ee_tup (ea_cons (ee_var 2) (ea_cons (ee_lst false (ea_cons ee_str (ea_cons ee_str (ea_cons ee_str (ea_cons ee_str ea_nil))))) (ea_cons (ee_tup (ea_cons (ee_tup (ea_cons (ee_tup ea_nil) (ea_cons (ee_tup ea_nil) ea_nil))) (ea_cons ee_int (ea_cons (ee_un (un_negD false) ee_int) ea_nil)))) (ea_cons (ee_lst false (ea_cons ee_int (ea_cons ee_int ea_nil))) ea_nil))))) ea_nil))))
  (ess_cons (es_for 0 hp rfl (ei_of (ee_var 3)) (eg_tup rfl (egs_cons (eg_name 4 hN) (egs_cons (eg_name 5 hN) (egs_cons (eg_name 6 hN) (egs_cons (eg_name 7 hN) egs_nil)))))
  (ess_cons (es_set 8 hN (ec_callS tk (ok_came h) (hr.mono (by decide)) h.g_came h.k_came (ea_cons (ee_var 4) (ea_cons (ee_var 5) ea_nil))))
  (ess_cons (es_if (et_not (et_of (ee_isiO "Came" is_Came h.is_Came (ee_var 8) h.f_isinstance h.g_Came)))
  (ess_one (es_ret ee_bl))
  ess_nil)
  (ess_cons (es_if (et_cmp (op_neDD hu) (ee_tup (ea_cons (ee_fld cs_stand h.at_stand (ee_var 8)) (ea_cons (ee_fld cs_gone h.at_gone (ee_var 8)) ea_nil))) (ee_tup (ea_cons (ee_var 6) (ea_cons (ee_var 7) ea_nil))))
  (ess_one (es_ret ee_bl))
  ess_nil)
  (ess_one (es_if (et_cmp op_isNotD (ee_methS [("Came", f_Came_shows), ("Barred", f_Barred_shows), ("Right", f_Right_shows), ("Wrong", f_Wrong_shows)] tk (List.forall_mem_cons.mpr ⟨meth_of h.c_Came h.me_Came_shows (ok_Came_shows h) (hr.mono (by decide)), List.forall_mem_cons.mpr ⟨meth_of h.c_Barred h.me_Barred_shows (ok_Barred_shows h) (hr.mono (by decide)), List.forall_mem_cons.mpr ⟨meth_of h.c_Right h.me_Right_shows (ok_Right_shows h) (hr.mono (by decide)), List.forall_mem_cons.mpr ⟨meth_of h.c_Wrong h.me_Wrong_shows (ok_Wrong_shows h) (hr.mono (by decide)), fun _ z => nomatch z⟩⟩⟩⟩) (ee_var 8) (ea_cons (ee_var 4) (ea_cons (ee_var 5) ea_nil))) ee_bl)
  (ess_one (es_ret ee_bl))
  ess_nil))))))
  (ess_cons (es_set 3 hN (ee_lst false (ea_cons (ee_tup (ea_cons (ee_var 1) (ea_cons (ee_lst false (ea_cons ee_str ea_nil)) (ea_cons ee_int ea_nil)))) (ea_cons (ee_tup (ea_cons (ee_var 1) (ea_cons (ee_lst false (ea_cons ee_str (ea_cons ee_str ea_nil))) (ea_cons ee_int ea_nil)))) ea_nil))))
  (ess_cons (es_set 3 hN (ee_op op_addD false (ee_var 3) (ee_lst false (ea_cons (ee_tup (ea_cons (ee_var 1) (ea_cons (ee_lst false (ea_cons ee_str (ea_cons (ee_var 0) (ea_cons ee_str ea_nil)))) (ea_cons ee_int ea_nil)))) (ea_cons (ee_tup (ea_cons (ee_var 1) (ea_cons (ee_lst false (ea_cons (ee_var 0) (ea_cons ee_str ea_nil))) (ea_cons ee_int ea_nil)))) ea_nil)))))
  (ess_cons (es_set 3 hN (ee_op op_addD false (ee_var 3) (ee_lst false (ea_cons (ee_tup (ea_cons (ee_var 1) (ea_cons (ee_lst false (ea_cons ee_str ea_nil)) (ea_cons ee_int ea_nil)))) (ea_cons (ee_tup (ea_cons (ee_var 1) (ea_cons (ee_lst false (ea_cons ee_str (ea_cons ee_str (ea_cons ee_str ea_nil)))) (ea_cons ee_int ea_nil)))) ea_nil)))))
  (ess_cons (es_set 3 hN (ee_op op_addD false (ee_var 3) (ee_lst false (ea_cons (ee_tup (ea_cons (ee_var 2) (ea_cons (ee_lst false (ea_cons ee_str (ea_cons (ee_var 0) (ea_cons ee_str (ea_cons ee_str (ea_cons (ee_var 0) (ea_cons ee_str (ea_cons (ee_var 0) (ea_cons ee_str ea_nil))))))))) (ea_cons ee_int ea_nil)))) ea_nil))))
  (ess_cons (es_set 3 hN (ee_op op_addD false (ee_var 3) (ee_lst false (ea_cons (ee_tup (ea_cons (ee_var 2) (ea_cons (ee_lst false (ea_cons ee_str (ea_cons (ee_var 0) (ea_cons ee_str (ea_cons (ee_var 0) (ea_cons ee_str (ea_cons (ee_var 0) (ea_cons ee_str ea_nil)))))))) (ea_cons ee_int ea_nil)))) ea_nil))))
  (ess_cons (es_for 0 hp rfl (ei_of (ee_var 3)) (eg_tup rfl (egs_cons (eg_name 4 hN) (egs_cons (eg_name 5 hN) (egs_cons (eg_name 9 hN) egs_nil))))
  (ess_cons (es_set 8 hN (ec_callS tk (ok_came h) (hr.mono (by decide)) h.g_came h.k_came (ea_cons (ee_var 4) (ea_cons (ee_var 5) ea_nil))))
  (ess_cons (es_if (et_not (et_of (ee_isiO "Barred" is_Barred h.is_Barred (ee_var 8) h.f_isinstance h.g_Barred)))
  (ess_one (es_ret ee_bl))
  ess_nil)
  (ess_cons (es_if (et_cmp (op_neDD hu) (ee_fld cs_place h.at_place (ee_var 8)) (ee_var 9))
  (ess_one (es_ret ee_bl))
  ess_nil)
  (ess_cons (es_if (et_cmp op_isNotD (ee_methS [("Came", f_Came_shows), ("Barred", f_Barred_shows), ("Right", f_Right_shows), ("Wrong", f_Wrong_shows)] tk (List.forall_mem_cons.mpr ⟨meth_of h.c_Came h.me_Came_shows (ok_Came_shows h) (hr.mono (by decide)), List.forall_mem_cons.mpr ⟨meth_of h.c_Barred h.me_Barred_shows (ok_Barred_shows h) (hr.mono (by decide)), List.forall_mem_cons.mpr ⟨meth_of h.c_Right h.me_Right_shows (ok_Right_shows h) (hr.mono (by decide)), List.forall_mem_cons.mpr ⟨meth_of h.c_Wrong h.me_Wrong_shows (ok_Wrong_shows h) (hr.mono (by decide)), fun _ z => nomatch z⟩⟩⟩⟩) (ee_var 8) (ea_cons (ee_var 4) (ea_cons (ee_var 5) ea_nil))) ee_bl)
  (ess_one (es_ret ee_bl))
  ess_nil)
  (ess_one (es_if (et_cmp op_isNotD (ee_methS [("Came", f_Came_shows), ("Barred", f_Barred_shows), ("Right", f_Right_shows), ("Wrong", f_Wrong_shows)] tk (List.forall_mem_cons.mpr ⟨meth_of h.c_Came h.me_Came_shows (ok_Came_shows h) (hr.mono (by decide)), List.forall_mem_cons.mpr ⟨meth_of h.c_Barred h.me_Barred_shows (ok_Barred_shows h) (hr.mono (by decide)), List.forall_mem_cons.mpr ⟨meth_of h.c_Right h.me_Right_shows (ok_Right_shows h) (hr.mono (by decide)), List.forall_mem_cons.mpr ⟨meth_of h.c_Wrong h.me_Wrong_shows (ok_Wrong_shows h) (hr.mono (by decide)), fun _ z => nomatch z⟩⟩⟩⟩) (ec_make tk h.mk_Barred (ok_Barred_init h) (hr.mono (by decide)) h.g_Barred (ea_cons (ee_op op_addD false (ee_var 9) ee_int) ea_nil)) (ea_cons (ee_var 4) (ea_cons (ee_var 5) ea_nil))) ee_bl)
  (ess_one (es_ret ee_bl))
  ess_nil)))))))
  (ess_one (es_ret (ec_callP tk (ok__law_three_right h) (hr.mono (by decide)) h.g__law_three_right h.k__law_three_right (ea_cons (ee_var 0) ea_nil)))))))))))))))))))
theorem ok__law_deeds_right (h : Hd K mg) : FOk P w K mg base 8 (He.ga K "_law_deeds_right") 1 f__law_deeds_right :=
  fok_of (N := N__law_deeds_right) (ps := ["_law_turn"]) m__law_deeds_right h.F__law_deeds_right sc__law_deeds_right rfl rfl bd__law_deeds_right (b__law_deeds_right h)
def m__law_within_right : SM := (sSeq (sSet 4 (eLst false (aCons (eC (.str "take")) (aCons (eVar 0) (aCons (eC (.str "put")) (aCons (eVar 0) (aCons (eC (.str "take")) (aCons (eC (.str "out")) (aCons (eVar 0) (aCons (eC (.str "take")) (aCons (eVar 0) (aCons (eC (.str "out")) aNil))))))))))))
  (sSeq (sSet 5 (eLst false (aCons (eTup (aCons (eLst false (aCons (eC (.str "take")) (aCons (eC (.str "out")) (aCons (eC (.str "take")) (aCons (eC (.str "out")) aNil))))) (aCons (eLst false (aCons (eC (.int 0)) (aCons (eC (.int 1)) aNil))) (aCons (eC (.int 4)) (aCons (eC (.bl true)) aNil))))) aNil)))
  (sSeq (sSet 5 (e2 false addG (eVar 5) (eLst false (aCons (eTup (aCons (eLst false (aCons (eC (.str "take")) (aCons (eC (.str "out")) (aCons (eC (.str "take")) (aCons (eC (.str "out")) aNil))))) (aCons (eLst false (aCons (eC (.int 0)) (aCons (eC (.int 1)) aNil))) (aCons (eC (.int 3)) (aCons (eC (.bl false)) aNil))))) aNil))))
  (sSeq (sSet 5 (e2 false addG (eVar 5) (eLst false (aCons (eTup (aCons (eLst false (aCons (eC (.str "take")) (aCons (eC (.str "out")) (aCons (eC (.str "take")) (aCons (eC (.str "out")) aNil))))) (aCons (eLst false (aCons (eC (.int 0)) (aCons (eC (.int 1)) aNil))) (aCons (eC (.int 60)) (aCons (eC (.bl true)) aNil))))) aNil))))
  (sSeq (sSet 5 (e2 false addG (eVar 5) (eLst false (aCons (eTup (aCons (eLst false (aCons (eC (.str "take")) (aCons (eC (.str "out")) (aCons (eC (.str "take")) (aCons (eC (.str "out")) aNil))))) (aCons (eLst false (aCons (eC (.int 1)) (aCons (eC (.int 0)) aNil))) (aCons (eC (.int 60)) (aCons (eC (.bl false)) aNil))))) aNil))))
  (sSeq (sSet 5 (e2 false addG (eVar 5) (eLst false (aCons (eTup (aCons (eVar 4) (aCons (eLst false (aCons (eC (.int 1)) (aCons (eC (.int 0)) aNil))) (aCons (eC (.int 10)) (aCons (eC (.bl true)) aNil))))) (aCons (eTup (aCons (eVar 4) (aCons (eLst false (aCons (eC (.int 1)) (aCons (eC (.int 0)) aNil))) (aCons (eC (.int 9)) (aCons (eC (.bl false)) aNil))))) aNil)))))
  (sSeq (sSet 5 (e2 false addG (eVar 5) (eLst false (aCons (eTup (aCons (e2 false addG (eVar 4) (eLst false (aCons (eVar 0) aNil))) (aCons (eLst false (aCons (eC (.int 1)) (aCons (eC (.int 0)) aNil))) (aCons (eC (.int 60)) (aCons (eC (.bl false)) aNil))))) (aCons (eTup (aCons (eSl false (eVar 4) oNone (oSome (e1 false negG (eC (.int 1))))) (aCons (eLst false (aCons (eC (.int 1)) (aCons (eC (.int 0)) aNil))) (aCons (eC (.int 60)) (aCons (eC (.bl false)) aNil))))) aNil)))))
  (sSeq (sSet 5 (e2 false addG (eVar 5) (eLst false (aCons (eTup (aCons (eLst false (aCons (eC (.str "go")) aNil)) (aCons (eLst false (aCons (eC (.int 0)) (aCons (eC (.int 1)) aNil))) (aCons (eC (.int 9)) (aCons (eC (.bl false)) aNil))))) (aCons (eTup (aCons (eLst false aNil) (aCons (eLst false (aCons (eC (.int 0)) (aCons (eC (.int 1)) aNil))) (aCons (eC (.int 9)) (aCons (eC (.bl false)) aNil))))) aNil)))))
  (sSeq (sSet 5 (e2 false addG (eVar 5) (eLst false (aCons (eTup (aCons (e2 false addG (eLst false (aCons (eVar 0) (aCons (eVar 0) aNil))) (eVar 4)) (aCons (eLst false (aCons (eC (.int 1)) (aCons (eC (.int 0)) aNil))) (aCons (eC (.int 12)) (aCons (eC (.bl true)) aNil))))) aNil))))
  (sSeq (sFor 0 (iOf (eVar 5)) (gbTup (gbCons (gbName 6) (gbCons (gbName 7) (gbCons (gbName 8) (gbCons (gbName 9) gbNil)))))
  (sIf (t2 neG (eMethM [("Within", f_Within_shows), ("Beyond", f_Beyond_shows)] "shows" 4 (eMake "Within" 2 f_Within_init (aCons (eVar 6) aNil)) (aCons (eVar 2) (aCons (eVar 7) (aCons (eVar 8) aNil)))) (eVar 9))
  (sRet (eC (.bl false)))
  sNil))
  (sSeq (sSet 5 (eLst false (aCons (eTup (aCons (eLst false (aCons (eC (.int 0)) (aCons (eC (.int 1)) aNil))) (aCons (eC (.int 4)) (aCons (eC (.bl true)) aNil)))) (aCons (eTup (aCons (eLst false (aCons (eC (.int 0)) (aCons (eC (.int 1)) aNil))) (aCons (eC (.int 3)) (aCons (eC (.bl false)) aNil)))) (aCons (eTup (aCons (eLst false (aCons (eC (.int 1)) (aCons (eC (.int 0)) aNil))) (aCons (eC (.int 10)) (aCons (eC (.bl true)) aNil)))) aNil)))))
  (sSeq (sSet 5 (e2 false addG (eVar 5) (eLst false (aCons (eTup (aCons (eLst false (aCons (eC (.int 1)) (aCons (eC (.int 0)) aNil))) (aCons (eC (.int 9)) (aCons (eC (.bl false)) aNil)))) (aCons (eTup (aCons (eLst false (aCons (eC (.int 1)) (aCons (eC (.int 0)) aNil))) (aCons (eC (.int 0)) (aCons (eC (.bl false)) aNil)))) aNil)))))
  (sSeq (sFor 0 (iOf (eVar 5)) (gbTup (gbCons (gbName 7) (gbCons (gbName 8) (gbCons (gbName 10) gbNil))))
  (sSeq (sSet 11 (eCallS 3 f_within (aCons (eVar 2) (aCons (eVar 7) (aCons (eVar 8) aNil)))))
  (sIf (tOrD (t2 neG (eIsi (fO is_Within) (eVar 11)) (eVar 10)) (t2 isNotG (eMethM [("Within", f_Within_shows), ("Beyond", f_Beyond_shows)] "shows" 4 (eVar 11) (aCons (eVar 2) (aCons (eVar 7) (aCons (eVar 8) aNil)))) (eC (.bl true))))
  (sRet (eC (.bl false)))
  sNil)))
  (sSeq (sSet 11 (eCallS 3 f_within (aCons (eVar 3) (aCons (eLst false (aCons (eC (.int 1)) (aCons (eC (.int 0)) (aCons (eC (.int 2)) aNil)))) (aCons (eC (.int 60)) aNil)))))
  (sSeq (sIf (tNotD (tOf (eIsi (fO is_Beyond) (eVar 11))))
  (sRet (eC (.bl false)))
  sNil)
  (sSeq (sIf (t2 isNotG (eMethM [("Within", f_Within_shows), ("Beyond", f_Beyond_shows)] "shows" 4 (eVar 11) (aCons (eVar 3) (aCons (eLst false (aCons (eC (.int 1)) (aCons (eC (.int 0)) (aCons (eC (.int 2)) aNil)))) (aCons (eC (.int 60)) aNil)))) (eC (.bl true)))
  (sRet (eC (.bl false)))
  sNil)
  (sSeq (sIf (t2 isNotG (eMethM [("Within", f_Within_shows), ("Beyond", f_Beyond_shows)] "shows" 4 (eMake "Beyond" 2 f_Beyond_init (aCons (eLst false aNil) aNil)) (aCons (eVar 3) (aCons (eLst false (aCons (eC (.int 1)) (aCons (eC (.int 0)) (aCons (eC (.int 2)) aNil)))) (aCons (eC (.int 60)) aNil)))) (eC (.bl false)))
  (sRet (eC (.bl false)))
  sNil)
  (sSeq (sIf (t2 isNotG (eMethM [("Within", f_Within_shows), ("Beyond", f_Beyond_shows)] "shows" 4 (eMake "Beyond" 2 f_Beyond_init (aCons (eLst false aNil) aNil)) (aCons (eVar 1) (aCons (eLst false (aCons (eC (.int 0)) aNil)) (aCons (eC (.int 1)) aNil)))) (eC (.bl false)))
  (sRet (eC (.bl false)))
  sNil)
  (sRet (e2 false isG (eMethM [("Within", f_Within_shows), ("Beyond", f_Beyond_shows)] "shows" 4 (eMake "Beyond" 2 f_Beyond_init (aCons (eFldC cs_heights "heights" (eCallS 3 f_within (aCons (eVar 1) (aCons (eLst false (aCons (eC (.int 0)) aNil)) (aCons (eC (.int 1)) aNil))))) aNil)) (aCons (eVar 1) (aCons (eLst false (aCons (eC (.int 0)) aNil)) (aCons (eC (.int 2)) aNil)))) (eC (.bl false))))))))))))))))))))))
def f__law_within_right : FM := fnM 8 m__law_within_right
def N__law_within_right : List Str := ["_law_turn", "_law_lines", "_law_two", "_law_full", "_law_away", "_law_rows", "_law_deeds", "_law_order", "_law_many", "_law_due", "_law_is_within", "_law_found"]
theorem sc__law_within_right : FnScope N__law_within_right ["_law_turn", "_law_lines", "_law_two", "_law_full"] (defScope s__law_within_right) := ⟨rfl, rfl, rfl, by decide, by decide, by decide, by decide⟩
theorem bd__law_within_right (kV doc pm : Value) (an : Option Addr) (cdv ct : Value) (us : List Value) (hl : us.length = (["_law_turn", "_law_lines", "_law_two", "_law_full"] : List Str).length) : bindArgs (PySem.W.fnOf "_law_within_right" "_law_within_right" (defArgs s__law_within_right) (defBody s__law_within_right) (defScope s__law_within_right) .none kV doc pm an cdv ct) ⟨us, []⟩ = pure ((["_law_turn", "_law_lines", "_law_two", "_law_full"] : List Str).zip us) := match us, hl with | [_, _, _, _], _ => rfl
theorem b__law_within_right (h : Hd K mg) (cdv : Value) (A : Around) (outer : List Env) (s : Shared) (H : Hp) (E : XK) (hr : Room 6 (A.deeper (envOfC "_law_within_right" (defScope s__law_within_right) s.heap.objs.size (He.ga K "_law_within_right") cdv))) : ESs (cxOf (L2.CX P w) P w K mg base N__law_within_right "_law_within_right" (defScope s__law_within_right) (He.ga K "_law_within_right") cdv A outer s H E) (WD E) (defBody s__law_within_right) m__law_within_right := by
      have hN : N__law_within_right.Nodup := by decide
      have hu := units_of hr
      have hp := passes_of (X := cxOf (L2.CX P w) P w K mg base N__law_within_right "_law_within_right" (defScope s__law_within_right) (He.ga K "_law_within_right") cdv A outer s H E) rfl
      have tk : Takes (cxOf (L2.CX P w) P w K mg base N__law_within_right "_law_within_right" (defScope s__law_within_right) (He.ga K "_law_within_right") cdv A outer s H E) (WD E) := takes_of rfl rfl rfl rfl
      have hc : (cxOf (L2.CX P w) P w K mg base N__law_within_right "_law_within_right" (defScope s__law_within_right) (He.ga K "_law_within_right") cdv A outer s H E).calm = true := rfl
      exact (ess_cons (es_set 4 hN (ee_lst false (ea_cons ee_str (ea_cons (ee_var 0) (ea_cons ee_str (ea_cons (ee_var 0) (ea_cons ee_str (ea_cons ee_str (ea_cons (ee_var 0) (ea_cons ee_str (ea_cons (ee_var 0) (ea_cons ee_str ea_nil))))))))))))
  (ess_cons (es_set 5 hN (ee_lst false (ea_cons (ee_tup (ea_cons (ee_lst false (ea_cons ee_str (ea_cons ee_str (ea_cons ee_str (ea_cons ee_str ea_nil))))) (ea_cons (ee_lst false (ea_cons ee_int (ea_cons ee_int ea_nil))) (ea_cons ee_int (ea_cons ee_bl ea_nil))))) ea_nil)))
  (ess_cons (es_set 5 hN (ee_op op_addD false (ee_var 5) (ee_lst false (ea_cons (ee_tup (ea_cons (ee_lst false (ea_cons ee_str (ea_cons ee_str (ea_cons ee_str (ea_cons ee_str ea_nil))))) (ea_cons (ee_lst false (ea_cons ee_int (ea_cons ee_int ea_nil))) (ea_cons ee_int (ea_cons ee_bl ea_nil))))) ea_nil))))
  (ess_cons (es_set 5 hN (ee_op op_addD false (ee_var 5) (ee_lst false (ea_cons (ee_tup (ea_cons (ee_lst false (ea_cons ee_str (ea_cons ee_str (ea_cons ee_str (ea_cons ee_str ea_nil))))) (ea_cons (ee_lst false (ea_cons ee_int (ea_cons ee_int ea_nil))) (ea_cons ee_int (ea_cons ee_bl ea_nil))))) ea_nil))))
  (ess_cons (es_set 5 hN (ee_op op_addD false (ee_var 5) (ee_lst false (ea_cons (ee_tup (ea_cons (ee_lst false (ea_cons ee_str (ea_cons ee_str (ea_cons ee_str (ea_cons ee_str ea_nil))))) (ea_cons (ee_lst false (ea_cons ee_int (ea_cons ee_int ea_nil))) (ea_cons ee_int (ea_cons ee_bl ea_nil))))) ea_nil))))
  (ess_cons (es_set 5 hN (ee_op op_addD false (ee_var 5) (ee_lst false (ea_cons (ee_tup (ea_cons (ee_var 4) (ea_cons (ee_lst false (ea_cons ee_int (ea_cons ee_int ea_nil))) (ea_cons ee_int (ea_cons ee_bl ea_nil))))) (ea_cons (ee_tup (ea_cons (ee_var 4) (ea_cons (ee_lst false (ea_cons ee_int (ea_cons ee_int ea_nil))) (ea_cons ee_int (ea_cons ee_bl ea_nil))))) ea_nil)))))
  (ess_cons (es_set 5 hN (ee_op op_addD false (ee_var 5) (ee_lst false (ea_cons (ee_tup (ea_cons (ee_op op_addD false (ee_var 4) (ee_lst false (ea_cons (ee_var 0) ea_nil))) (ea_cons (ee_lst false (ea_cons ee_int (ea_cons ee_int ea_nil))) (ea_cons ee_int (ea_cons ee_bl ea_nil))))) (ea_cons (ee_tup (ea_cons (ee_sl false (ee_var 4) eo_none (eo_some (ee_un (un_negD false) ee_int))) (ea_cons (ee_lst false (ea_cons ee_int (ea_cons ee_int ea_nil))) (ea_cons ee_int (ea_cons ee_bl ea_nil))))) ea_nil)))))
  (ess_cons (es_set 5 hN (ee_op op_addD false (ee_var 5) (ee_lst false (ea_cons (ee_tup (ea_cons (ee_lst false (ea_cons ee_str ea_nil)) (ea_cons (ee_lst false (ea_cons ee_int (ea_cons ee_int ea_nil))) (ea_cons ee_int (ea_cons ee_bl ea_nil))))) (ea_cons (ee_tup (ea_cons (ee_lst false ea_nil) (ea_cons (ee_lst false (ea_cons ee_int (ea_cons ee_int ea_nil))) (ea_cons ee_int (ea_cons ee_bl ea_nil))))) ea_nil)))))
  (ess_cons (es_set 5 hN (ee_op op_addD false (ee_var 5) (ee_lst false (ea_cons (ee_tup (ea_cons (ee_op op_addD false (ee_lst false (ea_cons (ee_var 0) (ea_cons (ee_var 0) ea_nil))) (ee_var 4)) (ea_cons (ee_lst false (ea_cons ee_int (ea_cons ee_int ea_nil))) (ea_cons ee_int (ea_cons ee_bl ea_nil))))) ea_nil))))
  (ess_cons (es_for 0 hp rfl (ei_of (ee_var 5)) (eg_tup rfl (egs_cons (eg_name 6 hN) (egs_cons (eg_name 7 hN) (egs_cons (eg_name 8 hN) (egs_cons (eg_name 9 hN) egs_nil)))))
  (ess_one (es_if (et_cmp (op_neDD hu) (ee_methS [("Within", f_Within_shows), ("Beyond", f_Beyond_shows)] tk (List.forall_mem_cons.mpr ⟨meth_of h.c_Within h.me_Within_shows (ok_Within_shows h) (hr.mono (by decide)), List.forall_mem_cons.mpr ⟨meth_of h.c_Beyond h.me_Beyond_shows (ok_Beyond_shows h) (hr.mono (by decide)), fun _ z => nomatch z⟩⟩) (ec_make tk h.mk_Within (ok_Within_init h) (hr.mono (by decide)) h.g_Within (ea_cons (ee_var 6) ea_nil)) (ea_cons (ee_var 2) (ea_cons (ee_var 7) (ea_cons (ee_var 8) ea_nil)))) (ee_var 9))
  (ess_one (es_ret ee_bl))
  ess_nil)))
  (ess_cons (es_set 5 hN (ee_lst false (ea_cons (ee_tup (ea_cons (ee_lst false (ea_cons ee_int (ea_cons ee_int ea_nil))) (ea_cons ee_int (ea_cons ee_bl ea_nil)))) (ea_cons (ee_tup (ea_cons (ee_lst false (ea_cons ee_int (ea_cons ee_int ea_nil))) (ea_cons ee_int (ea_cons ee_bl ea_nil)))) (ea_cons (ee_tup (ea_cons (ee_lst false (ea_cons ee_int (ea_cons ee_int ea_nil))) (ea_cons ee_int (ea_cons ee_bl ea_nil)))) ea_nil)))))
  (ess_cons (es_set 5 hN (ee_op op_addD false (ee_var 5) (ee_lst false (ea_cons (ee_tup (ea_cons (ee_lst false (ea_cons ee_int (ea_cons ee_int ea_nil))) (ea_cons ee_int (ea_cons ee_bl ea_nil)))) (ea_cons (ee_tup (ea_cons (ee_lst false (ea_cons ee_int (ea_cons ee_int ea_nil))) (ea_cons ee_int (ea_cons ee_bl ea_nil)))) ea_nil)))))
  (ess_cons (es_for 0 hp rfl (ei_of (ee_var 5)) (eg_tup rfl (egs_cons (eg_name 7 hN) (egs_cons (eg_name 8 hN) (egs_cons (eg_name 10 hN) egs_nil))))
  (ess_cons (es_set 11 hN (ec_callS tk (ok_within h) (hr.mono (by decide)) h.g_within h.k_within (ea_cons (ee_var 2) (ea_cons (ee_var 7) (ea_cons (ee_var 8) ea_nil)))))
  (ess_one (es_if (et_w (ew_or (et_cmp (op_neDD hu) (ee_isiO "Within" is_Within h.is_Within (ee_var 11) h.f_isinstance h.g_Within) (ee_var 10)) (ew_or1 (et_cmp op_isNotD (ee_methS [("Within", f_Within_shows), ("Beyond", f_Beyond_shows)] tk (List.forall_mem_cons.mpr ⟨meth_of h.c_Within h.me_Within_shows (ok_Within_shows h) (hr.mono (by decide)), List.forall_mem_cons.mpr ⟨meth_of h.c_Beyond h.me_Beyond_shows (ok_Beyond_shows h) (hr.mono (by decide)), fun _ z => nomatch z⟩⟩) (ee_var 11) (ea_cons (ee_var 2) (ea_cons (ee_var 7) (ea_cons (ee_var 8) ea_nil)))) ee_bl))))
  (ess_one (es_ret ee_bl))
  ess_nil))))
  (ess_cons (es_set 11 hN (ec_callS tk (ok_within h) (hr.mono (by decide)) h.g_within h.k_within (ea_cons (ee_var 3) (ea_cons (ee_lst false (ea_cons ee_int (ea_cons ee_int (ea_cons ee_int ea_nil)))) (ea_cons ee_int ea_nil)))))
  (ess_cons (es_if (et_not (et_of (ee_isiO "Beyond" is_Beyond h.is_Beyond (ee_var 11) h.f_isinstance h.g_Beyond)))
  (ess_one (es_ret ee_bl))
  ess_nil)
  (ess_cons (es_if (et_cmp op_isNotD (ee_methS [("Within", f_Within_shows), ("Beyond", f_Beyond_shows)] tk (List.forall_mem_cons.mpr ⟨meth_of h.c_Within h.me_Within_shows (ok_Within_shows h) (hr.mono (by decide)), List.forall_mem_cons.mpr ⟨meth_of h.c_Beyond h.me_Beyond_shows (ok_Beyond_shows h) (hr.mono (by decide)), fun _ z => nomatch z⟩⟩) (ee_var 11) (ea_cons (ee_var 3) (ea_cons (ee_lst false (ea_cons ee_int (ea_cons ee_int (ea_cons ee_int ea_nil)))) (ea_cons ee_int ea_nil)))) ee_bl)
  (ess_one (es_ret ee_bl))
  ess_nil)
  (ess_cons (es_if (et_cmp op_isNotD (ee_methS [("Within", f_Within_shows), ("Beyond", f_Beyond_shows)] tk (List.forall_mem_cons.mpr ⟨meth_of h.c_Within h.me_Within_shows (ok_Within_shows h) (hr.mono (by decide)), List.forall_mem_cons.mpr ⟨meth_of h.c_Beyond h.me_Beyond_shows (ok_Beyond_shows h) (hr.mono (by decide)), fun _ z => nomatch z⟩⟩) (ec_make tk h.mk_Beyond (ok_Beyond_init h) (hr.mono (by decide)) h.g_Beyond (ea_cons (ee_lst false ea_nil) ea_nil)) (ea_cons (ee_var 3) (ea_cons (ee_lst false (ea_cons ee_int (ea_cons ee_int (ea_cons ee_int ea_nil)))) (ea_cons ee_int ea_nil)))) ee_bl)
  (ess_one (es_ret ee_bl))
  ess_nil)
  (ess_cons (es_if (et_cmp op_isNotD (ee_methS [("Within", f_Within_shows), ("Beyond", f_Beyond_shows)] tk (List.forall_mem_cons.mpr ⟨meth_of h.c_Within h.me_Within_shows (ok_Within_shows h) (hr.mono (by decide)), List.forall_mem_cons.mpr ⟨meth_of h.c_Beyond h.me_Beyond_shows (ok_Beyond_shows h) (hr.mono (by decide)), fun _ z => nomatch z⟩⟩) (ec_make tk h.mk_Beyond (ok_Beyond_init h) (hr.mono (by decide)) h.g_Beyond (ea_cons (ee_lst false ea_nil) ea_nil)) (ea_cons (ee_var 1) (ea_cons (ee_lst false (ea_cons ee_int ea_nil)) (ea_cons ee_int ea_nil)))) ee_bl)
  (ess_one (es_ret ee_bl))
  ess_nil)
  (ess_one (es_ret (ee_cmp op_isD (ee_methS [("Within", f_Within_shows), ("Beyond", f_Beyond_shows)] tk (List.forall_mem_cons.mpr ⟨meth_of h.c_Within h.me_Within_shows (ok_Within_shows h) (hr.mono (by decide)), List.forall_mem_cons.mpr ⟨meth_of h.c_Beyond h.me_Beyond_shows (ok_Beyond_shows h) (hr.mono (by decide)), fun _ z => nomatch z⟩⟩) (ec_make tk h.mk_Beyond (ok_Beyond_init h) (hr.mono (by decide)) h.g_Beyond (ea_cons (ee_fld cs_heights h.at_heights (ec_callS tk (ok_within h) (hr.mono (by decide)) h.g_within h.k_within (ea_cons (ee_var 1) (ea_cons (ee_lst false (ea_cons ee_int ea_nil)) (ea_cons ee_int ea_nil))))) ea_nil)) (ea_cons (ee_var 1) (ea_cons (ee_lst false (ea_cons ee_int ea_nil)) (ea_cons ee_int ea_nil)))) ee_bl)))))))))))))))))))))
theorem ok__law_within_right (h : Hd K mg) : FOk P w K mg base 7 (He.ga K "_law_within_right") 4 f__law_within_right :=
  fok_of (N := N__law_within_right) (ps := ["_law_turn", "_law_lines", "_law_two", "_law_full"]) m__law_within_right h.F__law_within_right sc__law_within_right rfl rfl bd__law_within_right (b__law_within_right h)
def m__law_orders_right : SM := (sSeq (sPar [1, 2, 3] (aCons (eLst false (aCons (eTup (aCons (eC (.int 1)) (aCons (eTup (aCons (eC (.int 0)) aNil)) aNil))) (aCons (eTup (aCons (eC (.int 1)) (aCons (eTup aNil) aNil))) aNil))) (aCons (eLst false (aCons (eTup (aCons (eC (.int 2)) (aCons (eTup (aCons (eC (.int 0)) (aCons (eC (.int 1)) aNil))) aNil))) (aCons (eTup (aCons (eC (.int 1)) (aCons (eTup aNil) aNil))) aNil))) (aCons (eLst false (aCons (eTup (aCons (eC (.int 2)) (aCons (eTup (aCons (eC (.int 0)) (aCons (eC (.int 1)) aNil))) aNil))) (aCons (eTup (aCons (eC (.int 1)) (aCons (eTup (aCons (eC (.int 2)) aNil)) aNil))) aNil))) aNil))))
  (sSeq (sIf (t2 neG (eLst false (aCons (eCallP 1 f_orders (aCons (eVar 1) aNil)) (aCons (eCallP 1 f_orders (aCons (eVar 2) aNil)) aNil))) (eLst false (aCons (eLst false (aCons (eTup (aCons (eLst false (aCons (eC (.int 0)) aNil)) (aCons (eC (.int 2)) aNil))) aNil)) (aCons (eLst false (aCons (eTup (aCons (eLst false (aCons (eC (.int 0)) (aCons (eC (.int 1)) aNil))) (aCons (eC (.int 4)) aNil))) (aCons (eTup (aCons (eLst false (aCons (eC (.int 1)) (aCons (eC (.int 0)) aNil))) (aCons (eC (.int 10)) aNil))) aNil))) aNil))))
  (sRet (eC (.bl false)))
  sNil)
  (sSeq (sIf (t2 isNotG (eCallP 2 f_fewest (aCons (eVar 3) (aCons (eLst false (aCons (eC (.int 1)) (aCons (eC (.int 0)) (aCons (eC (.int 2)) aNil)))) aNil))) (eC .non))
  (sRet (eC (.bl false)))
  sNil)
  (sSeq (sSet 4 (eLc false (iOf (eCallP 1 f_orders (aCons (eVar 3) aNil))) (gbTup (gbCons (gbName 5) (gbCons (gbName 6) gbNil))) tYesD (eVar 5) [5, 6]))
  (sSeq (sIf (t2 inG (eLst false (aCons (eC (.int 1)) (aCons (eC (.int 0)) (aCons (eC (.int 2)) aNil)))) (eVar 4))
  (sRet (eC (.bl false)))
  sNil)
  (sSeq (sIf (t2 inG (eLst false (aCons (eC (.int 1)) (aCons (eC (.int 2)) (aCons (eC (.int 0)) aNil)))) (eVar 4))
  (sRet (eC (.bl false)))
  sNil)
  (sSeq (sIf (t2 neG (eVar 4) (eCall false sortA (aCons (eVar 4) aNil)))
  (sRet (eC (.bl false)))
  sNil)
  (sSeq (sIf (t2 neG (eCallP 2 f_fewest (aCons (eVar 3) (aCons (eLst false (aCons (eC (.int 0)) (aCons (eC (.int 1)) (aCons (eC (.int 2)) aNil)))) aNil))) (eC (.int 8)))
  (sRet (eC (.bl false)))
  sNil)
  (sSeq (sIf (t2 neG (e2 false ixG (eVar 4) (eC (.int 0))) (eLst false (aCons (eC (.int 0)) (aCons (eC (.int 1)) (aCons (eC (.int 2)) aNil)))))
  (sRet (eC (.bl false)))
  sNil)
  (sRet (eCallP 4 f__law_within_right (aCons (eVar 0) (aCons (eVar 1) (aCons (eVar 2) (aCons (eVar 3) aNil)))))))))))))))
def f__law_orders_right : FM := fnM 6 m__law_orders_right
def N__law_orders_right : List Str := ["_law_turn", "_law_lines", "_law_two", "_law_full", "_law_found", "_law_order", "_law_many"]
theorem sc__law_orders_right : FnScope N__law_orders_right ["_law_turn"] (defScope s__law_orders_right) := ⟨rfl, rfl, rfl, by decide, by decide, by decide, by decide⟩
theorem bd__law_orders_right (kV doc pm : Value) (an : Option Addr) (cdv ct : Value) (us : List Value) (hl : us.length = (["_law_turn"] : List Str).length) : bindArgs (PySem.W.fnOf "_law_orders_right" "_law_orders_right" (defArgs s__law_orders_right) (defBody s__law_orders_right) (defScope s__law_orders_right) .none kV doc pm an cdv ct) ⟨us, []⟩ = pure ((["_law_turn"] : List Str).zip us) := match us, hl with | [_], _ => rfl
theorem b__law_orders_right (h : Hd K mg) (cdv : Value) (A : Around) (outer : List Env) (s : Shared) (H : Hp) (E : XK) (hr : Room 7 (A.deeper (envOfC "_law_orders_right" (defScope s__law_orders_right) s.heap.objs.size (He.ga K "_law_orders_right") cdv))) : ESs (cxOf (L2.CX P w) P w K mg base N__law_orders_right "_law_orders_right" (defScope s__law_orders_right) (He.ga K "_law_orders_right") cdv A outer s H E) (WD E) (defBody s__law_orders_right) m__law_orders_right := by
      have hN : N__law_orders_right.Nodup := by decide
      have hu := units_of hr
      have hp := passes_of (X := cxOf (L2.CX P w) P w K mg base N__law_orders_right "_law_orders_right" (defScope s__law_orders_right) (He.ga K "_law_orders_right") cdv A outer s H E) rfl
      have tk : Takes (cxOf (L2.CX P w) P w K mg base N__law_orders_right "_law_orders_right" (defScope s__law_orders_right) (He.ga K "_law_orders_right") cdv A outer s H E) (WD E) := takes_of rfl rfl rfl rfl
      have hc : (cxOf (L2.CX P w) P w K mg base N__law_orders_right "_law_orders_right" (defScope s__law_orders_right) (He.ga K "_law_orders_right") cdv A outer s H E).calm = true := rfl
      exact (ess_cons (es_par3 (i := 1) (j := 2) (l := 3) rfl hN (ea_cons (ee_lst false (ea_cons (ee_tup (ea_cons ee_int (ea_cons (ee_tup (ea_cons ee_int ea_nil)) ea_nil))) (ea_cons (ee_tup (ea_cons ee_int (ea_cons (ee_tup ea_nil) ea_nil))) ea_nil))) (ea_cons (ee_lst false (ea_cons (ee_tup (ea_cons ee_int (ea_cons (ee_tup (ea_cons ee_int (ea_cons ee_int ea_nil))) ea_nil))) (ea_cons (ee_tup (ea_cons ee_int (ea_cons (ee_tup ea_nil) ea_nil))) ea_nil))) (ea_cons (ee_lst false (ea_cons (ee_tup (ea_cons ee_int (ea_cons (ee_tup (ea_cons ee_int (ea_cons ee_int ea_nil))) ea_nil))) (ea_cons (ee_tup (ea_cons ee_int (ea_cons (ee_tup (ea_cons ee_int ea_nil)) ea_nil))) ea_nil))) ea_nil))))
  (ess_cons (es_if (et_cmp (op_neDD hu) (ee_lst false (ea_cons (ec_callP tk (ok_orders h) (hr.mono (by decide)) h.g_orders h.k_orders (ea_cons (ee_var 1) ea_nil)) (ea_cons (ec_callP tk (ok_orders h) (hr.mono (by decide)) h.g_orders h.k_orders (ea_cons (ee_var 2) ea_nil)) ea_nil))) (ee_lst false (ea_cons (ee_lst false (ea_cons (ee_tup (ea_cons (ee_lst false (ea_cons ee_int ea_nil)) (ea_cons ee_int ea_nil))) ea_nil)) (ea_cons (ee_lst false (ea_cons (ee_tup (ea_cons (ee_lst false (ea_cons ee_int (ea_cons ee_int ea_nil))) (ea_cons ee_int ea_nil))) (ea_cons (ee_tup (ea_cons (ee_lst false (ea_cons ee_int (ea_cons ee_int ea_nil))) (ea_cons ee_int ea_nil))) ea_nil))) ea_nil))))
  (ess_one (es_ret ee_bl))
  ess_nil)
  (ess_cons (es_if (et_cmp op_isNotD (ec_callP tk (ok_fewest h) (hr.mono (by decide)) h.g_fewest h.k_fewest (ea_cons (ee_var 3) (ea_cons (ee_lst false (ea_cons ee_int (ea_cons ee_int (ea_cons ee_int ea_nil)))) ea_nil))) ee_non)
  (ess_one (es_ret ee_bl))
  ess_nil)
  (ess_cons (es_setLc 4 false rfl hN [("_law_order", 5), ("_law_many", 6)] (ei_of (ec_callP tk (ok_orders h) (hr.mono (by decide)) h.g_orders h.k_orders (ea_cons (ee_var 3) ea_nil))) (by rfl) (fun _ _ _ _ _ => (eg_tup rfl (egs_cons (eg_name 5 hN) (egs_cons (eg_name 6 hN) egs_nil)))) (fun _ _ _ _ _ => ets_nil) (fun _ _ _ _ _ => (ee_var 5)))
  (ess_cons (es_if (et_cmp (op_inDD hu) (ee_lst false (ea_cons ee_int (ea_cons ee_int (ea_cons ee_int ea_nil)))) (ee_var 4))
  (ess_one (es_ret ee_bl))
  ess_nil)
  (ess_cons (es_if (et_cmp (op_inDD hu) (ee_lst false (ea_cons ee_int (ea_cons ee_int (ea_cons ee_int ea_nil)))) (ee_var 4))
  (ess_one (es_ret ee_bl))
  ess_nil)
  (ess_cons (es_if (et_cmp (op_neDD hu) (ee_var 4) (ee_callB false (cb_sortA rfl hu) (ea_cons (ee_var 4) ea_nil) h.f_sorted bb_sorted))
  (ess_one (es_ret ee_bl))
  ess_nil)
  (ess_cons (es_if (et_cmp (op_neDD hu) (ec_callP tk (ok_fewest h) (hr.mono (by decide)) h.g_fewest h.k_fewest (ea_cons (ee_var 3) (ea_cons (ee_lst false (ea_cons ee_int (ea_cons ee_int (ea_cons ee_int ea_nil)))) ea_nil))) ee_int)
  (ess_one (es_ret ee_bl))
  ess_nil)
  (ess_cons (es_if (et_cmp (op_neDD hu) (ee_sub hu (ee_var 4) ee_int) (ee_lst false (ea_cons ee_int (ea_cons ee_int (ea_cons ee_int ea_nil)))))
  (ess_one (es_ret ee_bl))
  ess_nil)
  (ess_one (es_ret (ec_callP tk (ok__law_within_right h) (hr.mono (by decide)) h.g__law_within_right h.k__law_within_right (ea_cons (ee_var 0) (ea_cons (ee_var 1) (ea_cons (ee_var 2) (ea_cons (ee_var 3) ea_nil))))))))))))))))
theorem ok__law_orders_right (h : Hd K mg) : FOk P w K mg base 8 (He.ga K "_law_orders_right") 1 f__law_orders_right :=
  fok_of (N := N__law_orders_right) (ps := ["_law_turn"]) m__law_orders_right h.F__law_orders_right sc__law_orders_right rfl rfl bd__law_orders_right (b__law_orders_right h)
def m__law_counted_right : SM := (sSeq (sSet 1 (eLst false (aCons (eTup (aCons (eC (.int 1)) (aCons (eTup (aCons (eC (.int 0)) aNil)) aNil))) (aCons (eTup (aCons (eC (.int 1)) (aCons (eTup aNil) aNil))) aNil))))
  (sSeq (sIf (t2 neG (eLc false (iRng (eC (.int 6))) (gbName 4) tYesD (eCallP 3 f_how_many (aCons (eVar 1) (aCons (eLst false (aCons (eC (.int 0)) aNil)) (aCons (eVar 4) aNil)))) [4]) (eLst false (aCons (eC (.int 0)) (aCons (eC (.int 0)) (aCons (eC (.int 1)) (aCons (eC (.int 0)) (aCons (eC (.int 9)) (aCons (eC (.int 0)) aNil))))))))
  (sRet (eC (.bl false)))
  sNil)
  (sSeq (sIf (t2 neG (eCallP 3 f_how_many (aCons (eLst false (aCons (eTup (aCons (eC (.int 2)) (aCons (eTup (aCons (eC (.int 0)) (aCons (eC (.int 1)) aNil))) aNil))) (aCons (eTup (aCons (eC (.int 1)) (aCons (eTup aNil) aNil))) aNil))) (aCons (eLst false (aCons (eC (.int 1)) (aCons (eC (.int 0)) aNil))) (aCons (eC (.int 10)) aNil)))) (eC (.int 16)))
  (sRet (eC (.bl false)))
  sNil)
  (sSeq (sSet 2 (eLc false (iRng (eC (.int 9))) (gbName 5) tYesD (eCallP 4 f_deeds_by (aCons (eVar 1) (aCons (eLst false (aCons (eC (.int 0)) aNil)) (aCons (eC (.int 4)) (aCons (eVar 5) aNil))))) [5]))
  (sSeq (sIf (t2 neG (eVar 2) (eCall false sortA (aCons (eVar 2) aNil)))
  (sRet (eC (.bl false)))
  sNil)
  (sSeq (sIf (t2 neG (eLc false (iOf (eVar 2)) (gbName 3) tYesD (eCallP 3 f_number_of (aCons (eVar 1) (aCons (eLst false (aCons (eC (.int 0)) aNil)) (aCons (eVar 3) aNil)))) [3]) (eLisRng false (eC (.int 9))))
  (sRet (eC (.bl false)))
  sNil)
  (sSeq (sIf (t2 neG (e1 false lsG (eLc false (iOf (eVar 2)) (gbName 3) tYesD (eCall false shG (aCons (eVar 3) aNil)) [3])) (eC (.int 9)))
  (sRet (eC (.bl false)))
  sNil)
  (sSeq (sIf (t2 notInG (eLst false (aCons (eC (.str "take")) (aCons (eC (.str "put")) (aCons (eC (.str "take")) (aCons (eC (.str "out")) aNil))))) (eVar 2))
  (sRet (eC (.bl false)))
  sNil)
  (sSeq (sIf (t2 notInG (eLst false (aCons (eVar 0) (aCons (eVar 0) (aCons (eC (.str "take")) (aCons (eC (.str "out")) aNil))))) (eVar 2))
  (sRet (eC (.bl false)))
  sNil)
  (sSeq (sIf (t2 notInG (eLst false (aCons (eC (.str "take")) (aCons (eVar 0) (aCons (eC (.str "left")) (aCons (eC (.str "out")) aNil))))) (eVar 2))
  (sRet (eC (.bl false)))
  sNil)
  (sSeq (sIf (t2 neG (eWord ws__law_word "none" (eCallP 4 f_deeds_by (aCons (eVar 1) (aCons (eLst false (aCons (eC (.int 0)) aNil)) (aCons (eC (.int 4)) (aCons (eC (.int 9)) aNil)))))) (eC (.str "other")))
  (sRet (eC (.bl false)))
  sNil)
  (sSeq (sIf (t2 neG (eWord ws__law_word "none" (eCallP 4 f_deeds_by (aCons (eVar 1) (aCons (eLst false (aCons (eC (.int 0)) aNil)) (aCons (eC (.int 3)) (aCons (eC (.int 0)) aNil)))))) (eC (.str "other")))
  (sRet (eC (.bl false)))
  sNil)
  (sSeq (sFor 0 (iOf (eTup (aCons (eLst false (aCons (eC (.str "take")) aNil)) (aCons (eLst false aNil) (aCons (eLst false (aCons (eC (.str "take")) (aCons (eC (.str "out")) (aCons (eVar 0) aNil)))) (aCons (eLst false (aCons (eC (.str "take")) (aCons (eVar 0) (aCons (eC (.str "out")) aNil)))) (aCons (eLst false (aCons (eC (.str "put")) aNil)) aNil))))))) (gbName 3)
  (sIf (t2 neG (eWord ws__law_word "none" (eCallP 3 f_number_of (aCons (eVar 1) (aCons (eLst false (aCons (eC (.int 0)) aNil)) (aCons (eVar 3) aNil))))) (eC (.str "all")))
  (sRet (eC (.bl false)))
  sNil))
  (sSeq (sIf (t2 neG (eCallP 4 f_deeds_by (aCons (eVar 1) (aCons (eLst false (aCons (eC (.int 0)) aNil)) (aCons (eC (.int 2)) (aCons (eC (.int 0)) aNil))))) (eLst false (aCons (eC (.str "take")) (aCons (eC (.str "out")) aNil))))
  (sRet (eC (.bl false)))
  sNil)
  (sRet (e2 false eqG (eWord ws__law_word "none" (eCallP 3 f_number_of (aCons (eVar 1) (aCons (eLst false (aCons (eC (.int 0)) aNil)) (aCons (eLst false (aCons (eC (.str "go")) aNil)) aNil))))) (eC (.str "other"))))))))))))))))))
def f__law_counted_right : FM := fnM 5 m__law_counted_right
def N__law_counted_right : List Str := ["_law_turn", "_law_lines", "_law_found", "_law_deeds", "_law_many", "_law_number"]
theorem sc__law_counted_right : FnScope N__law_counted_right ["_law_turn"] (defScope s__law_counted_right) := ⟨rfl, rfl, rfl, by decide, by decide, by decide, by decide⟩
theorem bd__law_counted_right (kV doc pm : Value) (an : Option Addr) (cdv ct : Value) (us : List Value) (hl : us.length = (["_law_turn"] : List Str).length) : bindArgs (PySem.W.fnOf "_law_counted_right" "_law_counted_right" (defArgs s__law_counted_right) (defBody s__law_counted_right) (defScope s__law_counted_right) .none kV doc pm an cdv ct) ⟨us, []⟩ = pure ((["_law_turn"] : List Str).zip us) := match us, hl with | [_], _ => rfl
theorem b__law_counted_right (h : Hd K mg) (hT : TabAll K mg base) (cdv : Value) (hM : MakerAt K mg base (Str.ofString "_law_counted_right" ++ ".<locals>.") cdv) (A : Around) (outer : List Env) (s : Shared) (H : Hp) (E : XK) (hG : A.guards = some []) (hr : Room 69 (A.deeper (envOfC "_law_counted_right" (defScope s__law_counted_right) s.heap.objs.size (He.ga K "_law_counted_right") cdv))) : ESs (cxOf (L2.CX P w) P w K mg base N__law_counted_right "_law_counted_right" (defScope s__law_counted_right) (He.ga K "_law_counted_right") cdv A outer s H E) (WD E) (defBody s__law_counted_right) m__law_counted_right := by
      have hN : N__law_counted_right.Nodup := by decide
      have hu := units_of hr
      have hp := passes_of (X := cxOf (L2.CX P w) P w K mg base N__law_counted_right "_law_counted_right" (defScope s__law_counted_right) (He.ga K "_law_counted_right") cdv A outer s H E) rfl
      have tk : Takes (cxOf (L2.CX P w) P w K mg base N__law_counted_right "_law_counted_right" (defScope s__law_counted_right) (He.ga K "_law_counted_right") cdv A outer s H E) (WD E) := takes_of rfl rfl rfl rfl
      have hc : (cxOf (L2.CX P w) P w K mg base N__law_counted_right "_law_counted_right" (defScope s__law_counted_right) (He.ga K "_law_counted_right") cdv A outer s H E).calm = true := rfl
      exact (ess_cons (es_set 1 hN (ee_lst false (ea_cons (ee_tup (ea_cons ee_int (ea_cons (ee_tup (ea_cons ee_int ea_nil)) ea_nil))) (ea_cons (ee_tup (ea_cons ee_int (ea_cons (ee_tup ea_nil) ea_nil))) ea_nil))))
  (ess_cons (es_if (et_cmp (op_neDD hu) (ee_lc false rfl hN [("_law_many", 4)] (ei_rng ee_int h.f_range) (by rfl) (fun _ _ _ _ _ => (eg_name 4 hN)) (fun _ _ _ _ _ => ets_nil) (fun _ _ _ _ _ => (ec_callP takes0 (ok_how_many h) (hr.mono (by decide)) h.g_how_many h.k_how_many (ea_cons (ee_var 1) (ea_cons (ee_lst false (ea_cons ee_int ea_nil)) (ea_cons (ee_var 4) ea_nil)))))) (ee_lst false (ea_cons ee_int (ea_cons ee_int (ea_cons ee_int (ea_cons ee_int (ea_cons ee_int (ea_cons ee_int ea_nil))))))))
  (ess_one (es_ret ee_bl))
  ess_nil)
  (ess_cons (es_if (et_cmp (op_neDD hu) (ec_callP tk (ok_how_many h) (hr.mono (by decide)) h.g_how_many h.k_how_many (ea_cons (ee_lst false (ea_cons (ee_tup (ea_cons ee_int (ea_cons (ee_tup (ea_cons ee_int (ea_cons ee_int ea_nil))) ea_nil))) (ea_cons (ee_tup (ea_cons ee_int (ea_cons (ee_tup ea_nil) ea_nil))) ea_nil))) (ea_cons (ee_lst false (ea_cons ee_int (ea_cons ee_int ea_nil))) (ea_cons ee_int ea_nil)))) ee_int)
  (ess_one (es_ret ee_bl))
  ess_nil)
  (ess_cons (es_setLc 2 false rfl hN [("_law_number", 5)] (ei_rng ee_int h.f_range) (by rfl) (fun _ _ _ _ _ => (eg_name 5 hN)) (fun _ _ _ _ _ => ets_nil) (fun _ _ _ _ _ => (ec_callP takes0 (ok_deeds_by h) (hr.mono (by decide)) h.g_deeds_by h.k_deeds_by (ea_cons (ee_var 1) (ea_cons (ee_lst false (ea_cons ee_int ea_nil)) (ea_cons ee_int (ea_cons (ee_var 5) ea_nil)))))))
  (ess_cons (es_if (et_cmp (op_neDD hu) (ee_var 2) (ee_callB false (cb_sortA rfl hu) (ea_cons (ee_var 2) ea_nil) h.f_sorted bb_sorted))
  (ess_one (es_ret ee_bl))
  ess_nil)
  (ess_cons (es_if (et_cmp (op_neDD hu) (ee_lc false rfl hN [("_law_deeds", 3)] (ei_of (ee_var 2)) (by rfl) (fun _ _ _ _ _ => (eg_name 3 hN)) (fun _ _ _ _ _ => ets_nil) (fun _ _ _ _ _ => (ec_callP takes0 (ok_number_of h) (hr.mono (by decide)) h.g_number_of h.k_number_of (ea_cons (ee_var 1) (ea_cons (ee_lst false (ea_cons ee_int ea_nil)) (ea_cons (ee_var 3) ea_nil)))))) (ee_lisRng false rfl ee_int h.f_list h.f_range))
  (ess_one (es_ret ee_bl))
  ess_nil)
  (ess_cons (es_if (et_cmp (op_neDD hu) (ee_lenSetS rfl (ee_lc false rfl hN [("_law_deeds", 3)] (ei_of (ee_var 2)) (by rfl) (fun _ _ _ _ _ => (eg_name 3 hN)) (fun _ _ _ _ _ => ets_nil) (fun _ _ _ _ _ => (ee_callTy false (cb_str hG hu) (ea_cons (ee_var 3) ea_nil) h.f_str bb_str))) h.f_len h.f_set) ee_int)
  (ess_one (es_ret ee_bl))
  ess_nil)
  (ess_cons (es_if (et_cmp (op_notInDD hu) (ee_lst false (ea_cons ee_str (ea_cons ee_str (ea_cons ee_str (ea_cons ee_str ea_nil))))) (ee_var 2))
  (ess_one (es_ret ee_bl))
  ess_nil)
  (ess_cons (es_if (et_cmp (op_notInDD hu) (ee_lst false (ea_cons (ee_var 0) (ea_cons (ee_var 0) (ea_cons ee_str (ea_cons ee_str ea_nil))))) (ee_var 2))
  (ess_one (es_ret ee_bl))
  ess_nil)
  (ess_cons (es_if (et_cmp (op_notInDD hu) (ee_lst false (ea_cons ee_str (ea_cons (ee_var 0) (ea_cons ee_str (ea_cons ee_str ea_nil))))) (ee_var 2))
  (ess_one (es_ret ee_bl))
  ess_nil)
  (ess_cons (es_if (et_cmp (op_neDD hu) (ee_wordM (k := 67) h.g__law_word h.k__law_word h.F__law_word bd__law_word sc__law_word rfl (Or.inl rfl) (fun cdg => gv__law_word h rfl rfl _ cdg) hM (hr.mono (by decide)) rfl (fun A outer s H E f c' hr => by
        have hu := units_of hr
        exact (ec_callP takes_lam (ok_deeds_by h) (hr.mono (by decide)) h.g_deeds_by h.k_deeds_by (ea_cons (ee_var 1) (ea_cons (ee_lst false (ea_cons ee_int ea_nil)) (ea_cons ee_int (ea_cons ee_int ea_nil))))))) ee_str)
  (ess_one (es_ret ee_bl))
  ess_nil)
  (ess_cons (es_if (et_cmp (op_neDD hu) (ee_wordM (k := 67) h.g__law_word h.k__law_word h.F__law_word bd__law_word sc__law_word rfl (Or.inl rfl) (fun cdg => gv__law_word h rfl rfl _ cdg) hM (hr.mono (by decide)) rfl (fun A outer s H E f c' hr => by
        have hu := units_of hr
        exact (ec_callP takes_lam (ok_deeds_by h) (hr.mono (by decide)) h.g_deeds_by h.k_deeds_by (ea_cons (ee_var 1) (ea_cons (ee_lst false (ea_cons ee_int ea_nil)) (ea_cons ee_int (ea_cons ee_int ea_nil))))))) ee_str)
  (ess_one (es_ret ee_bl))
  ess_nil)
  (ess_cons (es_for 0 hp rfl (ei_of (ee_tup (ea_cons (ee_lst false (ea_cons ee_str ea_nil)) (ea_cons (ee_lst false ea_nil) (ea_cons (ee_lst false (ea_cons ee_str (ea_cons ee_str (ea_cons (ee_var 0) ea_nil)))) (ea_cons (ee_lst false (ea_cons ee_str (ea_cons (ee_var 0) (ea_cons ee_str ea_nil)))) (ea_cons (ee_lst false (ea_cons ee_str ea_nil)) ea_nil))))))) (eg_name 3 hN)
  (ess_one (es_if (et_cmp (op_neDD hu) (ee_wordM (k := 67) h.g__law_word h.k__law_word h.F__law_word bd__law_word sc__law_word rfl (Or.inl rfl) (fun cdg => gv__law_word h rfl rfl _ cdg) hM (hr.mono (by decide)) rfl (fun A outer s H E f c' hr => by
        have hu := units_of hr
        exact (ec_callP takes_lam (ok_number_of h) (hr.mono (by decide)) h.g_number_of h.k_number_of (ea_cons (ee_var 1) (ea_cons (ee_lst false (ea_cons ee_int ea_nil)) (ea_cons (ee_var 3) ea_nil)))))) ee_str)
  (ess_one (es_ret ee_bl))
  ess_nil)))
  (ess_cons (es_if (et_cmp (op_neDD hu) (ec_callP tk (ok_deeds_by h) (hr.mono (by decide)) h.g_deeds_by h.k_deeds_by (ea_cons (ee_var 1) (ea_cons (ee_lst false (ea_cons ee_int ea_nil)) (ea_cons ee_int (ea_cons ee_int ea_nil))))) (ee_lst false (ea_cons ee_str (ea_cons ee_str ea_nil))))
  (ess_one (es_ret ee_bl))
  ess_nil)
  (ess_one (es_ret (ee_cmp (op_eqDD hu) (ee_wordM (k := 67) h.g__law_word h.k__law_word h.F__law_word bd__law_word sc__law_word rfl (Or.inl rfl) (fun cdg => gv__law_word h rfl rfl _ cdg) hM (hr.mono (by decide)) rfl (fun A outer s H E f c' hr => by
        have hu := units_of hr
        exact (ec_callP takes_lam (ok_number_of h) (hr.mono (by decide)) h.g_number_of h.k_number_of (ea_cons (ee_var 1) (ea_cons (ee_lst false (ea_cons ee_int ea_nil)) (ea_cons (ee_lst false (ea_cons ee_str ea_nil)) ea_nil)))))) ee_str)))))))))))))))))
theorem ok__law_counted_right (h : Hd K mg) (hT : TabAll K mg base) : FOkG P w K mg base 70 (He.ga K "_law_counted_right") 1 f__law_counted_right :=
  fokG_ofM (N := N__law_counted_right) (ps := ["_law_turn"]) (n := "_law_counted_right") m__law_counted_right (by decide) hT h.F__law_counted_right sc__law_counted_right rfl rfl bd__law_counted_right (b__law_counted_right h hT)
def m__law_yard_right : SM := (sSeq (sSet 1 (eMake "Yard" 2 f_Yard_init (aCons (eLst false (aCons (eTup (aCons (eC (.int 1)) (aCons (eTup (aCons (eC (.int 0)) aNil)) aNil))) (aCons (eTup (aCons (eC (.int 1)) (aCons (eTup aNil) aNil))) aNil))) aNil)))
  (sSeq (sIf (t2 neG (eWord ws__law_word "none" (eMethM [("Yard", f_Yard_do)] "do" 2 (eVar 1) (aCons (eC (.str "put")) aNil))) (eC (.str "not")))
  (sRet (eC (.bl false)))
  sNil)
  (sSeq (sIf (t2 neG (eWord ws__law_word "none" (eMethM [("Yard", f_Yard_do)] "do" 2 (eVar 1) (aCons (eC (.str "go")) aNil))) (eC (.str "other")))
  (sRet (eC (.bl false)))
  sNil)
  (sSeq (sIf (t2 neG (eMethM [("Yard", f_Yard_now)] "now" 1 (eVar 1) aNil) (eTup (aCons (eTup (aCons (eTup (aCons (eC (.int 0)) aNil)) (aCons (eTup aNil) aNil))) (aCons (eC (.int 0)) (aCons (e1 false negG (eC (.int 1))) aNil)))))
  (sRet (eC (.bl false)))
  sNil)
  (sSeq (sIf (t2 neG (eLst false (aCons (eMethM [("Yard", f_Yard_do)] "do" 2 (eVar 1) (aCons (eC (.str "take")) aNil)) (aCons (eMethM [("Yard", f_Yard_do)] "do" 2 (eVar 1) (aCons (eVar 0) aNil)) (aCons (eMethM [("Yard", f_Yard_done)] "done" 1 (eVar 1) aNil) aNil)))) (eLst false (aCons (eTup (aCons (eTup (aCons (eTup aNil) (aCons (eTup aNil) aNil))) (aCons (eC (.int 0)) (aCons (eC (.int 0)) aNil)))) (aCons (eTup (aCons (eTup (aCons (eTup aNil) (aCons (eTup aNil) aNil))) (aCons (eC (.int 1)) (aCons (eC (.int 0)) aNil)))) (aCons (eC (.int 2)) aNil)))))
  (sRet (eC (.bl false)))
  sNil)
  (sSeq (sIf (t2 neG (eWord ws__law_word "none" (eMethM [("Yard", f_Yard_do)] "do" 2 (eVar 1) (aCons (eC (.str "out")) aNil))) (eC (.str "not")))
  (sRet (eC (.bl false)))
  sNil)
  (sSeq (sSet 2 (eLst false (aCons (eMethM [("Yard", f_Yard_do)] "do" 2 (eVar 1) (aCons (eC (.str "put")) aNil)) (aCons (eMethM [("Yard", f_Yard_do)] "do" 2 (eVar 1) (aCons (eC (.str "take")) aNil)) (aCons (eMethM [("Yard", f_Yard_do)] "do" 2 (eVar 1) (aCons (eVar 0) aNil)) (aCons (eMethM [("Yard", f_Yard_do)] "do" 2 (eVar 1) (aCons (eC (.str "out")) aNil)) aNil))))))
  (sSeq (sSet 2 (e2 false addG (eVar 2) (eLst false (aCons (eMethM [("Yard", f_Yard_away)] "away" 1 (eVar 1) aNil) aNil))))
  (sSeq (sIf (t2 neG (eVar 2) (eLst false (aCons (eTup (aCons (eTup (aCons (eTup aNil) (aCons (eTup (aCons (eC (.int 0)) aNil)) aNil))) (aCons (eC (.int 1)) (aCons (e1 false negG (eC (.int 1))) aNil)))) (aCons (eTup (aCons (eTup (aCons (eTup aNil) (aCons (eTup aNil) aNil))) (aCons (eC (.int 1)) (aCons (eC (.int 0)) aNil)))) (aCons (eTup (aCons (eTup (aCons (eTup aNil) (aCons (eTup aNil) aNil))) (aCons (eC (.int 0)) (aCons (eC (.int 0)) aNil)))) (aCons (eTup (aCons (eTup (aCons (eTup aNil) (aCons (eTup aNil) aNil))) (aCons (eC (.int 0)) (aCons (e1 false negG (eC (.int 1))) aNil)))) (aCons (eLst false (aCons (eC (.int 0)) aNil)) aNil)))))))
  (sRet (eC (.bl false)))
  sNil)
  (sSeq (sIf (t2 neG (eLst false (aCons (eMethM [("Yard", f_Yard_do)] "do" 2 (eVar 1) (aCons (eVar 0) aNil)) (aCons (eMethM [("Yard", f_Yard_done)] "done" 1 (eVar 1) aNil) aNil))) (eLst false (aCons (eTup (aCons (eTup (aCons (eTup aNil) (aCons (eTup aNil) aNil))) (aCons (eC (.int 1)) (aCons (e1 false negG (eC (.int 1))) aNil)))) (aCons (eC (.int 7)) aNil))))
  (sRet (eC (.bl false)))
  sNil)
  (sSeq (sIf (t2 neG (eMethM [("Yard", f_Yard_tale)] "tale" 1 (eVar 1) aNil) (eLst false (aCons (eC (.str "take")) (aCons (eVar 0) (aCons (eC (.str "put")) (aCons (eC (.str "take")) (aCons (eVar 0) (aCons (eC (.str "out")) (aCons (eVar 0) aNil)))))))))
  (sRet (eC (.bl false)))
  sNil)
  (sSeq (sSet 3 (eLst false (aCons (eTup (aCons (eC (.int 1)) (aCons (eTup (aCons (eC (.int 0)) aNil)) aNil))) (aCons (eTup (aCons (eC (.int 1)) (aCons (eTup aNil) aNil))) aNil))))
  (sSeq (sIf (tNotD (tOf (eIsi (fO is_Right) (eCallS 2 f_judged (aCons (eVar 3) (aCons (eMethM [("Yard", f_Yard_tale)] "tale" 1 (eVar 1) aNil) aNil))))))
  (sRet (eC (.bl false)))
  sNil)
  (sSeq (sIf (tNotD (tOf (eIsi (fO is_Right) (eCallS 2 f_judged (aCons (eVar 3) (aCons (e2 false mulG (eLst false (aCons (eVar 0) aNil)) (eC (.int 60))) aNil))))))
  (sRet (eC (.bl false)))
  sNil)
  (sSeq (sSet 4 (eLst false (aCons (eTup (aCons (eLst false (aCons (eC (.str "go")) aNil)) (aCons (eC (.int 0)) aNil))) (aCons (eTup (aCons (eLst false (aCons (eC (.str "take")) (aCons (eC (.str "out")) (aCons (eC (.str "take")) aNil)))) (aCons (eC (.int 2)) aNil))) (aCons (eTup (aCons (eLst false (aCons (eVar 0) (aCons (eC (.str "TAKE")) aNil))) (aCons (eC (.int 1)) aNil))) aNil)))))
  (sSeq (sSet 4 (e2 false addG (eVar 4) (eLst false (aCons (eTup (aCons (eLst false (aCons (eC (.str "take")) (aCons (eC (.str "")) (aCons (eC (.str "out")) aNil)))) (aCons (eC (.int 1)) aNil))) (aCons (eTup (aCons (eLst false (aCons (eC (.str "take")) (aCons (eVar 0) (aCons (eC (.str "out")) aNil)))) (aCons (eC (.int 2)) aNil))) aNil)))))
  (sSeq (sFor 0 (iOf (eVar 4)) (gbTup (gbCons (gbName 5) (gbCons (gbName 6) gbNil)))
  (sSeq (sSet 2 (eCallS 2 f_judged (aCons (eVar 3) (aCons (eVar 5) aNil))))
  (sSeq (sIf (tNotD (tOf (eIsi (fO is_Wrong) (eVar 2))))
  (sRet (eC (.bl false)))
  sNil)
  (sSeq (sIf (t2 neG (eFldC cs_place "place" (eVar 2)) (eVar 6))
  (sRet (eC (.bl false)))
  sNil)
  (sSeq (sIf (t2 isNotG (eMethM [("Came", f_Came_shows), ("Barred", f_Barred_shows), ("Right", f_Right_shows), ("Wrong", f_Wrong_shows)] "shows" 3 (eVar 2) (aCons (eVar 3) (aCons (eVar 5) aNil))) (eC (.bl true)))
  (sRet (eC (.bl false)))
  sNil)
  (sIf (t2 isNotG (eMethM [("Came", f_Came_shows), ("Barred", f_Barred_shows), ("Right", f_Right_shows), ("Wrong", f_Wrong_shows)] "shows" 3 (eMake0 "Right") (aCons (eVar 3) (aCons (eVar 5) aNil))) (eC (.bl false)))
  (sRet (eC (.bl false)))
  sNil))))))
  (sRet (eC (.bl true))))))))))))))))))))
def f__law_yard_right : FM := fnM 6 m__law_yard_right
def N__law_yard_right : List Str := ["_law_turn", "_law_yard", "_law_found", "_law_lines", "_law_rows", "_law_tale", "_law_place"]
theorem sc__law_yard_right : FnScope N__law_yard_right ["_law_turn"] (defScope s__law_yard_right) := ⟨rfl, rfl, rfl, by decide, by decide, by decide, by decide⟩
theorem bd__law_yard_right (kV doc pm : Value) (an : Option Addr) (cdv ct : Value) (us : List Value) (hl : us.length = (["_law_turn"] : List Str).length) : bindArgs (PySem.W.fnOf "_law_yard_right" "_law_yard_right" (defArgs s__law_yard_right) (defBody s__law_yard_right) (defScope s__law_yard_right) .none kV doc pm an cdv ct) ⟨us, []⟩ = pure ((["_law_turn"] : List Str).zip us) := match us, hl with | [_], _ => rfl
theorem b__law_yard_right (h : Hd K mg) (hT : TabAll K mg base) (cdv : Value) (hM : MakerAt K mg base (Str.ofString "_law_yard_right" ++ ".<locals>.") cdv) (A : Around) (outer : List Env) (s : Shared) (H : Hp) (E : XK) (hr : Room 6 (A.deeper (envOfC "_law_yard_right" (defScope s__law_yard_right) s.heap.objs.size (He.ga K "_law_yard_right") cdv))) : ESs (cxOf (L2.CX P w) P w K mg base N__law_yard_right "_law_yard_right" (defScope s__law_yard_right) (He.ga K "_law_yard_right") cdv A outer s H E) (WD E) (defBody s__law_yard_right) m__law_yard_right := by
      have hN : N__law_yard_right.Nodup := by decide
      have hu := units_of hr
      have hp := passes_of (X := cxOf (L2.CX P w) P w K mg base N__law_yard_right "_law_yard_right" (defScope s__law_yard_right) (He.ga K "_law_yard_right") cdv A outer s H E) rfl
      have tk : Takes (cxOf (L2.CX P w) P w K mg base N__law_yard_right "_law_yard_right" (defScope s__law_yard_right) (He.ga K "_law_yard_right") cdv A outer s H E) (WD E) := takes_of rfl rfl rfl rfl
      have hc : (cxOf (L2.CX P w) P w K mg base N__law_yard_right "_law_yard_right" (defScope s__law_yard_right) (He.ga K "_law_yard_right") cdv A outer s H E).calm = true := rfl
      exact (ess_cons (es_set 1 hN (ec_make tk h.mk_Yard (ok_Yard_init h) (hr.mono (by decide)) h.g_Yard (ea_cons (ee_lst false (ea_cons (ee_tup (ea_cons ee_int (ea_cons (ee_tup (ea_cons ee_int ea_nil)) ea_nil))) (ea_cons (ee_tup (ea_cons ee_int (ea_cons (ee_tup ea_nil) ea_nil))) ea_nil))) ea_nil)))
  (ess_cons (es_if (et_cmp (op_neDD hu) (ee_wordM (k := 2) h.g__law_word h.k__law_word h.F__law_word bd__law_word sc__law_word rfl (Or.inl rfl) (fun cdg => gv__law_word h rfl rfl _ cdg) hM (hr.mono (by decide)) rfl (fun A outer s H E f c' hr => by
        have hu := units_of hr
        exact (ee_methS [("Yard", f_Yard_do)] takes_lam (List.forall_mem_cons.mpr ⟨meth_of h.c_Yard h.me_Yard_do (ok_Yard_do h) (hr.mono (by decide)), fun _ z => nomatch z⟩) (ee_var 1) (ea_cons ee_str ea_nil)))) ee_str)
  (ess_one (es_ret ee_bl))
  ess_nil)
  (ess_cons (es_if (et_cmp (op_neDD hu) (ee_wordM (k := 2) h.g__law_word h.k__law_word h.F__law_word bd__law_word sc__law_word rfl (Or.inl rfl) (fun cdg => gv__law_word h rfl rfl _ cdg) hM (hr.mono (by decide)) rfl (fun A outer s H E f c' hr => by
        have hu := units_of hr
        exact (ee_methS [("Yard", f_Yard_do)] takes_lam (List.forall_mem_cons.mpr ⟨meth_of h.c_Yard h.me_Yard_do (ok_Yard_do h) (hr.mono (by decide)), fun _ z => nomatch z⟩) (ee_var 1) (ea_cons ee_str ea_nil)))) ee_str)
  (ess_one (es_ret ee_bl))
  ess_nil)
  (ess_cons (es_if (et_cmp (op_neDD hu) (ee_meth0 [("Yard", f_Yard_now)] tk (List.forall_mem_cons.mpr ⟨meth_of h.c_Yard h.me_Yard_now (ok_Yard_now h) (hr.mono (by decide)), fun _ z => nomatch z⟩) (ee_var 1)) (ee_tup (ea_cons (ee_tup (ea_cons (ee_tup (ea_cons ee_int ea_nil)) (ea_cons (ee_tup ea_nil) ea_nil))) (ea_cons ee_int (ea_cons (ee_un (un_negD false) ee_int) ea_nil)))))
  (ess_one (es_ret ee_bl))
  ess_nil)
  (ess_cons (es_if (et_cmp (op_neDD hu) (ee_lst false (ea_cons (ee_methS [("Yard", f_Yard_do)] tk (List.forall_mem_cons.mpr ⟨meth_of h.c_Yard h.me_Yard_do (ok_Yard_do h) (hr.mono (by decide)), fun _ z => nomatch z⟩) (ee_var 1) (ea_cons ee_str ea_nil)) (ea_cons (ee_methS [("Yard", f_Yard_do)] tk (List.forall_mem_cons.mpr ⟨meth_of h.c_Yard h.me_Yard_do (ok_Yard_do h) (hr.mono (by decide)), fun _ z => nomatch z⟩) (ee_var 1) (ea_cons (ee_var 0) ea_nil)) (ea_cons (ee_meth0 [("Yard", f_Yard_done)] tk (List.forall_mem_cons.mpr ⟨meth_of h.c_Yard h.me_Yard_done (ok_Yard_done h) (hr.mono (by decide)), fun _ z => nomatch z⟩) (ee_var 1)) ea_nil)))) (ee_lst false (ea_cons (ee_tup (ea_cons (ee_tup (ea_cons (ee_tup ea_nil) (ea_cons (ee_tup ea_nil) ea_nil))) (ea_cons ee_int (ea_cons ee_int ea_nil)))) (ea_cons (ee_tup (ea_cons (ee_tup (ea_cons (ee_tup ea_nil) (ea_cons (ee_tup ea_nil) ea_nil))) (ea_cons ee_int (ea_cons ee_int ea_nil)))) (ea_cons ee_int ea_nil)))))
  (ess_one (es_ret ee_bl))
  ess_nil)
  (ess_cons (es_if (et_cmp (op_neDD hu) (ee_wordM (k := 2) h.g__law_word h.k__law_word h.F__law_word bd__law_word sc__law_word rfl (Or.inl rfl) (fun cdg => gv__law_word h rfl rfl _ cdg) hM (hr.mono (by decide)) rfl (fun A outer s H E f c' hr => by
        have hu := units_of hr
        exact (ee_methS [("Yard", f_Yard_do)] takes_lam (List.forall_mem_cons.mpr ⟨meth_of h.c_Yard h.me_Yard_do (ok_Yard_do h) (hr.mono (by decide)), fun _ z => nomatch z⟩) (ee_var 1) (ea_cons ee_str ea_nil)))) ee_str)
  (ess_one (es_ret ee_bl))
  ess_nil)
  (ess_cons (es_set 2 hN (ee_lst false (ea_cons (ee_methS [("Yard", f_Yard_do)] tk (List.forall_mem_cons.mpr ⟨meth_of h.c_Yard h.me_Yard_do (ok_Yard_do h) (hr.mono (by decide)), fun _ z => nomatch z⟩) (ee_var 1) (ea_cons ee_str ea_nil)) (ea_cons (ee_methS [("Yard", f_Yard_do)] tk (List.forall_mem_cons.mpr ⟨meth_of h.c_Yard h.me_Yard_do (ok_Yard_do h) (hr.mono (by decide)), fun _ z => nomatch z⟩) (ee_var 1) (ea_cons ee_str ea_nil)) (ea_cons (ee_methS [("Yard", f_Yard_do)] tk (List.forall_mem_cons.mpr ⟨meth_of h.c_Yard h.me_Yard_do (ok_Yard_do h) (hr.mono (by decide)), fun _ z => nomatch z⟩) (ee_var 1) (ea_cons (ee_var 0) ea_nil)) (ea_cons (ee_methS [("Yard", f_Yard_do)] tk (List.forall_mem_cons.mpr ⟨meth_of h.c_Yard h.me_Yard_do (ok_Yard_do h) (hr.mono (by decide)), fun _ z => nomatch z⟩) (ee_var 1) (ea_cons ee_str ea_nil)) ea_nil))))))
  (ess_cons (es_set 2 hN (ee_op op_addD false (ee_var 2) (ee_lst false (ea_cons (ee_meth0 [("Yard", f_Yard_away)] tk (List.forall_mem_cons.mpr ⟨meth_of h.c_Yard h.me_Yard_away (ok_Yard_away h) (hr.mono (by decide)), fun _ z => nomatch z⟩) (ee_var 1)) ea_nil))))
  (ess_cons (es_if (et_cmp (op_neDD hu) (ee_var 2) (ee_lst false (ea_cons (ee_tup (ea_cons (ee_tup (ea_cons (ee_tup ea_nil) (ea_cons (ee_tup (ea_cons ee_int ea_nil)) ea_nil))) (ea_cons ee_int (ea_cons (ee_un (un_negD false) ee_int) ea_nil)))) (ea_cons (ee_tup (ea_cons (ee_tup (ea_cons (ee_tup ea_nil) (ea_cons (ee_tup ea_nil) ea_nil))) (ea_cons ee_int (ea_cons ee_int ea_nil)))) (ea_cons (ee_tup (ea_cons (ee_tup (ea_cons (ee_tup ea_nil) (ea_cons (ee_tup ea_nil) ea_nil))) (ea_cons ee_int (ea_cons ee_int ea_nil)))) (ea_cons (ee_tup (ea_cons (ee_tup (ea_cons (ee_tup ea_nil) (ea_cons (ee_tup ea_nil) ea_nil))) (ea_cons ee_int (ea_cons (ee_un (un_negD false) ee_int) ea_nil)))) (ea_cons (ee_lst false (ea_cons ee_int ea_nil)) ea_nil)))))))
  (ess_one (es_ret ee_bl))
  ess_nil)
  (ess_cons (es_if (et_cmp (op_neDD hu) (ee_lst false (ea_cons (ee_methS [("Yard", f_Yard_do)] tk (List.forall_mem_cons.mpr ⟨meth_of h.c_Yard h.me_Yard_do (ok_Yard_do h) (hr.mono (by decide)), fun _ z => nomatch z⟩) (ee_var 1) (ea_cons (ee_var 0) ea_nil)) (ea_cons (ee_meth0 [("Yard", f_Yard_done)] tk (List.forall_mem_cons.mpr ⟨meth_of h.c_Yard h.me_Yard_done (ok_Yard_done h) (hr.mono (by decide)), fun _ z => nomatch z⟩) (ee_var 1)) ea_nil))) (ee_lst false (ea_cons (ee_tup (ea_cons (ee_tup (ea_cons (ee_tup ea_nil) (ea_cons (ee_tup ea_nil) ea_nil))) (ea_cons ee_int (ea_cons (ee_un (un_negD false) ee_int) ea_nil)))) (ea_cons ee_int ea_nil))))
  (ess_one (es_ret ee_bl))
  ess_nil)
  (ess_cons (es_if (et_cmp (op_neDD hu) (ee_meth0 [("Yard", f_Yard_tale)] tk (List.forall_mem_cons.mpr ⟨meth_of h.c_Yard h.me_Yard_tale (ok_Yard_tale h) (hr.mono (by decide)), fun _ z => nomatch z⟩) (ee_var 1)) (ee_lst false (ea_cons ee_str (ea_cons (ee_var 0) (ea_cons ee_str (ea_cons ee_str (ea_cons (ee_var 0) (ea_cons ee_str (ea_cons (ee_var 0) ea_nil)))))))))
  (ess_one (es_ret ee_bl))
  ess_nil)
  (ess_cons (es_set 3 hN (ee_lst false (ea_cons (ee_tup (ea_cons ee_int (ea_cons (ee_tup (ea_cons ee_int ea_nil)) ea_nil))) (ea_cons (ee_tup (ea_cons ee_int (ea_cons (ee_tup ea_nil) ea_nil))) ea_nil))))
  (ess_cons (es_if (et_not (et_of (ee_isiO "Right" is_Right h.is_Right (ec_callS tk (ok_judged h) (hr.mono (by decide)) h.g_judged h.k_judged (ea_cons (ee_var 3) (ea_cons (ee_meth0 [("Yard", f_Yard_tale)] tk (List.forall_mem_cons.mpr ⟨meth_of h.c_Yard h.me_Yard_tale (ok_Yard_tale h) (hr.mono (by decide)), fun _ z => nomatch z⟩) (ee_var 1)) ea_nil))) h.f_isinstance h.g_Right)))
  (ess_one (es_ret ee_bl))
  ess_nil)
  (ess_cons (es_if (et_not (et_of (ee_isiO "Right" is_Right h.is_Right (ec_callS tk (ok_judged h) (hr.mono (by decide)) h.g_judged h.k_judged (ea_cons (ee_var 3) (ea_cons (ee_op op_mulD false (ee_lst false (ea_cons (ee_var 0) ea_nil)) ee_int) ea_nil))) h.f_isinstance h.g_Right)))
  (ess_one (es_ret ee_bl))
  ess_nil)
  (ess_cons (es_set 4 hN (ee_lst false (ea_cons (ee_tup (ea_cons (ee_lst false (ea_cons ee_str ea_nil)) (ea_cons ee_int ea_nil))) (ea_cons (ee_tup (ea_cons (ee_lst false (ea_cons ee_str (ea_cons ee_str (ea_cons ee_str ea_nil)))) (ea_cons ee_int ea_nil))) (ea_cons (ee_tup (ea_cons (ee_lst false (ea_cons (ee_var 0) (ea_cons ee_str ea_nil))) (ea_cons ee_int ea_nil))) ea_nil)))))
  (ess_cons (es_set 4 hN (ee_op op_addD false (ee_var 4) (ee_lst false (ea_cons (ee_tup (ea_cons (ee_lst false (ea_cons ee_str (ea_cons ee_str (ea_cons ee_str ea_nil)))) (ea_cons ee_int ea_nil))) (ea_cons (ee_tup (ea_cons (ee_lst false (ea_cons ee_str (ea_cons (ee_var 0) (ea_cons ee_str ea_nil)))) (ea_cons ee_int ea_nil))) ea_nil)))))
  (ess_cons (es_for 0 hp rfl (ei_of (ee_var 4)) (eg_tup rfl (egs_cons (eg_name 5 hN) (egs_cons (eg_name 6 hN) egs_nil)))
  (ess_cons (es_set 2 hN (ec_callS tk (ok_judged h) (hr.mono (by decide)) h.g_judged h.k_judged (ea_cons (ee_var 3) (ea_cons (ee_var 5) ea_nil))))
  (ess_cons (es_if (et_not (et_of (ee_isiO "Wrong" is_Wrong h.is_Wrong (ee_var 2) h.f_isinstance h.g_Wrong)))
  (ess_one (es_ret ee_bl))
  ess_nil)
  (ess_cons (es_if (et_cmp (op_neDD hu) (ee_fld cs_place h.at_place (ee_var 2)) (ee_var 6))
  (ess_one (es_ret ee_bl))
  ess_nil)
  (ess_cons (es_if (et_cmp op_isNotD (ee_methS [("Came", f_Came_shows), ("Barred", f_Barred_shows), ("Right", f_Right_shows), ("Wrong", f_Wrong_shows)] tk (List.forall_mem_cons.mpr ⟨meth_of h.c_Came h.me_Came_shows (ok_Came_shows h) (hr.mono (by decide)), List.forall_mem_cons.mpr ⟨meth_of h.c_Barred h.me_Barred_shows (ok_Barred_shows h) (hr.mono (by decide)), List.forall_mem_cons.mpr ⟨meth_of h.c_Right h.me_Right_shows (ok_Right_shows h) (hr.mono (by decide)), List.forall_mem_cons.mpr ⟨meth_of h.c_Wrong h.me_Wrong_shows (ok_Wrong_shows h) (hr.mono (by decide)), fun _ z => nomatch z⟩⟩⟩⟩) (ee_var 2) (ea_cons (ee_var 3) (ea_cons (ee_var 5) ea_nil))) ee_bl)
  (ess_one (es_ret ee_bl))
  ess_nil)
  (ess_one (es_if (et_cmp op_isNotD (ee_methS [("Came", f_Came_shows), ("Barred", f_Barred_shows), ("Right", f_Right_shows), ("Wrong", f_Wrong_shows)] tk (List.forall_mem_cons.mpr ⟨meth_of h.c_Came h.me_Came_shows (ok_Came_shows h) (hr.mono (by decide)), List.forall_mem_cons.mpr ⟨meth_of h.c_Barred h.me_Barred_shows (ok_Barred_shows h) (hr.mono (by decide)), List.forall_mem_cons.mpr ⟨meth_of h.c_Right h.me_Right_shows (ok_Right_shows h) (hr.mono (by decide)), List.forall_mem_cons.mpr ⟨meth_of h.c_Wrong h.me_Wrong_shows (ok_Wrong_shows h) (hr.mono (by decide)), fun _ z => nomatch z⟩⟩⟩⟩) (ee_make0 h.mk_Right h.g_Right) (ea_cons (ee_var 3) (ea_cons (ee_var 5) ea_nil))) ee_bl)
  (ess_one (es_ret ee_bl))
  ess_nil)))))))
  (ess_one (es_ret ee_bl)))))))))))))))))))
theorem ok__law_yard_right (h : Hd K mg) (hT : TabAll K mg base) : FOk P w K mg base 7 (He.ga K "_law_yard_right") 1 f__law_yard_right :=
  fok_ofM (N := N__law_yard_right) (ps := ["_law_turn"]) (n := "_law_yard_right") m__law_yard_right (by decide) hT h.F__law_yard_right sc__law_yard_right rfl rfl bd__law_yard_right (b__law_yard_right h hT)
def m_law : SM := (sSeq (sSet 1 (eIf (tAndD (t2 neG (eVar 0) (eLst false aNil)) (t2 eqG (e2 false modG (e2 false ixG (eVar 0) (eC (.int 0))) (eC (.int 2))) (eC (.int 1)))) (eC (.str "left")) (eC (.str "right"))))
  (sSeq (sIf (tOrD (tNotD (tOf (eCallP 1 f__law_deeds_right (aCons (eVar 1) aNil)))) (tNotD (tOf (eCallP 1 f__law_orders_right (aCons (eVar 1) aNil)))))
  (sRet (eC (.bl false)))
  sNil)
  (sRet (eAnd (eCallP 1 f__law_counted_right (aCons (eVar 1) aNil)) (eCallP 1 f__law_yard_right (aCons (eVar 1) aNil))))))
def f_law : FM := fnM 1 m_law
def N_law : List Str := ["_law_script", "_law_turn"]
theorem sc_law : FnScope N_law ["_law_script"] (defScope s_law) := ⟨rfl, rfl, rfl, by decide, by decide, by decide, by decide⟩
theorem bd_law (kV doc pm : Value) (an : Option Addr) (cdv ct : Value) (us : List Value) (hl : us.length = (["_law_script"] : List Str).length) : bindArgs (PySem.W.fnOf "law" "law" (defArgs s_law) (defBody s_law) (defScope s_law) .none kV doc pm an cdv ct) ⟨us, []⟩ = pure ((["_law_script"] : List Str).zip us) := match us, hl with | [_], _ => rfl
theorem b_law (h : Hd K mg) (hT : TabAll K mg base) (cdv : Value) (A : Around) (outer : List Env) (s : Shared) (H : Hp) (E : XK) (hG : A.guards = some []) (hr : Room 70 (A.deeper (envOfC "law" (defScope s_law) s.heap.objs.size (He.ga K "law") cdv))) : ESs (cxOf (L2.CX P w) P w K mg base N_law "law" (defScope s_law) (He.ga K "law") cdv A outer s H E) (WD E) (defBody s_law) m_law := by
      have hN : N_law.Nodup := by decide
      have hu := units_of hr
      have hp := passes_of (X := cxOf (L2.CX P w) P w K mg base N_law "law" (defScope s_law) (He.ga K "law") cdv A outer s H E) rfl
      have tk : Takes (cxOf (L2.CX P w) P w K mg base N_law "law" (defScope s_law) (He.ga K "law") cdv A outer s H E) (WD E) := takes_of rfl rfl rfl rfl
      have hc : (cxOf (L2.CX P w) P w K mg base N_law "law" (defScope s_law) (He.ga K "law") cdv A outer s H E).calm = true := rfl
      exact (ess_cons (es_set 1 hN (ee_if (et_w (ew_and (et_cmp (op_neDD hu) (ee_var 0) (ee_lst false ea_nil)) (ew_and1 (et_cmp (op_eqDD hu) (ee_op op_modD false (ee_sub hu (ee_var 0) ee_int) ee_int) ee_int)))) ee_str ee_str))
  (ess_cons (es_if (et_w (ew_or (et_not (et_of (ec_callP tk (ok__law_deeds_right h) (hr.mono (by decide)) h.g__law_deeds_right h.k__law_deeds_right (ea_cons (ee_var 1) ea_nil)))) (ew_or1 (et_not (et_of (ec_callP tk (ok__law_orders_right h) (hr.mono (by decide)) h.g__law_orders_right h.k__law_orders_right (ea_cons (ee_var 1) ea_nil)))))))
  (ess_one (es_ret ee_bl))
  ess_nil)
  (ess_one (es_ret (ee_and (ec_callPG tk hG (ok__law_counted_right h hT) (hr.mono (by decide)) h.g__law_counted_right h.k__law_counted_right (ea_cons (ee_var 1) ea_nil)) (ee_one (ec_callP tk (ok__law_yard_right h hT) (hr.mono (by decide)) h.g__law_yard_right h.k__law_yard_right (ea_cons (ee_var 1) ea_nil))))))))
theorem ok_law (h : Hd K mg) (hT : TabAll K mg base) : FOkG P w K mg base 71 (He.ga K "law") 1 f_law :=
  fokG_of (N := N_law) (ps := ["_law_script"]) m_law h.F_law sc_law rfl rfl bd_law (b_law h hT)
theorem law_all (P : Program) (w : World) (h : Hd K mg) : ∃ fd, (∀ (s : Shared) (u : Value), BindsTo s fd ⟨[u], []⟩ [("_law_script", u)]) ∧ ∀ base : Heap, TabAll K mg base → FnG P w K mg base 71 (He.ga K "law") fd ["_law_script"] (spE ⟨P, w, K⟩ 1 f_law) := by
  obtain ⟨fd, F⟩ := h.F_law
  exact ⟨fd, fun s u => F.bindsA bd_law s [u] rfl, fun base hT => fnG_ok m_law F sc_law rfl rfl (b_law h hT)⟩
end
end Lw

namespace Lw
open PySem Tb
def isTrR : Res D → Bool
  | .ok (.bl true) _ => true
  | _ => false
theorem isTrR_ok {r : Res D} (h : isTrR r = true) : ∃ lh, r = .ok (.bl true) lh := by
  unfold isTrR at h
  split at h
  · exact ⟨_, rfl⟩
  · cases h
theorem deeds_l : isTrR (f__law_deeds_right [.str "left"] []) = true := by kernel_rfl
theorem deeds_r : isTrR (f__law_deeds_right [.str "right"] []) = true := by kernel_rfl
theorem yard_l : isTrR (f__law_yard_right [.str "left"] []) = true := by kernel_rfl
theorem yard_r : isTrR (f__law_yard_right [.str "right"] []) = true := by kernel_rfl
end Lw

namespace Lw
open PySem Tb
theorem counted_l : isTrR (f__law_counted_right [.str "left"] []) = true := by kernel_rfl
theorem counted_r : isTrR (f__law_counted_right [.str "right"] []) = true := by kernel_rfl
end Lw

namespace Lw
open PySem Tb
theorem orders_l : isTrR (f__law_orders_right [.str "left"] []) = true := by kernel_rfl
theorem orders_r : isTrR (f__law_orders_right [.str "right"] []) = true := by kernel_rfl
end Lw

/-! The mirrors computed: equations for simp. -/
namespace Tb
open PySem
section
variable {τ : Tau} {lh : LH} {al : Bool}
@[simp] theorem z_var {i : Nat} : eVar i τ lh = (match τ[i]? with | some (some d) => .ok d lh | _ => .stuck) := rfl
@[simp] theorem z_c {d : D} : eC d τ lh = .ok d lh := rfl
@[simp] theorem z_ok {α β : Type} {a : α} {f : α → LH → Res β} : (Res.ok a lh).bind f = f a lh := rfl
@[simp] theorem z_ex {α β : Type} {c : Str} {f : α → LH → Res β} : (Res.exc c lh : Res α).bind f = .exc c lh := rfl
@[simp] theorem z_rv {d : D} : (Ro.v d).res al lh = .ok d lh := rfl
@[simp] theorem z_rl {ds : List D} : (Ro.l ds).res false lh = .ok (.lst ds) lh := rfl
@[simp] theorem z_rl2 {ds : List D} : (Ro.l ds).res true lh = .ok (.loc lh.length) (lh ++ [.lst ds]) := rfl
@[simp] theorem z_e2 {g : LH → D → D → Ro} {a b : EM} : e2 al g a b τ lh = (a τ lh).bind fun d lh => (b τ lh).bind fun e lh => (g lh d e).res al lh := rfl
@[simp] theorem z_e1 {g : LH → D → Ro} {a : EM} : e1 al g a τ lh = (a τ lh).bind fun d lh => (g lh d).res al lh := rfl
@[simp] theorem z_an : aNil τ lh = .ok [] lh := rfl
@[simp] theorem z_ac {m : EM} {r : AM} : aCons m r τ lh = (m τ lh).bind fun d lh => (r τ lh).bind fun ds lh => .ok (d :: ds) lh := rfl
theorem two_le : (16 : Nat) ≤ sizeLine := by decide
@[simp] theorem z_tup {r : AM} : eTup r τ lh = (r τ lh).bind fun ds lh => if ds.length ≤ sizeLine then .ok (.tup ds) lh else .stuck := rfl
@[simp] theorem z_lst {r : AM} : eLst al r τ lh = (r τ lh).bind fun ds lh => if ds.length ≤ sizeLine then (Ro.l ds).res al lh else .stuck := rfl
@[simp] theorem z_call {g : LH → List D → Ro} {r : AM} : eCall al g r τ lh = (r τ lh).bind fun ds lh => (g lh ds).res al lh := rfl
@[simp] theorem z_callP {n : Nat} {f : FM} {r : AM} : eCallP n f r τ lh = (r τ lh).bind fun ds lh => if ds.length = n then callP f ds lh else .stuck := rfl
@[simp] theorem z_callS {n : Nat} {f : FM} {r : AM} : eCallS n f r τ lh = (r τ lh).bind fun ds lh => if ds.length = n then f ds lh else .stuck := rfl
@[simp] theorem z_of {m : EM} : tOf m τ lh = (m τ lh).bind fun d lh => (match truD lh d with | some b => .ok b lh | none => .stuck) := rfl
@[simp] theorem z_t2 {g : LH → D → D → Ro} {a b : EM} : t2 g a b τ lh = (a τ lh).bind fun d lh => (b τ lh).bind fun e lh => (match g lh d e with | .v (.bl b) => .ok b lh | _ => .stuck) := rfl
@[simp] theorem z_and {a b : TM} : tAndD a b τ lh = (a τ lh).bind fun x lh => if x = true then b τ lh else .ok false lh := rfl
@[simp] theorem z_or {a b : TM} : tOrD a b τ lh = (a τ lh).bind fun x lh => if x = true then .ok true lh else b τ lh := rfl
@[simp] theorem z_not {a : TM} : tNotD a τ lh = (a τ lh).bind fun x lh => .ok (!x) lh := rfl
@[simp] theorem z_if {c : TM} {a b : EM} : eIf c a b τ lh = (c τ lh).bind fun x lh => if x = true then a τ lh else b τ lh := rfl
@[simp] theorem z_eand {a b : EM} : eAnd a b τ lh = (a τ lh).bind fun d lh => (match truD lh d with | some true => b τ lh | some false => .ok d lh | none => .stuck) := rfl
@[simp] theorem z_eor {a b : EM} : eOr a b τ lh = (a τ lh).bind fun d lh => (match truD lh d with | some true => .ok d lh | some false => b τ lh | none => .stuck) := rfl
@[simp] theorem z_enot {a : EM} : eNot a τ lh = (a τ lh).bind fun d lh => (match truD lh d with | some b => .ok (.bl (!b)) lh | none => .stuck) := rfl
@[simp] theorem z_sl {m : EM} {lo hi : OM} : eSl al m lo hi τ lh = (m τ lh).bind fun d lh => (lo τ lh).bind fun l lh => (hi τ lh).bind fun h lh => (slG lh d l h).res al lh := rfl
@[simp] theorem z_on : oNone τ lh = .ok none lh := rfl
@[simp] theorem z_os {m : EM} : oSome m τ lh = (m τ lh).bind fun d lh => (match d with | .int i => .ok (some i) lh | _ => .stuck) := rfl
@[simp] theorem z_nil : sNil τ lh = .nx τ lh := rfl
@[simp] theorem z_seq {a b : SM} : sSeq a b τ lh = (a τ lh).seq b := rfl
@[simp] theorem z_sq1 {f : Tau → LH → SRes} : (SRes.nx τ lh).seq f = f τ lh := rfl
@[simp] theorem z_sq2 {d : D} {f : Tau → LH → SRes} : (SRes.rt d lh).seq f = .rt d lh := rfl
@[simp] theorem z_toS {α : Type} {a : α} {k : α → LH → SRes} : (Res.ok a lh).toS τ k = k a lh := rfl
@[simp] theorem z_drop {m : EM} : sDrop m τ lh = (m τ lh).toS τ fun _ lh => .nx τ lh := rfl
@[simp] theorem z_ret {m : EM} : sRet m τ lh = (m τ lh).toS τ fun d lh => .rt d lh := rfl
@[simp] theorem z_sif {c : TM} {a b : SM} : sIf c a b τ lh = (c τ lh).toS τ fun x lh => if x = true then a τ lh else b τ lh := rfl
@[simp] theorem z_set {i : Nat} {m : EM} : sSet i m τ lh = (m τ lh).toS τ fun d lh => .nx (τ.set i (some d)) lh := rfl
@[simp] theorem z_asg {g : GB} {m : EM} : sAsg g m τ lh = (m τ lh).toS τ fun d lh => (match g lh d with | some bs => .nx (setAll τ (bs.map (·.1)) (bs.map (·.2))) lh | none => .stuck) := rfl
@[simp] theorem z_par {is : List Nat} {m : AM} : sPar is m τ lh = (m τ lh).toS τ fun ds lh => if ds.length = is.length then .nx (setAll τ is ds) lh else .stuck := rfl
@[simp] theorem z_for {n : Nat} {m : IM} {g : GB} {b : SM} : sFor n m g b τ lh = (m τ lh).toS τ fun it lh => sForW n g b it τ lh := rfl
@[simp] theorem z_iof {m : EM} : iOf m τ lh = (m τ lh).bind fun d lh => (match d with | .loc n => if (lstAt lh n).isSome = true then .ok (.dy n) lh else .stuck | d => (match asS lh d with | some ds => .ok (.st ds) lh | none => .stuck)) := rfl
@[simp] theorem z_gn {i : Nat} {d : D} : gbName i lh d = some [(i, d)] := rfl
@[simp] theorem z_gnil : gbNil lh [] = some [] := rfl
@[simp] theorem z_gc {g : GB} {gs : GBs} {d : D} {ds : List D} : gbCons g gs lh (d :: ds) = (match g lh d with | some b => (match gs lh ds with | some bs => some (b ++ bs) | none => none) | none => none) := rfl
@[simp] theorem z_gt {gs : GBs} {ds : List D} : gbTup gs lh (.tup ds) = gs lh ds := rfl
@[simp] theorem z_sa0 {α : Type} {σ : List (Option α)} {ws : List α} : setAll σ [] ws = σ := by unfold setAll; rfl
@[simp] theorem z_sa {α : Type} {σ : List (Option α)} {i : Nat} {is : List Nat} {w : α} {ws : List α} : setAll σ (i :: is) (w :: ws) = setAll (σ.set i (some w)) is ws := rfl
@[simp] theorem z_add {i j : Int} : addG lh (.int i) (.int j) = .v (.int (i + j)) := rfl
@[simp] theorem z_addT {xs ys : List D} : addG lh (.tup xs) (.tup ys) = if xs.length + ys.length ≤ sizeLine then .v (.tup (xs ++ ys)) else .no := rfl
@[simp] theorem z_sub {i j : Int} : subG lh (.int i) (.int j) = .v (.int (i - j)) := rfl
@[simp] theorem z_mul {i j : Int} : mulG lh (.int i) (.int j) = if (-(2 ^ 64) < i ∧ i < 2 ^ 64) ∨ (-(2 ^ 64) < j ∧ j < 2 ^ 64) then .v (.int (i * j)) else .no := rfl
@[simp] theorem z_mod {i j : Int} : modG lh (.int i) (.int j) = if j ≠ 0 then .v (.int (i.fmod j)) else .no := rfl
@[simp] theorem z_fdiv {i j : Int} : fdivG lh (.int i) (.int j) = if j ≠ 0 ∧ j.natAbs < 1073741824 then .v (.int (i.fdiv j)) else .no := rfl
@[simp] theorem z_neg {i : Int} : negG lh (.int i) = .v (.int (-i)) := rfl
@[simp] theorem z_lt {i j : Int} : ltG lh (.int i) (.int j) = .v (.bl (decide (i < j))) := rfl
@[simp] theorem z_le {i j : Int} : leG lh (.int i) (.int j) = .v (.bl (decide (i ≤ j))) := rfl
@[simp] theorem z_gt' {i j : Int} : gtG lh (.int i) (.int j) = .v (.bl (decide (j < i))) := rfl
@[simp] theorem z_ge {i j : Int} : geG lh (.int i) (.int j) = .v (.bl (decide (j ≤ i))) := rfl
@[simp] theorem z_eqI {i j : Int} : eqG lh (.int i) (.int j) = .v (.bl (i == j)) := rfl
@[simp] theorem z_neI {i j : Int} : neG lh (.int i) (.int j) = .v (.bl (!(i == j))) := rfl
@[simp] theorem q_left_left : eqG lh (.str "left") (.str "left") = .v (.bl true) := by kernel_rfl
@[simp] theorem q_left_right : eqG lh (.str "left") (.str "right") = .v (.bl false) := by kernel_rfl
@[simp] theorem q_left_take : eqG lh (.str "left") (.str "take") = .v (.bl false) := by kernel_rfl
@[simp] theorem q_left_put : eqG lh (.str "left") (.str "put") = .v (.bl false) := by kernel_rfl
@[simp] theorem q_left_out : eqG lh (.str "left") (.str "out") = .v (.bl false) := by kernel_rfl
@[simp] theorem q_right_left : eqG lh (.str "right") (.str "left") = .v (.bl false) := by kernel_rfl
@[simp] theorem q_right_right : eqG lh (.str "right") (.str "right") = .v (.bl true) := by kernel_rfl
@[simp] theorem q_right_take : eqG lh (.str "right") (.str "take") = .v (.bl false) := by kernel_rfl
@[simp] theorem q_right_put : eqG lh (.str "right") (.str "put") = .v (.bl false) := by kernel_rfl
@[simp] theorem q_right_out : eqG lh (.str "right") (.str "out") = .v (.bl false) := by kernel_rfl
@[simp] theorem q_take_left : eqG lh (.str "take") (.str "left") = .v (.bl false) := by kernel_rfl
@[simp] theorem q_take_right : eqG lh (.str "take") (.str "right") = .v (.bl false) := by kernel_rfl
@[simp] theorem q_take_take : eqG lh (.str "take") (.str "take") = .v (.bl true) := by kernel_rfl
@[simp] theorem q_take_put : eqG lh (.str "take") (.str "put") = .v (.bl false) := by kernel_rfl
@[simp] theorem q_take_out : eqG lh (.str "take") (.str "out") = .v (.bl false) := by kernel_rfl
@[simp] theorem q_put_left : eqG lh (.str "put") (.str "left") = .v (.bl false) := by kernel_rfl
@[simp] theorem q_put_right : eqG lh (.str "put") (.str "right") = .v (.bl false) := by kernel_rfl
@[simp] theorem q_put_take : eqG lh (.str "put") (.str "take") = .v (.bl false) := by kernel_rfl
@[simp] theorem q_put_put : eqG lh (.str "put") (.str "put") = .v (.bl true) := by kernel_rfl
@[simp] theorem q_put_out : eqG lh (.str "put") (.str "out") = .v (.bl false) := by kernel_rfl
@[simp] theorem q_out_left : eqG lh (.str "out") (.str "left") = .v (.bl false) := by kernel_rfl
@[simp] theorem q_out_right : eqG lh (.str "out") (.str "right") = .v (.bl false) := by kernel_rfl
@[simp] theorem q_out_take : eqG lh (.str "out") (.str "take") = .v (.bl false) := by kernel_rfl
@[simp] theorem q_out_put : eqG lh (.str "out") (.str "put") = .v (.bl false) := by kernel_rfl
@[simp] theorem q_out_out : eqG lh (.str "out") (.str "out") = .v (.bl true) := by kernel_rfl
/-- at a place from the left -/
theorem ix_nat {xs : List D} {i : Nat} {z : D} (h : xs[i]? = some z) : L2.atI xs (i : Int) = some z := by
  obtain ⟨hi, e⟩ := List.getElem?_eq_some_iff.mp h
  unfold L2.atI L2.ixN
  rw [if_pos (by omega), if_pos (by omega)]
  simpa using h
theorem z_ixT {xs : List D} {i : Nat} {z : D} (h : xs[i]? = some z) : ixG lh (.tup xs) (.int (i : Int)) = .v z := by
  unfold ixG asS
  simp [ix_nat h]
theorem z_ixL {xs : List D} {i : Nat} {z : D} (h : xs[i]? = some z) : ixG lh (.lst xs) (.int (i : Int)) = .v z := by
  unfold ixG asS asL
  simp [ix_nat h]
theorem cut_to {xs : List D} {i : Nat} (h : i ≤ xs.length) : cutD xs none (some (i : Int)) = xs.take i := by
  unfold cutD
  rw [HT.sIx_nat, HT.sIx_none]
  simp [Nat.min_eq_left h]
theorem cut_from {xs : List D} {i : Nat} (h : i ≤ xs.length) : cutD xs (some (i : Int)) none = xs.drop i := by
  unfold cutD
  rw [HT.sIx_nat, HT.sIx_none, Nat.min_eq_left h, List.take_of_length_le (by simp)]
theorem put_at {xs : List D} {i : Nat} (h : i < xs.length) (z : D) : xs.take i ++ z :: xs.drop (i + 1) = xs.set i z := by
  rw [List.set_eq_take_append_cons_drop, if_pos h]
end
/-! ### how data is told -/
def rowD (r : List Int) : D := .tup (r.map .int)
def standD (rows : List (List Int)) (place : Int) (e : Int) : D := .tup [.tup (rows.map rowD), .int place, .int e]
def lineD (q : Int × List Int) : D := .tup [.int q.1, rowD q.2]
def linesD (ls : List (Int × List Int)) : D := .lst (ls.map lineD)
theorem toP_ints (lh : LH) (n : Nat) : ∀ r : List Int, mapO (toP lh (n + 1)) (r.map D.int) = some (r.map PyData.int)
  | [] => rfl
  | a :: r => by
    have := toP_ints lh n r
    simp only [List.map_cons, mapO, toP] at this ⊢
    rw [this]
theorem canLay_ints : ∀ r : List Int, PyData.canLayAll0 (r.map PyData.int) = true
  | [] => rfl
  | a :: r => by
    simp only [List.map_cons, PyData.canLayAll0, canLay_ints r, PyData.canLay0, Bool.and_self]
theorem shaped_row (r : List Int) : SeqAt.shaped (.tuple (r.map PyData.int)) = true := by
  unfold SeqAt.shaped
  have h1 : (PyData.tuple (r.map PyData.int)).canLay0 = true := by simp only [PyData.canLay0]; exact canLay_ints r
  have h2 : (PyData.tuple (r.map PyData.int)).depth ≤ 64 := by
    simp only [PyData.depth, PySem.W.depth_ints r]
    omega
  rw [h1]
  simp [h2]
theorem toP_row (lh : LH) (n : Nat) (r : List Int) : toP lh (n + 2) (rowD r) = some (.tuple (r.map PyData.int)) := by
  show (match mapO (toP lh (n + 1)) (r.map D.int) with
    | some ks => some (PyData.tuple ks)
    | none => none) = _
  rw [toP_ints]
theorem eq_row0 {lh : LH} (r : List Int) : eqG lh (rowD r) (.tup []) = .v (.bl r.isEmpty) := by
  unfold eqG
  rw [show fuel = 10 + 2 from rfl, toP_row, show toP lh (10 + 2) (.tup []) = some (.tuple ([].map PyData.int)) from rfl]
  simp only [shaped_row, and_self, if_true]
  cases r <;> rfl
@[simp] theorem z_slT {lh : LH} {xs : List D} {l h : Option Int} : slG lh (.tup xs) l h = .v (.tup (cutD xs l h)) := rfl
@[simp] theorem z_slL {lh : LH} {xs : List D} {l h : Option Int} : slG lh (.lst xs) l h = .l (cutD xs l h) := rfl
theorem cut_one (x : D) (xs : List D) : cutD (x :: xs) (some 1) none = xs := by
  have := cut_from (xs := x :: xs) (i := 1) (by simp)
  simpa using this
theorem cut_from1 {xs : List D} {i : Nat} (h : i < xs.length) : cutD xs (some ((i : Int) + 1)) none = xs.drop (i + 1) := cut_from (xs := xs) (i := i + 1) h
theorem le3 {n : Nat} (h : n ≤ 3) : n ≤ sizeLine := Nat.le_trans h (by decide)
theorem add_a {lh : LH} {xs : List D} {i : Nat} (h : i < xs.length) (h3 : xs.length ≤ 3) (z : D) : addG lh (.tup (xs.take i)) (.tup [z]) = .v (.tup (xs.take i ++ [z])) := by
  rw [z_addT, if_pos (le3 (by simp; omega))]
theorem add_b {lh : LH} {xs : List D} {i : Nat} (h : i < xs.length) (h3 : xs.length ≤ 3) (z : D) : addG lh (.tup (xs.take i ++ [z])) (.tup (xs.drop (i + 1))) = .v (.tup (xs.set i z)) := by
  rw [z_addT, if_pos (le3 (by simp; omega)), ← put_at h z, List.append_assoc]
  rfl
theorem ix_head {lh : LH} {x : D} {xs : List D} : ixG lh (.tup (x :: xs)) (.int 0) = .v x := z_ixT (i := 0) rfl
theorem rowD_cons (a : Int) (r : List Int) : rowD (a :: r) = .tup (.int a :: r.map .int) := rfl
@[simp] theorem n_left {lh : LH} : inG lh (.str "left") (.tup [.str "left", .str "right"]) = .v (.bl true) := by kernel_rfl
@[simp] theorem n_right {lh : LH} : inG lh (.str "right") (.tup [.str "left", .str "right"]) = .v (.bl true) := by kernel_rfl
@[simp] theorem n_take {lh : LH} : inG lh (.str "take") (.tup [.str "left", .str "right"]) = .v (.bl false) := by kernel_rfl
@[simp] theorem n_put {lh : LH} : inG lh (.str "put") (.tup [.str "left", .str "right"]) = .v (.bl false) := by kernel_rfl
@[simp] theorem n_out {lh : LH} : inG lh (.str "out") (.tup [.str "left", .str "right"]) = .v (.bl false) := by kernel_rfl
theorem ne_row0 {lh : LH} (r : List Int) : neG lh (rowD r) (.tup []) = .v (.bl (!r.isEmpty)) := by
  unfold neG
  rw [show fuel = 10 + 2 from rfl, toP_row, show toP lh (10 + 2) (.tup []) = some (.tuple ([].map PyData.int)) from rfl]
  simp only [shaped_row, and_self, if_true]
  cases r <;> rfl
theorem z_ix0 {xs : List D} {i : Nat} {z : D} (h : xs[i]? = some z) : ixG [.lst xs] (.loc 0) (.int (i : Int)) = .v z := by
  unfold ixG asS
  simp [asL, lstAt, ix_nat h]
theorem z_set0 {xs : List D} {i : Nat} (h : i < xs.length) (f : D) : setG [.lst xs] (.loc 0) (.int (i : Int)) f = some [.lst (xs.set i f)] := by
  unfold setG locL
  simp [lstAt, L2.ixN, h]
@[simp] theorem z_put {τ : Tau} {lh : LH} {m mo mi : EM} : sPut m mo mi τ lh = (m τ lh).toS τ fun f lh => (match mo τ lh with
  | .ok d lh => (match mi τ lh with
    | .ok e lh => (match setG lh d e f with
      | some lh => .nx τ lh
      | none => .stuck)
    | _ => .stuck)
  | _ => .stuck) := rfl
end Tb

/-! Types of plain Lean told as data; loops. -/
namespace Tb
open PySem

theorem mapO_map {α β γ : Type} {f : β → Option γ} {g : α → β} {h : α → γ} : ∀ {l : List α}, (∀ a ∈ l, f (g a) = some (h a)) → mapO f (l.map g) = some (l.map h)
  | [], _ => rfl
  | a :: l, H => by
    have ih := mapO_map (f := f) (g := g) (h := h) (l := l) fun b hb => H b (List.mem_cons_of_mem _ hb)
    simp only [List.map_cons, mapO, H a List.mem_cons_self, ih]
structure Enc (α : Type) where
  d : α → D
  p : α → PyData
  k : Nat
  toP : ∀ lh n a, toP lh (n + k) (d a) = some (p a)
  frz : ∀ lh n a, frz lh (n + k) (d a) = some (d a)
  lay : ∀ a, (p a).canLay0 = true
  dep : ∀ a, (p a).depth ≤ k
  eqv : ∀ a b, PyData.eqv (p a) (p b) = true ↔ a = b
  alk : ∀ a b, PySem.W.alike (p a) (p b) = true
namespace Enc
variable {α β γ : Type}
def int : Enc Int where
  d := .int
  p := .int
  k := 1
  toP _ _ _ := rfl
  frz _ _ _ := rfl
  lay _ := by simp [PyData.canLay0]
  dep _ := by simp [PyData.depth]
  eqv a b := by simp [PyData.eqv]
  alk a b := by simp [PySem.W.alike]
def nat : Enc Nat where
  d i := .int (i : Int)
  p i := .int (i : Int)
  k := 1
  toP _ _ _ := rfl
  frz _ _ _ := rfl
  lay _ := by simp [PyData.canLay0]
  dep _ := by simp [PyData.depth]
  eqv a b := by simp only [PyData.eqv, beq_iff_eq]; omega
  alk a b := by simp [PySem.W.alike]
def bool : Enc Bool where
  d := .bl
  p := .bool
  k := 1
  toP _ _ _ := rfl
  frz _ _ _ := rfl
  lay _ := by simp [PyData.canLay0]
  dep _ := by simp [PyData.depth]
  eqv a b := by simp [PyData.eqv]
  alk a b := by simp [PySem.W.alike]
/-- texts of a kind -/
def str (f : α → Str) (h : ∀ a, PyData.strOk (f a) = true) (inj : ∀ a b, f a = f b → a = b) : Enc α where
  d a := .str (f a)
  p a := .str (f a)
  k := 1
  toP _ _ _ := rfl
  frz _ _ _ := rfl
  lay a := by simp [PyData.canLay0, h]
  dep _ := by simp [PyData.depth]
  eqv a b := by
    simp only [PyData.eqv, beq_iff_eq]
    exact ⟨inj a b, fun e => by rw [e]⟩
  alk a b := by simp [PySem.W.alike]
theorem layAll (p : α → PyData) (h : ∀ a, (p a).canLay0 = true) : ∀ l : List α, PyData.canLayAll0 (l.map p) = true
  | [] => by simp [PyData.canLayAll0]
  | a :: l => by simp [PyData.canLayAll0, h, layAll p h l]
theorem depAll (p : α → PyData) (k : Nat) (h : ∀ a, (p a).depth ≤ k) : ∀ l : List α, PyData.depthAll (l.map p) ≤ k
  | [] => by simp [PyData.depthAll]
  | a :: l => by
    have h1 := h a
    have h2 := depAll p k h l
    simp only [List.map_cons, PyData.depthAll]
    omega
theorem eqvAll (p : α → PyData) (h : ∀ a b, PyData.eqv (p a) (p b) = true ↔ a = b) : ∀ l m : List α, PyData.eqvAll (l.map p) (m.map p) = true ↔ l = m
  | [], [] => by simp [PyData.eqvAll]
  | [], _ :: _ => by simp [PyData.eqvAll]
  | _ :: _, [] => by simp [PyData.eqvAll]
  | a :: l, b :: m => by simp [PyData.eqvAll, h, eqvAll p h l m]
theorem alkAll (p : α → PyData) (h : ∀ a b, PySem.W.alike (p a) (p b) = true) : ∀ l m : List α, PySem.W.alikeAll (l.map p) (m.map p) = true
  | [], [] => by simp [PySem.W.alikeAll]
  | [], _ :: _ => by simp [PySem.W.alikeAll]
  | _ :: _, [] => by simp [PySem.W.alikeAll]
  | a :: l, b :: m => by simp [PySem.W.alikeAll, h, alkAll p h l m]
def tup (e : Enc α) : Enc (List α) where
  d l := .tup (l.map e.d)
  p l := .tuple (l.map e.p)
  k := e.k + 1
  toP lh n l := by
    show (match mapO (Tb.toP lh (n + e.k)) (l.map e.d) with
      | some ks => some (PyData.tuple ks)
      | none => none) = _
    rw [mapO_map fun a _ => e.toP lh n a]
  frz lh n l := by
    show (match mapO (Tb.frz lh (n + e.k)) (l.map e.d) with
      | some ks => some (D.tup ks)
      | none => none) = _
    rw [mapO_map fun a _ => e.frz lh n a]
  lay l := by simp only [PyData.canLay0]; exact layAll e.p e.lay l
  dep l := by
    have := depAll e.p e.k e.dep l
    simp only [PyData.depth]
    omega
  eqv l m := by simp only [PyData.eqv]; exact eqvAll e.p e.eqv l m
  alk l m := by simp only [PySem.W.alike]; exact alkAll e.p e.alk l m
def lst (e : Enc α) : Enc (List α) where
  d l := .lst (l.map e.d)
  p l := .list (l.map e.p)
  k := e.k + 1
  toP lh n l := by
    show (match mapO (Tb.toP lh (n + e.k)) (l.map e.d) with
      | some ks => some (PyData.list ks)
      | none => none) = _
    rw [mapO_map fun a _ => e.toP lh n a]
  frz lh n l := by
    show (match mapO (Tb.frz lh (n + e.k)) (l.map e.d) with
      | some ks => some (D.lst ks)
      | none => none) = _
    rw [mapO_map fun a _ => e.frz lh n a]
  lay l := by simp only [PyData.canLay0]; exact layAll e.p e.lay l
  dep l := by
    have := depAll e.p e.k e.dep l
    simp only [PyData.depth]
    omega
  eqv l m := by simp only [PyData.eqv]; exact eqvAll e.p e.eqv l m
  alk l m := by simp only [PySem.W.alike]; exact alkAll e.p e.alk l m
theorem up (e : Enc α) (j : Nat) (lh : LH) (n : Nat) (a : α) : Tb.toP lh (n + (e.k + j)) (e.d a) = some (e.p a) := by
  rw [show n + (e.k + j) = (n + j) + e.k by omega]
  exact e.toP lh _ a
theorem upf (e : Enc α) (j : Nat) (lh : LH) (n : Nat) (a : α) : Tb.frz lh (n + (e.k + j)) (e.d a) = some (e.d a) := by
  rw [show n + (e.k + j) = (n + j) + e.k by omega]
  exact e.frz lh _ a
def pair (e : Enc α) (f : Enc β) : Enc (α × β) where
  d q := .tup [e.d q.1, f.d q.2]
  p q := .tuple [e.p q.1, f.p q.2]
  k := (e.k + f.k) + 1
  toP lh n q := by
    have h1 := up e f.k lh n q.1
    have h2 := up f e.k lh n q.2
    rw [Nat.add_comm f.k] at h2
    show (match mapO (Tb.toP lh (n + (e.k + f.k))) [e.d q.1, f.d q.2] with
      | some ks => some (PyData.tuple ks)
      | none => none) = _
    simp only [mapO, h1, h2]
  frz lh n q := by
    have h1 := upf e f.k lh n q.1
    have h2 := upf f e.k lh n q.2
    rw [Nat.add_comm f.k] at h2
    show (match mapO (Tb.frz lh (n + (e.k + f.k))) [e.d q.1, f.d q.2] with
      | some ks => some (D.tup ks)
      | none => none) = _
    simp only [mapO, h1, h2]
  lay q := by simp [PyData.canLay0, PyData.canLayAll0, e.lay, f.lay]
  dep q := by
    have h1 := e.dep q.1
    have h2 := f.dep q.2
    simp only [PyData.depth, PyData.depthAll]
    omega
  eqv q r := by simp [PyData.eqv, PyData.eqvAll, e.eqv, f.eqv, Prod.ext_iff]
  alk q r := by simp [PySem.W.alike, PySem.W.alikeAll, e.alk, f.alk]
def tri (e : Enc α) (f : Enc β) (g : Enc γ) : Enc (α × β × γ) where
  d q := .tup [e.d q.1, f.d q.2.1, g.d q.2.2]
  p q := .tuple [e.p q.1, f.p q.2.1, g.p q.2.2]
  k := (e.k + f.k + g.k) + 1
  toP lh n q := by
    have h1 := up e (f.k + g.k) lh n q.1
    have h2 := up f (e.k + g.k) lh n q.2.1
    have h3 := up g (e.k + f.k) lh n q.2.2
    rw [show e.k + (f.k + g.k) = e.k + f.k + g.k by omega] at h1
    rw [show f.k + (e.k + g.k) = e.k + f.k + g.k by omega] at h2
    rw [show g.k + (e.k + f.k) = e.k + f.k + g.k by omega] at h3
    show (match mapO (Tb.toP lh (n + (e.k + f.k + g.k))) [e.d q.1, f.d q.2.1, g.d q.2.2] with
      | some ks => some (PyData.tuple ks)
      | none => none) = _
    simp only [mapO, h1, h2, h3]
  frz lh n q := by
    have h1 := upf e (f.k + g.k) lh n q.1
    have h2 := upf f (e.k + g.k) lh n q.2.1
    have h3 := upf g (e.k + f.k) lh n q.2.2
    rw [show e.k + (f.k + g.k) = e.k + f.k + g.k by omega] at h1
    rw [show f.k + (e.k + g.k) = e.k + f.k + g.k by omega] at h2
    rw [show g.k + (e.k + f.k) = e.k + f.k + g.k by omega] at h3
    show (match mapO (Tb.frz lh (n + (e.k + f.k + g.k))) [e.d q.1, f.d q.2.1, g.d q.2.2] with
      | some ks => some (D.tup ks)
      | none => none) = _
    simp only [mapO, h1, h2, h3]
  lay q := by simp [PyData.canLay0, PyData.canLayAll0, e.lay, f.lay, g.lay]
  dep q := by
    have h1 := e.dep q.1
    have h2 := f.dep q.2.1
    have h3 := g.dep q.2.2
    simp only [PyData.depth, PyData.depthAll]
    omega
  eqv q r := by simp [PyData.eqv, PyData.eqvAll, e.eqv, f.eqv, g.eqv, Prod.ext_iff]
  alk q r := by simp [PySem.W.alike, PySem.W.alikeAll, e.alk, f.alk, g.alk]
variable (e : Enc α)
theorem toPf (h : e.k ≤ 12) (lh : LH) (a : α) : Tb.toP lh fuel (e.d a) = some (e.p a) := by
  have := e.toP lh (12 - e.k) a
  rw [Nat.sub_add_cancel h] at this
  exact this
theorem frzf (h : e.k ≤ 12) (lh : LH) (a : α) : Tb.frz lh fuel (e.d a) = some (e.d a) := by
  have := e.frz lh (12 - e.k) a
  rw [Nat.sub_add_cancel h] at this
  exact this
theorem frzAt (lh : LH) (n : Nat) (h : e.k ≤ n) (a : α) : Tb.frz lh n (e.d a) = some (e.d a) := by
  have := e.frz lh (n - e.k) a
  rw [Nat.sub_add_cancel h] at this
  exact this
theorem toPAt (lh : LH) (n : Nat) (h : e.k ≤ n) (a : α) : Tb.toP lh n (e.d a) = some (e.p a) := by
  have := e.toP lh (n - e.k) a
  rw [Nat.sub_add_cancel h] at this
  exact this
theorem shp (h : e.k ≤ 12) (a : α) : SeqAt.shaped (e.p a) = true := by
  unfold SeqAt.shaped
  have := e.dep a
  rw [e.lay]
  simp
  omega
theorem eqvD [DecidableEq α] (a b : α) : PyData.eqv (e.p a) (e.p b) = decide (a = b) := by
  have := e.eqv a b
  by_cases h : a = b
  · rw [decide_eq_true h]; exact this.mpr h
  · rw [decide_eq_false h]
    cases q : PyData.eqv (e.p a) (e.p b) with
    | true => exact absurd (this.mp q) h
    | false => rfl
theorem eq [DecidableEq α] (a b : α) (lh : LH) (h : e.k ≤ 12 := by decide) : eqG lh (e.d a) (e.d b) = .v (.bl (decide (a = b))) := by
  unfold eqG
  rw [e.toPf h, e.toPf h]
  simp only [e.shp h, and_self, if_true, e.eqvD]
theorem ne [DecidableEq α] (a b : α) (lh : LH) (h : e.k ≤ 12 := by decide) : neG lh (e.d a) (e.d b) = .v (.bl (!decide (a = b))) := by
  unfold neG
  rw [e.toPf h, e.toPf h]
  simp only [e.shp h, and_self, if_true, e.eqvD]
theorem toPloc (h : e.k ≤ 11) {lh : LH} {n : Nat} {l : List α} (hn : lh[n]? = some (.lst (l.map e.d))) : Tb.toP lh fuel (.loc n) = some (e.lst.p l) := by
  have h' : lstAt lh n = some (l.map e.d) := by unfold lstAt; rw [hn]
  show (match lstAt lh n with
      | some ds => (match mapO (Tb.toP lh 11) ds with
        | some ks => some (PyData.list ks)
        | none => none)
      | none => none) = _
  rw [h']
  simp only
  rw [mapO_map fun a _ => e.toPAt lh 11 h a]
  rfl
theorem eqLoc [DecidableEq α] {lh : LH} {n : Nat} {l : List α} (hn : lh[n]? = some (.lst (l.map e.d))) (m : List α) (h : e.k ≤ 11 := by decide) : eqG lh (.loc n) (.lst (m.map e.d)) = .v (.bl (decide (l = m))) := by
  have h2 : e.lst.k ≤ 12 := by show e.k + 1 ≤ 12; omega
  unfold eqG
  rw [e.toPloc h hn, show D.lst (m.map e.d) = e.lst.d m from rfl, e.lst.toPf h2]
  simp only [e.lst.shp h2, and_self, if_true, e.lst.eqvD]
theorem neLoc [DecidableEq α] {lh : LH} {n : Nat} {l : List α} (hn : lh[n]? = some (.lst (l.map e.d))) (m : List α) (h : e.k ≤ 11 := by decide) : neG lh (.loc n) (.lst (m.map e.d)) = .v (.bl (!decide (l = m))) := by
  have h2 : e.lst.k ≤ 12 := by show e.k + 1 ≤ 12; omega
  unfold neG
  rw [e.toPloc h hn, show D.lst (m.map e.d) = e.lst.d m from rfl, e.lst.toPf h2]
  simp only [e.lst.shp h2, and_self, if_true, e.lst.eqvD]
theorem inL [DecidableEq α] (a : α) (l : List α) (lh : LH) (ha : ∀ ds, e.d a ≠ .tup ds ∨ True := by intros; right; trivial) (h : e.k ≤ 11 := by decide) : inG lh (e.d a) (.lst (l.map e.d)) = .v (.bl (decide (a ∈ l))) := by
  have h2 : e.lst.k ≤ 12 := by show e.k + 1 ≤ 12; omega
  have e1 := e.lst.toPf h2 lh l
  have e2 := e.toPf (by omega) lh a
  show (match Tb.toP lh fuel (e.d a), Tb.toP lh fuel (.lst (l.map e.d)) with
      | some p, some (.list qs) => if SeqAt.shaped p = true ∧ SeqAt.shaped (.list qs) = true then Ro.v (.bl (qs.any fun z => PyData.eqv z p)) else .no
      | _, _ => .no) = _
  rw [e2, show D.lst (l.map e.d) = e.lst.d l from rfl, e1]
  show (if SeqAt.shaped (e.p a) = true ∧ SeqAt.shaped (e.lst.p l) = true then Ro.v (.bl ((l.map e.p).any fun z => PyData.eqv z (e.p a))) else .no) = _
  rw [if_pos ⟨e.shp (by omega) a, e.lst.shp h2 l⟩]
  congr 2
  rw [List.any_map]
  have : ((fun z => PyData.eqv z (e.p a)) ∘ e.p) = fun b => decide (b = a) := by
    funext b
    exact e.eqvD b a
  rw [this]
  by_cases hm : a ∈ l
  · rw [decide_eq_true hm, List.any_eq_true]
    exact ⟨a, hm, by simp⟩
  · rw [decide_eq_false hm, List.any_eq_false]
    intro b hb
    simp only [decide_eq_true_eq]
    rintro rfl
    exact hm hb
/-- in order -/
def lt (a b : α) : Bool := PySem.W.dataLt (e.p a) (e.p b)
def le (a b : α) : Bool := !e.lt b a
theorem isort_map {α β : Type} (f : α → β) (le : α → α → Bool) (le2 : β → β → Bool) (h : ∀ a b, le2 (f a) (f b) = le a b) : ∀ l : List α, isort le2 (l.map f) = (isort le l).map f := by
  have hi : ∀ (a : α) (l : List α), insS le2 (f a) (l.map f) = (insS le a l).map f := by
    intro a l
    induction l with
    | nil => rfl
    | cons b l ih =>
      simp only [List.map_cons, insS, h]
      by_cases q : le a b = true
      · simp [q]
      · simp [q, ih]
  intro l
  induction l with
  | nil => rfl
  | cons a l ih =>
    simp only [List.map_cons, isort, ih, hi]
theorem sort (l : List α) (lh : LH) (hs : (∀ a, tupNe (e.p a) = true) ∨ ∀ a, othB (e.p a) = true) (hl : l.length ≤ sizeLine) (h : e.k ≤ 11 := by decide) : sortG lh [.lst (l.map e.d)] = .l ((isort e.le l).map e.d) := by
  have h1 : mapO (Tb.toP lh fuel) (l.map e.d) = some (l.map e.p) := mapO_map fun a _ => e.toPf (by omega) lh a
  show (match mapO (Tb.toP lh fuel) (l.map e.d) with
      | some ps => if ((ps.all fun p => ps.all fun q => PySem.W.alike p q) && ((ps.all tupNe || ps.all othB) && (decide ((l.map e.d).length ≤ sizeLine) && ps.all fun p => decide (p.depth ≤ 64)))) = true then Ro.l ((isort leP ((l.map e.d).zip ps)).map (fun x : D × PyData => x.1)) else .no
      | none => .no) = _
  rw [h1]
  have c1 : ((l.map e.p).all fun p => (l.map e.p).all fun q => PySem.W.alike p q) = true := by simp [e.alk]
  have c2 : ((l.map e.p).all tupNe || (l.map e.p).all othB) = true := by
    rcases hs with hs | hs
    · simp [hs]
    · simp [hs]
  have c3 : ((l.map e.p).all fun p => decide (p.depth ≤ 64)) = true := by
    simp
    intro a _
    have := e.dep a
    omega
  simp only [c1, c2, c3, List.length_map, hl, decide_true, Bool.and_self, if_true]
  have z : (l.map e.d).zip (l.map e.p) = l.map fun a => ((e.d a, e.p a) : D × PyData) := by
    rw [List.zip_map']
  rw [z, isort_map (fun a => ((e.d a, e.p a) : D × PyData)) e.le leP (fun a b => rfl), List.map_map]
  rfl
end Enc
/-! ### keys -/
structure KEnc {α : Type} (e : Enc α) where
  key : α → NestedKey
  at_ : ∀ n a, toKey (n + e.k) (e.d a) = some (key a)
  inj : ∀ a b, key a = key b → a = b
namespace KEnc
variable {α β γ : Type}
def int : KEnc Enc.int where
  key i := .num i
  at_ _ _ := rfl
  inj a b h := by injection h
def nat : KEnc Enc.nat where
  key i := .num (i : Int)
  at_ _ _ := rfl
  inj a b h := by
    injection h with h
    omega
theorem inj_all {key : α → NestedKey} (h : ∀ a b, key a = key b → a = b) : ∀ l m : List α, l.map key = m.map key → l = m
  | [], [], _ => rfl
  | [], _ :: _, e => by simp at e
  | _ :: _, [], e => by simp at e
  | a :: l, b :: m, e => by
    simp only [List.map_cons, List.cons.injEq] at e
    rw [h a b e.1, inj_all h l m e.2]
def tup {e : Enc α} (q : KEnc e) : KEnc e.tup where
  key l := .tup (l.map q.key)
  at_ n l := by
    show (match mapO (toKey (n + e.k)) (l.map e.d) with
      | some ks => some (NestedKey.tup ks)
      | none => none) = _
    rw [mapO_map fun a _ => q.at_ n a]
  inj l m h := by
    injection h with h
    exact inj_all q.inj l m h
theorem up {e : Enc α} (q : KEnc e) (j n : Nat) (a : α) : toKey (n + (e.k + j)) (e.d a) = some (q.key a) := by
  rw [show n + (e.k + j) = (n + j) + e.k by omega]
  exact q.at_ _ a
def pair {e : Enc α} {f : Enc β} (q : KEnc e) (r : KEnc f) : KEnc (e.pair f) where
  key x := .tup [q.key x.1, r.key x.2]
  at_ n x := by
    have h1 := up q f.k n x.1
    have h2 := up r e.k n x.2
    rw [Nat.add_comm f.k] at h2
    show (match mapO (toKey (n + (e.k + f.k))) [e.d x.1, f.d x.2] with
      | some ks => some (NestedKey.tup ks)
      | none => none) = _
    simp only [mapO, h1, h2]
  inj a b h := by
    injection h with h
    simp only [List.cons.injEq, and_true] at h
    exact Prod.ext (q.inj _ _ h.1) (r.inj _ _ h.2)
def tri {e : Enc α} {f : Enc β} {g : Enc γ} (q : KEnc e) (r : KEnc f) (s : KEnc g) : KEnc (e.tri f g) where
  key x := .tup [q.key x.1, r.key x.2.1, s.key x.2.2]
  at_ n x := by
    have h1 := up q (f.k + g.k) n x.1
    have h2 := up r (e.k + g.k) n x.2.1
    have h3 := up s (e.k + f.k) n x.2.2
    rw [show e.k + (f.k + g.k) = e.k + f.k + g.k by omega] at h1
    rw [show f.k + (e.k + g.k) = e.k + f.k + g.k by omega] at h2
    rw [show g.k + (e.k + f.k) = e.k + f.k + g.k by omega] at h3
    show (match mapO (toKey (n + (e.k + f.k + g.k))) [e.d x.1, f.d x.2.1, g.d x.2.2] with
      | some ks => some (NestedKey.tup ks)
      | none => none) = _
    simp only [mapO, h1, h2, h3]
  inj a b h := by
    injection h with h
    simp only [List.cons.injEq, and_true] at h
    exact Prod.ext (q.inj _ _ h.1) (Prod.ext (r.inj _ _ h.2.1) (s.inj _ _ h.2.2))
variable {e : Enc α} (q : KEnc e)
theorem at8 (h : e.k ≤ 8) (a : α) : toKey 8 (e.d a) = some (q.key a) := by
  have := q.at_ (8 - e.k) a
  rw [Nat.sub_add_cancel h] at this
  exact this
theorem look [DecidableEq α] (h : e.k ≤ 8) (g : β → D) (a : α) : ∀ l : List (α × β), dLook (q.key a) (l.map fun x => e.d x.1) (l.map fun x => g x.2) = (l.lookup a).map g
  | [] => rfl
  | (b, u) :: l => by
    simp only [List.map_cons, dLook, q.at8 h, List.lookup_cons]
    by_cases c : a = b
    · subst c
      simp
    · have : ¬ (some (q.key b) = some (q.key a)) := fun z => c (q.inj _ _ (Option.some.inj z).symm)
      have c2 : (a == b) = false := by simpa using c
      rw [if_neg this, look h g a l, c2]
end KEnc
/-- a key's value is stored -/
def putK {α β : Type} [DecidableEq α] (a : α) (v : β) : List (α × β) → List (α × β)
  | [] => [(a, v)]
  | (b, u) :: l => if b = a then (b, v) :: l else (b, u) :: putK a v l
theorem KEnc.put {α β : Type} [DecidableEq α] {e : Enc α} (q : KEnc e) (h : e.k ≤ 8) (g : β → D) (a : α) (v : β) : ∀ l : List (α × β), dPut (q.key a) (e.d a) (g v) (l.map fun x => e.d x.1) (l.map fun x => g x.2) = ((putK a v l).map (fun x => e.d x.1), (putK a v l).map fun x => g x.2)
  | [] => rfl
  | (b, u) :: l => by
    have ih := KEnc.put q h g a v l
    simp only [List.map_cons, dPut, q.at8 h, putK]
    by_cases c : b = a
    · subst c
      simp
    · have : ¬ (some (q.key b) = some (q.key a)) := fun z => c (q.inj _ _ (Option.some.inj z))
      rw [if_neg this, if_neg c, ih]
      rfl
theorem putK_new {α β : Type} [DecidableEq α] (a : α) (v : β) : ∀ l : List (α × β), a ∉ l.map (·.1) → putK a v l = l ++ [(a, v)]
  | [], _ => rfl
  | (b, u) :: l, h => by
    simp only [List.map_cons, List.mem_cons, not_or] at h
    rw [putK, if_neg (fun z => h.1 z.symm), putK_new a v l h.2]
    rfl
theorem look_isSome {α β : Type} [DecidableEq α] (a : α) : ∀ l : List (α × β), (l.lookup a).isSome = decide (a ∈ l.map (·.1))
  | [] => by simp
  | (b, u) :: l => by
    rw [List.lookup_cons]
    by_cases c : a = b
    · subst c
      simp
    · have : (a == b) = false := by simpa using c
      rw [this]
      simp only [List.map_cons, List.mem_cons, c, false_or]
      exact look_isSome a l
/-! ### more equations -/
section
variable {τ : Tau} {lh : LH} {al : Bool}
@[simp] theorem z_isi {f : Ty → Option Bool} {m : EM} : eIsi f m τ lh = (m τ lh).bind fun d lh => (match tyD lh d with | some t => (match f t with | some b => .ok (.bl b) lh | none => .stuck) | none => .stuck) := rfl
@[simp] theorem z_fldC {cs : List Str} {f : Str} {m : EM} : eFldC cs f m τ lh = (m τ lh).bind fun d lh => (match insAt lh d with
  | some (_, c, fs) => if cs.contains c = true then (match fs.lookup f with
    | some v => .ok v lh
    | none => .stuck) else .stuck
  | none => .stuck) := rfl
@[simp] theorem z_mt {g : LH → List D → D → Option (List D × D)} {mo m : EM} : eMt g mo m τ lh = (mo τ lh).bind fun d lh => (match locL lh d with
  | some (n, _) => (m τ lh).bind fun e lh => (match lstAt lh n with
    | some xs => (match g lh xs e with
      | some (ys, v) => .ok v (lh.set n (.lst ys))
      | none => .stuck)
    | none => .stuck)
  | none => .stuck) := rfl
@[simp] theorem z_mt0 {g : List D → Option (List D × D)} {mo : EM} : eMt0 g mo τ lh = (mo τ lh).bind fun d lh => (match locL lh d with
  | some (n, xs) => (match g xs with
    | some (ys, v) => .ok v (lh.set n (.lst ys))
    | none => .stuck)
  | none => .stuck) := rfl
@[simp] theorem z_make {c : Str} {n : Nat} {f : FM} {m : AM} : eMake c n f m τ lh = (m τ lh).bind fun ds lh => if ds.length + 1 = n then (match f (.loc lh.length :: ds) (lh ++ [.ins c []]) with
  | .ok .non lh' => .ok (.loc lh.length) lh'
  | .exc c lh => .exc c lh
  | _ => .stuck) else .stuck := rfl
@[simp] theorem z_meth {ms : List (Str × FM)} {mn : Str} {n : Nat} {mo : EM} {m : AM} : eMethM ms mn n mo m τ lh = (match mo τ lh with
  | .ok d lh => (match insAt lh d with
    | some (_, c, fs) => if (fs.lookup mn).isNone = true then (match ms.lookup c with
      | some f => (m τ lh).bind fun ds lh => if ds.length + 1 = n then f (d :: ds) lh else .stuck
      | none => .stuck) else .stuck
    | none => .stuck)
  | _ => .stuck) := rfl
@[simp] theorem z_tbl {m : EM} : tBl m τ lh = (m τ lh).bind fun d lh => (match d with | .bl b => .ok b lh | _ => .stuck) := rfl
@[simp] theorem z_chain {g g' : LH → D → D → Ro} {a b c : EM} : eChain g g' a b c τ lh = (a τ lh).bind fun x lh => (b τ lh).bind fun y lh => (match g lh x y with
  | .v (.bl true) => (c τ lh).bind fun z lh => (g' lh y z).res false lh
  | .v (.bl false) => .ok (.bl false) lh
  | _ => .stuck) := rfl
@[simp] theorem z_raise {x : Str} : sRaise x τ lh = .exc x τ lh := rfl
@[simp] theorem z_sq3 {c : Str} {f : Tau → LH → SRes} : (SRes.exc c τ lh).seq f = .exc c τ lh := rfl
@[simp] theorem z_toSx {α : Type} {c : Str} {k : α → LH → SRes} : (Res.exc c lh : Res α).toS τ k = .exc c τ lh := rfl
theorem insH {n : Nat} {c : Str} {fs : List (Str × D)} (h : lh[n]? = some (.ins c fs)) : insAt lh (.loc n) = some (n, c, fs) := by
  unfold insAt
  simp only [h]
@[simp] theorem ins0 {c : Str} {fs : List (Str × D)} {l : LH} : insAt (.ins c fs :: l) (.loc 0) = some (0, c, fs) := rfl
@[simp] theorem ins1 {o : LO} {c : Str} {fs : List (Str × D)} {l : LH} : insAt (o :: .ins c fs :: l) (.loc 1) = some (1, c, fs) := rfl
theorem beqI (a b : Int) : (a == b) = decide (a = b) := by by_cases h : a = b <;> simp [h]
end
/-! ### loops -/
theorem forL_cons {g : GB} {b : SM} {d : D} {ds : List D} {τ : Tau} {lh : LH} : sForL g b (d :: ds) τ lh = stepG g b d τ lh (sForL g b ds) := rfl
theorem forL_nil {g : GB} {b : SM} {τ : Tau} {lh : LH} : sForL g b [] τ lh = .nx τ lh := rfl
theorem forL_inv {g : GB} {b : SM} (I : Tau → LH → Prop) : ∀ {ds : List D}, (∀ d ∈ ds, ∀ τ lh, I τ lh → ∃ bs, g lh d = some bs ∧ ∃ τ' lh', b (setAll τ (bs.map (·.1)) (bs.map (·.2))) lh = .nx τ' lh' ∧ I τ' lh') → ∀ {τ : Tau} {lh : LH}, I τ lh → ∃ τ' lh', sForL g b ds τ lh = .nx τ' lh' ∧ I τ' lh'
  | [], _, τ, lh, h => ⟨τ, lh, rfl, h⟩
  | d :: ds, H, τ, lh, h => by
    obtain ⟨bs, h1, τ1, lh1, h2, h3⟩ := H d List.mem_cons_self τ lh h
    obtain ⟨τ2, lh2, h4, h5⟩ := forL_inv I (ds := ds) (fun d hd => H d (List.mem_cons_of_mem _ hd)) h3
    refine ⟨τ2, lh2, ?_, h5⟩
    rw [forL_cons]
    unfold stepG
    rw [h1]
    simp only [h2]
    exact h4
/-- the list of a comprehension, item by item -/
theorem lcL_map {α β : Type} {f : α → D} {f2 : β → D} {g : GB} {t : TM} {e : EM} {vs : List Nat} {τ : Tau} {lh : LH} (F : α → Option β) : ∀ {l : List α},
    (∀ a ∈ l, ∃ bs, g lh (f a) = some bs ∧ bs.all (fun p => vs.contains p.1) = true ∧ ((F a = none ∧ t (setAll τ (bs.map (·.1)) (bs.map (·.2))) lh = .ok false lh) ∨ ∃ y, F a = some y ∧ t (setAll τ (bs.map (·.1)) (bs.map (·.2))) lh = .ok true lh ∧ e (setAll τ (bs.map (·.1)) (bs.map (·.2))) lh = .ok (f2 y) lh)) →
    lcL g t e vs τ (l.map f) lh = some ((l.filterMap F).map f2, lh)
  | [], _ => rfl
  | a :: l, H => by
    have ih := lcL_map F (f := f) (f2 := f2) (g := g) (t := t) (e := e) (vs := vs) (τ := τ) (lh := lh) (l := l) fun b hb => H b (List.mem_cons_of_mem _ hb)
    obtain ⟨bs, h1, h2, h3⟩ := H a List.mem_cons_self
    show stepL g t e vs τ (f a) lh (lcL g t e vs τ (l.map f)) = _
    unfold stepL
    rw [h1]
    simp only [h2, if_true]
    rcases h3 with ⟨h3, h4⟩ | ⟨y, h3, h4, h5⟩
    · rw [h4]
      simp only [ih, List.filterMap_cons, h3]
    · rw [h4]
      simp only [h5, ih, List.filterMap_cons, h3, List.map_cons]
end Tb

namespace Lw
open PySem Tb
theorem neInts (s t : List Int) (lh : LH) : neG lh (.lst (s.map D.int)) (.lst (t.map D.int)) = .v (.bl (!decide (s = t))) := Enc.int.lst.ne s t lh
theorem callP_of {f : FM} {ds : List D} {d : D} {lh lh' : LH} (h1 : mapO (frz [] fuel) ds = some ds) (h2 : f ds [] = .ok d lh') (h3 : frz lh' fuel d = some d) : callP f ds lh = .ok d lh := by
  unfold callP
  rw [h1]
  simp only [h2, h3]
theorem neScr (ns : List Int) (lh : LH) : neG lh (.scr (ns.map D.int)) (.lst []) = .v (.bl (!decide (ns = []))) := by
  have h := neInts ns [] lh
  exact h
def turnE : EM := eIf (tAndD (t2 neG (eVar 0) (eLst false aNil)) (t2 eqG (e2 false modG (e2 false ixG (eVar 0) (eC (.int 0))) (eC (.int 2))) (eC (.int 1)))) (eC (.str "left")) (eC (.str "right"))
def turnT (ns : List Int) : Str := match ns with
  | [] => "right"
  | n :: _ => if n.fmod 2 = 1 then "left" else "right"
theorem turn_eq (ns : List Int) (x : Option D) : turnE [some (.scr (ns.map D.int)), x] [] = .ok (.str (turnT ns)) [] := by
  have e0 : t2 neG (eVar 0) (eLst false aNil) [some (.scr (ns.map D.int)), x] [] = .ok (!decide (ns = [])) [] := by
    show (match neG [] (.scr (ns.map D.int)) (.lst []) with | .v (.bl b) => Res.ok b [] | _ => .stuck) = _
    rw [neScr]
  cases ns with
  | nil =>
    unfold turnE eIf tAndD
    rw [e0]
    rfl
  | cons n r =>
    have e1 : t2 eqG (e2 false modG (e2 false ixG (eVar 0) (eC (.int 0))) (eC (.int 2))) (eC (.int 1)) [some (.scr ((n :: r).map D.int)), x] [] = .ok (n.fmod 2 == 1) [] := by
      have ix : ixG [] (.scr ((n :: r).map D.int)) (.int 0) = .v (.int n) := by
        have a : L2.atI ((n :: r).map D.int) 0 = some (.int n) := by
          have q : L2.ixN (r.length + 1) 0 = some 0 := by
            unfold L2.ixN
            simp
          simp [L2.atI, q]
        show (match L2.atI ((n :: r).map D.int) 0 with | some z => Ro.v z | none => .no) = _
        rw [a]
      have m0 : e2 false ixG (eVar 0) (eC (.int 0)) [some (.scr ((n :: r).map D.int)), x] [] = .ok (.int n) [] := by
        show (ixG [] (.scr ((n :: r).map D.int)) (.int 0)).res false [] = _
        rw [ix]
        rfl
      have m1 : e2 false modG (e2 false ixG (eVar 0) (eC (.int 0))) (eC (.int 2)) [some (.scr ((n :: r).map D.int)), x] [] = .ok (.int (n.fmod 2)) [] := by
        rw [z_e2, m0]
        rfl
      rw [z_t2, m1]
      rfl
    unfold turnE eIf tAndD
    rw [e0]
    show ((t2 eqG (e2 false modG (e2 false ixG (eVar 0) (eC (.int 0))) (eC (.int 2))) (eC (.int 1)) [some (.scr ((n :: r).map D.int)), x] []).bind fun x lh => _) = _
    rw [e1]
    show (if (n.fmod 2 == 1) = true then _ else _) = Res.ok (D.str (if n.fmod 2 = 1 then "left" else "right")) []
    by_cases h : n.fmod 2 = 1
    · rw [if_pos h, if_pos (by simpa using h)]
      rfl
    · rw [if_neg h, if_neg (by simpa using h)]
      rfl
theorem turnT_or (ns : List Int) : turnT ns = "left" ∨ turnT ns = "right" := by
  cases ns with
  | nil => exact .inr rfl
  | cons n r =>
    show (if n.fmod 2 = 1 then _ else _) = _ ∨ (if n.fmod 2 = 1 then _ else _) = _
    split
    · exact .inl rfl
    · exact .inr rfl
theorem call_true {f : FM} {t : Str} (h : isTrR (f [.str t] []) = true) (lh : LH) : callP f [.str t] lh = .ok (.bl true) lh := by
  obtain ⟨lh', e⟩ := isTrR_ok h
  exact callP_of rfl e rfl
theorem law_of {F1 F2 F3 F4 : FM} {t : Str} {ns : List Int} (h : turnT ns = t) (h1 : callP F1 [.str t] [] = .ok (.bl true) []) (h2 : callP F2 [.str t] [] = .ok (.bl true) []) (h3 : callP F3 [.str t] [] = .ok (.bl true) []) (h4 : callP F4 [.str t] [] = .ok (.bl true) []) :
    fnM 1 (sSeq (sSet 1 turnE)
  (sSeq (sIf (tOrD (tNotD (tOf (eCallP 1 F1 (aCons (eVar 1) aNil)))) (tNotD (tOf (eCallP 1 F2 (aCons (eVar 1) aNil)))))
  (sRet (eC (.bl false)))
  sNil)
  (sRet (eAnd (eCallP 1 F3 (aCons (eVar 1) aNil)) (eCallP 1 F4 (aCons (eVar 1) aNil)))))) [.scr (ns.map D.int)] [] = .ok (.bl true) [] := by
  have w1 : sSet 1 turnE [some (.scr (ns.map D.int)), none] [] = .nx [some (.scr (ns.map D.int)), some (.str t)] [] := by
    rw [z_set, turn_eq, h]
    rfl
  have ar : aCons (eVar 1) aNil [some (.scr (ns.map D.int)), some (.str t)] [] = .ok [.str t] [] := rfl
  have c : ∀ F : FM, callP F [.str t] [] = .ok (.bl true) [] → eCallP 1 F (aCons (eVar 1) aNil) [some (.scr (ns.map D.int)), some (.str t)] [] = .ok (.bl true) [] := fun F hF => by
    rw [z_callP, ar, z_ok, if_pos (show List.length ([.str t] : List D) = 1 from rfl), hF]
  unfold fnM
  show (match (sSeq (sSet 1 turnE) _) [some (.scr (ns.map D.int)), none] [] with
    | .nx _ lh => Res.ok D.non lh | .rt d lh => .ok d lh | .exc c _ lh => .exc c lh | .bk _ _ => .stuck | .stuck => .stuck) = _
  have w2 : (sIf (tOrD (tNotD (tOf (eCallP 1 F1 (aCons (eVar 1) aNil)))) (tNotD (tOf (eCallP 1 F2 (aCons (eVar 1) aNil)))))
  (sRet (eC (.bl false)))
  sNil) [some (.scr (ns.map D.int)), some (.str t)] [] = .nx [some (.scr (ns.map D.int)), some (.str t)] [] := by
    have a1 := c F1 h1
    have a2 := c F2 h2
    generalize eCallP 1 F1 (aCons (eVar 1) aNil) = m1 at a1
    generalize eCallP 1 F2 (aCons (eVar 1) aNil) = m2 at a2
    have t1 : tOf m1 [some (.scr (ns.map D.int)), some (.str t)] [] = .ok true [] := by unfold tOf; rw [a1]; rfl
    have t2 : tOf m2 [some (.scr (ns.map D.int)), some (.str t)] [] = .ok true [] := by unfold tOf; rw [a2]; rfl
    have n1 : tNotD (tOf m1) [some (.scr (ns.map D.int)), some (.str t)] [] = .ok false [] := by rw [z_not, t1]; rfl
    have n2 : tNotD (tOf m2) [some (.scr (ns.map D.int)), some (.str t)] [] = .ok false [] := by rw [z_not, t2]; rfl
    have o : tOrD (tNotD (tOf m1)) (tNotD (tOf m2)) [some (.scr (ns.map D.int)), some (.str t)] [] = .ok false [] := by
      rw [z_or, n1]
      exact n2
    rw [z_sif, o]
    rfl
  have w3 : (sRet (eAnd (eCallP 1 F3 (aCons (eVar 1) aNil)) (eCallP 1 F4 (aCons (eVar 1) aNil)))) [some (.scr (ns.map D.int)), some (.str t)] [] = .rt (.bl true) [] := by
    have a1 := c F3 h3
    have a2 := c F4 h4
    generalize eCallP 1 F3 (aCons (eVar 1) aNil) = m1 at a1
    generalize eCallP 1 F4 (aCons (eVar 1) aNil) = m2 at a2
    have o : eAnd m1 m2 [some (.scr (ns.map D.int)), some (.str t)] [] = .ok (.bl true) [] := by
      unfold eAnd
      rw [a1]
      exact a2
    rw [z_ret, o]
    rfl
  rw [z_seq, w1, z_sq1, z_seq, w2, z_sq1, w3]
theorem law_true (ns : List Int) (hn : ns.length ≤ 63) (hb : ∀ z ∈ ns, Builtin.Int.intBits z ≤ 1048576) : ∃ lh, f_law [.scr (ns.map D.int)] [] = .ok (.bl true) lh := by
  refine ⟨[], ?_⟩
  rcases turnT_or ns with h | h
  · have d1 := call_true deeds_l []
    have d2 := call_true orders_l []
    have d3 := call_true counted_l []
    have d4 := call_true yard_l []
    have k := law_of h d1 d2 d3 d4
    exact k
  · have d1 := call_true deeds_r []
    have d2 := call_true orders_r []
    have d3 := call_true counted_r []
    have d4 := call_true yard_r []
    have k := law_of h d1 d2 d3 d4
    exact k
end Lw

namespace Lw
open PySem PySem.Spec PyProof.Rows L2 Tb
theorem hd_of {w : World} {h : Heap} {K : PySem.W.Frag} {mg : Str → Option Value} (c : He.SaysX H1.fa H1.fn [] [] H1.ex w h K) (hK : K.In h) (G : h.Ns mainGlobals mg) : Hd K mg := by
  have m0 : H1.ex K = true := c.more
  unfold H1.ex at m0
  obtain ⟨x0, m1⟩ := He.ba m0
  obtain ⟨x1, m2⟩ := He.ba m1
  obtain ⟨x2, m3⟩ := He.ba m2
  obtain ⟨x3, m4⟩ := He.ba m3
  obtain ⟨x4, m5⟩ := He.ba m4
  obtain ⟨x5, m6⟩ := He.ba m5
  obtain ⟨x6, m7⟩ := He.ba m6
  obtain ⟨x7, m8⟩ := He.ba m7
  obtain ⟨x8, m9⟩ := He.ba m8
  obtain ⟨x9, m10⟩ := He.ba m9
  obtain ⟨x10, m11⟩ := He.ba m10
  obtain ⟨x11, m12⟩ := He.ba m11
  obtain ⟨x12, m13⟩ := He.ba m12
  obtain ⟨x13, m14⟩ := He.ba m13
  obtain ⟨x14, m15⟩ := He.ba m14
  obtain ⟨x15, m16⟩ := He.ba m15
  obtain ⟨x16, m17⟩ := He.ba m16
  obtain ⟨x17, m18⟩ := He.ba m17
  obtain ⟨x18, m19⟩ := He.ba m18
  obtain ⟨x19, m20⟩ := He.ba m19
  obtain ⟨x20, m21⟩ := He.ba m20
  obtain ⟨x21, m22⟩ := He.ba m21
  obtain ⟨x22, m23⟩ := He.ba m22
  obtain ⟨x23, m24⟩ := He.ba m23
  obtain ⟨x24, m25⟩ := He.ba m24
  obtain ⟨x25, m26⟩ := He.ba m25
  obtain ⟨x26, m27⟩ := He.ba m26
  obtain ⟨x27, m28⟩ := He.ba m27
  obtain ⟨x28, m29⟩ := He.ba m28
  obtain ⟨x29, m30⟩ := He.ba m29
  obtain ⟨x30, m31⟩ := He.ba m30
  obtain ⟨x31, m32⟩ := He.ba m31
  obtain ⟨x32, m33⟩ := He.ba m32
  obtain ⟨x33, m34⟩ := He.ba m33
  obtain ⟨x34, m35⟩ := He.ba m34
  obtain ⟨x35, m36⟩ := He.ba m35
  obtain ⟨x36, m37⟩ := He.ba m36
  obtain ⟨x37, m38⟩ := He.ba m37
  obtain ⟨x38, m39⟩ := He.ba m38
  obtain ⟨x39, m40⟩ := He.ba m39
  obtain ⟨x40, m41⟩ := He.ba m40
  obtain ⟨x41, m42⟩ := He.ba m41
  obtain ⟨x42, m43⟩ := He.ba m42
  obtain ⟨x43, m44⟩ := He.ba m43
  have x44 := m44
  exact {
    f_len := He.free_ok hK G (c.t.d.fact 0)
    f_isinstance := He.free_ok hK G (c.t.d.fact 1)
    f_sorted := He.free_ok hK G (c.t.d.fact 2)
    f_range := He.free_ok hK G (c.t.d.fact 3)
    f_list := He.free_ok hK G (c.t.d.fact 4)
    f_tuple := He.free_ok hK G (c.t.d.fact 5)
    f_sum := He.free_ok hK G (c.t.d.fact 6)
    f_min := He.free_ok hK G (c.t.d.fact 7)
    f_all := He.free_ok hK G (c.t.d.fact 8)
    f_any := He.free_ok hK G (c.t.d.fact 9)
    f_enumerate := He.free_ok hK G (c.t.d.fact 10)
    f_int := He.free_ok hK G (c.t.d.fact 11)
    f_bool := He.free_ok hK G (c.t.d.fact 12)
    f_str := He.free_ok hK G (c.t.d.fact 13)
    f_zip := He.free_ok hK G (c.t.d.fact 14)
    f_set := He.free_ok hK G (c.t.d.fact 15)
    g_is_whole := He.glo_ok hK G (c.t.d.fact 16)
    k_is_whole := He.keep_ok (c.t.d.fact 17)
    g_between := He.glo_ok hK G (c.t.d.fact 18)
    k_between := He.keep_ok (c.t.d.fact 19)
    g_is_count := He.glo_ok hK G (c.t.d.fact 20)
    k_is_count := He.keep_ok (c.t.d.fact 21)
    g_is_line := He.glo_ok hK G (c.t.d.fact 22)
    k_is_line := He.keep_ok (c.t.d.fact 23)
    g_engines_of := He.glo_ok hK G (c.t.d.fact 24)
    k_engines_of := He.keep_ok (c.t.d.fact 25)
    g_check_lines := He.glo_ok hK G (c.t.d.fact 26)
    k_check_lines := He.keep_ok (c.t.d.fact 27)
    g_check_order := He.glo_ok hK G (c.t.d.fact 28)
    k_check_order := He.keep_ok (c.t.d.fact 29)
    g_is_deed := He.glo_ok hK G (c.t.d.fact 30)
    k_is_deed := He.keep_ok (c.t.d.fact 31)
    g_check_deeds := He.glo_ok hK G (c.t.d.fact 32)
    k_check_deeds := He.keep_ok (c.t.d.fact 33)
    g_first_stand := He.glo_ok hK G (c.t.d.fact 34)
    k_first_stand := He.keep_ok (c.t.d.fact 35)
    g_behind := He.glo_ok hK G (c.t.d.fact 36)
    k_behind := He.keep_ok (c.t.d.fact 37)
    g_there := He.glo_ok hK G (c.t.d.fact 38)
    k_there := He.keep_ok (c.t.d.fact 39)
    g_next_of := He.glo_ok hK G (c.t.d.fact 40)
    k_next_of := He.keep_ok (c.t.d.fact 41)
    g_kept := He.glo_ok hK G (c.t.d.fact 42)
    k_kept := He.keep_ok (c.t.d.fact 43)
    g_is_last := He.glo_ok hK G (c.t.d.fact 44)
    k_is_last := He.keep_ok (c.t.d.fact 45)
    g_gone_by := He.glo_ok hK G (c.t.d.fact 46)
    k_gone_by := He.keep_ok (c.t.d.fact 47)
    g_heights_of := He.glo_ok hK G (c.t.d.fact 48)
    k_heights_of := He.keep_ok (c.t.d.fact 49)
    g_brings := He.glo_ok hK G (c.t.d.fact 50)
    k_brings := He.keep_ok (c.t.d.fact 51)
    g_nexts := He.glo_ok hK G (c.t.d.fact 52)
    k_nexts := He.keep_ok (c.t.d.fact 53)
    g_fits := He.glo_ok hK G (c.t.d.fact 54)
    k_fits := He.keep_ok (c.t.d.fact 55)
    g_are_closed := He.glo_ok hK G (c.t.d.fact 56)
    k_are_closed := He.keep_ok (c.t.d.fact 57)
    g_first_wrong := He.glo_ok hK G (c.t.d.fact 58)
    k_first_wrong := He.keep_ok (c.t.d.fact 59)
    g_came := He.glo_ok hK G (c.t.d.fact 60)
    k_came := He.keep_ok (c.t.d.fact 61)
    g_least_way := He.glo_ok hK G (c.t.d.fact 62)
    k_least_way := He.keep_ok (c.t.d.fact 63)
    g_within := He.glo_ok hK G (c.t.d.fact 64)
    k_within := He.keep_ok (c.t.d.fact 65)
    g_fewest := He.glo_ok hK G (c.t.d.fact 66)
    k_fewest := He.keep_ok (c.t.d.fact 67)
    g_turns_of := He.glo_ok hK G (c.t.d.fact 68)
    k_turns_of := He.keep_ok (c.t.d.fact 69)
    g_orders := He.glo_ok hK G (c.t.d.fact 70)
    k_orders := He.keep_ok (c.t.d.fact 71)
    g_ways_on := He.glo_ok hK G (c.t.d.fact 72)
    k_ways_on := He.keep_ok (c.t.d.fact 73)
    g_check_all := He.glo_ok hK G (c.t.d.fact 74)
    k_check_all := He.keep_ok (c.t.d.fact 75)
    g_how_many := He.glo_ok hK G (c.t.d.fact 76)
    k_how_many := He.keep_ok (c.t.d.fact 77)
    g_part_of := He.glo_ok hK G (c.t.d.fact 78)
    k_part_of := He.keep_ok (c.t.d.fact 79)
    g_deeds_by := He.glo_ok hK G (c.t.d.fact 80)
    k_deeds_by := He.keep_ok (c.t.d.fact 81)
    g_number_of := He.glo_ok hK G (c.t.d.fact 82)
    k_number_of := He.keep_ok (c.t.d.fact 83)
    g_judged := He.glo_ok hK G (c.t.d.fact 84)
    k_judged := He.keep_ok (c.t.d.fact 85)
    g__law_word := He.glo_ok hK G (c.t.d.fact 86)
    k__law_word := He.keep_ok (c.t.d.fact 87)
    g__law_three_right := He.glo_ok hK G (c.t.d.fact 88)
    k__law_three_right := He.keep_ok (c.t.d.fact 89)
    g__law_deeds_right := He.glo_ok hK G (c.t.d.fact 90)
    k__law_deeds_right := He.keep_ok (c.t.d.fact 91)
    g__law_within_right := He.glo_ok hK G (c.t.d.fact 92)
    k__law_within_right := He.keep_ok (c.t.d.fact 93)
    g__law_orders_right := He.glo_ok hK G (c.t.d.fact 94)
    k__law_orders_right := He.keep_ok (c.t.d.fact 95)
    g__law_counted_right := He.glo_ok hK G (c.t.d.fact 96)
    k__law_counted_right := He.keep_ok (c.t.d.fact 97)
    g__law_yard_right := He.glo_ok hK G (c.t.d.fact 98)
    k__law_yard_right := He.keep_ok (c.t.d.fact 99)
    g_law := He.glo_ok hK G (c.t.d.fact 100)
    k_law := He.keep_ok (c.t.d.fact 101)
    g_Came := He.glo_ok hK G (c.t.d.fact 102)
    g_Barred := He.glo_ok hK G (c.t.d.fact 103)
    g_Within := He.glo_ok hK G (c.t.d.fact 104)
    g_Beyond := He.glo_ok hK G (c.t.d.fact 105)
    g_Right := He.glo_ok hK G (c.t.d.fact 106)
    g_Wrong := He.glo_ok hK G (c.t.d.fact 107)
    g_Yard := He.glo_ok hK G (c.t.d.fact 108)
    g_BadCount := He.glo_ok hK G (c.t.d.fact 109)
    g_BadDeed := He.glo_ok hK G (c.t.d.fact 110)
    g_BadDeeds := He.glo_ok hK G (c.t.d.fact 111)
    g_BadLines := He.glo_ok hK G (c.t.d.fact 112)
    g_BadNumber := He.glo_ok hK G (c.t.d.fact 113)
    g_BadOrder := He.glo_ok hK G (c.t.d.fact 114)
    g_BadTale := He.glo_ok hK G (c.t.d.fact 115)
    g_CannotBe := He.glo_ok hK G (c.t.d.fact 116)
    g_NotAll := He.glo_ok hK G (c.t.d.fact 117)
    g_BridgeError := He.glo_ok hK G (c.t.d.fact 118)
    c_Came := He.cls_ok (c.t.d.fact 119)
    mk_Came := He.mkr_ok (c.t.d.fact 120)
    c_Barred := He.cls_ok (c.t.d.fact 121)
    mk_Barred := He.mkr_ok (c.t.d.fact 122)
    c_Within := He.cls_ok (c.t.d.fact 123)
    mk_Within := He.mkr_ok (c.t.d.fact 124)
    c_Beyond := He.cls_ok (c.t.d.fact 125)
    mk_Beyond := He.mkr_ok (c.t.d.fact 126)
    c_Right := He.cls_ok (c.t.d.fact 127)
    c_Wrong := He.cls_ok (c.t.d.fact 128)
    mk_Wrong := He.mkr_ok (c.t.d.fact 129)
    c_Yard := He.cls_ok (c.t.d.fact 130)
    mk_Yard := He.mkr_ok (c.t.d.fact 131)
    me_Came_shows := He.meth_ok (c.t.d.fact 132)
    me_Barred_shows := He.meth_ok (c.t.d.fact 133)
    me_Within_shows := He.meth_ok (c.t.d.fact 134)
    me_Beyond_shows := He.meth_ok (c.t.d.fact 135)
    me_Right_shows := He.meth_ok (c.t.d.fact 136)
    me_Wrong_shows := He.meth_ok (c.t.d.fact 137)
    me_Yard_do := He.meth_ok (c.t.d.fact 138)
    me_Yard_now := He.meth_ok (c.t.d.fact 139)
    me_Yard_away := He.meth_ok (c.t.d.fact 140)
    me_Yard_done := He.meth_ok (c.t.d.fact 141)
    me_Yard_tale := He.meth_ok (c.t.d.fact 142)
    e_BadCount := He.exc_ok (c.t.d.fact 143)
    e_BadDeed := He.exc_ok (c.t.d.fact 144)
    e_BadDeeds := He.exc_ok (c.t.d.fact 145)
    e_BadLines := He.exc_ok (c.t.d.fact 146)
    e_BadNumber := He.exc_ok (c.t.d.fact 147)
    e_BadOrder := He.exc_ok (c.t.d.fact 148)
    e_BadTale := He.exc_ok (c.t.d.fact 149)
    e_CannotBe := He.exc_ok (c.t.d.fact 150)
    e_NotAll := He.exc_ok (c.t.d.fact 151)
    at_stand := List.forall_mem_cons.mpr ⟨⟨He.cls_ok (c.t.d.fact 119), He.noat_ok (c.t.d.fact 152)⟩, fun _ z => nomatch z⟩
    at_gone := List.forall_mem_cons.mpr ⟨⟨He.cls_ok (c.t.d.fact 119), He.noat_ok (c.t.d.fact 153)⟩, fun _ z => nomatch z⟩
    at_place := List.forall_mem_cons.mpr ⟨⟨He.cls_ok (c.t.d.fact 121), He.noat_ok (c.t.d.fact 154)⟩, List.forall_mem_cons.mpr ⟨⟨He.cls_ok (c.t.d.fact 128), He.noat_ok (c.t.d.fact 155)⟩, fun _ z => nomatch z⟩⟩
    at_deeds := List.forall_mem_cons.mpr ⟨⟨He.cls_ok (c.t.d.fact 123), He.noat_ok (c.t.d.fact 156)⟩, List.forall_mem_cons.mpr ⟨⟨He.cls_ok (c.t.d.fact 130), He.noat_ok (c.t.d.fact 157)⟩, fun _ z => nomatch z⟩⟩
    at_heights := List.forall_mem_cons.mpr ⟨⟨He.cls_ok (c.t.d.fact 125), He.noat_ok (c.t.d.fact 158)⟩, fun _ z => nomatch z⟩
    at_lines := List.forall_mem_cons.mpr ⟨⟨He.cls_ok (c.t.d.fact 130), He.noat_ok (c.t.d.fact 159)⟩, fun _ z => nomatch z⟩
    at_here := List.forall_mem_cons.mpr ⟨⟨He.cls_ok (c.t.d.fact 130), He.noat_ok (c.t.d.fact 160)⟩, fun _ z => nomatch z⟩
    at_left := List.forall_mem_cons.mpr ⟨⟨He.cls_ok (c.t.d.fact 130), He.noat_ok (c.t.d.fact 161)⟩, fun _ z => nomatch z⟩
    ec_BadCount := excOk_ok x0
    em_BadCount_BridgeError := of_decide_eq_true x1
    ki_BadCount_CannotBe := of_decide_eq_true x2
    ki_BadCount_NotAll := of_decide_eq_true x3
    ec_BadDeed := excOk_ok x4
    em_BadDeed_BridgeError := of_decide_eq_true x5
    ki_BadDeed_CannotBe := of_decide_eq_true x6
    ki_BadDeed_NotAll := of_decide_eq_true x7
    ec_BadDeeds := excOk_ok x8
    em_BadDeeds_BridgeError := of_decide_eq_true x9
    ki_BadDeeds_CannotBe := of_decide_eq_true x10
    ki_BadDeeds_NotAll := of_decide_eq_true x11
    ec_BadLines := excOk_ok x12
    em_BadLines_BridgeError := of_decide_eq_true x13
    ki_BadLines_CannotBe := of_decide_eq_true x14
    ki_BadLines_NotAll := of_decide_eq_true x15
    ec_BadNumber := excOk_ok x16
    em_BadNumber_BridgeError := of_decide_eq_true x17
    ki_BadNumber_CannotBe := of_decide_eq_true x18
    ki_BadNumber_NotAll := of_decide_eq_true x19
    ec_BadOrder := excOk_ok x20
    em_BadOrder_BridgeError := of_decide_eq_true x21
    ki_BadOrder_CannotBe := of_decide_eq_true x22
    ki_BadOrder_NotAll := of_decide_eq_true x23
    ec_BadTale := excOk_ok x24
    em_BadTale_BridgeError := of_decide_eq_true x25
    ki_BadTale_CannotBe := of_decide_eq_true x26
    ki_BadTale_NotAll := of_decide_eq_true x27
    ec_CannotBe := excOk_ok x28
    em_CannotBe_BridgeError := of_decide_eq_true x29
    ki_CannotBe_CannotBe := of_decide_eq_true x30
    ki_CannotBe_NotAll := of_decide_eq_true x31
    ec_NotAll := excOk_ok x32
    em_NotAll_BridgeError := of_decide_eq_true x33
    ki_NotAll_CannotBe := of_decide_eq_true x34
    ki_NotAll_NotAll := of_decide_eq_true x35
    mk_Right := mk0B_ok x36
    is_Barred := ownB_ok (List.forall_mem_cons.mpr ⟨He.cls_ok (c.t.d.fact 119), List.forall_mem_cons.mpr ⟨He.cls_ok (c.t.d.fact 121), List.forall_mem_cons.mpr ⟨He.cls_ok (c.t.d.fact 123), List.forall_mem_cons.mpr ⟨He.cls_ok (c.t.d.fact 125), List.forall_mem_cons.mpr ⟨He.cls_ok (c.t.d.fact 127), List.forall_mem_cons.mpr ⟨He.cls_ok (c.t.d.fact 128), List.forall_mem_cons.mpr ⟨He.cls_ok (c.t.d.fact 130), fun _ z => nomatch z⟩⟩⟩⟩⟩⟩⟩) x37
    is_Beyond := ownB_ok (List.forall_mem_cons.mpr ⟨He.cls_ok (c.t.d.fact 119), List.forall_mem_cons.mpr ⟨He.cls_ok (c.t.d.fact 121), List.forall_mem_cons.mpr ⟨He.cls_ok (c.t.d.fact 123), List.forall_mem_cons.mpr ⟨He.cls_ok (c.t.d.fact 125), List.forall_mem_cons.mpr ⟨He.cls_ok (c.t.d.fact 127), List.forall_mem_cons.mpr ⟨He.cls_ok (c.t.d.fact 128), List.forall_mem_cons.mpr ⟨He.cls_ok (c.t.d.fact 130), fun _ z => nomatch z⟩⟩⟩⟩⟩⟩⟩) x38
    is_Came := ownB_ok (List.forall_mem_cons.mpr ⟨He.cls_ok (c.t.d.fact 119), List.forall_mem_cons.mpr ⟨He.cls_ok (c.t.d.fact 121), List.forall_mem_cons.mpr ⟨He.cls_ok (c.t.d.fact 123), List.forall_mem_cons.mpr ⟨He.cls_ok (c.t.d.fact 125), List.forall_mem_cons.mpr ⟨He.cls_ok (c.t.d.fact 127), List.forall_mem_cons.mpr ⟨He.cls_ok (c.t.d.fact 128), List.forall_mem_cons.mpr ⟨He.cls_ok (c.t.d.fact 130), fun _ z => nomatch z⟩⟩⟩⟩⟩⟩⟩) x39
    is_Right := ownB_ok (List.forall_mem_cons.mpr ⟨He.cls_ok (c.t.d.fact 119), List.forall_mem_cons.mpr ⟨He.cls_ok (c.t.d.fact 121), List.forall_mem_cons.mpr ⟨He.cls_ok (c.t.d.fact 123), List.forall_mem_cons.mpr ⟨He.cls_ok (c.t.d.fact 125), List.forall_mem_cons.mpr ⟨He.cls_ok (c.t.d.fact 127), List.forall_mem_cons.mpr ⟨He.cls_ok (c.t.d.fact 128), List.forall_mem_cons.mpr ⟨He.cls_ok (c.t.d.fact 130), fun _ z => nomatch z⟩⟩⟩⟩⟩⟩⟩) x40
    is_Within := ownB_ok (List.forall_mem_cons.mpr ⟨He.cls_ok (c.t.d.fact 119), List.forall_mem_cons.mpr ⟨He.cls_ok (c.t.d.fact 121), List.forall_mem_cons.mpr ⟨He.cls_ok (c.t.d.fact 123), List.forall_mem_cons.mpr ⟨He.cls_ok (c.t.d.fact 125), List.forall_mem_cons.mpr ⟨He.cls_ok (c.t.d.fact 127), List.forall_mem_cons.mpr ⟨He.cls_ok (c.t.d.fact 128), List.forall_mem_cons.mpr ⟨He.cls_ok (c.t.d.fact 130), fun _ z => nomatch z⟩⟩⟩⟩⟩⟩⟩) x41
    is_Wrong := ownB_ok (List.forall_mem_cons.mpr ⟨He.cls_ok (c.t.d.fact 119), List.forall_mem_cons.mpr ⟨He.cls_ok (c.t.d.fact 121), List.forall_mem_cons.mpr ⟨He.cls_ok (c.t.d.fact 123), List.forall_mem_cons.mpr ⟨He.cls_ok (c.t.d.fact 125), List.forall_mem_cons.mpr ⟨He.cls_ok (c.t.d.fact 127), List.forall_mem_cons.mpr ⟨He.cls_ok (c.t.d.fact 128), List.forall_mem_cons.mpr ⟨He.cls_ok (c.t.d.fact 130), fun _ z => nomatch z⟩⟩⟩⟩⟩⟩⟩) x42
    x_DEEDS := fun X W pos e1 e2 hg => ee_tupG e1 e2 hg (He.glo_ok hK G (c.t.d.fact 162)) x43
    x_MOST := fun X W pos e1 e2 hg => ee_intG e2 hg (He.int_ok hK G (c.t.d.fact 163))
    mkT := x44
    F_is_whole := c.t.d.def_ 0
    F_between := c.t.d.def_ 1
    F_is_count := c.t.d.def_ 2
    F_is_line := c.t.d.def_ 3
    F_engines_of := c.t.d.def_ 4
    F_check_lines := c.t.d.def_ 5
    F_check_order := c.t.d.def_ 6
    F_is_deed := c.t.d.def_ 7
    F_check_deeds := c.t.d.def_ 8
    F_first_stand := c.t.d.def_ 9
    F_behind := c.t.d.def_ 10
    F_there := c.t.d.def_ 11
    F_next_of := c.t.d.def_ 12
    F_kept := c.t.d.def_ 13
    F_is_last := c.t.d.def_ 14
    F_gone_by := c.t.d.def_ 15
    F_heights_of := c.t.d.def_ 16
    F_brings := c.t.d.def_ 17
    F_Came_init := c.t.d.def_ 18
    F_Came_shows := c.t.d.def_ 19
    F_Barred_init := c.t.d.def_ 20
    F_Barred_shows := c.t.d.def_ 21
    F_Within_init := c.t.d.def_ 22
    F_Within_shows := c.t.d.def_ 23
    F_Beyond_init := c.t.d.def_ 24
    F_nexts := c.t.d.def_ 25
    F_fits := c.t.d.def_ 26
    F_are_closed := c.t.d.def_ 27
    F_Beyond_shows := c.t.d.def_ 28
    F_first_wrong := c.t.d.def_ 29
    F_Right_shows := c.t.d.def_ 30
    F_Wrong_init := c.t.d.def_ 31
    F_Wrong_shows := c.t.d.def_ 32
    F_came := c.t.d.def_ 33
    F_least_way := c.t.d.def_ 34
    F_within := c.t.d.def_ 35
    F_fewest := c.t.d.def_ 36
    F_turns_of := c.t.d.def_ 37
    F_orders := c.t.d.def_ 38
    F_ways_on := c.t.d.def_ 39
    F_check_all := c.t.d.def_ 40
    F_how_many := c.t.d.def_ 41
    F_part_of := c.t.d.def_ 42
    F_deeds_by := c.t.d.def_ 43
    F_number_of := c.t.d.def_ 44
    F_judged := c.t.d.def_ 45
    F_Yard_init := c.t.d.def_ 46
    F_Yard_do := c.t.d.def_ 47
    F_Yard_now := c.t.d.def_ 48
    F_Yard_away := c.t.d.def_ 49
    F_Yard_done := c.t.d.def_ 50
    F_Yard_tale := c.t.d.def_ 51
    F__law_word := c.t.d.def_ 52
    F__law_three_right := c.t.d.def_ 53
    F__law_deeds_right := c.t.d.def_ 54
    F__law_within_right := c.t.d.def_ 55
    F__law_orders_right := c.t.d.def_ 56
    F__law_counted_right := c.t.d.def_ 57
    F__law_yard_right := c.t.d.def_ 58
    F_law := c.t.d.def_ 59 }
theorem cx_no {P : Program} {w : World} {l : List Env} {H : Hp} {s s' : Shared} {e : Value} (h : L2.CX P w l H s (fun _ _ _ => False) e s') : False := by
  obtain ⟨_, _, _, _, _, h⟩ := h
  simp at h
theorem law_end {w : World} {K : PySem.W.Frag} {H : Hp} {a : Addr} {ns : List Int} (P : Program) (hn : ns.length ≤ 63) (hb : ∀ z ∈ ns, Builtin.Int.intBits z ≤ 1048576) (t : LamX.Tabs (tabsOf K) H) (hs : SqL K H a (ns.map V.int)) : spE ⟨P, w, K⟩ 1 f_law [.ref a] H (fun v _ => v = .bl true) fun _ _ _ => False := by
  obtain ⟨lh, e⟩ := law_true ns hn hb
  have nsR : ∀ ns : List Int, VRs ⟨P, w, K⟩ (fun _ => False) [] H (ns.map V.int) (ns.map D.int) := by
    intro ns
    induction ns with
    | nil => exact .nil
    | cons n ns ih => exact .cons (.int n) ih
  have hl : LstAt K (fun _ => False) [] H a (ns.map V.int) := by
    rcases hs with (h | h) | h
    · exact .inl ⟨h, fun z => z, by simp⟩
    · exact .inr (.inl h)
    · exact .inr (.inr h)
  refine ⟨rfl, fun _ => False, [], [], [.scr (ns.map D.int)], .cons (.scr hl (nsR ns)) .nil, SR.none_ t (fun _ z => z.elim), ?_⟩
  rw [e]
  intro ρ' H' v s S r
  cases r
  rfl
end Lw
open PySem PySem.W PySem.Calls PyProof.Rows
theorem PySem.Challenge.cw_turnbridge_k15_promises_by_hand_holds : PySem.Challenge.rw_turnbridge_k15_promises_by_hand.Holds := by
  w_on; o_law
  refine HandSHeadRun.head_any (r := OpenLaw.row PySem.Challenge.rw_turnbridge_k15_promises_by_hand) (q := view (OpenLaw.row PySem.Challenge.rw_turnbridge_k15_promises_by_hand).prog [69, 70, 71]) (H := Lw.H1.hk) (ob := Lw.H1.ob) (M := 20000) (loose := Lw.H1.loose) (d := HandSHeadRun.topDef (OpenLaw.row PySem.Challenge.rw_turnbridge_k15_promises_by_hand).prog 71) (kwd := []) Lw.H1.ob_eq
    (by kernel_rfl) (fun s => by kernel_rfl) Lw.H1.run (by kernel_rfl) (by kernel_rfl) (by kernel_rfl) (by rfl) (by first | assumption | decide +kernel) (by decide +kernel) ⟨rfl, rfl, rfl, rfl, rfl, by decide +kernel⟩ ?hw ?hc
  case hw => w_witness2
  case hc =>
    refine Tb.walkGT (l := PySem.Challenge.rw_turnbridge_k15_promises_by_hand) (n := 63) (k := 71) (x := "_law_script") rfl (by decide) rfl ⟨rfl, by decide +kernel, by decide +kernel⟩ (by decide +kernel) (fun w mg fa h Y G hm tab => ?_) (fun w H s e s' z => Lw.cx_no z)
    obtain ⟨K, hK, c⟩ := Y
    have hd := Lw.hd_of c hK G
    obtain ⟨fd, hb, hF⟩ := Lw.law_all PySem.Challenge.rw_turnbridge_k15_promises_by_hand.prog w hd
    have e : mg "law" = some (.ref fa) := hm
    rw [hd.g_law] at e
    injection e with e
    injection e with e
    subst e
    obtain ⟨tb1, tb2⟩ := Tb.tabs_head hK hd.mkT (List.forall_mem_cons.mpr ⟨hd.g__law_counted_right, List.forall_mem_cons.mpr ⟨hd.g__law_yard_right, fun _ z => nomatch z⟩⟩) tab
    exact ⟨K, hK, (Tb.tabsOf K).map (·.1), fd, Tb.spE ⟨PySem.Challenge.rw_turnbridge_k15_promises_by_hand.prog, w, K⟩ 1 Lw.f_law, tb1, hb, fun H a ns h1 h2 hP h3 => Lw.law_end _ h1 h2 (Tb.tabs_nil hP) h3, fun base hb => hF base (tb2 base hb)⟩
