import PyProof.Rows.All
import Wide.All
import OpenK.AllK
import Wide.FinOn
import KE.KStateDown
import Lean
import HandS.ForMost
import HandS.Defaults
import HandS.Head0
import HandS.Head1
import HandS.Head2
import HandS.HeadEnd
import HandS.HeadHook1
import HandS.HeadHook2
import HandS.HeadHook3
import HandS.HeadHook4
import HandS.MakeKwOnly
import HandS.Deep
import HandS.IsInst
import HandS.Wide
import HandS.Zip
import HandS.TupAny
import HandS.Conv
import HandS.Style
import HandS.SetFor
import HandS.Strs
import PyProof.ReprRoads
import HandS.Walk
import KE.KDictZip
import KE.GoesMore
import KE.GoesEnum
import HandS.TryOnly
import KE.KDictDisplayH
import PyProof.ReprLen
import HandS.Flow
import PySem.Challenge.RW_propfall_k24_whole_the_fewest_ahead
section
set_option Elab.async false
set_option linter.all false
set_option maxRecDepth 100000
set_option maxHeartbeats 0
namespace Pf
open PySem PySem.Spec PyProof.Rows L2
/-! ### the text by places -/
def topS (i : Nat) : Stmt := PySem.Challenge.pw_propfall_k24_whole_the_fewest_ahead.main.body.getD i (.Pass ⟨0, 0, 0, 0⟩)
abbrev sIsWhole : Stmt := topS 12
abbrev sDivisor : Stmt := topS 13
abbrev sCut : Stmt := topS 14
abbrev sIsFraction : Stmt := topS 15
abbrev sWhole : Stmt := topS 16
abbrev sPlus : Stmt := topS 17
abbrev sLess : Stmt := topS 18
abbrev sTimes : Stmt := topS 19
abbrev sOver : Stmt := topS 20
abbrev sIsBelow : Stmt := topS 21
abbrev sSumOf : Stmt := topS 22
abbrev sIsMeasure : Stmt := topS 27
abbrev sIsProp : Stmt := topS 28
abbrev sAreProps : Stmt := topS 29
abbrev sPlankInit : Stmt := inClass (topS 30) 0
abbrev sPlankLength : Stmt := inClass (topS 30) 2
abbrev sPlankCount : Stmt := inClass (topS 30) 5
abbrev sPlankPlaceOf : Stmt := inClass (topS 30) 6
abbrev sIsLot : Stmt := topS 31
abbrev sLotOf : Stmt := topS 32
abbrev sCheckProp : Stmt := topS 33
abbrev sRestsOf : Stmt := topS 34
abbrev sIsSpot : Stmt := topS 36
abbrev sIsWeight : Stmt := topS 37
abbrev sCheckWeights : Stmt := topS 38
abbrev sSlope : Stmt := topS 39
abbrev sLoadsInit : Stmt := inClass (topS 40) 0
abbrev sLoadsShare : Stmt := inClass (topS 40) 1
abbrev sLoadsLiesOn : Stmt := inClass (topS 40) 2
abbrev sLoadsIsOverlaid : Stmt := inClass (topS 40) 3
abbrev sLoadsOf : Stmt := topS 41
abbrev sOverlaidBetween : Stmt := topS 43
abbrev sWithout : Stmt := topS 44
abbrev sIsWithin : Stmt := topS 45
abbrev sSettledBetween : Stmt := topS 46
abbrev sSettled : Stmt := topS 47
abbrev sSpansInit : Stmt := inClass (topS 49) 0
abbrev sSpansIsOver : Stmt := inClass (topS 49) 1
abbrev sSpansLasts : Stmt := inClass (topS 49) 2
abbrev sSpansAllGo : Stmt := inClass (topS 49) 3
abbrev sSpansTree : Stmt := inClass (topS 49) 4
abbrev sRowOf : Stmt := topS 50
abbrev sBegunOf : Stmt := topS 51
abbrev sBetween : Stmt := topS 52
abbrev sSoonestSpan : Stmt := topS 53
abbrev sSoonest : Stmt := topS 54
abbrev sCheckFromOne : Stmt := topS 55
abbrev sPairsAbout : Stmt := topS 56
abbrev sNoSooner : Stmt := topS 57
abbrev sIsReason : Stmt := topS 58
abbrev sIsNoSooner : Stmt := topS 59
abbrev sLawDigits : Stmt := topS 62
abbrev sLawCut : Stmt := topS 63
abbrev sLawSum : Stmt := topS 64
abbrev sLawWorld : Stmt := topS 65
abbrev sLawMade : Stmt := topS 66
abbrev sLawPlace : Stmt := topS 67
abbrev sLawLoad : Stmt := topS 68
abbrev sLawTable : Stmt := topS 69
abbrev sLawOver : Stmt := topS 70
abbrev sLawLess : Stmt := topS 71
abbrev sLawDistance : Stmt := topS 73
abbrev sLawRowRight : Stmt := topS 74
abbrev sLawReasonRight : Stmt := topS 75
abbrev sLawPapersRight : Stmt := topS 76
abbrev sLawSpoilt : Stmt := topS 77
abbrev sLawRight : Stmt := topS 78
abbrev sLaw : Stmt := topS 79
/-! ### the head: facts by names, the run -/
def dIsWhole : He.DefD := ⟨("is_whole", none), "is_whole", "is_whole", defArgs sIsWhole, defBody sIsWhole, defScope sIsWhole, [], []⟩
def dDivisor : He.DefD := ⟨("divisor", none), "divisor", "divisor", defArgs sDivisor, defBody sDivisor, defScope sDivisor, [], []⟩
def dCut : He.DefD := ⟨("cut", none), "cut", "cut", defArgs sCut, defBody sCut, defScope sCut, [], []⟩
def dIsFraction : He.DefD := ⟨("is_fraction", none), "is_fraction", "is_fraction", defArgs sIsFraction, defBody sIsFraction, defScope sIsFraction, [], []⟩
def dWhole : He.DefD := ⟨("whole", none), "whole", "whole", defArgs sWhole, defBody sWhole, defScope sWhole, [], []⟩
def dPlus : He.DefD := ⟨("plus", none), "plus", "plus", defArgs sPlus, defBody sPlus, defScope sPlus, [], []⟩
def dLess : He.DefD := ⟨("less", none), "less", "less", defArgs sLess, defBody sLess, defScope sLess, [], []⟩
def dTimes : He.DefD := ⟨("times", none), "times", "times", defArgs sTimes, defBody sTimes, defScope sTimes, [], []⟩
def dOver : He.DefD := ⟨("over", none), "over", "over", defArgs sOver, defBody sOver, defScope sOver, [], []⟩
def dIsBelow : He.DefD := ⟨("is_below", none), "is_below", "is_below", defArgs sIsBelow, defBody sIsBelow, defScope sIsBelow, [], []⟩
def dSumOf : He.DefD := ⟨("sum_of", none), "sum_of", "sum_of", defArgs sSumOf, defBody sSumOf, defScope sSumOf, [], []⟩
def dIsMeasure : He.DefD := ⟨("is_measure", none), "is_measure", "is_measure", defArgs sIsMeasure, defBody sIsMeasure, defScope sIsMeasure, [], []⟩
def dIsProp : He.DefD := ⟨("is_prop", none), "is_prop", "is_prop", defArgs sIsProp, defBody sIsProp, defScope sIsProp, [], []⟩
def dAreProps : He.DefD := ⟨("are_props", none), "are_props", "are_props", defArgs sAreProps, defBody sAreProps, defScope sAreProps, [], []⟩
def dPlankInit : He.DefD := ⟨("Plank", some "__init__"), "__init__", "Plank.__init__", defArgs sPlankInit, defBody sPlankInit, defScope sPlankInit, [], [("bend", .non)]⟩
def dPlankLength : He.DefD := ⟨("Plank", some "length"), "length", "Plank.length", defArgs sPlankLength, defBody sPlankLength, defScope sPlankLength, [], []⟩
def dPlankCount : He.DefD := ⟨("Plank", some "count"), "count", "Plank.count", defArgs sPlankCount, defBody sPlankCount, defScope sPlankCount, [], []⟩
def dPlankPlaceOf : He.DefD := ⟨("Plank", some "place_of"), "place_of", "Plank.place_of", defArgs sPlankPlaceOf, defBody sPlankPlaceOf, defScope sPlankPlaceOf, [], []⟩
def dIsLot : He.DefD := ⟨("is_lot", none), "is_lot", "is_lot", defArgs sIsLot, defBody sIsLot, defScope sIsLot, [], []⟩
def dLotOf : He.DefD := ⟨("lot_of", none), "lot_of", "lot_of", defArgs sLotOf, defBody sLotOf, defScope sLotOf, [], []⟩
def dCheckProp : He.DefD := ⟨("check_prop", none), "check_prop", "check_prop", defArgs sCheckProp, defBody sCheckProp, defScope sCheckProp, [], []⟩
def dRestsOf : He.DefD := ⟨("rests_of", none), "rests_of", "rests_of", defArgs sRestsOf, defBody sRestsOf, defScope sRestsOf, [], []⟩
def dIsSpot : He.DefD := ⟨("is_spot", none), "is_spot", "is_spot", defArgs sIsSpot, defBody sIsSpot, defScope sIsSpot, [], []⟩
def dIsWeight : He.DefD := ⟨("is_weight", none), "is_weight", "is_weight", defArgs sIsWeight, defBody sIsWeight, defScope sIsWeight, [], []⟩
def dCheckWeights : He.DefD := ⟨("check_weights", none), "check_weights", "check_weights", defArgs sCheckWeights, defBody sCheckWeights, defScope sCheckWeights, [], []⟩
def dSlope : He.DefD := ⟨("slope", none), "slope", "slope", defArgs sSlope, defBody sSlope, defScope sSlope, [], []⟩
def dLoadsInit : He.DefD := ⟨("Loads", some "__init__"), "__init__", "Loads.__init__", defArgs sLoadsInit, defBody sLoadsInit, defScope sLoadsInit, [], []⟩
def dLoadsShare : He.DefD := ⟨("Loads", some "share"), "share", "Loads.share", defArgs sLoadsShare, defBody sLoadsShare, defScope sLoadsShare, [], []⟩
def dLoadsLiesOn : He.DefD := ⟨("Loads", some "lies_on"), "lies_on", "Loads.lies_on", defArgs sLoadsLiesOn, defBody sLoadsLiesOn, defScope sLoadsLiesOn, [], []⟩
def dLoadsIsOverlaid : He.DefD := ⟨("Loads", some "is_overlaid"), "is_overlaid", "Loads.is_overlaid", defArgs sLoadsIsOverlaid, defBody sLoadsIsOverlaid, defScope sLoadsIsOverlaid, [], []⟩
def dLoadsOf : He.DefD := ⟨("loads_of", none), "loads_of", "loads_of", defArgs sLoadsOf, defBody sLoadsOf, defScope sLoadsOf, [], []⟩
def dOverlaidBetween : He.DefD := ⟨("overlaid_between", none), "overlaid_between", "overlaid_between", defArgs sOverlaidBetween, defBody sOverlaidBetween, defScope sOverlaidBetween, [], []⟩
def dWithout : He.DefD := ⟨("without", none), "without", "without", defArgs sWithout, defBody sWithout, defScope sWithout, [], []⟩
def dIsWithin : He.DefD := ⟨("is_within", none), "is_within", "is_within", defArgs sIsWithin, defBody sIsWithin, defScope sIsWithin, [], []⟩
def dSettledBetween : He.DefD := ⟨("settled_between", none), "settled_between", "settled_between", defArgs sSettledBetween, defBody sSettledBetween, defScope sSettledBetween, [], []⟩
def dSettled : He.DefD := ⟨("settled", none), "settled", "settled", defArgs sSettled, defBody sSettled, defScope sSettled, [], []⟩
def dSpansInit : He.DefD := ⟨("Spans", some "__init__"), "__init__", "Spans.__init__", defArgs sSpansInit, defBody sSpansInit, defScope sSpansInit, [], []⟩
def dSpansIsOver : He.DefD := ⟨("Spans", some "is_over"), "is_over", "Spans.is_over", defArgs sSpansIsOver, defBody sSpansIsOver, defScope sSpansIsOver, [], []⟩
def dSpansLasts : He.DefD := ⟨("Spans", some "lasts"), "lasts", "Spans.lasts", defArgs sSpansLasts, defBody sSpansLasts, defScope sSpansLasts, [], []⟩
def dSpansAllGo : He.DefD := ⟨("Spans", some "all_go"), "all_go", "Spans.all_go", defArgs sSpansAllGo, defBody sSpansAllGo, defScope sSpansAllGo, [], []⟩
def dSpansTree : He.DefD := ⟨("Spans", some "tree"), "tree", "Spans.tree", defArgs sSpansTree, defBody sSpansTree, defScope sSpansTree, [], []⟩
def dRowOf : He.DefD := ⟨("row_of", none), "row_of", "row_of", defArgs sRowOf, defBody sRowOf, defScope sRowOf, [], []⟩
def dBegunOf : He.DefD := ⟨("begun_of", none), "begun_of", "begun_of", defArgs sBegunOf, defBody sBegunOf, defScope sBegunOf, [], []⟩
def dBetween : He.DefD := ⟨("between", none), "between", "between", defArgs sBetween, defBody sBetween, defScope sBetween, [], []⟩
def dSoonestSpan : He.DefD := ⟨("soonest_span", none), "soonest_span", "soonest_span", defArgs sSoonestSpan, defBody sSoonestSpan, defScope sSoonestSpan, [], []⟩
def dSoonest : He.DefD := ⟨("soonest", none), "soonest", "soonest", defArgs sSoonest, defBody sSoonest, defScope sSoonest, [], [("lot", .non)]⟩
def dCheckFromOne : He.DefD := ⟨("check_from_one", none), "check_from_one", "check_from_one", defArgs sCheckFromOne, defBody sCheckFromOne, defScope sCheckFromOne, [], []⟩
def dPairsAbout : He.DefD := ⟨("pairs_about", none), "pairs_about", "pairs_about", defArgs sPairsAbout, defBody sPairsAbout, defScope sPairsAbout, [], []⟩
def dNoSooner : He.DefD := ⟨("no_sooner", none), "no_sooner", "no_sooner", defArgs sNoSooner, defBody sNoSooner, defScope sNoSooner, [], [("lot", .non)]⟩
def dIsReason : He.DefD := ⟨("is_reason", none), "is_reason", "is_reason", defArgs sIsReason, defBody sIsReason, defScope sIsReason, [], []⟩
def dIsNoSooner : He.DefD := ⟨("is_no_sooner", none), "is_no_sooner", "is_no_sooner", defArgs sIsNoSooner, defBody sIsNoSooner, defScope sIsNoSooner, [], [("lot", .non)]⟩
def dLawDigits : He.DefD := ⟨("_law_digits", none), "_law_digits", "_law_digits", defArgs sLawDigits, defBody sLawDigits, defScope sLawDigits, [], []⟩
def dLawCut : He.DefD := ⟨("_law_cut", none), "_law_cut", "_law_cut", defArgs sLawCut, defBody sLawCut, defScope sLawCut, [], []⟩
def dLawSum : He.DefD := ⟨("_law_sum", none), "_law_sum", "_law_sum", defArgs sLawSum, defBody sLawSum, defScope sLawSum, [], []⟩
def dLawWorld : He.DefD := ⟨("_law_world", none), "_law_world", "_law_world", defArgs sLawWorld, defBody sLawWorld, defScope sLawWorld, [], []⟩
def dLawMade : He.DefD := ⟨("_law_made", none), "_law_made", "_law_made", defArgs sLawMade, defBody sLawMade, defScope sLawMade, [], []⟩
def dLawPlace : He.DefD := ⟨("_law_place", none), "_law_place", "_law_place", defArgs sLawPlace, defBody sLawPlace, defScope sLawPlace, [], []⟩
def dLawLoad : He.DefD := ⟨("_law_load", none), "_law_load", "_law_load", defArgs sLawLoad, defBody sLawLoad, defScope sLawLoad, [], []⟩
def dLawTable : He.DefD := ⟨("_law_table", none), "_law_table", "_law_table", defArgs sLawTable, defBody sLawTable, defScope sLawTable, [], []⟩
def dLawOver : He.DefD := ⟨("_law_over", none), "_law_over", "_law_over", defArgs sLawOver, defBody sLawOver, defScope sLawOver, [], []⟩
def dLawLess : He.DefD := ⟨("_law_less", none), "_law_less", "_law_less", defArgs sLawLess, defBody sLawLess, defScope sLawLess, [], []⟩
def dLawDistance : He.DefD := ⟨("_law_distance", none), "_law_distance", "_law_distance", defArgs sLawDistance, defBody sLawDistance, defScope sLawDistance, [], []⟩
def dLawRowRight : He.DefD := ⟨("_law_row_right", none), "_law_row_right", "_law_row_right", defArgs sLawRowRight, defBody sLawRowRight, defScope sLawRowRight, [], []⟩
def dLawReasonRight : He.DefD := ⟨("_law_reason_right", none), "_law_reason_right", "_law_reason_right", defArgs sLawReasonRight, defBody sLawReasonRight, defScope sLawReasonRight, [], []⟩
def dLawPapersRight : He.DefD := ⟨("_law_papers_right", none), "_law_papers_right", "_law_papers_right", defArgs sLawPapersRight, defBody sLawPapersRight, defScope sLawPapersRight, [], []⟩
def dLawSpoilt : He.DefD := ⟨("_law_spoilt", none), "_law_spoilt", "_law_spoilt", defArgs sLawSpoilt, defBody sLawSpoilt, defScope sLawSpoilt, [], []⟩
def dLawRight : He.DefD := ⟨("_law_right", none), "_law_right", "_law_right", defArgs sLawRight, defBody sLawRight, defScope sLawRight, [], []⟩
def dLaw : He.DefD := ⟨("law", none), "law", "law", defArgs sLaw, defBody sLaw, defScope sLaw, [], []⟩
def fnL : List He.DefD := [dIsWhole, dDivisor, dCut, dIsFraction, dWhole, dPlus, dLess, dTimes, dOver, dIsBelow, dSumOf, dIsMeasure, dIsProp, dAreProps, dPlankInit, dPlankLength, dPlankCount, dPlankPlaceOf, dIsLot, dLotOf, dCheckProp, dRestsOf, dIsSpot, dIsWeight, dCheckWeights, dSlope, dLoadsInit, dLoadsShare, dLoadsLiesOn, dLoadsIsOverlaid, dLoadsOf, dOverlaidBetween, dWithout, dIsWithin, dSettledBetween, dSettled, dSpansInit, dSpansIsOver, dSpansLasts, dSpansAllGo, dSpansTree, dRowOf, dBegunOf, dBetween, dSoonestSpan, dSoonest, dCheckFromOne, dPairsAbout, dNoSooner, dIsReason, dIsNoSooner, dLawDigits, dLawCut, dLawSum, dLawWorld, dLawMade, dLawPlace, dLawLoad, dLawTable, dLawOver, dLawLess, dLawDistance, dLawRowRight, dLawReasonRight, dLawPapersRight, dLawSpoilt, dLawRight, dLaw]
def faL : List He.Fa := [.glo "is_whole", .glo "divisor", .glo "cut", .glo "is_fraction", .glo "whole", .glo "plus", .glo "less", .glo "times", .glo "over", .glo "is_below", .glo "sum_of", .glo "is_measure", .glo "is_prop", .glo "are_props", .glo "is_lot", .glo "lot_of", .glo "check_prop", .glo "rests_of", .glo "is_spot", .glo "is_weight", .glo "check_weights", .glo "slope", .glo "loads_of", .glo "overlaid_between", .glo "without", .glo "is_within", .glo "settled_between", .glo "settled", .glo "row_of", .glo "begun_of", .glo "between", .glo "soonest_span", .glo "soonest", .glo "check_from_one", .glo "pairs_about", .glo "no_sooner", .glo "is_reason", .glo "is_no_sooner", .glo "_law_digits", .glo "_law_cut", .glo "_law_sum", .glo "_law_world", .glo "_law_made", .glo "_law_place", .glo "_law_load", .glo "_law_table", .glo "_law_over", .glo "_law_less", .glo "_law_distance", .glo "_law_row_right", .glo "_law_reason_right", .glo "_law_papers_right", .glo "_law_spoilt", .glo "_law_right", .glo "law", .glo "Plank", .cls "Plank", .mkr "Plank", .glo "Loads", .cls "Loads", .mkr "Loads", .glo "Spans", .cls "Spans", .mkr "Spans", .noat "Plank" "long", .noat "Plank" "stakes", .noat "Plank" "limit", .meth "Plank" "length", .meth "Plank" "count", .meth "Plank" "place_of", .noat "Loads" "plank", .noat "Loads" "weights", .noat "Loads" "known", .noat "Loads" "over", .meth "Loads" "share", .meth "Loads" "lies_on", .meth "Loads" "is_overlaid", .noat "Spans" "loads", .noat "Spans" "rests", .noat "Spans" "going", .noat "Spans" "counted", .meth "Spans" "is_over", .meth "Spans" "lasts", .meth "Spans" "all_go", .meth "Spans" "tree", .int "MOST_LENGTH" 1000, .int "MOST_PROPS" 12, .int "LEFT_WALL" (-1), .glo "NOUGHT", .glo "ONE", .free "isinstance", .free "len", .free "all", .free "abs", .free "tuple", .free "list", .free "zip", .free "range", .free "enumerate", .free "int", .free "sum", .free "min", .free "max", .free "sorted", .free "set", .free "repr", .free "bool", .free "str"]
def looseL : List PySem.Str := (["_wall", "__name__", "FallError", "NoPlank", "NoWeights", "NoLot", "NoProp", "NoRest", "NoNumber", "NOUGHT", "ONE", "is_whole", "divisor", "cut", "is_fraction", "whole", "plus", "less", "times", "over", "is_below", "sum_of", "MOST_LENGTH", "MOST_PROPS", "LEFT_WALL", "is_measure", "is_prop", "are_props", "Plank", "is_lot"] : List PySem.Str) ++ (["lot_of", "check_prop", "rests_of", "is_spot", "is_weight", "check_weights", "slope", "Loads", "loads_of", "overlaid_between", "without", "is_within", "settled_between", "settled", "Spans", "row_of", "begun_of", "between", "soonest_span", "soonest", "check_from_one", "pairs_about", "no_sooner", "is_reason", "is_no_sooner", "_law_cell", "_law_digits", "_law_cut", "_law_sum", "_law_world"] : List PySem.Str) ++ (["_law_made", "_law_place", "_law_load", "_law_table", "_law_over", "_law_less", "_law_left", "_law_distance", "_law_row_right", "_law_reason_right", "_law_papers_right", "_law_spoilt", "_law_right"] : List PySem.Str)
def lawIx : Nat := 79
def exB (K : PySem.W.Frag) : Bool := He.tupB K "NOUGHT" [.int 0, .int 1] && He.tupB K "ONE" [.int 1, .int 1]
abbrev R : PySem.W.OpenRow := PySem.W.OpenLaw.row PySem.Challenge.rw_propfall_k24_whole_the_fewest_ahead
abbrev hk : PySem.W.Hook := He.hookX 5 faL fnL [] [] exB
def ob (s : PySem.W.SharedT) : He.AlX := He.obsX 5 faL fnL [] [] exB (HandSHeadRun.getT s)
theorem ob_eq (s : PySem.W.SharedT) : ob s = hk.obs s.abs := He.obsX_eq (HandSHeadRun.getT_eq s)
theorem run (w : World) : HandSHeadRun.RunEq R (PySem.W.view R.prog [lawIx]) hk ob 6000 looseL w := by
  intro os
  kernel_rfl
end Pf
end
section
set_option Elab.async false
set_option linter.all false
set_option maxRecDepth 100000
set_option maxHeartbeats 2000000
namespace Pf
open PySem PySem.Spec PyProof.Rows L2

/-! ### heaps -/
def Ex (H H' : Hp) : Prop := ∀ a o, H a = some o → H' a = some o
theorem Ex.refl (H : Hp) : Ex H H := fun _ _ h => h
theorem Ex.trans {H H1 H2 : Hp} (a : Ex H H1) (b : Ex H1 H2) : Ex H H2 := fun x o h => b x o (a x o h)
theorem Ex.new {H : Hp} {p : Addr} {o : HO} (h : H p = none) : Ex H (upd H p o) := fun a u e => by
  rw [upd_ne (ne_of_none e h)]
  exact e
theorem Ex.free {H H' : Hp} {p : Addr} (e : Ex H H') (h : H' p = none) : H p = none := by
  cases h1 : H p with
  | none => rfl
  | some o => rw [e p o h1] at h; cases h
/-- what never changes: the heap without the changeable -/
def out (Z : Addr → Bool) (H : Hp) : Hp := fun a => if Z a = true then none else H a
theorem out_at {Z : Addr → Bool} {H : Hp} {a : Addr} (h : Z a = false) : out Z H a = H a := by unfold out; rw [if_neg (by rw [h]; exact Bool.false_ne_true)]
theorem out_some {Z : Addr → Bool} {H : Hp} {a : Addr} {o : HO} (h : out Z H a = some o) : Z a = false ∧ H a = some o := by
  unfold out at h
  cases e : Z a with
  | true => rw [e, if_pos rfl] at h; cases h
  | false => rw [e, if_neg Bool.false_ne_true] at h; exact ⟨rfl, h⟩
theorem out_sub {Z : Addr → Bool} {H : Hp} : Ex (out Z H) H := fun _ _ h => (out_some h).2
theorem out_mono {Z Z' : Addr → Bool} {H H' : Hp} (hz : ∀ a, Z' a = true → Z a = true ∨ H a = none) (k : ∀ a o, Z a = false → H a = some o → H' a = some o) : Ex (out Z H) (out Z' H') := fun a o h => by
  obtain ⟨z, e⟩ := out_some h
  have z' : Z' a = false := by
    cases q : Z' a with
    | false => rfl
    | true =>
      rcases hz a q with r | r
      · rw [z] at r; cases r
      · rw [e] at r; cases r
  rw [out_at z']
  exact k a o z e

/-! ### data -/
mutual
inductive Rp (K : PySem.W.Frag) (H : Hp) : V → PyData → Prop
  | non : Rp K H .non .none
  | bl (b : Bool) : Rp K H (.bl b) (.bool b)
  | int (i : Int) : Rp K H (.int i) (.int i)
  | str (x : Str) : Rp K H (.str x) (.str x)
  | lst {a : Addr} {xs : List V} {ds : List PyData} : H a = some (.lst xs) → RpAll K H xs ds → Rp K H (.ref a) (.list ds)
  | tup {a : Addr} {xs : List V} {ds : List PyData} : SqT K H a xs → RpAll K H xs ds → Rp K H (.ref a) (.tuple ds)
inductive RpAll (K : PySem.W.Frag) (H : Hp) : List V → List PyData → Prop
  | nil : RpAll K H [] []
  | cons {v : V} {vs : List V} {d : PyData} {ds : List PyData} : Rp K H v d → RpAll K H vs ds → RpAll K H (v :: vs) (d :: ds)
end
section
variable {K : PySem.W.Frag} {H H' : Hp}
theorem rd_mono {a : Addr} {u : HO} (e : Ex H H') (h : Rd H a u) : Rd H' a u := by
  rcases h with h | ⟨o, h⟩
  · exact Or.inl (e a _ h)
  · exact Or.inr ⟨o, e a _ h⟩
theorem sqt_mono {a : Addr} {xs : List V} (e : Ex H H') (h : SqT K H a xs) : SqT K H' a xs := by
  rcases h with h | h
  · exact Or.inl (rd_mono e h)
  · exact Or.inr h
theorem sql_mono {a : Addr} {xs : List V} (e : Ex H H') (h : SqL K H a xs) : SqL K H' a xs := by
  rcases h with h | h
  · exact Or.inl (rd_mono e h)
  · exact Or.inr h
mutual
theorem Rp.mono (e : Ex H H') : ∀ {v : V} {d : PyData}, Rp K H v d → Rp K H' v d
  | _, _, .non => .non
  | _, _, .bl b => .bl b
  | _, _, .int i => .int i
  | _, _, .str x => .str x
  | _, _, .lst h r => .lst (e _ _ h) (RpAll.mono e r)
  | _, _, .tup h r => .tup (sqt_mono e h) (RpAll.mono e r)
theorem RpAll.mono (e : Ex H H') : ∀ {vs : List V} {ds : List PyData}, RpAll K H vs ds → RpAll K H' vs ds
  | _, _, .nil => .nil
  | _, _, .cons h r => .cons (Rp.mono e h) (RpAll.mono e r)
end
mutual
theorem Rp.dp : ∀ {v : V} {d : PyData}, Rp K H v d → Dp K H v d
  | _, _, .non => .non
  | _, _, .bl b => .bl b
  | _, _, .int i => .int i
  | _, _, .str x => .str x
  | _, _, .lst h r => .lst (SqL.of h) (RpAll.dp r)
  | _, _, .tup h r => .tup h (RpAll.dp r)
theorem RpAll.dp : ∀ {vs : List V} {ds : List PyData}, RpAll K H vs ds → DpAll K H vs ds
  | _, _, .nil => .nil
  | _, _, .cons h r => .cons (Rp.dp h) (RpAll.dp r)
end
theorem RpAll.length : ∀ {vs : List V} {ds : List PyData}, RpAll K H vs ds → vs.length = ds.length
  | _, _, .nil => rfl
  | _, _, .cons _ r => congrArg (· + 1) (RpAll.length r)
theorem RpAll.at_ : ∀ {vs : List V} {ds : List PyData} {i : Nat} {d : PyData}, RpAll K H vs ds → ds[i]? = some d → ∃ v, vs[i]? = some v ∧ Rp K H v d
  | _, _, i, _, .nil, h => by simp at h
  | _, _, 0, _, .cons h _, e => by
    simp at e
    subst e
    exact ⟨_, rfl, h⟩
  | _, _, i + 1, d, .cons _ r, e => by
    obtain ⟨v, h1, h2⟩ := RpAll.at_ (i := i) (d := d) r (by simpa using e)
    exact ⟨v, by simpa using h1, h2⟩
theorem RpAll.at2 : ∀ {vs : List V} {ds : List PyData} {i : Nat} {v : V}, RpAll K H vs ds → vs[i]? = some v → ∃ d, ds[i]? = some d ∧ Rp K H v d
  | _, _, i, _, .nil, h => by simp at h
  | _, _, 0, _, .cons h _, e => by
    simp at e
    subst e
    exact ⟨_, rfl, h⟩
  | _, _, i + 1, d, .cons _ r, e => by
    obtain ⟨v, h1, h2⟩ := RpAll.at2 (i := i) (v := d) r (by simpa using e)
    exact ⟨v, by simpa using h1, h2⟩
theorem RpAll.append : ∀ {vs ws : List V} {ds es : List PyData}, RpAll K H vs ds → RpAll K H ws es → RpAll K H (vs ++ ws) (ds ++ es)
  | _, _, _, _, .nil, s => s
  | _, _, _, _, .cons h r, s => .cons h (RpAll.append r s)
theorem RpAll.take : ∀ {vs : List V} {ds : List PyData} (n : Nat), RpAll K H vs ds → RpAll K H (vs.take n) (ds.take n)
  | _, _, 0, _ => .nil
  | _, _, _ + 1, .nil => .nil
  | _, _, n + 1, .cons h r => .cons h (RpAll.take n r)
theorem RpAll.drop : ∀ {vs : List V} {ds : List PyData} (n : Nat), RpAll K H vs ds → RpAll K H (vs.drop n) (ds.drop n)
  | _, _, 0, r => r
  | _, _, _ + 1, .nil => .nil
  | _, _, n + 1, .cons _ r => RpAll.drop n r
theorem RpAll.reverse {vs : List V} {ds : List PyData} (h : RpAll K H vs ds) : RpAll K H vs.reverse ds.reverse := by
  induction h using RpAll.rec (motive_1 := fun _ _ _ => True) with
  | nil => exact .nil
  | cons h r _ ih =>
    rw [List.reverse_cons, List.reverse_cons]
    exact RpAll.append ih (.cons h .nil)
  | _ => trivial
theorem rp_int {v : V} {i : Int} (h : Rp K H v (.int i)) : v = .int i := by cases h; rfl
theorem rp_bl {v : V} {i : Bool} (h : Rp K H v (.bool i)) : v = .bl i := by cases h; rfl
theorem rp_str {v : V} {i : Str} (h : Rp K H v (.str i)) : v = .str i := by cases h; rfl
theorem rp_non {v : V} (h : Rp K H v .none) : v = .non := by cases h; rfl
theorem rp_lst {v : V} {ds : List PyData} (h : Rp K H v (.list ds)) : ∃ a xs, v = .ref a ∧ H a = some (.lst xs) ∧ RpAll K H xs ds := by cases h; exact ⟨_, _, rfl, by assumption, by assumption⟩
theorem rp_tup {v : V} {ds : List PyData} (h : Rp K H v (.tuple ds)) : ∃ a xs, v = .ref a ∧ SqT K H a xs ∧ RpAll K H xs ds := by cases h; exact ⟨_, _, rfl, by assumption, by assumption⟩
theorem rp_ints : ∀ {vs : List V} {ns : List Int}, RpAll K H vs (ns.map PyData.int) → vs = ns.map V.int
  | _, [], .nil => rfl
  | _, n :: ns, .cons h r => by rw [rp_int h, rp_ints r]; rfl
theorem rp_bls : ∀ {vs : List V} {ns : List Bool}, RpAll K H vs (ns.map PyData.bool) → vs = ns.map V.bl
  | _, [], .nil => rfl
  | _, n :: ns, .cons h r => by rw [rp_bl h, rp_bls r]; rfl
theorem rp_of_ints : ∀ (ns : List Int), RpAll K H (ns.map V.int) (ns.map PyData.int)
  | [] => .nil
  | n :: ns => .cons (.int n) (rp_of_ints ns)
end

/-! ### what is known of a value -/
structure Ty where
  p : Hp → V → Prop
  mono : ∀ {H H' : Hp} {v : V}, Ex H H' → p H v → p H' v
def tD (K : PySem.W.Frag) (d : PyData) : Ty := ⟨fun H v => Rp K H v d, fun e h => h.mono e⟩
/-- this very address -/
def tAt (l : Addr) : Ty := ⟨fun _ v => v = .ref l, fun _ h => h⟩
inductive Al2 (B : Hp) : List Ty → List V → Prop
  | nil : Al2 B [] []
  | cons {T : Ty} {v : V} {Ts : List Ty} {vs : List V} : T.p B v → Al2 B Ts vs → Al2 B (T :: Ts) (v :: vs)
theorem Al2.mono {B B' : Hp} (e : Ex B B') : ∀ {Ts : List Ty} {vs : List V}, Al2 B Ts vs → Al2 B' Ts vs
  | _, _, .nil => .nil
  | _, _, .cons (T := T) h r => .cons (T.mono e h) (Al2.mono e r)
theorem Al2.length {B : Hp} : ∀ {Ts : List Ty} {vs : List V}, Al2 B Ts vs → vs.length = Ts.length
  | _, _, .nil => rfl
  | _, _, .cons _ r => congrArg (· + 1) (Al2.length r)
theorem Al2.append {B : Hp} : ∀ {Ts Us : List Ty} {vs ws : List V}, Al2 B Ts vs → Al2 B Us ws → Al2 B (Ts ++ Us) (vs ++ ws)
  | _, _, _, _, .nil, s => s
  | _, _, _, _, .cons h r, s => .cons h (Al2.append r s)
theorem Al2.rp {K : PySem.W.Frag} {B : Hp} : ∀ {ds : List PyData} {vs : List V}, Al2 B (ds.map (tD K)) vs → RpAll K B vs ds
  | [], _, .nil => .nil
  | _ :: _, _, .cons h r => .cons h (Al2.rp r)
theorem Al2.of_rp {K : PySem.W.Frag} {B : Hp} : ∀ {ds : List PyData} {vs : List V}, RpAll K B vs ds → Al2 B (ds.map (tD K)) vs
  | [], _, .nil => .nil
  | _ :: _, _, .cons h r => .cons h (Al2.of_rp r)
abbrev Sd := List (Option Ty)
inductive Sl (B : Hp) : Sd → L2.St → Prop
  | nil : Sl B [] []
  | no {δ : Sd} {σ : L2.St} {x : Option V} : Sl B δ σ → Sl B (none :: δ) (x :: σ)
  | is {T : Ty} {v : V} {δ : Sd} {σ : L2.St} : T.p B v → Sl B δ σ → Sl B (some T :: δ) (some v :: σ)
theorem Sl.mono {B B' : Hp} (e : Ex B B') : ∀ {δ : Sd} {σ : L2.St}, Sl B δ σ → Sl B' δ σ
  | _, _, .nil => .nil
  | _, _, .no r => .no (Sl.mono e r)
  | _, _, .is (T := T) h r => .is (T.mono e h) (Sl.mono e r)
theorem Sl.get {B : Hp} : ∀ {δ : Sd} {σ : L2.St} {i : Nat} {T : Ty}, Sl B δ σ → δ[i]? = some (some T) → ∃ v, σ[i]? = some (some v) ∧ T.p B v
  | _, _, i, _, .nil, h => by simp at h
  | _, _, 0, _, .no _, h => by simp at h
  | _, _, 0, _, .is h _, e => by
    simp at e
    subst e
    exact ⟨_, rfl, h⟩
  | _, _, i + 1, T, .no r, e => by
    obtain ⟨v, h1, h2⟩ := Sl.get (i := i) (T := T) r (by simpa using e)
    exact ⟨v, by simpa using h1, h2⟩
  | _, _, i + 1, T, .is _ r, e => by
    obtain ⟨v, h1, h2⟩ := Sl.get (i := i) (T := T) r (by simpa using e)
    exact ⟨v, by simpa using h1, h2⟩
theorem Sl.set {B : Hp} {T : Ty} {v : V} (hv : T.p B v) : ∀ {δ : Sd} {σ : L2.St} (i : Nat), Sl B δ σ → Sl B (δ.set i (some T)) (σ.set i (some v))
  | _, _, _, .nil => .nil
  | _, _, 0, .no r => .is hv r
  | _, _, 0, .is _ r => .is hv r
  | _, _, i + 1, .no r => .no (Sl.set hv i r)
  | _, _, i + 1, .is h r => .is h (Sl.set hv i r)
theorem Sl.drop {B : Hp} {x : Option V} : ∀ {δ : Sd} {σ : L2.St} (i : Nat), Sl B δ σ → Sl B (δ.set i none) (σ.set i x)
  | _, _, _, .nil => .nil
  | _, _, 0, .no r => .no r
  | _, _, 0, .is _ r => .no r
  | _, _, i + 1, .no r => .no (Sl.drop i r)
  | _, _, i + 1, .is h r => .is h (Sl.drop i r)
def wipeD (δ : Sd) : List Nat → Sd
  | [] => δ
  | v :: vs => (wipeD δ vs).set v none
theorem Sl.wipe {B : Hp} {δ : Sd} {σ : L2.St} (h : Sl B δ σ) : ∀ vs : List Nat, Sl B (wipeD δ vs) (L2.wipe σ vs)
  | [] => h
  | v :: vs => Sl.drop v (Sl.wipe h vs)
/-- less is known -/
inductive Le : Sd → Sd → Prop
  | nil : Le [] []
  | no {x : Option Ty} {δ δ' : Sd} : Le δ δ' → Le (x :: δ) (none :: δ')
  | is {T : Ty} {δ δ' : Sd} : Le δ δ' → Le (some T :: δ) (some T :: δ')
theorem Sl.le {B : Hp} : ∀ {δ δ' : Sd} {σ : L2.St}, Le δ δ' → Sl B δ σ → Sl B δ' σ
  | _, _, _, .nil, .nil => .nil
  | _, _, _, .no l, .no r => .no (Sl.le l r)
  | _, _, _, .no l, .is _ r => .no (Sl.le l r)
  | _, _, _, .is l, .is h r => .is h (Sl.le l r)
theorem Le.refl : ∀ δ : Sd, Le δ δ
  | [] => .nil
  | none :: δ => .no (Le.refl δ)
  | some _ :: δ => .is (Le.refl δ)

/-! ### dicts that remember -/
structure Mi where
  I : Hp → List (List Key × V) → Prop
  mono : ∀ {B B' : Hp} {k : List (List Key × V)}, Ex B B' → I B k → I B' k
abbrev Ml := List (Addr × Mi)
def inM (M : Ml) (a : Addr) : Bool := M.any fun p => p.1 == a
def Zm (Z : Addr → Bool) (M : Ml) : Addr → Bool := fun a => Z a || inM M a
structure Amb (Z : Addr → Bool) (M : Ml) (H : Hp) : Prop where
  memo : ∀ p ∈ M, ∃ kvs, H p.1 = some (.dT kvs) ∧ p.2.I (out (Zm Z M) H) kvs
  here : ∀ a, Z a = true → H a ≠ none
  nd : (M.map (·.1)).Nodup
  off : ∀ p ∈ M, Z p.1 = false
/-- all but the remembering dicts stays -/
def Fr (M : Ml) (H H' : Hp) : Prop := ∀ a o, H a = some o → inM M a = false → H' a = some o
theorem Fr.refl {M : Ml} {H : Hp} : Fr M H H := fun _ _ h _ => h
theorem Fr.trans {M : Ml} {H H1 H2 : Hp} (a : Fr M H H1) (b : Fr M H1 H2) : Fr M H H2 := fun x o h n => b x o (a x o h n) n
theorem Fr.of_ex {M : Ml} {H H' : Hp} (e : Ex H H') : Fr M H H' := fun a o h _ => e a o h
theorem Fr.ex0 {H H' : Hp} (f : Fr [] H H') : Ex H H' := fun a o h => f a o h rfl
theorem inM_of {M : Ml} {p : Addr × Mi} (h : p ∈ M) : inM M p.1 = true := List.any_eq_true.mpr ⟨p, h, by simp⟩
theorem Fr.out {Z : Addr → Bool} {M : Ml} {H H' : Hp} (f : Fr M H H') : Ex (out (Zm Z M) H) (out (Zm Z M) H') :=
  out_mono (fun _ z => .inl z) fun a o z e => f a o e (by
    unfold Zm at z
    rw [Bool.or_eq_false_iff] at z
    exact z.2)
theorem Amb.fresh {Z : Addr → Bool} {M : Ml} {H : Hp} (A : Amb Z M H) {p : Addr} (h : H p = none) : Zm Z M p = false := by
  unfold Zm
  rw [Bool.or_eq_false_iff]
  constructor
  · cases e : Z p with
    | false => rfl
    | true => exact absurd h (A.here p e)
  · cases e : inM M p with
    | false => rfl
    | true =>
      obtain ⟨q, hq, hp⟩ := List.any_eq_true.mp e
      obtain ⟨k, hk, _⟩ := A.memo q hq
      rw [beq_iff_eq.mp hp, h] at hk
      cases hk
theorem Amb.ex {Z : Addr → Bool} {M : Ml} {H H' : Hp} (A : Amb Z M H) (e : Ex H H') : Amb Z M H' where
  memo := fun p hp => by
    obtain ⟨k, h1, h2⟩ := A.memo p hp
    exact ⟨k, e _ _ h1, p.2.mono (Fr.out (Fr.of_ex e)) h2⟩
  here := fun a z h => A.here a z (e.free h)
  nd := A.nd
  off := A.off
theorem Amb.new {Z : Addr → Bool} {M : Ml} {H : Hp} (A : Amb Z M H) {p : Addr} {o : HO} (h : H p = none) : Amb Z M (upd H p o) := A.ex (Ex.new h)
theorem Amb.got {Z : Addr → Bool} {M : Ml} {H : Hp} (A : Amb Z M H) {p : Addr} {o : HO} (h : H p = none) : out (Zm Z M) (upd H p o) p = some o := by
  rw [out_at (A.fresh h)]
  exact upd_same
theorem amb_nil {Z : Addr → Bool} {H : Hp} (h : ∀ a, Z a = true → H a ≠ none) : Amb Z [] H := ⟨(fun p hp => nomatch hp), h, List.nodup_nil, (fun p hp => nomatch hp)⟩
theorem zm_nil {Z : Addr → Bool} : Zm Z [] = Z := by funext a; simp [Zm, inM]

/-! ### contexts: what a def's body, a comprehension's block runs in -/
structure Pg where
  P : Program
  w : World
  K : PySem.W.Frag
  mg : Str → Option Value
  base : Heap
structure Ct where
  ι : Type
  N : List Str
  A : ι → Around
  s0 : ι → Shared
  H0 : ι → Hp
  env : ι → Env
  outer : ι → List Env
  stack : ι → List Env
  ex : ι → List Addr
  fn : ι → Str → Bool
  pn : ι → List (Addr × Obj)
@[reducible] def Ct.X (g : Pg) (C : Ct) (i : C.ι) : Cx := ⟨g.P, g.w, g.K, g.mg, g.base, C.A i, C.N, C.s0 i, C.H0 i, C.env i, C.outer i, C.stack i, C.ex i, C.fn i, true, C.pn i, fun _ _ => False⟩
/-- the context of one def's body -/
@[reducible] def ctOf (X : Cx) : Ct := ⟨Unit, X.N, fun _ => X.A, fun _ => X.s_0, fun _ => X.H_0, fun _ => X.env, fun _ => X.outer, fun _ => X.stack, fun _ => X.ex, fun _ => X.fn, fun _ => X.pn⟩
/-- a comprehension's block -/
@[reducible] def Ct.blk (C : Ct) (scope : Scope) : Ct := ⟨C.ι × Shared × Hp × Addr × List (Str × Addr) × List Addr, C.N, fun j => C.A j.1, fun j => j.2.1, fun j => j.2.2.1, fun j => compEnvC scope j.2.2.2.2.1 j.2.2.2.1 (C.env j.1),
  fun j => C.stack j.1, fun j => C.stack j.1, fun j => j.2.2.2.2.2, fun _ => fun x => scope.names.lookup x == some .cell, fun _ => []⟩
variable (g : Pg) (C : Ct)
def wE (e : Expr) : TE := fun σ H Q => ∀ (i : C.ι) (pins : List (Addr × Obj)) (s : Shared), Inv (C.X g i) pins σ H s → wpAny (model g.P g.w) (C.A i) (eval e (C.env i)) (EP (C.X g i) pins σ Q) (fun _ _ => False) s
def wT (e : Expr) : TT := fun σ H Q => ∀ (i : C.ι) (pins : List (Addr × Obj)) (s : Shared), Inv (C.X g i) pins σ H s → wpAny (model g.P g.w) (C.A i) (isTrue e (C.env i) (eval e (C.env i))) (TP (C.X g i) pins σ Q) (fun _ _ => False) s
def wA (es : List Expr) : TA := fun σ H Q => ∀ (i : C.ι) (pos : Pos) (pins : List (Addr × Obj)) (s : Shared), Inv (C.X g i) pins σ H s → wpAny (model g.P g.w) (C.A i) (spliced (backTo pos (starEach es (C.env i)))) (AP (C.X g i) pins σ Q) (fun _ _ => False) s
def wK (ks : List Keyword) : TA := fun σ H Q => ∀ (i : C.ι) (pos : Pos) (pins : List (Addr × Obj)) (s : Shared), Inv (C.X g i) pins σ H s → wpAny (model g.P g.w) (C.A i) (evalAll ((backToKw pos (keywordEach ks (C.env i))).map (·.2))) (AP (C.X g i) pins σ Q) (fun _ _ => False) s
def wS (st : Stmt) : TS := fun D σ H => ∀ (i : C.ι) (pins : List (Addr × Obj)) (s : Shared), Inv (C.X g i) pins σ H s → wpAny (model g.P g.w) (C.A i) (exec st (C.env i)) (SP (C.X g i) pins D) (fun _ _ => False) s
def wB (st : List Stmt) : TS := fun D σ H => ∀ (i : C.ι) (pins : List (Addr × Obj)) (s : Shared), Inv (C.X g i) pins σ H s → wpAny (model g.P g.w) (C.A i) (execs st (C.env i)) (SP (C.X g i) pins D) (fun _ _ => False) s
section
variable {g C} {e : Expr} {es : List Expr} {ks : List Keyword} {st : Stmt} {sts : List Stmt} {σ : L2.St} {H : Hp}
theorem pe_w (i : C.ι) : PE (C.X g i) e (wE g C e) := ⟨fun pins s _ _ _ I h => h i pins s I⟩
theorem pt_w (i : C.ι) : PT (C.X g i) e (wT g C e) := ⟨fun pins s _ _ _ I h => h i pins s I⟩
theorem pa_w (i : C.ι) : PA (C.X g i) es (wA g C es) := ⟨fun pos pins s _ _ _ I h => h i pos pins s I⟩
theorem pk_w (i : C.ι) : PK (C.X g i) ks (wK g C ks) := ⟨fun pos pins s _ _ _ I h => h i pos pins s I⟩
theorem ps_w (i : C.ι) : PS (C.X g i) st (wS g C st) := ⟨fun pins s _ _ _ I h => h i pins s I⟩
theorem pss_w (i : C.ι) : PSs (C.X g i) sts (wB g C sts) := ⟨fun pins s _ _ _ I h => h i pins s I⟩
theorem w_pe {t : TE} {Q : VK} (q : t σ H Q) (h : ∀ i, PE (C.X g i) e t) : wE g C e σ H Q := fun i pins s I => (h i).run pins s σ H Q I q
theorem w_pt {t : TT} {Q : Bool → Hp → Prop} (q : t σ H Q) (h : ∀ i, PT (C.X g i) e t) : wT g C e σ H Q := fun i pins s I => (h i).run pins s σ H Q I q
theorem w_pa {t : TA} {Q : List V → Hp → Prop} (q : t σ H Q) (h : ∀ i, PA (C.X g i) es t) : wA g C es σ H Q := fun i pos pins s I => (h i).run pos pins s σ H Q I q
theorem w_pk {t : TA} {Q : List V → Hp → Prop} (q : t σ H Q) (h : ∀ i, PK (C.X g i) ks t) : wK g C ks σ H Q := fun i pos pins s I => (h i).run pos pins s σ H Q I q
theorem w_ps {t : TS} {D : Ends} (q : t D σ H) (h : ∀ i, PS (C.X g i) st t) : wS g C st D σ H := fun i pins s I => (h i).run pins s σ H D I q
theorem w_pss {t : TS} {D : Ends} (q : t D σ H) (h : ∀ i, PSs (C.X g i) sts t) : wB g C sts D σ H := fun i pins s I => (h i).run pins s σ H D I q
end

/-! ### the judgements: an expression's value, a test's answer, the arguments' values -/
def XE (M : Ml) (δ : Sd) (e : Expr) (T : Ty) : Prop := ∀ (Z : Addr → Bool) (σ : L2.St) (H : Hp), Sl (out (Zm Z M) H) δ σ → Amb Z M H → ∀ Q : VK, (∀ v H', Fr M H H' → Amb Z M H' → T.p (out (Zm Z M) H') v → Q v H') → wE g C e σ H Q
def XT (M : Ml) (δ : Sd) (e : Expr) (b : Bool) : Prop := ∀ (Z : Addr → Bool) (σ : L2.St) (H : Hp), Sl (out (Zm Z M) H) δ σ → Amb Z M H → ∀ Q : Bool → Hp → Prop, (∀ H', Fr M H H' → Amb Z M H' → Q b H') → wT g C e σ H Q
def XA (M : Ml) (δ : Sd) (es : List Expr) (Ts : List Ty) : Prop := ∀ (Z : Addr → Bool) (σ : L2.St) (H : Hp), Sl (out (Zm Z M) H) δ σ → Amb Z M H → ∀ Q : List V → Hp → Prop, (∀ vs H', Fr M H H' → Amb Z M H' → Al2 (out (Zm Z M) H') Ts vs → Q vs H') → wA g C es σ H Q
def XKw (M : Ml) (δ : Sd) (ks : List Keyword) (Ts : List Ty) : Prop := ∀ (Z : Addr → Bool) (σ : L2.St) (H : Hp), Sl (out (Zm Z M) H) δ σ → Amb Z M H → ∀ Q : List V → Hp → Prop, (∀ vs H', Fr M H H' → Amb Z M H' → Al2 (out (Zm Z M) H') Ts vs → Q vs H') → wK g C ks σ H Q
end Pf
end
section
set_option Elab.async false
set_option linter.all false
set_option maxRecDepth 100000
set_option maxHeartbeats 2000000
namespace Pf
open PySem PySem.Spec PyProof.Rows L2
section
variable {g : Pg} {C : Ct} {M : Ml} {δ : Sd} {e a b c o : Expr} {es : List Expr} {pos p p2 apos : Pos} {T Ta Tb Tc : Ty} {Ts : List Ty}
/-! ### glue -/
theorem XE.sub (h : XE g C M δ e Ta) (s : ∀ B v, Ta.p B v → T.p B v) : XE g C M δ e T := fun Z σ H hs hA Q k => h Z σ H hs hA Q fun v H' f A t => k v H' f A (s _ _ t)
theorem XE.to (h : XE g C M δ e Ta) (s : Ta = T) : XE g C M δ e T := s ▸ h
theorem XE.toD {d d' : PyData} (h : XE g C M δ e (tD g.K d)) (s : d = d') : XE g C M δ e (tD g.K d') := s ▸ h
theorem XT.to {k k' : Bool} (h : XT g C M δ e k) (s : k = k') : XT g C M δ e k' := s ▸ h
/-- two in a row -/
theorem two (ha : XE g C M δ a Ta) (hb : XE g C M δ b Tb) {Z : Addr → Bool} {σ : L2.St} {H : Hp} (hs : Sl (out (Zm Z M) H) δ σ) (hA : Amb Z M H) (R : V → V → Hp → Prop)
    (k : ∀ x y H', Fr M H H' → Amb Z M H' → Ta.p (out (Zm Z M) H') x → Tb.p (out (Zm Z M) H') y → R x y H') : wE g C a σ H fun x H1 => wE g C b σ H1 fun y H2 => R x y H2 :=
  ha Z σ H hs hA _ fun x H1 f1 A1 t1 => hb Z σ H1 (hs.mono f1.out) A1 _ fun y H2 f2 A2 t2 => k x y H2 (f1.trans f2) A2 (Ta.mono f2.out t1) t2
/-! ### names and constants -/
theorem xe_name {x : Str} {i : Nat} (h : δ[i]? = some (some T)) (hN : C.N[i]? = some x := by rfl) (hv : ∀ j, Vis (C.env j).scope x := by intro _; first | exact Or.inl rfl | exact Or.inr (Or.inl rfl) | exact Or.inr (Or.inr rfl))
    (hd : (x == ("__debug__" : Str)) = false := by decide) (hcd : (x == ("__classdict__" : Str)) = false := by decide) : XE g C M δ (.Name x pos) T := fun Z σ H hs hA Q k => by
  obtain ⟨v, h1, h2⟩ := hs.get h
  exact w_pe (t := tVar i) ⟨v, h1, k v H Fr.refl hA h2⟩ fun j => pe_var hN (hv j) hd hcd
theorem xe_const {v : V} (h : ∀ i, PE (C.X g i) e (tC v)) (t : ∀ B, T.p B v) : XE g C M δ e T := fun Z σ H hs hA Q k => w_pe (t := tC v) (k v H Fr.refl hA (t _)) h
theorem xe_int {i : Int} {j} : XE g C M δ (.Constant (.int i) j pos) (tD g.K (.int i)) := xe_const (fun _ => pe_int) fun _ => .int i
theorem xe_bl {i : Bool} {j} : XE g C M δ (.Constant (.bool i) j pos) (tD g.K (.bool i)) := xe_const (fun _ => pe_bl) fun _ => .bl i
theorem xe_non {j} : XE g C M δ (.Constant .none j pos) (tD g.K .none) := xe_const (fun _ => pe_non) fun _ => .non
theorem xe_str {i : Str} {j} : XE g C M δ (.Constant (.str i) j pos) (tD g.K (.str i)) := xe_const (fun _ => pe_str) fun _ => .str i
theorem xe_gint {x : Str} {i : Int} (hm : ∃ t, g.mg x = some (.int i t)) (hg : ∀ j, (C.env j).kindOf x = some .globalImplicit := by intro _; rfl) (hd : (x == ("__debug__" : Str)) = false := by decide) : XE g C M δ (.Name x pos) (tD g.K (.int i)) := by
  obtain ⟨t, hm⟩ := hm
  exact xe_const (v := .int i) (fun j => pe_glob (X := C.X g j) (u := .int i t) (hg j) hm ⟨t, rfl⟩ hd) fun _ => .int i
theorem xe_gref {x : Str} {u : Addr} (hm : g.mg x = some (.ref u)) (t : ∀ B, T.p B (.ref u)) (hg : ∀ j, (C.env j).kindOf x = some .globalImplicit := by intro _; rfl) (hd : (x == ("__debug__" : Str)) = false := by decide) : XE g C M δ (.Name x pos) T :=
  xe_const (v := .ref u) (fun j => pe_glob (X := C.X g j) (u := .ref u) (hg j) hm rfl hd) t
/-! ### operators -/
theorem xe_opV {op : Operator} {r : R2} (ho : ∀ i, OpR (C.X g i) (binaryOp op) r) (hr : ∀ B H x y (Q : VK), Ex B H → Ta.p B x → Tb.p B y → ∃ z, T.p B z ∧ (Q z H → r x y H Q)) (ha : XE g C M δ a Ta) (hb : XE g C M δ b Tb) : XE g C M δ (.BinOp a op b pos) T := fun Z σ H hs hA Q k => by
  refine w_pe (t := tOp r (wE g C a) (wE g C b)) ?_ fun i => pe_op (ho i) (pe_w i) (pe_w i)
  refine two ha hb hs hA _ fun x y H' f A tx ty => ?_
  obtain ⟨z, hz, q⟩ := hr _ H' x y Q out_sub tx ty
  exact q (k z H' f A hz)
theorem xe_opN {op : Operator} {r : R2} (ho : ∀ i, OpR (C.X g i) (binaryOp op) r) (hr : ∀ B H x y (Q : VK), Ex B H → Ta.p B x → Tb.p B y → ∃ o, (∀ p B', Ex B B' → B' p = some o → T.p B' (.ref p)) ∧ ((∀ p, H p = none → Q (.ref p) (upd H p o)) → r x y H Q))
    (ha : XE g C M δ a Ta) (hb : XE g C M δ b Tb) : XE g C M δ (.BinOp a op b pos) T := fun Z σ H hs hA Q k => by
  refine w_pe (t := tOp r (wE g C a) (wE g C b)) ?_ fun i => pe_op (ho i) (pe_w i) (pe_w i)
  refine two ha hb hs hA _ fun x y H' f A tx ty => ?_
  obtain ⟨z, hz, q⟩ := hr _ H' x y Q out_sub tx ty
  exact q fun p hp => k _ _ (f.trans (Fr.of_ex (Ex.new hp))) (A.new hp) (hz p _ (Fr.out (Fr.of_ex (Ex.new hp))) (A.got hp))
/-- numbers that are not too great -/
def Lo (i : Int) : Prop := i.natAbs < 2 ^ 4000
theorem Lo.mul {i j : Int} (h : Lo i) (h' : Lo j) : CMulW i j := wide_mul h h' (by decide) (by decide) (by decide)
theorem xe_add {i j : Int} (ha : XE g C M δ a (tD g.K (.int i))) (hb : XE g C M δ b (tD g.K (.int j))) : XE g C M δ (.BinOp a .Add b pos) (tD g.K (.int (i + j))) :=
  xe_opV (fun _ => op_add) (fun B H x y Q _ hx hy => ⟨_, .int _, fun q => ⟨i, j, rp_int hx, rp_int hy, q⟩⟩) ha hb
theorem xe_sub {i j : Int} (ha : XE g C M δ a (tD g.K (.int i))) (hb : XE g C M δ b (tD g.K (.int j))) : XE g C M δ (.BinOp a .Sub b pos) (tD g.K (.int (i - j))) :=
  xe_opV (fun _ => op_sub) (fun B H x y Q _ hx hy => ⟨_, .int _, fun q => ⟨i, j, rp_int hx, rp_int hy, q⟩⟩) ha hb
theorem xe_mul {i j : Int} (hi : Lo i) (hj : Lo j) (ha : XE g C M δ a (tD g.K (.int i))) (hb : XE g C M δ b (tD g.K (.int j))) : XE g C M δ (.BinOp a .Mult b pos) (tD g.K (.int (i * j))) :=
  xe_opV (fun _ => op_mulW) (fun B H x y Q _ hx hy => ⟨_, .int _, fun q => ⟨i, j, rp_int hx, rp_int hy, hi.mul hj, q⟩⟩) ha hb
theorem xe_mod {i j : Int} (hj : 0 < j) (ha : XE g C M δ a (tD g.K (.int i))) (hb : XE g C M δ b (tD g.K (.int j))) : XE g C M δ (.BinOp a .Mod b pos) (tD g.K (.int (i % j))) :=
  xe_opV (fun _ => op_mod) (fun B H x y Q _ hx hy => ⟨_, .int _, fun q => ⟨i, j, rp_int hx, rp_int hy, hj, q⟩⟩) ha hb
theorem xe_div {i j : Int} (hj : 0 < j) (hl : Lo j) (ha : XE g C M δ a (tD g.K (.int i))) (hb : XE g C M δ b (tD g.K (.int j))) : XE g C M δ (.BinOp a .FloorDiv b pos) (tD g.K (.int (i / j))) :=
  xe_opV (fun _ => op_fdivW) (fun B H x y Q _ hx hy => ⟨_, .int _, fun q => ⟨i, j, rp_int hx, rp_int hy, wide_div hj hl (by decide) (by decide), q⟩⟩) ha hb
theorem xe_shr {i j : Int} (hj : 0 ≤ j) (ha : XE g C M δ a (tD g.K (.int i))) (hb : XE g C M δ b (tD g.K (.int j))) : XE g C M δ (.BinOp a .RShift b pos) (tD g.K (.int (i / 2 ^ j.toNat))) :=
  xe_opV (fun _ => op_shr) (fun B H x y Q _ hx hy => ⟨_, .int _, fun q => ⟨i, j, rp_int hx, rp_int hy, hj, q⟩⟩) ha hb
theorem xe_pow {i j : Int} (h : 0 ≤ j ∧ j ≤ 1000000 ∧ i.natAbs < 2 ^ 64) (ha : XE g C M δ a (tD g.K (.int i))) (hb : XE g C M δ b (tD g.K (.int j))) : XE g C M δ (.BinOp a .Pow b pos) (tD g.K (.int (i ^ j.toNat))) :=
  xe_opV (fun _ => op_pow) (fun B H x y Q _ hx hy => ⟨_, .int _, fun q => ⟨i, j, rp_int hx, rp_int hy, h, q⟩⟩) ha hb
theorem xe_neg {i : Int} (ha : XE g C M δ a (tD g.K (.int i))) : XE g C M δ (.UnaryOp .USub a pos) (tD g.K (.int (-i))) := fun Z σ H hs hA Q k =>
  w_pe (t := tUn (rU fun i => .int (-i)) (wE g C a)) (ha Z σ H hs hA _ fun v H' f A t => ⟨i, rp_int t, k _ H' f A (.int _)⟩) fun i => pe_un un_neg (pe_w i)
theorem rpall_len_le {B : Hp} {K : PySem.W.Frag} {vs : List V} {ds : List PyData} (h : RpAll K B vs ds) {n : Nat} (hn : ds.length ≤ n) : vs.length ≤ n := by rw [h.length]; exact hn
theorem sz6 {n : Nat} (h : n ≤ 100000) : n ≤ sizeLine := Nat.le_trans h (by decide)
/-- tuple + tuple -/
theorem xe_catT {ds ds' : List PyData} (hz : ds.length + ds'.length ≤ 100000) (ha : XE g C M δ a (tD g.K (.tuple ds))) (hb : XE g C M δ b (tD g.K (.tuple ds'))) : XE g C M δ (.BinOp a .Add b pos) (tD g.K (.tuple (ds ++ ds'))) := fun Z σ H hs hA Q k => by
  refine w_pe (t := tOp (rCatA g.K) (wE g C a) (wE g C b)) ?_ fun i => pe_op (op_catA (X := C.X g i)) (pe_w i) (pe_w i)
  refine two ha hb hs hA _ fun x y H' f A tx ty => ?_
  obtain ⟨p, xs, rfl, h1, r1⟩ := rp_tup tx
  obtain ⟨q, ys, rfl, h2, r2⟩ := rp_tup ty
  have l1 := r1.length
  have l2 := r2.length
  refine ⟨p, q, xs, ys, rfl, rfl, sqt_mono out_sub h1, sqt_mono out_sub h2, sz6 (by omega), ?_⟩
  refine ⟨fun hx => k _ H' f A ?_, fun _ hy => k _ H' f A ?_, fun _ _ p hp => k _ _ (f.trans (Fr.of_ex (Ex.new hp))) (A.new hp) ?_⟩
  · subst hx
    cases r1
    exact .tup h2 r2
  · subst hy
    cases r2
    rw [List.append_nil]
    exact .tup h1 r1
  · exact .tup (SqT.of (A.got hp)) (RpAll.append (r1.mono (Fr.out (Fr.of_ex (Ex.new hp)))) (r2.mono (Fr.out (Fr.of_ex (Ex.new hp)))))
/-- list + list -/
theorem xe_catL {ds ds' : List PyData} (hz : ds.length + ds'.length ≤ 100000) (ha : XE g C M δ a (tD g.K (.list ds))) (hb : XE g C M δ b (tD g.K (.list ds'))) : XE g C M δ (.BinOp a .Add b pos) (tD g.K (.list (ds ++ ds'))) :=
  xe_opN (fun _ => op_cat) (fun B H x y Q e hx hy => by
    obtain ⟨p, xs, rfl, h1, r1⟩ := rp_lst hx
    obtain ⟨q, ys, rfl, h2, r2⟩ := rp_lst hy
    have l1 := r1.length
    have l2 := r2.length
    exact ⟨.lst (xs ++ ys), fun p B' e' hp => .lst hp (RpAll.append (r1.mono e') (r2.mono e')), fun k => ⟨p, q, xs, ys, rfl, rfl, e _ _ h1, e _ _ h2, sz6 (by omega), k⟩⟩) ha hb
/-! ### comparisons -/
theorem xe_cmpV {op : CmpOp} {r : R2} (ho : ∀ i, OpR (C.X g i) (compareOp op) r) (hr : ∀ B H x y (Q : VK), Ex B H → Ta.p B x → Tb.p B y → ∃ z, T.p B z ∧ (Q z H → r x y H Q)) (ha : XE g C M δ a Ta) (hb : XE g C M δ b Tb) (hm : behindInMarks op b = false) : XE g C M δ (.Compare a [op] [b] pos) T := fun Z σ H hs hA Q k => by
  refine w_pe (t := tOp r (wE g C a) (wE g C b)) ?_ fun i => pe_cmpR (ho i) (pe_w i) (pe_w i) hm
  refine two ha hb hs hA _ fun x y H' f A tx ty => ?_
  obtain ⟨z, hz, q⟩ := hr _ H' x y Q out_sub tx ty
  exact q (k z H' f A hz)
theorem xt_cmpV {op : CmpOp} {r : R2} {k : Bool} (ho : ∀ i, OpR (C.X g i) (compareOp op) r) (hr : ∀ B H x y (Q : VK), Ex B H → Ta.p B x → Tb.p B y → (Q (.bl k) H → r x y H Q)) (ha : XE g C M δ a Ta) (hb : XE g C M δ b Tb) (hm : behindInMarks op b = false) : XT g C M δ (.Compare a [op] [b] pos) k := fun Z σ H hs hA Q kk => by
  refine w_pt (t := tTest (tOp r (wE g C a) (wE g C b))) ?_ fun i => pt_cmpR (ho i) (pe_w i) (pe_w i) hm
  refine two ha hb hs hA _ fun x y H' f A tx ty => ?_
  exact hr _ H' x y _ out_sub tx ty ⟨k, rfl, kk H' f A⟩
/-- a test by its value -/
theorem xt_val {k : Bool} (h : XE g C M δ e (tD g.K (.bool k))) (he : ∀ j whole, isTrue e (C.env j) whole = (do let v ← whole; standAt e.pos; holding [v] (truthy v)) := by intro _ _; rfl) : XT g C M δ e k := fun Z σ H hs hA Q kk =>
  w_pt (t := tB (wE g C e)) (h Z σ H hs hA _ fun v H' f A t => ⟨k, rp_bl t, kk H' f A⟩) fun i => pt_val (pe_w i) (he i)
/-- and, or, not as tests -/
def wW (g : Pg) (C : Ct) (e : Expr) : TT := fun σ H Q => ∀ (i : C.ι) (whole : Sem Value) (pins : List (Addr × Obj)) (s : Shared), Inv (C.X g i) pins σ H s → wpAny (model g.P g.w) (C.A i) (isTrue e (C.env i) whole) (TP (C.X g i) pins σ Q) (fun _ _ => False) s
theorem pw_w (i : C.ι) : PW (C.X g i) e (wW g C e) := ⟨fun wh pins s _ _ _ I h => h i wh pins s I⟩
theorem w_pw {σ : L2.St} {H : Hp} {t : TT} {Q : Bool → Hp → Prop} (q : t σ H Q) (h : ∀ i, PW (C.X g i) e t) : wW g C e σ H Q := fun i wh pins s I => (h i).run wh pins s σ H Q I q
def XW (g : Pg) (C : Ct) (M : Ml) (δ : Sd) (e : Expr) (b : Bool) : Prop := ∀ (Z : Addr → Bool) (σ : L2.St) (H : Hp), Sl (out (Zm Z M) H) δ σ → Amb Z M H → ∀ Q : Bool → Hp → Prop, (∀ H', Fr M H H' → Amb Z M H' → Q b H') → wW g C e σ H Q
theorem XW.t {k : Bool} (h : XW g C M δ e k) : XT g C M δ e k := fun Z σ H hs hA Q kk => w_pt (h Z σ H hs hA Q kk) fun i => (pw_w i).pt
variable {rest : List Expr} {ka kb : Bool}
theorem xw_and1 (ha : XT g C M δ a ka) : XW g C M δ (.BoolOp .And [a] pos) ka := fun Z σ H hs hA Q kk => w_pw (ha Z σ H hs hA Q kk) fun i => pw_and1 (pt_w i)
theorem xw_or1 (ha : XT g C M δ a ka) : XW g C M δ (.BoolOp .Or [a] pos) ka := fun Z σ H hs hA Q kk => w_pw (ha Z σ H hs hA Q kk) fun i => pw_or1 (pt_w i)
theorem xw_and (ha : XT g C M δ a ka) (hb : ka = true → XW g C M δ (.BoolOp .And (b :: rest) pos) kb) : XW g C M δ (.BoolOp .And (a :: b :: rest) pos) (ka && kb) := fun Z σ H hs hA Q kk => by
  refine w_pw (t := tAnd (wT g C a) (wW g C (.BoolOp .And (b :: rest) pos))) ?_ fun i => pw_and (pt_w i) (pw_w i)
  refine ha Z σ H hs hA _ fun H1 f1 A1 => ?_
  cases ka with
  | true => exact iteT (hb rfl Z σ H1 (hs.mono f1.out) A1 Q fun H2 f2 A2 => kk H2 (f1.trans f2) A2)
  | false => exact iteF (kk H1 f1 A1)
theorem xw_or (ha : XT g C M δ a ka) (hb : ka = false → XW g C M δ (.BoolOp .Or (b :: rest) pos) kb) : XW g C M δ (.BoolOp .Or (a :: b :: rest) pos) (ka || kb) := fun Z σ H hs hA Q kk => by
  refine w_pw (t := tOr (wT g C a) (wW g C (.BoolOp .Or (b :: rest) pos))) ?_ fun i => pw_or (pt_w i) (pw_w i)
  refine ha Z σ H hs hA _ fun H1 f1 A1 => ?_
  cases ka with
  | true => exact iteT (kk H1 f1 A1)
  | false => exact iteF (hb rfl Z σ H1 (hs.mono f1.out) A1 Q fun H2 f2 A2 => kk H2 (f1.trans f2) A2)
theorem xt_not (ha : XT g C M δ a ka) : XT g C M δ (.UnaryOp .Not a pos) (!ka) := fun Z σ H hs hA Q kk =>
  w_pt (t := tNot (wT g C a)) (ha Z σ H hs hA _ fun H1 f1 A1 => kk H1 f1 A1) fun i => pt_not (pt_w i)
/-- and, or, not of truths, as values -/
theorem xe_one {op} (h : XE g C M δ a T) : XE g C M δ (.BoolOp op [a] pos) T := fun Z σ H hs hA Q k => w_pe (h Z σ H hs hA Q k) fun i => pe_one (pe_w i)
theorem xe_and (ha : XE g C M δ a (tD g.K (.bool ka))) (hb : ka = true → XE g C M δ (.BoolOp .And (b :: rest) pos) (tD g.K (.bool kb))) : XE g C M δ (.BoolOp .And (a :: b :: rest) pos) (tD g.K (.bool (ka && kb))) := fun Z σ H hs hA Q kk => by
  refine w_pe (t := tAndV (wE g C a) (wE g C (.BoolOp .And (b :: rest) pos))) ?_ fun i => pe_and (pe_w i) (pe_w i)
  refine ha Z σ H hs hA _ fun v H1 f1 A1 t1 => ⟨ka, rp_bl t1, ?_⟩
  cases ka with
  | true => exact iteT (hb rfl Z σ H1 (hs.mono f1.out) A1 Q fun v H2 f2 A2 => kk v H2 (f1.trans f2) A2)
  | false => exact iteF (kk _ H1 f1 A1 (.bl _))
theorem xe_or (ha : XE g C M δ a (tD g.K (.bool ka))) (hb : ka = false → XE g C M δ (.BoolOp .Or (b :: rest) pos) (tD g.K (.bool kb))) : XE g C M δ (.BoolOp .Or (a :: b :: rest) pos) (tD g.K (.bool (ka || kb))) := fun Z σ H hs hA Q kk => by
  refine w_pe (t := tOrV (wE g C a) (wE g C (.BoolOp .Or (b :: rest) pos))) ?_ fun i => pe_or (pe_w i) (pe_w i)
  refine ha Z σ H hs hA _ fun v H1 f1 A1 t1 => ⟨ka, rp_bl t1, ?_⟩
  cases ka with
  | true => exact iteT (kk _ H1 f1 A1 (.bl _))
  | false => exact iteF (hb rfl Z σ H1 (hs.mono f1.out) A1 Q fun v H2 f2 A2 => kk v H2 (f1.trans f2) A2)
theorem xe_not (ha : XE g C M δ a (tD g.K (.bool ka))) : XE g C M δ (.UnaryOp .Not a pos) (tD g.K (.bool (!ka))) := fun Z σ H hs hA Q kk =>
  w_pe (t := tNotV (wE g C a)) (ha Z σ H hs hA _ fun v H1 f1 A1 t1 => ⟨ka, rp_bl t1, kk _ H1 f1 A1 (.bl _)⟩) fun i => pe_not (pe_w i)
theorem xe_if (hc : XT g C M δ c ka) (h1 : ka = true → XE g C M δ a T) (h2 : ka = false → XE g C M δ b T) : XE g C M δ (.IfExp c a b pos) T := fun Z σ H hs hA Q kk => by
  refine w_pe (t := tIf (wT g C c) (wE g C a) (wE g C b)) ?_ fun i => pe_ifExp (pt_w i) (pe_w i) (pe_w i)
  refine hc Z σ H hs hA _ fun H1 f1 A1 => ?_
  cases ka with
  | true => exact iteT (h1 rfl Z σ H1 (hs.mono f1.out) A1 Q fun v H2 f2 A2 => kk v H2 (f1.trans f2) A2)
  | false => exact iteF (h2 rfl Z σ H1 (hs.mono f1.out) A1 Q fun v H2 f2 A2 => kk v H2 (f1.trans f2) A2)
/-! ### comparisons of numbers -/
variable {i j l : Int}
theorem xt_lt (ha : XE g C M δ a (tD g.K (.int i))) (hb : XE g C M δ b (tD g.K (.int j))) : XT g C M δ (.Compare a [.Lt] [b] pos) (decide (i < j)) := xt_cmpV (fun _ => op_lt) (fun B H x y Q _ hx hy q => ⟨i, j, rp_int hx, rp_int hy, q⟩) ha hb (nomark _)
theorem xt_le (ha : XE g C M δ a (tD g.K (.int i))) (hb : XE g C M δ b (tD g.K (.int j))) : XT g C M δ (.Compare a [.LtE] [b] pos) (decide (i ≤ j)) := xt_cmpV (fun _ => op_le) (fun B H x y Q _ hx hy q => ⟨i, j, rp_int hx, rp_int hy, q⟩) ha hb (nomark _)
theorem xt_gt (ha : XE g C M δ a (tD g.K (.int i))) (hb : XE g C M δ b (tD g.K (.int j))) : XT g C M δ (.Compare a [.Gt] [b] pos) (decide (j < i)) := xt_cmpV (fun _ => op_gt) (fun B H x y Q _ hx hy q => ⟨i, j, rp_int hx, rp_int hy, q⟩) ha hb (nomark _)
theorem xt_ge (ha : XE g C M δ a (tD g.K (.int i))) (hb : XE g C M δ b (tD g.K (.int j))) : XT g C M δ (.Compare a [.GtE] [b] pos) (decide (j ≤ i)) := xt_cmpV (fun _ => op_ge) (fun B H x y Q _ hx hy q => ⟨i, j, rp_int hx, rp_int hy, q⟩) ha hb (nomark _)
theorem xe_lt (ha : XE g C M δ a (tD g.K (.int i))) (hb : XE g C M δ b (tD g.K (.int j))) : XE g C M δ (.Compare a [.Lt] [b] pos) (tD g.K (.bool (decide (i < j)))) := xe_cmpV (fun _ => op_lt) (fun B H x y Q _ hx hy => ⟨_, .bl _, fun q => ⟨i, j, rp_int hx, rp_int hy, q⟩⟩) ha hb (nomark _)
theorem xe_le (ha : XE g C M δ a (tD g.K (.int i))) (hb : XE g C M δ b (tD g.K (.int j))) : XE g C M δ (.Compare a [.LtE] [b] pos) (tD g.K (.bool (decide (i ≤ j)))) := xe_cmpV (fun _ => op_le) (fun B H x y Q _ hx hy => ⟨_, .bl _, fun q => ⟨i, j, rp_int hx, rp_int hy, q⟩⟩) ha hb (nomark _)
theorem xe_gt (ha : XE g C M δ a (tD g.K (.int i))) (hb : XE g C M δ b (tD g.K (.int j))) : XE g C M δ (.Compare a [.Gt] [b] pos) (tD g.K (.bool (decide (j < i)))) := xe_cmpV (fun _ => op_gt) (fun B H x y Q _ hx hy => ⟨_, .bl _, fun q => ⟨i, j, rp_int hx, rp_int hy, q⟩⟩) ha hb (nomark _)
theorem xe_ge (ha : XE g C M δ a (tD g.K (.int i))) (hb : XE g C M δ b (tD g.K (.int j))) : XE g C M δ (.Compare a [.GtE] [b] pos) (tD g.K (.bool (decide (j ≤ i)))) := xe_cmpV (fun _ => op_ge) (fun B H x y Q _ hx hy => ⟨_, .bl _, fun q => ⟨i, j, rp_int hx, rp_int hy, q⟩⟩) ha hb (nomark _)
theorem hEqI {Q : VK} {B H : Hp} {x y : V} (hx : (tD g.K (.int i)).p B x) (hy : (tD g.K (.int j)).p B y) (q : Q (.bl (decide (i = j))) H) : rEq x y H Q := by
  rw [rp_int hx, rp_int hy]
  refine ⟨rfl, ?_⟩
  have e : decide (V.int i = V.int j) = decide (i = j) := by by_cases h : i = j <;> simp [h]
  rw [e]
  exact q
theorem hNeI {Q : VK} {B H : Hp} {x y : V} (hx : (tD g.K (.int i)).p B x) (hy : (tD g.K (.int j)).p B y) (q : Q (.bl (!decide (i = j))) H) : rNe x y H Q := by
  rw [rp_int hx, rp_int hy]
  refine ⟨rfl, ?_⟩
  have e : decide (V.int i = V.int j) = decide (i = j) := by by_cases h : i = j <;> simp [h]
  rw [e]
  exact q
theorem xt_eqI (ha : XE g C M δ a (tD g.K (.int i))) (hb : XE g C M δ b (tD g.K (.int j))) : XT g C M δ (.Compare a [.Eq] [b] pos) (decide (i = j)) := xt_cmpV (fun _ => op_eq) (fun B H x y Q _ hx hy => hEqI hx hy) ha hb (nomark _)
theorem xt_neI (ha : XE g C M δ a (tD g.K (.int i))) (hb : XE g C M δ b (tD g.K (.int j))) : XT g C M δ (.Compare a [.NotEq] [b] pos) (!decide (i = j)) := xt_cmpV (fun _ => op_ne) (fun B H x y Q _ hx hy => hNeI hx hy) ha hb (nomark _)
theorem xe_eqI (ha : XE g C M δ a (tD g.K (.int i))) (hb : XE g C M δ b (tD g.K (.int j))) : XE g C M δ (.Compare a [.Eq] [b] pos) (tD g.K (.bool (decide (i = j)))) := xe_cmpV (fun _ => op_eq) (fun B H x y Q _ hx hy => ⟨_, .bl _, hEqI hx hy⟩) ha hb (nomark _)
theorem xe_neI (ha : XE g C M δ a (tD g.K (.int i))) (hb : XE g C M δ b (tD g.K (.int j))) : XE g C M δ (.Compare a [.NotEq] [b] pos) (tD g.K (.bool (!decide (i = j)))) := xe_cmpV (fun _ => op_ne) (fun B H x y Q _ hx hy => ⟨_, .bl _, hNeI hx hy⟩) ha hb (nomark _)
/-- == of data -/
theorem xt_eqD {d d' : PyData} {n : Nat} (hr : ∀ j, Room n (C.A j)) (sd : SeqAt.shaped d = true) (sd' : SeqAt.shaped d' = true) (ha : XE g C M δ a (tD g.K d)) (hb : XE g C M δ b (tD g.K d')) : XT g C M δ (.Compare a [.Eq] [b] pos) (PyData.eqv d d') :=
  xt_cmpV (r := rEqD g.K) (fun j => op_eqD (X := C.X g j) (hr j).units) (fun B H x y Q e hx hy q => ⟨d, d', (hx.mono e).dp, (hy.mono e).dp, sd, sd', q⟩) ha hb (nomark _)
theorem xt_neD {d d' : PyData} {n : Nat} (hr : ∀ j, Room n (C.A j)) (sd : SeqAt.shaped d = true) (sd' : SeqAt.shaped d' = true) (ha : XE g C M δ a (tD g.K d)) (hb : XE g C M δ b (tD g.K d')) : XT g C M δ (.Compare a [.NotEq] [b] pos) (!PyData.eqv d d') :=
  xt_cmpV (r := rNeD g.K) (fun j => op_neD (X := C.X g j) (hr j).units) (fun B H x y Q e hx hy q => ⟨d, d', (hx.mono e).dp, (hy.mono e).dp, sd, sd', q⟩) ha hb (nomark _)
theorem xe_eqD {d d' : PyData} {n : Nat} (hr : ∀ j, Room n (C.A j)) (sd : SeqAt.shaped d = true) (sd' : SeqAt.shaped d' = true) (ha : XE g C M δ a (tD g.K d)) (hb : XE g C M δ b (tD g.K d')) : XE g C M δ (.Compare a [.Eq] [b] pos) (tD g.K (.bool (PyData.eqv d d'))) :=
  xe_cmpV (r := rEqD g.K) (fun j => op_eqD (X := C.X g j) (hr j).units) (fun B H x y Q e hx hy => ⟨_, .bl _, fun q => ⟨d, d', (hx.mono e).dp, (hy.mono e).dp, sd, sd', q⟩⟩) ha hb (nomark _)
theorem xe_neD {d d' : PyData} {n : Nat} (hr : ∀ j, Room n (C.A j)) (sd : SeqAt.shaped d = true) (sd' : SeqAt.shaped d' = true) (ha : XE g C M δ a (tD g.K d)) (hb : XE g C M δ b (tD g.K d')) : XE g C M δ (.Compare a [.NotEq] [b] pos) (tD g.K (.bool (!PyData.eqv d d'))) :=
  xe_cmpV (r := rNeD g.K) (fun j => op_neD (X := C.X g j) (hr j).units) (fun B H x y Q e hx hy => ⟨_, .bl _, fun q => ⟨d, d', (hx.mono e).dp, (hy.mono e).dp, sd, sd', q⟩⟩) ha hb (nomark _)
/-- is None -/
theorem xt_isN {k : Bool} (hx : ∀ B v, Ta.p B v → decide (v = .non) = k) (ha : XE g C M δ a Ta) (hb : XE g C M δ b (tD g.K .none)) : XT g C M δ (.Compare a [.Is] [b] pos) k :=
  xt_cmpV (fun _ => op_isN) (fun B H x y Q _ tx ty q => ⟨rp_non ty, by rw [hx _ _ tx]; exact q⟩) ha hb (nomark _)
theorem xt_notN {k : Bool} (hx : ∀ B v, Ta.p B v → decide (v = .non) = k) (ha : XE g C M δ a Ta) (hb : XE g C M δ b (tD g.K .none)) : XT g C M δ (.Compare a [.IsNot] [b] pos) (!k) :=
  xt_cmpV (fun _ => op_notN) (fun B H x y Q _ tx ty q => ⟨rp_non ty, by rw [hx _ _ tx]; exact q⟩) ha hb (nomark _)
theorem xe_isN {k : Bool} (hx : ∀ B v, Ta.p B v → decide (v = .non) = k) (ha : XE g C M δ a Ta) (hb : XE g C M δ b (tD g.K .none)) : XE g C M δ (.Compare a [.Is] [b] pos) (tD g.K (.bool k)) :=
  xe_cmpV (fun _ => op_isN) (fun B H x y Q _ tx ty => ⟨_, .bl _, fun q => ⟨rp_non ty, by rw [hx _ _ tx]; exact q⟩⟩) ha hb (nomark _)
theorem xe_notN {k : Bool} (hx : ∀ B v, Ta.p B v → decide (v = .non) = k) (ha : XE g C M δ a Ta) (hb : XE g C M δ b (tD g.K .none)) : XE g C M δ (.Compare a [.IsNot] [b] pos) (tD g.K (.bool (!k))) :=
  xe_cmpV (fun _ => op_notN) (fun B H x y Q _ tx ty => ⟨_, .bl _, fun q => ⟨rp_non ty, by rw [hx _ _ tx]; exact q⟩⟩) ha hb (nomark _)
def isNon : PyData → Bool
  | .none => true
  | _ => false
theorem non_d (d : PyData) : ∀ B v, (tD g.K d).p B v → decide (v = .non) = isNon d := fun B v h => by
  cases h <;> rfl
/-- chains -/
theorem xe_chainI {op op' : CmpOp} {f f' : Int → Int → Bool} (ho : ∀ j, OpR (C.X g j) (compareOp op) (rI0 fun i j => .bl (f i j))) (ho' : ∀ j, OpR (C.X g j) (compareOp op') (rI0 fun i j => .bl (f' i j)))
    (ha : XE g C M δ a (tD g.K (.int i))) (hb : XE g C M δ b (tD g.K (.int j))) (hc : XE g C M δ c (tD g.K (.int l))) (hm : lastMarks [op, op'] [b, c] = false) : XE g C M δ (.Compare a [op, op'] [b, c] pos) (tD g.K (.bool (f i j && f' j l))) := fun Z σ H hs hA Q kk => by
  refine w_pe (t := tChain _ _ (wE g C a) (wE g C b) (wE g C c)) ?_ fun i => pe_chain (ho i) (ho' i) (pe_w i) (pe_w i) (pe_w i) hm
  refine two ha hb hs hA _ fun x y H1 f1 A1 tx ty => ⟨i, j, rp_int tx, rp_int ty, f i j, rfl, ?_⟩
  cases h : f i j with
  | true => exact iteT (hc Z σ H1 (hs.mono f1.out) A1 _ fun z H2 f2 A2 tz => ⟨j, l, rp_int ty, rp_int tz, kk _ H2 (f1.trans f2) A2 (by rw [h, Bool.true_and]; exact .bl _)⟩)
  | false => exact iteF (kk _ H1 f1 A1 (by rw [h, Bool.false_and]; exact .bl _))
theorem xt_chainI {op op' : CmpOp} {f f' : Int → Int → Bool} (ho : ∀ j, OpR (C.X g j) (compareOp op) (rI0 fun i j => .bl (f i j))) (ho' : ∀ j, OpR (C.X g j) (compareOp op') (rI0 fun i j => .bl (f' i j)))
    (ha : XE g C M δ a (tD g.K (.int i))) (hb : XE g C M δ b (tD g.K (.int j))) (hc : XE g C M δ c (tD g.K (.int l))) (hm : lastMarks [op, op'] [b, c] = false) : XT g C M δ (.Compare a [op, op'] [b, c] pos) (f i j && f' j l) := fun Z σ H hs hA Q kk => by
  refine w_pt (t := tTest (tChain _ _ (wE g C a) (wE g C b) (wE g C c))) ?_ fun i => pt_chain (ho i) (ho' i) (pe_w i) (pe_w i) (pe_w i) hm
  refine two ha hb hs hA _ fun x y H1 f1 A1 tx ty => ⟨i, j, rp_int tx, rp_int ty, f i j, rfl, ?_⟩
  cases h : f i j with
  | true => exact iteT (hc Z σ H1 (hs.mono f1.out) A1 _ fun z H2 f2 A2 tz => ⟨j, l, rp_int ty, rp_int tz, f' j l, rfl, by have q := kk H2 (f1.trans f2) A2; rw [h, Bool.true_and] at q; exact q⟩)
  | false => exact iteF ⟨false, rfl, by have q := kk H1 f1 A1; rw [h, Bool.false_and] at q; exact q⟩
end
end Pf
end
section
set_option Elab.async false
set_option linter.all false
set_option maxRecDepth 100000
set_option maxHeartbeats 2000000
namespace Pf
open PySem PySem.Spec PyProof.Rows L2
/-! ### calls that the layer has not -/
section
variable {X : Cx}
/-- t.index(k), t a tuple of numbers -/
theorem mt_tupI : MtR X "tuple.index" (fun x xs H Q => ∃ p, ∃ ys : List Int, ∃ z j, x = .ref p ∧ xs = [.int z] ∧ SqT X.K H p (ys.map V.int) ∧ ys[j]? = some z ∧ (∀ m, m < j → ys[m]? ≠ some z) ∧ Q (.int (j : Nat)) H) := by
  intro pins s σ H x xs v us Q I rx rs h
  obtain ⟨tp, ns, k, n, rfl, rfl, hT, hk, hno, q⟩ := h
  cases rx
  obtain ⟨uk, rfl, tk, rfl⟩ := vals1 rs
  obtain ⟨its, rv, ⟨⟨c0, d0, dt0, sl0⟩, ho, hc, m0, hd⟩, _⟩ := I.tuple hT
  simp only at hc hd
  subst hc hd
  have hlen : its.toArray.size = ns.length := by
    have e1 := rv.length
    simp only [List.length_map] at e1
    simp [← e1]
  have flat : (ns.map V.int).all flatV = true := by
    rw [List.all_map]
    exact List.all_eq_true.mpr fun _ _ => rfl
  have its_at : ∀ (m : Nat) (hm : m < its.toArray.size), ∃ y t', ns[m]? = some y ∧ its.toArray[m] = Value.int y t' := fun m hm => by
    have hm' : m < ns.length := hlen ▸ hm
    obtain ⟨u, hu, t', eu⟩ := rv.get (i := m) (x := .int ns[m]) (by simp [hm'])
    refine ⟨ns[m], t', List.getElem?_eq_getElem hm', ?_⟩
    rw [← eu, ← (List.getElem?_eq_some_iff.mp hu).2]
    simp
  have hn : n < its.toArray.size := hlen ▸ (List.getElem?_eq_some_iff.mp hk).1
  refine call_meets PySem.F.slot_tuple_index ⟨_, ho, rfl⟩ PySem.F.entry_tuple_index (PySem.F.args_tuple_index_2 _ _) (TI.tuple_indexAt tp its.toArray m0 d0 sl0 (.int k tk) (eqU (.int k)) n hn ?_ ?_)
    ⟨ho, fun u hu => mem_eqAt (x := .int k) ⟨tk, rfl⟩ rfl rv flat u (by simpa using hu), ⟨.int (n : Nat), H, I.tok _, ⟨_, rfl⟩, q⟩⟩
  · obtain ⟨y, t', h1, h2⟩ := its_at n hn
    rw [hk] at h1
    cases h1
    rw [h2]
    exact beq_self_eq_true k
  · intro m hm hmn
    obtain ⟨y, t', h1, h2⟩ := its_at m hm
    rw [h2]
    exact beq_eq_false_iff_ne.mpr fun e => hno m hmn (e ▸ h1)
/-- set(t), t a tuple of numbers -/
theorem cr_setT (hc : X.calm = true) : CallR X (.type "set") (fun xs H Q => ∃ p, ∃ ns : List Int, xs = [.ref p] ∧ SqT X.K H p (ns.map V.int) ∧ ns.length + 1 < scanBound ∧ ∀ c q, c ≤ ns.length → H q = none → Q (.ref q) (upd H q (SetO X.w q (fun j => decide (j ∈ ns)) c))) := by
  intro pins s σ H xs us Q I r h
  obtain ⟨p, ns, rfl, hT, hb, q⟩ := h
  rw [Vals.ref1 r]
  obtain ⟨its, rv, ht, _⟩ := I.tuple hT
  refine call_set_tupI ns (I.ok.hd hc) (show s.heap.IsTuple p its.toArray from ht) (Vals.ints rv) hb fun h' tk c R hc' k => ?_
  have hp : H s.heap.objs.size = none := I.hok.fresh (Nat.le_refl _)
  exact ⟨.ref _, upd H s.heap.objs.size (SetO X.w s.heap.objs.size (fun j => decide (j ∈ ns)) c), I.laid (t' := tk) k (Nat.le_refl _) (setO_new R), rfl, q c _ hc' hp⟩
/-- xs + ys where they may be written ones -/
def rRepr (K : PySem.W.Frag) : List V → Hp → VK → Prop := fun xs H Q => ∃ a d, xs = [.ref a] ∧ Dp K H (.ref a) d ∧ d.showable = true ∧ d.hasDict = false ∧ d.depth ≤ 60 ∧ d.shown.length ≤ sizeLine ∧ Q (.str d.shown) H
theorem cr_repr (hg : X.A.guards = some []) (hu : X.A.units + 64 < cLine) : CallR X (.builtin "repr") (rRepr X.K) := by
  intro pins s σ H xs us Q I r h
  obtain ⟨a, d, rfl, hd, hs, hn, h60, hz, q⟩ := h
  rw [Vals.ref1 r]
  obtain ⟨as, rd⟩ := Dp.reads I d (.ref a) (.ref a) hd rfl
  exact repr_of_reads' rd hs (fun e => by rw [hn] at e; cases e) hg (by omega) (fun _ _ e => e) (fun h' u tk k => ⟨.str d.shown, H, I.kept (t' := tk) k, ⟨u, rfl⟩, q⟩) hz
/-- t + u, both not empty; the new tuple's very object is told -/
def rCatF (K : PySem.W.Frag) : R2 := fun x y H Q => ∃ a b xs ys, x = .ref a ∧ y = .ref b ∧ SqT K H a xs ∧ SqT K H b ys ∧ xs ≠ [] ∧ ys ≠ [] ∧ xs.length + ys.length ≤ sizeLine ∧ ∀ p ob, ob.dict = none → H p = none → Q (.ref p) (upd H p (.frz ob (.tup (xs ++ ys))))
theorem op_catF : OpR X (binaryOp .Add) (rCatF X.K) := by
  intro pins s σ H x y v u Q I rx ry h
  obtain ⟨l1, l2, xs, ys, rfl, rfl, t1, t2, n1, n2, hz, q⟩ := h
  cases rx
  cases ry
  obtain ⟨us, r1, p1, _⟩ := I.tuple t1
  obtain ⟨ws, r2, p2, _⟩ := I.tuple t2
  have m1 : us ≠ [] := fun z => n1 (r1.nil_iff.mp z)
  have m2 : ws ≠ [] := fun z => n2 (r2.nil_iff.mp z)
  refine HT.cat_tup p1 p2 m1 (fun z => absurd z m2) (fun _ => ?_) (by rw [← r1.length, ← r2.length]; exact hz)
  have hp : H s.heap.objs.size = none := I.hok.fresh (Nat.le_refl _)
  refine ⟨.ref s.heap.objs.size, _, I.laid (t' := s.toks) (o := .frz { cls := .type "tuple", data := .seq (us ++ ws).toArray } (.tup (xs ++ ys))) (fun b ob z => Heap.get?_push_of_some _ z) (Nat.le_refl _) ?_, rfl, q _ _ rfl hp⟩
  exact ⟨Heap.get?_push_size _ rfl, by rw [List.length_append]; exact hz, _, r1.append r2, IsTup.new _ _⟩
/-- t.index(k) of such a tuple of numbers -/
def tTupIx (K : PySem.W.Frag) (to : TE) (t : TA) : TE := fun σ H Q => to σ H fun x H1 => ∃ p ob, ∃ ns : List Int, x = .ref p ∧ H1 p = some (.frz ob (.tup (ns.map V.int))) ∧ ob.dict = none ∧ t σ H1 fun xs H2 => ∃ k j, xs = [.int k] ∧ H2 p = some (.frz ob (.tup (ns.map V.int))) ∧ ns[j]? = some k ∧ (∀ m, m < j → ns[m]? ≠ some k) ∧ Q (.int (j : Nat)) H2
theorem pe_tupIx {o e : Expr} {to : TE} {t : TA} {apos cpos : Pos} (ho : PE X o to) (ha : PA X [e] t) (h1 : attributeBase o "index" X.env (eval o X.env) = eval o X.env)
    (h2 : ((backTo cpos (starEach [e] X.env)).all (fun x => !x.1) && (backToKw cpos (keywordEach [] X.env)).all (fun x => x.1.isSome) && decide (([e] : List Expr).length + ([] : List Keyword).length + (if ([] : List Keyword).isEmpty then 0 else 1) < 30)) = true)
    (h3 : (apos.endLine == cpos.line) = true) (h4 : starEach [e] X.env = (false, eval e X.env) :: starEach [] X.env) (h5 : (backTo cpos (starEach [] X.env)).any (·.1) = false) : PE X (.Call (.Attribute o "index" apos) [e] [] cpos) (tTupIx X.K to t) := by
  refine ⟨fun pins s σ H Q I h => wpAny_Call_method_late h1 h2 h3 rfl (thn (ho.run pins s σ H _ I h) fun v s1 w => ?_)⟩
  obtain ⟨x, H1, I1, rx, p, ob, ns, rfl, hp, hd, q1⟩ := w
  cases rx
  obtain ⟨g1, g2⟩ := (show ObjOk X.prog X.w H1 s1.heap p (.frz ob (.tup (ns.map V.int))) from I1.hok p _ hp)
  obtain ⟨_, _, _, ob2, g3, g4, _⟩ := (show ObjOk X.prog X.w H1 s1.heap p (.tup (ns.map V.int)) from g2)
  refine ⟨"tuple", "tuple.index", PySem.F.plainAttrs_tuple, PySem.F.slot_tuple_index, PySem.F.type_tuple_index, ⟨ob2, g3, g4⟩, fun a z => by cases z; exact ⟨ob, g1, hd⟩, ?_⟩
  have hA := ha.run cpos pins s1 σ H1 _ I1 q1
  rw [h4] at hA ⊢
  refine Calls.callWith_builtin (by show (false || (backTo cpos (starEach [] X.env)).any (·.1)) = false; rw [h5] <;> rfl) (Calls.evalArgs_plain (thn hA fun us s2 w2 => ?_))
  obtain ⟨xs, H2, I2, r2, k, j, rfl, e1, e2, e3, q2⟩ := w2
  exact mt_tupI pins s2 σ H2 (V.ref p) _ _ us Q I2 rfl r2 ⟨p, ns, k, j, rfl, rfl, .inl (.inr ⟨ob, e1⟩), e2, e3, q2⟩
end
end Pf
end
section
set_option Elab.async false
set_option linter.all false
set_option maxRecDepth 100000
set_option maxHeartbeats 2000000
namespace Pf
open PySem PySem.Spec PyProof.Rows L2
section
variable {g : Pg} {C : Ct} {M : Ml} {δ : Sd} {e a b c o : Expr} {es : List Expr} {ks : List Keyword} {pos p p2 apos : Pos} {T Ta Tb Tc : Ty} {Ts : List Ty} {i j l : Int} {n k : Nat} {x m : Str}
/-! ### arguments, displays -/
theorem xa_nil : XA g C M δ [] [] := fun Z σ H hs hA Q kk => w_pa (t := tNil) (kk [] H Fr.refl hA .nil) fun _ => pa_nil
theorem xa_cons (ha : XE g C M δ e T) (hr : XA g C M δ es Ts) (hs : ∀ i, starEach (e :: es) (C.env i) = (false, eval e (C.env i)) :: starEach es (C.env i) := by intro _; rfl) : XA g C M δ (e :: es) (T :: Ts) := fun Z σ H hsl hA Q kk =>
  w_pa (t := tCons (wE g C e) (wA g C es)) (ha Z σ H hsl hA _ fun v H1 f1 A1 t1 => hr Z σ H1 (hsl.mono f1.out) A1 _ fun vs H2 f2 A2 t2 => kk _ H2 (f1.trans f2) A2 (.cons (T.mono f2.out t1) t2)) fun i => pa_cons (pe_w i) (pa_w i) (hs i)
theorem xk_nil : XKw g C M δ [] [] := fun Z σ H hs hA Q kk => w_pk (t := tNil) (kk [] H Fr.refl hA .nil) fun _ => pk_nil
theorem xk_cons {nm : Option Str} (ha : XE g C M δ e T) (hr : XKw g C M δ ks Ts) : XKw g C M δ (⟨nm, e, p⟩ :: ks) (T :: Ts) := fun Z σ H hsl hA Q kk =>
  w_pk (t := tCons (wE g C e) (wK g C ks)) (ha Z σ H hsl hA _ fun v H1 f1 A1 t1 => hr Z σ H1 (hsl.mono f1.out) A1 _ fun vs H2 f2 A2 t2 => kk _ H2 (f1.trans f2) A2 (.cons (T.mono f2.out t1) t2)) fun i => pk_cons (pe_w i) (pk_w i)
/-- a new object by the arguments' values -/
theorem xe_newA {mk : List V → HO} {t : TA → TE} (hp : ∀ i, PE (C.X g i) e (t (wA g C es))) (ht : ∀ ta σ H Q, (ta σ H fun vs H1 => vs.length ≤ sizeLine ∧ ∀ p, H1 p = none → Q (.ref p) (upd H1 p (mk vs))) → t ta σ H Q)
    (ha : XA g C M δ es Ts) (hz : Ts.length ≤ 100000) (hT : ∀ B p vs, Al2 B Ts vs → B p = some (mk vs) → T.p B (.ref p)) : XE g C M δ e T := fun Z σ H hsl hA Q kk =>
  w_pe (ht _ _ _ _ (ha Z σ H hsl hA _ fun vs H1 f1 A1 t1 => ⟨sz6 (by rw [t1.length]; exact hz), fun p hp => kk _ _ (f1.trans (Fr.of_ex (Ex.new hp))) (A1.new hp) (hT _ p vs (t1.mono (Fr.out (Fr.of_ex (Ex.new hp)))) (A1.got hp))⟩)) hp
theorem xe_tupD {ds : List PyData} {x1} (ha : XA g C M δ es (ds.map (tD g.K))) (hz : ds.length ≤ 100000 := by exact Nat.le_of_ble_eq_true rfl) : XE g C M δ (.Tuple es x1 pos) (tD g.K (.tuple ds)) :=
  xe_newA (mk := HO.tup) (t := tTup) (fun i => pe_tup (pa_w i)) (fun _ _ _ _ h => h) ha (by rw [List.length_map]; exact hz) fun B p vs h e => .tup (SqT.of e) h.rp
theorem xe_lstD {ds : List PyData} (ha : XA g C M δ es (ds.map (tD g.K))) (hz : ds.length ≤ 100000 := by exact Nat.le_of_ble_eq_true rfl) : XE g C M δ (.List es pos) (tD g.K (.list ds)) :=
  xe_newA (mk := HO.lst) (t := tLst) (fun i => pe_lst (pa_w i)) (fun _ _ _ _ h => h) ha (by rw [List.length_map]; exact hz) fun B p vs h e => .lst e h.rp
/-- a tuple of any things -/
def tTupT (K : PySem.W.Frag) (Ts : List Ty) : Ty := ⟨fun H v => ∃ a vs, v = .ref a ∧ SqT K H a vs ∧ Al2 H Ts vs, fun e ⟨a, vs, h1, h2, h3⟩ => ⟨a, vs, h1, sqt_mono e h2, h3.mono e⟩⟩
theorem xe_tupT {x1} (ha : XA g C M δ es Ts) (hz : Ts.length ≤ 100000 := by exact Nat.le_of_ble_eq_true rfl) : XE g C M δ (.Tuple es x1 pos) (tTupT g.K Ts) :=
  xe_newA (mk := HO.tup) (t := tTup) (fun i => pe_tup (pa_w i)) (fun _ _ _ _ h => h) ha hz fun B p vs h e => ⟨p, vs, rfl, SqT.of e, h⟩
/-! ### subscripts -/
theorem atI_rp {K : PySem.W.Frag} {H : Hp} {xs : List V} {ds : List PyData} {d : PyData} (h : RpAll K H xs ds) (e : atI ds i = some d) : ∃ v, atI xs i = some v ∧ Rp K H v d := by
  unfold atI at e ⊢
  rw [h.length]
  cases q : ixN ds.length i with
  | none => rw [q] at e; cases e
  | some j =>
    rw [q] at e
    exact h.at_ (show ds[j]? = some d from e)
theorem xe_ixL {ds : List PyData} {d : PyData} (e : atI ds i = some d) (ha : XE g C M δ a (tD g.K (.list ds))) (hb : XE g C M δ b (tD g.K (.int i))) (hs : PlainIx b := by intro _ _; rfl) : XE g C M δ (.Subscript a b pos) (tD g.K d) := fun Z σ H hsl hA Q kk => by
  refine w_pe (t := tOp (rIxL g.K) (wE g C a) (wE g C b)) ?_ fun i => pe_ix (ix_list (X := C.X g i)) (pe_w i) (pe_w i) hs
  refine two ha hb hsl hA _ fun x y H' f A tx ty => ?_
  obtain ⟨p, xs, rfl, h1, r1⟩ := rp_lst tx
  obtain ⟨v, hv, rv⟩ := atI_rp r1 e
  exact ⟨p, xs, i, v, rfl, rp_int ty, SqL.of (out_sub _ _ h1), hv, kk v H' f A rv⟩
theorem xe_ixT {ds : List PyData} {d : PyData} (e : atI ds i = some d) (ha : XE g C M δ a (tD g.K (.tuple ds))) (hb : XE g C M δ b (tD g.K (.int i))) (hs : PlainIx b := by intro _ _; rfl) : XE g C M δ (.Subscript a b pos) (tD g.K d) := fun Z σ H hsl hA Q kk => by
  refine w_pe (t := tOp (rIxT g.K) (wE g C a) (wE g C b)) ?_ fun i => pe_ix (ix_tup (X := C.X g i)) (pe_w i) (pe_w i) hs
  refine two ha hb hsl hA _ fun x y H' f A tx ty => ?_
  obtain ⟨p, xs, rfl, h1, r1⟩ := rp_tup tx
  obtain ⟨v, hv, rv⟩ := atI_rp r1 e
  exact ⟨p, xs, i, v, rfl, rp_int ty, sqt_mono out_sub h1, hv, kk v H' f A rv⟩
/-- the items of a slice -/
def cutD (ds : List PyData) (lo hi : Option Int) : List PyData := (ds.drop (HT.sIx ds.length 0 lo)).take (HT.sIx ds.length ds.length hi - HT.sIx ds.length 0 lo)
theorem cut_rp {K : PySem.W.Frag} {H : Hp} {xs : List V} {ds : List PyData} {lo hi : Option Int} (h : RpAll K H xs ds) : RpAll K H (cutV xs lo hi) (cutD ds lo hi) := by
  unfold cutV cutD
  rw [h.length]
  exact (h.drop _).take _
def wO (g : Pg) (C : Ct) (e : Option Expr) : TO := fun σ H Q => ∀ (i : C.ι) (pins : List (Addr × Obj)) (s : Shared), Inv (C.X g i) pins σ H s → wpAny (model g.P g.w) (C.A i) (evalPart e (C.env i)) (fun u s' => ∃ o H', Inv (C.X g i) pins σ H' s' ∧ IsPart u o ∧ Q o H') (fun _ _ => False) s
theorem po_w {e : Option Expr} (i : C.ι) : PO (C.X g i) e (wO g C e) := ⟨fun pins s _ _ _ I h => h i pins s I⟩
def XO (g : Pg) (C : Ct) (M : Ml) (δ : Sd) (e : Option Expr) (o : Option Int) : Prop := ∀ (Z : Addr → Bool) (σ : L2.St) (H : Hp), Sl (out (Zm Z M) H) δ σ → Amb Z M H → ∀ Q : Option Int → Hp → Prop, (∀ H', Fr M H H' → Amb Z M H' → Q o H') → wO g C e σ H Q
theorem xo_none : XO g C M δ none none := fun Z σ H hs hA Q kk j pins s I => (po_none (X := C.X g j)).run pins s σ H Q I (kk H Fr.refl hA)
theorem xo_some (h : XE g C M δ e (tD g.K (.int i))) : XO g C M δ (some e) (some i) := fun Z σ H hs hA Q kk j pins s I =>
  (po_some (X := C.X g j) (pe_w j)).run pins s σ H Q I (h Z σ H hs hA _ fun v H1 f1 A1 t1 => ⟨i, rp_int t1, kk H1 f1 A1⟩)
variable {lo hi : Option Expr} {lo' hi' : Option Int}
theorem xe_slL {ds : List PyData} (ha : XE g C M δ a (tD g.K (.list ds))) (h1 : XO g C M δ lo lo') (h2 : XO g C M δ hi hi') : XE g C M δ (.Subscript a (.Slice lo hi none p2) pos) (tD g.K (.list (cutD ds lo' hi'))) := fun Z σ H hsl hA Q kk => by
  refine w_pe (t := tSl (rSlL g.K) (wE g C a) (wO g C lo) (wO g C hi)) ?_ fun i => pe_slice (sl_list (X := C.X g i)) (pe_w i) (po_w i) (po_w i)
  refine ha Z σ H hsl hA _ fun x H1 f1 A1 t1 => h1 Z σ H1 (hsl.mono f1.out) A1 _ fun H2 f2 A2 => h2 Z σ H2 (hsl.mono (f1.trans f2).out) A2 _ fun H3 f3 A3 => ?_
  obtain ⟨q, xs, rfl, h1, r1⟩ := rp_lst ((tD g.K (.list ds)).mono (f2.trans f3).out t1)
  exact ⟨q, xs, rfl, SqL.of (out_sub _ _ h1), fun p hp => kk _ _ (((f1.trans f2).trans f3).trans (Fr.of_ex (Ex.new hp))) (A3.new hp) (.lst (A3.got hp) ((cut_rp r1).mono (Fr.out (Fr.of_ex (Ex.new hp)))))⟩
theorem xe_slT {ds : List PyData} (ha : XE g C M δ a (tD g.K (.tuple ds))) (h1 : XO g C M δ lo lo') (h2 : XO g C M δ hi hi') : XE g C M δ (.Subscript a (.Slice lo hi none p2) pos) (tD g.K (.tuple (cutD ds lo' hi'))) := fun Z σ H hsl hA Q kk => by
  refine w_pe (t := tSl (rSlA g.K) (wE g C a) (wO g C lo) (wO g C hi)) ?_ fun i => pe_slice (sl_tupA (X := C.X g i)) (pe_w i) (po_w i) (po_w i)
  refine ha Z σ H hsl hA _ fun x H1 f1 A1 t1 => h1 Z σ H1 (hsl.mono f1.out) A1 _ fun H2 f2 A2 => h2 Z σ H2 (hsl.mono (f1.trans f2).out) A2 _ fun H3 f3 A3 => ?_
  obtain ⟨q, xs, rfl, h1, r1⟩ := rp_tup ((tD g.K (.tuple ds)).mono (f2.trans f3).out t1)
  refine ⟨q, xs, rfl, sqt_mono out_sub h1, fun ⟨e1, e2⟩ => kk _ _ ((f1.trans f2).trans f3) A3 ?_, fun _ p hp => kk _ _ (((f1.trans f2).trans f3).trans (Fr.of_ex (Ex.new hp))) (A3.new hp) (.tup (SqT.of (A3.got hp)) ((cut_rp r1).mono (Fr.out (Fr.of_ex (Ex.new hp)))))⟩
  have e : cutD ds lo' hi' = ds := by
    unfold cutD
    rw [← r1.length, e1, e2, List.drop_zero, Nat.sub_zero, r1.length, List.take_length]
  rw [e]
  exact .tup h1 r1
/-! ### fields -/
structure tIns (C dx : Addr) (fs : List (Str × V)) (H : Hp) (v : V) : Prop where
  at_ : ∃ q, v = .ref q ∧ H q = some (.ins C dx fs)
theorem xe_fld {K0 : PySem.W.Frag} {f : Str} {Cl : Addr} (c : Cls g.K Cl) (nf : NoAttr g.K Cl f) (ho : ∀ B v, Ta.p B v → ∃ q dx fs w, v = .ref q ∧ B q = some (.ins Cl dx fs) ∧ fs.lookup f = some w ∧ T.p B w) (ha : XE g C M δ a Ta)
    (hb : ∀ j, attributeBase a f (C.env j) (eval a (C.env j)) = eval a (C.env j) := by intro _; rfl) : XE g C M δ (.Attribute a f pos) T := fun Z σ H hsl hA Q kk => by
  refine w_pe (t := tFld g.K (wE g C a) f) ?_ fun i => pe_fld (X := C.X g i) (pe_w i) (hb i)
  refine ha Z σ H hsl hA _ fun v H1 f1 A1 t1 => ?_
  obtain ⟨q, dx, fs, w, rfl, hq, hl, hw⟩ := ho _ _ t1
  exact ⟨q, Cl, dx, fs, w, rfl, out_sub _ _ hq, c, nf, hl, kk w H1 f1 A1 hw⟩
/-! ### calls of built-ins -/
/-- by values, no new object -/
theorem xe_cbV {id : String} {r : List V → Hp → VK → Prop} (hc : ∀ i, CallR (C.X g i) (.builtin id) r) (hm : g.mg x = none) (hv : bootBuiltins x = some (.builtin id)) (hr : ∀ B H vs (Q : VK), Ex B H → Al2 B Ts vs → ∃ z, T.p B z ∧ (Q z H → r vs H Q)) (ha : XA g C M δ (e :: es) Ts)
    (hn : x ≠ "__name__" := by decide) (hdb : (x == ("__debug__" : Str)) = false := by decide) (hg : ∀ j, (C.env j).kindOf x = some .globalImplicit := by intro _; rfl) (he : ∀ j, starEach (e :: es) (C.env j) = (false, eval e (C.env j)) :: starEach es (C.env j) := by intro _; rfl)
    (hpl : ∀ j, (backTo pos (starEach es (C.env j))).any (·.1) = false := by intro _; rfl) : XE g C M δ (.Call (.Name x p) (e :: es) [] pos) T := fun Z σ H hsl hA Q kk => by
  refine w_pe (t := tCB r (wA g C (e :: es))) ?_ fun i => pe_callB (hc i) (hg i) hm hv (pa_w i) hn hdb (he i) (hpl i)
  refine ha Z σ H hsl hA _ fun vs H1 f1 A1 t1 => ?_
  obtain ⟨z, hz, q⟩ := hr _ H1 vs Q out_sub t1
  exact q (kk z H1 f1 A1 hz)
theorem xe_cbN {id : String} {r : List V → Hp → VK → Prop} (hc : ∀ i, CallR (C.X g i) (.builtin id) r) (hm : g.mg x = none) (hv : bootBuiltins x = some (.builtin id)) (hr : ∀ B H vs (Q : VK), Ex B H → Al2 B Ts vs → (∀ o p, H p = none → (∀ B', Ex B B' → B' p = some o → T.p B' (.ref p)) → Q (.ref p) (upd H p o)) → r vs H Q) (ha : XA g C M δ (e :: es) Ts)
    (hn : x ≠ "__name__" := by decide) (hdb : (x == ("__debug__" : Str)) = false := by decide) (hg : ∀ j, (C.env j).kindOf x = some .globalImplicit := by intro _; rfl) (he : ∀ j, starEach (e :: es) (C.env j) = (false, eval e (C.env j)) :: starEach es (C.env j) := by intro _; rfl)
    (hpl : ∀ j, (backTo pos (starEach es (C.env j))).any (·.1) = false := by intro _; rfl) : XE g C M δ (.Call (.Name x p) (e :: es) [] pos) T := fun Z σ H hsl hA Q kk => by
  refine w_pe (t := tCB r (wA g C (e :: es))) ?_ fun i => pe_callB (hc i) (hg i) hm hv (pa_w i) hn hdb (he i) (hpl i)
  refine ha Z σ H hsl hA _ fun vs H1 f1 A1 t1 => ?_
  exact hr _ H1 vs Q out_sub t1 fun o p hp ht => kk _ _ (f1.trans (Fr.of_ex (Ex.new hp))) (A1.new hp) (ht _ (Fr.out (Fr.of_ex (Ex.new hp))) (A1.got hp))
theorem xe_ctV {id : String} {r : List V → Hp → VK → Prop} (hc : ∀ i, CallR (C.X g i) (.type id) r) (hm : g.mg x = none) (hv : bootBuiltins x = some (.type id)) (hr : ∀ B H vs (Q : VK), Ex B H → Al2 B Ts vs → ∃ z, T.p B z ∧ (Q z H → r vs H Q)) (ha : XA g C M δ (e :: es) Ts)
    (hn : x ≠ "__name__" := by decide) (hdb : (x == ("__debug__" : Str)) = false := by decide) (hg : ∀ j, (C.env j).kindOf x = some .globalImplicit := by intro _; rfl) (he : ∀ j, starEach (e :: es) (C.env j) = (false, eval e (C.env j)) :: starEach es (C.env j) := by intro _; rfl)
    (hpl : ∀ j, (backTo pos (starEach es (C.env j))).any (·.1) = false := by intro _; rfl) : XE g C M δ (.Call (.Name x p) (e :: es) [] pos) T := fun Z σ H hsl hA Q kk => by
  refine w_pe (t := tCB r (wA g C (e :: es))) ?_ fun i => pe_callTy (hc i) (hg i) hm hv (pa_w i) hn hdb (he i) (hpl i)
  refine ha Z σ H hsl hA _ fun vs H1 f1 A1 t1 => ?_
  obtain ⟨z, hz, q⟩ := hr _ H1 vs Q out_sub t1
  exact q (kk z H1 f1 A1 hz)
theorem xe_ctN {id : String} {r : List V → Hp → VK → Prop} (hc : ∀ i, CallR (C.X g i) (.type id) r) (hm : g.mg x = none) (hv : bootBuiltins x = some (.type id)) (hr : ∀ B H vs (Q : VK), Ex B H → Al2 B Ts vs → (∀ o p, H p = none → (∀ B', Ex B B' → B' p = some o → T.p B' (.ref p)) → Q (.ref p) (upd H p o)) → r vs H Q) (ha : XA g C M δ (e :: es) Ts)
    (hn : x ≠ "__name__" := by decide) (hdb : (x == ("__debug__" : Str)) = false := by decide) (hg : ∀ j, (C.env j).kindOf x = some .globalImplicit := by intro _; rfl) (he : ∀ j, starEach (e :: es) (C.env j) = (false, eval e (C.env j)) :: starEach es (C.env j) := by intro _; rfl)
    (hpl : ∀ j, (backTo pos (starEach es (C.env j))).any (·.1) = false := by intro _; rfl) : XE g C M δ (.Call (.Name x p) (e :: es) [] pos) T := fun Z σ H hsl hA Q kk => by
  refine w_pe (t := tCB r (wA g C (e :: es))) ?_ fun i => pe_callTy (hc i) (hg i) hm hv (pa_w i) hn hdb (he i) (hpl i)
  refine ha Z σ H hsl hA _ fun vs H1 f1 A1 t1 => ?_
  exact hr _ H1 vs Q out_sub t1 fun o p hp ht => kk _ _ (f1.trans (Fr.of_ex (Ex.new hp))) (A1.new hp) (ht _ (Fr.out (Fr.of_ex (Ex.new hp))) (A1.got hp))
theorem al1 {B : Hp} {vs : List V} (h : Al2 B [Ta] vs) : ∃ v, vs = [v] ∧ Ta.p B v := by
  cases h with
  | cons h r => cases r; exact ⟨_, rfl, h⟩
theorem al2 {B : Hp} {vs : List V} (h : Al2 B [Ta, Tb] vs) : ∃ v w, vs = [v, w] ∧ Ta.p B v ∧ Tb.p B w := by
  cases h with
  | cons h r =>
    obtain ⟨w, rfl, hw⟩ := al1 r
    exact ⟨_, _, rfl, h, hw⟩
end
end Pf
end
section
set_option Elab.async false
set_option linter.all false
set_option maxRecDepth 100000
set_option maxHeartbeats 2000000
namespace Pf
open PySem PySem.Spec PyProof.Rows L2
section
variable {g : Pg} {C : Ct} {M : Ml} {δ : Sd} {e a b c o : Expr} {es : List Expr} {ks : List Keyword} {pos p p2 apos : Pos} {T Ta Tb Tc : Ty} {Ts : List Ty} {i j l : Int} {n k : Nat} {x m : Str}
/-! ### built-ins -/
theorem xe_abs (hm : g.mg "abs" = none) (ha : XE g C M δ a (tD g.K (.int i))) (hg : ∀ j, (C.env j).kindOf "abs" = some .globalImplicit := by intro _; rfl) (he : ∀ j, starEach [a] (C.env j) = (false, eval a (C.env j)) :: starEach [] (C.env j) := by intro _; rfl) :
    XE g C M δ (.Call (.Name "abs" p) [a] [] pos) (tD g.K (.int (i.natAbs : Int))) :=
  xe_cbV (fun _ => call_abs) hm (by decide +kernel) (fun B H vs Q _ h => by
    obtain ⟨v, rfl, hv⟩ := al1 h
    refine ⟨_, .int _, fun q => ⟨i, by rw [rp_int hv], ?_⟩⟩
    have e : (if i < 0 then -i else i) = (i.natAbs : Int) := by split <;> omega
    rw [e]
    exact q) (xa_cons ha xa_nil he) (by decide) (by decide) hg he
theorem xe_int1 (hm : g.mg "int" = none) (ha : XE g C M δ a (tD g.K (.int i))) (hg : ∀ j, (C.env j).kindOf "int" = some .globalImplicit := by intro _; rfl) (he : ∀ j, starEach [a] (C.env j) = (false, eval a (C.env j)) :: starEach [] (C.env j) := by intro _; rfl) :
    XE g C M δ (.Call (.Name "int" p) [a] [] pos) (tD g.K (.int i)) :=
  xe_ctV (fun _ => call_int1) hm (by decide +kernel) (fun B H vs Q _ h => by
    obtain ⟨v, rfl, hv⟩ := al1 h
    exact ⟨_, .int i, fun q => .inl ⟨i, by rw [rp_int hv], q⟩⟩) (xa_cons ha xa_nil he) (by decide) (by decide) hg he
theorem xe_intB {kb : Bool} (hm : g.mg "int" = none) (ha : XE g C M δ a (tD g.K (.bool kb))) (hg : ∀ j, (C.env j).kindOf "int" = some .globalImplicit := by intro _; rfl) (he : ∀ j, starEach [a] (C.env j) = (false, eval a (C.env j)) :: starEach [] (C.env j) := by intro _; rfl) :
    XE g C M δ (.Call (.Name "int" p) [a] [] pos) (tD g.K (.int (if kb then 1 else 0))) :=
  xe_ctV (fun _ => call_int1) hm (by decide +kernel) (fun B H vs Q _ h => by
    obtain ⟨v, rfl, hv⟩ := al1 h
    exact ⟨_, .int _, fun q => .inr ⟨kb, by rw [rp_bl hv], q⟩⟩) (xa_cons ha xa_nil he) (by decide) (by decide) hg he
theorem xe_lenL {ds : List PyData} (hm : g.mg "len" = none) (ha : XE g C M δ a (tD g.K (.list ds))) (hg : ∀ j, (C.env j).kindOf "len" = some .globalImplicit := by intro _; rfl) (he : ∀ j, starEach [a] (C.env j) = (false, eval a (C.env j)) :: starEach [] (C.env j) := by intro _; rfl) :
    XE g C M δ (.Call (.Name "len" p) [a] [] pos) (tD g.K (.int ds.length)) :=
  xe_cbV (r := fun xs H Q => ∃ p ys, xs = [.ref p] ∧ (SqL g.K H p ys ∨ SqT g.K H p ys) ∧ Q (.int ys.length) H) (fun j => call_len_seq (X := C.X g j)) hm PySem.boot_len (fun B H vs Q e h => by
    obtain ⟨v, rfl, hv⟩ := al1 h
    obtain ⟨q, xs, rfl, h1, r1⟩ := rp_lst hv
    exact ⟨_, .int _, fun k => ⟨q, xs, rfl, .inl (SqL.of (e _ _ h1)), by rw [r1.length]; exact k⟩⟩) (xa_cons ha xa_nil he) (by decide) (by decide) hg he
theorem xe_lenT {ds : List PyData} (hm : g.mg "len" = none) (ha : XE g C M δ a (tD g.K (.tuple ds))) (hg : ∀ j, (C.env j).kindOf "len" = some .globalImplicit := by intro _; rfl) (he : ∀ j, starEach [a] (C.env j) = (false, eval a (C.env j)) :: starEach [] (C.env j) := by intro _; rfl) :
    XE g C M δ (.Call (.Name "len" p) [a] [] pos) (tD g.K (.int ds.length)) :=
  xe_cbV (r := fun xs H Q => ∃ p ys, xs = [.ref p] ∧ (SqL g.K H p ys ∨ SqT g.K H p ys) ∧ Q (.int ys.length) H) (fun j => call_len_seq (X := C.X g j)) hm PySem.boot_len (fun B H vs Q e h => by
    obtain ⟨v, rfl, hv⟩ := al1 h
    obtain ⟨q, xs, rfl, h1, r1⟩ := rp_tup hv
    exact ⟨_, .int _, fun k => ⟨q, xs, rfl, .inr (sqt_mono e h1), by rw [r1.length]; exact k⟩⟩) (xa_cons ha xa_nil he) (by decide) (by decide) hg he
theorem xe_all {bs : List Bool} (hm : g.mg "all" = none) (ha : XE g C M δ a (tD g.K (.list (bs.map .bool)))) (hg : ∀ j, (C.env j).kindOf "all" = some .globalImplicit := by intro _; rfl) (he : ∀ j, starEach [a] (C.env j) = (false, eval a (C.env j)) :: starEach [] (C.env j) := by intro _; rfl) :
    XE g C M δ (.Call (.Name "all" p) [a] [] pos) (tD g.K (.bool (bs.all id))) :=
  xe_cbV (r := rAll g.K) (fun j => cr_all (X := C.X g j) rfl) hm (by decide +kernel) (fun B H vs Q e h => by
    obtain ⟨v, rfl, hv⟩ := al1 h
    obtain ⟨q, xs, rfl, h1, r1⟩ := rp_lst hv
    exact ⟨_, .bl _, fun k => ⟨q, bs, rfl, SqL.of (by rw [← rp_bls r1]; exact e _ _ h1), k⟩⟩) (xa_cons ha xa_nil he) (by decide) (by decide) hg he
theorem xe_sum {ns : List Int} (hm : g.mg "sum" = none) (ha : XE g C M δ a (tD g.K (.list (ns.map .int)))) (hg : ∀ j, (C.env j).kindOf "sum" = some .globalImplicit := by intro _; rfl) (he : ∀ j, starEach [a] (C.env j) = (false, eval a (C.env j)) :: starEach [] (C.env j) := by intro _; rfl) :
    XE g C M δ (.Call (.Name "sum" p) [a] [] pos) (tD g.K (.int ns.sum)) :=
  xe_cbV (r := rSum g.K) (fun j => cr_sum (X := C.X g j) rfl) hm (by decide +kernel) (fun B H vs Q e h => by
    obtain ⟨v, rfl, hv⟩ := al1 h
    obtain ⟨q, xs, rfl, h1, r1⟩ := rp_lst hv
    exact ⟨_, .int _, fun k => ⟨q, ns, rfl, SqL.of (by rw [← rp_ints r1]; exact e _ _ h1), k⟩⟩) (xa_cons ha xa_nil he) (by decide) (by decide) hg he
/-- the least, the greatest of some numbers -/
def leastI : List Int → Int
  | [] => 0
  | [n] => n
  | n :: r => if leastI r < n then leastI r else n
def greatI : List Int → Int
  | [] => 0
  | [n] => n
  | n :: r => if n < greatI r then greatI r else n
theorem leastI_mem : ∀ {ns : List Int}, 0 < ns.length → leastI ns ∈ ns
  | [n], _ => by simp [leastI]
  | n :: m :: r, _ => by
    have ih := leastI_mem (ns := m :: r) (by simp)
    show (if leastI (m :: r) < n then leastI (m :: r) else n) ∈ n :: m :: r
    split
    · exact List.mem_cons_of_mem _ ih
    · exact List.mem_cons_self
theorem leastI_le : ∀ {ns : List Int} {y : Int}, y ∈ ns → leastI ns ≤ y
  | [n], y, h => by
    rw [List.mem_singleton.mp h]
    exact Int.le_refl _
  | n :: m :: r, y, h => by
    show (if leastI (m :: r) < n then leastI (m :: r) else n) ≤ y
    rcases List.mem_cons.mp h with e | h'
    · subst e
      split <;> omega
    · have ih := leastI_le h'
      split <;> omega
theorem greatI_mem : ∀ {ns : List Int}, 0 < ns.length → greatI ns ∈ ns
  | [n], _ => by simp [greatI]
  | n :: m :: r, _ => by
    have ih := greatI_mem (ns := m :: r) (by simp)
    show (if n < greatI (m :: r) then greatI (m :: r) else n) ∈ n :: m :: r
    split
    · exact List.mem_cons_of_mem _ ih
    · exact List.mem_cons_self
theorem greatI_ge : ∀ {ns : List Int} {y : Int}, y ∈ ns → y ≤ greatI ns
  | [n], y, h => by
    rw [List.mem_singleton.mp h]
    exact Int.le_refl _
  | n :: m :: r, y, h => by
    show y ≤ (if n < greatI (m :: r) then greatI (m :: r) else n)
    rcases List.mem_cons.mp h with e | h'
    · subst e
      split <;> omega
    · have ih := greatI_ge h'
      split <;> omega
theorem xe_min {ns : List Int} (hm : g.mg "min" = none) (h0 : 0 < ns.length) (ha : XE g C M δ a (tD g.K (.list (ns.map .int)))) (hg : ∀ j, (C.env j).kindOf "min" = some .globalImplicit := by intro _; rfl) (he : ∀ j, starEach [a] (C.env j) = (false, eval a (C.env j)) :: starEach [] (C.env j) := by intro _; rfl) :
    XE g C M δ (.Call (.Name "min" p) [a] [] pos) (tD g.K (.int (leastI ns))) :=
  xe_cbV (r := rMin g.K) (fun j => cr_min (X := C.X g j) rfl) hm (by decide +kernel) (fun B H vs Q e h => by
    obtain ⟨v, rfl, hv⟩ := al1 h
    obtain ⟨q, xs, rfl, h1, r1⟩ := rp_lst hv
    refine ⟨_, .int _, fun k => ⟨q, ns, rfl, SqL.of (by rw [← rp_ints r1]; exact e _ _ h1), h0, fun m h1 h2 => ?_⟩⟩
    have em : m = leastI ns := Int.le_antisymm (h2 _ (leastI_mem h0)) (leastI_le h1)
    rw [em]
    exact k) (xa_cons ha xa_nil he) (by decide) (by decide) hg he
theorem xe_max {ns : List Int} (hm : g.mg "max" = none) (h0 : 0 < ns.length) (ha : XE g C M δ a (tD g.K (.list (ns.map .int)))) (hg : ∀ j, (C.env j).kindOf "max" = some .globalImplicit := by intro _; rfl) (he : ∀ j, starEach [a] (C.env j) = (false, eval a (C.env j)) :: starEach [] (C.env j) := by intro _; rfl) :
    XE g C M δ (.Call (.Name "max" p) [a] [] pos) (tD g.K (.int (greatI ns))) :=
  xe_cbV (r := rMax g.K) (fun j => cr_max (X := C.X g j) rfl) hm (by decide +kernel) (fun B H vs Q e h => by
    obtain ⟨v, rfl, hv⟩ := al1 h
    obtain ⟨q, xs, rfl, h1, r1⟩ := rp_lst hv
    refine ⟨_, .int _, fun k => ⟨q, ns, rfl, SqL.of (by rw [← rp_ints r1]; exact e _ _ h1), h0, fun m h1 h2 => ?_⟩⟩
    have em : m = greatI ns := Int.le_antisymm (greatI_ge h1) (h2 _ (greatI_mem h0))
    rw [em]
    exact k) (xa_cons ha xa_nil he) (by decide) (by decide) hg he
/-- some numbers, sorted -/
def insI (n : Int) : List Int → List Int
  | [] => [n]
  | m :: r => if n ≤ m then n :: m :: r else m :: insI n r
def sortI : List Int → List Int
  | [] => []
  | n :: r => insI n (sortI r)
theorem insI_perm (n : Int) : ∀ l, (insI n l).Perm (n :: l)
  | [] => .refl _
  | m :: r => by
    unfold insI
    split
    · exact .refl _
    · exact ((insI_perm n r).cons m).trans (.swap n m r)
theorem sortI_perm : ∀ l, (sortI l).Perm l
  | [] => .refl _
  | n :: r => (insI_perm n _).trans ((sortI_perm r).cons n)
theorem insI_sorted (n : Int) : ∀ {l : List Int}, l.Pairwise (· ≤ ·) → (insI n l).Pairwise (· ≤ ·)
  | [], _ => by simp [insI]
  | m :: r, h => by
    obtain ⟨h1, h2⟩ := List.pairwise_cons.mp h
    unfold insI
    split
    · rename_i q
      refine List.pairwise_cons.mpr ⟨fun y hy => ?_, h⟩
      rcases List.mem_cons.mp hy with e | hy
      · omega
      · have := h1 y hy
        omega
    · rename_i q
      refine List.pairwise_cons.mpr ⟨fun y hy => ?_, insI_sorted n h2⟩
      rcases List.mem_cons.mp ((insI_perm n r).mem_iff.mp hy) with e | hy
      · omega
      · exact h1 y hy
theorem sortI_sorted : ∀ l : List Int, (sortI l).Pairwise (· ≤ ·)
  | [] => .nil
  | n :: r => insI_sorted n (sortI_sorted r)
theorem sorted_one : ∀ {l l' : List Int}, l.Perm l' → l.Pairwise (· ≤ ·) → l'.Pairwise (· ≤ ·) → l = l'
  | [], l', h, _, _ => (List.nil_perm.mp h).symm
  | a :: r, [], h, _, _ => by have := h.length_eq; simp at this
  | a :: r, b :: r', h, h1, h2 => by
    obtain ⟨p1, p2⟩ := List.pairwise_cons.mp h1
    obtain ⟨q1, q2⟩ := List.pairwise_cons.mp h2
    have e : a = b := by
      have i1 : a ∈ b :: r' := h.mem_iff.mp List.mem_cons_self
      have i2 : b ∈ a :: r := h.mem_iff.mpr List.mem_cons_self
      rcases List.mem_cons.mp i1 with e | i1
      · exact e
      · rcases List.mem_cons.mp i2 with e | i2
        · exact e.symm
        · have := p1 b i2
          have := q1 a i1
          omega
    subst e
    rw [sorted_one (h.cons_inv) p2 q2]
theorem xe_sorted {ns : List Int} (hm : g.mg "sorted" = none) (h0 : ns.length < 64) (ha : XE g C M δ a (tD g.K (.list (ns.map .int)))) (hg : ∀ j, (C.env j).kindOf "sorted" = some .globalImplicit := by intro _; rfl) (he : ∀ j, starEach [a] (C.env j) = (false, eval a (C.env j)) :: starEach [] (C.env j) := by intro _; rfl) :
    XE g C M δ (.Call (.Name "sorted" p) [a] [] pos) (tD g.K (.list ((sortI ns).map .int))) :=
  xe_cbN (r := rSorted g.K) (fun j => cr_sorted (X := C.X g j)) hm (by decide +kernel) (fun B H vs Q e h k => by
    obtain ⟨v, rfl, hv⟩ := al1 h
    obtain ⟨q, xs, rfl, h1, r1⟩ := rp_lst hv
    refine ⟨q, ns, rfl, SqL.of (by rw [← rp_ints r1]; exact e _ _ h1), h0, fun ns' p h1 h2 hp => ?_⟩
    have en : ns' = sortI ns := sorted_one (h1.trans (sortI_perm ns).symm) h2 (sortI_sorted ns)
    rw [en]
    exact k _ p hp fun B' _ hb => .lst hb (rp_of_ints _)) (xa_cons ha xa_nil he) (by decide) (by decide) hg he
/-- tuple(list), tuple(tuple), list(list), list(tuple) -/
theorem xe_tupOfL {ds : List PyData} (hm : g.mg "tuple" = none) (ha : XE g C M δ a (tD g.K (.list ds))) (hg : ∀ j, (C.env j).kindOf "tuple" = some .globalImplicit := by intro _; rfl) (he : ∀ j, starEach [a] (C.env j) = (false, eval a (C.env j)) :: starEach [] (C.env j) := by intro _; rfl) :
    XE g C M δ (.Call (.Name "tuple" p) [a] [] pos) (tD g.K (.tuple ds)) :=
  xe_ctN (r := fun xs H Q => ∃ p ys, xs = [.ref p] ∧ ((SqL g.K H p ys ∧ ∀ l, H l = none → Q (.ref l) (upd H l (.tup ys))) ∨ (SqT g.K H p ys ∧ Q (.ref p) H))) (fun j => call_tuple_of (X := C.X g j)) hm PyProof.Rows.boot_tuple (fun B H vs Q e h k => by
    obtain ⟨v, rfl, hv⟩ := al1 h
    obtain ⟨q, xs, rfl, h1, r1⟩ := rp_lst hv
    exact ⟨q, xs, rfl, .inl ⟨SqL.of (e _ _ h1), fun l hl => k _ l hl fun B' e' hb => .tup (SqT.of hb) (r1.mono e')⟩⟩) (xa_cons ha xa_nil he) (by decide) (by decide) hg he
theorem xe_tupOfT {ds : List PyData} (hm : g.mg "tuple" = none) (ha : XE g C M δ a (tD g.K (.tuple ds))) (hg : ∀ j, (C.env j).kindOf "tuple" = some .globalImplicit := by intro _; rfl) (he : ∀ j, starEach [a] (C.env j) = (false, eval a (C.env j)) :: starEach [] (C.env j) := by intro _; rfl) :
    XE g C M δ (.Call (.Name "tuple" p) [a] [] pos) (tD g.K (.tuple ds)) :=
  xe_ctV (r := fun xs H Q => ∃ p ys, xs = [.ref p] ∧ ((SqL g.K H p ys ∧ ∀ l, H l = none → Q (.ref l) (upd H l (.tup ys))) ∨ (SqT g.K H p ys ∧ Q (.ref p) H))) (fun j => call_tuple_of (X := C.X g j)) hm PyProof.Rows.boot_tuple (fun B H vs Q e h => by
    obtain ⟨v, rfl, hv⟩ := al1 h
    obtain ⟨q, xs, rfl, h1, r1⟩ := rp_tup hv
    exact ⟨_, .tup h1 r1, fun k => ⟨q, xs, rfl, .inr ⟨sqt_mono e h1, k⟩⟩⟩) (xa_cons ha xa_nil he) (by decide) (by decide) hg he
theorem xe_lstOfL {ds : List PyData} (hm : g.mg "list" = none) (ha : XE g C M δ a (tD g.K (.list ds))) (hg : ∀ j, (C.env j).kindOf "list" = some .globalImplicit := by intro _; rfl) (he : ∀ j, starEach [a] (C.env j) = (false, eval a (C.env j)) :: starEach [] (C.env j) := by intro _; rfl) :
    XE g C M δ (.Call (.Name "list" p) [a] [] pos) (tD g.K (.list ds)) :=
  xe_ctN (r := fun xs H Q => ∃ p ys, xs = [.ref p] ∧ (SqL g.K H p ys ∨ SqT g.K H p ys) ∧ ∀ l, H l = none → Q (.ref l) (upd H l (.lst ys))) (fun j => call_list_of (X := C.X g j)) hm (by decide +kernel) (fun B H vs Q e h k => by
    obtain ⟨v, rfl, hv⟩ := al1 h
    obtain ⟨q, xs, rfl, h1, r1⟩ := rp_lst hv
    exact ⟨q, xs, rfl, .inl (SqL.of (e _ _ h1)), fun l hl => k _ l hl fun B' e' hb => .lst hb (r1.mono e')⟩) (xa_cons ha xa_nil he) (by decide) (by decide) hg he
theorem xe_lstOfT {ds : List PyData} (hm : g.mg "list" = none) (ha : XE g C M δ a (tD g.K (.tuple ds))) (hg : ∀ j, (C.env j).kindOf "list" = some .globalImplicit := by intro _; rfl) (he : ∀ j, starEach [a] (C.env j) = (false, eval a (C.env j)) :: starEach [] (C.env j) := by intro _; rfl) :
    XE g C M δ (.Call (.Name "list" p) [a] [] pos) (tD g.K (.list ds)) :=
  xe_ctN (r := fun xs H Q => ∃ p ys, xs = [.ref p] ∧ (SqL g.K H p ys ∨ SqT g.K H p ys) ∧ ∀ l, H l = none → Q (.ref l) (upd H l (.lst ys))) (fun j => call_list_of (X := C.X g j)) hm (by decide +kernel) (fun B H vs Q e h k => by
    obtain ⟨v, rfl, hv⟩ := al1 h
    obtain ⟨q, xs, rfl, h1, r1⟩ := rp_tup hv
    exact ⟨q, xs, rfl, .inr (sqt_mono e h1), fun l hl => k _ l hl fun B' e' hb => .lst hb (r1.mono e')⟩) (xa_cons ha xa_nil he) (by decide) (by decide) hg he
/-- isinstance(x, T) -/
def tyName : PyData → String
  | .none => "NoneType"
  | .bool _ => "bool"
  | .int _ => "int"
  | .str _ => "str"
  | .list _ => "list"
  | .tuple _ => "tuple"
  | _ => "dict"
theorem tyx_rp {K : PySem.W.Frag} {H : Hp} {v : V} {d : PyData} (h : Rp K H v d) : TyX K H v (.type (tyName d)) := by
  cases h with
  | non => exact .base .non
  | bl b => exact .base (.bl b)
  | int i => exact .base (.int i)
  | str x => exact .base (.str x)
  | lst h _ => exact .base (.lst h)
  | tup h _ =>
    rcases h with (h | ⟨o, h⟩) | ⟨o, its, n, h1, h2, _⟩
    · exact .base (.tup h)
    · exact .fTuple h
    · exact .kTuple h1 h2
def isTyN (t n : String) : Bool := n == t || (n == "bool" && t == "int")
def isTy (t : String) (d : PyData) : Bool := isTyN t (tyName d)
theorem kit_int (d : PyData) : kitB (tyName d) "int" = some (isTy "int" d) := by unfold isTy; cases d <;> simp only [tyName] <;> decide +kernel
theorem kit_bool (d : PyData) : kitB (tyName d) "bool" = some (isTy "bool" d) := by unfold isTy; cases d <;> simp only [tyName] <;> decide +kernel
theorem kit_tuple (d : PyData) : kitB (tyName d) "tuple" = some (isTy "tuple" d) := by unfold isTy; cases d <;> simp only [tyName] <;> decide +kernel
theorem kit_list (d : PyData) : kitB (tyName d) "list" = some (isTy "list" d) := by unfold isTy; cases d <;> simp only [tyName] <;> decide +kernel
theorem kit_str (d : PyData) : kitB (tyName d) "str" = some (isTy "str" d) := by unfold isTy; cases d <;> simp only [tyName] <;> decide +kernel
theorem xe_isi {d : PyData} {t : String} {y : Str} {p2 : Pos} (hk : kitB (tyName d) t = some (isTy t d)) (hm : g.mg "isinstance" = none) (hmt : g.mg y = none) (hv : bootBuiltins y = some (.type t)) (ha : XE g C M δ a (tD g.K d))
    (hn2 : y ≠ "__name__" := by decide) (hd2 : (y == ("__debug__" : Str)) = false := by decide) (hg2 : ∀ j, (C.env j).kindOf y = some .globalImplicit := by intro _; rfl)
    (hg : ∀ j, (C.env j).kindOf "isinstance" = some .globalImplicit := by intro _; rfl) (he : ∀ j, starEach [a, .Name y p2] (C.env j) = (false, eval a (C.env j)) :: starEach [.Name y p2] (C.env j) := by intro _; rfl)
    (he2 : ∀ j, starEach [.Name y p2] (C.env j) = (false, eval (.Name y p2) (C.env j)) :: starEach [] (C.env j) := by intro _; rfl) (hpl : ∀ j, (backTo pos (starEach [.Name y p2] (C.env j))).any (·.1) = false := by intro _; rfl) :
    XE g C M δ (.Call (.Name "isinstance" p) [a, .Name y p2] [] pos) (tD g.K (.bool (isTy t d))) :=
  xe_cbV (r := rIsi g.K) (Ts := [tD g.K d, ⟨fun _ v => v = .ty t, fun _ h => h⟩]) (fun j => call_isi (X := C.X g j)) hm (by decide +kernel) (fun B H vs Q e h => by
    obtain ⟨v, w, rfl, hv, hw⟩ := al2 h
    obtain rfl : w = .ty t := hw
    exact ⟨_, .bl _, fun k => ⟨v, .ty t, .type (tyName d), .type t, isTy t d, rfl, .ty t, tyx_rp (hv.mono e), kit_ty hk, k⟩⟩)
    (xa_cons ha (xa_cons (xe_const (v := .ty t) (fun j => pe_bltn (X := C.X g j) (v := .ty t) (u := .type t) (hg2 j) hmt hv rfl hn2 hd2) fun _ => rfl) xa_nil he2) he) (by decide) (by decide) hg he hpl
/-- repr -/
theorem xe_repr {d : PyData} {n : Nat} (hr : ∀ j, Room n (C.A j)) (hgd : ∀ j, (C.A j).guards = some []) (hm : g.mg "repr" = none) (hs : d.showable = true) (hn : d.hasDict = false) (h60 : d.depth ≤ 60) (hz : d.shown.length ≤ sizeLine) (hrf : ∀ B v, Rp g.K B v d → ∃ a, v = .ref a)
    (ha : XE g C M δ a (tD g.K d)) (hg : ∀ j, (C.env j).kindOf "repr" = some .globalImplicit := by intro _; rfl) (he : ∀ j, starEach [a] (C.env j) = (false, eval a (C.env j)) :: starEach [] (C.env j) := by intro _; rfl) :
    XE g C M δ (.Call (.Name "repr" p) [a] [] pos) (tD g.K (.str d.shown)) :=
  xe_cbV (r := rRepr g.K) (fun j => cr_repr (X := C.X g j) (hgd j) (hr j).units) hm (by decide +kernel) (fun B H vs Q e h => by
    obtain ⟨v, rfl, hv⟩ := al1 h
    obtain ⟨a, rfl⟩ := hrf _ _ hv
    exact ⟨_, .str _, fun k => ⟨a, d, rfl, (Rp.mono e hv).dp, hs, hn, h60, hz, k⟩⟩) (xa_cons ha xa_nil he) (by decide) (by decide) hg he
end
end Pf
end
section
set_option Elab.async false
set_option linter.all false
set_option maxRecDepth 100000
set_option maxHeartbeats 2000000
namespace Pf
open PySem PySem.Spec PyProof.Rows L2
/-! ### what stands between two statements -/
/-- an object of the def's own that it changes -/
inductive Kd where
  | lst (ts : List Ty)
  | dct (kvs : List (List Key × V))
  | ins (C dx : Addr) (fs : List (Str × Ty))
/-- an instance's fields -/
inductive Fl (B : Hp) : List (Str × Ty) → List (Str × V) → Prop
  | nil : Fl B [] []
  | cons {f : Str} {T : Ty} {v : V} {r : List (Str × Ty)} {s : List (Str × V)} : T.p B v → Fl B r s → Fl B ((f, T) :: r) ((f, v) :: s)
theorem Fl.mono {B B' : Hp} (e : Ex B B') : ∀ {r : List (Str × Ty)} {s : List (Str × V)}, Fl B r s → Fl B' r s
  | _, _, .nil => .nil
  | _, _, .cons (T := T) h r => .cons (T.mono e h) (Fl.mono e r)
theorem Fl.length {B : Hp} : ∀ {r : List (Str × Ty)} {s : List (Str × V)}, Fl B r s → s.length = r.length
  | _, _, .nil => rfl
  | _, _, .cons _ r => congrArg (· + 1) (Fl.length r)
def putTy (f : Str) (T : Ty) : List (Str × Ty) → List (Str × Ty)
  | [] => [(f, T)]
  | (g, x) :: r => if g = f then (g, T) :: r else (g, x) :: putTy f T r
theorem Fl.put {B : Hp} {f : Str} {T : Ty} {v : V} (hv : T.p B v) : ∀ {r : List (Str × Ty)} {s : List (Str × V)}, Fl B r s → Fl B (putTy f T r) (putF f v s)
  | _, _, .nil => .cons hv .nil
  | _, _, .cons (f := g) h r => by
    unfold putTy putF
    by_cases e : g = f
    · rw [if_pos e, if_pos e]
      exact .cons hv r
    · rw [if_neg e, if_neg e]
      exact .cons h (Fl.put hv r)
abbrev Ol := List (Addr × Kd)
def KOk (B H : Hp) (a : Addr) : Kd → Prop
  | .lst ts => ∃ vs, H a = some (.lst vs) ∧ Al2 B ts vs
  | .dct kvs => H a = some (.dT kvs)
  | .ins C dx fs => ∃ vs, H a = some (.ins C dx vs) ∧ Fl B fs vs
theorem KOk.mono {B B' H H' : Hp} {a : Addr} {k : Kd} (e : Ex B B') (s : ∀ o, H a = some o → H' a = some o) (h : KOk B H a k) : KOk B' H' a k := by
  cases k with
  | lst ts =>
    obtain ⟨vs, h1, h2⟩ := h
    exact ⟨vs, s _ h1, h2.mono e⟩
  | dct kvs => exact s _ h
  | ins C dx fs =>
    obtain ⟨vs, h1, h2⟩ := h
    exact ⟨vs, s _ h1, h2.mono e⟩
theorem KOk.some {B H : Hp} {a : Addr} {k : Kd} (h : KOk B H a k) : H a ≠ none := by
  cases k with
  | lst ts =>
    obtain ⟨vs, h1, _⟩ := h
    rw [h1]
    exact fun z => nomatch z
  | dct kvs =>
    have h1 : H a = Option.some (.dT kvs) := h
    rw [h1]
    exact fun z => nomatch z
  | ins C dx fs =>
    obtain ⟨vs, h1, _⟩ := h
    rw [h1]
    exact fun z => nomatch z
structure Sta where
  δ : Sd
  O : Ol
  M : Ml
def inO (O : Ol) (a : Addr) : Bool := O.any fun p => p.1 == a
def Zo (Z : Addr → Bool) (O : Ol) : Addr → Bool := fun a => Z a || inO O a
theorem inO_of {O : Ol} {p : Addr × Kd} (h : p ∈ O) : inO O p.1 = true := List.any_eq_true.mpr ⟨p, h, by simp⟩
theorem inO_ex {O : Ol} {a : Addr} (h : inO O a = true) : ∃ p ∈ O, p.1 = a := by
  obtain ⟨p, h1, h2⟩ := List.any_eq_true.mp h
  exact ⟨p, h1, beq_iff_eq.mp h2⟩
theorem inM_ex {O : Ml} {a : Addr} (h : inM O a = true) : ∃ p ∈ O, p.1 = a := by
  obtain ⟨p, h1, h2⟩ := List.any_eq_true.mp h
  exact ⟨p, h1, beq_iff_eq.mp h2⟩
/-- the stable part at a state -/
abbrev stb (Z : Addr → Bool) (q : Sta) (H : Hp) : Hp := out (Zm (Zo Z q.O) q.M) H
structure Hold (Z : Addr → Bool) (M0 : Ml) (H0 : Hp) (G : List (V × Ty)) (q : Sta) (σ : L2.St) (H : Hp) : Prop where
  sl : Sl (stb Z q H) q.δ σ
  amb : Amb (Zo Z q.O) q.M H
  own : ∀ p ∈ q.O, KOk (stb Z q H) H p.1 p.2
  nd : (q.O.map (·.1)).Nodup
  off : ∀ p ∈ q.O, Z p.1 = false
  fr : Fr M0 H0 H
  newO : ∀ p ∈ q.O, H0 p.1 = none
  newM : ∀ p ∈ q.M, p ∈ M0 ∨ H0 p.1 = none
  subM : M0.Sublist q.M
  gh : ∀ p ∈ G, p.2.p (stb Z q H) p.1
section
variable {Z : Addr → Bool} {M0 : Ml} {H0 H H' : Hp} {G : List (V × Ty)} {q q' : Sta} {σ σ' : L2.St}
theorem fr_entry {M M0 : Ml} (newM : ∀ p ∈ M, p ∈ M0 ∨ H0 p.1 = none) (a : Fr M0 H0 H) (b : Fr M H H') : Fr M0 H0 H' := fun x o h n => by
  have h1 := a x o h n
  refine b x o h1 ?_
  cases e : inM M x with
  | false => rfl
  | true =>
    obtain ⟨p, hp, rfl⟩ := inM_ex e
    rcases newM p hp with r | r
    · rw [inM_of r] at n; cases n
    · rw [h] at r; cases r
/-- behind an expression -/
theorem Hold.step (h : Hold Z M0 H0 G q σ H) (f : Fr q.M H H') (A : Amb (Zo Z q.O) q.M H') : Hold Z M0 H0 G q σ H' where
  sl := h.sl.mono f.out
  amb := A
  own := fun p hp => (h.own p hp).mono f.out fun o e => f _ _ e (by
    cases e2 : inM q.M p.1 with
    | false => rfl
    | true =>
      obtain ⟨r, hr, e3⟩ := inM_ex e2
      have z := h.amb.off r hr
      rw [e3] at z
      unfold Zo at z
      rw [inO_of hp, Bool.or_true] at z
      cases z)
  nd := h.nd
  off := h.off
  fr := fr_entry h.newM h.fr f
  newO := h.newO
  newM := h.newM
  subM := h.subM
  gh := fun p hp => p.2.mono f.out (h.gh p hp)
theorem Hold.sl' (h : Hold Z M0 H0 G q σ H) {δ : Sd} (s : Sl (stb Z q H) δ σ') : Hold Z M0 H0 G { q with δ := δ } σ' H := { h with sl := s }
theorem Hold.le (h : Hold Z M0 H0 G q σ H) {δ : Sd} (l : Le q.δ δ) : Hold Z M0 H0 G { q with δ := δ } σ H := { h with sl := h.sl.le l }
/-- less is known -/
structure Sub (q q' : Sta) : Prop where
  le : Le q.δ q'.δ
  O : q.O = q'.O
  M : q.M = q'.M
theorem Sub.refl (q : Sta) : Sub q q := ⟨Le.refl _, rfl, rfl⟩
theorem Hold.sub (h : Hold Z M0 H0 G q σ H) (s : Sub q q') : Hold Z M0 H0 G q' σ H := by
  obtain ⟨δ, O, M⟩ := q
  obtain ⟨δ', O', M'⟩ := q'
  obtain ⟨l, rfl, rfl⟩ := s
  exact h.le l
theorem Hold.fresh (h : Hold Z M0 H0 G q σ H) {p : Addr} (hp : H p = none) : Zm (Zo Z q.O) q.M p = false := h.amb.fresh hp
/-- the def's end -/
structure RetH (Z : Addr → Bool) (M0 : Ml) (H0 : Hp) (T : Ty) (v : V) (H' : Hp) : Prop where
  fr : Fr M0 H0 H'
  amb : Amb Z M0 H'
  is : T.p (out (Zm Z M0) H') v
theorem inM_sub {M M' : Ml} (s : M.Sublist M') {a : Addr} (h : inM M a = true) : inM M' a = true := by
  obtain ⟨p, hp, e⟩ := inM_ex h
  rw [← e]
  exact inM_of (s.subset hp)
theorem Hold.end_out (h : Hold Z M0 H0 G q σ H) : Ex (stb Z q H) (out (Zm Z M0) H) := out_mono (fun a z => .inl (by
  unfold Zm at z ⊢
  unfold Zo
  rw [Bool.or_eq_true] at z
  rcases z with z | z
  · rw [z]; rfl
  · rw [inM_sub h.subM z, Bool.or_true])) fun _ _ _ e => e
theorem Hold.ret (h : Hold Z M0 H0 G q σ H) {T : Ty} {v : V} (t : T.p (stb Z q H) v) : RetH Z M0 H0 T v H where
  fr := h.fr
  amb := {
    memo := fun p hp => by
      obtain ⟨k, h1, h2⟩ := h.amb.memo p (h.subM.subset hp)
      exact ⟨k, h1, p.2.mono h.end_out h2⟩
    here := fun a z => h.amb.here a (by unfold Zo; rw [z]; rfl)
    nd := (h.subM.map _).nodup h.amb.nd
    off := fun p hp => by
      have z := h.amb.off p (h.subM.subset hp)
      unfold Zo at z
      rw [Bool.or_eq_false_iff] at z
      exact z.1 }
  is := T.mono h.end_out t
end
structure Po where
  nx : Sta → Prop
  rt : Ty → Prop
  bk : Sta → Prop := fun _ => False
  ct : Sta → Prop := fun _ => False
variable (g : Pg) (C : Ct)
structure Meets (P : Po) (Z : Addr → Bool) (M0 : Ml) (H0 : Hp) (G : List (V × Ty)) (D : Ends) : Prop where
  nx : ∀ q σ H, P.nx q → Hold Z M0 H0 G q σ H → D.nx σ H
  rt : ∀ T v H, P.rt T → RetH Z M0 H0 T v H → D.rt v H
  bk : ∀ q σ H, P.bk q → Hold Z M0 H0 G q σ H → D.bk σ H
  ct : ∀ q σ H, P.ct q → Hold Z M0 H0 G q σ H → D.ct σ H
def XS (q : Sta) (st : Stmt) (P : Po) : Prop := ∀ (Z : Addr → Bool) (M0 : Ml) (H0 : Hp) (G : List (V × Ty)) (σ : L2.St) (H : Hp) (D : Ends), Hold Z M0 H0 G q σ H → Meets P Z M0 H0 G D → wS g C st D σ H
def XB (q : Sta) (sts : List Stmt) (P : Po) : Prop := ∀ (Z : Addr → Bool) (M0 : Ml) (H0 : Hp) (G : List (V × Ty)) (σ : L2.St) (H : Hp) (D : Ends), Hold Z M0 H0 G q σ H → Meets P Z M0 H0 G D → wB g C sts D σ H
section
variable {g C} {q q' : Sta} {P : Po} {e a b c o : Expr} {es : List Expr} {st : Stmt} {sts rest : List Stmt} {pos p p2 apos cpos : Pos} {T Ta Tb : Ty} {Ts : List Ty} {x : Str} {i j : Nat}
theorem xb_nil (h : P.nx q) : XB g C q [] P := fun Z M0 H0 G σ H D hh m => w_pss (t := tNext) (m.nx q σ H h hh) fun _ => pss_nil
theorem xb_cons (h : XS g C q st { P with nx := fun q' => XB g C q' rest P }) : XB g C q (st :: rest) P := fun Z M0 H0 G σ H D hh m =>
  w_pss (t := tSeq (wS g C st) (wB g C rest)) (h Z M0 H0 G σ H { D with nx := fun σ' H' => wB g C rest D σ' H' } hh ⟨fun q' σ' H' n h' => n Z M0 H0 G σ' H' D h' m, m.rt, m.bk, m.ct⟩) fun i => pss_cons (ps_w i) (pss_w i)
theorem xb_one (h : XS g C q st P) : XB g C q [st] P := fun Z M0 H0 G σ H D hh m => w_pss (h Z M0 H0 G σ H D hh m) fun i => pss_one (ps_w i)
theorem XB.sub (h : XB g C q' sts P) (s : Sub q q') : XB g C q sts P := fun Z M0 H0 G σ H D hh m => h Z M0 H0 G σ H D (hh.sub s) m
theorem XB.imp {P' : Po} (h : XB g C q sts P) (s1 : ∀ q, P.nx q → P'.nx q) (s2 : ∀ T, P.rt T → P'.rt T) (s3 : ∀ q, P.bk q → P'.bk q) (s4 : ∀ q, P.ct q → P'.ct q) : XB g C q sts P' := fun Z M0 H0 G σ H D hh m =>
  h Z M0 H0 G σ H D hh ⟨fun q σ H z => m.nx q σ H (s1 q z), fun T v H z => m.rt T v H (s2 T z), fun q σ H z => m.bk q σ H (s3 q z), fun q σ H z => m.ct q σ H (s4 q z)⟩
/-- a reading of values -/
def XR (M : Ml) (δ : Sd) (t : TE) (T : Ty) : Prop := ∀ (Z : Addr → Bool) (σ : L2.St) (H : Hp), Sl (out (Zm Z M) H) δ σ → Amb Z M H → ∀ Q : VK, (∀ v H', Fr M H H' → Amb Z M H' → T.p (out (Zm Z M) H') v → Q v H') → t σ H Q
theorem XR.toE {M : Ml} {δ : Sd} {t : TE} (h : XR M δ t T) (hp : ∀ i, PE (C.X g i) e t) : XE g C M δ e T := fun Z σ H hs hA Q k => w_pe (h Z σ H hs hA Q k) hp
theorem Hold.ev {Z : Addr → Bool} {M0 : Ml} {H0 H : Hp} {G : List (V × Ty)} {σ : L2.St} {t : TE} (hh : Hold Z M0 H0 G q σ H) (h : XR q.M q.δ t T) {Q : VK} (k : ∀ v H', Hold Z M0 H0 G q σ H' → T.p (stb Z q H') v → Q v H') : t σ H Q :=
  h _ σ H hh.sl hh.amb Q fun v H' f A t => k v H' (hh.step f A) t
/-- x = e -/
theorem xs_set (i : Nat) (h : XE g C q.M q.δ e T) (k : P.nx { q with δ := q.δ.set i (some T) }) (hN : C.N.Nodup) (hi : C.N[i]? = some x := by rfl) (hx : ∀ j, Loc (C.env j).scope x := by intro _; first | exact Or.inl rfl | exact Or.inr rfl)
    (hs : ∀ j, swapsWith e (some (.Name x p)) pos.line (C.env j) = pure false := by intro _; rfl) (hf : ∀ j, C.fn j x = true ∨ (C.env j).scope.names.lookup x = some .local := by intro _; first | exact Or.inl rfl | exact Or.inr rfl) :
    XS g C q (.Assign [.Name x p] e pos) P := fun Z M0 H0 G σ H D hh m =>
  w_ps (t := tAsg (wE g C e) (gName i)) (hh.ev h fun v H' hh' t => m.nx _ _ _ k (hh'.sl' (Sl.set t i hh'.sl))) fun j => ps_set (X := C.X g j) hN hi (hx j) (pe_w j) (hs j) (hf j)
/-- return e -/
theorem xs_ret (h : XE g C q.M q.δ e T) (k : P.rt T) : XS g C q (.Return (some e) pos) P := fun Z M0 H0 G σ H D hh m =>
  w_ps (t := tRet (wE g C e)) (hh.ev h fun v H' hh' t => m.rt T v H' k (hh'.ret t)) fun j => ps_ret (pe_w j)
theorem xs_if {kk : Bool} (h : XT g C q.M q.δ c kk) (h1 : kk = true → XB g C q sts P) (h2 : kk = false → XB g C q rest P) : XS g C q (.If c sts rest pos) P := fun Z M0 H0 G σ H D hh m =>
  w_ps (t := tIfS (wT g C c) (wB g C sts) (wB g C rest)) (h _ σ H hh.sl hh.amb _ fun H' f A => by
    cases kk with
    | true => exact iteT (h1 rfl Z M0 H0 G σ H' D (hh.step f A) m)
    | false => exact iteF (h2 rfl Z M0 H0 G σ H' D (hh.step f A) m)) fun j => ps_if (pt_w j) (pss_w j) (pss_w j)
theorem xs_expr (h : XE g C q.M q.δ e T) (k : P.nx q) (hs : ∀ j, swapsWith e none pos.line (C.env j) = pure false := by intro _; rfl) : XS g C q (.Expr e pos) P := fun Z M0 H0 G σ H D hh m =>
  w_ps (t := tDrop (wE g C e)) (hh.ev h fun v H' hh' t => m.nx _ _ _ k hh') fun j => ps_expr (pe_w j) (hs j)
/-! ### own lists -/
theorem Hold.grow {Z : Addr → Bool} {M0 : Ml} {H0 H : Hp} {G : List (V × Ty)} {σ : L2.St} (hh : Hold Z M0 H0 G q σ H) {l : Addr} {u : HO} {kd : Kd} (hl : H l = none) (hk : ∀ B, KOk B (upd H l u) l kd) : Hold Z M0 H0 G { q with O := q.O ++ [(l, kd)] } σ (upd H l u) := by
  have zl := hh.fresh hl
  have zl1 : Zo Z q.O l = false ∧ inM q.M l = false := by
    unfold Zm at zl
    rwa [Bool.or_eq_false_iff] at zl
  have zl2 : Z l = false ∧ inO q.O l = false := by
    have z := zl1.1
    unfold Zo at z
    rwa [Bool.or_eq_false_iff] at z
  have zz : ∀ a, Zo Z (q.O ++ [(l, kd)]) a = (Zo Z q.O a || l == a) := fun a => by
    unfold Zo inO
    rw [List.any_append]
    simp [Bool.or_assoc]
  have ex : Ex (stb Z q H) (stb Z { q with O := q.O ++ [(l, kd)] } (upd H l u)) := out_mono (fun a z => by
    unfold Zm at z ⊢
    rw [zz] at z
    rw [Bool.or_eq_true, Bool.or_eq_true] at z
    rcases z with (z | z) | z
    · exact .inl (by rw [z]; rfl)
    · exact .inr (by rw [← beq_iff_eq.mp z]; exact hl)
    · exact .inl (by rw [z, Bool.or_true])) fun a o _ e => by
    rw [upd_ne (ne_of_none e hl)]
    exact e
  have kp : ∀ a o, H a = some o → (upd H l u) a = some o := Ex.new hl
  refine ⟨hh.sl.mono ex, ⟨fun p hp => ?_, fun a z => ?_, hh.amb.nd, fun p hp => ?_⟩, fun p hp => ?_, ?_, fun p hp => ?_, fun a o e n => kp _ _ (hh.fr a o e n), fun p hp => ?_, hh.newM, hh.subM, fun p hp => p.2.mono ex (hh.gh p hp)⟩
  · obtain ⟨k, h1, h2⟩ := hh.amb.memo p hp
    exact ⟨k, kp _ _ h1, p.2.mono ex h2⟩
  · rw [zz, Bool.or_eq_true] at z
    rcases z with z | z
    · intro e
      exact hh.amb.here a z (Ex.free kp e)
    · rw [← beq_iff_eq.mp z, upd_same]
      exact fun z => nomatch z
  · rw [zz, hh.amb.off p hp, Bool.false_or]
    rw [beq_eq_false_iff_ne]
    intro e
    rw [e] at zl1
    rw [inM_of hp] at zl1
    exact absurd zl1.2 (by simp)
  · rcases List.mem_append.mp hp with hp | hp
    · exact (hh.own p hp).mono ex fun o e => kp _ _ e
    · rw [List.mem_singleton.mp hp]
      exact hk _
  · rw [List.map_append]
    refine List.nodup_append.mpr ⟨hh.nd, by simp, fun a ha b hb => ?_⟩
    intro e
    obtain ⟨p, hp, rfl⟩ := List.mem_map.mp ha
    have eb : b = l := by simpa using hb
    rw [← e] at eb
    rw [← eb, inO_of hp] at zl2
    exact absurd zl2.2 (by simp)
  · rcases List.mem_append.mp hp with hp | hp
    · exact hh.off p hp
    · rw [List.mem_singleton.mp hp]
      exact zl2.1
  · rcases List.mem_append.mp hp with hp | hp
    · exact hh.newO p hp
    · rw [List.mem_singleton.mp hp]
      cases e : H0 l with
      | none => rfl
      | some o =>
        have n : inM M0 l = false := by
          cases e2 : inM M0 l with
          | false => rfl
          | true => rw [inM_sub hh.subM e2] at zl1; exact absurd zl1.2 (by simp)
        rw [hh.fr l o e n] at hl
        cases hl
/-- x = [] -/
theorem xs_nil (i : Nat) (k : ∀ l, P.nx { q with δ := q.δ.set i (some (tAt l)), O := q.O ++ [(l, .lst [])] }) (hN : C.N.Nodup) (hi : C.N[i]? = some x := by rfl) (hx : ∀ j, Loc (C.env j).scope x := by intro _; first | exact Or.inl rfl | exact Or.inr rfl)
    (hs : ∀ j, swapsWith (.List [] p2) (some (.Name x p)) pos.line (C.env j) = pure false := by intro _; rfl) (hf : ∀ j, C.fn j x = true ∨ (C.env j).scope.names.lookup x = some .local := by intro _; first | exact Or.inl rfl | exact Or.inr rfl) :
    XS g C q (.Assign [.Name x p] (.List [] p2) pos) P := fun Z M0 H0 G σ H D hh m =>
  w_ps (t := tAsg (tLst tNil) (gName i)) ⟨Nat.zero_le _, fun l hl => m.nx _ _ _ (k l) (by
    have h1 := hh.grow (u := .lst []) (kd := .lst []) hl fun B => ⟨[], upd_same, .nil⟩
    exact h1.sl' (Sl.set (T := tAt l) rfl i h1.sl))⟩ fun j => ps_set (X := C.X g j) hN hi (hx j) (pe_lst pa_nil) (hs j) (hf j)
/-- x = {}, to be a dict with tuples as keys -/
theorem xs_dnil (i : Nat) (k : ∀ l, P.nx { q with δ := q.δ.set i (some (tAt l)), O := q.O ++ [(l, .dct [])] }) (hN : C.N.Nodup) (hi : C.N[i]? = some x := by rfl) (hx : ∀ j, Loc (C.env j).scope x := by intro _; first | exact Or.inl rfl | exact Or.inr rfl)
    (hs : ∀ j, swapsWith (.Dict [] [] p2) (some (.Name x p)) pos.line (C.env j) = pure false := by intro _; rfl) (hf : ∀ j, C.fn j x = true ∨ (C.env j).scope.names.lookup x = some .local := by intro _; first | exact Or.inl rfl | exact Or.inr rfl) :
    XS g C q (.Assign [.Name x p] (.Dict [] [] p2) pos) P := fun Z M0 H0 G σ H D hh m =>
  w_ps (t := tAsg tDNewT (gName i)) (fun l hl => m.nx _ _ _ (k l) (by
    have h1 := hh.grow (u := .dT []) (kd := .dct []) hl fun B => upd_same
    exact h1.sl' (Sl.set (T := tAt l) rfl i h1.sl))) fun j => ps_set (X := C.X g j) hN hi (hx j) pe_dnewT (hs j) (hf j)
theorem Hold.put {Z : Addr → Bool} {M0 : Ml} {H0 H : Hp} {G : List (V × Ty)} {σ : L2.St} {O1 O2 : Ol} {l : Addr} {kd kd' : Kd} {u : HO} (hO : q.O = O1 ++ (l, kd) :: O2) (hh : Hold Z M0 H0 G q σ H) (hk : ∀ B, Ex (stb Z q H) B → KOk B (upd H l u) l kd') :
    Hold Z M0 H0 G { q with O := O1 ++ (l, kd') :: O2 } σ (upd H l u) := by
  have ml : (l, kd) ∈ q.O := by rw [hO]; simp
  have io : ∀ a, inO (O1 ++ (l, kd') :: O2) a = inO q.O a := fun a => by rw [hO]; unfold inO; simp
  have zo : Zo Z (O1 ++ (l, kd') :: O2) = Zo Z q.O := by funext a; unfold Zo; rw [io]
  have zl : Zm (Zo Z q.O) q.M l = true := by unfold Zm Zo; rw [inO_of ml]; simp
  have eq : stb Z { q with O := O1 ++ (l, kd') :: O2 } (upd H l u) = stb Z q H := by
    funext a
    show out (Zm (Zo Z (O1 ++ (l, kd') :: O2)) q.M) (upd H l u) a = _
    rw [zo]
    unfold stb out
    by_cases e : Zm (Zo Z q.O) q.M a = true
    · rw [if_pos e, if_pos e]
    · rw [if_neg e, if_neg e, upd_ne (fun z => e (by rw [z]; exact zl))]
  have nm : ∀ p ∈ q.M, p.1 ≠ l := fun p hp e => by
    have z := hh.amb.off p hp
    rw [e] at z
    unfold Zo at z
    rw [inO_of ml, Bool.or_true] at z
    cases z
  have mem : ∀ p, p ∈ O1 ++ (l, kd') :: O2 → p = (l, kd') ∨ (p ∈ q.O ∧ p.1 ≠ l) := fun p hp => by
    have nd := hh.nd
    rw [hO, List.map_append, List.map_cons] at nd
    obtain ⟨n1, n2, n3⟩ := List.nodup_append.mp nd
    obtain ⟨n4, n5⟩ := List.nodup_cons.mp n2
    rcases List.mem_append.mp hp with hp | hp
    · exact .inr ⟨by rw [hO]; exact List.mem_append_left _ hp, fun e => n3 p.1 (List.mem_map_of_mem hp) l (by simp) e⟩
    · rcases List.mem_cons.mp hp with e | hp
      · exact .inl e
      · exact .inr ⟨by rw [hO]; exact List.mem_append_right _ (List.mem_cons_of_mem _ hp), fun e => n4 (List.mem_map.mpr ⟨p, hp, e⟩)⟩
  refine ⟨by rw [eq]; exact hh.sl, ⟨fun p hp => ?_, fun a z => ?_, hh.amb.nd, fun p hp => by rw [zo]; exact hh.amb.off p hp⟩, fun p hp => ?_, ?_, fun p hp => ?_, fun a o e n => ?_, fun p hp => ?_, hh.newM, hh.subM, fun p hp => by rw [eq]; exact hh.gh p hp⟩
  · obtain ⟨k, h1, h2⟩ := hh.amb.memo p hp
    refine ⟨k, by rw [upd_ne (nm p hp)]; exact h1, ?_⟩
    have e2 : out (Zm (Zo Z (O1 ++ (l, kd') :: O2)) q.M) (upd H l u) = stb Z q H := eq
    rw [e2]
    exact h2
  · rw [zo] at z
    by_cases e : a = l
    · rw [e, upd_same]; exact fun z => nomatch z
    · rw [upd_ne e]; exact hh.amb.here a z
  · rcases mem p hp with e | ⟨h1, h2⟩
    · rw [e, eq]; exact hk _ (Ex.refl _)
    · rw [eq]
      exact (hh.own p h1).mono (Ex.refl _) fun o e => by rw [upd_ne h2]; exact e
  · have nd := hh.nd
    rw [hO] at nd
    simpa using nd
  · rcases mem p hp with e | ⟨h1, _⟩
    · rw [e]; exact hh.off (l, kd) ml
    · exact hh.off p h1
  · have h1 := hh.fr a o e n
    rw [upd_ne (fun z => by rw [z] at e; have := hh.newO _ ml; rw [e] at this; cases this)]
    exact h1
  · rcases mem p hp with e | ⟨h1, _⟩
    · rw [e]; exact hh.newO (l, kd) ml
    · exact hh.newO p h1
/-- x.append(e) -/
theorem xs_app {O1 O2 : Ol} {l : Addr} {ts : List Ty} (hO : q.O = O1 ++ (l, .lst ts) :: O2) (hx : q.δ[i]? = some (some (tAt l))) (h : XE g C q.M q.δ e T) (hz : ts.length < 100000) (k : P.nx { q with O := O1 ++ (l, .lst (ts ++ [T])) :: O2 })
    (hi : C.N[i]? = some x := by rfl) (hv : ∀ j, Vis (C.env j).scope x := by intro _; first | exact Or.inl rfl | exact Or.inr (Or.inl rfl) | exact Or.inr (Or.inr rfl)) (hd : (x == ("__debug__" : Str)) = false := by decide) (hcd : (x == ("__classdict__" : Str)) = false := by decide)
    (hs : ∀ j, swapsWith (.Call (.Attribute (.Name x p) "append" apos) [e] [] cpos) none pos.line (C.env j) = pure false := by intro _; rfl)
    (hbase : ∀ j, attributeBase (.Name x p) "append" (C.env j) (eval (.Name x p) (C.env j)) = eval (.Name x p) (C.env j) := by intro _; rfl)
    (hfew : ∀ j, ((backTo cpos (starEach [e] (C.env j))).all (fun x => !x.1) && (backToKw cpos (keywordEach [] (C.env j))).all (fun x => x.1.isSome) && decide (([e] : List Expr).length + ([] : List Keyword).length + (if ([] : List Keyword).isEmpty then 0 else 1) < 30)) = true := by intro _; rfl)
    (hline : (apos.endLine == cpos.line) = true := by rfl) (he : ∀ j, starEach [e] (C.env j) = (false, eval e (C.env j)) :: starEach [] (C.env j) := by intro _; rfl) (hpl : ∀ j, (backTo cpos (starEach [] (C.env j))).any (·.1) = false := by intro _; rfl) :
    XS g C q (.Expr (.Call (.Attribute (.Name x p) "append" apos) [e] [] cpos) pos) P := fun Z M0 H0 G σ H D hh m => by
  have ml : (l, Kd.lst ts) ∈ q.O := by rw [hO]; simp
  refine w_ps (t := tDrop (tBM g.K "list" rAppend (tVar i) (tCons (wE g C e) tNil))) ?_ fun j => ps_expr (pe_bm (X := C.X g j) PySem.F.plainAttrs_list PySem.F.slot_list_append PySem.F.type_list_append mt_append (pe_var hi (hv j) hd hcd) (pa_cons (pe_w j) pa_nil (he j)) (hbase j) (hfew j) hline (he j) (hpl j)) (hs j)
  obtain ⟨v, h1, h2⟩ := hh.sl.get hx
  obtain rfl : v = .ref l := h2
  obtain ⟨vs0, hv0, _⟩ := hh.own _ ml
  refine ⟨_, h1, .inl ⟨rfl, vs0, SqL.of hv0⟩, hh.ev h fun v H' hh' t => ?_⟩
  obtain ⟨vs, hv1, hv2⟩ := hh'.own _ ml
  have hl := hv2.length
  exact ⟨l, vs, v, rfl, rfl, hv1, Nat.lt_of_lt_of_le (by rw [hl]; exact hz) (by decide), m.nx _ _ _ k (hh'.put hO fun B e => ⟨vs ++ [v], upd_same, (hv2.mono e).append (.cons (T.mono e t) .nil)⟩)⟩
/-- an own list is changed no more -/
theorem xb_freeze (i : Nat) {O1 O2 : Ol} {l : Addr} {ds : List PyData} (hO : q.O = O1 ++ (l, .lst (ds.map (tD g.K))) :: O2) (hx : q.δ[i]? = some (some (tAt l))) (k : XB g C { q with O := O1 ++ O2, δ := q.δ.set i (some (tD g.K (.list ds))) } sts P) : XB g C q sts P := fun Z M0 H0 G σ H D hh m => by
  have ml : (l, Kd.lst (ds.map (tD g.K))) ∈ q.O := by rw [hO]; simp
  obtain ⟨v, h1, h2⟩ := hh.sl.get hx
  obtain rfl : v = .ref l := h2
  obtain ⟨vs, hv1, hv2⟩ := hh.own _ ml
  have zz : ∀ a, Zo Z (O1 ++ O2) a = true → Zo Z q.O a = true := fun a z => by
    unfold Zo at z ⊢
    rw [Bool.or_eq_true] at z ⊢
    refine z.imp id fun z => ?_
    rw [hO]
    unfold inO at z ⊢
    rw [List.any_append] at z ⊢
    rw [List.any_cons]
    rw [Bool.or_eq_true] at z
    rcases z with z | z
    · rw [z]; rfl
    · rw [z]; simp
  have sb : List.Sublist (O1 ++ O2) q.O := by
    rw [hO]
    exact List.Sublist.append_left (List.sublist_cons_self _ _) _
  have ex : Ex (stb Z q H) (stb Z { q with O := O1 ++ O2, δ := q.δ.set i (some (tD g.K (.list ds))) } H) := out_mono (fun a z => .inl (by
    unfold Zm at z ⊢
    rw [Bool.or_eq_true] at z ⊢
    exact z.imp (zz a) id)) fun _ _ _ e => e
  have zl : Zm (Zo Z (O1 ++ O2)) q.M l = false := by
    have n0 : inO (O1 ++ O2) l = false := by
      cases e : inO (O1 ++ O2) l with
      | false => rfl
      | true =>
        obtain ⟨p, hp, e1⟩ := inO_ex e
        have nd := hh.nd
        rw [hO, List.map_append, List.map_cons] at nd
        obtain ⟨n1, n2, n3⟩ := List.nodup_append.mp nd
        obtain ⟨n4, n5⟩ := List.nodup_cons.mp n2
        rcases List.mem_append.mp hp with hp | hp
        · exact absurd e1 (n3 p.1 (List.mem_map_of_mem hp) l (by simp))
        · exact absurd (List.mem_map.mpr ⟨p, hp, e1⟩) n4
    have n1 := hh.off _ ml
    have n2 : inM q.M l = false := by
      cases e : inM q.M l with
      | false => rfl
      | true =>
        obtain ⟨p, hp, e1⟩ := inM_ex e
        have z := hh.amb.off p hp
        rw [e1] at z
        unfold Zo at z
        have z2 := inO_of ml
        rw [show inO q.O l = true from z2, Bool.or_true] at z
        cases z
    have n1' : Z l = false := n1
    unfold Zm Zo
    rw [n1', n0, n2]
    rfl
  have tl : (tD g.K (.list ds)).p (stb Z { q with O := O1 ++ O2, δ := q.δ.set i (some (tD g.K (.list ds))) } H) (.ref l) := .lst (by
    show out (Zm (Zo Z (O1 ++ O2)) q.M) H l = _
    rw [out_at zl]
    exact hv1) (hv2.mono ex).rp
  refine k Z M0 H0 G σ H D ⟨?_, ⟨fun p hp => ?_, fun a z => hh.amb.here a (zz a z), hh.amb.nd, fun p hp => ?_⟩, fun p hp => (hh.own p (sb.subset hp)).mono ex fun _ e => e, (sb.map _).nodup hh.nd, fun p hp => hh.off p (sb.subset hp), hh.fr, fun p hp => hh.newO p (sb.subset hp), hh.newM, hh.subM, fun p hp => p.2.mono ex (hh.gh p hp)⟩ m
  · have h3 := Sl.set tl i (hh.sl.mono ex)
    have e4 : σ.set i (some (.ref l)) = σ := by
      apply List.ext_getElem?
      intro n
      by_cases e : i = n
      · subst e
        rw [h1]
        have := (List.getElem?_eq_some_iff.mp h1).1
        rw [List.getElem?_set_self this]
      · rw [List.getElem?_set_ne e]
    rw [e4] at h3
    exact h3
  · obtain ⟨k, h1, h2⟩ := hh.amb.memo p hp
    exact ⟨k, h1, p.2.mono ex h2⟩
  · cases e : Zo Z (O1 ++ O2) p.1 with
    | false => rfl
    | true =>
      have z := hh.amb.off p hp
      rw [zz _ e] at z
      cases z
end
end Pf
end
section
set_option Elab.async false
set_option linter.all false
set_option maxRecDepth 100000
set_option maxHeartbeats 2000000
namespace Pf
open PySem PySem.Spec PyProof.Rows L2
/-! ### targets -/
/-- what a target does with a value of T: from δ to δ', its slots ts -/
def XG (t : TG) (T : Ty) (δ δ' : Sd) (ts : List Nat) : Prop := ∀ (B H : Hp) (v : V) (σ : L2.St) (Q : L2.St → Hp → Prop), Ex B H → T.p B v → Sl B δ σ →
  (∀ σ', Sl B δ' σ' → (∀ vs : List Nat, (∀ i ∈ ts, i ∈ vs) → L2.wipe σ' vs = L2.wipe σ vs) → Q σ' H) → t v σ H Q
theorem wipe_set {σ : L2.St} {i : Nat} {x : Option V} : ∀ {vs : List Nat}, i ∈ vs → L2.wipe (σ.set i x) vs = L2.wipe σ vs
  | v :: vs, h => by
    by_cases e : i ∈ vs
    · show (L2.wipe (σ.set i x) vs).set v none = (L2.wipe σ vs).set v none
      rw [wipe_set e]
    · obtain rfl : i = v := (List.mem_cons.mp h).resolve_right e
      have key : ∀ {σ : L2.St} (us : List Nat), i ∉ us → L2.wipe (σ.set i x) us = (L2.wipe σ us).set i x := by
        intro σ us
        induction us with
        | nil => intro _; rfl
        | cons u us ih =>
          intro hu
          have h1 : i ≠ u := fun z => hu (by rw [z]; exact List.mem_cons_self)
          have h2 : i ∉ us := fun z => hu (List.mem_cons_of_mem _ z)
          show (L2.wipe (σ.set i x) us).set u none = ((L2.wipe σ us).set u none).set i x
          rw [ih h2, List.set_comm _ _ h1]
      show (L2.wipe (σ.set i x) vs).set i none = (L2.wipe σ vs).set i none
      rw [key vs e, List.set_set]
theorem wipe_idem {σ : L2.St} (vs : List Nat) : L2.wipe (L2.wipe σ vs) vs = L2.wipe σ vs := by
  have key : ∀ (us : List Nat), (∀ i ∈ us, i ∈ vs) → L2.wipe (L2.wipe σ us) vs = L2.wipe σ vs := by
    intro us
    induction us with
    | nil => intro _; rfl
    | cons u us ih =>
      intro h
      show L2.wipe ((L2.wipe σ us).set u none) vs = _
      rw [wipe_set (h u List.mem_cons_self), ih fun i hi => h i (List.mem_cons_of_mem _ hi)]
  exact key vs fun _ h => h
theorem xg_name {T : Ty} {δ : Sd} (i : Nat) : XG (gName i) T δ (δ.set i (some T)) [i] := fun B H v σ Q e t s k => k _ (Sl.set t i s) fun vs h => wipe_set (h i List.mem_cons_self)
theorem xg_tup2 {K : PySem.W.Frag} {d d' : PyData} {δ : Sd} {t t' : TG} {δ1 δ2 : Sd} {ts ts' : List Nat} (h1 : XG t (tD K d) δ δ1 ts) (h2 : XG t' (tD K d') δ1 δ2 ts') : XG (gTup K 2 (gCons t (gCons t' gNil))) (tD K (.tuple [d, d'])) δ δ2 (ts ++ ts') := fun B H v σ Q e t0 s k => by
  obtain ⟨a, xs, rfl, hs, r⟩ := rp_tup t0
  cases r with
  | cons r1 r =>
    cases r with
    | cons r2 r =>
      cases r
      exact ⟨a, _, rfl, sqt_mono e hs, rfl, _, _, rfl, h1 B H _ σ _ e r1 s fun σ1 s1 w1 => ⟨_, _, rfl, h2 B H _ σ1 _ e r2 s1 fun σ2 s2 w2 => ⟨rfl, k σ2 s2 fun vs h => by
        rw [w2 vs fun i hi => h i (List.mem_append_right _ hi), w1 vs fun i hi => h i (List.mem_append_left _ hi)]⟩⟩⟩
theorem xg_tup3 {K : PySem.W.Frag} {d d' d'' : PyData} {δ : Sd} {t t' t'' : TG} {δ1 δ2 δ3 : Sd} {ts ts' ts'' : List Nat} (h1 : XG t (tD K d) δ δ1 ts) (h2 : XG t' (tD K d') δ1 δ2 ts') (h3 : XG t'' (tD K d'') δ2 δ3 ts'') : XG (gTup K 3 (gCons t (gCons t' (gCons t'' gNil)))) (tD K (.tuple [d, d', d''])) δ δ3 (ts ++ (ts' ++ ts'')) := fun B H v σ Q e t0 s k => by
  obtain ⟨a, xs, rfl, hs, r⟩ := rp_tup t0
  cases r with
  | cons r1 r =>
    cases r with
    | cons r2 r =>
      cases r with
      | cons r3 r =>
        cases r
        exact ⟨a, _, rfl, sqt_mono e hs, rfl, _, _, rfl, h1 B H _ σ _ e r1 s fun σ1 s1 w1 => ⟨_, _, rfl, h2 B H _ σ1 _ e r2 s1 fun σ2 s2 w2 => ⟨_, _, rfl, h3 B H _ σ2 _ e r3 s2 fun σ3 s3 w3 => ⟨rfl, k σ3 s3 fun vs h => by
          rw [w3 vs fun i hi => h i (List.mem_append_right _ (List.mem_append_right _ hi)), w2 vs fun i hi => h i (List.mem_append_right _ (List.mem_append_left _ hi)), w1 vs fun i hi => h i (List.mem_append_left _ hi)]⟩⟩⟩⟩
/-- a, b of a tuple of any things -/
theorem xg_tupT2 {K : PySem.W.Frag} {T T' : Ty} {δ : Sd} {t t' : TG} {δ1 δ2 : Sd} {ts ts' : List Nat} (h1 : XG t T δ δ1 ts) (h2 : XG t' T' δ1 δ2 ts') : XG (gTup K 2 (gCons t (gCons t' gNil))) (tTupT K [T, T']) δ δ2 (ts ++ ts') := fun B H v σ Q e t0 s k => by
  obtain ⟨a, xs, rfl, hs, r⟩ := t0
  obtain ⟨v1, v2, rfl, r1, r2⟩ := al2 r
  exact ⟨a, _, rfl, sqt_mono e hs, rfl, _, _, rfl, h1 B H _ σ _ e r1 s fun σ1 s1 w1 => ⟨_, _, rfl, h2 B H _ σ1 _ e r2 s1 fun σ2 s2 w2 => ⟨rfl, k σ2 s2 fun vs h => by
        rw [w2 vs fun i hi => h i (List.mem_append_right _ hi), w1 vs fun i hi => h i (List.mem_append_left _ hi)]⟩⟩⟩
section
variable {g : Pg} {C : Ct} {q q' : Sta} {P : Po} {e a b c o tg iter : Expr} {es : List Expr} {st : Stmt} {sts rest body : List Stmt} {pos p p2 apos cpos : Pos} {T Ta Tb : Ty} {Ts : List Ty} {x : Str} {i j : Nat} {M : Ml} {δ δ' : Sd} {ts : List Nat} {t : TG}
theorem pg_nm {x : Str} {p : Pos} (i : Nat) (j : C.ι) (hN : C.N.Nodup) (hi : C.N[i]? = some x := by rfl) (hx : Loc (C.env j).scope x := by first | exact Or.inl rfl | exact Or.inr rfl) (hf : C.fn j x = true ∨ (C.env j).scope.names.lookup x = some .local := by first | exact Or.inl rfl | exact Or.inr rfl) :
    PG (C.X g j) (.Name x p) (gName i) := pg_name (X := C.X g j) hN hi hx hf
/-- a, b = e -/
theorem xs_unpack (h : XE g C q.M q.δ e T) (hg : XG t T q.δ δ' ts) (k : P.nx { q with δ := δ' }) (hp : ∀ j, PG (C.X g j) tg t) (hs : ∀ j, swapsWithSole [tg] e pos.line (C.env j) = pure false := by intro _; rfl) (hw : ∀ j, swappedStores [tg] e (C.env j) = pure none := by intro _; rfl)
    (h1 : ∀ j, (assignEach [tg] (C.env j)).map (·.2) = [assign tg (C.env j)] := by intro _; rfl) : XS g C q (.Assign [tg] e pos) P := fun Z M0 H0 G σ H D hh m =>
  w_ps (t := tAsg (wE g C e) t) (hh.ev h fun v H' hh' tt => hg (stb Z q H') H' v σ D.nx out_sub tt hh'.sl fun σ' s' _ => m.nx _ _ _ k (hh'.sl' s')) fun j => ps_asg (X := C.X g j) (pe_w j) (hp j) (hs j) (hw j) (h1 j)
/-- a, b = e1, e2 -/
theorem xs_par {y : Str} {px py pt : Pos} {kt k2 pt2} (i j : Nat) (h : XA g C q.M q.δ [a, b] [Ta, Tb]) (k : P.nx { q with δ := (q.δ.set i (some Ta)).set j (some Tb) }) (hN : C.N.Nodup) (hij : i ≠ j := by decide) (hi : C.N[i]? = some x := by rfl) (hj : C.N[j]? = some y := by rfl)
    (H1 : ∀ jj, PS (C.X g jj) (.Assign [.Tuple [.Name x px, .Name y py] kt pt] (.Tuple [a, b] k2 pt2) pos) (tPar i j (wA g C [a, b]))) :
    XS g C q (.Assign [.Tuple [.Name x px, .Name y py] kt pt] (.Tuple [a, b] k2 pt2) pos) P := fun Z M0 H0 G σ H D hh m =>
  w_ps (t := tPar i j (wA g C [a, b])) (h _ σ H hh.sl hh.amb _ fun vs H' f A tt => by
    obtain ⟨v, w, rfl, h1, h2⟩ := al2 tt
    exact ⟨v, w, rfl, m.nx _ _ _ k ((hh.step f A).sl' (Sl.set h2 j (Sl.set h1 i (hh.step f A).sl)))⟩) H1
/-! ### loops -/
/-- the list that is walked -/
def tSrc (K : PySem.W.Frag) (l : Addr) (xs : List V) (ds : List PyData) : Ty := ⟨fun H v => v = .ref l ∧ H l = some (.lst xs) ∧ RpAll K H xs ds, fun e h => ⟨h.1, e _ _ h.2.1, h.2.2.mono e⟩⟩
def tSrcT (K : PySem.W.Frag) (l : Addr) (xs : List V) (ds : List PyData) : Ty := ⟨fun H v => v = .ref l ∧ SqT K H l xs ∧ RpAll K H xs ds, fun e h => ⟨h.1, sqt_mono e h.2.1, h.2.2.mono e⟩⟩
theorem Hold.ghost {Z : Addr → Bool} {M0 : Ml} {H0 H : Hp} {G : List (V × Ty)} {σ : L2.St} {v : V} (hh : Hold Z M0 H0 G q σ H) (tv : T.p (stb Z q H) v) : Hold Z M0 H0 ((v, T) :: G) q σ H := by
  refine { hh with gh := ?_ }
  intro p hp
  rcases List.mem_cons.mp hp with e | hp
  · rw [e]; exact tv
  · exact hh.gh p hp
theorem Hold.unghost {Z : Addr → Bool} {M0 : Ml} {H0 H : Hp} {G : List (V × Ty)} {σ : L2.St} {p : V × Ty} (hh : Hold Z M0 H0 (p :: G) q σ H) : Hold Z M0 H0 G q σ H := { hh with gh := fun p hp => hh.gh p (List.mem_cons_of_mem _ hp) }
theorem Meets.ghost {Z : Addr → Bool} {M0 : Ml} {H0 : Hp} {G : List (V × Ty)} {D : Ends} {p : V × Ty} (m : Meets P Z M0 H0 G D) : Meets P Z M0 H0 (p :: G) D := ⟨fun q σ H n hh => m.nx q σ H n hh.unghost, m.rt, fun q σ H n hh => m.bk q σ H n hh.unghost, fun q σ H n hh => m.ct q σ H n hh.unghost⟩
/-- for target in a list of data: I the state by the turn; δ' what the body begins with -/
theorem xs_forL (ds : List PyData) (I : Nat → Sta) (D' : Nat → PyData → Sd) (h : XE g C q.M q.δ iter (tD g.K (.list ds))) (h0 : Sub q (I 0)) (hg : ∀ n d, ds[n]? = some d → XG t (tD g.K d) (I n).δ (D' n d) ts)
    (hs : ∀ n d, ds[n]? = some d → XB g C { I n with δ := D' n d } body { nx := fun q' => Sub q' (I (n + 1)), ct := fun q' => Sub q' (I (n + 1)), rt := P.rt, bk := P.nx }) (hd : P.nx (I ds.length)) (hp : ∀ j, PG (C.X g j) tg t)
    (hf : ∀ j x, foldedSetIterable iter (C.env j) x = pure x := by intro _ _; rfl) : XS g C q (.For tg iter body [] pos) P := fun Z M0 H0 G σ H D hh m => by
  refine w_ps (t := tFor (iList g.K (wE g C iter)) t (wB g C body)) ?_ fun j => ps_for (X := C.X g j) PassesOwn.never rfl (pi_list (pe_w j)) (hp j) (pss_w j) (hf j)
  refine hh.ev h fun v H1 h1 t1 => ?_
  obtain ⟨l, xs, rfl, hl, hr⟩ := rp_lst t1
  refine ⟨l, rfl, ⟨xs, SqL.of (out_sub _ _ hl)⟩, for_list (K := g.K) (a := l) (xs := xs) (fun n σ' H' => Hold Z M0 H0 ((.ref l, tSrc g.K l xs ds) :: G) (I n) σ' H') ((h1.ghost (T := tSrc g.K l xs ds) ⟨rfl, hl, hr⟩).sub h0) (fun n σ' H' _ w => SqL.of (out_sub _ _ (w.gh _ List.mem_cons_self).2.1)) (fun n y σ' H' hn w => ?_) fun σ' H' w => ?_⟩
  · obtain ⟨_, hl', hr'⟩ := w.gh _ List.mem_cons_self
    obtain ⟨d, hd', hy⟩ := hr'.at2 hn
    refine hg n d hd' (stb Z (I n) H') H' y σ' _ out_sub hy w.sl fun σ2 s2 _ => ?_
    refine hs n d hd' Z M0 H0 _ σ2 H' _ (w.sl' s2) ⟨fun q' σ3 H3 n3 h3 => h3.sub n3, m.rt, fun q' σ3 H3 n3 h3 => m.nx q' σ3 H3 n3 h3.unghost, fun q' σ3 H3 n3 h3 => h3.sub n3⟩
  · have e : xs.length = ds.length := hr.length
    rw [e] at w
    exact m.nx _ _ _ hd w.unghost
/-- .. in a tuple of data -/
theorem xs_forT (ds : List PyData) (I : Nat → Sta) (D' : Nat → PyData → Sd) (h : XE g C q.M q.δ iter (tD g.K (.tuple ds))) (h0 : Sub q (I 0)) (hg : ∀ n d, ds[n]? = some d → XG t (tD g.K d) (I n).δ (D' n d) ts)
    (hs : ∀ n d, ds[n]? = some d → XB g C { I n with δ := D' n d } body { nx := fun q' => Sub q' (I (n + 1)), ct := fun q' => Sub q' (I (n + 1)), rt := P.rt, bk := P.nx }) (hd : P.nx (I ds.length)) (hp : ∀ j, PG (C.X g j) tg t)
    (hf : ∀ j x, foldedSetIterable iter (C.env j) x = pure x := by intro _ _; rfl) : XS g C q (.For tg iter body [] pos) P := fun Z M0 H0 G σ H D hh m => by
  refine w_ps (t := tFor (iTup g.K (wE g C iter)) t (wB g C body)) ?_ fun j => ps_for (X := C.X g j) PassesOwn.never rfl (pi_tup (pe_w j)) (hp j) (pss_w j) (hf j)
  refine hh.ev h fun v H1 h1 t1 => ?_
  obtain ⟨l, xs, rfl, hl, hr⟩ := rp_tup t1
  refine ⟨l, rfl, ⟨xs, sqt_mono out_sub hl⟩, for_tup (K := g.K) (a := l) (xs := xs) (fun n σ' H' => Hold Z M0 H0 ((.ref l, tSrcT g.K l xs ds) :: G) (I n) σ' H') ((h1.ghost (T := tSrcT g.K l xs ds) ⟨rfl, hl, hr⟩).sub h0) (fun n σ' H' _ w => sqt_mono out_sub (w.gh _ List.mem_cons_self).2.1) (fun n y σ' H' hn w => ?_) fun σ' H' w => ?_⟩
  · obtain ⟨_, hl', hr'⟩ := w.gh _ List.mem_cons_self
    obtain ⟨d, hd', hy⟩ := hr'.at2 hn
    refine hg n d hd' (stb Z (I n) H') H' y σ' _ out_sub hy w.sl fun σ2 s2 _ => ?_
    refine hs n d hd' Z M0 H0 _ σ2 H' _ (w.sl' s2) ⟨fun q' σ3 H3 n3 h3 => h3.sub n3, m.rt, fun q' σ3 H3 n3 h3 => m.nx q' σ3 H3 n3 h3.unghost, fun q' σ3 H3 n3 h3 => h3.sub n3⟩
  · have e : xs.length = ds.length := hr.length
    rw [e] at w
    exact m.nx _ _ _ hd w.unghost
/-- for x in range(n) -/
theorem xs_forR {n : Int} (i : Nat) (hn : 0 ≤ n ∧ n ≤ 100000) (I : Nat → Sta) (hm : g.mg "range" = none) (h : XE g C q.M q.δ e (tD g.K (.int n))) (h0 : Sub q (I 0))
    (hs : ∀ m : Nat, (m : Int) < n → XB g C { I m with δ := (I m).δ.set i (some (tD g.K (.int (m : Int)))) } body { nx := fun q' => Sub q' (I (m + 1)), ct := fun q' => Sub q' (I (m + 1)), rt := P.rt, bk := P.nx }) (hd : P.nx (I n.toNat)) (hN : C.N.Nodup)
    (hi : C.N[i]? = some x := by rfl) (hx : ∀ j, Loc (C.env j).scope x := by intro _; first | exact Or.inl rfl | exact Or.inr rfl) (hff : ∀ j, C.fn j x = true ∨ (C.env j).scope.names.lookup x = some .local := by intro _; first | exact Or.inl rfl | exact Or.inr rfl)
    (hk : ∀ j, (C.env j).kindOf "range" = some .globalImplicit := by intro _; rfl) (hst : ∀ j, starEach [e] (C.env j) = [(false, eval e (C.env j))] := by intro _; rfl) (hf : ∀ j x, foldedSetIterable (.Call (.Name "range" p2) [e] [] apos) (C.env j) x = pure x := by intro _ _; rfl) :
    XS g C q (.For (.Name x p) (.Call (.Name "range" p2) [e] [] apos) body [] pos) P := fun Z M0 H0 G σ H D hh m => by
  refine w_ps (t := tFor (iRng1 (tCons (wE g C e) tNil)) (gName i) (wB g C body)) ?_ fun j => ps_for (X := C.X g j) PassesOwn.never rfl (pi_range1 (hk j) hm (pa_cons (pe_w j) pa_nil (by rw [hst j]; rfl)) (hst j)) (pg_nm i j hN hi (hx j) (hff j)) (pss_w j) (hf j)
  refine hh.ev h fun v H1 h1 t1 => ⟨n, by rw [rp_int t1], by omega, by omega, for_range (lo := 0) (n := n.toNat) (fun n σ' H' => Hold Z M0 H0 G (I n) σ' H') (h1.sub h0) (fun n' σ' H' hn' w => ?_) fun σ' H' w => m.nx _ _ _ hd w⟩
  have e0 : (0 : Int) + (n' : Int) = (n' : Int) := Int.zero_add _
  show wB g C body _ (σ'.set i (some (.int ((0 : Int) + (n' : Int))))) H'
  rw [e0]
  exact hs n' (by omega) Z M0 H0 G _ H' _ (w.sl' (Sl.set (T := tD g.K (.int (n' : Int))) (.int _) i w.sl)) ⟨fun q' σ3 H3 n3 h3 => h3.sub n3, m.rt, m.nx, fun q' σ3 H3 n3 h3 => h3.sub n3⟩
/-- for x in range(lo, n) -/
theorem xs_forR2 {lo n : Int} (i : Nat) (hn : -100000 ≤ lo ∧ lo ≤ 100000 ∧ -100000 ≤ n ∧ n ≤ 100000) (I : Nat → Sta) (hm : g.mg "range" = none) (h : XA g C q.M q.δ [a, b] [tD g.K (.int lo), tD g.K (.int n)]) (h0 : Sub q (I 0))
    (hs : ∀ m : Nat, lo + (m : Int) < n → XB g C { I m with δ := (I m).δ.set i (some (tD g.K (.int (lo + (m : Int))))) } body { nx := fun q' => Sub q' (I (m + 1)), ct := fun q' => Sub q' (I (m + 1)), rt := P.rt, bk := P.nx }) (hd : P.nx (I (n - lo).toNat)) (hN : C.N.Nodup)
    (hi : C.N[i]? = some x := by rfl) (hx : ∀ j, Loc (C.env j).scope x := by intro _; first | exact Or.inl rfl | exact Or.inr rfl) (hff : ∀ j, C.fn j x = true ∨ (C.env j).scope.names.lookup x = some .local := by intro _; first | exact Or.inl rfl | exact Or.inr rfl)
    (hk : ∀ j, (C.env j).kindOf "range" = some .globalImplicit := by intro _; rfl) (hst : ∀ j, starEach [a, b] (C.env j) = [(false, eval a (C.env j)), (false, eval b (C.env j))] := by intro _; rfl) (hst2 : ∀ j, starEach [b] (C.env j) = [(false, eval b (C.env j))] := by intro _; rfl)
    (hf : ∀ j x, foldedSetIterable (.Call (.Name "range" p2) [a, b] [] apos) (C.env j) x = pure x := by intro _ _; rfl) :
    XS g C q (.For (.Name x p) (.Call (.Name "range" p2) [a, b] [] apos) body [] pos) P := fun Z M0 H0 G σ H D hh m => by
  refine w_ps (t := tFor (iRng2 (wA g C [a, b])) (gName i) (wB g C body)) ?_ fun j => ps_for (X := C.X g j) PassesOwn.never rfl (pi_range2 (hk j) hm (pa_w j) (hst j) (hst2 j)) (pg_nm i j hN hi (hx j) (hff j)) (pss_w j) (hf j)
  refine h _ σ H hh.sl hh.amb _ fun vs H1 f1 A1 t1 => ?_
  have h1 := hh.step f1 A1
  obtain ⟨v, w, rfl, hv, hw⟩ := al2 t1
  refine ⟨lo, n, by rw [rp_int hv, rp_int hw], ⟨by omega, by omega, by omega, by omega⟩, for_range (lo := lo) (n := (n - lo).toNat) (fun n σ' H' => Hold Z M0 H0 G (I n) σ' H') (h1.sub h0) (fun n' σ' H' hn' w => ?_) fun σ' H' w => m.nx _ _ _ hd w⟩
  exact hs n' (by omega) Z M0 H0 G _ H' _ (w.sl' (Sl.set (T := tD g.K (.int (lo + (n' : Int)))) (.int _) i w.sl)) ⟨fun q' σ3 H3 n3 h3 => h3.sub n3, m.rt, m.nx, fun q' σ3 H3 n3 h3 => h3.sub n3⟩
/-- while: I by what is carried, a number that falls -/
theorem xs_while {γ : Type} (I : γ → Sta) (μ : γ → Nat) (W : γ → Prop) (c0 : γ) (w0 : W c0) (h0 : Sub q (I c0)) (kk : γ → Bool) (ht : ∀ c, W c → XT g C (I c).M (I c).δ a (kk c))
    (hs : ∀ c, W c → kk c = true → XB g C (I c) body { nx := fun q' => ∃ c', μ c' < μ c ∧ W c' ∧ Sub q' (I c'), ct := fun q' => ∃ c', μ c' < μ c ∧ W c' ∧ Sub q' (I c'), rt := P.rt, bk := P.nx }) (hd : ∀ c, W c → kk c = false → P.nx (I c)) : XS g C q (.While a body [] pos) P := fun Z M0 H0 G σ H D hh m => by
  refine w_ps (t := tWhile (wT g C a) (wB g C body)) ⟨fun n σ' H' => ∃ c, μ c = n ∧ W c ∧ Hold Z M0 H0 G (I c) σ' H', ⟨_, c0, rfl, w0, hh.sub h0⟩, ?_⟩ fun j => ps_while (X := C.X g j) PassesOwn.never (pt_w j) (pss_w j)
  rintro n σ' H' ⟨c, rfl, wc, w⟩
  refine ht c wc _ σ' H' w.sl w.amb _ fun H2 f2 A2 => ?_
  have w2 := w.step f2 A2
  cases e : kk c with
  | false => exact iteF (m.nx _ _ _ (hd c wc e) w2)
  | true =>
    refine iteT ⟨fun σ3 H3 => ∃ c', μ c' < μ c ∧ W c' ∧ Hold Z M0 H0 G (I c') σ3 H3, fun σ3 H3 ⟨c', l, wc', h3⟩ => ⟨_, l, c', rfl, wc', h3⟩, ?_⟩
    exact hs c wc e Z M0 H0 G σ' H2 _ w2 ⟨fun q' σ3 H3 ⟨c', l, wc', s⟩ h3 => ⟨c', l, wc', h3.sub s⟩, m.rt, m.nx, fun q' σ3 H3 ⟨c', l, wc', s⟩ h3 => ⟨c', l, wc', h3.sub s⟩⟩
/-! ### comprehensions -/
variable {elt : Expr} {ifs : List Expr} {scope : Scope} {own : List (Str × Nat)}
/-- the comprehension's tests -/
def TR (M : Ml) (δ : Sd) (t : TT) (b : Bool) : Prop := ∀ (Z : Addr → Bool) (σ : L2.St) (H : Hp), Sl (out (Zm Z M) H) δ σ → Amb Z M H → ∀ Q : Bool → Hp → Prop, (∀ H', Fr M H H' → Amb Z M H' → Q b H') → t σ H Q
theorem tr_yes : TR M δ tYes true := fun Z σ H hs hA Q k => k H Fr.refl hA
theorem tr_one {b : Bool} (h : XT g C M δ c b) : TR M δ (wT g C c) b := h
def Zd (Z : Addr → Bool) (D : Addr) : Addr → Bool := fun x => Z x || x == D
section
variable {Z : Addr → Bool} {D : Addr} {H : Hp} {o o' : HO}
theorem zd_self : Zd Z D D = true := by unfold Zd; simp
theorem zd_nm (A : Amb (Zd Z D) M H) : inM M D = false := by
  cases e : inM M D with
  | false => rfl
  | true =>
    obtain ⟨p, hp, rfl⟩ := inM_ex e
    have z := A.off p hp
    rw [zd_self] at z
    cases z
theorem zd_add (A : Amb Z M H) (h : H D = none) : Ex (out (Zm Z M) H) (out (Zm (Zd Z D) M) (upd H D o)) := out_mono (fun a z => by
  unfold Zm Zd at z
  unfold Zm
  rw [Bool.or_eq_true, Bool.or_eq_true] at z
  rcases z with (z | z) | z
  · exact .inl (by rw [z]; rfl)
  · exact .inr (by rw [beq_iff_eq.mp z]; exact h)
  · exact .inl (by rw [z, Bool.or_true])) fun a o _ e => Ex.new h _ _ e
theorem Amb.add (A : Amb Z M H) (h : H D = none) : Amb (Zd Z D) M (L2.upd H D o) := by
  refine ⟨fun p hp => ?_, fun a z => ?_, A.nd, fun p hp => ?_⟩
  · obtain ⟨k, h1, h2⟩ := A.memo p hp
    exact ⟨k, Ex.new h _ _ h1, p.2.mono (zd_add A h) h2⟩
  · unfold Zd at z
    rw [Bool.or_eq_true] at z
    rcases z with z | z
    · exact fun e => A.here a z ((Ex.new h).free e)
    · rw [beq_iff_eq.mp z, upd_same]
      exact fun z => nomatch z
  · unfold Zd
    rw [A.off p hp, Bool.false_or, beq_eq_false_iff_ne]
    intro e
    obtain ⟨k, h1, _⟩ := A.memo p hp
    rw [e, h] at h1
    cases h1
theorem zd_out (A : Amb (Zd Z D) M H) : out (Zm (Zd Z D) M) (upd H D o) = out (Zm (Zd Z D) M) H := by
  funext a
  unfold out
  by_cases e : Zm (Zd Z D) M a = true
  · rw [if_pos e, if_pos e]
  · rw [if_neg e, if_neg e, upd_ne (fun z => e (by rw [z]; unfold Zm; rw [zd_self]; rfl))]
theorem Amb.upd (A : Amb (Zd Z D) M H) : Amb (Zd Z D) M (L2.upd H D o) := by
  refine ⟨fun p hp => ?_, fun a z => ?_, A.nd, A.off⟩
  · obtain ⟨k, h1, h2⟩ := A.memo p hp
    have n : p.1 ≠ D := fun e => by have := zd_nm A; rw [← e, inM_of hp] at this; cases this
    exact ⟨k, by rw [upd_ne n]; exact h1, by rw [zd_out A]; exact h2⟩
  · by_cases e : a = D
    · rw [e, upd_same]
      exact fun z => nomatch z
    · rw [upd_ne e]
      exact A.here a z
theorem zd_drop : Ex (out (Zm (Zd Z D) M) H) (out (Zm Z M) H) := out_mono (fun a z => .inl (by
  unfold Zm at z ⊢
  unfold Zd
  rw [Bool.or_eq_true] at z ⊢
  exact z.imp (fun z => by rw [z]; rfl) id)) fun _ _ _ e => e
theorem Amb.drop (A : Amb (Zd Z D) M H) : Amb Z M H := ⟨fun p hp => by
    obtain ⟨k, h1, h2⟩ := A.memo p hp
    exact ⟨k, h1, p.2.mono zd_drop h2⟩, fun a z => A.here a (by unfold Zd; rw [z]; rfl), A.nd, fun p hp => by
    have z := A.off p hp
    unfold Zd at z
    rw [Bool.or_eq_false_iff] at z
    exact z.1⟩
end
/-- one turn: Pv says how far the new list at D has come -/
structure LcAt (K : PySem.W.Frag) (Z : Addr → Bool) (M : Ml) (H1 : Hp) (D : Addr) (r : List PyData) (H : Hp) : Prop where
  hD : H1 D = none
  fr : ∀ a o, H1 a = some o → inM M a = false → H a = some o
  amb : Amb (Zd Z D) M H
  got : ∃ acc, H D = some (.lst acc) ∧ RpAll K (out (Zm (Zd Z D) M) H) acc r
theorem LcAt.start {K : PySem.W.Frag} {Z : Addr → Bool} {D : Addr} {H1 : Hp} (A : Amb Z M H1) (h : H1 D = none) : LcAt K Z M H1 D [] (upd H1 D (.lst [])) := ⟨h, fun a o e _ => Ex.new h _ _ e, A.add h, [], upd_same, .nil⟩
theorem LcAt.step {K : PySem.W.Frag} {Z : Addr → Bool} {D : Addr} {H1 H H' : Hp} {r : List PyData} (w : LcAt K Z M H1 D r H) (f : Fr M H H') (A : Amb (Zd Z D) M H') : LcAt K Z M H1 D r H' := by
  obtain ⟨acc, h1, h2⟩ := w.got
  exact ⟨w.hD, fun a o e n => f a o (w.fr a o e n) n, A, acc, f _ _ h1 (zd_nm A), h2.mono f.out⟩
theorem LcAt.fin {K : PySem.W.Frag} {Z : Addr → Bool} {D : Addr} {H1 H : Hp} {r : List PyData} (w : LcAt K Z M H1 D r H) (A1 : Amb Z M H1) : Fr M H1 H ∧ Amb Z M H ∧ Rp K (out (Zm Z M) H) (.ref D) (.list r) := by
  obtain ⟨acc, h1, h2⟩ := w.got
  refine ⟨w.fr, w.amb.drop, .lst ?_ (h2.mono zd_drop)⟩
  rw [out_at]
  · exact h1
  · exact A1.fresh w.hD
theorem LcAt.turn {K : PySem.W.Frag} {Z : Addr → Bool} {D : Addr} {H1 H : Hp} {r : List PyData} {δ' : Sd} {σ2 : L2.St} {tt : TT} {te : TE} {b : Bool} {d : PyData} {r' : List PyData} (w : LcAt K Z M H1 D r H) (s : Sl (out (Zm (Zd Z D) M) H) δ' σ2) (ht : TR M δ' tt b) (he : b = true → XR M δ' te (tD K d)) (hz : r.length < 100000) (hr : r' = if b = true then r ++ [d] else r) :
    tt σ2 H fun b H3 => if b = true then te σ2 H3 fun y H4 => ∃ acc, H4 D = some (.lst acc) ∧ acc.length < sizeLine ∧ LcAt K Z M H1 D r' (upd H4 D (.lst (acc ++ [y]))) else LcAt K Z M H1 D r' H3 := by
  refine ht _ σ2 H s w.amb _ fun H3 f3 A3 => ?_
  have w3 := w.step f3 A3
  cases b with
  | false =>
    refine iteF ?_
    rw [if_neg Bool.false_ne_true] at hr
    rw [hr]
    exact w3
  | true =>
    refine iteT (he rfl _ σ2 H3 (s.mono f3.out) A3 _ fun y H4 f4 A4 t4 => ?_)
    have w4 := w3.step f4 A4
    rw [if_pos rfl] at hr
    obtain ⟨acc, h1, h2⟩ := w4.got
    refine ⟨acc, h1, Nat.lt_of_lt_of_le (by rw [h2.length]; exact hz) (by decide), ?_⟩
    rw [hr]
    refine ⟨w.hD, fun a o e n => ?_, A4.upd, acc ++ [y], upd_same, ?_⟩
    · rw [upd_ne (ne_of_none e w.hD)]
      exact w4.fr a o e n
    · rw [zd_out A4]
      exact h2.append (.cons t4 .nil)
theorem take_more {α : Type} : ∀ {l : List α} {i : Nat} {x : α}, l[i]? = some x → l.take (i + 1) = l.take i ++ [x]
  | [], i, x, h => by simp at h
  | a :: l, 0, x, h => by
    obtain rfl : a = x := by simpa using h
    rfl
  | a :: l, i + 1, x, h => by
    have ih := take_more (l := l) (i := i) (x := x) (by simpa using h)
    rw [List.take_succ_cons, ih, List.take_succ_cons]
    rfl
theorem fm_more {α β : Type} {l : List α} {i : Nat} {x : α} {f : α → Bool} {h : α → β} (e : l[i]? = some x) : ((l.take (i + 1)).filter f).map h = if f x = true then ((l.take i).filter f).map h ++ [h x] else ((l.take i).filter f).map h := by
  rw [take_more e, List.filter_append, List.map_append]
  by_cases q : f x = true
  · rw [if_pos q, List.filter_cons, if_pos q]
    rfl
  · rw [if_neg q, List.filter_cons, if_neg q]
    simp
theorem fm_len {α β : Type} {l : List α} {i : Nat} {f : α → Bool} {h : α → β} : (((l.take i).filter f).map h).length ≤ l.length := by
  rw [List.length_map]
  refine Nat.le_trans (List.length_filter_le _ _) ?_
  rw [List.length_take]
  omega
variable {β : Type} {l : List β} {enc h : β → PyData} {f : β → Bool} {δc : β → Sd} {vs : List Nat} {tt : TT} {te : TE}
/-- [elt for t in a list of data if ..] -/
theorem xr_lcL (l : List β) (enc h : β → PyData) (f : β → Bool) (δc : β → Sd) (src : XE g C M δ iter (tD g.K (.list (l.map enc)))) (hz : l.length < 100000) (hg : ∀ b ∈ l, XG t (tD g.K (enc b)) (wipeD δ vs) (δc b) ts) (hts : ∀ i ∈ ts, i ∈ vs)
    (ht : ∀ b ∈ l, TR M (δc b) tt (f b)) (he : ∀ b ∈ l, f b = true → XR M (δc b) te (tD g.K (h b))) : XR M δ (tLc (iList g.K (wE g C iter)) t tt te vs) (tD g.K (.list ((l.filter f).map h))) := fun Z σ H hs hA Q k => by
  refine src Z σ H hs hA _ fun v H1 f1 A1 t1 => ?_
  obtain ⟨a, xs, rfl, hl, hr⟩ := rp_lst t1
  have hlen : xs.length = l.length := by rw [hr.length, List.length_map]
  refine ⟨a, rfl, ⟨xs, SqL.of (out_sub _ _ hl)⟩, fun D hD => lc_list (K := g.K) (a := a) (xs := xs) (fun n H' => LcAt g.K Z M H1 D (((l.take n).filter f).map h) H') (LcAt.start A1 hD) (fun n H' _ w => SqL.of ?_) (fun n y H' hn w => ?_) fun H' w => ?_⟩
  · refine w.fr _ _ (out_sub _ _ hl) ?_
    have z := (out_some hl).1
    unfold Zm at z
    rw [Bool.or_eq_false_iff] at z
    exact z.2
  · obtain ⟨d, hd, hy⟩ := hr.at2 hn
    rw [List.getElem?_map] at hd
    cases e : l[n]? with
    | none => rw [e] at hd; cases hd
    | some b =>
      rw [e] at hd
      obtain rfl : enc b = d := by simpa using hd
      have hb : b ∈ l := List.mem_of_getElem? e
      have ex : Ex (out (Zm Z M) H1) (out (Zm (Zd Z D) M) H') := (zd_add (o := .lst []) A1 hD).trans (out_mono (fun _ z => .inl z) fun a o z e => by
        have z1 : inM M a = false := by
          unfold Zm at z
          rw [Bool.or_eq_false_iff] at z
          exact z.2
        have z2 : a ≠ D := fun e2 => by
          unfold Zm at z
          rw [e2, zd_self] at z
          cases z
        rw [upd_ne z2] at e
        exact w.fr a o e z1)
      refine hg b hb (out (Zm (Zd Z D) M) H') H' y (L2.wipe σ vs) _ out_sub (hy.mono ex) (Sl.wipe ((hs.mono f1.out).mono ex) vs) fun σ2 s2 w2 => ⟨by rw [w2 vs hts, wipe_idem], ?_⟩
      exact w.turn s2 (ht b hb) (he b hb) (Nat.lt_of_le_of_lt fm_len hz) (fm_more e)
  · rw [hlen, List.take_length] at w
    obtain ⟨r1, r2, r3⟩ := w.fin A1
    exact k _ H' (f1.trans r1) r2 r3
/-- .. in a tuple of data -/
theorem xr_lcT (l : List β) (enc h : β → PyData) (f : β → Bool) (δc : β → Sd) (src : XE g C M δ iter (tD g.K (.tuple (l.map enc)))) (hz : l.length < 100000) (hg : ∀ b ∈ l, XG t (tD g.K (enc b)) (wipeD δ vs) (δc b) ts) (hts : ∀ i ∈ ts, i ∈ vs)
    (ht : ∀ b ∈ l, TR M (δc b) tt (f b)) (he : ∀ b ∈ l, f b = true → XR M (δc b) te (tD g.K (h b))) : XR M δ (tLc (iTup g.K (wE g C iter)) t tt te vs) (tD g.K (.list ((l.filter f).map h))) := fun Z σ H hs hA Q k => by
  refine src Z σ H hs hA _ fun v H1 f1 A1 t1 => ?_
  obtain ⟨a, xs, rfl, hl, hr⟩ := rp_tup t1
  have hlen : xs.length = l.length := by rw [hr.length, List.length_map]
  have exo : ∀ D H', H1 D = none → LcAt g.K Z M H1 D [] (L2.upd H1 D (.lst [])) → (∀ a o, H1 a = some o → inM M a = false → H' a = some o) → Ex (out (Zm Z M) H1) (out (Zm (Zd Z D) M) H') := fun D H' hD _ w => (zd_add (o := .lst []) A1 hD).trans (out_mono (fun _ z => .inl z) fun a o z e => by
    have z1 : inM M a = false := by
      unfold Zm at z
      rw [Bool.or_eq_false_iff] at z
      exact z.2
    have z2 : a ≠ D := fun e2 => by
      unfold Zm at z
      rw [e2, zd_self] at z
      cases z
    rw [upd_ne z2] at e
    exact w a o e z1)
  refine ⟨a, rfl, ⟨xs, sqt_mono out_sub hl⟩, fun D hD => lc_tup (K := g.K) (a := a) (xs := xs) (fun n H' => LcAt g.K Z M H1 D (((l.take n).filter f).map h) H') (LcAt.start A1 hD) (fun n H' _ w => sqt_mono (((exo D H' hD (LcAt.start A1 hD) w.fr)).trans out_sub) hl) (fun n y H' hn w => ?_) fun H' w => ?_⟩
  · obtain ⟨d, hd, hy⟩ := hr.at2 hn
    rw [List.getElem?_map] at hd
    cases e : l[n]? with
    | none => rw [e] at hd; cases hd
    | some b =>
      rw [e] at hd
      obtain rfl : enc b = d := by simpa using hd
      have hb : b ∈ l := List.mem_of_getElem? e
      have ex := exo D H' hD (LcAt.start A1 hD) w.fr
      refine hg b hb (out (Zm (Zd Z D) M) H') H' y (L2.wipe σ vs) _ out_sub (hy.mono ex) (Sl.wipe ((hs.mono f1.out).mono ex) vs) fun σ2 s2 w2 => ⟨by rw [w2 vs hts, wipe_idem], ?_⟩
      exact w.turn s2 (ht b hb) (he b hb) (Nat.lt_of_le_of_lt fm_len hz) (fm_more e)
  · rw [hlen, List.take_length] at w
    obtain ⟨r1, r2, r3⟩ := w.fin A1
    exact k _ H' (f1.trans r1) r2 r3
/-- .. in range(n) -/
theorem xr_lcR {n : Int} (h : Nat → PyData) (f : Nat → Bool) (δc : Nat → Sd) (hn : 0 ≤ n ∧ n < 100000) (src : XE g C M δ e (tD g.K (.int n))) (hg : ∀ b : Nat, (b : Int) < n → XG t (tD g.K (.int (b : Int))) (wipeD δ vs) (δc b) ts) (hts : ∀ i ∈ ts, i ∈ vs)
    (ht : ∀ b : Nat, (b : Int) < n → TR M (δc b) tt (f b)) (he : ∀ b : Nat, (b : Int) < n → f b = true → XR M (δc b) te (tD g.K (h b))) : XR M δ (tLc (iRng1 (tCons (wE g C e) tNil)) t tt te vs) (tD g.K (.list (((List.range n.toNat).filter f).map h))) := fun Z σ H hs hA Q k => by
  refine src Z σ H hs hA _ fun v H1 f1 A1 t1 => ⟨n, by rw [rp_int t1], by omega, by omega, fun D hD => lc_range (lo := 0) (n := n.toNat) (fun n' H' => LcAt g.K Z M H1 D ((((List.range n.toNat).take n').filter f).map h) H') (LcAt.start A1 hD) (fun n' H' hn' w => ?_) fun H' w => ?_⟩
  · have e : (List.range n.toNat)[n']? = some n' := by rw [List.getElem?_range hn']
    have e0 : (0 : Int) + (n' : Int) = (n' : Int) := Int.zero_add _
    rw [e0]
    have ex : Ex (out (Zm Z M) H1) (out (Zm (Zd Z D) M) H') := (zd_add (o := .lst []) A1 hD).trans (out_mono (fun _ z => .inl z) fun a o z e => by
      have z1 : inM M a = false := by
        unfold Zm at z
        rw [Bool.or_eq_false_iff] at z
        exact z.2
      have z2 : a ≠ D := fun e2 => by
        unfold Zm at z
        rw [e2, zd_self] at z
        cases z
      rw [upd_ne z2] at e
      exact w.fr a o e z1)
    refine hg n' (by omega) (out (Zm (Zd Z D) M) H') H' _ (L2.wipe σ vs) _ out_sub (.int _) (Sl.wipe ((hs.mono f1.out).mono ex) vs) fun σ2 s2 w2 => ⟨by rw [w2 vs hts, wipe_idem], ?_⟩
    exact w.turn s2 (ht n' (by omega)) (he n' (by omega)) (Nat.lt_of_le_of_lt fm_len (by rw [List.length_range]; omega)) (fm_more e)
  · have e1 : (List.range n.toNat).take n.toNat = List.range n.toNat := by
      rw [List.take_of_length_le]
      rw [List.length_range]
      exact Nat.le_refl _
    rw [e1] at w
    obtain ⟨r1, r2, r3⟩ := w.fin A1
    exact k _ H' (f1.trans r1) r2 r3
end
end Pf
end
section
set_option Elab.async false
set_option linter.all false
set_option maxRecDepth 100000
set_option maxHeartbeats 2000000
namespace Pf
open PySem PySem.Spec PyProof.Rows L2
section
variable {g : Pg} {C : Ct} {q q' : Sta} {P : Po} {e a b c o tg iter elt : Expr} {es ifs : List Expr} {st : Stmt} {sts rest body : List Stmt} {pos p p2 apos cpos : Pos} {T Ta Tb : Ty} {Ts : List Ty} {x : Str} {i j : Nat} {M : Ml} {δ δ' : Sd} {ts : List Nat} {t : TG} {scope : Scope} {own : List (Str × Nat)} {wi : TI} {tt : TT}
theorem xe_lc (own : List (Str × Nat)) (hN : C.N.Nodup) (hi : ∀ i, PI (C.X g i) tg iter wi) (ok : ∀ i, BlkOk C.N (C.env i).scope scope own) (hg : ∀ j, PG ((C.blk scope).X g j) tg t) (ht : ∀ j, PTs ((C.blk scope).X g j) ifs tt)
    (r : XR M δ (tLc wi t tt (wE g (C.blk scope) elt) (own.map (·.2))) T) (hs : ∀ j x, foldedSetIterable iter (C.env j) x = pure x := by intro _ _; rfl) : XE g C M δ (.ListComp elt [⟨tg, iter, ifs, 0⟩] scope pos) T :=
  r.toE fun i => pe_lc (X := C.X g i) (own := own) rfl hN (hi i) (ok i) (fun s H Ca cl fp => hg (i, s, H, Ca, cl, fp)) (fun s H Ca cl fp => ht (i, s, H, Ca, cl, fp)) (fun s H Ca cl fp => pe_w (C := C.blk scope) (i, s, H, Ca, cl, fp)) (hs i)
theorem xs_setLc (k : Nat) (own : List (Str × Nat)) (hN : C.N.Nodup) (hi : ∀ i, PI (C.X g i) tg iter wi) (ok : ∀ i, BlkOk C.N (C.env i).scope scope own) (hg : ∀ j, PG ((C.blk scope).X g j) tg t) (ht : ∀ j, PTs ((C.blk scope).X g j) ifs tt)
    (r : XR q.M q.δ (tLc wi t tt (wE g (C.blk scope) elt) (own.map (·.2))) T) (kk : P.nx { q with δ := q.δ.set k (some T) }) (hsw : ∀ j, swapsWith (.ListComp elt [⟨tg, iter, ifs, 0⟩] scope pos) (some (.Name x p)) p2.line (C.env j) = pure true)
    (hy : C.N[k]? = some x := by rfl) (hyl : ∀ j, (C.env j).scope.names.lookup x = some .local := by intro _; rfl) (hs : ∀ j x, foldedSetIterable iter (C.env j) x = pure x := by intro _ _; rfl) :
    XS g C q (.Assign [.Name x p] (.ListComp elt [⟨tg, iter, ifs, 0⟩] scope pos) p2) P := fun Z M0 H0 G σ H D hh m =>
  have h0 : tAsg (tLc wi t tt (wE g (C.blk scope) elt) (own.map (·.2))) (gName k) D σ H := hh.ev r fun v H' hh' t => m.nx _ _ _ kk (hh'.sl' (Sl.set t k hh'.sl))
  w_ps h0 fun i => ps_setLc (X := C.X g i) (i := k) (own := own) rfl hN hy (hyl i) (hsw i) (hi i) (ok i) (fun s H Ca cl fp => hg (i, s, H, Ca, cl, fp)) (fun s H Ca cl fp => ht (i, s, H, Ca, cl, fp)) (fun s H Ca cl fp => pe_w (C := C.blk scope) (i, s, H, Ca, cl, fp)) (hs i)
end
/-! ### defs and their promises -/
/-- from arguments of the kinds A y, the dicts Mm y remembering, a value of the kind R y; all else is as it was -/
def spM {α : Type} (Mm : α → Ml) (A : α → List Ty) (R : α → Ty) : Sp := fun vs H Q _ => ∃ (Z : Addr → Bool) (y : α), Al2 (out (Zm Z (Mm y)) H) (A y) vs ∧ Amb Z (Mm y) H ∧ ∀ v H', Fr (Mm y) H H' → Amb Z (Mm y) H' → (R y).p (out (Zm Z (Mm y)) H') v → Q v H'
structure Fn (g : Pg) (x : Str) (ps : List Str) (k : Nat) (sp : Sp) : Prop where
  ex : ∃ (f : Addr) (fd : FuncData), g.mg x = some (.ref f) ∧ PySem.W.keepIn g.K (.ref f) = true ∧ Binds g.K fd ps [] ∧ FnOk g.P g.w g.K g.mg g.base CX0 k f fd ps sp
structure Mt (g : Pg) (Cl : Addr) (m : Str) (ps : List Str) (k : Nat) (sp : Sp) : Prop where
  ex : ∃ (f : Addr) (fd : FuncData), Meth g.K Cl m f ∧ Binds g.K fd ps [] ∧ FnOk g.P g.w g.K g.mg g.base CX0 k f fd ps sp
theorem Fn.mono {g : Pg} {x : Str} {ps : List Str} {k k' : Nat} {sp : Sp} (F : Fn g x ps k sp) (h : k ≤ k') : Fn g x ps k' sp := by
  obtain ⟨f, fd, h1, h2, h3, h4⟩ := F.ex
  exact ⟨f, fd, h1, h2, h3, h4.mono h⟩
theorem Mt.mono {g : Pg} {Cl : Addr} {x : Str} {ps : List Str} {k k' : Nat} {sp : Sp} (F : Mt g Cl x ps k sp) (h : k ≤ k') : Mt g Cl x ps k' sp := by
  obtain ⟨f, fd, h1, h3, h4⟩ := F.ex
  exact ⟨f, fd, h1, h3, h4.mono h⟩
theorem nodup_off {M : Ml} {Mc : Ml} (s : Mc.Sublist M) (nd : (M.map (·.1)).Nodup) : (Mc.map (·.1)).Nodup := (s.map _).nodup nd
/-- the dicts that the callee doesn't know are among what it may not touch -/
def Zc (Z : Addr → Bool) (M Mc : Ml) : Addr → Bool := fun a => Z a || (inM M a && !inM Mc a)
theorem zc_eq {Z : Addr → Bool} {M Mc : Ml} (s : Mc.Sublist M) : Zm (Zc Z M Mc) Mc = Zm Z M := by
  funext a
  unfold Zm Zc
  cases h1 : inM Mc a with
  | true => rw [inM_sub s h1]; simp
  | false => simp
theorem Amb.to {Z : Addr → Bool} {M Mc : Ml} {H : Hp} (A : Amb Z M H) (s : Mc.Sublist M) : Amb (Zc Z M Mc) Mc H where
  memo := fun p hp => by
    obtain ⟨k, h1, h2⟩ := A.memo p (s.subset hp)
    exact ⟨k, h1, by rw [zc_eq s]; exact h2⟩
  here := fun a z => by
    unfold Zc at z
    rw [Bool.or_eq_true, Bool.and_eq_true] at z
    rcases z with z | ⟨z, _⟩
    · exact A.here a z
    · obtain ⟨p, hp, rfl⟩ := inM_ex z
      obtain ⟨k, h1, _⟩ := A.memo p hp
      rw [h1]
      exact fun z => nomatch z
  nd := nodup_off s A.nd
  off := fun p hp => by
    unfold Zc
    rw [A.off p (s.subset hp), inM_of hp]
    simp
theorem Amb.back {Z : Addr → Bool} {M Mc : Ml} {H H' : Hp} (A : Amb Z M H) (s : Mc.Sublist M) (f : Fr Mc H H') (A' : Amb (Zc Z M Mc) Mc H') : Fr M H H' ∧ Amb Z M H' := by
  have f2 : Fr M H H' := fun a o e n => f a o e (by
    cases h : inM Mc a with
    | false => rfl
    | true => rw [inM_sub s h] at n; cases n)
  refine ⟨f2, fun p hp => ?_, fun a z => A'.here a (by unfold Zc; rw [z]; rfl), A.nd, A.off⟩
  cases h : inM Mc p.1 with
  | true =>
    obtain ⟨r, hr, e⟩ := inM_ex h
    obtain ⟨k, h1, h2⟩ := A'.memo r hr
    have er : r = p := by
      have h3 := s.subset hr
      obtain ⟨i, hi, ei⟩ := List.mem_iff_getElem.mp h3
      obtain ⟨j, hj, ej⟩ := List.mem_iff_getElem.mp hp
      have : i = j := by
        have nd := A.nd
        have l1 : i < (M.map (·.1)).length := by rw [List.length_map]; exact hi
        have l2 : j < (M.map (·.1)).length := by rw [List.length_map]; exact hj
        refine (List.getElem_inj (h₀ := l1) (h₁ := l2) nd).mp ?_
        rw [List.getElem_map, List.getElem_map, ei, ej, e]
      subst this
      rw [← ei, ← ej]
    subst er
    rw [zc_eq s] at h2
    exact ⟨k, h1, h2⟩
  | false =>
    obtain ⟨k, h1, h2⟩ := A.memo p hp
    exact ⟨k, f _ _ h1 h, p.2.mono f2.out h2⟩
section
variable {g : Pg} {C : Ct} {q q' : Sta} {P : Po} {e a b c o : Expr} {es : List Expr} {st : Stmt} {sts rest body : List Stmt} {pos p p2 apos cpos : Pos} {T Ta Tb : Ty} {Ts : List Ty} {x : Str} {i j k : Nat} {M : Ml} {δ δ' : Sd} {ps : List Str} {α : Type} {Mm : α → Ml} {A : α → List Ty} {R : α → Ty}
theorem sp_use {Z : Addr → Bool} {H : Hp} {vs : List V} {Q : VK} {E : XK} (y : α) (sub : (Mm y).Sublist M) (hA : Amb Z M H) (hv : Al2 (out (Zm Z M) H) (A y) vs) (kk : ∀ v H', Fr M H H' → Amb Z M H' → (R y).p (out (Zm Z M) H') v → Q v H') : spM Mm A R vs H Q E :=
  ⟨Zc Z M (Mm y), y, by rw [zc_eq sub]; exact hv, hA.to sub, fun v H' f A' t => by
    obtain ⟨f2, A2⟩ := hA.back sub f A'
    rw [zc_eq sub] at t
    exact kk v H' f2 A2 t⟩
/-- f(e, ..) -/
theorem xe_call (F : Fn g x ps k (spM Mm A R)) (hr : ∀ i, Room k (C.A i)) (y : α) (ha : XA g C M δ (e :: es) (A y)) (sub : (Mm y).Sublist M := by exact List.nil_sublist _) (hg : ∀ j, (C.env j).kindOf x = some .globalImplicit := by intro _; rfl) (hdb : (x == ("__debug__" : Str)) = false := by decide)
    (he : ∀ j, starEach (e :: es) (C.env j) = (false, eval e (C.env j)) :: starEach es (C.env j) := by intro _; rfl) (hpl : ∀ j, (backTo pos (starEach es (C.env j))).any (·.1) = false := by intro _; rfl) : XE g C M δ (.Call (.Name x p) (e :: es) [] pos) (R y) := by
  obtain ⟨f, fd, h1, h2, h3, h4⟩ := F.ex
  intro Z σ H hsl hA Q kk
  refine w_pe (t := tCall (spM Mm A R) [] E0 (wA g C (e :: es))) ?_ fun i => pe_call (X := C.X g i) h4 (hr i) (hg i) h1 h2 h3 .nil pass0 (pa_w i) hdb (he i) (hpl i)
  refine ha Z σ H hsl hA _ fun vs H1 f1 A1 t1 => ?_
  rw [List.append_nil]
  exact sp_use y sub A1 t1 fun v H' f2 A2 t2 => kk v H' (f1.trans f2) A2 t2
/-- o.m(e, ..) -/
theorem xe_meth {Cl : Addr} {m : Str} (F : Mt g Cl m ps k (spM Mm A R)) (cl : Cls g.K Cl) (hr : ∀ i, Room k (C.A i)) (y : α) (ho : XE g C M δ o Ta) (hi : ∀ B v, Ta.p B v → ∃ q dx fs, v = .ref q ∧ B q = some (.ins Cl dx fs) ∧ fs.lookup m = none)
    (ha : XA g C M δ (e :: es) Ts) (hA : A y = Ta :: Ts) (sub : (Mm y).Sublist M := by exact List.nil_sublist _) (hst : ∀ j, starEach (e :: es) (C.env j) = (false, eval e (C.env j)) :: starEach es (C.env j) := by intro _; rfl) (hpl : ∀ j, (backTo pos (starEach es (C.env j))).any (·.1) = false := by intro _; rfl)
    (ht : ∀ j, ∃ pl, eval (.Call (.Attribute o m apos) (e :: es) [] pos) (C.env j) = (do
      let ov ← eval o (C.env j)
      standAt apos.atName
      let (f, first) ← holding [ov] (getMethod ov m pl)
      callWith pos f first (backTo pos (starEach (e :: es) (C.env j))) (backToKw pos (keywordEach [] (C.env j)))) := by intro _; exact ⟨_, rfl⟩) : XE g C M δ (.Call (.Attribute o m apos) (e :: es) [] pos) (R y) := by
  obtain ⟨f, fd, h1, h3, h4⟩ := F.ex
  intro Z σ H hsl hAm Q kk
  refine w_pe (t := tMeth Cl m (spM Mm A R) [] E0 (wE g C o) (wA g C (e :: es))) ?_ fun i => by
    obtain ⟨pl, hpl'⟩ := ht i
    exact pe_meth (X := C.X g i) (pl := pl) (pe_w i) cl h1 h4 (hr i) h3 .nil pass0 (pa_w i) (hst i) (hpl i) hpl'
  refine ho Z σ H hsl hAm _ fun v H1 f1 A1 t1 => ?_
  obtain ⟨q, dx, fs, rfl, hq, hl⟩ := hi _ _ t1
  refine ⟨q, dx, fs, rfl, out_sub _ _ hq, hl, ha Z σ H1 (hsl.mono f1.out) A1 _ fun vs H2 f2 A2 t2 => ?_⟩
  rw [List.append_nil]
  refine sp_use y sub A2 ?_ fun v H' f3 A3 t3 => kk v H' ((f1.trans f2).trans f3) A3 t3
  rw [hA]
  exact .cons (Ta.mono f2.out t1) t2
/-- o.m() -/
theorem xe_meth0 {Cl : Addr} {m : Str} (F : Mt g Cl m ps k (spM Mm A R)) (cl : Cls g.K Cl) (hr : ∀ i, Room k (C.A i)) (y : α) (ho : XE g C M δ o Ta) (hi : ∀ B v, Ta.p B v → ∃ q dx fs, v = .ref q ∧ B q = some (.ins Cl dx fs) ∧ fs.lookup m = none)
    (hA : A y = [Ta]) (sub : (Mm y).Sublist M := by exact List.nil_sublist _)
    (ht : ∀ j, ∃ pl, eval (.Call (.Attribute o m apos) [] [] pos) (C.env j) = (do
      let ov ← eval o (C.env j)
      standAt apos.atName
      let (f, first) ← holding [ov] (getMethod ov m pl)
      callWith pos f first (backTo pos (starEach [] (C.env j))) (backToKw pos (keywordEach [] (C.env j)))) := by intro _; exact ⟨_, rfl⟩) : XE g C M δ (.Call (.Attribute o m apos) [] [] pos) (R y) := by
  obtain ⟨f, fd, h1, h3, h4⟩ := F.ex
  intro Z σ H hsl hAm Q kk
  refine w_pe (t := tMeth Cl m (spM Mm A R) [] E0 (wE g C o) tNil) ?_ fun i => by
    obtain ⟨pl, hpl'⟩ := ht i
    exact pe_meth0 (X := C.X g i) (pl := pl) (pe_w i) cl h1 h4 (hr i) h3 .nil pass0 hpl'
  refine ho Z σ H hsl hAm _ fun v H1 f1 A1 t1 => ?_
  obtain ⟨q, dx, fs, rfl, hq, hl⟩ := hi _ _ t1
  refine ⟨q, dx, fs, rfl, out_sub _ _ hq, hl, ?_⟩
  refine sp_use (E := E0) y sub A1 ?_ fun v H' f3 A3 t3 => kk v H' (f1.trans f3) A3 t3
  rw [hA]
  exact .cons t1 .nil
/-- the state at a def's entry -/
def st0 (N : List Str) (A : List Ty) (M : Ml) : Sta := ⟨A.map some ++ List.replicate (N.length - A.length) none, [], M⟩
theorem sl_start {B : Hp} : ∀ {A : List Ty} {vs : List V} {n : Nat}, Al2 B A vs → Sl B (A.map some ++ List.replicate n none) (vs.map some ++ List.replicate n none)
  | _, _, 0, .nil => .nil
  | _, _, n + 1, .nil => .no (sl_start (n := n) .nil)
  | _, _, _, .cons h r => .is h (sl_start r)
/-- THE RULE for a def: its body from any arguments, in any such context -/
theorem fn_ok {y : Str} {qual : Str} {params : Arguments} {body : List Stmt} {scope : Scope} {dvs : List V} {kws : List (Str × V)} {f : Addr} {fd : FuncData} {N : List Str} (F : FunD g.K y qual params body scope dvs kws f fd) (S : FnScope N ps scope) (len : ∀ z, (A z).length = ps.length)
    (hb : ∀ (cdv : Value) (Ar : Around) (outer : List Env) (s : Shared) (H : Hp) (z : α), Room k (Ar.deeper (envOfC qual scope s.heap.objs.size f cdv)) →
      XB g (ctOf (cxOf CX0 g.P g.w g.K g.mg g.base N qual scope f cdv Ar outer s H E0)) (st0 N (A z) (Mm z)) body { nx := fun _ => tD g.K .none = R z, rt := fun T => T = R z }) : FnOk g.P g.w g.K g.mg g.base CX0 (k + 1) f fd ps (spM Mm A R) := by
  refine F.ok S (fun vs H Q E h => ?_) fun cdv Ar outer s H vs Q E hr h => ?_
  · obtain ⟨Z, z, h1, _⟩ := h
    rw [h1.length, len]
  · obtain ⟨Z, z, h1, h2, kk⟩ := h
    have hv := h1.length
    have hl : (A z).length = ps.length := len z
    refine ⟨wB g (ctOf (cxOf CX0 g.P g.w g.K g.mg g.base N qual scope f cdv Ar outer s H E)) body, PSs.nox (pss_w (C := ctOf (cxOf CX0 g.P g.w g.K g.mg g.base N qual scope f cdv Ar outer s H E)) ()), ?_⟩
    have zo : Zo Z [] = Z := by funext a; simp [Zo, inO]
    refine hb cdv Ar outer s H z hr Z (Mm z) H [] _ H _ ⟨?_, ?_, (fun p hp => nomatch hp), List.nodup_nil, (fun p hp => nomatch hp), Fr.refl, (fun p hp => nomatch hp), (fun p hp => .inl hp), .refl _, (fun p hp => nomatch hp)⟩ ⟨fun q σ H' n hh => ?_, fun T v H' n r => ?_, fun _ _ _ n => n.elim, fun _ _ _ n => n.elim⟩
    · show Sl (out (Zm (Zo Z []) (Mm z)) H) _ _
      rw [zo]
      unfold L2.start
      rw [hv]
      exact sl_start h1
    · show Amb (Zo Z []) (Mm z) H
      rw [zo]
      exact h2
    · have r := hh.ret (T := tD g.K .none) (v := .non) .non
      have n' : tD g.K .none = R z := n
      rw [n'] at r
      exact kk _ H' r.fr r.amb r.is
    · have n' : T = R z := n
      rw [n'] at r
      exact kk v H' r.fr r.amb r.is
end
end Pf
end
section
set_option Elab.async false
set_option linter.all false
set_option maxRecDepth 100000
set_option maxHeartbeats 2000000
namespace Pf
open PySem PySem.Spec PyProof.Rows L2
/-- what the top has left -/
structure Tx (g : Pg) : Prop where
  X : ∃ h, g.K.In h ∧ h.Ns mainGlobals g.mg
  says : He.SaysD faL fnL g.K
  ex : exB g.K = true
section
variable {g : Pg} {x : Str} {ps N : List Str} {k : Nat} {α : Type} {Mm : α → Ml} {A : α → List Ty} {R : α → Ty}
theorem Tx.glo (T : Tx g) (j : Nat) (h : faL[j]? = some (.glo x)) : g.mg x = some (.ref (He.ga g.K x)) := by
  obtain ⟨hp, h1, h2⟩ := T.X
  exact He.glo_ok h1 h2 (T.says.fact j h)
theorem Tx.free (T : Tx g) (j : Nat) (h : faL[j]? = some (.free x)) : g.mg x = none := by
  obtain ⟨hp, h1, h2⟩ := T.X
  exact He.free_ok h1 h2 (T.says.fact j h)
theorem Tx.int (T : Tx g) (j : Nat) {i : Int} (h : faL[j]? = some (.int x i)) : ∃ t, g.mg x = some (.int i t) := by
  obtain ⟨hp, h1, h2⟩ := T.X
  exact He.int_ok h1 h2 (T.says.fact j h)
theorem Tx.fn (T : Tx g) (i j : Nat) {d : He.DefD} (hd : fnL[i]? = some d) (hx : faL[j]? = some (.glo x)) (ha : d.at_ = (x, none)) (h1 : d.dfl = []) (h2 : d.kwd = []) (S : FnScope N ps d.scope) (len : ∀ z, (A z).length = ps.length)
    (bind : ∀ (kV doc pm : Value) (an : Option Addr) (cdv ct : Value) (us : List Value), us.length = ps.length → bindArgs (PySem.W.fnOf d.name d.qual d.params d.body d.scope .none kV doc pm an cdv ct) ⟨us, []⟩ = pure (ps.zip us))
    (hb : ∀ (cdv : Value) (Ar : Around) (outer : List Env) (s : Shared) (H : Hp) (z : α), Room k (Ar.deeper (envOfC d.qual d.scope s.heap.objs.size (He.ga g.K x) cdv)) →
      XB g (ctOf (cxOf CX0 g.P g.w g.K g.mg g.base N d.qual d.scope (He.ga g.K x) cdv Ar outer s H E0)) (st0 N (A z) (Mm z)) d.body { nx := fun _ => tD g.K .none = R z, rt := fun T => T = R z }) : Fn g x ps (k + 1) (spM Mm A R) := by
  obtain ⟨fd, F⟩ := T.says.def_ i hd
  have e1 : d.dvs g.K = [] := by unfold He.DefD.dvs; rw [h1]; rfl
  have e2 : d.kws g.K = [] := by unfold He.DefD.kws; rw [h2]; rfl
  have e3 : He.fAd g.K d.at_ = He.ga g.K x := by rw [ha]; rfl
  rw [e1, e2, e3] at F
  exact ⟨_, fd, T.glo j hx, F.kp, FunD.bindsN F bind, fn_ok F S len hb⟩
theorem Tx.mt (T : Tx g) (i j : Nat) {c m : Str} {d : He.DefD} (hd : fnL[i]? = some d) (hx : faL[j]? = some (.meth c m)) (ha : d.at_ = (c, some m)) (h1 : d.dfl = []) (h2 : d.kwd = []) (S : FnScope N ps d.scope) (len : ∀ z, (A z).length = ps.length)
    (bind : ∀ (kV doc pm : Value) (an : Option Addr) (cdv ct : Value) (us : List Value), us.length = ps.length → bindArgs (PySem.W.fnOf d.name d.qual d.params d.body d.scope .none kV doc pm an cdv ct) ⟨us, []⟩ = pure (ps.zip us))
    (hb : ∀ (cdv : Value) (Ar : Around) (outer : List Env) (s : Shared) (H : Hp) (z : α), Room k (Ar.deeper (envOfC d.qual d.scope s.heap.objs.size (He.ma g.K (He.ga g.K c) m) cdv)) →
      XB g (ctOf (cxOf CX0 g.P g.w g.K g.mg g.base N d.qual d.scope (He.ma g.K (He.ga g.K c) m) cdv Ar outer s H E0)) (st0 N (A z) (Mm z)) d.body { nx := fun _ => tD g.K .none = R z, rt := fun T => T = R z }) : Mt g (He.ga g.K c) m ps (k + 1) (spM Mm A R) := by
  obtain ⟨fd, F⟩ := T.says.def_ i hd
  have e1 : d.dvs g.K = [] := by unfold He.DefD.dvs; rw [h1]; rfl
  have e2 : d.kws g.K = [] := by unfold He.DefD.kws; rw [h2]; rfl
  have e3 : He.fAd g.K d.at_ = He.ma g.K (He.ga g.K c) m := by rw [ha]; rfl
  rw [e1, e2, e3] at F
  exact ⟨_, fd, He.meth_ok (T.says.fact j hx), FunD.bindsN F bind, fn_ok F S len hb⟩
theorem Tx.tup (T : Tx g) : (∀ B, Rp g.K B (.ref (He.ga g.K "NOUGHT")) (.tuple [.int 0, .int 1])) ∧ ∀ B, Rp g.K B (.ref (He.ga g.K "ONE")) (.tuple [.int 1, .int 1]) := by
  obtain ⟨h1, h2⟩ := He.ba (show (He.tupB g.K "NOUGHT" [.int 0, .int 1] && He.tupB g.K "ONE" [.int 1, .int 1]) = true from T.ex)
  exact ⟨fun B => .tup (He.tupB_ok h1 B) (.cons (.int 0) (.cons (.int 1) .nil)), fun B => .tup (He.tupB_ok h2 B) (.cons (.int 1) (.cons (.int 1) .nil))⟩
end
end Pf
end
section
set_option Elab.async false
set_option linter.all false
set_option maxRecDepth 100000
set_option maxHeartbeats 2000000
namespace Pf
open PySem PySem.Spec PyProof.Rows L2
/-! ### fractions: what the defs compute -/
def frD (p : Int × Int) : PyData := .tuple [.int p.1, .int p.2]
def isWhole : PyData → Bool
  | .int _ => true
  | _ => false
theorem isWhole_eq (d : PyData) : (isTy "int" d && !isTy "bool" d) = isWhole d := by unfold isTy; cases d <;> simp only [tyName, isWhole] <;> decide +kernel
def cutM (t b : Int) : Int × Int := (t / (Int.gcd t b : Int), b / (Int.gcd t b : Int))
def plusM (a b : Int × Int) : Int × Int := cutM (a.1 * b.2 + b.1 * a.2) (a.2 * b.2)
def lessM (a b : Int × Int) : Int × Int := cutM (a.1 * b.2 - b.1 * a.2) (a.2 * b.2)
def timesM (a b : Int × Int) : Int × Int := cutM (a.1 * b.1) (a.2 * b.2)
def overM (a b : Int × Int) : Int × Int := cutM (a.1 * b.2) (a.2 * b.1)
def belowM (a b : Int × Int) : Bool := decide (a.1 * b.2 < b.1 * a.2)
def sumM (l : List (Int × Int)) : Int × Int := l.foldl plusM (0, 1)
/-- a fraction of at most so many bits -/
def FB (n : Nat) (p : Int × Int) : Prop := 0 < p.2 ∧ p.1.natAbs < 2 ^ n ∧ p.2.natAbs < 2 ^ n
theorem two_mono {n m : Nat} (h : n ≤ m) : (2 : Nat) ^ n ≤ 2 ^ m := Nat.pow_le_pow_right (by decide) h
theorem FB.mono {n m : Nat} {p : Int × Int} (h : FB n p) (hn : n ≤ m) : FB m p := ⟨h.1, Nat.lt_of_lt_of_le h.2.1 (two_mono hn), Nat.lt_of_lt_of_le h.2.2 (two_mono hn)⟩
theorem Lo.of {n : Nat} {i : Int} (h : i.natAbs < 2 ^ n) (hn : n ≤ 4000) : Lo i := Nat.lt_of_lt_of_le h (two_mono hn)
theorem mul_bits {i j : Int} {n m : Nat} (hi : i.natAbs < 2 ^ n) (hj : j.natAbs < 2 ^ m) : (i * j).natAbs < 2 ^ (n + m) := by
  rw [Int.natAbs_mul, Nat.pow_add]
  exact Nat.mul_lt_mul'' hi hj
theorem add_bits {i j : Int} {n m : Nat} (hi : i.natAbs < 2 ^ n) (hj : j.natAbs < 2 ^ m) (h : n ≤ m) : (i + j).natAbs < 2 ^ (m + 1) := by
  have h1 := two_mono h
  have h2 : (2 : Nat) ^ (m + 1) = 2 ^ m + 2 ^ m := by rw [Nat.pow_succ]; omega
  omega
theorem sub_bits {i j : Int} {n m : Nat} (hi : i.natAbs < 2 ^ n) (hj : j.natAbs < 2 ^ m) (h : n ≤ m) : (i - j).natAbs < 2 ^ (m + 1) := by
  have h1 := two_mono h
  have h2 : (2 : Nat) ^ (m + 1) = 2 ^ m + 2 ^ m := by rw [Nat.pow_succ]; omega
  omega
theorem gcd_pos_r {t b : Int} (hb : 0 < b) : 0 < (Int.gcd t b : Int) := by
  have h : 0 < Int.gcd t b := Int.gcd_pos_of_ne_zero_right t (by omega)
  omega
theorem div_abs_le {t c : Int} (hc : 0 < c) : (t / c).natAbs ≤ t.natAbs := by
  rcases Int.lt_or_le t 0 with h | h
  · have h1 : -(t.natAbs : Int) ≤ t / c := by
      have e : t = -(t.natAbs : Int) := by omega
      rw [Int.le_ediv_iff_mul_le hc]
      have : (t.natAbs : Int) * 1 ≤ (t.natAbs : Int) * c := Int.mul_le_mul_of_nonneg_left (by omega) (by omega)
      have e2 : -(t.natAbs : Int) * c = -((t.natAbs : Int) * c) := Int.neg_mul ..
      omega
    have h2 : t / c ≤ 0 := by
      have : t / c < 0 := Int.ediv_neg_of_neg_of_pos h hc
      omega
    omega
  · have h1 : 0 ≤ t / c := Int.ediv_nonneg h (by omega)
    have h2 : t / c ≤ t := Int.ediv_le_self c h
    omega
theorem cut_fb {t b : Int} {n : Nat} (hb : 0 < b) (h1 : t.natAbs < 2 ^ n) (h2 : b.natAbs < 2 ^ n) : FB n (cutM t b) := by
  have hg := gcd_pos_r (t := t) hb
  refine ⟨?_, Nat.lt_of_le_of_lt (div_abs_le hg) h1, Nat.lt_of_le_of_lt (div_abs_le hg) h2⟩
  have hd : (Int.gcd t b : Int) ∣ b := Int.gcd_dvd_right t b
  exact Int.ediv_pos_of_pos_of_dvd hb (by omega) hd
theorem plus_fb {a b : Int × Int} {n m : Nat} (ha : FB n a) (hb : FB m b) : FB (n + m + 1) (plusM a b) := by
  refine cut_fb (Int.mul_pos ha.1 hb.1) (add_bits (mul_bits ha.2.1 hb.2.2) (by have := mul_bits hb.2.1 ha.2.2; rwa [Nat.add_comm] at this) (Nat.le_refl _)) (Nat.lt_of_lt_of_le (mul_bits ha.2.2 hb.2.2) (two_mono (by omega)))
theorem less_fb {a b : Int × Int} {n m : Nat} (ha : FB n a) (hb : FB m b) : FB (n + m + 1) (lessM a b) := by
  refine cut_fb (Int.mul_pos ha.1 hb.1) (sub_bits (mul_bits ha.2.1 hb.2.2) (by have := mul_bits hb.2.1 ha.2.2; rwa [Nat.add_comm] at this) (Nat.le_refl _)) (Nat.lt_of_lt_of_le (mul_bits ha.2.2 hb.2.2) (two_mono (by omega)))
theorem times_fb {a b : Int × Int} {n m : Nat} (ha : FB n a) (hb : FB m b) : FB (n + m) (timesM a b) := cut_fb (Int.mul_pos ha.1 hb.1) (mul_bits ha.2.1 hb.2.1) (mul_bits ha.2.2 hb.2.2)
theorem over_fb {a b : Int × Int} {n m : Nat} (ha : FB n a) (hb : FB m b) (h : 0 < b.1) : FB (n + m) (overM a b) := cut_fb (Int.mul_pos ha.1 h) (mul_bits ha.2.1 hb.2.2) (mul_bits ha.2.2 hb.2.1)
theorem sum_fb_go {n : Nat} : ∀ (l : List (Int × Int)) {m : Nat} {a : Int × Int}, FB m a → (∀ p ∈ l, FB n p) → FB (m + l.length * (n + 1)) (l.foldl plusM a)
  | [], m, a, h, _ => by simpa using h
  | p :: l, m, a, h, hl => by
    have h1 := sum_fb_go l (plus_fb h (hl p List.mem_cons_self)) fun r hr => hl r (List.mem_cons_of_mem _ hr)
    rw [List.foldl_cons, List.length_cons]
    refine h1.mono ?_
    rw [Nat.add_mul]
    omega
theorem sum_fb {n : Nat} {l : List (Int × Int)} (hl : ∀ p ∈ l, FB n p) : FB (1 + l.length * (n + 1)) (sumM l) := sum_fb_go l ⟨by decide, by decide, by decide⟩ hl
/-! ### the defs -/
abbrev FnT_is_whole (g : Pg) : Prop := Fn g "is_whole" ["thing"] 1 (spM (α := PyData) (fun _ => []) (fun d => [tD g.K d]) (fun d => tD g.K (.bool (isWhole d))))
theorem sc_is_whole : FnScope ["thing"] ["thing"] (defScope sIsWhole) := ⟨rfl, rfl, rfl, by decide +kernel, rfl, by decide +kernel, by decide +kernel⟩
theorem fn_is_whole {g : Pg} (T : Tx g) : FnT_is_whole g := by
  refine T.fn 0 0 (k := 0) (d := dIsWhole) rfl rfl rfl rfl rfl sc_is_whole (fun _ => rfl) (fun _ _ _ _ _ _ us hl => match us, hl with | [_], _ => rfl) fun cdv Ar outer s H z hr => ?_
  have nd := sc_is_whole.nd
  refine xb_one (xs_ret (T := tD g.K (.bool (isWhole z))) (XE.toD (xe_and (xe_isi (kit_int _) (T.free 90 rfl) (T.free 99 rfl) (by decide +kernel) (xe_name (i := 0) rfl)) fun hb => (xe_one (xe_not (xe_isi (kit_bool _) (T.free 90 rfl) (T.free 106 rfl) (by decide +kernel) (xe_name (i := 0) rfl))))) ?_) rfl)
  rw [isWhole_eq]
theorem gcd_step {a b : Int} (ha : 0 ≤ a) (hb : 0 < b) : Int.gcd b (a % b) = Int.gcd a b := by
  have h := Int.gcd_add_mul_left_right b (a % b) (a / b)
  have e : a % b + b * (a / b) = a := Int.emod_add_mul_ediv a b
  rw [e] at h
  rw [Int.gcd_comm a b, ← h]
abbrev FnT_divisor (g : Pg) : Prop := Fn g "divisor" ["one", "other"] 1 (spM (α := {p : Int × Int // 0 ≤ p.1 ∧ 0 ≤ p.2}) (fun _ => []) (fun z => [tD g.K (.int z.1.1), tD g.K (.int z.1.2)]) (fun z => tD g.K (.int (Int.gcd z.1.1 z.1.2))))
theorem sc_divisor : FnScope ["one", "other"] ["one", "other"] (defScope sDivisor) := ⟨rfl, rfl, rfl, by decide +kernel, rfl, by decide +kernel, by decide +kernel⟩
theorem fn_divisor {g : Pg} (T : Tx g) : FnT_divisor g := by
  refine T.fn 1 1 (k := 0) (d := dDivisor) rfl rfl rfl rfl rfl sc_divisor (fun _ => rfl) (fun _ _ _ _ _ _ us hl => match us, hl with | [_, _], _ => rfl) fun cdv Ar outer s H z hr => ?_
  have nd := sc_divisor.nd
  obtain ⟨⟨a, b⟩, ha, hb0⟩ := z
  refine xb_cons (xs_while (γ := Int × Int) (fun c => ⟨[some (tD g.K (.int c.1)), some (tD g.K (.int c.2))], [], []⟩) (fun c => c.2.toNat) (fun c => 0 ≤ c.1 ∧ 0 ≤ c.2 ∧ Int.gcd c.1 c.2 = Int.gcd a b) (a, b) ⟨ha, hb0, rfl⟩ ⟨Le.refl _, rfl, rfl⟩ (fun c => !decide (c.2 = 0)) (fun c wc => (xt_neI (xe_name (i := 1) rfl) xe_int)) (fun c wc hb => ?_) (fun c wc hb => ?_))
  · obtain ⟨h1, h2, h3⟩ := wc
    have h4 : 0 < c.2 := by
      have : ¬ c.2 = 0 := by simpa using hb
      omega
    refine xb_one (xs_par 0 1 (xa_cons (xe_name (i := 1) rfl) (xa_cons (xe_mod h4 (xe_name (i := 0) rfl) (xe_name (i := 1) rfl)) xa_nil)) ⟨(c.2, c.1 % c.2), ?_, ⟨h2, Int.emod_nonneg _ (by omega), by rw [gcd_step h1 h4, h3]⟩, ⟨Le.refl _, rfl, rfl⟩⟩ nd (by decide) rfl rfl (fun jj => ps_par rfl nd rfl rfl (by decide) rfl rfl (pa_w jj) (by rfl)))
    have := Int.emod_lt_of_pos c.1 h4
    have := Int.emod_nonneg c.1 (show c.2 ≠ 0 by omega)
    show (c.1 % c.2).toNat < c.2.toNat
    omega
  · obtain ⟨h1, h2, h3⟩ := wc
    have h4 : c.2 = 0 := by simpa using hb
    refine xb_one (xs_ret (T := tD g.K (.int (Int.gcd a b))) (XE.toD (xe_name (i := 0) rfl) ?_) rfl)
    rw [← h3, h4, Int.gcd_zero_right]
    have : (c.1.natAbs : Int) = c.1 := by omega
    rw [this]
/-- what cut takes -/
abbrev FrIn := {p : Int × Int // 0 < p.2 ∧ Lo p.2}
abbrev FnT_cut (g : Pg) : Prop := Fn g "cut" ["top", "bottom"] 2 (spM (α := FrIn) (fun _ => []) (fun z => [tD g.K (.int z.1.1), tD g.K (.int z.1.2)]) (fun z => tD g.K (frD (cutM z.1.1 z.1.2))))
theorem sc_cut : FnScope ["top", "bottom", "common"] ["top", "bottom"] (defScope sCut) := ⟨rfl, rfl, rfl, by decide +kernel, rfl, by decide +kernel, by decide +kernel⟩
theorem gcd_lo {t b : Int} (hb : 0 < b) (hl : Lo b) : Lo (Int.gcd t b : Int) := by
  have hd : Int.gcd t b ∣ b.natAbs := Int.gcd_dvd_natAbs_right t b
  have := Nat.le_of_dvd (by omega) hd
  exact Nat.lt_of_le_of_lt (by simpa using this) hl
theorem fn_cut {g : Pg} (T : Tx g) (F_divisor : FnT_divisor g) : FnT_cut g := by
  refine T.fn 2 2 (k := 1) (d := dCut) rfl rfl rfl rfl rfl sc_cut (fun _ => rfl) (fun _ _ _ _ _ _ us hl => match us, hl with | [_, _], _ => rfl) fun cdv Ar outer s H z hr => ?_
  have nd := sc_cut.nd
  obtain ⟨⟨t, b⟩, hb, hl⟩ := z
  have e : Int.gcd (t.natAbs : Int) b = Int.gcd t b := by simp [Int.gcd]
  refine xb_cons (xs_set 2 (T := tD g.K (.int (Int.gcd t b : Int))) ((xe_call (F_divisor.mono (by decide)) (fun _ => hr) ⟨(_, _), ⟨Int.natCast_nonneg t.natAbs, Int.le_of_lt hb⟩⟩ (xa_cons (xe_abs (T.free 93 rfl) (xe_name (i := 0) rfl)) (xa_cons (xe_name (i := 1) rfl) xa_nil))).to (by rw [e])) ?_ nd)
  refine xb_one (xs_ret (xe_tupD (ds := [.int _, .int _]) (xa_cons (xe_div (gcd_pos_r hb) (gcd_lo hb hl) (xe_name (i := 0) rfl) (xe_name (i := 2) rfl)) (xa_cons (xe_div (gcd_pos_r hb) (gcd_lo hb hl) (xe_name (i := 1) rfl) (xe_name (i := 2) rfl)) xa_nil))) rfl)
/-! arithmetic of fractions -/
abbrev Fr2 := {p : (Int × Int) × Int × Int // FB 1000 p.1 ∧ FB 1000 p.2}
abbrev Fr2p := {p : (Int × Int) × Int × Int // FB 1000 p.1 ∧ FB 1000 p.2 ∧ 0 < p.2.1}
theorem FB.l1 {p : Int × Int} {n : Nat} (h : FB n p) (hn : n ≤ 4000) : Lo p.1 := Lo.of h.2.1 hn
theorem FB.l2 {p : Int × Int} {n : Nat} (h : FB n p) (hn : n ≤ 4000) : Lo p.2 := Lo.of h.2.2 hn
theorem lo_mul {i j : Int} {n m : Nat} (hi : i.natAbs < 2 ^ n) (hj : j.natAbs < 2 ^ m) (h : n + m ≤ 4000) : Lo (i * j) := Lo.of (mul_bits hi hj) h
abbrev FnT_whole (g : Pg) : Prop := Fn g "whole" ["number"] 1 (spM (α := Int) (fun _ => []) (fun z => [tD g.K (.int z)]) (fun z => tD g.K (frD (z, 1))))
theorem sc_whole : FnScope ["number"] ["number"] (defScope sWhole) := ⟨rfl, rfl, rfl, by decide +kernel, rfl, by decide +kernel, by decide +kernel⟩
theorem fn_whole {g : Pg} (T : Tx g) : FnT_whole g := by
  refine T.fn 4 4 (k := 0) (d := dWhole) rfl rfl rfl rfl rfl sc_whole (fun _ => rfl) (fun _ _ _ _ _ _ us hl => match us, hl with | [_], _ => rfl) fun cdv Ar outer s H z hr => ?_
  have nd := sc_whole.nd
  refine xb_one (xs_ret (xe_tupD (ds := [.int _, .int _]) (xa_cons (xe_name (i := 0) rfl) (xa_cons xe_int xa_nil))) rfl)
abbrev FnT_plus (g : Pg) : Prop := Fn g "plus" ["one", "other"] 3 (spM (α := Fr2) (fun _ => []) (fun z => [tD g.K (frD z.1.1), tD g.K (frD z.1.2)]) (fun z => tD g.K (frD (plusM z.1.1 z.1.2))))
theorem sc_plus : FnScope ["one", "other"] ["one", "other"] (defScope sPlus) := ⟨rfl, rfl, rfl, by decide +kernel, rfl, by decide +kernel, by decide +kernel⟩
theorem fn_plus {g : Pg} (T : Tx g) (F_cut : FnT_cut g) : FnT_plus g := by
  refine T.fn 5 5 (k := 2) (d := dPlus) rfl rfl rfl rfl rfl sc_plus (fun _ => rfl) (fun _ _ _ _ _ _ us hl => match us, hl with | [_, _], _ => rfl) fun cdv Ar outer s H z hr => ?_
  have nd := sc_plus.nd
  obtain ⟨⟨a, b⟩, ha, hb⟩ := z
  refine xb_one (xs_ret (xe_call (F_cut.mono (by decide)) (fun _ => hr) ⟨(_, _), ⟨Int.mul_pos ha.1 hb.1, lo_mul ha.2.2 hb.2.2 (by decide)⟩⟩ (xa_cons (xe_add (xe_mul (ha.l1 (by decide)) (hb.l2 (by decide)) (xe_ixT rfl (xe_name (i := 0) rfl) xe_int) (xe_ixT rfl (xe_name (i := 1) rfl) xe_int)) (xe_mul (hb.l1 (by decide)) (ha.l2 (by decide)) (xe_ixT rfl (xe_name (i := 1) rfl) xe_int) (xe_ixT rfl (xe_name (i := 0) rfl) xe_int))) (xa_cons (xe_mul (ha.l2 (by decide)) (hb.l2 (by decide)) (xe_ixT rfl (xe_name (i := 0) rfl) xe_int) (xe_ixT rfl (xe_name (i := 1) rfl) xe_int)) xa_nil))) rfl)
abbrev FnT_less (g : Pg) : Prop := Fn g "less" ["one", "other"] 3 (spM (α := Fr2) (fun _ => []) (fun z => [tD g.K (frD z.1.1), tD g.K (frD z.1.2)]) (fun z => tD g.K (frD (lessM z.1.1 z.1.2))))
theorem sc_less : FnScope ["one", "other"] ["one", "other"] (defScope sLess) := ⟨rfl, rfl, rfl, by decide +kernel, rfl, by decide +kernel, by decide +kernel⟩
theorem fn_less {g : Pg} (T : Tx g) (F_cut : FnT_cut g) : FnT_less g := by
  refine T.fn 6 6 (k := 2) (d := dLess) rfl rfl rfl rfl rfl sc_less (fun _ => rfl) (fun _ _ _ _ _ _ us hl => match us, hl with | [_, _], _ => rfl) fun cdv Ar outer s H z hr => ?_
  have nd := sc_less.nd
  obtain ⟨⟨a, b⟩, ha, hb⟩ := z
  refine xb_one (xs_ret (xe_call (F_cut.mono (by decide)) (fun _ => hr) ⟨(_, _), ⟨Int.mul_pos ha.1 hb.1, lo_mul ha.2.2 hb.2.2 (by decide)⟩⟩ (xa_cons (xe_sub (xe_mul (ha.l1 (by decide)) (hb.l2 (by decide)) (xe_ixT rfl (xe_name (i := 0) rfl) xe_int) (xe_ixT rfl (xe_name (i := 1) rfl) xe_int)) (xe_mul (hb.l1 (by decide)) (ha.l2 (by decide)) (xe_ixT rfl (xe_name (i := 1) rfl) xe_int) (xe_ixT rfl (xe_name (i := 0) rfl) xe_int))) (xa_cons (xe_mul (ha.l2 (by decide)) (hb.l2 (by decide)) (xe_ixT rfl (xe_name (i := 0) rfl) xe_int) (xe_ixT rfl (xe_name (i := 1) rfl) xe_int)) xa_nil))) rfl)
abbrev FnT_times (g : Pg) : Prop := Fn g "times" ["one", "other"] 3 (spM (α := Fr2) (fun _ => []) (fun z => [tD g.K (frD z.1.1), tD g.K (frD z.1.2)]) (fun z => tD g.K (frD (timesM z.1.1 z.1.2))))
theorem sc_times : FnScope ["one", "other"] ["one", "other"] (defScope sTimes) := ⟨rfl, rfl, rfl, by decide +kernel, rfl, by decide +kernel, by decide +kernel⟩
theorem fn_times {g : Pg} (T : Tx g) (F_cut : FnT_cut g) : FnT_times g := by
  refine T.fn 7 7 (k := 2) (d := dTimes) rfl rfl rfl rfl rfl sc_times (fun _ => rfl) (fun _ _ _ _ _ _ us hl => match us, hl with | [_, _], _ => rfl) fun cdv Ar outer s H z hr => ?_
  have nd := sc_times.nd
  obtain ⟨⟨a, b⟩, ha, hb⟩ := z
  refine xb_one (xs_ret (xe_call (F_cut.mono (by decide)) (fun _ => hr) ⟨(_, _), ⟨Int.mul_pos ha.1 hb.1, lo_mul ha.2.2 hb.2.2 (by decide)⟩⟩ (xa_cons (xe_mul (ha.l1 (by decide)) (hb.l1 (by decide)) (xe_ixT rfl (xe_name (i := 0) rfl) xe_int) (xe_ixT rfl (xe_name (i := 1) rfl) xe_int)) (xa_cons (xe_mul (ha.l2 (by decide)) (hb.l2 (by decide)) (xe_ixT rfl (xe_name (i := 0) rfl) xe_int) (xe_ixT rfl (xe_name (i := 1) rfl) xe_int)) xa_nil))) rfl)
abbrev FnT_over (g : Pg) : Prop := Fn g "over" ["one", "other"] 3 (spM (α := Fr2p) (fun _ => []) (fun z => [tD g.K (frD z.1.1), tD g.K (frD z.1.2)]) (fun z => tD g.K (frD (overM z.1.1 z.1.2))))
theorem sc_over : FnScope ["one", "other"] ["one", "other"] (defScope sOver) := ⟨rfl, rfl, rfl, by decide +kernel, rfl, by decide +kernel, by decide +kernel⟩
theorem fn_over {g : Pg} (T : Tx g) (F_cut : FnT_cut g) : FnT_over g := by
  refine T.fn 8 8 (k := 2) (d := dOver) rfl rfl rfl rfl rfl sc_over (fun _ => rfl) (fun _ _ _ _ _ _ us hl => match us, hl with | [_, _], _ => rfl) fun cdv Ar outer s H z hr => ?_
  have nd := sc_over.nd
  obtain ⟨⟨a, b⟩, ha, hb, h0⟩ := z
  refine xb_cons (xs_if (xt_lt (xe_ixT rfl (xe_name (i := 1) rfl) xe_int) xe_int) (fun hb => ?_) (fun _ => ?_))
  · have h1 : b.1 < 0 := of_decide_eq_true hb
    have h2 : 0 < b.1 := h0
    omega
  · refine xb_nil ?_
    refine xb_one (xs_ret (xe_call (F_cut.mono (by decide)) (fun _ => hr) ⟨(_, _), ⟨Int.mul_pos ha.1 h0, lo_mul ha.2.2 hb.2.1 (by decide)⟩⟩ (xa_cons (xe_mul (ha.l1 (by decide)) (hb.l2 (by decide)) (xe_ixT rfl (xe_name (i := 0) rfl) xe_int) (xe_ixT rfl (xe_name (i := 1) rfl) xe_int)) (xa_cons (xe_mul (ha.l2 (by decide)) (hb.l1 (by decide)) (xe_ixT rfl (xe_name (i := 0) rfl) xe_int) (xe_ixT rfl (xe_name (i := 1) rfl) xe_int)) xa_nil))) rfl)
abbrev FnT_is_below (g : Pg) : Prop := Fn g "is_below" ["one", "other"] 1 (spM (α := Fr2) (fun _ => []) (fun z => [tD g.K (frD z.1.1), tD g.K (frD z.1.2)]) (fun z => tD g.K (.bool (belowM z.1.1 z.1.2))))
theorem sc_is_below : FnScope ["one", "other"] ["one", "other"] (defScope sIsBelow) := ⟨rfl, rfl, rfl, by decide +kernel, rfl, by decide +kernel, by decide +kernel⟩
theorem fn_is_below {g : Pg} (T : Tx g) : FnT_is_below g := by
  refine T.fn 9 9 (k := 0) (d := dIsBelow) rfl rfl rfl rfl rfl sc_is_below (fun _ => rfl) (fun _ _ _ _ _ _ us hl => match us, hl with | [_, _], _ => rfl) fun cdv Ar outer s H z hr => ?_
  have nd := sc_is_below.nd
  obtain ⟨⟨a, b⟩, ha, hb⟩ := z
  refine xb_one (xs_ret (xe_lt (xe_mul (ha.l1 (by decide)) (hb.l2 (by decide)) (xe_ixT rfl (xe_name (i := 0) rfl) xe_int) (xe_ixT rfl (xe_name (i := 1) rfl) xe_int)) (xe_mul (hb.l1 (by decide)) (ha.l2 (by decide)) (xe_ixT rfl (xe_name (i := 1) rfl) xe_int) (xe_ixT rfl (xe_name (i := 0) rfl) xe_int))) rfl)
abbrev FrL := {l : List (Int × Int) // (∀ p ∈ l, FB 40 p) ∧ l.length ≤ 20}
abbrev FnT_sum_of (g : Pg) : Prop := Fn g "sum_of" ["some"] 4 (spM (α := FrL) (fun _ => []) (fun z => [tD g.K (.list (z.1.map frD))]) (fun z => tD g.K (frD (sumM z.1))))
theorem sc_sum_of : FnScope ["some", "found", "one"] ["some"] (defScope sSumOf) := ⟨rfl, rfl, rfl, by decide +kernel, rfl, by decide +kernel, by decide +kernel⟩
theorem map_get {α β : Type} {l : List α} {f : α → β} {n : Nat} {d : β} (h : (l.map f)[n]? = some d) : ∃ b, l[n]? = some b ∧ d = f b := by
  rw [List.getElem?_map] at h
  cases e : l[n]? with
  | none => rw [e] at h; cases h
  | some b => rw [e] at h; exact ⟨b, rfl, (Option.some.inj h).symm⟩
theorem fold_more {α β : Type} {l : List α} {f : β → α → β} {a : β} {n : Nat} {b : α} (h : l[n]? = some b) : (l.take (n + 1)).foldl f a = f ((l.take n).foldl f a) b := by
  rw [take_more h, List.foldl_append]
  rfl
theorem fn_sum_of {g : Pg} (T : Tx g) (F_plus : FnT_plus g) : FnT_sum_of g := by
  refine T.fn 10 10 (k := 3) (d := dSumOf) rfl rfl rfl rfl rfl sc_sum_of (fun _ => rfl) (fun _ _ _ _ _ _ us hl => match us, hl with | [_], _ => rfl) fun cdv Ar outer s H z hr => ?_
  have nd := sc_sum_of.nd
  obtain ⟨l, hl, hz⟩ := z
  refine xb_cons (xs_set 1 (T := tD g.K (frD (0, 1))) (xe_gref (T.glo 88 rfl) T.tup.1) ?_ nd)
  refine xb_cons (xs_forL (l.map frD) (fun n => ⟨[some (tD g.K (.list (l.map frD))), some (tD g.K (frD (sumM (l.take n)))), none], [], []⟩) (fun n d => [some (tD g.K (.list (l.map frD))), some (tD g.K (frD (sumM (l.take n)))), some (tD g.K d)]) (xe_name (i := 0) rfl) ⟨Le.refl _, rfl, rfl⟩ (fun n d hd => (xg_name 2)) (fun n d hd => ?_) ?_ (fun jj => pg_nm 2 jj nd))
  · obtain ⟨b, hb, rfl⟩ := map_get hd
    have h1 : FB 40 b := hl b (List.mem_of_getElem? hb)
    have h2 : FB 1000 (sumM (l.take n)) := (sum_fb (n := 40) fun p hp => hl p (List.mem_of_mem_take hp)).mono (by
      rw [List.length_take]
      omega)
    refine xb_one (xs_set 1 (T := tD g.K (frD (sumM (l.take (n + 1))))) ((xe_call (F_plus.mono (by decide)) (fun _ => hr) ⟨(_, _), ⟨h2, h1.mono (by decide)⟩⟩ (xa_cons (xe_name (i := 1) rfl) (xa_cons (xe_name (i := 2) rfl) xa_nil))).toD (by unfold sumM; rw [fold_more hb])) ⟨.is (.is (.no .nil)), rfl, rfl⟩ nd)
  · refine xb_one (xs_ret (T := tD g.K (frD (sumM l))) (XE.toD (xe_name (i := 1) rfl) ?_) rfl)
    rw [List.length_map, List.take_length]
end Pf
end
section
set_option Elab.async false
set_option linter.all false
set_option maxRecDepth 100000
set_option maxHeartbeats 2000000
namespace Pf
open PySem PySem.Spec PyProof.Rows L2 RZ
theorem walk_zipT' {K : PySem.W.Frag} {a b : Addr} {xs ys : List V} {n : Nat} (hn : n = min xs.length ys.length) : Walk (ItzT K a b) n (fun H => SqT K H a xs ∧ SqT K H b ys) (YPair (fun i => xs[i]?) (fun i => ys[i]?)) := by
  subst hn
  refine ⟨fun i _ hi w => ?_, fun _ w => ⟨xs, ys, w.1, w.2, by omega⟩, fun i H v H' _ w z => ?_⟩
  · have l1 : i < xs.length := by omega
    have l2 : i < ys.length := by omega
    exact ⟨xs, ys, xs[i], ys[i], w.1, w.2, by simp [l1], by simp [l2]⟩
  · obtain ⟨T, x, z, z1, z2, z3, z4, z5⟩ := z
    exact ⟨T, x, z, z1, z2, z3, z4 xs w.1, z5 ys w.2⟩
section
variable {g : Pg} {C : Ct} {q q' : Sta} {P : Po} {e a b c o tg iter elt : Expr} {es ifs : List Expr} {st : Stmt} {sts rest body : List Stmt} {pos p p2 apos cpos : Pos} {T Ta Tb : Ty} {Ts : List Ty} {x : Str} {i j : Nat} {M : Ml} {δ δ' : Sd} {ts vs : List Nat} {t : TG} {scope : Scope} {own : List (Str × Nat)} {wi : TI} {tt : TT} {te : TE}
theorem lc_ex {Z : Addr → Bool} {D : Addr} {H1 H' : Hp} (A1 : Amb Z M H1) (hD : H1 D = none) (w : ∀ a o, H1 a = some o → inM M a = false → H' a = some o) : Ex (out (Zm Z M) H1) (out (Zm (Zd Z D) M) H') := (zd_add (o := .lst []) A1 hD).trans (out_mono (fun _ z => .inl z) fun a o z e => by
    have z1 : inM M a = false := by
      unfold Zm at z
      rw [Bool.or_eq_false_iff] at z
      exact z.2
    have z2 : a ≠ D := fun e2 => by
      unfold Zm at z
      rw [e2, zd_self] at z
      cases z
    rw [upd_ne z2] at e
    exact w a o e z1)
/-- a comprehension over pairs that are made on the way -/
theorem lc_pairs {n : Nat} {J : It} {Z : Addr → Bool} {σ : L2.St} {H1 : Hp} {D : Addr} {Q : VK} {xs ys : List V} {ds es : List PyData} (G : Hp → Prop) (h : Nat → PyData) (f : Nat → Bool) (δc : Nat → Sd) (W : Walk J n G (YPair (fun i => xs[i]?) (fun i => ys[i]?)))
    (hG : ∀ H', (∀ a o, H1 a = some o → inM M a = false → H' a = some o) → Ex (out (Zm Z M) H1) (out (Zm (Zd Z D) M) H') → G H') (hx : RpAll g.K (out (Zm Z M) H1) xs ds) (hy : RpAll g.K (out (Zm Z M) H1) ys es) (hn : n < 100000) (A1 : Amb Z M H1) (hD : H1 D = none) (hs : Sl (out (Zm Z M) H1) δ σ)
    (hg : ∀ i d e, i < n → ds[i]? = some d → es[i]? = some e → XG t (tD g.K (.tuple [d, e])) (wipeD δ vs) (δc i) ts) (hts : ∀ i ∈ ts, i ∈ vs)
    (ht : ∀ i, i < n → TR M (δc i) tt (f i)) (he : ∀ i, i < n → f i = true → XR M (δc i) te (tD g.K (h i)))
    (k : ∀ v H', Fr M H1 H' → Amb Z M H' → (tD g.K (.list (((List.range n).filter f).map h))).p (out (Zm Z M) H') v → Q v H') :
    ∃ W : Nat → Nat → Hp → Prop, (∃ m, W 0 m (upd H1 D (.lst []))) ∧ ∀ i m H, W i m H →
      (J.stop i H ∧ Q (.ref D) H) ∨ (J.go i H ∧ ∃ Nx : Hp → Prop, (∀ H', Nx H' → ∃ m', m' < m ∧ W (i + 1) m' H') ∧ ∀ x H', J.yld i H x H' → t x (L2.wipe σ vs) H' fun σ2 H2 => L2.wipe σ2 vs = L2.wipe σ vs ∧ tt σ2 H2 fun b H3 =>
        if b = true then te σ2 H3 fun y H4 => ∃ acc, H4 D = some (.lst acc) ∧ acc.length < sizeLine ∧ Nx (upd H4 D (.lst (acc ++ [y]))) else Nx H3) := by
  refine lc_it W (fun m H' => LcAt g.K Z M H1 D ((((List.range n).take m).filter f).map h) H') (LcAt.start A1 hD) (fun m H' _ w => hG H' w.fr (lc_ex A1 hD w.fr)) (fun m y H' H2 hm w yy => ?_) fun H' w => ?_
  · obtain ⟨T, v1, v2, rfl, hT, rfl, e1, e2⟩ := yy
    obtain ⟨d, hd, rd⟩ := hx.at2 e1
    obtain ⟨e, he', re⟩ := hy.at2 e2
    have w2 := w.step (H' := upd H' T (.tup [v1, v2])) (Fr.of_ex (Ex.new hT)) (w.amb.new hT)
    have ex := lc_ex A1 hD w2.fr
    have tp : (tD g.K (.tuple [d, e])).p (out (Zm (Zd Z D) M) (upd H' T (.tup [v1, v2]))) (.ref T) := .tup (SqT.of (w.amb.got hT)) (.cons (rd.mono ex) (.cons (re.mono ex) .nil))
    have er : (List.range n)[m]? = some m := by rw [List.getElem?_range hm]
    refine hg m d e hm hd he' _ _ _ (L2.wipe σ vs) _ out_sub tp (Sl.wipe (hs.mono ex) vs) fun σ2 s2 ww => ⟨by rw [ww vs hts, wipe_idem], ?_⟩
    exact w2.turn s2 (ht m hm) (he m hm) (Nat.lt_of_le_of_lt fm_len (by rw [List.length_range]; exact hn)) (fm_more er)
  · have e1 : (List.range n).take n = List.range n := by
      rw [List.take_of_length_le]
      rw [List.length_range]
      exact Nat.le_refl _
    rw [e1] at w
    obtain ⟨r1, r2, r3⟩ := w.fin A1
    exact k _ H' r1 r2 r3
theorem xr_lcZL {ds es : List PyData} (n : Nat) (h : Nat → PyData) (f : Nat → Bool) (δc : Nat → Sd) (src : XA g C M δ [a, b] [tD g.K (.list ds), tD g.K (.list es)]) (hn : n = min ds.length es.length) (hz : n < 100000)
    (hg : ∀ i d e, i < n → ds[i]? = some d → es[i]? = some e → XG t (tD g.K (.tuple [d, e])) (wipeD δ vs) (δc i) ts) (hts : ∀ i ∈ ts, i ∈ vs)
    (ht : ∀ i, i < n → TR M (δc i) tt (f i)) (he : ∀ i, i < n → f i = true → XR M (δc i) te (tD g.K (h i))) : XR M δ (tLc (iZipA g.K (wA g C [a, b])) t tt te vs) (tD g.K (.list (((List.range n).filter f).map h))) := fun Z σ H hs hA Q k => by
  refine src Z σ H hs hA _ fun vv H1 f1 A1 t1 => ?_
  obtain ⟨v, w, rfl, hv, hw⟩ := al2 t1
  obtain ⟨l, xs, rfl, hl, hr⟩ := rp_lst hv
  obtain ⟨l', ys, rfl, hl', hr'⟩ := rp_lst hw
  refine ⟨l, l', xs, ys, rfl, .inl ⟨SqL.of (out_sub _ _ hl), SqL.of (out_sub _ _ hl'), fun D hD => ?_⟩⟩
  exact lc_pairs (n := n) (fun H => SqL g.K H l xs ∧ SqL g.K H l' ys) h f δc (walk_zip (by rw [hn, hr.length, hr'.length])) (fun H' _ ex => ⟨SqL.of (out_sub _ _ (ex _ _ hl)), SqL.of (out_sub _ _ (ex _ _ hl'))⟩) hr hr' hz A1 hD (hs.mono f1.out) hg hts ht he fun v H' f2 A2 t2 => k v H' (f1.trans f2) A2 t2
theorem xr_lcZT {ds es : List PyData} (n : Nat) (h : Nat → PyData) (f : Nat → Bool) (δc : Nat → Sd) (src : XA g C M δ [a, b] [tD g.K (.tuple ds), tD g.K (.tuple es)]) (hn : n = min ds.length es.length) (hz : n < 100000)
    (hg : ∀ i d e, i < n → ds[i]? = some d → es[i]? = some e → XG t (tD g.K (.tuple [d, e])) (wipeD δ vs) (δc i) ts) (hts : ∀ i ∈ ts, i ∈ vs)
    (ht : ∀ i, i < n → TR M (δc i) tt (f i)) (he : ∀ i, i < n → f i = true → XR M (δc i) te (tD g.K (h i))) : XR M δ (tLc (iZipA g.K (wA g C [a, b])) t tt te vs) (tD g.K (.list (((List.range n).filter f).map h))) := fun Z σ H hs hA Q k => by
  refine src Z σ H hs hA _ fun vv H1 f1 A1 t1 => ?_
  obtain ⟨v, w, rfl, hv, hw⟩ := al2 t1
  obtain ⟨l, xs, rfl, hl, hr⟩ := rp_tup hv
  obtain ⟨l', ys, rfl, hl', hr'⟩ := rp_tup hw
  refine ⟨l, l', xs, ys, rfl, .inr ⟨sqt_mono out_sub hl, sqt_mono out_sub hl', fun D hD => ?_⟩⟩
  exact lc_pairs (n := n) (fun H => SqT g.K H l xs ∧ SqT g.K H l' ys) h f δc (walk_zipT' (by rw [hn, hr.length, hr'.length])) (fun H' _ ex => ⟨sqt_mono out_sub (sqt_mono ex hl), sqt_mono out_sub (sqt_mono ex hl')⟩) hr hr' hz A1 hD (hs.mono f1.out) hg hts ht he fun v H' f2 A2 t2 => k v H' (f1.trans f2) A2 t2
/-! ### in, not in -/
theorem inV_int (i : Int) (ns : List Int) : inV (.int i) (ns.map V.int) = decide (i ∈ ns) := by
  unfold inV
  induction ns with
  | nil => rfl
  | cons n ns ih =>
    rw [List.map_cons, List.any_cons, ih]
    show ((n == i) || decide (i ∈ ns)) = _
    by_cases h : n = i
    · subst h
      simp
    · have h' : ¬ i = n := fun z => h z.symm
      simp [h, h']
theorem flat_ints (ns : List Int) : (ns.map V.int).all flatV = true := by
  rw [List.all_map]
  exact List.all_eq_true.mpr fun _ _ => rfl
theorem hInT {ns : List Int} {i : Int} {neg : Bool} {Q : VK} {B H : Hp} {x y : V} (ex : Ex B H) (hx : (tD g.K (.int i)).p B x) (hy : (tD g.K (.tuple (ns.map .int))).p B y) (q : Q (.bl (if neg then !decide (i ∈ ns) else decide (i ∈ ns))) H) : rIn g.K neg x y H Q := by
  obtain ⟨a, xs, rfl, h1, r1⟩ := rp_tup hy
  rw [rp_int hx]
  have e := rp_ints r1
  subst e
  exact ⟨a, _, rfl, .inr (sqt_mono ex h1), rfl, flat_ints ns, by rw [inV_int]; exact q⟩
theorem hInL {ns : List Int} {i : Int} {neg : Bool} {Q : VK} {B H : Hp} {x y : V} (ex : Ex B H) (hx : (tD g.K (.int i)).p B x) (hy : (tD g.K (.list (ns.map .int))).p B y) (q : Q (.bl (if neg then !decide (i ∈ ns) else decide (i ∈ ns))) H) : rIn g.K neg x y H Q := by
  obtain ⟨a, xs, rfl, h1, r1⟩ := rp_lst hy
  rw [rp_int hx]
  have e := rp_ints r1
  subst e
  exact ⟨a, _, rfl, .inl (SqL.of (ex _ _ h1)), rfl, flat_ints ns, by rw [inV_int]; exact q⟩
variable {ii : Int} {ns : List Int}
theorem xt_inIT (ha : XE g C M δ a (tD g.K (.int ii))) (hb : XE g C M δ b (tD g.K (.tuple (ns.map .int)))) (hm : behindInMarks .In b = false := by rfl) : XT g C M δ (.Compare a [.In] [b] pos) (decide (ii ∈ ns)) := xt_cmpV (r := rIn g.K false) (fun j => op_in_seq (X := C.X g j)) (fun B H x y Q ex hx hy q => hInT ex hx hy q) ha hb hm
theorem xt_niIT (ha : XE g C M δ a (tD g.K (.int ii))) (hb : XE g C M δ b (tD g.K (.tuple (ns.map .int)))) (hm : behindInMarks .NotIn b = false := by rfl) : XT g C M δ (.Compare a [.NotIn] [b] pos) (!decide (ii ∈ ns)) := xt_cmpV (r := rIn g.K true) (fun j => op_notIn_seq (X := C.X g j)) (fun B H x y Q ex hx hy q => hInT ex hx hy q) ha hb hm
theorem xt_inIL (ha : XE g C M δ a (tD g.K (.int ii))) (hb : XE g C M δ b (tD g.K (.list (ns.map .int)))) (hm : behindInMarks .In b = false := by rfl) : XT g C M δ (.Compare a [.In] [b] pos) (decide (ii ∈ ns)) := xt_cmpV (r := rIn g.K false) (fun j => op_in_seq (X := C.X g j)) (fun B H x y Q ex hx hy q => hInL ex hx hy q) ha hb hm
theorem xt_niIL (ha : XE g C M δ a (tD g.K (.int ii))) (hb : XE g C M δ b (tD g.K (.list (ns.map .int)))) (hm : behindInMarks .NotIn b = false := by rfl) : XT g C M δ (.Compare a [.NotIn] [b] pos) (!decide (ii ∈ ns)) := xt_cmpV (r := rIn g.K true) (fun j => op_notIn_seq (X := C.X g j)) (fun B H x y Q ex hx hy q => hInL ex hx hy q) ha hb hm
theorem xe_inIT (ha : XE g C M δ a (tD g.K (.int ii))) (hb : XE g C M δ b (tD g.K (.tuple (ns.map .int)))) (hm : behindInMarks .In b = false := by rfl) : XE g C M δ (.Compare a [.In] [b] pos) (tD g.K (.bool (decide (ii ∈ ns)))) := xe_cmpV (r := rIn g.K false) (fun j => op_in_seq (X := C.X g j)) (fun B H x y Q ex hx hy => ⟨_, .bl _, fun q => hInT ex hx hy q⟩) ha hb hm
theorem xe_niIT (ha : XE g C M δ a (tD g.K (.int ii))) (hb : XE g C M δ b (tD g.K (.tuple (ns.map .int)))) (hm : behindInMarks .NotIn b = false := by rfl) : XE g C M δ (.Compare a [.NotIn] [b] pos) (tD g.K (.bool (!decide (ii ∈ ns)))) := xe_cmpV (r := rIn g.K true) (fun j => op_notIn_seq (X := C.X g j)) (fun B H x y Q ex hx hy => ⟨_, .bl _, fun q => hInT ex hx hy q⟩) ha hb hm
theorem xe_inIL (ha : XE g C M δ a (tD g.K (.int ii))) (hb : XE g C M δ b (tD g.K (.list (ns.map .int)))) (hm : behindInMarks .In b = false := by rfl) : XE g C M δ (.Compare a [.In] [b] pos) (tD g.K (.bool (decide (ii ∈ ns)))) := xe_cmpV (r := rIn g.K false) (fun j => op_in_seq (X := C.X g j)) (fun B H x y Q ex hx hy => ⟨_, .bl _, fun q => hInL ex hx hy q⟩) ha hb hm
/-- any data in a list of data -/
theorem xt_niDL {d : PyData} {ds : List PyData} {n : Nat} (hr : ∀ j, Room n (C.A j)) (sd : SeqAt.shaped d = true) (sl : SeqAt.shaped (.list ds) = true) (ha : XE g C M δ a (tD g.K d)) (hb : XE g C M δ b (tD g.K (.list ds))) (hm : behindInMarks .NotIn b = false := by rfl) :
    XT g C M δ (.Compare a [.NotIn] [b] pos) (!ds.any fun z => PyData.eqv z d) := xt_cmpV (r := rNotInD g.K) (fun j => op_notInD (X := C.X g j) (by have := (hr j).un; show (C.A j).units + 65 < cLine; omega)) (fun B H x y Q ex hx hy q => ⟨d, ds, (hx.mono ex).dp, (hy.mono ex).dp, sd, sl, q⟩) ha hb hm
/-- a text in a tuple of texts -/
theorem xt_niST {s : Str} {ss : List Str} (ha : XE g C M δ a (tD g.K (.str s))) (hb : XE g C M δ b (tD g.K (.tuple (ss.map .str)))) (hm : behindInMarks .NotIn b = false := by rfl) : XT g C M δ (.Compare a [.NotIn] [b] pos) (!inV (.str s) (ss.map V.str)) :=
  xt_cmpV (r := rIn g.K true) (fun j => op_notIn_seq (X := C.X g j)) (fun B H x y Q ex hx hy q => by
    obtain ⟨a, xs, rfl, h1, r1⟩ := rp_tup hy
    rw [rp_str hx]
    have e : xs = ss.map V.str := by
      have key : ∀ {vs : List V} {ss : List Str}, RpAll g.K B vs (ss.map PyData.str) → vs = ss.map V.str := by
        intro vs ss
        induction ss generalizing vs with
        | nil => intro h; cases h; rfl
        | cons s ss ih =>
          intro h
          cases h with
          | cons h r => rw [rp_str h, ih r]; rfl
      exact key r1
    subst e
    exact ⟨a, _, rfl, .inr (sqt_mono ex h1), rfl, flat_strs ss, q⟩) ha hb hm
/-! ### index -/
/-- a tuple of numbers whose very object is known (so it has no dict of its own) -/
def tRs (K : PySem.W.Frag) (ns : List Int) : Ty := ⟨fun H v => ∃ p ob, v = .ref p ∧ H p = some (.frz ob (.tup (ns.map V.int))) ∧ ob.dict = none, fun e ⟨p, ob, h1, h2, h3⟩ => ⟨p, ob, h1, e _ _ h2, h3⟩⟩
theorem tRs_d {K : PySem.W.Frag} {ns : List Int} : ∀ B v, (tRs K ns).p B v → (tD K (.tuple (ns.map .int))).p B v := fun B v ⟨p, ob, h1, h2, h3⟩ => by
  subst h1
  exact .tup (.inl (.inr ⟨ob, h2⟩)) (rp_of_ints ns)
/-- tuple + tuple, both not empty -/
theorem xe_catF {ns ms : List Int} (h1 : ns ≠ []) (h2 : ms ≠ []) (hz : ns.length + ms.length ≤ 100000) (ha : XE g C M δ a (tD g.K (.tuple (ns.map .int)))) (hb : XE g C M δ b (tD g.K (.tuple (ms.map .int)))) : XE g C M δ (.BinOp a .Add b pos) (tRs g.K (ns ++ ms)) := fun Z σ H hs hA Q k => by
  refine w_pe (t := tOp (rCatF g.K) (wE g C a) (wE g C b)) ?_ fun i => pe_op (op_catF (X := C.X g i)) (pe_w i) (pe_w i)
  refine two ha hb hs hA _ fun x y H' f A tx ty => ?_
  obtain ⟨p, xs, rfl, l1, r1⟩ := rp_tup tx
  obtain ⟨q, ys, rfl, l2, r2⟩ := rp_tup ty
  have e1 := rp_ints r1
  have e2 := rp_ints r2
  subst e1 e2
  refine ⟨p, q, _, _, rfl, rfl, sqt_mono out_sub l1, sqt_mono out_sub l2, fun z => h1 (List.map_eq_nil_iff.mp z), fun z => h2 (List.map_eq_nil_iff.mp z), sz6 (by rw [List.length_map, List.length_map]; exact hz), fun p ob hd hp => k _ _ (f.trans (Fr.of_ex (Ex.new hp))) (A.new hp) ⟨p, ob, rfl, ?_, hd⟩⟩
  rw [List.map_append]
  exact A.got hp
theorem xe_indexT {n : Nat} (h1 : ns[n]? = some ii) (h2 : ∀ m, m < n → ns[m]? ≠ some ii) (ha : XE g C M δ a (tRs g.K ns)) (hb : XE g C M δ b (tD g.K (.int ii)))
    (hbase : ∀ j, attributeBase a "index" (C.env j) (eval a (C.env j)) = eval a (C.env j) := by intro _; rfl)
    (hfew : ∀ j, ((backTo cpos (starEach [b] (C.env j))).all (fun x => !x.1) && (backToKw cpos (keywordEach [] (C.env j))).all (fun x => x.1.isSome) && decide (([b] : List Expr).length + ([] : List Keyword).length + (if ([] : List Keyword).isEmpty then 0 else 1) < 30)) = true := by intro _; rfl)
    (hline : (apos.endLine == cpos.line) = true := by rfl) (he : ∀ j, starEach [b] (C.env j) = (false, eval b (C.env j)) :: starEach [] (C.env j) := by intro _; rfl) (hpl : ∀ j, (backTo cpos (starEach [] (C.env j))).any (·.1) = false := by intro _; rfl) :
    XE g C M δ (.Call (.Attribute a "index" apos) [b] [] cpos) (tD g.K (.int n)) := fun Z σ H hsl hA Q kk => by
  refine w_pe (t := tTupIx g.K (wE g C a) (wA g C [b])) ?_ fun j => pe_tupIx (X := C.X g j) (pe_w j) (pa_w j) (hbase j) (hfew j) hline (he j) (hpl j)
  refine ha Z σ H hsl hA _ fun v H1 f1 A1 t1 => ?_
  obtain ⟨l, ob, rfl, hl, hd⟩ := t1
  refine ⟨l, ob, ns, rfl, out_sub _ _ hl, hd, xa_cons hb xa_nil he Z σ H1 (hsl.mono f1.out) A1 _ fun vs H2 f2 A2 t2 => ?_⟩
  obtain ⟨w, rfl, hw⟩ := al1 t2
  exact ⟨ii, n, by rw [rp_int hw], out_sub _ _ (f2.out _ _ hl), h1, h2, kk _ H2 (f1.trans f2) A2 (.int _)⟩
theorem xe_indexL {n : Nat} (h1 : ns[n]? = some ii) (h2 : ∀ m, m < n → ns[m]? ≠ some ii) (ha : XE g C M δ a (tD g.K (.list (ns.map .int)))) (hb : XE g C M δ b (tD g.K (.int ii)))
    (hbase : ∀ j, attributeBase a "index" (C.env j) (eval a (C.env j)) = eval a (C.env j) := by intro _; rfl)
    (hfew : ∀ j, ((backTo cpos (starEach [b] (C.env j))).all (fun x => !x.1) && (backToKw cpos (keywordEach [] (C.env j))).all (fun x => x.1.isSome) && decide (([b] : List Expr).length + ([] : List Keyword).length + (if ([] : List Keyword).isEmpty then 0 else 1) < 30)) = true := by intro _; rfl)
    (hline : (apos.endLine == cpos.line) = true := by rfl) (he : ∀ j, starEach [b] (C.env j) = (false, eval b (C.env j)) :: starEach [] (C.env j) := by intro _; rfl) (hpl : ∀ j, (backTo cpos (starEach [] (C.env j))).any (·.1) = false := by intro _; rfl) :
    XE g C M δ (.Call (.Attribute a "index" apos) [b] [] cpos) (tD g.K (.int n)) := fun Z σ H hsl hA Q kk => by
  refine w_pe (t := tBM g.K "list" (rIndex g.K) (wE g C a) (tCons (wE g C b) tNil)) ?_ fun j => pe_bm (X := C.X g j) PySem.F.plainAttrs_list PySem.F.slot_list_index PySem.F.type_list_index (mt_index (X := C.X g j)) (pe_w j) (pa_cons (pe_w j) pa_nil (he j)) (hbase j) (hfew j) hline (he j) (hpl j)
  refine ha Z σ H hsl hA _ fun v H1 f1 A1 t1 => ?_
  obtain ⟨l, xs, rfl, hl, hr⟩ := rp_lst t1
  have e := rp_ints hr
  subst e
  refine ⟨.inl ⟨rfl, _, SqL.of (out_sub _ _ hl)⟩, hb Z σ H1 (hsl.mono f1.out) A1 _ fun w H2 f2 A2 t2 => ⟨l, _, .int ii, n, .int ii, rfl, by rw [rp_int t2], SqL.of (out_sub _ _ (f2.out _ _ hl)), rfl, flat_ints ns, by rw [List.getElem?_map, h1]; rfl, by show (ii == ii) = true; simp, fun m z hm hz => ?_, kk _ H2 (f1.trans f2) A2 (.int _)⟩⟩
  obtain ⟨y, hy, rfl⟩ : ∃ y, ns[m]? = some y ∧ z = V.int y := by
    rw [List.getElem?_map] at hz
    cases e : ns[m]? with
    | none => rw [e] at hz; cases hz
    | some y => rw [e] at hz; exact ⟨y, rfl, (Option.some.inj hz).symm⟩
  exact beq_eq_false_iff_ne.mpr fun z => h2 m hm (by rw [hy, z])
/-- tuple(range(n)) -/
theorem xe_tupRg {n : Int} (hm : g.mg "tuple" = none) (hm2 : g.mg "range" = none) (hn : 0 ≤ n ∧ n ≤ 100000) (ha : XE g C M δ a (tD g.K (.int n))) (hg : ∀ j, (C.env j).kindOf "tuple" = some .globalImplicit := by intro _; rfl) (hg2 : ∀ j, (C.env j).kindOf "range" = some .globalImplicit := by intro _; rfl)
    (he : ∀ j, starEach [a] (C.env j) = (false, eval a (C.env j)) :: starEach [] (C.env j) := by intro _; rfl) (he2 : ∀ j, starEach [.Call (.Name "range" p2) [a] [] cpos] (C.env j) = (false, eval (.Call (.Name "range" p2) [a] [] cpos) (C.env j)) :: starEach [] (C.env j) := by intro _; rfl) :
    XE g C M δ (.Call (.Name "tuple" p) [.Call (.Name "range" p2) [a] [] cpos] [] pos) (tD g.K (.tuple ((List.range n.toNat).map fun (i : Nat) => .int (i : Int)))) := fun Z σ H hsl hA Q kk => by
  refine w_pe (t := tTupRg (tRg1 (wE g C a))) ?_ fun j => pe_tupRg (X := C.X g j) rfl (hg j) hm (prg_1 (hg2 j) hm2 (pe_w j) (he j)) (he2 j)
  refine ha Z σ H hsl hA _ fun v H1 f1 A1 t1 => ⟨n, rp_int t1, RgOk.of_le (by omega) (by omega) (by omega) (by omega), fun q hq => kk _ _ (f1.trans (Fr.of_ex (Ex.new hq))) (A1.new hq) (.tup (SqT.of (A1.got hq)) ?_)⟩
  have key : ∀ (B : Hp) (l : List Nat), RpAll g.K B (l.map fun (i : Nat) => V.int (0 + (i : Int))) (l.map fun (i : Nat) => PyData.int (i : Int)) := by
    intro B l
    induction l with
    | nil => exact .nil
    | cons i l ih =>
      refine .cons ?_ ih
      show Rp g.K B (.int (0 + (i : Int))) (.int (i : Int))
      rw [Int.zero_add]
      exact .int _
  have e : rgV 0 n = (List.range n.toNat).map fun (i : Nat) => V.int (0 + (i : Int)) := by unfold rgV; rw [Int.sub_zero]
  have k2 := key (out (Zm Z M) (upd H1 q (.tup (rgV 0 n)))) (List.range n.toNat)
  rw [← e] at k2
  exact k2
end
end Pf
end
section
set_option Elab.async false
set_option linter.all false
set_option maxRecDepth 100000
set_option maxHeartbeats 2000000
namespace Pf
open PySem PySem.Spec PyProof.Rows L2 RZ
section
variable {g : Pg} {C : Ct} {q q' : Sta} {P : Po} {e a b c o tg iter elt : Expr} {es ifs : List Expr} {st : Stmt} {sts rest body : List Stmt} {pos p p2 apos cpos : Pos} {T Ta Tb : Ty} {Ts : List Ty} {x : Str} {i j : Nat} {M : Ml} {δ δ' : Sd} {ts vs : List Nat} {t : TG} {scope : Scope} {own : List (Str × Nat)} {tt : TT} {te : TE} {β γ : Type}
theorem zip_at {l : List β} {l' : List γ} {i : Nat} {b : β} {c : γ} (h1 : l[i]? = some b) (h2 : l'[i]? = some c) : (l.zip l')[i]? = some (b, c) := by
  rw [List.getElem?_zip_eq_some]
  exact ⟨h1, h2⟩
/-- a comprehension over zip(x, y), by pairs -/
theorem lc_zip {n : Nat} {J : It} {Z : Addr → Bool} {σ : L2.St} {H1 : Hp} {D : Addr} {Q : VK} {xs ys : List V} {l : List β} {l' : List γ} {enc : β → PyData} {enc' : γ → PyData} (G : Hp → Prop) (h : β × γ → PyData) (f : β × γ → Bool) (δc : β × γ → Sd) (W : Walk J n G (YPair (fun i => xs[i]?) (fun i => ys[i]?)))
    (hG : ∀ H', (∀ a o, H1 a = some o → inM M a = false → H' a = some o) → Ex (out (Zm Z M) H1) (out (Zm (Zd Z D) M) H') → G H') (hx : RpAll g.K (out (Zm Z M) H1) xs (l.map enc)) (hy : RpAll g.K (out (Zm Z M) H1) ys (l'.map enc')) (hl : n = (l.zip l').length) (hn : n < 100000) (A1 : Amb Z M H1) (hD : H1 D = none) (hs : Sl (out (Zm Z M) H1) δ σ)
    (hg : ∀ b ∈ l.zip l', XG t (tD g.K (.tuple [enc b.1, enc' b.2])) (wipeD δ vs) (δc b) ts) (hts : ∀ i ∈ ts, i ∈ vs)
    (ht : ∀ b ∈ l.zip l', TR M (δc b) tt (f b)) (he : ∀ b ∈ l.zip l', f b = true → XR M (δc b) te (tD g.K (h b)))
    (k : ∀ v H', Fr M H1 H' → Amb Z M H' → (tD g.K (.list (((l.zip l').filter f).map h))).p (out (Zm Z M) H') v → Q v H') :
    ∃ W : Nat → Nat → Hp → Prop, (∃ m, W 0 m (upd H1 D (.lst []))) ∧ ∀ i m H, W i m H →
      (J.stop i H ∧ Q (.ref D) H) ∨ (J.go i H ∧ ∃ Nx : Hp → Prop, (∀ H', Nx H' → ∃ m', m' < m ∧ W (i + 1) m' H') ∧ ∀ x H', J.yld i H x H' → t x (L2.wipe σ vs) H' fun σ2 H2 => L2.wipe σ2 vs = L2.wipe σ vs ∧ tt σ2 H2 fun b H3 =>
        if b = true then te σ2 H3 fun y H4 => ∃ acc, H4 D = some (.lst acc) ∧ acc.length < sizeLine ∧ Nx (upd H4 D (.lst (acc ++ [y]))) else Nx H3) := by
  refine lc_it W (fun m H' => LcAt g.K Z M H1 D ((((l.zip l').take m).filter f).map h) H') (LcAt.start A1 hD) (fun m H' _ w => hG H' w.fr (lc_ex A1 hD w.fr)) (fun m y H' H2 hm w yy => ?_) fun H' w => ?_
  · obtain ⟨T, v1, v2, rfl, hT, rfl, e1, e2⟩ := yy
    obtain ⟨d, hd, rd⟩ := hx.at2 e1
    obtain ⟨e, he', re⟩ := hy.at2 e2
    obtain ⟨b, hb, rfl⟩ : ∃ b, l[m]? = some b ∧ d = enc b := by
      rw [List.getElem?_map] at hd
      cases e : l[m]? with
      | none => rw [e] at hd; cases hd
      | some b => rw [e] at hd; exact ⟨b, rfl, (Option.some.inj hd).symm⟩
    obtain ⟨c, hc, rfl⟩ : ∃ b, l'[m]? = some b ∧ e = enc' b := by
      rw [List.getElem?_map] at he'
      cases e : l'[m]? with
      | none => rw [e] at he'; cases he'
      | some b => rw [e] at he'; exact ⟨b, rfl, (Option.some.inj he').symm⟩
    have er := zip_at hb hc
    have mm := List.mem_of_getElem? er
    have w2 := w.step (H' := upd H' T (.tup [v1, v2])) (Fr.of_ex (Ex.new hT)) (w.amb.new hT)
    have ex := lc_ex A1 hD w2.fr
    have tp : (tD g.K (.tuple [enc b, enc' c])).p (out (Zm (Zd Z D) M) (upd H' T (.tup [v1, v2]))) (.ref T) := .tup (SqT.of (w.amb.got hT)) (.cons (rd.mono ex) (.cons (re.mono ex) .nil))
    refine hg _ mm _ _ _ (L2.wipe σ vs) _ out_sub tp (Sl.wipe (hs.mono ex) vs) fun σ2 s2 ww => ⟨by rw [ww vs hts, wipe_idem], ?_⟩
    exact w2.turn s2 (ht _ mm) (he _ mm) (Nat.lt_of_le_of_lt fm_len (by omega)) (fm_more er)
  · rw [hl, List.take_length] at w
    obtain ⟨r1, r2, r3⟩ := w.fin A1
    exact k _ H' r1 r2 r3
theorem xr_zipL (l : List β) (l' : List γ) (enc : β → PyData) (enc' : γ → PyData) (h : β × γ → PyData) (f : β × γ → Bool) (δc : β × γ → Sd) (src : XA g C M δ [a, b] [tD g.K (.list (l.map enc)), tD g.K (.list (l'.map enc'))]) (hz : l.length < 100000)
    (hg : ∀ b ∈ l.zip l', XG t (tD g.K (.tuple [enc b.1, enc' b.2])) (wipeD δ vs) (δc b) ts) (hts : ∀ i ∈ ts, i ∈ vs)
    (ht : ∀ b ∈ l.zip l', TR M (δc b) tt (f b)) (he : ∀ b ∈ l.zip l', f b = true → XR M (δc b) te (tD g.K (h b))) : XR M δ (tLc (iZipA g.K (wA g C [a, b])) t tt te vs) (tD g.K (.list (((l.zip l').filter f).map h))) := fun Z σ H hs hA Q k => by
  refine src Z σ H hs hA _ fun vv H1 f1 A1 t1 => ?_
  obtain ⟨v, w, rfl, hv, hw⟩ := al2 t1
  obtain ⟨m, xs, rfl, hl, hr⟩ := rp_lst hv
  obtain ⟨m', ys, rfl, hl', hr'⟩ := rp_lst hw
  have e1 := hr.length
  have e2 := hr'.length
  rw [List.length_map] at e1 e2
  refine ⟨m, m', xs, ys, rfl, .inl ⟨SqL.of (out_sub _ _ hl), SqL.of (out_sub _ _ hl'), fun D hD => ?_⟩⟩
  exact lc_zip (fun H => SqL g.K H m xs ∧ SqL g.K H m' ys) h f δc (walk_zip rfl) (fun H' _ ex => ⟨SqL.of (out_sub _ _ (ex _ _ hl)), SqL.of (out_sub _ _ (ex _ _ hl'))⟩) hr hr' (by rw [List.length_zip, e1, e2]) (by omega) A1 hD (hs.mono f1.out) hg hts ht he fun v H' f2 A2 t2 => k v H' (f1.trans f2) A2 t2
theorem xr_zipT (l : List β) (l' : List γ) (enc : β → PyData) (enc' : γ → PyData) (h : β × γ → PyData) (f : β × γ → Bool) (δc : β × γ → Sd) (src : XA g C M δ [a, b] [tD g.K (.tuple (l.map enc)), tD g.K (.tuple (l'.map enc'))]) (hz : l.length < 100000)
    (hg : ∀ b ∈ l.zip l', XG t (tD g.K (.tuple [enc b.1, enc' b.2])) (wipeD δ vs) (δc b) ts) (hts : ∀ i ∈ ts, i ∈ vs)
    (ht : ∀ b ∈ l.zip l', TR M (δc b) tt (f b)) (he : ∀ b ∈ l.zip l', f b = true → XR M (δc b) te (tD g.K (h b))) : XR M δ (tLc (iZipA g.K (wA g C [a, b])) t tt te vs) (tD g.K (.list (((l.zip l').filter f).map h))) := fun Z σ H hs hA Q k => by
  refine src Z σ H hs hA _ fun vv H1 f1 A1 t1 => ?_
  obtain ⟨v, w, rfl, hv, hw⟩ := al2 t1
  obtain ⟨m, xs, rfl, hl, hr⟩ := rp_tup hv
  obtain ⟨m', ys, rfl, hl', hr'⟩ := rp_tup hw
  have e1 := hr.length
  have e2 := hr'.length
  rw [List.length_map] at e1 e2
  refine ⟨m, m', xs, ys, rfl, .inr ⟨sqt_mono out_sub hl, sqt_mono out_sub hl', fun D hD => ?_⟩⟩
  exact lc_zip (fun H => SqT g.K H m xs ∧ SqT g.K H m' ys) h f δc (walk_zipT' rfl) (fun H' _ ex => ⟨sqt_mono out_sub (sqt_mono ex hl), sqt_mono out_sub (sqt_mono ex hl')⟩) hr hr' (by rw [List.length_zip, e1, e2]) (by omega) A1 hD (hs.mono f1.out) hg hts ht he fun v H' f2 A2 t2 => k v H' (f1.trans f2) A2 t2
theorem ftrue (l : List β) : (l.filter fun _ => true) = l := List.filter_eq_self.mpr fun _ _ => rfl
/-- [test for ..]: its truths -/
theorem lcB (l : List β) (p : β → Bool) : PyData.list ((l.filter fun _ => true).map fun b => .bool (p b)) = .list ((l.map p).map .bool) := by
  rw [ftrue, List.map_map]
  rfl
theorem lcY (l : List β) (h : β → PyData) : PyData.list ((l.filter fun _ => true).map h) = .list (l.map h) := by rw [ftrue]
theorem allB (l : List β) (p : β → Bool) : (l.map p).all id = l.all p := by rw [List.all_map]; rfl
end
end Pf
end
section
set_option Elab.async false
set_option linter.all false
set_option maxRecDepth 100000
set_option maxHeartbeats 2000000
namespace Pf
open PySem PySem.Spec PyProof.Rows L2
/-! ### planks and weights, as data -/
def ascB (l : List Int) : Bool := (l.zip (l.drop 1)).all fun p => decide (p.1 < p.2)
def FrOk (n : Nat) (p : Int × Int) : Prop := FB n p ∧ Int.gcd p.1 p.2 = 1
structure Wd where
  len : Int
  props : List (Int × (Int × Int))
  wts : List ((Int × Int) × (Int × Int))
def propD (p : Int × (Int × Int)) : PyData := .tuple [.int p.1, frD p.2]
def wtD (w : (Int × Int) × (Int × Int)) : PyData := .tuple [frD w.1, frD w.2]
structure WOk (W : Wd) : Prop where
  l2 : 2 ≤ W.len
  l3 : W.len ≤ 1000
  p12 : W.props.length ≤ 12
  asc : ascB (W.props.map (·.1)) = true
  pin : ∀ p ∈ W.props, 0 < p.1 ∧ p.1 < W.len
  str : ∀ p ∈ W.props, FrOk 6 p.2 ∧ 0 ≤ p.2.1
  w20 : W.wts.length ≤ 20
  sp : ∀ w ∈ W.wts, FrOk 12 w.1 ∧ 0 ≤ w.1.1 ∧ w.1.1 ≤ W.len * w.1.2
  wt : ∀ w ∈ W.wts, FrOk 5 w.2 ∧ 0 < w.2.1
abbrev WT := {W : Wd // WOk W}
def tPlank (g : Pg) (W : Wd) : Ty := ⟨fun H v => ∃ q dx sv, v = .ref q ∧ H q = some (.ins (He.ga g.K "Plank") dx [("long", .int W.len), ("stakes", sv), ("limit", .non)]) ∧ Rp g.K H sv (.tuple (W.props.map propD)),
  fun e ⟨q, dx, sv, h1, h2, h3⟩ => ⟨q, dx, sv, h1, e _ _ h2, h3.mono e⟩⟩
section
variable {g : Pg} {C : Ct} {M : Ml} {δ : Sd} {a : Expr} {pos : Pos} {W : Wd}
theorem Tx.cls (T : Tx g) {x : Str} (j : Nat) (h : faL[j]? = some (.cls x)) : Cls g.K (He.ga g.K x) := He.cls_ok (T.says.fact j h)
theorem Tx.noat (T : Tx g) {x f : Str} (j : Nat) (h : faL[j]? = some (.noat x f)) : NoAttr g.K (He.ga g.K x) f := He.noat_ok (T.says.fact j h)
theorem Tx.clP (T : Tx g) : Cls g.K (He.ga g.K "Plank") := T.cls 56 rfl
theorem fld_plank_long (T : Tx g) (ha : XE g C M δ a (tPlank g W)) (hb : ∀ j, attributeBase a "long" (C.env j) (eval a (C.env j)) = eval a (C.env j) := by intro _; rfl) : XE g C M δ (.Attribute a "long" pos) (tD g.K (.int W.len)) :=
  xe_fld (Ta := tPlank g W) (K0 := g.K) T.clP (T.noat 64 rfl) (fun B v ⟨q, dx, sv, h1, h2, h3⟩ => ⟨q, dx, _, _, h1, h2, rfl, .int _⟩) ha hb
theorem fld_plank_stakes (T : Tx g) (ha : XE g C M δ a (tPlank g W)) (hb : ∀ j, attributeBase a "stakes" (C.env j) (eval a (C.env j)) = eval a (C.env j) := by intro _; rfl) : XE g C M δ (.Attribute a "stakes" pos) (tD g.K (.tuple (W.props.map propD))) :=
  xe_fld (Ta := tPlank g W) (K0 := g.K) T.clP (T.noat 65 rfl) (fun B v ⟨q, dx, sv, h1, h2, h3⟩ => ⟨q, dx, _, sv, h1, h2, rfl, h3⟩) ha hb
theorem plank_at {m : Str} (h : m ≠ "long" ∧ m ≠ "stakes" ∧ m ≠ "limit") : ∀ B v, (tPlank g W).p B v → ∃ q dx fs, v = .ref q ∧ B q = some (.ins (He.ga g.K "Plank") dx fs) ∧ fs.lookup m = none := fun B v ⟨q, dx, sv, h1, h2, h3⟩ => by
  refine ⟨q, dx, _, h1, h2, ?_⟩
  simp only [List.lookup, beq_eq_false_iff_ne.mpr h.1, beq_eq_false_iff_ne.mpr h.2.1, beq_eq_false_iff_ne.mpr h.2.2]
end
theorem plank_m {g : Pg} {W : Wd} {m : Str} (h : m ≠ "long" ∧ m ≠ "stakes" ∧ m ≠ "limit" := by decide) : ∀ B v, (tPlank g W).p B v → ∃ q dx fs, v = .ref q ∧ B q = some (.ins (He.ga g.K "Plank") dx fs) ∧ fs.lookup m = none := plank_at h
end Pf
end
section
set_option Elab.async false
set_option linter.all false
set_option maxRecDepth 100000
set_option maxHeartbeats 2000000
namespace Pf
open PySem PySem.Spec PyProof.Rows L2 RZ
/-! ### keys: tuples of numbers, just made -/
def tKt (ns : List Int) : Ty := ⟨fun H v => ∃ b, v = .ref b ∧ H b = some (.tup (ns.map V.int)), fun e ⟨b, h1, h2⟩ => ⟨b, h1, e _ _ h2⟩⟩
theorem tKt_d {K : PySem.W.Frag} {ns : List Int} : ∀ B v, (tKt ns).p B v → (tD K (.tuple (ns.map .int))).p B v := fun B v ⟨b, h1, h2⟩ => by
  subst h1
  exact .tup (SqT.of h2) (rp_of_ints ns)
def kI (ns : List Int) : List Key := ns.map Sum.inl
theorem kI_v (ns : List Int) : (kI ns).map kV = ns.map V.int := by
  unfold kI
  rw [List.map_map]
  rfl
theorem kI_inj : ∀ {ns ms : List Int}, kI ns = kI ms → ns = ms
  | [], [], _ => rfl
  | n :: ns, m :: ms, h => by
    have h' : (Sum.inl n : Key) :: kI ns = Sum.inl m :: kI ms := h
    injection h' with h1 h2
    injection h1 with h1
    rw [h1, kI_inj h2]
  | [], m :: ms, h => nomatch (show ([] : List Key) = Sum.inl m :: kI ms from h)
  | n :: ns, [], h => nomatch (show (Sum.inl n : Key) :: kI ns = [] from h)
/-! ### remembering dicts -/
theorem nodup_sub_len {α : Type} [DecidableEq α] : ∀ {l m : List α}, l.Nodup → (∀ x ∈ l, x ∈ m) → l.length ≤ m.length
  | [], m, _, _ => Nat.zero_le _
  | a :: l, m, nd, h => by
    obtain ⟨n1, n2⟩ := List.nodup_cons.mp nd
    have hm := h a List.mem_cons_self
    have ih := nodup_sub_len (l := l) (m := m.erase a) n2 fun x hx => (List.mem_erase_of_ne (fun e => n1 (by rw [← e]; exact hx))).mpr (h x (List.mem_cons_of_mem _ hx))
    rw [List.length_erase_of_mem hm] at ih
    have := List.length_pos_of_mem hm
    rw [List.length_cons]
    omega
structure MemoAt (L : List (List Int)) (T : List Int → Ty) (B : Hp) (kvs : List (List Key × V)) : Prop where
  nd : (kvs.map (·.1)).Nodup
  at_ : ∀ kv ∈ kvs, ∃ ns ∈ L, kv.1 = kI ns ∧ (T ns).p B kv.2
def memoI (L : List (List Int)) (T : List Int → Ty) : Mi := ⟨MemoAt L T, fun e h => ⟨h.nd, fun kv hk => by
  obtain ⟨ns, h1, h2, h3⟩ := h.at_ kv hk
  exact ⟨ns, h1, h2, (T ns).mono e h3⟩⟩⟩
section
variable {L : List (List Int)} {T : List Int → Ty} {B : Hp} {kvs : List (List Key × V)} {ns : List Int} {v : V}
theorem MemoAt.nil : MemoAt L T B [] := ⟨List.nodup_nil, fun kv h => nomatch h⟩
theorem MemoAt.len (h : MemoAt L T B kvs) (hL : L.length < 100000) : kvs.length < sizeLine := by
  have h1 := nodup_sub_len (l := kvs.map (·.1)) (m := L.map kI) h.nd fun x hx => by
    obtain ⟨kv, hk, rfl⟩ := List.mem_map.mp hx
    obtain ⟨ns, h1, h2, _⟩ := h.at_ kv hk
    rw [h2]
    exact List.mem_map_of_mem h1
  rw [List.length_map, List.length_map] at h1
  exact Nat.lt_of_lt_of_le (Nat.lt_of_le_of_lt h1 hL) (by decide)
theorem valV_mem {kvs : List (List Key × V)} {k : List Key} (h : valV kvs k = some v) : (k, v) ∈ kvs := by
  unfold valV at h
  obtain ⟨kv, h1, h2⟩ := Option.map_eq_some_iff.mp h
  have h3 := List.find?_some h1
  have h4 := List.mem_of_find?_eq_some h1
  have e : kv.1 = k := of_decide_eq_true h3
  rw [← e, ← h2]
  exact h4
theorem MemoAt.val (h : MemoAt L T B kvs) (hv : valV kvs (kI ns) = some v) : (T ns).p B v := by
  obtain ⟨ms, h1, h2, h3⟩ := h.at_ _ (valV_mem hv)
  rw [kI_inj h2]
  exact h3
theorem MemoAt.put (h : MemoAt L T B kvs) (hn : ns ∈ L) (hv : (T ns).p B v) : MemoAt L T B (putK kvs (kI ns) v) := by
  unfold putK
  by_cases a : (kvs.any fun kv => decide (kv.1 = kI ns)) = true
  · rw [if_pos a]
    refine ⟨?_, fun kv hk => ?_⟩
    · rw [List.map_map]
      have e : kvs.map ((fun kv => kv.1) ∘ fun kv => if kv.1 = kI ns then (kv.1, v) else kv) = kvs.map (·.1) := by
        apply List.map_congr_left
        intro kv _
        show (if kv.1 = kI ns then (kv.1, v) else kv).1 = kv.1
        split <;> rfl
      rw [e]
      exact h.nd
    · obtain ⟨kv', hk', rfl⟩ := List.mem_map.mp hk
      by_cases e : kv'.1 = kI ns
      · rw [if_pos e]
        exact ⟨ns, hn, e, hv⟩
      · rw [if_neg e]
        exact h.at_ _ hk'
  · rw [if_neg a]
    refine ⟨?_, fun kv hk => ?_⟩
    · rw [List.map_append]
      refine List.nodup_append.mpr ⟨h.nd, by simp, fun x hx y hy => ?_⟩
      obtain rfl : y = kI ns := by simpa using hy
      intro e
      obtain ⟨kv, hk, e2⟩ := List.mem_map.mp hx
      exact a (List.any_eq_true.mpr ⟨kv, hk, by simpa using e2.trans e⟩)
    · rcases List.mem_append.mp hk with hk | hk
      · exact h.at_ _ hk
      · rw [List.mem_singleton.mp hk]
        exact ⟨ns, hn, rfl, hv⟩
end
section
variable {g : Pg} {C : Ct} {q q' : Sta} {P : Po} {e a b c o ke1 ke2 ke3 sd1 sd2 sd3 val : Expr} {es : List Expr} {st : Stmt} {sts rest body : List Stmt} {pos p p1 p2 p3 p4 apos cpos : Pos} {T Ta Tb : Ty} {Ts : List Ty} {x : Str} {i j k : Nat} {M : Ml} {δ δ' : Sd} {ts : List Nat} {t : TG} {ns : List Int}
theorem xe_tupK {x1} (ns : List Int) (ha : XA g C M δ es ((ns.map PyData.int).map (tD g.K))) (hz : ns.length ≤ 100000 := by exact Nat.le_of_ble_eq_true rfl) : XE g C M δ (.Tuple es x1 pos) (tKt ns) :=
  xe_newA (mk := HO.tup) (t := tTup) (fun i => pe_tup (pa_w i)) (fun _ _ _ _ h => h) ha (by rw [List.length_map, List.length_map]; exact hz) fun B p vs h e => ⟨p, rfl, by rw [← rp_ints h.rp]; exact e⟩
theorem amb_z {Z : Addr → Bool} {H : Hp} (hA : Amb Z M H) : ∀ a, Zm Z M a = true → H a ≠ none := fun a z => by
  unfold Zm at z
  rw [Bool.or_eq_true] at z
  rcases z with z | z
  · exact hA.here a z
  · obtain ⟨p, hp, rfl⟩ := inM_ex z
    obtain ⟨k, h1, _⟩ := hA.memo p hp
    rw [h1]
    exact fun z => nomatch z
/-- what changes no dict -/
theorem XE.still (h : XE g C [] δ e T) {Z : Addr → Bool} {σ : L2.St} {H : Hp} (hs : Sl (out (Zm Z M) H) δ σ) (hA : Amb Z M H) {Q : VK} (k : ∀ v H', Ex H H' → Amb Z M H' → T.p (out (Zm Z M) H') v → Q v H') : wE g C e σ H Q := by
  refine h (Zm Z M) σ H (by rw [zm_nil]; exact hs) (amb_nil (amb_z hA)) Q fun v H' f A t => ?_
  rw [zm_nil] at t
  exact k v H' f.ex0 (hA.ex f.ex0) t
theorem Hold.still {Z : Addr → Bool} {M0 : Ml} {H0 H : Hp} {G : List (V × Ty)} {σ : L2.St} (hh : Hold Z M0 H0 G q σ H) (h : XE g C [] q.δ e T) {Q : VK} (k : ∀ v H', Hold Z M0 H0 G q σ H' → Ex H H' → T.p (stb Z q H') v → Q v H') : wE g C e σ H Q :=
  h.still hh.sl hh.amb fun v H' f A t => k v H' (hh.step (Fr.of_ex f) A) f t
/-- a remembering dict remembers more -/
theorem Hold.memo {Z : Addr → Bool} {M0 : Ml} {H0 H : Hp} {G : List (V × Ty)} {σ : L2.St} {d : Addr} {mi : Mi} {kvs : List (List Key × V)} (hh : Hold Z M0 H0 G q σ H) (hm : (d, mi) ∈ q.M) (hI : mi.I (stb Z q H) kvs) : Hold Z M0 H0 G q σ (upd H d (.dT kvs)) := by
  have zl : Zm (Zo Z q.O) q.M d = true := by unfold Zm; rw [inM_of hm, Bool.or_true]
  have eq : stb Z q (upd H d (.dT kvs)) = stb Z q H := by
    funext a
    unfold stb out
    by_cases e : Zm (Zo Z q.O) q.M a = true
    · rw [if_pos e, if_pos e]
    · rw [if_neg e, if_neg e, upd_ne (fun z => e (by rw [z]; exact zl))]
  have one : ∀ p ∈ q.M, p.1 = d → p = (d, mi) := fun p hp e => by
    obtain ⟨i, hi, ei⟩ := List.mem_iff_getElem.mp hp
    obtain ⟨j, hj, ej⟩ := List.mem_iff_getElem.mp hm
    have l1 : i < (q.M.map (·.1)).length := by rw [List.length_map]; exact hi
    have l2 : j < (q.M.map (·.1)).length := by rw [List.length_map]; exact hj
    have : i = j := by
      refine (List.getElem_inj (h₀ := l1) (h₁ := l2) hh.amb.nd).mp ?_
      rw [List.getElem_map, List.getElem_map, ei, ej, e]
    subst this
    rw [← ei, ← ej]
  refine ⟨by rw [eq]; exact hh.sl, ⟨fun p hp => ?_, fun a z => ?_, hh.amb.nd, hh.amb.off⟩, fun p hp => ?_, hh.nd, hh.off, fun a o e n => ?_, hh.newO, hh.newM, hh.subM, fun p hp => by rw [eq]; exact hh.gh p hp⟩
  · have e2 : out (Zm (Zo Z q.O) q.M) (upd H d (.dT kvs)) = stb Z q H := eq
    rw [e2]
    by_cases e : p.1 = d
    · obtain rfl := one p hp e
      exact ⟨kvs, upd_same, hI⟩
    · obtain ⟨k, h1, h2⟩ := hh.amb.memo p hp
      exact ⟨k, by rw [upd_ne e]; exact h1, h2⟩
  · by_cases e : a = d
    · rw [e, upd_same]; exact fun z => nomatch z
    · rw [upd_ne e]; exact hh.amb.here a z
  · rw [eq]
    refine (hh.own p hp).mono (Ex.refl _) fun o e => ?_
    have n : p.1 ≠ d := fun e2 => by
      have z := hh.amb.off _ hm
      unfold Zo at z
      have z2 := inO_of hp
      rw [e2] at z2
      rw [show inO q.O d = true from z2, Bool.or_true] at z
      cases z
    rw [upd_ne n]
    exact e
  · by_cases e2 : a = d
    · exfalso
      subst e2
      rcases hh.newM _ hm with h1 | h1
      · rw [inM_of h1] at n; cases n
      · rw [show H0 a = none from h1] at e; cases e
    · rw [upd_ne e2]
      exact hh.fr a o e n
/-- what the state must know for d[key] = val; return d[key] -/
structure Sto (g : Pg) (C : Ct) (L : List (List Int)) (T : List Int → Ty) (d : Addr) (ns : List Int) (val ke2 sd2 ke3 sd3 : Expr) (q : Sta) : Prop where
  m : (d, memoI L T) ∈ q.M
  v : XE g C q.M q.δ val (T ns)
  k2 : XE g C [] q.δ ke2 (tKt ns)
  s2 : XE g C [] q.δ sd2 (tAt d)
  k3 : XE g C [] q.δ ke3 (tKt ns)
  s3 : XE g C [] q.δ sd3 (tAt d)
theorem memo_ret {TT : List Int → Ty} {L : List (List Int)} {d : Addr} {Z : Addr → Bool} {M0 : Ml} {H0 H : Hp} {G : List (V × Ty)} {σ : L2.St} {D : Ends} {kvs : List (List Key × V)} {v : V} {n : Nat} (hr : ∀ i, Room n (C.A i)) (k3 : XE g C [] q.δ ke3 (tKt ns)) (s3 : XE g C [] q.δ sd3 (tAt d)) (hP : P.rt (TT ns)) (hh : Hold Z M0 H0 G q σ H) (hd : H d = some (.dT kvs)) (hv : valV kvs (kI ns) = some v) (tv : (TT ns).p (stb Z q H) v) (m : Meets P Z M0 H0 G D) (sl : NoSl ke3) :
    wB g C [.Return (some (.Subscript sd3 ke3 p)) p2] D σ H := by
  refine w_pss (t := tRet (tDGet (wE g C sd3) (wE g C ke3))) ?_ fun i => pss_one (ps_ret (pe_dget (by have := (hr i).un; show (C.A i).units + 1 < cLine; omega) (pe_w i) (pe_w i) sl))
  refine hh.still s3 fun v1 H1 h1 e1 t1 => h1.still k3 fun v2 H2 h2 e2 t2 => ?_
  obtain rfl : v1 = .ref d := t1
  obtain ⟨b, rfl, hb⟩ := t2
  refine ⟨d, v, rfl, ?_, m.rt _ _ _ hP (h2.ret (T := TT ns) ((TT ns).mono ?_ tv))⟩
  · rw [← hv]
    exact DGet.t (e2 _ _ (e1 _ _ hd)) (by rw [kI_v]; exact out_sub _ _ hb)
  · exact Fr.out (Fr.of_ex (e1.trans e2))
theorem memo_put {TT : List Int → Ty} {L : List (List Int)} {d : Addr} {Z : Addr → Bool} {M0 : Ml} {H0 H : Hp} {G : List (V × Ty)} {σ : L2.St} {D D1 : Ends} {n : Nat} (hr : ∀ i, Room n (C.A i)) (hn : ns ∈ L) (hL : L.length < 100000) (S : Sto g C L TT d ns val ke2 sd2 ke3 sd3 q) (hP : P.rt (TT ns)) (hh : Hold Z M0 H0 G q σ H) (m : Meets P Z M0 H0 G D) (sl : NoSl ke3)
    (hD : D1.nx = fun σ H => wB g C [.Return (some (.Subscript sd3 ke3 p)) p2] D σ H) (hs : ∀ j, swapsWith val (some (.Subscript sd2 ke2 p3)) p4.line (C.env j) = pure false) :
    wS g C (.Assign [.Subscript sd2 ke2 p3] val p4) D1 σ H := by
  refine w_ps (t := sDPut (wE g C sd2) (wE g C ke2) (wE g C val)) ?_ fun i => ps_dput (by have := (hr i).un; show (C.A i).units + 1 < cLine; omega) (pe_w i) (pe_w i) (pe_w i) (hs i)
  refine hh.ev S.v fun v H1 h1 t1 => h1.still S.s2 fun v1 H2 h2 e2 t2 => h2.still S.k2 fun v2 H3 h3 e3 t3 => ?_
  obtain rfl : v1 = .ref d := t2
  obtain ⟨b, rfl, hb⟩ := t3
  obtain ⟨kvs, hk, hI⟩ := h3.amb.memo _ S.m
  have tv : (TT ns).p (stb Z q H3) v := (TT ns).mono (Fr.out (Fr.of_ex (e2.trans e3))) t1
  have hI' : MemoAt L TT (stb Z q H3) kvs := hI
  have hp := hI'.put hn tv
  refine ⟨d, _, rfl, DPut.t (k := kI ns) hk (by rw [kI_v]; exact out_sub _ _ hb) (hI'.len hL), ?_⟩
  rw [hD]
  have h4 := h3.memo (kvs := putK kvs (kI ns) v) S.m hp
  refine memo_ret (TT := TT) (L := L) (ns := ns) hr S.k3 S.s3 hP h4 upd_same (by rw [valV_put, if_pos rfl]) ?_ m sl
  have zl : Zm (Zo Z q.O) q.M d = true := by unfold Zm; rw [inM_of S.m, Bool.or_true]
  have eq : stb Z q (upd H3 d (.dT (putK kvs (kI ns) v))) = stb Z q H3 := by
    funext a
    unfold stb out
    by_cases e : Zm (Zo Z q.O) q.M a = true
    · rw [if_pos e, if_pos e]
    · rw [if_neg e, if_neg e, upd_ne (fun z => e (by rw [z]; exact zl))]
  rw [eq]
  exact tv
theorem memo_if {TT : List Int → Ty} {L : List (List Int)} {d : Addr} {n : Nat} (hr : ∀ i, Room n (C.A i)) (hm : (d, memoI L TT) ∈ q.M) (k1 : XE g C [] q.δ ke1 (tKt ns)) (s1 : XE g C [] q.δ sd1 (tAt d)) (k3 : XE g C [] q.δ ke3 (tKt ns)) (s3 : XE g C [] q.δ sd3 (tAt d)) (hP : P.rt (TT ns)) (sl : NoSl ke3) (hmk : behindInMarks .NotIn sd1 = false)
    (hb : ∀ Z M0 H0 G σ H D, Hold Z M0 H0 G q σ H → Meets P Z M0 H0 G D → wB g C body { D with nx := fun σ H => wB g C [.Return (some (.Subscript sd3 ke3 p)) p2] D σ H } σ H) :
    XB g C q [.If (.Compare ke1 [.NotIn] [sd1] p3) body [] p4, .Return (some (.Subscript sd3 ke3 p)) p2] P := fun Z M0 H0 G σ H D hh m => by
  refine w_pss (t := tSeq (tIfS (tB (tDNotIn (wE g C ke1) (wE g C sd1))) (wB g C body) tNext) (wB g C [.Return (some (.Subscript sd3 ke3 p)) p2])) ?_ fun i => pss_cons (ps_if (pt_cmp (pc_dnotin (by have := (hr i).un; show (C.A i).units + 1 < cLine; omega) (pe_w i) (pe_w i)) hmk) (pss_w i) pss_nil) (pss_w i)
  refine hh.still k1 fun v2 H1 h1 e1 t1 => h1.still s1 fun v1 H2 h2 e2 t2 => ?_
  obtain rfl : v1 = .ref d := t2
  obtain ⟨b, rfl, hb'⟩ := t1
  obtain ⟨kvs, hk, hI⟩ := h2.amb.memo _ hm
  refine ⟨d, _, rfl, DGet.t (k := kI ns) hk (by rw [kI_v]; exact e2 _ _ (out_sub _ _ hb')), _, rfl, ?_⟩
  cases hv : valV kvs (kI ns) with
  | none => exact iteT (hb Z M0 H0 G σ H2 D h2 m)
  | some v => exact iteF (memo_ret (TT := TT) (L := L) (ns := ns) hr k3 s3 hP h2 hk hv (MemoAt.val hI hv) m sl)
/-- if key not in d: d[key] = val; return d[key] -/
theorem xb_memo1 {TT : List Int → Ty} {L : List (List Int)} {d : Addr} {n : Nat} (hr : ∀ i, Room n (C.A i)) (hn : ns ∈ L) (hL : L.length < 100000) (k1 : XE g C [] q.δ ke1 (tKt ns)) (s1 : XE g C [] q.δ sd1 (tAt d)) (S : Sto g C L TT d ns val ke2 sd2 ke3 sd3 q) (hP : P.rt (TT ns)) (sl : NoSl ke3 := by intro _ _; rfl)
    (hs : ∀ j, swapsWith val (some (.Subscript sd2 ke2 p1)) apos.line (C.env j) = pure false := by intro _; rfl) (hmk : behindInMarks .NotIn sd1 = false := by rfl) :
    XB g C q [.If (.Compare ke1 [.NotIn] [sd1] p3) [.Assign [.Subscript sd2 ke2 p1] val apos] [] p4, .Return (some (.Subscript sd3 ke3 p)) p2] P :=
  memo_if hr S.m k1 s1 S.k3 S.s3 hP sl hmk fun Z M0 H0 G σ H D hh m => w_pss (memo_put hr hn hL S hP hh m sl rfl hs) fun i => pss_one (ps_w i)
theorem xb_memo2 {TT : List Int → Ty} {L : List (List Int)} {d : Addr} {n : Nat} (hr : ∀ i, Room n (C.A i)) (hn : ns ∈ L) (hL : L.length < 100000) (hm : (d, memoI L TT) ∈ q.M) (k1 : XE g C [] q.δ ke1 (tKt ns)) (s1 : XE g C [] q.δ sd1 (tAt d)) (k3 : XE g C [] q.δ ke3 (tKt ns)) (s3 : XE g C [] q.δ sd3 (tAt d))
    (S : XS g C q st { nx := Sto g C L TT d ns val ke2 sd2 ke3 sd3, rt := fun _ => False }) (hP : P.rt (TT ns)) (sl : NoSl ke3 := by intro _ _; rfl)
    (hs : ∀ j, swapsWith val (some (.Subscript sd2 ke2 p1)) apos.line (C.env j) = pure false := by intro _; rfl) (hmk : behindInMarks .NotIn sd1 = false := by rfl) :
    XB g C q [.If (.Compare ke1 [.NotIn] [sd1] p3) [st, .Assign [.Subscript sd2 ke2 p1] val apos] [] p4, .Return (some (.Subscript sd3 ke3 p)) p2] P :=
  memo_if hr hm k1 s1 k3 s3 hP sl hmk fun Z M0 H0 G σ H D hh m => w_pss (t := tSeq (wS g C st) (wB g C [.Assign [.Subscript sd2 ke2 p1] val apos]))
    (S Z M0 H0 G σ H _ hh ⟨fun q' σ' H' n h' => w_pss (memo_put hr hn hL n hP h' m sl rfl hs) fun i => pss_one (ps_w i), fun _ _ _ z _ => z.elim, fun _ _ _ z _ => z.elim, fun _ _ _ z _ => z.elim⟩) fun i => pss_cons (ps_w i) (pss_w i)
end
end Pf
end
section
set_option Elab.async false
set_option linter.all false
set_option maxRecDepth 100000
set_option maxHeartbeats 2000000
namespace Pf
open PySem PySem.Spec PyProof.Rows L2
/-! ### list(zip(x, y, z)): the tuple given out first stays, so each further one is new -/
section
variable {prog : Program} {w : World} {A : Around} {E : Value → Shared → Prop} {s : Shared} {z TI TO i1 i2 i3 T : Addr} {fp1 fp2 fp3 : List Addr} {n1 n2 n3 i : Nat} {P1 P2 P3 : Nat → Value → Prop} {St1 St2 St3 : Nat → Heap → Prop} {f : Bool} {oT : Obj}
theorem held3_item {Q : Value → Shared → Prop} (S : ZipSep3 z TI TO i1 i2 i3 fp1 fp2 fp3) (D1 : Draws prog w A i1 fp1 n1 P1 St1) (D2 : Draws prog w A i2 fp2 n2 P2 St2) (D3 : Draws prog w A i3 fp3 n3 P3 St3) (zz : IsZipHeld s.heap z TI TO T f) (tt : s.heap.get? T = some oT) (ti : IsTupOf3 s.heap TI (.ref i1) (.ref i2) (.ref i3))
    (st1 : St1 i s.heap) (st2 : St2 i s.heap) (st3 : St3 i s.heap) (l1 : i < n1) (l2 : i < n2) (l3 : i < n3)
    (k : ∀ x1 x2 x3 h' tk, P1 i x1 → P2 i x2 → P3 i x3 → IsZipHeld h' z TI TO T true → St1 (i + 1) h' → St2 (i + 1) h' → St3 (i + 1) h' → IsTupOf3 h' s.heap.objs.size x1 x2 x3 → (∀ c o, c ≠ z → c ≠ i1 → c ≠ i2 → c ≠ i3 → s.heap.get? c = some o → h'.get? c = some o) → Q (.ref s.heap.objs.size) { s with heap := h', toks := tk }) :
    wpAny (model prog w) A (Builtin.«zip.__next__» ⟨[.ref z], []⟩) (fun fin s' => ∃ v, fin = .done (.ret v) ∧ Q v s') E s := by
  obtain ⟨hp, gg, dd, tk0, os⟩ := s
  show wpAny _ _ (field (.ref z) 2 >>= _) _ _ _; refine wpAny_bind (wpAny_field zz rfl (x := .bool false) rfl ?_)
  show wpAny _ _ (field (.ref z) 3 >>= _) _ _ _; refine wpAny_bind (wpAny_field zz rfl (x := .ref TI) rfl (wpAny_bind (wpAny_seqItems ti rfl ?_)))
  show wpAny _ _ (Builtin.SmallTypes.ownedTupleIsFree (.ref z) >>= _) _ _ _; refine wpAny_bind (wpAny_tupleHeld_zip zz tt fun g0 z0 s0 => ?_)
  replace s0 : Heap.SameBut z hp g0 := s0
  simp only [Bool.false_eq_true, if_false]; refine wpAny_bind ?_
  rw [← Array.forIn_toList]; simp only [List.forIn_cons, List.forIn_nil]
  refine wpAny_bind (wpAny_bind (wpAny_holding ?_)); show wpAny _ _ (Builtin.SmallTypes.nextOf (.ref i1) >>= _) _ _ ⟨g0, gg, dd, tk0, os⟩
  refine wpAny_bind (D1.item i _ _ _ l1 (D1.over st1 s0 S.zf1) fun x1 p1 tk1 hx1 sn1 e1 => wpAny_pure (wpAny_pure ?_))
  replace e1 : Heap.SameBut i1 g0 p1 := e1
  refine wpAny_bind (wpAny_bind (wpAny_holding ?_)); show wpAny _ _ (Builtin.SmallTypes.nextOf (.ref i2) >>= _) _ _ ⟨p1, gg, dd, tk1, os⟩
  refine wpAny_bind (D2.item i _ _ _ l2 (D2.over (D2.over st2 s0 S.zf2) e1 S.sep1_2) fun x2 p2 tk2 hx2 sn2 e2 => wpAny_pure (wpAny_pure ?_))
  replace e2 : Heap.SameBut i2 p1 p2 := e2
  refine wpAny_bind (wpAny_bind (wpAny_holding ?_)); show wpAny _ _ (Builtin.SmallTypes.nextOf (.ref i3) >>= _) _ _ ⟨p2, gg, dd, tk2, os⟩
  refine wpAny_bind (D3.item i _ _ _ l3 (D3.over (D3.over (D3.over st3 s0 S.zf3) e1 S.sep1_3) e2 S.sep2_3) fun x3 p3 tk3 hx3 sn3 e3 => wpAny_pure (wpAny_pure (wpAny_pure ?_)))
  replace e3 : Heap.SameBut i3 p2 p3 := e3
  show wpAny _ _ (newTuple [x1, x2, x3] >>= _) _ _ ⟨p3, gg, dd, tk3, os⟩; refine wpAny_bind (wpAny_newTuple (wpAny_pure ⟨_, rfl, ?_⟩))
  have sz : p3.objs.size = hp.objs.size := by rw [e3.1, e2.1, e1.1, s0.1]
  have up : ∀ c o, c ≠ z → c ≠ i1 → c ≠ i2 → c ≠ i3 → hp.get? c = some o → p3.get? c = some o := fun c o c0 c1 c2 c3 e => e3.extBut _ _ c3 (e2.extBut _ _ c2 (e1.extBut _ _ c1 (s0.extBut _ _ c0 e)))
  have zn : IsZipHeld p3 z TI TO T true := e3.extBut _ _ S.zi3 (e2.extBut _ _ S.zi2 (e1.extBut _ _ S.zi1 z0))
  have tn : IsTupOf3 (p3.push { cls := .type "tuple", data := .seq #[x1, x2, x3] }) p3.objs.size x1 x2 x3 := Heap.get?_push_size _ rfl
  have pu : ∀ c o, p3.get? c = some o → (p3.push { cls := .type "tuple", data := .seq #[x1, x2, x3] }).get? c = some o := fun c o e => Heap.get?_push_of_some _ e
  show Q (.ref p3.objs.size) _
  rw [sz] at tn ⊢
  exact k x1 x2 x3 _ tk3 hx1 hx2 hx3 (pu _ _ zn) (D1.frame _ _ _ (D1.over (D1.over sn1 e2 S.sep2_1) e3 S.sep3_1) fun b _ o e => pu b o e) (D2.frame _ _ _ (D2.over sn2 e3 S.sep3_2) fun b _ o e => pu b o e) (D3.frame _ _ _ sn3 fun b _ o e => pu b o e) tn fun c o c0 c1 c2 c3 e => pu c o (up c o c0 c1 c2 c3 e)
theorem held3_end {Q : Fin → Shared → Prop} (S : ZipSep3 z TI TO i1 i2 i3 fp1 fp2 fp3) (D1 : Draws prog w A i1 fp1 n1 P1 St1) (D2 : Draws prog w A i2 fp2 n2 P2 St2) (D3 : Draws prog w A i3 fp3 n3 P3 St3) (zz : IsZipHeld s.heap z TI TO T f) (tt : s.heap.get? T = some oT) (ti : IsTupOf3 s.heap TI (.ref i1) (.ref i2) (.ref i3))
    (st1 : St1 i s.heap) (st2 : St2 i s.heap) (st3 : St3 i s.heap) (l1 : i ≤ n1) (l2 : i ≤ n2) (l3 : i ≤ n3) (en : i = n1 ∨ i = n2 ∨ i = n3)
    (k : ∀ h' tk e, (∀ c o, c ≠ z → c ≠ i1 → c ≠ i2 → c ≠ i3 → s.heap.get? c = some o → h'.get? c = some o) → (∃ o, h'.get? e = some o ∧ o.cls = .type "StopIteration") → E (.ref e) { s with heap := h', toks := tk }) :
    wpAny (model prog w) A (Builtin.«zip.__next__» ⟨[.ref z], []⟩) Q E s := by
  obtain ⟨hp, gg, dd, tk0, os⟩ := s
  show wpAny _ _ (field (.ref z) 2 >>= _) _ _ _; refine wpAny_bind (wpAny_field zz rfl (x := .bool false) rfl ?_)
  show wpAny _ _ (field (.ref z) 3 >>= _) _ _ _; refine wpAny_bind (wpAny_field zz rfl (x := .ref TI) rfl (wpAny_bind (wpAny_seqItems ti rfl ?_)))
  show wpAny _ _ (Builtin.SmallTypes.ownedTupleIsFree (.ref z) >>= _) _ _ _; refine wpAny_bind (wpAny_tupleHeld_zip zz tt fun g0 z0 s0 => ?_)
  replace s0 : Heap.SameBut z hp g0 := s0
  simp only [Bool.false_eq_true, if_false]; refine wpAny_bind ?_
  rw [← Array.forIn_toList]; simp only [List.forIn_cons, List.forIn_nil]
  refine wpAny_bind (wpAny_bind (wpAny_holding ?_)); show wpAny _ _ (Builtin.SmallTypes.nextOf (.ref i1) >>= _) _ _ ⟨g0, gg, dd, tk0, os⟩
  by_cases h1 : i < n1
  · refine wpAny_bind (D1.item i _ _ _ h1 (D1.over st1 s0 S.zf1) fun x1 p1 tk1 hx1 sn1 e1 => wpAny_pure (wpAny_pure ?_))
    replace e1 : Heap.SameBut i1 g0 p1 := e1
    refine wpAny_bind (wpAny_bind (wpAny_holding ?_)); show wpAny _ _ (Builtin.SmallTypes.nextOf (.ref i2) >>= _) _ _ ⟨p1, gg, dd, tk1, os⟩
    by_cases h2 : i < n2
    · refine wpAny_bind (D2.item i _ _ _ h2 (D2.over (D2.over st2 s0 S.zf2) e1 S.sep1_2) fun x2 p2 tk2 hx2 sn2 e2 => wpAny_pure (wpAny_pure ?_))
      replace e2 : Heap.SameBut i2 p1 p2 := e2
      have h3 : i = n3 := by omega
      refine wpAny_bind (wpAny_bind (wpAny_holding ?_)); show wpAny _ _ (Builtin.SmallTypes.nextOf (.ref i3) >>= _) _ _ ⟨p2, gg, dd, tk2, os⟩
      refine wpAny_bind (D3.done ⟨p2, gg, dd, tk2, os⟩ _ _ (by rw [← h3]; exact D3.over (D3.over (D3.over st3 s0 S.zf3) e1 S.sep1_3) e2 S.sep2_3) fun q e hq he => ?_)
      exact k q tk2 e (fun c o c0 c1 c2 c3 x => hq _ _ c3 (e2.extBut _ _ c2 (e1.extBut _ _ c1 (s0.extBut _ _ c0 x)))) he
    · have h2' : i = n2 := by omega
      refine wpAny_bind (D2.done ⟨p1, gg, dd, tk1, os⟩ _ _ (by rw [← h2']; exact D2.over (D2.over st2 s0 S.zf2) e1 S.sep1_2) fun q e hq he => ?_)
      exact k q tk1 e (fun c o c0 c1 c2 c3 x => hq _ _ c2 (e1.extBut _ _ c1 (s0.extBut _ _ c0 x))) he
  · have h1' : i = n1 := by omega
    refine wpAny_bind (D1.done ⟨g0, gg, dd, tk0, os⟩ _ _ (by rw [← h1']; exact D1.over st1 s0 S.zf1) fun q e hq he => ?_)
    exact k q tk0 e (fun c o c0 c1 c2 c3 x => hq _ _ c1 (s0.extBut _ _ c0 x)) he
theorem next3_item {Q : Option Value → Shared → Prop} (S : ZipSep3 z TI TO i1 i2 i3 fp1 fp2 fp3) (D1 : Draws prog w A.in1 i1 fp1 n1 P1 St1) (D2 : Draws prog w A.in1 i2 fp2 n2 P2 St2) (D3 : Draws prog w A.in1 i3 fp3 n3 P3 St3) (zz : IsZipHeld s.heap z TI TO T f) (tt : s.heap.get? T = some oT) (ti : IsTupOf3 s.heap TI (.ref i1) (.ref i2) (.ref i3))
    (st1 : St1 i s.heap) (st2 : St2 i s.heap) (st3 : St3 i s.heap) (l1 : i < n1) (l2 : i < n2) (l3 : i < n3)
    (k : ∀ x1 x2 x3 h' tk, P1 i x1 → P2 i x2 → P3 i x3 → IsZipHeld h' z TI TO T true → St1 (i + 1) h' → St2 (i + 1) h' → St3 (i + 1) h' → IsTupOf3 h' s.heap.objs.size x1 x2 x3 → (∀ c o, c ≠ z → c ≠ i1 → c ≠ i2 → c ≠ i3 → s.heap.get? c = some o → h'.get? c = some o) → Q (some (.ref s.heap.objs.size)) { s with heap := h', toks := tk }) :
    wpAny (model prog w) A (pyNext (.ref z)) Q E s := by
  have ty : s.TypeIs (.ref z) "zip" := ⟨_, zz, rfl⟩
  unfold pyNext
  exact wpAny_bind (wpAny_attempt (wpAny_callSpecial?_slot (name := Str.ofString "__next__") ty F.slot_zip_next (wpAny_call_entry F.slot_zip_next ty F.entry_zip_next (held3_item S D1 D2 D3 zz tt ti st1 st2 st3 l1 l2 l3 fun x1 x2 x3 h' tk a1 a2 a3 a4 a5 a6 a7 a8 a9 => wpAny_pure (k x1 x2 x3 h' tk a1 a2 a3 a4 a5 a6 a7 a8 a9)) (F.args_zip_next_1 _))))
theorem next3_end {Q : Option Value → Shared → Prop} (S : ZipSep3 z TI TO i1 i2 i3 fp1 fp2 fp3) (D1 : Draws prog w A.in1 i1 fp1 n1 P1 St1) (D2 : Draws prog w A.in1 i2 fp2 n2 P2 St2) (D3 : Draws prog w A.in1 i3 fp3 n3 P3 St3) (zz : IsZipHeld s.heap z TI TO T f) (tt : s.heap.get? T = some oT) (ti : IsTupOf3 s.heap TI (.ref i1) (.ref i2) (.ref i3))
    (st1 : St1 i s.heap) (st2 : St2 i s.heap) (st3 : St3 i s.heap) (l1 : i ≤ n1) (l2 : i ≤ n2) (l3 : i ≤ n3) (en : i = n1 ∨ i = n2 ∨ i = n3)
    (k : ∀ h' tk, (∀ c o, c ≠ z → c ≠ i1 → c ≠ i2 → c ≠ i3 → s.heap.get? c = some o → h'.get? c = some o) → Q none { s with heap := h', toks := tk }) : wpAny (model prog w) A (pyNext (.ref z)) Q E s := by
  have ty : s.TypeIs (.ref z) "zip" := ⟨_, zz, rfl⟩
  unfold pyNext
  refine wpAny_bind (wpAny_attempt (wpAny_callSpecial?_slot (name := Str.ofString "__next__") ty F.slot_zip_next (wpAny_call_entry F.slot_zip_next ty F.entry_zip_next (held3_end S D1 D2 D3 zz tt ti st1 st2 st3 l1 l2 l3 en fun h' tk e hk he => ?_) (F.args_zip_next_1 _))))
  obtain ⟨o, ho, hc⟩ := he
  exact wpAny_bind (wpAny_isInstance (T := "StopIteration") (b := true) ⟨o, ho, hc⟩ isSubtype_stop (wpAny_pure (k _ _ hk)))
end
/-- where list(zip(x, y, u)) has come: i of the tuples stand in the new list at S -/
structure Z3 (x y u : Array Value) (z TI TO i1 i2 i3 a b c S : Addr) (i : Nat) (acc : Array Value) (h : Heap) : Prop where
  zip : (i = 0 ∧ IsZip h z TI TO .none) ∨ ∃ T f, acc[0]? = some (.ref T) ∧ 0 < i ∧ IsZipHeld h z TI TO T f
  ti : IsTupOf3 h TI (.ref i1) (.ref i2) (.ref i3)
  to : ∃ a1 a2 a3, IsTupOf3 h TO a1 a2 a3
  t1 : h.IsTupleIter i1 a i ∧ h.IsTuple a x
  t2 : h.IsTupleIter i2 b i ∧ h.IsTuple b y
  t3 : h.IsTupleIter i3 c i ∧ h.IsTuple c u
  size : acc.size = i
  at_ : ∀ j, j < i → ∃ T x1 x2 x3, acc[j]? = some (.ref T) ∧ S < T ∧ IsTupOf3 h T x1 x2 x3 ∧ x[j]? = some x1 ∧ y[j]? = some x2 ∧ u[j]? = some x3
structure Lo9 (z TI TO i1 i2 i3 a b c S : Addr) : Prop where
  z : z < S
  TI : TI < S
  TO : TO < S
  i1 : i1 < S
  i2 : i2 < S
  i3 : i3 < S
  a : a < S
  b : b < S
  c : c < S
section
variable {prog : Program} {w : World} {A : Around} {R : Result → Shared → Prop} {x y u : Array Value} {z TI TO i1 i2 i3 a b c S : Addr}
theorem Z3.keep {i : Nat} {acc : Array Value} {h h' : Heap} (q : Z3 x y u z TI TO i1 i2 i3 a b c S i acc h) (L : Lo9 z TI TO i1 i2 i3 a b c S) (k : ∀ c o, c ≠ S → h.get? c = some o → h'.get? c = some o) : Z3 x y u z TI TO i1 i2 i3 a b c S i acc h' where
  zip := by
    rcases q.zip with ⟨e, z0⟩ | ⟨T, f, e, e0, z0⟩
    · exact .inl ⟨e, k _ _ (Nat.ne_of_lt L.z) z0⟩
    · exact .inr ⟨T, f, e, e0, k _ _ (Nat.ne_of_lt L.z) z0⟩
  ti := k _ _ (Nat.ne_of_lt L.TI) q.ti
  to := let ⟨a1, a2, a3, e⟩ := q.to; ⟨a1, a2, a3, k _ _ (Nat.ne_of_lt L.TO) e⟩
  t1 := ⟨q.t1.1.at fun o e => k _ _ (Nat.ne_of_lt L.i1) e, q.t1.2.at fun o e => k _ _ (Nat.ne_of_lt L.a) e⟩
  t2 := ⟨q.t2.1.at fun o e => k _ _ (Nat.ne_of_lt L.i2) e, q.t2.2.at fun o e => k _ _ (Nat.ne_of_lt L.b) e⟩
  t3 := ⟨q.t3.1.at fun o e => k _ _ (Nat.ne_of_lt L.i3) e, q.t3.2.at fun o e => k _ _ (Nat.ne_of_lt L.c) e⟩
  size := q.size
  at_ := fun j hj => let ⟨T, x1, x2, x3, e1, e2, e3, e4⟩ := q.at_ j hj; ⟨T, x1, x2, x3, e1, e2, k _ _ (Nat.ne_of_gt e2) e3, e4⟩
/-- the list when it is done -/
structure Z3Fin (x y u : Array Value) (z TO i1 i2 i3 S : Addr) (n : Nat) (h h' : Heap) : Prop where
  lst : ∃ acc c, h'.get? S = some { cls := .type "list", dict := none, data := .seq acc c, slots := #[] } ∧ acc.size = n ∧ ∀ j, j < n → ∃ T x1 x2 x3, acc[j]? = some (.ref T) ∧ S < T ∧ IsTupOf3 h' T x1 x2 x3 ∧ x[j]? = some x1 ∧ y[j]? = some x2 ∧ u[j]? = some x3
  kp : ∀ c o, c ≠ z → c ≠ TO → c ≠ i1 → c ≠ i2 → c ≠ i3 → c ≠ S → h.get? c = some o → h'.get? c = some o
theorem loop3 (hh : A.handled = none) (Sp : ZipSep3 z TI TO i1 i2 i3 [i1, a] [i2, b] [i3, c]) (L : Lo9 z TI TO i1 i2 i3 a b c S) (n1 : a ≠ i1) (n2 : b ≠ i2) (n3 : c ≠ i3) (n : Nat) (hn : n = min (min x.size y.size) u.size) (hz : n ≤ sizeLine) (res : Value) :
    ∀ (k i : Nat) (s : Shared) (acc : Array Value) (cc : Nat), n - i = k → i ≤ n → Z3 x y u z TI TO i1 i2 i3 a b c S i acc s.heap → s.heap.get? S = some { cls := .type "list", dict := none, data := .seq acc cc, slots := #[] } → S < s.heap.objs.size →
    (∀ h' tk, Z3Fin x y u z TO i1 i2 i3 S n s.heap h' → R (.ok (.ret res)) { s with heap := h', toks := tk }) → codeAny (model prog w) A (.builtin "list.extend.loop" ⟨[.ref S, .ref z, res], []⟩) R s := by
  have D1 : Draws prog w A.in1.in1 i1 [i1, a] x.size (fun i v => x[i]? = some v) (fun i h => h.IsTupleIter i1 a i ∧ h.IsTuple a x) := Draws.tuple (A := A.in1.in1) hh i1 a n1 x
  have D2 : Draws prog w A.in1.in1 i2 [i2, b] y.size (fun i v => y[i]? = some v) (fun i h => h.IsTupleIter i2 b i ∧ h.IsTuple b y) := Draws.tuple (A := A.in1.in1) hh i2 b n2 y
  have D3 : Draws prog w A.in1.in1 i3 [i3, c] u.size (fun i v => u[i]? = some v) (fun i h => h.IsTupleIter i3 c i ∧ h.IsTuple c u) := Draws.tuple (A := A.in1.in1) hh i3 c n3 u
  intro k
  induction k with
  | zero =>
    intro i s acc cc hk hi q hS hsz hR
    have e : i = n := by omega
    subst e
    refine codeAny_builtin F.entry_extend_loop ?_
    rw [Around.under_plainId F.plain_extend_loop _]
    have fin : ∀ h' tk, (∀ c o, c ≠ z → c ≠ TO → c ≠ i1 → c ≠ i2 → c ≠ i3 → s.heap.get? c = some o → h'.get? c = some o) → R (.ok (.ret res)) { s with heap := h', toks := tk } := fun h' tk kp => by
      refine hR h' tk ⟨⟨acc, cc, kp _ _ (Nat.ne_of_gt L.z) (Nat.ne_of_gt L.TO) (Nat.ne_of_gt L.i1) (Nat.ne_of_gt L.i2) (Nat.ne_of_gt L.i3) hS, q.size, fun j hj => ?_⟩, fun c o c0 cT c1 c2 c3 _ e => kp c o c0 cT c1 c2 c3 e⟩
      obtain ⟨T, x1, x2, x3, e1, e2, e3, e4⟩ := q.at_ j hj
      have lt : ∀ {v : Addr}, v < S → T ≠ v := fun h => Nat.ne_of_gt (Nat.lt_trans h e2)
      exact ⟨T, x1, x2, x3, e1, e2, kp _ _ (lt L.z) (lt L.TO) (lt L.i1) (lt L.i2) (lt L.i3) e3, e4⟩
    show wpAny _ A.in1 (pyNext (.ref z) >>= _) _ _ s
    rcases q.zip with ⟨e0, zz⟩ | ⟨T, f, e1, e0, zz⟩
    · obtain ⟨a1, a2, a3, to⟩ := q.to
      exact wpAny_bind (wpAny_pyNext_zipD3_end Sp D1 D2 D3 zz q.ti to q.t1 q.t2 q.t3 (by omega) (by omega) (by omega) (by omega) fun h' tk kp => wpAny_pure (fin h' tk kp))
    · obtain ⟨T', x1, x2, x3, e2, e3, e4, _⟩ := q.at_ 0 e0
      obtain rfl : T' = T := by rw [e1] at e2; injection e2 with e2; injection e2 with e2; exact e2.symm
      exact wpAny_bind (next3_end Sp D1 D2 D3 zz e4 q.ti q.t1 q.t2 q.t3 (by omega) (by omega) (by omega) (by omega) fun h' tk kp => wpAny_pure (fin h' tk fun c o c0 _ c1 c2 c3 e => kp c o c0 c1 c2 c3 e))
  | succ k ih =>
    intro i s acc cc hk hi q hS hsz hR
    have hlt : i < n := by omega
    refine codeAny_builtin F.entry_extend_loop ?_
    rw [Around.under_plainId F.plain_extend_loop _]
    have nxt : ∀ x1 x2 x3 h' tk, x[i]? = some x1 → y[i]? = some x2 → u[i]? = some x3 → ((∃ T f, (acc.push (.ref s.heap.objs.size))[0]? = some (.ref T) ∧ IsZipHeld h' z TI TO T f)) → (∃ a1 a2 a3, IsTupOf3 h' TO a1 a2 a3) → (h'.IsTupleIter i1 a (i + 1) ∧ h'.IsTuple a x) → (h'.IsTupleIter i2 b (i + 1) ∧ h'.IsTuple b y) → (h'.IsTupleIter i3 c (i + 1) ∧ h'.IsTuple c u) →
        IsTupOf3 h' s.heap.objs.size x1 x2 x3 → (∀ c o, c ≠ z → c ≠ TO → c ≠ i1 → c ≠ i2 → c ≠ i3 → s.heap.get? c = some o → h'.get? c = some o) → IsTupOf3 h' TI (.ref i1) (.ref i2) (.ref i3) → wpAny (model prog w) A.in1 (updateSeq S (·.push (.ref s.heap.objs.size)) >>= fun _ => again (.builtin "list.extend.loop" ⟨[.ref S, .ref z, res], []⟩))
          (fun fin s' => match fin with | .done f => R (.ok f) s' | .again c' => c'.quiet = true ∧ codeAny (model prog w) A c' R s') (fun e s' => R (.error e) s') { s with heap := h', toks := tk } := fun x1 x2 x3 h' tk hx1 hx2 hx3 hz' hto ht1 ht2 ht3 hT kp hti => by
      have hS' := kp _ _ (Nat.ne_of_gt L.z) (Nat.ne_of_gt L.TO) (Nat.ne_of_gt L.i1) (Nat.ne_of_gt L.i2) (Nat.ne_of_gt L.i3) hS
      have q' : Z3 x y u z TI TO i1 i2 i3 a b c S (i + 1) (acc.push (.ref s.heap.objs.size)) h' := by
        refine ⟨.inr (let ⟨T, f, e1, e2⟩ := hz'; ⟨T, f, e1, Nat.succ_pos _, e2⟩), hti, hto, ht1, ht2, ht3, by rw [Array.size_push, q.size], fun j hj => ?_⟩
        by_cases e : j < i
        · obtain ⟨T, y1, y2, y3, e1, e2, e3, e4⟩ := q.at_ j e
          have lt : ∀ {v : Addr}, v < S → T ≠ v := fun h => Nat.ne_of_gt (Nat.lt_trans h e2)
          refine ⟨T, y1, y2, y3, ?_, e2, kp _ _ (lt L.z) (lt L.TO) (lt L.i1) (lt L.i2) (lt L.i3) e3, e4⟩
          rw [Array.getElem?_push, if_neg (by rw [q.size]; omega)]
          exact e1
        · have e' : j = i := by omega
          subst e'
          refine ⟨_, x1, x2, x3, ?_, hsz, hT, hx1, hx2, hx3⟩
          rw [Array.getElem?_push, if_pos q.size.symm]
      have hSu := Heap.get?_update_self (Obj.mapSeq (·.push (Value.ref s.heap.objs.size))) hS' rfl
      have oth : ∀ b o, b ≠ S → h'.get? b = some o → (h'.update S (Obj.mapSeq (·.push (Value.ref s.heap.objs.size)))).get? b = some o := fun b o hb e => (Heap.get?_update_other _ _ (Ne.symm hb)).trans e
      refine wpAny_bind (wpAny_updateSeq (s := { s with heap := h', toks := tk }) hS' rfl (wpAny_pure ⟨plainId_quiet F.plain_extend_loop _, ih (i + 1) { s with heap := h'.update S (Obj.mapSeq (·.push (Value.ref s.heap.objs.size))), toks := tk } (acc.push (.ref s.heap.objs.size)) _ (by omega) hlt (q'.keep L oth) hSu (Heap.lt_size hSu) fun h'' tk' r => ?_⟩) (by rw [q.size]; omega) (by show (acc.push (.ref s.heap.objs.size)).size ≤ sizeLine + 1; rw [Array.size_push, q.size]; omega))
      refine hR h'' tk' ⟨r.lst, fun c o c0 cT c1 c2 c3 cS e => r.kp c o c0 cT c1 c2 c3 cS (oth c o cS (kp c o c0 cT c1 c2 c3 e))⟩
    show wpAny _ A.in1 (pyNext (.ref z) >>= _) _ _ s
    rcases q.zip with ⟨e0, zz⟩ | ⟨T, f, e1, e0, zz⟩
    · obtain ⟨a1, a2, a3, to⟩ := q.to
      refine wpAny_bind (wpAny_pyNext_zipD3_item Sp D1 D2 D3 zz q.ti to q.t1 q.t2 q.t3 (by omega) (by omega) (by omega) fun x1 x2 x3 h' tk b1 b2 b3 b4 b5 b6 b7 b8 b9 _ kp => ?_)
      refine nxt x1 x2 x3 h' tk b1 b2 b3 ⟨s.heap.objs.size, false, ?_, b4⟩ ⟨_, _, _, b5⟩ b6 b7 b8 b9 kp (kp _ _ Sp.TIz Sp.TITO Sp.TIi1 Sp.TIi2 Sp.TIi3 q.ti)
      rw [Array.getElem?_push, if_pos (by rw [q.size, e0])]
    · obtain ⟨T', y1, y2, y3, e2, e3, e4, _⟩ := q.at_ 0 e0
      obtain rfl : T' = T := by rw [e1] at e2; injection e2 with e2; injection e2 with e2; exact e2.symm
      obtain ⟨a1, a2, a3, to⟩ := q.to
      refine wpAny_bind (next3_item Sp D1 D2 D3 zz e4 q.ti q.t1 q.t2 q.t3 (by omega) (by omega) (by omega) fun x1 x2 x3 h' tk b1 b2 b3 b4 b6 b7 b8 b9 kp => ?_)
      refine nxt x1 x2 x3 h' tk b1 b2 b3 ⟨T', true, ?_, b4⟩ ⟨_, _, _, kp _ _ Sp.TOz Sp.Ti1 Sp.Ti2 Sp.Ti3 to⟩ b6 b7 b8 b9 (fun c o c0 _ c1 c2 c3 e => kp c o c0 c1 c2 c3 e) (kp _ _ Sp.TIz Sp.TIi1 Sp.TIi2 Sp.TIi3 q.ti)
      rw [Array.getElem?_push, if_neg (by rw [q.size]; omega)]
      exact e1
end
theorem zip_no_len0 : typeLookup (.type "zip") "__len__" = pure none := by rw [typeLookup_type, builtinLookup_eq_fast]; kernel_rfl
theorem zip_no_hint0 : typeLookup (.type "zip") "__length_hint__" = pure none := by rw [typeLookup_type, builtinLookup_eq_fast]; kernel_rfl
section
variable {prog : Program} {w : World} {A : Around} {E : Value → Shared → Prop} {s : Shared} {R : Result → Shared → Prop} {x y u : Array Value} {z TI TO i1 i2 i3 a b c S : Addr}
theorem zip_type {i : Nat} {acc : Array Value} (q : Z3 x y u z TI TO i1 i2 i3 a b c S i acc s.heap) : s.TypeIs (.ref z) "zip" := by
  rcases q.zip with ⟨_, e⟩ | ⟨_, _, _, _, e⟩
  · exact ⟨_, e, rfl⟩
  · exact ⟨_, e, rfl⟩
theorem extend3 (hh : A.handled = none) (Sp : ZipSep3 z TI TO i1 i2 i3 [i1, a] [i2, b] [i3, c]) (L : Lo9 z TI TO i1 i2 i3 a b c S) (n1 : a ≠ i1) (n2 : b ≠ i2) (n3 : c ≠ i3) (n : Nat) (hn : n = min (min x.size y.size) u.size) (hz : n ≤ sizeLine) (res : Value) {c0 : Nat}
    (q : Z3 x y u z TI TO i1 i2 i3 a b c S 0 #[] s.heap) (hS : s.heap.get? S = some { cls := .type "list", dict := none, data := .seq #[] c0, slots := #[] })
    (hR : ∀ h' tk, Z3Fin x y u z TO i1 i2 i3 S n s.heap h' → R (.ok (.ret res)) { s with heap := h', toks := tk }) :
    wpAny (model prog w) A.in1 (Builtin.List.listExtendWith (.ref S) (.ref z) res) (fun fin s' => match fin with | .done f => R (.ok f) s' | .again c' => c'.quiet = true ∧ codeAny (model prog w) A c' R s') (fun e s' => R (.error e) s') s := by
  have ty := zip_type q
  have ne : S ≠ z := Nat.ne_of_gt L.z
  unfold Builtin.List.listExtendWith
  refine wpAny_bind (wpAny_typeOf ty ?_)
  have e1 : (Builtin.List.listSameRef (.ref S) (.ref z) || Value.type "zip" == Value.type "list" || Value.type "zip" == Value.type "tuple") = false := by
    have : Builtin.List.listSameRef (.ref S) (.ref z) = false := by simp [Builtin.List.listSameRef, ne]
    rw [this]; decide
  simp only [e1, Bool.false_eq_true, if_false]
  have it : ∀ {E : Value → Shared → Prop} {Q : Value → Shared → Prop}, Q (.ref z) s → wpAny (model prog w) A.in1 (pyIter (.ref z)) Q E s := fun hq => by
    rcases q.zip with ⟨_, e⟩ | ⟨_, _, e, _⟩
    · exact wpAny_pyIter_zip e hq
    · simp at e
  refine wpAny_bind (it (wpAny_bind (wpAny_holding ?_)))
  unfold Builtin.List.listLengthHint
  refine wpAny_bind (wpAny_specialOf ty zip_no_len0 ?_)
  show wpAny _ A.in1 (specialOf (Value.ref z) (Str.ofString "__length_hint__") >>= _) _ _ _; refine wpAny_bind (wpAny_specialOf ty zip_no_hint0 (wpAny_pure ?_))
  show wpAny _ A.in1 (rule "list.extend.makes-room" >>= fun _ => Builtin.List.listTouch (.ref S) >>= fun _ => again (.builtin "list.extend.loop" ⟨[.ref S, .ref z, res], []⟩)) _ _ _
  refine wpAny_bind (wpAny_rule (wpAny_bind ?_))
  show wpAny _ A.in1 (updateSeq S (·.push .none) >>= fun _ => updateSeq S (·.pop)) _ _ _; refine wpAny_bind (wpAny_updateSeq hS rfl ?_)
  have g2 := Heap.get?_update_self (Obj.mapSeq (·.push Value.none)) hS rfl
  refine wpAny_updateSeq (hz := by seq_fits) g2 rfl ?_
  have g3 := Heap.get?_update_self (Obj.mapSeq (·.pop)) g2 rfl
  have oth : ∀ b o, b ≠ S → s.heap.get? b = some o → ((s.heap.update S (Obj.mapSeq (·.push Value.none))).update S (Obj.mapSeq (·.pop))).get? b = some o := fun b o hb e => (Heap.get?_update_other _ _ (Ne.symm hb)).trans ((Heap.get?_update_other _ _ (Ne.symm hb)).trans e)
  refine wpAny_pure ⟨plainId_quiet F.plain_extend_loop _, loop3 hh Sp L n1 n2 n3 n hn hz res n 0 _ #[] _ rfl (Nat.zero_le _) (q.keep L oth) g3 (Heap.lt_size g3) fun h' tk r => hR h' tk ⟨r.lst, fun c o c0 cT c1 c2 c3 cS e => r.kp c o c0 cT c1 c2 c3 cS (oth c o cS e)⟩⟩
theorem call_list3 {Q : Value → Shared → Prop} (hh : A.handled = none) (Sp : ZipSep3 z TI TO i1 i2 i3 [i1, a] [i2, b] [i3, c]) (n1 : a ≠ i1) (n2 : b ≠ i2) (n3 : c ≠ i3) (n : Nat) (hn : n = min (min x.size y.size) u.size) (hz : n ≤ sizeLine)
    (q : Z3 x y u z TI TO i1 i2 i3 a b c s.heap.objs.size 0 #[] s.heap) (L : Lo9 z TI TO i1 i2 i3 a b c s.heap.objs.size) (k : ∀ h' tk, Z3Fin x y u z TO i1 i2 i3 s.heap.objs.size n s.heap h' → Q (.ref s.heap.objs.size) { s with heap := h', toks := tk }) :
    wpAny (model prog w) A (call (.type "list") [.ref z]) Q E s := by
  refine callType_codes (Q₁ := fun ob s₁ => ob = .ref s.heap.objs.size ∧ s₁ = { s with heap := s.heap.push { cls := .type "list", data := .seq #[] } }) F.called_list (F.typeCall_list_1 _) F.entry_list_init (code_list_new _ ⟨rfl, rfl⟩) fun ob s₁ h₁ => ?_
  obtain ⟨rfl, rfl⟩ := h₁
  have hS : (s.heap.push { cls := .type "list", data := .seq #[] }).get? s.heap.objs.size = some { cls := .type "list", data := .seq #[] } := Heap.get?_push_size _ rfl
  have up : ∀ b o, s.heap.get? b = some o → (s.heap.push { cls := .type "list", data := .seq #[] }).get? b = some o := fun b o e => Heap.get?_push_of_some _ e
  refine ⟨⟨_, hS, rfl⟩, F.args_list_init_2 _ _, ?_⟩
  show wpAny _ A.in1.in1 (do let old ← Builtin.List.listItems (.ref s.heap.objs.size); Builtin.List.listUpdate (.ref s.heap.objs.size) (fun _ => #[]); letGo old.toList.reverse; Builtin.List.listExtendWith (.ref s.heap.objs.size) (.ref z) .none) _ _ _
  refine wpAny_bind ?_; unfold Builtin.List.listItems; refine wpAny_bind (wpAny_seqItems hS rfl (wpAny_pure ?_))
  show wpAny _ A.in1.in1 (updateSeq s.heap.objs.size (fun _ => #[]) >>= fun _ => letGo (#[] : Array Value).toList.reverse >>= fun _ => Builtin.List.listExtendWith (.ref s.heap.objs.size) (.ref z) .none) _ _ _
  refine wpAny_bind (wpAny_updateSeq hS rfl ?_)
  have g2 := Heap.get?_update_self (Obj.mapSeq (fun _ => (#[] : Array Value))) hS rfl
  have oth : ∀ b o, b ≠ s.heap.objs.size → s.heap.get? b = some o → ((s.heap.push { cls := .type "list", data := .seq #[] }).update s.heap.objs.size (Obj.mapSeq (fun _ => (#[] : Array Value)))).get? b = some o := fun b o hb e => (Heap.get?_update_other _ _ (Ne.symm hb)).trans (up b o e)
  refine wpAny_bind (wpAny_letGo ?_)
  refine extend3 (A := A.in1) hh Sp L n1 n2 n3 n hn hz .none (q.keep L oth) g2 fun h' tk r => ⟨rfl, k h' tk ⟨r.lst, fun c o c0 cT c1 c2 c3 cS e => r.kp c o c0 cT c1 c2 c3 cS (oth c o cS e)⟩⟩
end
end Pf
end
section
set_option Elab.async false
set_option linter.all false
set_option maxRecDepth 100000
set_option maxHeartbeats 2000000
namespace Pf
open PySem PySem.Spec PyProof.Rows L2
theorem relv_one {v v' : V} {u : Value} (h : RelV v u) (h' : RelV v' u) : v = v' := by
  cases v with
  | non => cases (show u = Value.none from h); cases v' with
    | non => rfl
    | bl _ => cases h'
    | ref _ => cases h'
    | ty _ => cases h'
    | _ => obtain ⟨t, e⟩ := h'; cases e
  | bl b => cases (show u = Value.bool b from h); cases v' with
    | non => cases h'
    | bl _ => cases h'; rfl
    | ref _ => cases h'
    | ty _ => cases h'
    | _ => obtain ⟨t, e⟩ := h'; cases e
  | ref b => cases (show u = Value.ref b from h); cases v' with
    | non => cases h'
    | bl _ => cases h'
    | ref _ => cases h'; rfl
    | ty _ => cases h'
    | _ => obtain ⟨t, e⟩ := h'; cases e
  | ty b => cases (show u = Value.type b from h); cases v' with
    | non => cases h'
    | bl _ => cases h'
    | ref _ => cases h'
    | ty _ => cases h'; rfl
    | _ => obtain ⟨t, e⟩ := h'; cases e
  | int i =>
    obtain ⟨t, rfl⟩ := h
    cases v' with
    | non => cases h'
    | bl _ => cases h'
    | ref _ => cases h'
    | ty _ => cases h'
    | int _ => obtain ⟨t, e⟩ := h'; cases e; rfl
    | _ => obtain ⟨t, e⟩ := h'; cases e
  | str i =>
    obtain ⟨t, rfl⟩ := h
    cases v' with
    | non => cases h'
    | bl _ => cases h'
    | ref _ => cases h'
    | ty _ => cases h'
    | str _ => obtain ⟨t, e⟩ := h'; cases e; rfl
    | _ => obtain ⟨t, e⟩ := h'; cases e
  | byt i =>
    obtain ⟨t, rfl⟩ := h
    cases v' with
    | non => cases h'
    | bl _ => cases h'
    | ref _ => cases h'
    | ty _ => cases h'
    | byt _ => obtain ⟨t, e⟩ := h'; cases e; rfl
    | _ => obtain ⟨t, e⟩ := h'; cases e
  | flt i =>
    obtain ⟨t, rfl⟩ := h
    cases v' with
    | non => cases h'
    | bl _ => cases h'
    | ref _ => cases h'
    | ty _ => cases h'
    | flt _ => obtain ⟨t, e⟩ := h'; cases e; rfl
    | _ => obtain ⟨t, e⟩ := h'; cases e
theorem ltn {d N k : Nat} (h : d < N) : d ≠ N + k := by omega
theorem gtn {T N : Nat} (h : N + 6 < T) : N ≤ T := by omega
theorem gte {T N : Nat} (h : N + 6 < T) : T ≠ N + 6 := by omega
theorem gtl {T N d : Nat} (h : N + 6 < T) (h2 : d < N) : T ≠ d := by omega
/-- several new objects at once -/
theorem inv_many {X : Cx} {pins : List (Addr × Obj)} {σ : L2.St} {H H' : Hp} {s : Shared} {h' : Heap} {t' : Nat} (I : Inv X pins σ H s) (k : ∀ b u, s.heap.get? b = some u → h'.get? b = some u) (ex : Ex H H') (fr : ∀ b, b < s.heap.objs.size → H b = none → H' b = none) (new : ∀ b u, H' b = some u → H b = none → ObjOk X.prog X.w H' h' b u) :
    Inv X pins σ H' { s with heap := h', toks := t' } := by
  refine I.un ⟨fun b u q _ _ _ => k b u q, fun b u q _ _ _ => ⟨u.slots, k b u q⟩, fun b u q n _ => fr b (Heap.lt_size q) n, fun b u q _ => ⟨u, k b u q⟩, fun b xs q => ex _ _ q, fun b u xs q => ex _ _ q, fun b ps q => ⟨#[], by rw [ex _ _ q]; simp⟩⟩ fun b u e => ?_
  cases hb : H b with
  | none => exact new b u e hb
  | some o =>
    have e2 := ex _ _ hb
    rw [e] at e2
    obtain rfl : u = o := Option.some.inj e2
    exact (I.hok b u hb).stay (fun c v _ q => k c v q) (fun c q => ex _ _ q) fun c xs q => ex _ _ q
/-- list(zip(x, y, u)) of tuples -/
def tLstZ3 (K : PySem.W.Frag) (ta : TA) : TE := fun σ H Q => ta σ H fun vs H1 => ∃ (a b c : Addr) (xs ys us : List V), vs = [V.ref a, V.ref b, V.ref c] ∧ SqT K H1 a xs ∧ SqT K H1 b ys ∧ SqT K H1 c us ∧ min (min xs.length ys.length) us.length ≤ 100000 ∧
  ∀ S H2 (refs : List V), H1 S = none → Ex H1 H2 → H2 S = some (.lst refs) → refs.length = min (min xs.length ys.length) us.length → (∀ (j : Nat) r, refs[j]? = some r → ∃ T x1 x2 x3, r = V.ref T ∧ H1 T = none ∧ H2 T = some (.tup [x1, x2, x3]) ∧ xs[j]? = some x1 ∧ ys[j]? = some x2 ∧ us[j]? = some x3) → Q (.ref S) H2
theorem boot_list0 : bootBuiltins "list" = some (.type "list") := by decide +kernel
theorem pe_lstZ3 {X : Cx} {e1 e2 e3 : Expr} {ta : TA} {p p2 pos pos2 : Pos} (hc : X.calm = true) (hg : Gl X "list") (hm : X.mg "list" = none) (hg2 : Gl X "zip") (hm2 : X.mg "zip" = none) (ha : PA X [e1, e2, e3] ta)
    (hs : starEach [e1, e2, e3] X.env = (false, eval e1 X.env) :: starEach [e2, e3] X.env := by rfl) (hpl : (backTo pos2 (starEach [e2, e3] X.env)).any (·.1) = false := by rfl) (hs2 : starEach [.Call (.Name "zip" p2) [e1, e2, e3] [] pos2] X.env = (false, eval (.Call (.Name "zip" p2) [e1, e2, e3] [] pos2) X.env) :: starEach [] X.env := by rfl) :
    PE X (.Call (.Name "list" p) [.Call (.Name "zip" p2) [e1, e2, e3] [] pos2] [] pos) (tLstZ3 X.K ta) := by
  refine ⟨fun pins s σ H Q I h => ?_⟩
  refine Call_ (ld_blt I hg hm boot_list0 (PyProof.Rows.callWith_type1 (args_cons (Call_ (ld_blt I hg2 hm2 PyProof.Rows.boot_zip (PyProof.Rows.callWith_type1 (thn (ha.run pos2 pins s σ H _ I h) fun us s1 ⟨vs, H1, I1, r1, q1⟩ => ?_) hs hpl))) hs2) hs2))
  obtain ⟨a, b, c, xs, ys, uu, rfl, hx, hy, hu, hz, q⟩ := q1
  obtain ⟨v1, w1, rfl, rv1, r1⟩ : ∃ v w, us = v :: w ∧ RelV (.ref a) v ∧ Vals [.ref b, .ref c] w := by cases r1 with | cons r rr => exact ⟨_, _, rfl, r, rr⟩
  obtain ⟨v2, w2, rfl, rv2, r1⟩ : ∃ v w, w1 = v :: w ∧ RelV (.ref b) v ∧ Vals [.ref c] w := by cases r1 with | cons r rr => exact ⟨_, _, rfl, r, rr⟩
  obtain ⟨v3, w3, rfl, rv3, r1⟩ : ∃ v w, w2 = v :: w ∧ RelV (.ref c) v ∧ Vals [] w := by cases r1 with | cons r rr => exact ⟨_, _, rfl, r, rr⟩
  cases r1
  obtain rfl : v1 = .ref a := rv1
  obtain rfl : v2 = .ref b := rv2
  obtain rfl : v3 = .ref c := rv3
  obtain ⟨xi, rx, px, _⟩ := I1.tuple hx
  obtain ⟨yi, ry, py, _⟩ := I1.tuple hy
  obtain ⟨ui, ru, pu, _⟩ := I1.tuple hu
  have lx := rx.length
  have ly := ry.length
  have lu := ru.length
  obtain ⟨ox, gx, cx, nx, dx⟩ := id px
  obtain ⟨oy, gy, cy, ny, dy⟩ := id py
  obtain ⟨ou, gu, cu, nu, du⟩ := id pu
  have la := Heap.lt_size gx
  have lb := Heap.lt_size gy
  have lc := Heap.lt_size gu
  refine zip_begins3 (begins_tuple a xi.toArray) (begins_tuple b yi.toArray) (begins_tuple c ui.toArray) px py pu fun h1 gz gTI gTO g1 g2 g3 sz kp => args_nil ?_
  have Sp : ZipSep3 (s1.heap.objs.size + 5) (s1.heap.objs.size + 3) (s1.heap.objs.size + 4) s1.heap.objs.size (s1.heap.objs.size + 1) (s1.heap.objs.size + 2) [s1.heap.objs.size, a] [s1.heap.objs.size + 1, b] [s1.heap.objs.size + 2, c] :=
    zip_sep3 (fp1 := [a]) (fp2 := [b]) (fp3 := [c]) (fun d hd => by rw [List.mem_singleton.mp hd]; exact la) (fun d hd => by rw [List.mem_singleton.mp hd]; exact lb) (fun d hd => by rw [List.mem_singleton.mp hd]; exact lc)
  have hh := I1.ok.hd hc
  refine call_list3 (s := { s1 with heap := h1 }) (x := xi.toArray) (y := yi.toArray) (u := ui.toArray) (a := a) (b := b) (c := c) hh Sp (Nat.ne_of_lt la) (Nat.ne_of_lt (Nat.lt_succ_of_lt lb)) (Nat.ne_of_lt (Nat.lt_succ_of_lt (Nat.lt_succ_of_lt lc))) (min (min xs.length ys.length) uu.length) (by simp only [List.size_toArray]; rw [lx, ly, lu]) (sz6 hz)
    ⟨.inl ⟨rfl, gz⟩, gTI, ⟨_, _, _, gTO⟩, ⟨⟨_, g1, rfl, rfl⟩, px.keeps kp⟩, ⟨⟨_, g2, rfl, rfl⟩, py.keeps kp⟩, ⟨⟨_, g3, rfl, rfl⟩, pu.keeps kp⟩, rfl, fun j hj => absurd hj (Nat.not_lt_zero _)⟩ ?_ fun h2 tk r => ?_
  · show Lo9 (s1.heap.objs.size + 5) (s1.heap.objs.size + 3) (s1.heap.objs.size + 4) s1.heap.objs.size (s1.heap.objs.size + 1) (s1.heap.objs.size + 2) a b c h1.objs.size
    rw [sz]
    have m : s1.heap.objs.size < s1.heap.objs.size + 6 := Nat.lt_add_of_pos_right (by decide)
    exact ⟨Nat.add_lt_add_left (by decide) _, Nat.add_lt_add_left (by decide) _, Nat.add_lt_add_left (by decide) _, m, Nat.add_lt_add_left (by decide) _, Nat.add_lt_add_left (by decide) _, Nat.lt_trans la m, Nat.lt_trans lb m, Nat.lt_trans lc m⟩
  · have r' : Z3Fin xi.toArray yi.toArray ui.toArray (s1.heap.objs.size + 5) (s1.heap.objs.size + 4) s1.heap.objs.size (s1.heap.objs.size + 1) (s1.heap.objs.size + 2) h1.objs.size (min (min xs.length ys.length) uu.length) h1 h2 := r
    obtain ⟨⟨acc, cc, gS, asz, at_⟩, kp2⟩ := r'
    rw [sz] at gS at_ kp2
    show EP X pins σ Q (.ref h1.objs.size) _
    rw [sz]
    have kk : ∀ d o, s1.heap.get? d = some o → h2.get? d = some o := fun d o e => by
      have l := Heap.lt_size e
      exact kp2 d o (ltn l) (ltn l) (Nat.ne_of_lt l) (ltn l) (ltn l) (ltn l) (kp d o e)
    have hfr : ∀ d, s1.heap.objs.size ≤ d → H1 d = none := fun d hd => I1.hok.fresh hd
    have hat : ∀ j, j < min (min xs.length ys.length) uu.length → ∃ T x1 x2 x3 v1 v2 v3, acc[j]? = some (.ref T) ∧ s1.heap.objs.size + 6 < T ∧ IsTupOf3 h2 T v1 v2 v3 ∧ xs[j]? = some x1 ∧ ys[j]? = some x2 ∧ uu[j]? = some x3 ∧ RelV x1 v1 ∧ RelV x2 v2 ∧ RelV x3 v3 := fun j hj => by
      obtain ⟨T, v1, v2, v3, e1, e2, e3, e4, e5, e6⟩ := at_ j hj
      have k1 : j < xs.length := by omega
      have k2 : j < ys.length := by omega
      have k3 : j < uu.length := by omega
      obtain ⟨w1, f1, g1⟩ := rx.get (List.getElem?_eq_getElem k1)
      obtain ⟨w2, f2, g2⟩ := ry.get (List.getElem?_eq_getElem k2)
      obtain ⟨w3, f3, g3⟩ := ru.get (List.getElem?_eq_getElem k3)
      have t1 : xi[j]? = some v1 := by simpa using e4
      have t2 : yi[j]? = some v2 := by simpa using e5
      have t3 : ui[j]? = some v3 := by simpa using e6
      rw [f1] at t1; rw [f2] at t2; rw [f3] at t3
      obtain rfl := Option.some.inj t1
      obtain rfl := Option.some.inj t2
      obtain rfl := Option.some.inj t3
      exact ⟨T, _, _, _, _, _, _, e1, e2, e3, List.getElem?_eq_getElem k1, List.getElem?_eq_getElem k2, List.getElem?_eq_getElem k3, g1, g2, g3⟩
    let Ta : Nat → Addr := fun j => match acc[j]? with
      | some (.ref T) => T
      | _ => 0
    let n := min (min xs.length ys.length) uu.length
    let H2 : Hp := fun d => if d = s1.heap.objs.size + 6 then some (.lst ((List.range n).map fun j => V.ref (Ta j))) else match (List.range n).find? (fun j => Ta j == d) with
      | some j => some (.tup [xs.getD j .non, ys.getD j .non, uu.getD j .non])
      | none => H1 d
    have hTa : ∀ j T, acc[j]? = some (.ref T) → Ta j = T := fun j T e => by show (match acc[j]? with | some (.ref T) => T | _ => 0) = T; rw [e]
    have hbig : ∀ j, j < n → s1.heap.objs.size + 6 < Ta j := fun j hj => by
      obtain ⟨T, x1, x2, x3, v1, v2, v3, e1, e2, _⟩ := hat j hj
      rw [hTa j T e1]; exact e2
    have hS2 : H2 (s1.heap.objs.size + 6) = some (.lst ((List.range n).map fun j => V.ref (Ta j))) := if_pos rfl
    have hold : ∀ d, (∀ j, j < n → Ta j ≠ d) → d ≠ s1.heap.objs.size + 6 → H2 d = H1 d := fun d hd hs' => by
      show (if d = s1.heap.objs.size + 6 then _ else _) = _
      rw [if_neg hs']
      have : (List.range n).find? (fun j => Ta j == d) = none := List.find?_eq_none.mpr fun j hj => by
        have := hd j (List.mem_range.mp hj)
        simpa using this
      rw [this]
    have htup : ∀ j T x1 x2 x3 v1 v2 v3, j < n → acc[j]? = some (.ref T) → s1.heap.objs.size + 6 < T → IsTupOf3 h2 T v1 v2 v3 → xs[j]? = some x1 → ys[j]? = some x2 → uu[j]? = some x3 → RelV x1 v1 → RelV x2 v2 → RelV x3 v3 → H2 T = some (.tup [x1, x2, x3]) := fun j T x1 x2 x3 v1 v2 v3 hj e1 e2 e3 e4 e5 e6 e7 e8 e9 => by
      show (if T = s1.heap.objs.size + 6 then _ else _) = _
      rw [if_neg (gte e2)]
      cases hf : (List.range n).find? (fun j => Ta j == T) with
      | none =>
        have := List.find?_eq_none.mp hf j (List.mem_range.mpr hj)
        rw [hTa j T e1] at this
        simp at this
      | some m =>
        have hm := List.mem_range.mp (List.mem_of_find?_eq_some hf)
        have hmT : Ta m = T := by simpa using List.find?_some hf
        obtain ⟨T', y1, y2, y3, w1, w2, w3, f1, f2, f3, f4, f5, f6, f7, f8, f9⟩ := hat m hm
        rw [hTa m T' f1] at hmT
        subst hmT
        have f3' : h2.get? T' = some { cls := .type "tuple", data := .seq #[w1, w2, w3] } := f3
        rw [show h2.get? T' = some { cls := .type "tuple", data := .seq #[v1, v2, v3] } from e3] at f3'
        have f3'' := Option.some.inj f3'
        injection f3'' with _ _ f3'' _
        injection f3'' with f3'' _
        have f3'' : [v1, v2, v3] = [w1, w2, w3] := congrArg Array.toList f3''
        injection f3'' with q1 f3''
        injection f3'' with q2 f3''
        injection f3'' with q3 _
        subst q1 q2 q3
        have r1 := relv_one e7 f7
        have r2 := relv_one e8 f8
        have r3 := relv_one e9 f9
        subst r1 r2 r3
        show some (HO.tup [xs.getD m .non, ys.getD m .non, uu.getD m .non]) = _
        rw [List.getD_eq_getElem?_getD, List.getD_eq_getElem?_getD, List.getD_eq_getElem?_getD, f4, f5, f6]
        rfl
    have exH : Ex H1 H2 := fun d o e => by
      rw [hold d (fun j hj e2 => ?_) fun e2 => ?_]
      · exact e
      · have := hbig j hj
        rw [e2] at this
        rw [hfr d (gtn this)] at e; cases e
      · rw [e2, hfr _ (Nat.le_add_right _ _)] at e; cases e
    have I2 : Inv X pins σ H2 { s1 with heap := h2, toks := tk } := by
      refine inv_many I1 kk exH (fun d hd hn => ?_) fun d o e hn => ?_
      · rw [hold d (fun j hj e2 => gtl (hbig j hj) hd e2) (ltn hd)]
        exact hn
      · by_cases hdS : d = s1.heap.objs.size + 6
        · subst hdS
          rw [hS2] at e
          obtain rfl := Option.some.inj e
          refine ⟨by rw [List.length_map, List.length_range]; exact sz6 hz, acc.toList, cc, ?_, by rw [Array.toArray_toList]; exact gS⟩
          refine vals_of_at (by rw [List.length_map, List.length_range]; exact asz.symm) fun j x u e1 e2 => ?_
          have hj : j < n := by
            have := (List.getElem?_eq_some_iff.mp e1).1
            rw [List.length_map, List.length_range] at this
            exact this
          rw [List.getElem?_map, List.getElem?_range hj] at e1
          obtain rfl : V.ref (Ta j) = x := Option.some.inj e1
          obtain ⟨T, x1, x2, x3, v1, v2, v3, f1, _⟩ := hat j hj
          rw [hTa j T f1]
          have e2' : acc[j]? = some u := by simpa using e2
          rw [f1] at e2'
          exact (Option.some.inj e2').symm
        · cases hf : (List.range n).find? (fun j => Ta j == d) with
          | none =>
            have : H2 d = H1 d := by
              show (if d = s1.heap.objs.size + 6 then _ else _) = _
              rw [if_neg hdS, hf]
            rw [this, hn] at e
            cases e
          | some m =>
            have hm := List.mem_range.mp (List.mem_of_find?_eq_some hf)
            have hmT : Ta m = d := by simpa using List.find?_some hf
            obtain ⟨T', y1, y2, y3, w1, w2, w3, f1, f2, f3, f4, f5, f6, f7, f8, f9⟩ := hat m hm
            rw [hTa m T' f1] at hmT
            subst hmT
            rw [htup m T' y1 y2 y3 w1 w2 w3 hm f1 f2 f3 f4 f5 f6 f7 f8 f9] at e
            obtain rfl := Option.some.inj e
            exact ⟨by show 3 ≤ sizeLine; decide, [w1, w2, w3], .cons f7 (.cons f8 (.cons f9 .nil)), _, f3, rfl, _, rfl⟩
    refine ⟨.ref (s1.heap.objs.size + 6), H2, I2, rfl, q _ H2 _ (hfr _ (Nat.le_add_right _ _)) exH hS2 (by rw [List.length_map, List.length_range]) fun j r e => ?_⟩
    have hj : j < n := by
      have := (List.getElem?_eq_some_iff.mp e).1
      rw [List.length_map, List.length_range] at this
      exact this
    rw [List.getElem?_map, List.getElem?_range hj] at e
    obtain rfl : V.ref (Ta j) = r := Option.some.inj e
    obtain ⟨T, x1, x2, x3, v1, v2, v3, f1, f2, f3, f4, f5, f6, f7, f8, f9⟩ := hat j hj
    exact ⟨T, x1, x2, x3, by rw [hTa j T f1], hfr T (gtn f2), htup j T x1 x2 x3 v1 v2 v3 hj f1 f2 f3 f4 f5 f6 f7 f8 f9, f4, f5, f6⟩
end Pf
end
section
set_option Elab.async false
set_option linter.all false
set_option maxRecDepth 100000
set_option maxHeartbeats 2000000
namespace Pf
open PySem PySem.Spec PyProof.Rows L2 RZ
/-! ### what makes new remembering dicts -/
theorem zip_fst {ds : List Addr} {mis : List Mi} (h : ds.length = mis.length) : (ds.zip mis).map (·.1) = ds := List.map_fst_zip (Nat.le_of_eq h)
theorem zip_in {ds : List Addr} {mis : List Mi} {p : Addr × Mi} (hp : p ∈ ds.zip mis) : p.1 ∈ ds := (List.of_mem_zip hp).1
theorem inM_zip {ds : List Addr} {mis : List Mi} {a : Addr} (h : inM (ds.zip mis) a = true) : a ∈ ds := by
  obtain ⟨p, hp, rfl⟩ := inM_ex h
  exact zip_in hp
theorem inM_app (M M' : Ml) (a : Addr) : inM (M ++ M') a = (inM M a || inM M' a) := by unfold inM; rw [List.any_append]
theorem inM_zip_of {ds : List Addr} {mis : List Mi} (h : ds.length = mis.length) {a : Addr} (ha : a ∈ ds) : inM (ds.zip mis) a = true := by
  rw [← zip_fst h] at ha
  obtain ⟨p, hp, rfl⟩ := List.mem_map.mp ha
  exact inM_of hp
/-- an expression that makes new remembering dicts ds, their invariants mis -/
def XEm (g : Pg) (C : Ct) (M : Ml) (δ : Sd) (e : Expr) (mis : List Mi) (R : List Addr → Ty) : Prop := ∀ (Z : Addr → Bool) (σ : L2.St) (H : Hp), Sl (out (Zm Z M) H) δ σ → Amb Z M H → ∀ Q : VK,
  (∀ v H' ds, ds.length = mis.length → (∀ d ∈ ds, H d = none) → Ex (out (Zm Z M) H) (out (Zm Z (M ++ ds.zip mis)) H') → Fr M H H' → Amb Z (M ++ ds.zip mis) H' → (R ds).p (out (Zm Z (M ++ ds.zip mis)) H') v → Q v H') → wE g C e σ H Q
section
variable {g : Pg} {C : Ct} {q q' : Sta} {P : Po} {e a b c o iter tg : Expr} {es : List Expr} {st : Stmt} {sts rest body : List Stmt} {pos p p1 p2 p3 p4 apos cpos : Pos} {T Ta Tb : Ty} {Ts : List Ty} {x : Str} {i j k : Nat} {M : Ml} {δ δ' : Sd} {ts : List Nat} {t : TG} {mis : List Mi} {R : List Addr → Ty}
theorem XEm.to0 (h : XEm g C M δ e [] R) : XE g C M δ e (R []) := fun Z σ H hs hA Q kk => h Z σ H hs hA Q fun v H' ds hl hd ex f A t => by
  obtain rfl : ds = [] := List.eq_nil_of_length_eq_zero hl
  have e0 : M ++ ([] : List Addr).zip ([] : List Mi) = M := List.append_nil _
  rw [e0] at A t
  exact kk v H' f A t
/-- the state with the new dicts -/
theorem Hold.moreM {Z : Addr → Bool} {M0 : Ml} {H0 H H' : Hp} {G : List (V × Ty)} {σ : L2.St} {ds : List Addr} (hh : Hold Z M0 H0 G q σ H) (hl : ds.length = mis.length) (hd : ∀ d ∈ ds, H d = none) (ex : Ex (out (Zm (Zo Z q.O) q.M) H) (out (Zm (Zo Z q.O) (q.M ++ ds.zip mis)) H')) (f : Fr q.M H H') (A : Amb (Zo Z q.O) (q.M ++ ds.zip mis) H') :
    Hold Z M0 H0 G { q with M := q.M ++ ds.zip mis } σ H' where
  sl := hh.sl.mono ex
  amb := A
  own := fun p hp => (hh.own p hp).mono ex fun o e => f _ _ e (by
    cases e2 : inM q.M p.1 with
    | false => rfl
    | true =>
      obtain ⟨r, hr, e3⟩ := inM_ex e2
      have z := hh.amb.off r hr
      rw [e3] at z
      unfold Zo at z
      rw [inO_of hp, Bool.or_true] at z
      cases z)
  nd := hh.nd
  off := hh.off
  fr := fr_entry hh.newM hh.fr f
  newO := hh.newO
  newM := fun p hp => by
    rcases List.mem_append.mp hp with hp | hp
    · exact hh.newM p hp
    · cases e : H0 p.1 with
      | none => exact .inr rfl
      | some o =>
        have h1 := hd _ (zip_in hp)
        cases n : inM M0 p.1 with
        | false => rw [hh.fr _ _ e n] at h1; cases h1
        | true =>
          obtain ⟨r, hr, e3⟩ := inM_ex n
          obtain ⟨k, h2, _⟩ := hh.amb.memo r (hh.subM.subset hr)
          rw [e3, h1] at h2
          cases h2
  subM := hh.subM.trans (List.sublist_append_left _ _)
  gh := fun p hp => p.2.mono ex (hh.gh p hp)
theorem Hold.evM {Z : Addr → Bool} {M0 : Ml} {H0 H : Hp} {G : List (V × Ty)} {σ : L2.St} (hh : Hold Z M0 H0 G q σ H) (h : XEm g C q.M q.δ e mis R) {Q : VK} (k : ∀ v H' ds, ds.length = mis.length → Hold Z M0 H0 G { q with M := q.M ++ ds.zip mis } σ H' → (R ds).p (stb Z { q with M := q.M ++ ds.zip mis } H') v → Q v H') : wE g C e σ H Q :=
  h _ σ H hh.sl hh.amb Q fun v H' ds hl hd ex f A t => k v H' ds hl (hh.moreM hl hd ex f A) t
/-- x = e -/
theorem xs_setM (i : Nat) (h : XEm g C q.M q.δ e mis R) (k : ∀ ds, ds.length = mis.length → P.nx { q with δ := q.δ.set i (some (R ds)), M := q.M ++ ds.zip mis }) (hN : C.N.Nodup) (hi : C.N[i]? = some x := by rfl) (hx : ∀ j, Loc (C.env j).scope x := by intro _; first | exact Or.inl rfl | exact Or.inr rfl)
    (hs : ∀ j, swapsWith e (some (.Name x p)) pos.line (C.env j) = pure false := by intro _; rfl) (hf : ∀ j, C.fn j x = true ∨ (C.env j).scope.names.lookup x = some .local := by intro _; first | exact Or.inl rfl | exact Or.inr rfl) :
    XS g C q (.Assign [.Name x p] e pos) P := fun Z M0 H0 G σ H D hh m =>
  w_ps (t := tAsg (wE g C e) (gName i)) (hh.evM h fun v H' ds hl hh' t => m.nx _ _ _ (k ds hl) (hh'.sl' (Sl.set t i hh'.sl))) fun j => ps_set (X := C.X g j) hN hi (hx j) (pe_w j) (hs j) (hf j)
/-- a, b = e -/
theorem xs_unpackM (h : XEm g C q.M q.δ e mis R) (δ' : List Addr → Sd) (hg : ∀ ds, XG t (R ds) q.δ (δ' ds) ts) (k : ∀ ds, ds.length = mis.length → P.nx { q with δ := δ' ds, M := q.M ++ ds.zip mis }) (hp : ∀ j, PG (C.X g j) tg t) (hs : ∀ j, swapsWithSole [tg] e pos.line (C.env j) = pure false := by intro _; rfl) (hw : ∀ j, swappedStores [tg] e (C.env j) = pure none := by intro _; rfl)
    (h1 : ∀ j, (assignEach [tg] (C.env j)).map (·.2) = [assign tg (C.env j)] := by intro _; rfl) : XS g C q (.Assign [tg] e pos) P := fun Z M0 H0 G σ H D hh m =>
  w_ps (t := tAsg (wE g C e) t) (hh.evM h fun v H' ds hl hh' tt => hg ds (stb Z { q with M := q.M ++ ds.zip mis } H') H' v σ D.nx out_sub tt hh'.sl fun σ' s' _ => m.nx _ _ _ (k ds hl) (hh'.sl' s')) fun j => ps_asg (X := C.X g j) (pe_w j) (hp j) (hs j) (hw j) (h1 j)
/-- straight code that ends in a return with new dicts -/
def XBm (g : Pg) (C : Ct) (q : Sta) (sts : List Stmt) (K : Sta → Ty → Prop) : Prop := ∀ (Z : Addr → Bool) (M0 : Ml) (H0 : Hp) (G : List (V × Ty)) (σ : L2.St) (H : Hp) (D : Ends), Hold Z M0 H0 G q σ H →
  (∀ q' T v σ' H', K q' T → Hold Z M0 H0 G q' σ' H' → T.p (stb Z q' H') v → D.rt v H') → wB g C sts D σ H
variable {K : Sta → Ty → Prop}
theorem xbm_cons (h : XS g C q st { nx := fun q' => XBm g C q' rest K, rt := fun _ => False }) : XBm g C q (st :: rest) K := fun Z M0 H0 G σ H D hh m =>
  w_pss (t := tSeq (wS g C st) (wB g C rest)) (h Z M0 H0 G σ H _ hh ⟨fun q' σ' H' n h' => n Z M0 H0 G σ' H' D h' m, fun _ _ _ z _ => z.elim, fun _ _ _ z _ => z.elim, fun _ _ _ z _ => z.elim⟩) fun i => pss_cons (ps_w i) (pss_w i)
theorem xbm_ret (h : XE g C q.M q.δ e T) (k : K q T) : XBm g C q [.Return (some e) pos] K := fun Z M0 H0 G σ H D hh m =>
  w_pss (t := tRet (wE g C e)) (hh.ev h fun v H' hh' t => m q T v σ H' k hh' t) fun j => pss_one (ps_ret (pe_w j))
theorem xbm_retM (h : XEm g C q.M q.δ e mis R) (k : ∀ ds, ds.length = mis.length → K { q with M := q.M ++ ds.zip mis } (R ds)) : XBm g C q [.Return (some e) pos] K := fun Z M0 H0 G σ H D hh m =>
  w_pss (t := tRet (wE g C e)) (hh.evM h fun v H' ds hl hh' t => m _ _ v σ H' (k ds hl) hh' t) fun j => pss_one (ps_ret (pe_w j))
/-! ### the fields of an instance that is being made -/
theorem xs_fld {O1 O2 : Ol} {l Cl dx : Addr} {fs : List (Str × Ty)} {f : Str} (hO : q.O = O1 ++ (l, .ins Cl dx fs) :: O2) (ho : XE g C q.M q.δ o (tAt l)) (c : Cls g.K Cl) (nf : NoAttr g.K Cl f) (hl : fs.length < 1000) (h : XE g C q.M q.δ e T) (k : P.nx { q with O := O1 ++ (l, .ins Cl dx (putTy f T fs)) :: O2 })
    (hs : ∀ j, swapsWith e (some (.Attribute o f p)) pos.line (C.env j) = pure false := by intro _; rfl) : XS g C q (.Assign [.Attribute o f p] e pos) P := fun Z M0 H0 G σ H D hh m => by
  have ml : (l, Kd.ins Cl dx fs) ∈ q.O := by rw [hO]; simp
  refine w_ps (t := sFld g.K (wE g C o) (wE g C e) f) ?_ fun j => ps_fld (X := C.X g j) (pe_w j) (pe_w j) (hs j)
  refine hh.ev h fun v H1 h1 t1 => (h1.ghost t1).ev ho fun v2 H2 h2 t2 => ?_
  obtain rfl : v2 = .ref l := t2
  have t3 := h2.gh _ List.mem_cons_self
  have h3 := h2.unghost
  obtain ⟨vs, hv1, hv2⟩ := h3.own _ ml
  refine ⟨l, Cl, dx, vs, rfl, hv1, c, nf, by rw [hv2.length]; exact hl, m.nx _ _ _ k (h3.put hO fun B e => ⟨putF f v vs, upd_same, Fl.put (T.mono e t3) (hv2.mono e)⟩)⟩
/-- o.f = {}, a dict that will remember -/
theorem xs_fldD {O1 O2 : Ol} {l Cl dx : Addr} {fs : List (Str × Ty)} {f : Str} (hO : q.O = O1 ++ (l, .ins Cl dx fs) :: O2) (ho : XE g C [] q.δ o (tAt l)) (c : Cls g.K Cl) (nf : NoAttr g.K Cl f) (hl : fs.length < 1000) (k : ∀ d, P.nx { q with O := O1 ++ (l, .ins Cl dx (putTy f (tAt d) fs)) :: (O2 ++ [(d, .dct [])]) })
    (hs : ∀ j, swapsWith (.Dict [] [] p2) (some (.Attribute o f p)) pos.line (C.env j) = pure false := by intro _; rfl) : XS g C q (.Assign [.Attribute o f p] (.Dict [] [] p2) pos) P := fun Z M0 H0 G σ H D hh m => by
  refine w_ps (t := sFld g.K (wE g C o) tDNewT f) ?_ fun j => ps_fld (X := C.X g j) (pe_w j) pe_dnewT (hs j)
  intro d hd
  have h1 := hh.grow (u := .dT []) (kd := .dct []) hd fun B => upd_same
  refine h1.still ho fun v2 H2 h2 e2 t2 => ?_
  obtain rfl : v2 = .ref l := t2
  have hO2 : ({ q with O := q.O ++ [(d, .dct [])] } : Sta).O = O1 ++ (l, .ins Cl dx fs) :: (O2 ++ [(d, .dct [])]) := by
    show q.O ++ [(d, .dct [])] = _
    rw [hO]
    simp
  have ml : (l, Kd.ins Cl dx fs) ∈ ({ q with O := q.O ++ [(d, .dct [])] } : Sta).O := by rw [hO2]; simp
  obtain ⟨vs, hv1, hv2⟩ := h2.own _ ml
  exact ⟨l, Cl, dx, vs, rfl, hv1, c, nf, by rw [hv2.length]; exact hl, m.nx _ _ _ (k d) (Hold.put (q := { q with O := q.O ++ [(d, .dct [])] }) (kd := .ins Cl dx fs) (kd' := .ins Cl dx (putTy f (tAt d) fs)) hO2 h2 fun B e => ⟨putF f (.ref d) vs, upd_same, Fl.put (T := tAt d) rfl (hv2.mono e)⟩)⟩
def tAny : Ty := ⟨fun _ _ => True, fun _ h => h⟩
theorem xe_dnew : XE g C M δ (.Dict [] [] pos) tAny := fun Z σ H hs hA Q k => w_pe (t := tDNewT) (fun p hp => k _ _ (Fr.of_ex (Ex.new hp)) (hA.new hp) True.intro) fun _ => pe_dnewT
end
/-! ### defs that return new dicts; making instances -/
section
variable {g : Pg} {C : Ct} {q q' : Sta} {P : Po} {e a b c o iter tg : Expr} {es : List Expr} {st : Stmt} {sts rest body : List Stmt} {pos p p1 p2 p3 p4 apos cpos : Pos} {T Ta Tb : Ty} {Ts : List Ty} {x : Str} {i j k : Nat} {M : Ml} {δ δ' : Sd} {ps : List Str} {α : Type} {A : α → List Ty} {mis : α → List Mi} {R : α → List Addr → Ty}
/-- it returns something with new dicts -/
def spN {α : Type} (mis : α → List Mi) (A : α → List Ty) (R : α → List Addr → Ty) : Sp := fun vs H Q _ => ∃ (Z : Addr → Bool) (y : α), Al2 (out Z H) (A y) vs ∧ (∀ a, Z a = true → H a ≠ none) ∧
  ∀ v H' ds, ds.length = (mis y).length → (∀ d ∈ ds, H d = none) → Ex H H' → Amb Z (ds.zip (mis y)) H' → (R y ds).p (out (Zm Z (ds.zip (mis y))) H') v → Q v H'
theorem fn_okN {y : Str} {qual : Str} {params : Arguments} {body : List Stmt} {scope : Scope} {dvs : List V} {kws : List (Str × V)} {f : Addr} {fd : FuncData} {N : List Str} (F : FunD g.K y qual params body scope dvs kws f fd) (S : FnScope N ps scope) (len : ∀ z, (A z).length = ps.length)
    (hb : ∀ (cdv : Value) (Ar : Around) (outer : List Env) (s : Shared) (H : Hp) (z : α), Room k (Ar.deeper (envOfC qual scope s.heap.objs.size f cdv)) →
      XBm g (ctOf (cxOf CX0 g.P g.w g.K g.mg g.base N qual scope f cdv Ar outer s H E0)) (st0 N (A z) []) body (fun q T => ∃ ds, ds.length = (mis z).length ∧ q.O = [] ∧ q.M = ds.zip (mis z) ∧ T = R z ds)) : FnOk g.P g.w g.K g.mg g.base CX0 (k + 1) f fd ps (spN mis A R) := by
  refine F.ok S (fun vs H Q E h => ?_) fun cdv Ar outer s H vs Q E hr h => ?_
  · obtain ⟨Z, z, h1, _⟩ := h
    rw [h1.length, len]
  · obtain ⟨Z, z, h1, h2, kk⟩ := h
    have hv := h1.length
    have hl : (A z).length = ps.length := len z
    refine ⟨wB g (ctOf (cxOf CX0 g.P g.w g.K g.mg g.base N qual scope f cdv Ar outer s H E)) body, PSs.nox (pss_w (C := ctOf (cxOf CX0 g.P g.w g.K g.mg g.base N qual scope f cdv Ar outer s H E)) ()), ?_⟩
    have zo : Zo Z [] = Z := by funext a; simp [Zo, inO]
    refine hb cdv Ar outer s H z hr Z [] H [] _ H _ ⟨?_, ?_, (fun p hp => nomatch hp), List.nodup_nil, (fun p hp => nomatch hp), Fr.refl, (fun p hp => nomatch hp), (fun p hp => nomatch hp), .refl _, (fun p hp => nomatch hp)⟩ fun q T v σ' H' n hh t => ?_
    · show Sl (out (Zm (Zo Z []) []) H) _ _
      rw [zo, zm_nil]
      unfold L2.start
      rw [hv]
      exact sl_start h1
    · show Amb (Zo Z []) [] H
      rw [zo]
      exact amb_nil h2
    · obtain ⟨ds, h3, h4, h5, h6⟩ := n
      subst h6
      have amb := hh.amb
      rw [h4, h5, zo] at amb
      have t' : (R z ds).p (out (Zm (Zo Z q.O) q.M) H') v := t
      rw [h4, h5, zo] at t'
      refine kk v H' ds h3 (fun d hd => ?_) hh.fr.ex0 amb t'
      have : inM q.M d = true := by rw [h5]; exact inM_zip_of h3 hd
      obtain ⟨p, hp, rfl⟩ := inM_ex this
      rcases hh.newM p hp with r | r
      · exact nomatch r
      · exact r
theorem amb_join {Z : Addr → Bool} {M M' : Ml} {H H' : Hp} (hA : Amb Z M H) (e : Ex H H') (hd : ∀ p ∈ M', H p.1 = none) (A' : Amb (Zm Z M) M' H') : Amb Z (M ++ M') H' ∧ Zm Z (M ++ M') = Zm (Zm Z M) M' ∧ Ex (out (Zm Z M) H) (out (Zm Z (M ++ M')) H') := by
  have zz : ∀ a, Zm Z (M ++ M') a = Zm (Zm Z M) M' a := fun a => by unfold Zm; rw [inM_app, Bool.or_assoc]
  have z1 : Zm Z (M ++ M') = Zm (Zm Z M) M' := funext zz
  have ex : Ex (out (Zm Z M) H) (out (Zm Z (M ++ M')) H') := by
    rw [z1]
    refine out_mono (fun a z => ?_) fun a o _ h => e a o h
    have z' : (Zm Z M a || inM M' a) = true := z
    rw [Bool.or_eq_true] at z'
    rcases z' with z | z
    · exact .inl z
    · obtain ⟨p, hp, rfl⟩ := inM_ex z
      exact .inr (hd p hp)
  refine ⟨⟨fun p hp => ?_, fun a z => A'.here a (by unfold Zm; rw [z]; rfl), ?_, fun p hp => ?_⟩, z1, ex⟩
  · rcases List.mem_append.mp hp with hp | hp
    · obtain ⟨k, h1, h2⟩ := hA.memo p hp
      exact ⟨k, e _ _ h1, p.2.mono ex h2⟩
    · obtain ⟨k, h1, h2⟩ := A'.memo p hp
      exact ⟨k, h1, by rw [z1]; exact h2⟩
  · rw [List.map_append]
    refine List.nodup_append.mpr ⟨hA.nd, A'.nd, fun a ha b hb => ?_⟩
    intro e2
    obtain ⟨p, hp, rfl⟩ := List.mem_map.mp ha
    obtain ⟨p', hp', rfl⟩ := List.mem_map.mp hb
    obtain ⟨k, h1, _⟩ := hA.memo p hp
    rw [e2, hd p' hp'] at h1
    cases h1
  · rcases List.mem_append.mp hp with hp | hp
    · exact hA.off p hp
    · have z := A'.off p hp
      unfold Zm at z
      rw [Bool.or_eq_false_iff] at z
      exact z.1
structure FnN (g : Pg) (x : Str) (ps : List Str) (k : Nat) (sp : Sp) : Prop where
  ex : ∃ (f : Addr) (fd : FuncData), g.mg x = some (.ref f) ∧ PySem.W.keepIn g.K (.ref f) = true ∧ Binds g.K fd ps [] ∧ FnOk g.P g.w g.K g.mg g.base CX0 k f fd ps sp
/-- f(e, ..), with new dicts -/
theorem xe_callN (F : FnN g x ps k (spN mis A R)) (hr : ∀ i, Room k (C.A i)) (y : α) (ha : XA g C [] δ (e :: es) (A y)) (hg : ∀ j, (C.env j).kindOf x = some .globalImplicit := by intro _; rfl) (hdb : (x == ("__debug__" : Str)) = false := by decide)
    (he : ∀ j, starEach (e :: es) (C.env j) = (false, eval e (C.env j)) :: starEach es (C.env j) := by intro _; rfl) (hpl : ∀ j, (backTo pos (starEach es (C.env j))).any (·.1) = false := by intro _; rfl) : XEm g C M δ (.Call (.Name x p) (e :: es) [] pos) (mis y) (R y) := by
  obtain ⟨f, fd, h1, h2, h3, h4⟩ := F.ex
  intro Z σ H hsl hA Q kk
  refine w_pe (t := tCall (spN mis A R) [] E0 (wA g C (e :: es))) ?_ fun i => pe_call (X := C.X g i) h4 (hr i) (hg i) h1 h2 h3 .nil pass0 (pa_w i) hdb (he i) (hpl i)
  refine ha (Zm Z M) σ H (by rw [zm_nil]; exact hsl) (amb_nil (amb_z hA)) _ fun vs H1 f1 A1 t1 => ?_
  rw [List.append_nil]
  have e1 := f1.ex0
  have hA1 := hA.ex e1
  refine ⟨Zm Z M, y, by rw [zm_nil] at t1; exact t1, amb_z hA1, fun v H' ds hl hd ex A' t => ?_⟩
  obtain ⟨j1, j2, j3⟩ := amb_join hA1 ex (fun p hp => hd _ (zip_in hp)) A'
  refine kk v H' ds hl (fun d hdd => e1.free (hd d hdd)) ((Fr.out (Fr.of_ex e1)).trans j3) (Fr.of_ex (e1.trans ex)) j1 ?_
  rw [j2]
  exact t
/-- __init__: from a new instance at x -/
def spI {α : Type} (Cl : Addr) (mis : α → List Mi) (A : α → List Ty) (R : α → List Addr → Ty) : Sp := fun vs H Q _ => ∃ (Z : Addr → Bool) (y : α) (x dx : Addr) (H2 : Hp) (us : List V), vs = .ref x :: us ∧ H = upd (upd H2 dx (.own x)) x (.ins Cl dx []) ∧ H2 x = none ∧ H2 dx = none ∧ dx ≠ x ∧
  Al2 (out Z H2) (A y) us ∧ (∀ a, Z a = true → H2 a ≠ none) ∧
  ∀ H' ds, ds.length = (mis y).length → (∀ d ∈ ds, H2 d = none) → Ex H2 H' → Amb Z (ds.zip (mis y)) H' → (R y ds).p (out (Zm Z (ds.zip (mis y))) H') (.ref x) → Q .non H'
/-- where an __init__'s body begins -/
def stI (N : List Str) (A : List Ty) (x Cl dx : Addr) : Sta := ⟨some (tAt x) :: (A.map some ++ List.replicate (N.length - A.length - 1) none), [(x, .ins Cl dx [])], []⟩
/-- where it ends -/
def EndI (mis : List Mi) (R : List Addr → Ty) (x Cl dx : Addr) (q : Sta) : Prop := ∃ ds fs, ds.length = mis.length ∧ q.M = [] ∧ q.O = (x, .ins Cl dx fs) :: ds.map (fun d => (d, Kd.dct [])) ∧ ∀ B vs, B x = some (.ins Cl dx vs) → Fl B fs vs → (R ds).p B (.ref x)
theorem fn_okI {Cl : Addr} {y : Str} {qual : Str} {params : Arguments} {body : List Stmt} {scope : Scope} {dvs : List V} {kws : List (Str × V)} {f : Addr} {fd : FuncData} {N : List Str} {p0 : Str} (F : FunD g.K y qual params body scope dvs kws f fd) (S : FnScope N (p0 :: ps) scope) (len : ∀ z, (A z).length = ps.length) (hmi : ∀ z, ∀ mi ∈ mis z, ∀ B, mi.I B [])
    (hb : ∀ (cdv : Value) (Ar : Around) (outer : List Env) (s : Shared) (H : Hp) (z : α) (x dx : Addr), Room k (Ar.deeper (envOfC qual scope s.heap.objs.size f cdv)) →
      XB g (ctOf (cxOf CX0 g.P g.w g.K g.mg g.base N qual scope f cdv Ar outer s H E0)) (stI N (A z) x Cl dx) body { nx := EndI (mis z) (R z) x Cl dx, rt := fun _ => False }) : FnOk g.P g.w g.K g.mg g.base CX0 (k + 1) f fd (p0 :: ps) (spI Cl mis A R) := by
  refine F.ok S (fun vs H Q E h => ?_) fun cdv Ar outer s H vs Q E hr h => ?_
  · obtain ⟨Z, z, x, dx, H2, us, rfl, _, _, _, _, h1, _⟩ := h
    rw [List.length_cons, h1.length, len, List.length_cons]
  · obtain ⟨Z, z, x, dx, H2, us, rfl, rfl, hx, hdx, hne, h1, h2, kk⟩ := h
    have hv := h1.length
    have hl : (A z).length = ps.length := len z
    refine ⟨wB g (ctOf (cxOf CX0 g.P g.w g.K g.mg g.base N qual scope f cdv Ar outer s _ E)) body, PSs.nox (pss_w (C := ctOf (cxOf CX0 g.P g.w g.K g.mg g.base N qual scope f cdv Ar outer s _ E)) ()), ?_⟩
    have zx : Z x = false := by
      cases e : Z x with
      | false => rfl
      | true => exact absurd hx (h2 x e)
    have e1 : Ex H2 (upd (upd H2 dx (.own x)) x (.ins Cl dx [])) := fun a o e => by
      rw [upd_ne (ne_of_none e hx), upd_ne (ne_of_none e hdx)]
      exact e
    have eo : Ex (out Z H2) (out (Zm (Zo Z [(x, .ins Cl dx [])]) []) (upd (upd H2 dx (.own x)) x (.ins Cl dx []))) := out_mono (fun a z => by
      rw [zm_nil] at z
      unfold Zo inO at z
      rw [Bool.or_eq_true] at z
      rcases z with z | z
      · exact .inl z
      · have : x = a := by simpa using z
        rw [← this]
        exact .inr hx) fun a o _ e => e1 a o e
    refine hb cdv Ar outer s _ z x dx hr Z [] H2 [] _ _ _ ⟨?_, ?_, ?_, by simp [stI], ?_, Fr.of_ex e1, ?_, (fun p hp => nomatch hp), .refl _, (fun p hp => nomatch hp)⟩ ⟨fun q σ' H' n hh => ?_, fun _ _ _ z _ => z.elim, fun _ _ _ z _ => z.elim, fun _ _ _ z _ => z.elim⟩
    · show Sl (out (Zm (Zo Z [(x, .ins Cl dx [])]) []) _) (some (tAt x) :: _) _
      unfold L2.start
      rw [List.map_cons, List.length_cons]
      refine .is rfl ?_
      have e3 : N.length - (us.length + 1) = N.length - (A z).length - 1 := by omega
      rw [e3]
      exact sl_start (h1.mono eo)
    · show Amb (Zo Z [(x, .ins Cl dx [])]) [] _
      refine amb_nil fun a z => ?_
      unfold Zo inO at z
      rw [Bool.or_eq_true] at z
      rcases z with z | z
      · exact fun e => h2 a z (e1.free e)
      · have : x = a := by simpa using z
        rw [← this, upd_same]
        exact fun z => nomatch z
    · intro p hp
      rw [List.mem_singleton.mp hp]
      exact ⟨[], upd_same, .nil⟩
    · intro p hp
      rw [List.mem_singleton.mp hp]
      exact zx
    · intro p hp
      rw [List.mem_singleton.mp hp]
      exact hx
    · obtain ⟨ds, fs, h3, h4, h5, h6⟩ := n
      have own := hh.own
      rw [h5] at own
      obtain ⟨vs, hv1, hv2⟩ := own _ List.mem_cons_self
      have nd := hh.nd
      rw [h5, List.map_cons, List.map_map] at nd
      have edm : ds.map ((fun (p : Addr × Kd) => p.1) ∘ fun d => (d, Kd.dct [])) = ds := by
        have : ((fun (p : Addr × Kd) => p.1) ∘ fun d => (d, Kd.dct [])) = id := rfl
        rw [this, List.map_id]
      rw [edm] at nd
      obtain ⟨n1, n2⟩ := List.nodup_cons.mp nd
      have mem : ∀ d ∈ ds, (d, Kd.dct []) ∈ q.O := fun d hd => by
        rw [h5]
        exact List.mem_cons_of_mem _ (List.mem_map_of_mem (f := fun d => (d, Kd.dct [])) hd)
      have ex : Ex (stb Z q H') (out (Zm Z (ds.zip (mis z))) H') := out_mono (fun a zz => .inl (by
        unfold Zm at zz ⊢
        rw [Bool.or_eq_true] at zz ⊢
        rcases zz with zz | zz
        · left; unfold Zo; rw [zz]; rfl
        · left
          unfold Zo
          rw [show inO q.O a = true from inO_of (mem a (inM_zip zz)), Bool.or_true])) fun _ _ _ e => e
      refine kk H' ds h3 (fun d hd => hh.newO _ (mem d hd)) hh.fr.ex0 ⟨fun p hp => ?_, fun a zz => hh.amb.here a (by unfold Zo; rw [zz]; rfl), by rw [zip_fst h3]; exact n2, fun p hp => hh.off _ (mem _ (zip_in hp))⟩ ?_
      · have h7 : H' p.1 = some (.dT []) := hh.own _ (mem _ (zip_in hp))
        exact ⟨[], h7, hmi z _ (List.of_mem_zip hp).2 _⟩
      · refine h6 _ vs ?_ (hv2.mono ex)
        rw [out_at]
        · exact hv1
        · unfold Zm
          rw [zx, Bool.false_or]
          cases e : inM (ds.zip (mis z)) x with
          | false => rfl
          | true => exact absurd (inM_zip e) n1
structure MkN (g : Pg) (x : Str) (ps : List Str) (k : Nat) (dvs : List V) (sp : Sp) : Prop where
  ex : ∃ (f : Addr) (fd : FuncData) (vals : List Value), g.mg x = some (.ref (He.ga g.K x)) ∧ Mk g.K (He.ga g.K x) f ∧ Vals dvs vals ∧ Binds g.K fd ps vals ∧ FnOk g.P g.w g.K g.mg g.base CX0 k f fd ps sp
/-- C(e, ..): an instance, new dicts; dvs the defaults that fill up -/
theorem xe_makeN {dvs : List V} {Us : List Ty} (F : MkN g x ps k dvs (spI (He.ga g.K x) mis A R)) (hr : ∀ i, Room (k + 1) (C.A i)) (y : α) (ha : XA g C [] δ (e :: es) Us) (hA2 : A y = Us ++ dvs.map (fun v => ⟨fun _ w => w = v, fun _ h => h⟩)) (hg : ∀ j, (C.env j).kindOf x = some .globalImplicit := by intro _; rfl) (hdb : (x == ("__debug__" : Str)) = false := by decide)
    (he : ∀ j, starEach (e :: es) (C.env j) = (false, eval e (C.env j)) :: starEach es (C.env j) := by intro _; rfl) (hpl : ∀ j, (backTo pos (starEach es (C.env j))).any (·.1) = false := by intro _; rfl) : XEm g C M δ (.Call (.Name x p) (e :: es) [] pos) (mis y) (R y) := by
  obtain ⟨f, fd, vals, h1, h2, h2', h3, h4⟩ := F.ex
  intro Z σ H hsl hA Q kk
  refine w_pe (t := tMake (He.ga g.K x) (spI (He.ga g.K x) mis A R) dvs E0 (wA g C (e :: es))) ?_ fun i => pe_make (X := C.X g i) h2 h4 (hr i) (hg i) h1 h3 h2' pass0 (pa_w i) hdb (he i) (hpl i)
  refine ha (Zm Z M) σ H (by rw [zm_nil]; exact hsl) (amb_nil (amb_z hA)) _ fun vs H1 f1 A1 t1 => fun xi dx hx hdx hne => ?_
  have e1 := f1.ex0
  have hA1 := hA.ex e1
  rw [zm_nil] at t1
  have al : ∀ (B : Hp) (dvs : List V), Al2 B (dvs.map (fun v => (⟨fun _ w => w = v, fun _ h => h⟩ : Ty))) dvs := fun B dvs => by
    induction dvs with
    | nil => exact .nil
    | cons v r ih => exact .cons rfl ih
  refine ⟨Zm Z M, y, xi, dx, H1, vs ++ dvs, rfl, rfl, hx, hdx, hne, by rw [hA2]; exact t1.append (al _ _), amb_z hA1, fun H' ds hl hd ex A' t => ⟨rfl, ?_⟩⟩
  obtain ⟨j1, j2, j3⟩ := amb_join hA1 ex (fun p hp => hd _ (zip_in hp)) A'
  refine kk (.ref xi) H' ds hl (fun d hdd => e1.free (hd d hdd)) ((Fr.out (Fr.of_ex e1)).trans j3) (Fr.of_ex (e1.trans ex)) j1 ?_
  rw [j2]
  exact t
end
end Pf
end
section
set_option Elab.async false
set_option linter.all false
set_option maxRecDepth 100000
set_option maxHeartbeats 2000000
namespace Pf
open PySem PySem.Spec PyProof.Rows L2 RZ
/-! ### the planks' defs -/
theorem isTy_tt (ds : List PyData) : isTy "tuple" (.tuple ds) = true := by unfold isTy; simp only [tyName]; decide +kernel
theorem isTy_ll (ds : List PyData) : isTy "list" (.list ds) = true := by unfold isTy; simp only [tyName]; decide +kernel
theorem cut1 (l : List PyData) : cutD l (some 1) none = l.drop 1 := by
  unfold cutD
  have e1 : HT.sIx l.length 0 (some 1) = min 1 l.length := by
    unfold HT.sIx
    simp
    try omega
  have e2 : HT.sIx l.length l.length none = l.length := rfl
  rw [e1, e2]
  cases l with
  | nil => rfl
  | cons a l =>
    have e3 : min 1 (a :: l).length = 1 := by simp only [List.length_cons]; omega
    rw [e3]
    apply List.take_of_length_le
    rw [List.length_drop]
    exact Nat.le_refl _
theorem cut1L {β : Type} (l : List β) (f : β → PyData) : PyData.list (cutD (l.map f) (some 1) none) = .list ((l.drop 1).map f) := by rw [cut1, List.map_drop]
theorem cut1T {β : Type} (l : List β) (f : β → PyData) : PyData.tuple (cutD (l.map f) (some 1) none) = .tuple ((l.drop 1).map f) := by rw [cut1, List.map_drop]
theorem asc_map {β : Type} (l : List β) (f : β → Int) : ascB (l.map f) = (l.zip (l.drop 1)).all fun b => decide (f b.1 < f b.2) := by
  unfold ascB
  rw [← List.map_drop, List.zip_map, List.all_map]
  rfl
/-- the place of a rest, its strength -/
def placeM (W : Wd) (r : Int) : Int := if r = -1 then 0 else if r = W.props.length then W.len else (W.props.getD r.toNat (0, (0, 1))).1
def strM (W : Wd) (r : Int) : Int × Int := (W.props.getD r.toNat (0, (0, 1))).2
theorem place_at {W : Wd} {r : Int} (h1 : 0 ≤ r) (h2 : r < W.props.length) : atI (W.props.map propD) r = some (.tuple [.int (placeM W r), frD (strM W r)]) := by
  unfold atI ixN
  have e1 : ¬ r = -1 := by omega
  have e2 : ¬ r = W.props.length := by omega
  have hl : r.toNat < W.props.length := by omega
  unfold placeM strM
  rw [if_neg e1, if_neg e2]
  rw [List.length_map]
  have e3 : W.props.getD r.toNat (0, (0, 1)) = W.props[r.toNat] := by rw [List.getD_eq_getElem?_getD, List.getElem?_eq_getElem hl]; rfl
  rw [e3]
  simp [h1, h2, hl, propD]
def inLot (W : Wd) : PyData → Bool
  | .int i => decide (0 ≤ i) && decide (i < W.props.length)
  | _ => false
def intsOf : List PyData → List Int
  | [] => []
  | .int i :: r => i :: intsOf r
  | _ :: r => intsOf r
def isLotM (W : Wd) (ds : List PyData) : Bool := ds.all (inLot W) && ascB (intsOf ds)
theorem intsOf_map (ns : List Int) : intsOf (ns.map .int) = ns := by
  induction ns with
  | nil => rfl
  | cons n ns ih => show n :: intsOf (ns.map .int) = _; rw [ih]
structure LotOk (W : Wd) (l : List Int) : Prop where
  asc : ascB l = true
  inn : ∀ i ∈ l, 0 ≤ i ∧ i < W.props.length
theorem lot_ints {W : Wd} {ds : List PyData} (h : ds.all (inLot W) = true) : ∃ ns : List Int, ds = ns.map .int ∧ ∀ i ∈ ns, 0 ≤ i ∧ i < W.props.length := by
  induction ds with
  | nil => exact ⟨[], rfl, fun i h => nomatch h⟩
  | cons d ds ih =>
    rw [List.all_cons, Bool.and_eq_true] at h
    obtain ⟨ns, rfl, h2⟩ := ih h.2
    cases d with
    | int i =>
      have h1 := h.1
      unfold inLot at h1
      rw [Bool.and_eq_true, decide_eq_true_eq, decide_eq_true_eq] at h1
      refine ⟨i :: ns, rfl, fun j hj => ?_⟩
      rcases List.mem_cons.mp hj with e | hj
      · rw [e]; exact h1
      · exact h2 j hj
    | _ => exact absurd h.1 (by simp [inLot])
theorem isLotM_ints {W : Wd} {ns : List Int} (h : (ns.map PyData.int).all (inLot W) = true) : isLotM W (ns.map .int) = ascB ns := by
  unfold isLotM
  rw [h, intsOf_map]
  rfl
theorem isLotM_ok {W : Wd} {ns : List Int} (h : LotOk W ns) : isLotM W (ns.map .int) = true := by
  have h1 : (ns.map PyData.int).all (inLot W) = true := by
    rw [List.all_map, List.all_eq_true]
    intro i hi
    have := h.inn i hi
    show inLot W (.int i) = true
    unfold inLot
    rw [Bool.and_eq_true, decide_eq_true_eq, decide_eq_true_eq]
    exact this
  rw [isLotM_ints h1]
  exact h.asc
def valI : PyData → Int
  | .int i => i
  | _ => 0
theorem isWhole_int {d : PyData} (h : isWhole d = true) : d = .int (valI d) := by
  cases d with
  | int i => rfl
  | _ => exact absurd h (by simp [isWhole])
theorem inLot_int {W : Wd} {d : PyData} (h : isWhole d = true) : PyData.bool (decide (0 ≤ valI d) && decide (valI d < W.props.length)) = .bool (inLot W d) := by
  cases d with
  | int i => rfl
  | _ => exact absurd h (by simp [isWhole])
theorem inLot_and {W : Wd} (d : PyData) : PyData.bool (isWhole d && inLot W d) = .bool (inLot W d) := by
  cases d with
  | int i => rfl
  | _ => rfl
def lotD : Option (List Int) → PyData
  | none => .none
  | some l => .tuple (l.map .int)
def lotM (W : Wd) : Option (List Int) → List Int
  | none => (List.range W.props.length).map fun (i : Nat) => (i : Int)
  | some l => l
theorem lotM_none (W : Wd) : PyData.tuple ((List.range (W.props.length : Int).toNat).map fun (i : Nat) => .int (i : Int)) = .tuple ((lotM W none).map .int) := by
  unfold lotM
  rw [List.map_map]
  rfl
theorem ascB_cons {a b : Int} {l : List Int} : ascB (a :: b :: l) = (decide (a < b) && ascB (b :: l)) := rfl
theorem ascB_pw : ∀ {l : List Int}, ascB l = true → l.Pairwise (· < ·)
  | [], _ => .nil
  | [a], _ => by simp
  | a :: b :: l, h => by
    rw [ascB_cons, Bool.and_eq_true, decide_eq_true_eq] at h
    have ih := ascB_pw h.2
    refine List.pairwise_cons.mpr ⟨fun y hy => ?_, ih⟩
    rcases List.mem_cons.mp hy with e | hy
    · rw [e]; exact h.1
    · exact Int.lt_trans h.1 ((List.pairwise_cons.mp ih).1 y hy)
theorem pw_ascB : ∀ {l : List Int}, l.Pairwise (· < ·) → ascB l = true
  | [], _ => rfl
  | [a], _ => rfl
  | a :: b :: l, h => by
    obtain ⟨h1, h2⟩ := List.pairwise_cons.mp h
    rw [ascB_cons, pw_ascB h2, Bool.and_true, decide_eq_true_eq]
    exact h1 b List.mem_cons_self
theorem lot_len {n : Nat} {l : List Int} (h : l.Pairwise (· < ·)) : ∀ {lo : Int}, (∀ i ∈ l, lo ≤ i ∧ i < lo + n) → l.length ≤ n := by
  induction l generalizing n with
  | nil => intro lo _; exact Nat.zero_le _
  | cons a l ih =>
    intro lo hl
    obtain ⟨h1, h2⟩ := List.pairwise_cons.mp h
    have ha := hl a List.mem_cons_self
    obtain ⟨m, rfl⟩ : ∃ m, n = m + 1 := ⟨n - 1, by omega⟩
    have := ih (n := m) h2 (lo := lo + 1) fun i hi => by
      have := h1 i hi
      have := hl i (List.mem_cons_of_mem _ hi)
      omega
    rw [List.length_cons]
    omega
theorem LotOk.len {W : Wd} {l : List Int} (h : LotOk W l) : l.length ≤ W.props.length := lot_len (ascB_pw h.asc) (lo := 0) fun i hi => by
  have := h.inn i hi
  omega
theorem lotD_le {W : Wd} {l : List Int} (hW : WOk W) (h : LotOk W l) : (l.map PyData.int).length ≤ 1000 := by
  have := h.len
  have := hW.p12
  rw [List.length_map]
  omega
theorem one_lt_two {n : Nat} (h : 1 ≤ n) : (1 : Int).natAbs < 2 ^ n := Nat.lt_of_lt_of_le (show 1 < 2 ^ 1 by decide) (two_mono h)
theorem fb_0 : FB 1000 (0, 1) := ⟨by decide, Nat.pow_pos (by decide), one_lt_two (by decide)⟩
theorem fb_1 : FB 1000 (1, 1) := ⟨by decide, one_lt_two (by decide), one_lt_two (by decide)⟩
def restsM (W : Wd) (l : List Int) : List Int := -1 :: l ++ [(W.props.length : Int)]
theorem lt_two10 {i : Int} {n : Nat} (h : 0 ≤ i ∧ i < 1024) (hn : 10 ≤ n) : i.natAbs < 2 ^ n := Nat.lt_of_lt_of_le (show i.natAbs < 2 ^ 10 by omega) (two_mono hn)
theorem len_fb {W : Wd} (h : WOk W) : FB 1000 (W.len, 1) := ⟨Int.one_pos, lt_two10 (by have := h.l3; have := h.l2; omega) (by decide), one_lt_two (by decide)⟩
def slopeM (lo hi : Int) (s : Int × Int) : Int × Int := overM (lessM s (lo, 1)) (hi - lo, 1)
abbrev FrT := {p : Int × Int // FrOk 1000 p}
abbrev FnT_is_fraction (g : Pg) : Prop := Fn g "is_fraction" ["thing"] 2 (spM (α := FrT) (fun _ => []) (fun z => [tD g.K (frD z.1)]) (fun z => tD g.K (.bool true)))
theorem sc_is_fraction : FnScope ["thing", "one"] ["thing"] (defScope sIsFraction) := ⟨rfl, rfl, rfl, by decide +kernel, rfl, by decide +kernel, by decide +kernel⟩
theorem fn_is_fraction {g : Pg} (T : Tx g) (F_is_whole : FnT_is_whole g) (F_divisor : FnT_divisor g) : FnT_is_fraction g := by
  refine T.fn 3 3 (k := 1) (d := dIsFraction) rfl rfl rfl rfl rfl sc_is_fraction (fun _ => rfl) (fun _ _ _ _ _ _ us hl => match us, hl with | [_], _ => rfl) fun cdv Ar outer s H z hr => ?_
  have nd := sc_is_fraction.nd
  skip
  -- if not isinstance(thing, tuple) or len(thing) != 2 or (not all([is_whole(one) for one in thing])):
  refine xb_cons (xs_if (xw_or (xt_not (xt_val (xe_isi (kit_tuple _) (T.free 90 rfl) (T.free 94 rfl) (by decide +kernel) (xe_name (i := 0) rfl)))) fun hb => (xw_or (xt_neI (xe_lenT (T.free 91 rfl) (xe_name (i := 0) rfl)) xe_int) fun hb => (xw_or1 (xt_not (xt_val (xe_all (T.free 92 rfl) ((xe_lc [("one", 1)] nd (fun j => pi_tup (pe_w j)) (fun _ => blkOk_by (sc := defScope sIsFraction) (by show blkC ["thing", "one"] _ _ _ = true; decide +kernel)) (fun jj => pg_nm 1 jj nd) (fun jj => pts_nil) (xr_lcT ([z.1.1, z.1.2]) (PyData.int) (fun b => .bool (isWhole (.int b))) (fun _ => true) (fun b => [some (tD g.K (frD z.1)), some (tD g.K (.int b))]) ((xe_name (i := 0) rfl)) ?_ (fun b hb => (xg_name 1)) (by decide) (fun b hb => tr_yes) (fun b hb hf => (xe_call (F_is_whole.mono (by decide)) (fun _ => hr) _ (xa_cons (xe_name (i := 1) rfl) xa_nil))))).toD (lcB _ _)))))))).t (fun hb => ?_) (fun hb => ?_))
  · exact Nat.lt_of_lt_of_le (show 2 < 3 by decide) (by decide)
  · exact absurd hb (by simp [isTy_tt, frD, isWhole])
  · refine xb_nil ?_
    -- return thing[1] > 0 and divisor(abs(thing[0]), thing[1]) == 1
    refine xb_one (xs_ret (T := tD g.K (.bool true)) (XE.toD (xe_and (xe_gt (xe_ixT rfl (xe_name (i := 0) rfl) xe_int) xe_int) fun hb => (xe_one (xe_eqI (xe_call (F_divisor.mono (by decide)) (fun _ => hr) ⟨(_, _), ⟨Int.natCast_nonneg _, Int.le_of_lt z.2.1.1⟩⟩ (xa_cons (xe_abs (T.free 93 rfl) (xe_ixT rfl (xe_name (i := 0) rfl) xe_int)) (xa_cons (xe_ixT rfl (xe_name (i := 0) rfl) xe_int) xa_nil))) xe_int))) ?_) rfl)
    · have h1 := z.2.1.1
      have h2 := z.2.2
      have e : Int.gcd (z.1.1.natAbs : Int) z.1.2 = Int.gcd z.1.1 z.1.2 := by simp [Int.gcd]
      rw [e, h2]
      simp [h1]
abbrev FnT_is_measure (g : Pg) : Prop := Fn g "is_measure" ["thing"] 4 (spM (α := FrT) (fun _ => []) (fun z => [tD g.K (frD z.1)]) (fun z => tD g.K (.bool (!belowM z.1 (0, 1)))))
theorem sc_is_measure : FnScope ["thing"] ["thing"] (defScope sIsMeasure) := ⟨rfl, rfl, rfl, by decide +kernel, rfl, by decide +kernel, by decide +kernel⟩
theorem fn_is_measure {g : Pg} (T : Tx g) (F_is_fraction : FnT_is_fraction g) (F_is_below : FnT_is_below g) : FnT_is_measure g := by
  refine T.fn 11 11 (k := 3) (d := dIsMeasure) rfl rfl rfl rfl rfl sc_is_measure (fun _ => rfl) (fun _ _ _ _ _ _ us hl => match us, hl with | [_], _ => rfl) fun cdv Ar outer s H z hr => ?_
  have nd := sc_is_measure.nd
  skip
  -- return is_fraction(thing) and (not is_below(thing, NOUGHT))
  refine xb_one (xs_ret (T := tD g.K (.bool (!belowM z.1 (0, 1)))) (XE.toD (xe_and (xe_call (F_is_fraction.mono (by decide)) (fun _ => hr) ⟨_, z.2⟩ (xa_cons (xe_name (i := 0) rfl) xa_nil)) fun hb => (xe_one (xe_not (xe_call (F_is_below.mono (by decide)) (fun _ => hr) ⟨(_, (0, 1)), ⟨z.2.1, fb_0⟩⟩ (xa_cons (xe_name (i := 0) rfl) (xa_cons (xe_gref (T.glo 88 rfl) T.tup.1) xa_nil)))))) rfl) rfl)
abbrev FnT_is_prop (g : Pg) : Prop := Fn g "is_prop" ["thing", "length"] 5 (spM (α := {z : (Int × (Int × Int)) × Int // FrOk 1000 z.1.2 ∧ 0 ≤ z.1.2.1 ∧ 0 < z.1.1 ∧ z.1.1 < z.2}) (fun _ => []) (fun z => [tD g.K (propD z.1.1), tD g.K (.int z.1.2)]) (fun z => tD g.K (.bool true)))
theorem sc_is_prop : FnScope ["thing", "length"] ["thing", "length"] (defScope sIsProp) := ⟨rfl, rfl, rfl, by decide +kernel, rfl, by decide +kernel, by decide +kernel⟩
theorem fn_is_prop {g : Pg} (T : Tx g) (F_is_whole : FnT_is_whole g) (F_is_measure : FnT_is_measure g) : FnT_is_prop g := by
  refine T.fn 12 12 (k := 4) (d := dIsProp) rfl rfl rfl rfl rfl sc_is_prop (fun _ => rfl) (fun _ _ _ _ _ _ us hl => match us, hl with | [_, _], _ => rfl) fun cdv Ar outer s H z hr => ?_
  have nd := sc_is_prop.nd
  skip
  -- if not isinstance(thing, tuple) or len(thing) != 2 or (not is_whole(thing[0])):
  refine xb_cons (xs_if (xw_or (xt_not (xt_val (xe_isi (kit_tuple _) (T.free 90 rfl) (T.free 94 rfl) (by decide +kernel) (xe_name (i := 0) rfl)))) fun hb => (xw_or (xt_neI (xe_lenT (T.free 91 rfl) (xe_name (i := 0) rfl)) xe_int) fun hb => (xw_or1 (xt_not (xt_val (xe_call (F_is_whole.mono (by decide)) (fun _ => hr) _ (xa_cons (xe_ixT rfl (xe_name (i := 0) rfl) xe_int) xa_nil))))))).t (fun hb => ?_) (fun hb => ?_))
  · exact absurd hb (by simp [isTy_tt, isWhole, propD])
  · refine xb_nil ?_
    -- return 0 < thing[0] < length and is_measure(thing[1])
    obtain ⟨⟨p, n⟩, h1, h2, h3, h4⟩ := z
    refine xb_one (xs_ret (T := tD g.K (.bool true)) (XE.toD (xe_and (xe_chainI (f := (fun i j => decide (i < j))) (f' := (fun i j => decide (i < j))) (fun _ => op_lt) (fun _ => op_lt) xe_int (xe_ixT rfl (xe_name (i := 0) rfl) xe_int) (xe_name (i := 1) rfl) rfl) fun hb => (xe_one (xe_call (F_is_measure.mono (by decide)) (fun _ => hr) ⟨_, h1⟩ (xa_cons (xe_ixT rfl (xe_name (i := 0) rfl) xe_int) xa_nil)))) ?_) rfl)
    simp [belowM, h2, h3, h4]
abbrev FnT_are_props (g : Pg) : Prop := Fn g "are_props" ["thing", "length"] 6 (spM (α := WT) (fun _ => []) (fun z => [tD g.K (.list (z.1.props.map propD)), tD g.K (.int z.1.len)]) (fun z => tD g.K (.bool true)))
theorem sc_are_props : FnScope ["thing", "length", "one", "other"] ["thing", "length"] (defScope sAreProps) := ⟨rfl, rfl, rfl, by decide +kernel, rfl, by decide +kernel, by decide +kernel⟩
theorem fn_are_props {g : Pg} (T : Tx g) (F_is_prop : FnT_is_prop g) : FnT_are_props g := by
  refine T.fn 13 13 (k := 5) (d := dAreProps) rfl rfl rfl rfl rfl sc_are_props (fun _ => rfl) (fun _ _ _ _ _ _ us hl => match us, hl with | [_, _], _ => rfl) fun cdv Ar outer s H z hr => ?_
  have nd := sc_are_props.nd
  skip
  -- if not isinstance(thing, list) or len(thing) > MOST_PROPS or (not all([is_prop(one, length) for one in thing])):
  refine xb_cons (xs_if (xw_or (xt_not (xt_val (xe_isi (kit_list _) (T.free 90 rfl) (T.free 95 rfl) (by decide +kernel) (xe_name (i := 0) rfl)))) fun hb => (xw_or (xt_gt (xe_lenL (T.free 91 rfl) (xe_name (i := 0) rfl)) (xe_gint (T.int 86 rfl))) fun hb => (xw_or1 (xt_not (xt_val (xe_all (T.free 92 rfl) ((xe_lc [("one", 2)] nd (fun j => pi_list (pe_w j)) (fun _ => blkOk_by (sc := defScope sAreProps) (by show blkC ["thing", "length", "one", "other"] _ _ _ = true; decide +kernel)) (fun jj => pg_nm 2 jj nd) (fun jj => pts_nil) (xr_lcL (z.1.props) (propD) (fun b => .bool ((fun _ => true) b)) (fun _ => true) (fun b => [some (tD g.K (.list (z.1.props.map propD))), some (tD g.K (.int z.1.len)), some (tD g.K (propD b)), none]) ((xe_name (i := 0) rfl)) ?_ (fun b hb => (xg_name 2)) (by decide) (fun b hb => tr_yes) (fun b hb hf => (xe_call (F_is_prop.mono (by decide)) (fun _ => hr) ⟨(_, _), ⟨⟨(z.2.str b hb).1.1.mono (by decide), (z.2.str b hb).1.2⟩, (z.2.str b hb).2, z.2.pin b hb⟩⟩ (xa_cons (xe_name (i := 2) rfl) (xa_cons (xe_name (i := 1) rfl) xa_nil)))))).toD (lcB _ _)))))))).t (fun hb => ?_) (fun hb => ?_))
  · exact Nat.lt_of_le_of_lt z.2.p12 (by decide)
  · have h := z.2.p12
    exact absurd hb (by
      rw [allB]
      simp [isTy_ll]
      omega)
  · refine xb_nil ?_
    -- return all([one[0] < other[0] for one, other in zip(thing, thing[1:])])
    refine xb_one (xs_ret (T := tD g.K (.bool true)) (XE.toD (xe_all (T.free 92 rfl) ((xe_lc [("one", 2), ("other", 3)] nd (fun j => pi_zipA (by rfl) (T.free 96 rfl) (pa_w j)) (fun _ => blkOk_by (sc := defScope sAreProps) (by show blkC ["thing", "length", "one", "other"] _ _ _ = true; decide +kernel)) (fun jj => pg_tup rfl (pgs_cons (pg_nm 2 jj nd) (pgs_cons (pg_nm 3 jj nd) pgs_nil))) (fun jj => pts_nil) (xr_zipL (z.1.props) (z.1.props.drop 1) (propD) (propD) (fun (b : (Int × Int × Int) × (Int × Int × Int)) => .bool (decide (b.1.1 < b.2.1))) (fun _ => true) (fun b => [some (tD g.K (.list (z.1.props.map propD))), some (tD g.K (.int z.1.len)), some (tD g.K (propD b.1)), some (tD g.K (propD b.2))]) (xa_cons (xe_name (i := 0) rfl) (xa_cons ((xe_slL (xe_name (i := 0) rfl) (xo_some xe_int) xo_none).toD (cut1L _ _)) xa_nil)) ?_ (fun b hb => (xg_tup2 (xg_name 2) (xg_name 3))) (by decide) (fun b hb => tr_yes) (fun b hb hf => (xe_lt (xe_ixT rfl (xe_name (i := 2) rfl) xe_int) (xe_ixT rfl (xe_name (i := 3) rfl) xe_int))))).toD (lcB _ _))) ?_) rfl)
    · exact Nat.lt_of_le_of_lt z.2.p12 (by decide)
    · rw [allB]
      have h := z.2.asc
      rw [asc_map] at h
      exact congrArg _ h
abbrev FnT_Plank_length (g : Pg) : Prop := Mt g (He.ga g.K "Plank") "length" ["self"] 1 (spM (α := Wd) (fun _ => []) (fun W => [tPlank g W]) (fun W => tD g.K (.int W.len)))
theorem sc_Plank_length : FnScope ["self"] ["self"] (defScope sPlankLength) := ⟨rfl, rfl, rfl, by decide +kernel, rfl, by decide +kernel, by decide +kernel⟩
theorem fn_Plank_length {g : Pg} (T : Tx g) : FnT_Plank_length g := by
  refine T.mt 15 67 (k := 0) (d := dPlankLength) rfl rfl rfl rfl rfl sc_Plank_length (fun _ => rfl) (fun _ _ _ _ _ _ us hl => match us, hl with | [_], _ => rfl) fun cdv Ar outer s H W hr => ?_
  have nd := sc_Plank_length.nd
  skip
  -- return self.long
  refine xb_one (xs_ret (fld_plank_long T (xe_name (i := 0) rfl)) rfl)
abbrev FnT_Plank_count (g : Pg) : Prop := Mt g (He.ga g.K "Plank") "count" ["self"] 1 (spM (α := Wd) (fun _ => []) (fun W => [tPlank g W]) (fun W => tD g.K (.int W.props.length)))
theorem sc_Plank_count : FnScope ["self"] ["self"] (defScope sPlankCount) := ⟨rfl, rfl, rfl, by decide +kernel, rfl, by decide +kernel, by decide +kernel⟩
theorem fn_Plank_count {g : Pg} (T : Tx g) : FnT_Plank_count g := by
  refine T.mt 16 68 (k := 0) (d := dPlankCount) rfl rfl rfl rfl rfl sc_Plank_count (fun _ => rfl) (fun _ _ _ _ _ _ us hl => match us, hl with | [_], _ => rfl) fun cdv Ar outer s H W hr => ?_
  have nd := sc_Plank_count.nd
  skip
  -- return len(self.stakes)
  refine xb_one (xs_ret (T := tD g.K (.int W.props.length)) (XE.toD (xe_lenT (T.free 91 rfl) (fld_plank_stakes T (xe_name (i := 0) rfl))) (by rw [List.length_map])) rfl)
abbrev FnT_Plank_place_of (g : Pg) : Prop := Mt g (He.ga g.K "Plank") "place_of" ["self", "rest"] 2 (spM (α := {z : Wd × Int // -1 ≤ z.2 ∧ z.2 ≤ z.1.props.length}) (fun _ => []) (fun z => [tPlank g z.1.1, tD g.K (.int z.1.2)]) (fun z => tD g.K (.int (placeM z.1.1 z.1.2))))
theorem sc_Plank_place_of : FnScope ["self", "rest"] ["self", "rest"] (defScope sPlankPlaceOf) := ⟨rfl, rfl, rfl, by decide +kernel, rfl, by decide +kernel, by decide +kernel⟩
theorem fn_Plank_place_of {g : Pg} (T : Tx g) (F_is_whole : FnT_is_whole g) (F_Plank_count : FnT_Plank_count g) : FnT_Plank_place_of g := by
  refine T.mt 17 69 (k := 1) (d := dPlankPlaceOf) rfl rfl rfl rfl rfl sc_Plank_place_of (fun _ => rfl) (fun _ _ _ _ _ _ us hl => match us, hl with | [_, _], _ => rfl) fun cdv Ar outer s H z hr => ?_
  have nd := sc_Plank_place_of.nd
  skip
  -- if not is_whole(rest) or not LEFT_WALL <= rest <= self.count():
  refine xb_cons (xs_if (xw_or (xt_not (xt_val (xe_call (F_is_whole.mono (by decide)) (fun _ => hr) _ (xa_cons (xe_name (i := 1) rfl) xa_nil)))) fun hb => (xw_or1 (xt_not (xt_chainI (f := (fun i j => decide (i ≤ j))) (f' := (fun i j => decide (i ≤ j))) (fun _ => op_le) (fun _ => op_le) (xe_gint (T.int 87 rfl)) (xe_name (i := 1) rfl) (xe_meth0 (F_Plank_count.mono (by decide)) (T.clP) (fun _ => hr) _ (xe_name (i := 0) rfl) plank_m rfl) rfl)))).t (fun hb => ?_) (fun hb => ?_))
  · exact absurd hb (by simp [isWhole, z.2.1, z.2.2])
  · refine xb_nil ?_
    -- if rest == LEFT_WALL:
    refine xb_cons (xs_if (xt_eqI (xe_name (i := 1) rfl) (xe_gint (T.int 87 rfl))) (fun hb => ?_) (fun hb => ?_))
    · refine xb_one (xs_ret (T := tD g.K (.int (placeM z.1.1 z.1.2))) (XE.toD xe_int ?_) rfl)
      have h : z.1.2 = -1 := by simpa using hb
      rw [h]
      rfl
    · refine xb_nil ?_
      have h0 : z.1.2 ≠ -1 := by simpa using hb
      have h1 := z.2.1
      have h2 := z.2.2
      have h3 : 0 ≤ z.1.2 := by omega
      -- return self.long if rest == self.count() else self.stakes[rest][0]
      refine xb_one (xs_ret (T := tD g.K (.int (placeM z.1.1 z.1.2))) (xe_if (xt_eqI (xe_name (i := 1) rfl) (xe_meth0 (F_Plank_count.mono (by decide)) (T.clP) (fun _ => hr) _ (xe_name (i := 0) rfl) plank_m rfl)) (fun hb => (fld_plank_long T (xe_name (i := 0) rfl)).toD ?_) (fun hb => (xe_ixT (ds := [.int (placeM z.1.1 z.1.2), frD (strM z.1.1 z.1.2)]) rfl (xe_ixT ?_ (fld_plank_stakes T (xe_name (i := 0) rfl)) (xe_name (i := 1) rfl)) xe_int))) rfl)
      · have h : z.1.2 = z.1.1.props.length := by simpa using hb
        unfold placeM
        rw [if_neg h0, if_pos h]
      · have h : ¬ z.1.2 = z.1.1.props.length := by simpa using hb
        exact place_at (by omega) (by omega)
abbrev FnT_is_lot (g : Pg) : Prop := Fn g "is_lot" ["plank", "thing"] 2 (spM (α := {z : Wd × List PyData // z.2.length ≤ 1000}) (fun _ => []) (fun z => [tPlank g z.1.1, tD g.K (.tuple z.1.2)]) (fun z => tD g.K (.bool (isLotM z.1.1 z.1.2))))
theorem sc_is_lot : FnScope ["plank", "thing", "one", "other"] ["plank", "thing"] (defScope sIsLot) := ⟨rfl, rfl, rfl, by decide +kernel, rfl, by decide +kernel, by decide +kernel⟩
theorem fn_is_lot {g : Pg} (T : Tx g) (F_is_whole : FnT_is_whole g) (F_Plank_count : FnT_Plank_count g) : FnT_is_lot g := by
  refine T.fn 18 14 (k := 1) (d := dIsLot) rfl rfl rfl rfl rfl sc_is_lot (fun _ => rfl) (fun _ _ _ _ _ _ us hl => match us, hl with | [_, _], _ => rfl) fun cdv Ar outer s H z hr => ?_
  have nd := sc_is_lot.nd
  skip
  -- if not isinstance(thing, tuple) or not all([is_whole(one) and 0 <= one < plank.count() for one in thing]):
  refine xb_cons (xs_if (xw_or (xt_not (xt_val (xe_isi (kit_tuple _) (T.free 90 rfl) (T.free 94 rfl) (by decide +kernel) (xe_name (i := 1) rfl)))) fun hb => (xw_or1 (xt_not (xt_val (xe_all (T.free 92 rfl) ((xe_lc [("one", 2)] nd (fun j => pi_tup (pe_w j)) (fun _ => blkOk_by (sc := defScope sIsLot) (by show blkC ["plank", "thing", "one", "other"] _ _ _ = true; decide +kernel)) (fun jj => pg_nm 2 jj nd) (fun jj => pts_nil) (xr_lcT (z.1.2) (id) (fun b => .bool (inLot z.1.1 b)) (fun _ => true) (fun b => [some (tPlank g z.1.1), some (tD g.K (.tuple z.1.2)), some (tD g.K b), none]) (((xe_name (i := 1) rfl).toD (by rw [List.map_id]))) (Nat.lt_of_le_of_lt z.2 (by decide)) (fun b hb => (xg_name 2)) (by decide) (fun b hb => tr_yes) (fun b hb hf => XE.toD (xe_and (kb := inLot z.1.1 b) (xe_call (F_is_whole.mono (by decide)) (fun _ => hr) _ (xa_cons (xe_name (i := 2) rfl) xa_nil)) fun hb => (xe_one (XE.toD (xe_chainI (f := (fun i j => decide (i ≤ j))) (f' := (fun i j => decide (i < j))) (fun _ => op_le) (fun _ => op_lt) xe_int ((xe_name (i := 2) rfl).toD (isWhole_int hb)) (xe_meth0 (F_Plank_count.mono (by decide)) (T.clP) (fun _ => hr) _ (xe_name (i := 0) rfl) plank_m rfl) rfl) (inLot_int hb)))) (inLot_and _)))).toD (lcB _ _))))))).t (fun hb => ?_) (fun hb => ?_))
  · refine xb_one (xs_ret (T := tD g.K (.bool (isLotM z.1.1 z.1.2))) (XE.toD xe_bl ?_) rfl)
    rw [allB, isTy_tt] at hb
    have h : z.1.2.all (inLot z.1.1) = false := by simpa using hb
    unfold isLotM
    rw [h]
    rfl
  · refine xb_nil ?_
    rw [allB, isTy_tt] at hb
    have h : z.1.2.all (inLot z.1.1) = true := by simpa using hb
    obtain ⟨⟨W, ds⟩, hz⟩ := z
    obtain ⟨ns, rfl, h2⟩ := lot_ints h
    have hz' : ns.length ≤ 1000 := by simpa using hz
    -- return all([one < other for one, other in zip(thing, thing[1:])])
    refine xb_one (xs_ret (T := tD g.K (.bool (isLotM W (ns.map .int)))) (XE.toD (xe_all (T.free 92 rfl) ((xe_lc [("one", 2), ("other", 3)] nd (fun j => pi_zipA (by rfl) (T.free 96 rfl) (pa_w j)) (fun _ => blkOk_by (sc := defScope sIsLot) (by show blkC ["plank", "thing", "one", "other"] _ _ _ = true; decide +kernel)) (fun jj => pg_tup rfl (pgs_cons (pg_nm 2 jj nd) (pgs_cons (pg_nm 3 jj nd) pgs_nil))) (fun jj => pts_nil) (xr_zipT (ns) (ns.drop 1) (PyData.int) (PyData.int) (fun (b : Int × Int) => .bool (decide (b.1 < b.2))) (fun _ => true) (fun b => [some (tPlank g W), some (tD g.K (.tuple (ns.map .int))), some (tD g.K (.int b.1)), some (tD g.K (.int b.2))]) (xa_cons (xe_name (i := 1) rfl) (xa_cons ((xe_slT (xe_name (i := 1) rfl) (xo_some xe_int) xo_none).toD (cut1T _ _)) xa_nil)) ?_ (fun b hb => (xg_tup2 (xg_name 2) (xg_name 3))) (by decide) (fun b hb => tr_yes) (fun b hb hf => (xe_lt (xe_name (i := 2) rfl) (xe_name (i := 3) rfl))))).toD (lcB _ _))) ?_) rfl)
    · exact Nat.lt_of_le_of_lt hz' (by decide)
    · rw [allB, isLotM_ints h]
      rfl
abbrev FnT_lot_of (g : Pg) : Prop := Fn g "lot_of" ["plank", "lot"] 3 (spM (α := {z : Wd × Option (List Int) // WOk z.1 ∧ ∀ l, z.2 = some l → LotOk z.1 l}) (fun _ => []) (fun z => [tPlank g z.1.1, tD g.K (lotD z.1.2)]) (fun z => tD g.K (.tuple ((lotM z.1.1 z.1.2).map .int))))
theorem sc_lot_of : FnScope ["plank", "lot"] ["plank", "lot"] (defScope sLotOf) := ⟨rfl, rfl, rfl, by decide +kernel, rfl, by decide +kernel, by decide +kernel⟩
theorem fn_lot_of {g : Pg} (T : Tx g) (F_Plank_count : FnT_Plank_count g) (F_is_lot : FnT_is_lot g) : FnT_lot_of g := by
  refine T.fn 19 15 (k := 2) (d := dLotOf) rfl rfl rfl rfl rfl sc_lot_of (fun _ => rfl) (fun _ _ _ _ _ _ us hl => match us, hl with | [_, _], _ => rfl) fun cdv Ar outer s H z hr => ?_
  have nd := sc_lot_of.nd
  skip
  -- if lot is None:
  refine xb_cons (xs_if (xt_isN (non_d _) (xe_name (i := 1) rfl) xe_non) (fun hb => ?_) (fun hb => ?_))
  · have h : z.1.2 = none := by
      cases e : z.1.2 with
      | none => rfl
      | some l => rw [e] at hb; exact absurd hb (by simp [lotD, isNon])
    refine xb_one (xs_ret (T := tD g.K (.tuple ((lotM z.1.1 z.1.2).map .int))) (XE.toD (xe_tupRg (T.free 94 rfl) (T.free 97 rfl) ?_ (xe_meth0 (F_Plank_count.mono (by decide)) (T.clP) (fun _ => hr) _ (xe_name (i := 0) rfl) plank_m rfl)) ?_) rfl)
    · have := z.2.1.p12
      omega
    · rw [h]
      exact lotM_none _
  · refine xb_nil ?_
    obtain ⟨⟨W, lo⟩, hW, hl⟩ := z
    obtain ⟨l, rfl⟩ : ∃ l, lo = some l := by
      cases lo with
      | none => exact absurd hb (by simp [lotD, isNon])
      | some l => exact ⟨l, rfl⟩
    have h1 : LotOk W l := hl l rfl
    -- if not is_lot(plank, lot):
    refine xb_cons (xs_if (xt_not (xt_val (xe_call (F_is_lot.mono (by decide)) (fun _ => hr) ⟨(_, _), lotD_le hW h1⟩ (xa_cons (xe_name (i := 0) rfl) (xa_cons (xe_name (i := 1) rfl) xa_nil))))) (fun hb => ?_) (fun hb => ?_))
    · exact absurd hb (by rw [isLotM_ok h1]; simp)
    · refine xb_nil ?_
      -- return lot
      refine xb_one (xs_ret (xe_name (i := 1) rfl) rfl)
abbrev FnT_check_prop (g : Pg) : Prop := Fn g "check_prop" ["lot", "thing"] 2 (spM (α := {z : List Int × Int // z.2 ∈ z.1}) (fun _ => []) (fun z => [tD g.K (.tuple (z.1.1.map .int)), tD g.K (.int z.1.2)]) (fun z => tD g.K .none))
theorem sc_check_prop : FnScope ["lot", "thing"] ["lot", "thing"] (defScope sCheckProp) := ⟨rfl, rfl, rfl, by decide +kernel, rfl, by decide +kernel, by decide +kernel⟩
theorem fn_check_prop {g : Pg} (T : Tx g) (F_is_whole : FnT_is_whole g) : FnT_check_prop g := by
  refine T.fn 20 16 (k := 1) (d := dCheckProp) rfl rfl rfl rfl rfl sc_check_prop (fun _ => rfl) (fun _ _ _ _ _ _ us hl => match us, hl with | [_, _], _ => rfl) fun cdv Ar outer s H z hr => ?_
  have nd := sc_check_prop.nd
  skip
  -- if not is_whole(thing) or thing not in lot:
  refine xb_one (xs_if (xw_or (xt_not (xt_val (xe_call (F_is_whole.mono (by decide)) (fun _ => hr) _ (xa_cons (xe_name (i := 1) rfl) xa_nil)))) fun hb => (xw_or1 (xt_niIT (xe_name (i := 1) rfl) (xe_name (i := 0) rfl)))).t (fun hb => ?_) (fun hb => ?_))
  · exact absurd hb (by simp [isWhole, z.2])
  · exact xb_nil rfl
abbrev FnT_rests_of (g : Pg) : Prop := Fn g "rests_of" ["plank", "lot"] 2 (spM (α := {z : Wd × List Int // z.2.length ≤ 1000}) (fun _ => []) (fun z => [tPlank g z.1.1, tD g.K (.tuple (z.1.2.map .int))]) (fun z => tRs g.K (restsM z.1.1 z.1.2)))
theorem sc_rests_of : FnScope ["plank", "lot"] ["plank", "lot"] (defScope sRestsOf) := ⟨rfl, rfl, rfl, by decide +kernel, rfl, by decide +kernel, by decide +kernel⟩
theorem fn_rests_of {g : Pg} (T : Tx g) (F_Plank_count : FnT_Plank_count g) : FnT_rests_of g := by
  refine T.fn 21 17 (k := 1) (d := dRestsOf) rfl rfl rfl rfl rfl sc_rests_of (fun _ => rfl) (fun _ _ _ _ _ _ us hl => match us, hl with | [_, _], _ => rfl) fun cdv Ar outer s H z hr => ?_
  have nd := sc_rests_of.nd
  skip
  -- return (LEFT_WALL,) + lot + (plank.count(),)
  refine xb_one (xs_ret (T := tRs g.K (restsM z.1.1 z.1.2)) (xe_catF (ns := -1 :: z.1.2) (ms := [(z.1.1.props.length : Int)]) (by simp) (by simp) ?_ (xe_catT (ds := [.int (-1)]) ?_ (xe_tupD (xa_cons (xe_gint (T.int 87 rfl)) xa_nil)) (xe_name (i := 1) rfl)) (xe_tupD (xa_cons (xe_meth0 (F_Plank_count.mono (by decide)) (T.clP) (fun _ => hr) _ (xe_name (i := 0) rfl) plank_m rfl) xa_nil))) rfl)
  · have := z.2
    simp only [List.length_cons, List.length_nil]
    omega
  · have := z.2
    simp only [List.length_cons, List.length_nil, List.length_map]
    omega
abbrev FnT_is_spot (g : Pg) : Prop := Fn g "is_spot" ["plank", "thing"] 5 (spM (α := {z : Wd × (Int × Int) // WOk z.1 ∧ FrOk 1000 z.2 ∧ 0 ≤ z.2.1 ∧ z.2.1 ≤ z.1.len * z.2.2}) (fun _ => []) (fun z => [tPlank g z.1.1, tD g.K (frD z.1.2)]) (fun z => tD g.K (.bool true)))
theorem sc_is_spot : FnScope ["plank", "thing"] ["plank", "thing"] (defScope sIsSpot) := ⟨rfl, rfl, rfl, by decide +kernel, rfl, by decide +kernel, by decide +kernel⟩
theorem fn_is_spot {g : Pg} (T : Tx g) (F_is_measure : FnT_is_measure g) (F_is_below : FnT_is_below g) (F_whole : FnT_whole g) (F_Plank_length : FnT_Plank_length g) : FnT_is_spot g := by
  refine T.fn 22 18 (k := 4) (d := dIsSpot) rfl rfl rfl rfl rfl sc_is_spot (fun _ => rfl) (fun _ _ _ _ _ _ us hl => match us, hl with | [_, _], _ => rfl) fun cdv Ar outer s H z hr => ?_
  have nd := sc_is_spot.nd
  skip
  -- return is_measure(thing) and (not is_below(whole(plank.length()), thing))
  refine xb_one (xs_ret (T := tD g.K (.bool true)) (XE.toD (xe_and (xe_call (F_is_measure.mono (by decide)) (fun _ => hr) ⟨_, z.2.2.1⟩ (xa_cons (xe_name (i := 1) rfl) xa_nil)) fun hb => (xe_one (xe_not (xe_call (F_is_below.mono (by decide)) (fun _ => hr) ⟨((_, _), _), ⟨len_fb z.2.1, z.2.2.1.1⟩⟩ (xa_cons (xe_call (F_whole.mono (by decide)) (fun _ => hr) _ (xa_cons (xe_meth0 (F_Plank_length.mono (by decide)) (T.clP) (fun _ => hr) _ (xe_name (i := 0) rfl) plank_m rfl) xa_nil)) (xa_cons (xe_name (i := 1) rfl) xa_nil)))))) ?_) rfl)
  · have h1 := z.2.2.2.1
    have h2 := z.2.2.2.2
    simp [belowM, h1, h2]
abbrev FnT_is_weight (g : Pg) : Prop := Fn g "is_weight" ["plank", "thing"] 6 (spM (α := {z : Wd × ((Int × Int) × (Int × Int)) // WOk z.1 ∧ FrOk 1000 z.2.1 ∧ 0 ≤ z.2.1.1 ∧ z.2.1.1 ≤ z.1.len * z.2.1.2 ∧ FrOk 1000 z.2.2 ∧ 0 < z.2.2.1}) (fun _ => []) (fun z => [tPlank g z.1.1, tD g.K (wtD z.1.2)]) (fun z => tD g.K (.bool true)))
theorem sc_is_weight : FnScope ["plank", "thing"] ["plank", "thing"] (defScope sIsWeight) := ⟨rfl, rfl, rfl, by decide +kernel, rfl, by decide +kernel, by decide +kernel⟩
theorem fn_is_weight {g : Pg} (T : Tx g) (F_is_spot : FnT_is_spot g) (F_is_fraction : FnT_is_fraction g) (F_is_below : FnT_is_below g) : FnT_is_weight g := by
  refine T.fn 23 19 (k := 5) (d := dIsWeight) rfl rfl rfl rfl rfl sc_is_weight (fun _ => rfl) (fun _ _ _ _ _ _ us hl => match us, hl with | [_, _], _ => rfl) fun cdv Ar outer s H z hr => ?_
  have nd := sc_is_weight.nd
  skip
  -- if not isinstance(thing, tuple) or len(thing) != 2:
  refine xb_cons (xs_if (xw_or (xt_not (xt_val (xe_isi (kit_tuple _) (T.free 90 rfl) (T.free 94 rfl) (by decide +kernel) (xe_name (i := 1) rfl)))) fun hb => (xw_or1 (xt_neI (xe_lenT (T.free 91 rfl) (xe_name (i := 1) rfl)) xe_int))).t (fun hb => ?_) (fun hb => ?_))
  · exact absurd hb (by simp [isTy_tt, wtD])
  · refine xb_nil ?_
    -- return is_spot(plank, thing[0]) and is_fraction(thing[1]) and is_below(NOUGHT, thing[1])
    refine xb_one (xs_ret (T := tD g.K (.bool true)) (XE.toD (xe_and (xe_call (F_is_spot.mono (by decide)) (fun _ => hr) ⟨(_, _), ⟨z.2.1, z.2.2.1, z.2.2.2.1, z.2.2.2.2.1⟩⟩ (xa_cons (xe_name (i := 0) rfl) (xa_cons (xe_ixT rfl (xe_name (i := 1) rfl) xe_int) xa_nil))) fun hb => (xe_and (xe_call (F_is_fraction.mono (by decide)) (fun _ => hr) ⟨_, z.2.2.2.2.2.1⟩ (xa_cons (xe_ixT rfl (xe_name (i := 1) rfl) xe_int) xa_nil)) fun hb => (xe_one (xe_call (F_is_below.mono (by decide)) (fun _ => hr) ⟨((0, 1), _), ⟨fb_0, z.2.2.2.2.2.1.1⟩⟩ (xa_cons (xe_gref (T.glo 88 rfl) T.tup.1) (xa_cons (xe_ixT rfl (xe_name (i := 1) rfl) xe_int) xa_nil)))))) ?_) rfl)
    have h := z.2.2.2.2.2.2
    simp [belowM, h]
abbrev FnT_slope (g : Pg) : Prop := Fn g "slope" ["low", "high", "spot"] 4 (spM (α := {z : Int × Int × (Int × Int) // FB 500 (z.1, 1) ∧ FB 400 (z.2.1 - z.1, 1) ∧ 0 < z.2.1 - z.1 ∧ FB 400 z.2.2}) (fun _ => []) (fun z => [tD g.K (.int z.1.1), tD g.K (.int z.1.2.1), tD g.K (frD z.1.2.2)]) (fun z => tD g.K (frD (slopeM z.1.1 z.1.2.1 z.1.2.2))))
theorem sc_slope : FnScope ["low", "high", "spot"] ["low", "high", "spot"] (defScope sSlope) := ⟨rfl, rfl, rfl, by decide +kernel, rfl, by decide +kernel, by decide +kernel⟩
theorem fn_slope {g : Pg} (T : Tx g) (F_over : FnT_over g) (F_less : FnT_less g) (F_whole : FnT_whole g) : FnT_slope g := by
  refine T.fn 25 21 (k := 3) (d := dSlope) rfl rfl rfl rfl rfl sc_slope (fun _ => rfl) (fun _ _ _ _ _ _ us hl => match us, hl with | [_, _, _], _ => rfl) fun cdv Ar outer s H z hr => ?_
  have nd := sc_slope.nd
  obtain ⟨⟨a, b, c⟩, h1, h2, h3, h4⟩ := z
  -- return over(less(spot, whole(low)), whole(high - low))
  refine xb_one (xs_ret (xe_call (F_over.mono (by decide)) (fun _ => hr) ⟨(_, (_, _)), ⟨(less_fb h4 h1).mono (by decide), h2.mono (by decide), h3⟩⟩ (xa_cons (xe_call (F_less.mono (by decide)) (fun _ => hr) ⟨(_, (_, _)), ⟨h4.mono (by decide), h1.mono (by decide)⟩⟩ (xa_cons (xe_name (i := 2) rfl) (xa_cons (xe_call (F_whole.mono (by decide)) (fun _ => hr) _ (xa_cons (xe_name (i := 0) rfl) xa_nil)) xa_nil))) (xa_cons (xe_call (F_whole.mono (by decide)) (fun _ => hr) _ (xa_cons (xe_sub (xe_name (i := 1) rfl) (xe_name (i := 0) rfl)) xa_nil)) xa_nil))) rfl)
end Pf
end
section
set_option Elab.async false
set_option linter.all false
set_option maxRecDepth 100000
set_option maxHeartbeats 2000000
namespace Pf
open PySem PySem.Spec PyProof.Rows L2 RZ
def tEq (v : V) : Ty := ⟨fun _ w => w = v, fun _ h => h⟩
section
variable {g : Pg} {x : Str} {ps N : List Str} {k : Nat} {α : Type} {mis : α → List Mi} {A : α → List Ty} {R : α → List Addr → Ty} {dvs : List V} {p0 : Str}
theorem Tx.mkI (T : Tx g) (i j jg : Nat) {d : He.DefD} (hd : fnL[i]? = some d) (hj : faL[j]? = some (.mkr x)) (hg : faL[jg]? = some (.glo x)) (ha : d.at_ = (x, some ("__init__" : Str))) (h1 : d.dfl = []) (S : FnScope N (p0 :: ps) d.scope) (len : ∀ z, (A z).length = ps.length) (hmi : ∀ z, ∀ mi ∈ mis z, ∀ B, mi.I B [])
    (bind : ∀ fd, FunD g.K d.name d.qual d.params d.body d.scope [] (d.kws g.K) (He.ma g.K (He.ga g.K x) "__init__") fd → ∃ vals, Vals dvs vals ∧ Binds g.K fd (p0 :: ps) vals)
    (hb : ∀ (cdv : Value) (Ar : Around) (outer : List Env) (s : Shared) (H : Hp) (z : α) (xi dx : Addr), Room k (Ar.deeper (envOfC d.qual d.scope s.heap.objs.size (He.ma g.K (He.ga g.K x) "__init__") cdv)) →
      XB g (ctOf (cxOf CX0 g.P g.w g.K g.mg g.base N d.qual d.scope (He.ma g.K (He.ga g.K x) "__init__") cdv Ar outer s H E0)) (stI N (A z) xi (He.ga g.K x) dx) d.body { nx := EndI (mis z) (R z) xi (He.ga g.K x) dx, rt := fun _ => False }) : MkN g x (p0 :: ps) (k + 1) dvs (spI (He.ga g.K x) mis A R) := by
  obtain ⟨fd, F⟩ := T.says.def_ i hd
  have e1 : d.dvs g.K = [] := by unfold He.DefD.dvs; rw [h1]; rfl
  have e3 : He.fAd g.K d.at_ = He.ma g.K (He.ga g.K x) "__init__" := by rw [ha]; rfl
  rw [e1, e3] at F
  obtain ⟨vals, v1, v2⟩ := bind fd F
  exact ⟨_, fd, vals, T.glo jg hg, He.mkr_ok (T.says.fact j hj), v1, v2, fn_okI F S len hmi hb⟩
theorem Tx.fnN (T : Tx g) (i j : Nat) {d : He.DefD} (hd : fnL[i]? = some d) (hx : faL[j]? = some (.glo x)) (ha : d.at_ = (x, none)) (h1 : d.dfl = []) (h2 : d.kwd = []) (S : FnScope N ps d.scope) (len : ∀ z, (A z).length = ps.length)
    (bind : ∀ (kV doc pm : Value) (an : Option Addr) (cdv ct : Value) (us : List Value), us.length = ps.length → bindArgs (PySem.W.fnOf d.name d.qual d.params d.body d.scope .none kV doc pm an cdv ct) ⟨us, []⟩ = pure (ps.zip us))
    (hb : ∀ (cdv : Value) (Ar : Around) (outer : List Env) (s : Shared) (H : Hp) (z : α), Room k (Ar.deeper (envOfC d.qual d.scope s.heap.objs.size (He.ga g.K x) cdv)) →
      XBm g (ctOf (cxOf CX0 g.P g.w g.K g.mg g.base N d.qual d.scope (He.ga g.K x) cdv Ar outer s H E0)) (st0 N (A z) []) d.body (fun q T => ∃ ds, ds.length = (mis z).length ∧ q.O = [] ∧ q.M = ds.zip (mis z) ∧ T = R z ds)) : FnN g x ps (k + 1) (spN mis A R) := by
  obtain ⟨fd, F⟩ := T.says.def_ i hd
  have e1 : d.dvs g.K = [] := by unfold He.DefD.dvs; rw [h1]; rfl
  have e2 : d.kws g.K = [] := by unfold He.DefD.kws; rw [h2]; rfl
  have e3 : He.fAd g.K d.at_ = He.ga g.K x := by rw [ha]; rfl
  rw [e1, e2, e3] at F
  exact ⟨_, fd, T.glo j hx, F.kp, FunD.bindsN F bind, fn_okN F S len hb⟩
end
/-! ### Plank(..) -/
abbrev MkT_Plank (g : Pg) : Prop := MkN g "Plank" ["self", "length", "props", "bend"] 7 [.non] (spI (α := WT) (He.ga g.K "Plank") (fun _ => []) (fun z => [tD g.K (.int z.1.len), tD g.K (.list (z.1.props.map propD)), tEq .non]) (fun z _ => tPlank g z.1))
theorem sc_Plank_init : FnScope ["self", "length", "props", "bend"] ["self", "length", "props", "bend"] (defScope sPlankInit) := ⟨rfl, rfl, rfl, by decide +kernel, rfl, by decide +kernel, by decide +kernel⟩
theorem mk_Plank {g : Pg} (T : Tx g) (F_is_whole : FnT_is_whole g) (F_are_props : FnT_are_props g) : MkT_Plank g := by
  refine T.mkI 14 57 55 (k := 6) (d := dPlankInit) rfl rfl rfl rfl rfl sc_Plank_init (fun _ => rfl) (fun _ mi h => nomatch h) (fun fd F => FunD.binds0 (kws := [("bend", .non)]) F 3 (by simp) rfl fun D doc pm an cdv ct us ks h1 h2 => match us, h1, ks, h2 with | [_, _, _], _, [_], _ => ⟨_, _, _, _, _, _, rfl, rfl, rfl⟩) fun cdv Ar outer s H z xi dx hr => ?_
  have nd := sc_Plank_init.nd
  have h2 := z.2.l2
  have h3 := z.2.l3
  refine xb_cons (xs_if (xw_or (xt_not (xt_val (xe_call (F_is_whole.mono (by decide)) (fun _ => hr) _ (xa_cons (xe_name (i := 1) rfl) xa_nil)))) fun hb => (xw_or1 (xt_not (xt_chainI (f := (fun i j => decide (i ≤ j))) (f' := (fun i j => decide (i ≤ j))) (fun _ => op_le) (fun _ => op_le) xe_int (xe_name (i := 1) rfl) (xe_gint (T.int 85 rfl)) rfl)))).t (fun hb => ?_) (fun hb => ?_))
  · exact absurd hb (by simp [isWhole, h2, h3])
  · refine xb_nil ?_
    refine xb_cons (xs_if (xt_not (xt_val (xe_call (F_are_props.mono (by decide)) (fun _ => hr) z (xa_cons (xe_name (i := 2) rfl) (xa_cons (xe_name (i := 1) rfl) xa_nil))))) (fun hb => ?_) (fun hb => ?_))
    · exact absurd hb (by simp)
    · refine xb_nil ?_
      refine xb_cons (xs_if (xw_and (xt_notN (k := true) (fun B v h => by rw [show v = .non from h]; rfl) (xe_name (i := 3) rfl) xe_non) fun hb => absurd hb (by simp)).t (kk := false && false) (fun hb => ?_) (fun hb => ?_))
      · exact absurd hb (by simp)
      · refine xb_nil ?_
        refine xb_cons (xs_fld (O1 := []) (O2 := []) rfl (xe_name (i := 0) rfl) T.clP (T.noat 64 rfl) (Nat.le_of_ble_eq_true rfl) (xe_name (i := 1) rfl) ?_)
        refine xb_cons (xs_fld (O1 := []) (O2 := []) rfl (xe_name (i := 0) rfl) T.clP (T.noat 65 rfl) (Nat.le_of_ble_eq_true rfl) (xe_tupOfL (T.free 94 rfl) (xe_name (i := 2) rfl)) ?_)
        refine xb_one (xs_fld (O1 := []) (O2 := []) rfl (xe_name (i := 0) rfl) T.clP (T.noat 66 rfl) (Nat.le_of_ble_eq_true rfl) (xe_name (i := 3) rfl) ?_)
        refine ⟨[], _, rfl, rfl, rfl, fun B vs h1 h2 => ?_⟩
        cases h2 with
        | cons a1 h2 =>
          cases h2 with
          | cons a2 h2 =>
            cases h2 with
            | cons a3 h2 =>
              cases h2
              have e1 := rp_int a1
              have e3 : _ = V.non := a3
              subst e1 e3
              exact ⟨xi, dx, _, rfl, h1, a2⟩
end Pf
end
section
set_option Elab.async false
set_option linter.all false
set_option maxRecDepth 100000
set_option maxHeartbeats 2000000
namespace Pf
open PySem PySem.Spec PyProof.Rows L2 RZ
section
variable {g : Pg} {C : Ct} {q q' : Sta} {P : Po} {e a b c o tg iter elt : Expr} {es ifs : List Expr} {st : Stmt} {sts rest body : List Stmt} {pos p p2 p3 apos cpos : Pos} {T Ta Tb : Ty} {Ts : List Ty} {x : Str} {i j : Nat} {M : Ml} {δ δ' : Sd} {ts vs : List Nat} {t : TG}
theorem Hold.new {Z : Addr → Bool} {M0 : Ml} {H0 H : Hp} {G : List (V × Ty)} {σ : L2.St} (hh : Hold Z M0 H0 G q σ H) {p : Addr} {ob : HO} (hp : H p = none) : Hold Z M0 H0 G q σ (upd H p ob) ∧ stb Z q (upd H p ob) p = some ob := ⟨hh.step (Fr.of_ex (Ex.new hp)) (hh.amb.new hp), hh.amb.got hp⟩
/-- for i, x in enumerate(list of data) -/
theorem xs_forE {elts : List Expr} {kk : Nat} {tpos : Pos} (ds : List PyData) (I : Nat → Sta) (D' : Nat → PyData → Sd) (hm : g.mg "enumerate" = none) (h : XE g C q.M q.δ e (tD g.K (.list ds))) (h0 : Sub q (I 0)) (hg : ∀ (n : Nat) d, ds[n]? = some d → XG t (tD g.K (.tuple [.int (n : Int), d])) (I n).δ (D' n d) ts)
    (hs : ∀ n d, ds[n]? = some d → XB g C { I n with δ := D' n d } body { nx := fun q' => Sub q' (I (n + 1)), ct := fun q' => Sub q' (I (n + 1)), rt := P.rt, bk := P.nx }) (hd : P.nx (I ds.length)) (hp : ∀ j, PG (C.X g j) (.Tuple elts kk tpos) t)
    (hk : ∀ j, (C.env j).kindOf "enumerate" = some .globalImplicit := by intro _; rfl) (hst : ∀ j, starEach [e] (C.env j) = [(false, eval e (C.env j))] := by intro _; rfl) (hf : ∀ j x, foldedSetIterable (.Call (.Name "enumerate" p2) [e] [] apos) (C.env j) x = pure x := by intro _ _; rfl) :
    XS g C q (.For (.Tuple elts kk tpos) (.Call (.Name "enumerate" p2) [e] [] apos) body [] pos) P := fun Z M0 H0 G σ H D hh m => by
  refine w_ps (t := tFor (iEnum g.K (tCons (wE g C e) tNil)) t (wB g C body)) ?_ fun j => ps_for (X := C.X g j) PassesOwn.never rfl (pi_enum (hk j) hm (pa_cons (pe_w j) pa_nil (by rw [hst j]; rfl)) (hst j)) (hp j) (pss_w j) (hf j)
  refine hh.ev h fun v H1 h1 t1 => ?_
  obtain ⟨l, xs, rfl, hl, hr⟩ := rp_lst t1
  refine ⟨l, xs, rfl, SqL.of (out_sub _ _ hl), for_it (walk_enum (K := g.K) (a := l) (xs := xs)) (fun n σ' H' => Hold Z M0 H0 ((.ref l, tSrc g.K l xs ds) :: G) (I n) σ' H') ((h1.ghost (T := tSrc g.K l xs ds) ⟨rfl, hl, hr⟩).sub h0) (fun n σ' H' _ w => SqL.of (out_sub _ _ (w.gh _ List.mem_cons_self).2.1)) (fun n y σ' H' H2 hn w yy => ?_) fun σ' H' w => ?_⟩
  · obtain ⟨A, v1, v2, rfl, hA, rfl, e1, e2⟩ := yy
    obtain rfl : V.int (n : Nat) = v1 := Option.some.inj e1
    obtain ⟨_, hl', hr'⟩ := w.gh _ List.mem_cons_self
    obtain ⟨d, hd', hy⟩ := hr'.at2 e2
    obtain ⟨w2, g2⟩ := w.new (ob := .tup [.int (n : Nat), v2]) hA
    have ex : Ex (stb Z (I n) H') (stb Z (I n) (upd H' A (.tup [.int (n : Nat), v2]))) := Fr.out (Fr.of_ex (Ex.new hA))
    refine hg n d hd' (stb Z (I n) (upd H' A (.tup [.int (n : Nat), v2]))) _ _ σ' _ out_sub (.tup (SqT.of g2) (.cons (.int _) (.cons (hy.mono ex) .nil))) w2.sl fun σ2 s2 _ => ?_
    refine hs n d hd' Z M0 H0 _ σ2 _ _ (w2.sl' s2) ⟨fun q' σ3 H3 n3 h3 => h3.sub n3, m.rt, fun q' σ3 H3 n3 h3 => m.nx q' σ3 H3 n3 h3.unghost, fun q' σ3 H3 n3 h3 => h3.sub n3⟩
  · have e : xs.length = ds.length := hr.length
    rw [e] at w
    exact m.nx _ _ _ hd w.unghost
/-- two tests in a comprehension, two loops: over ranges -/
theorem XE.dD {ns : List Int} (h : XE g C M δ e (tKt ns)) : XE g C M δ e (tD g.K (.tuple (ns.map .int))) := h.sub tKt_d
theorem XE.dR {ns : List Int} (h : XE g C M δ e (tRs g.K ns)) : XE g C M δ e (tD g.K (.tuple (ns.map .int))) := h.sub tRs_d
end
end Pf
end
section
set_option Elab.async false
set_option linter.all false
set_option maxRecDepth 100000
set_option maxHeartbeats 2000000
set_option exponentiation.threshold 5000
namespace Pf
open PySem PySem.Spec PyProof.Rows L2 RZ
/-! ### Loads -/
structure TrOk (W : Wd) (l r i : Int) : Prop where
  h1 : -1 ≤ l
  h2 : l < r
  h3 : r < i
  h4 : i ≤ W.props.length
theorem getD_at {α : Type} {l : List α} {n : Nat} {d : α} (h : n < l.length) : l.getD n d = l[n] := by rw [List.getD_eq_getElem?_getD, List.getElem?_eq_getElem h]; rfl
theorem place_in {W : Wd} (hW : WOk W) {r : Int} (h1 : 0 ≤ r) (h2 : r < W.props.length) : 0 < placeM W r ∧ placeM W r < W.len := by
  unfold placeM
  rw [if_neg (by omega), if_neg (by omega), getD_at (show r.toNat < W.props.length by omega)]
  exact hW.pin _ (List.getElem_mem _)
theorem place_low {W : Wd} : placeM W (-1) = 0 := if_pos rfl
theorem place_high {W : Wd} : placeM W W.props.length = W.len := by
  unfold placeM
  rw [if_neg (by omega), if_pos rfl]
theorem place_lt {W : Wd} (hW : WOk W) {a b : Int} (h1 : -1 ≤ a) (h2 : a < b) (h3 : b ≤ W.props.length) : placeM W a < placeM W b := by
  have l2 := hW.l2
  by_cases ha : a = -1
  · subst ha
    rw [place_low]
    by_cases hb : b = W.props.length
    · rw [hb, place_high]; omega
    · exact (place_in hW (by omega) (by omega)).1
  · by_cases hb : b = W.props.length
    · rw [hb, place_high]
      exact (place_in hW (by omega) (by omega)).2
    · have pw := ascB_pw hW.asc
      have k := List.pairwise_iff_getElem.mp pw a.toNat b.toNat (by rw [List.length_map]; omega) (by rw [List.length_map]; omega) (by omega)
      rw [List.getElem_map, List.getElem_map] at k
      unfold placeM
      rw [if_neg ha, if_neg (by omega), if_neg (by omega), if_neg hb, getD_at (show a.toNat < W.props.length by omega), getD_at (show b.toNat < W.props.length by omega)]
      exact k
theorem place_rng {W : Wd} (hW : WOk W) {r : Int} (h1 : -1 ≤ r) (h2 : r ≤ W.props.length) : 0 ≤ placeM W r ∧ placeM W r ≤ W.len := by
  have l2 := hW.l2
  by_cases ha : r = -1
  · rw [ha, place_low]; omega
  · by_cases hb : r = W.props.length
    · rw [hb, place_high]; omega
    · have := place_in hW (r := r) (by omega) (by omega)
      omega
theorem place_fb {W : Wd} (hW : WOk W) {r : Int} (h1 : -1 ≤ r) (h2 : r ≤ W.props.length) : FB 10 (placeM W r, 1) := by
  have h := place_rng hW h1 h2
  have l3 := hW.l3
  exact ⟨Int.one_pos, lt_two10 (by omega) (by decide), one_lt_two (by decide)⟩
theorem place_fb2' {W : Wd} (hW : WOk W) {a b : Int} (h1 : -1 ≤ a) (h2 : a < b) (h3 : b ≤ W.props.length) : FB 10 (placeM W b - placeM W a, 1) := by
  have p1 := place_rng hW h1 (show a ≤ W.props.length by omega)
  have p2 := place_rng hW (show -1 ≤ b by omega) h3
  have p3 := place_lt hW h1 h2 h3
  have l3 := hW.l3
  exact ⟨Int.one_pos, lt_two10 (by show 0 ≤ placeM W b - placeM W a ∧ placeM W b - placeM W a < 1024; omega) (by decide), one_lt_two (by decide)⟩
theorem place_fb2 {W : Wd} (hW : WOk W) {a b : Int} (h1 : -1 ≤ a) (h2 : a < b) (h3 : b ≤ W.props.length) : FB 400 (placeM W b - placeM W a, 1) := (place_fb2' hW h1 h2 h3).mono (by decide)
theorem place_lt2 {W : Wd} (hW : WOk W) {a b : Int} (h1 : -1 ≤ a) (h2 : a < b) (h3 : b ≤ W.props.length) : 0 < placeM W b - placeM W a := by
  have := place_lt hW h1 h2 h3
  omega
theorem slope_fb {W : Wd} (hW : WOk W) {a b : Int} {s : Int × Int} (h1 : -1 ≤ a) (h2 : a < b) (h3 : b ≤ W.props.length) (hs : FB 12 s) : FB 33 (slopeM (placeM W a) (placeM W b) s) :=
  (over_fb (less_fb hs (place_fb hW h1 (by omega))) (place_fb2' hW h1 h2 h3) (place_lt2 hW h1 h2 h3)).mono (by decide)
/-- how much of a weight lies on a rest -/
def shareM (W : Wd) (l r i : Int) (s : Int × Int) : Int × Int :=
  if s = (placeM W r, 1) then (1, 1)
  else if belowM s (placeM W r, 1) = true then (if belowM (placeM W l, 1) s = true then slopeM (placeM W l) (placeM W r) s else (0, 1))
  else (if belowM s (placeM W i, 1) = true then lessM (1, 1) (slopeM (placeM W r) (placeM W i) s) else (0, 1))
theorem fb_0' {n : Nat} (h : 1 ≤ n) : FB n (0, 1) := ⟨Int.one_pos, Nat.pow_pos (by decide), one_lt_two h⟩
theorem fb_1' {n : Nat} (h : 1 ≤ n) : FB n (1, 1) := ⟨Int.one_pos, one_lt_two h, one_lt_two h⟩
theorem share_fb {W : Wd} (hW : WOk W) {l r i : Int} {s : Int × Int} (h : TrOk W l r i) (hs : FB 12 s) : FB 35 (shareM W l r i s) := by
  obtain ⟨h1, h2, h3, h4⟩ := h
  unfold shareM
  split
  · exact fb_1' (by decide)
  · split
    · split
      · exact (slope_fb hW h1 h2 (by omega) hs).mono (by decide)
      · exact fb_0' (by decide)
    · split
      · exact (less_fb (fb_1' (n := 1) (by decide)) (slope_fb hW (by omega) h3 h4 hs)).mono (by decide)
      · exact fb_0' (by decide)
def liesM (W : Wd) (l r i : Int) : Int × Int := sumM (W.wts.map fun w => timesM w.2 (shareM W l r i w.1))
def overB (W : Wd) (l r i : Int) : Bool := belowM (strM W r) (liesM W l r i)
def tLoads (g : Pg) (W : Wd) (d1 d2 : Addr) : Ty := ⟨fun H v => ∃ q dx pv wv, v = .ref q ∧ H q = some (.ins (He.ga g.K "Loads") dx [("plank", pv), ("weights", wv), ("known", .ref d1), ("over", .ref d2)]) ∧ (tPlank g W).p H pv ∧ Rp g.K H wv (.list (W.wts.map wtD)),
  fun e ⟨q, dx, pv, wv, h1, h2, h3, h4⟩ => ⟨q, dx, pv, wv, h1, e _ _ h2, (tPlank g W).mono e h3, h4.mono e⟩⟩
section
variable {g : Pg} {C : Ct} {M : Ml} {δ : Sd} {a : Expr} {pos : Pos} {W : Wd} {d1 d2 : Addr}
theorem Tx.clL (T : Tx g) : Cls g.K (He.ga g.K "Loads") := T.cls 59 rfl
theorem fld_loads_plank (T : Tx g) (ha : XE g C M δ a (tLoads g W d1 d2)) (hb : ∀ j, attributeBase a "plank" (C.env j) (eval a (C.env j)) = eval a (C.env j) := by intro _; rfl) : XE g C M δ (.Attribute a "plank" pos) (tPlank g W) :=
  xe_fld (Ta := tLoads g W d1 d2) (K0 := g.K) T.clL (T.noat 70 rfl) (fun B v ⟨q, dx, pv, wv, h1, h2, h3, h4⟩ => ⟨q, dx, _, pv, h1, h2, rfl, h3⟩) ha hb
theorem fld_loads_weights (T : Tx g) (ha : XE g C M δ a (tLoads g W d1 d2)) (hb : ∀ j, attributeBase a "weights" (C.env j) (eval a (C.env j)) = eval a (C.env j) := by intro _; rfl) : XE g C M δ (.Attribute a "weights" pos) (tD g.K (.list (W.wts.map wtD))) :=
  xe_fld (Ta := tLoads g W d1 d2) (K0 := g.K) T.clL (T.noat 71 rfl) (fun B v ⟨q, dx, pv, wv, h1, h2, h3, h4⟩ => ⟨q, dx, _, wv, h1, h2, rfl, h4⟩) ha hb
theorem fld_loads_known (T : Tx g) (ha : XE g C M δ a (tLoads g W d1 d2)) (hb : ∀ j, attributeBase a "known" (C.env j) (eval a (C.env j)) = eval a (C.env j) := by intro _; rfl) : XE g C M δ (.Attribute a "known" pos) (tAt d1) :=
  xe_fld (Ta := tLoads g W d1 d2) (K0 := g.K) T.clL (T.noat 72 rfl) (fun B v ⟨q, dx, pv, wv, h1, h2, h3, h4⟩ => ⟨q, dx, _, _, h1, h2, rfl, rfl⟩) ha hb
theorem fld_loads_over (T : Tx g) (ha : XE g C M δ a (tLoads g W d1 d2)) (hb : ∀ j, attributeBase a "over" (C.env j) (eval a (C.env j)) = eval a (C.env j) := by intro _; rfl) : XE g C M δ (.Attribute a "over" pos) (tAt d2) :=
  xe_fld (Ta := tLoads g W d1 d2) (K0 := g.K) T.clL (T.noat 73 rfl) (fun B v ⟨q, dx, pv, wv, h1, h2, h3, h4⟩ => ⟨q, dx, _, _, h1, h2, rfl, rfl⟩) ha hb
theorem loads_at {m : Str} (h : m ≠ "plank" ∧ m ≠ "weights" ∧ m ≠ "known" ∧ m ≠ "over" := by decide) : ∀ B v, (tLoads g W d1 d2).p B v → ∃ q dx fs, v = .ref q ∧ B q = some (.ins (He.ga g.K "Loads") dx fs) ∧ fs.lookup m = none := fun B v ⟨q, dx, pv, wv, h1, h2, h3, h4⟩ => by
  refine ⟨q, dx, _, h1, h2, ?_⟩
  simp only [List.lookup, beq_eq_false_iff_ne.mpr h.1, beq_eq_false_iff_ne.mpr h.2.1, beq_eq_false_iff_ne.mpr h.2.2.1, beq_eq_false_iff_ne.mpr h.2.2.2]
end
structure ShZ where
  W : Wd
  d1 : Addr
  d2 : Addr
  l : Int
  r : Int
  i : Int
  s : Int × Int
abbrev ShIn := {z : ShZ // WOk z.W ∧ TrOk z.W z.l z.r z.i ∧ FB 12 z.s}
theorem eqv_fr (a b : Int × Int) : PyData.eqv (frD a) (frD b) = decide (a = b) := by
  obtain ⟨a1, a2⟩ := a
  obtain ⟨b1, b2⟩ := b
  by_cases h1 : a1 = b1 <;> by_cases h2 : a2 = b2 <;> simp [frD, PyData.eqv, PyData.eqvAll, h1, h2]
abbrev FnT_Loads_share (g : Pg) : Prop := Mt g (He.ga g.K "Loads") "share" ["self", "left", "rest", "right", "spot"] 5 (spM (α := ShIn) (fun _ => []) (fun z => [tLoads g z.1.W z.1.d1 z.1.d2, tD g.K (.int z.1.l), tD g.K (.int z.1.r), tD g.K (.int z.1.i), tD g.K (frD z.1.s)]) (fun z => tD g.K (frD (shareM z.1.W z.1.l z.1.r z.1.i z.1.s))))
theorem sc_Loads_share : FnScope ["self", "left", "rest", "right", "spot", "here", "low", "high"] ["self", "left", "rest", "right", "spot"] (defScope sLoadsShare) := ⟨rfl, rfl, rfl, by decide +kernel, rfl, by decide +kernel, by decide +kernel⟩
theorem fn_Loads_share {g : Pg} (T : Tx g) (F_Plank_place_of : FnT_Plank_place_of g) (F_whole : FnT_whole g) (F_is_below : FnT_is_below g) (F_slope : FnT_slope g) (F_less : FnT_less g) (F_Plank_count : FnT_Plank_count g) : FnT_Loads_share g := by
  refine T.mt 27 74 (k := 4) (d := dLoadsShare) rfl rfl rfl rfl rfl sc_Loads_share (fun _ => rfl) (fun _ _ _ _ _ _ us hl => match us, hl with | [_, _, _, _, _], _ => rfl) fun cdv Ar outer s H z hr => ?_
  have nd := sc_Loads_share.nd
  obtain ⟨⟨W, d1, d2, l, r, i, s0⟩, hW, ht, hs⟩ := z
  obtain ⟨t1, t2, t3, t4⟩ := ht
  dsimp only at hW t1 t2 t3 t4 hs
  have f1 := place_fb hW (r := l) (by omega) (by omega)
  have f2 := place_fb hW (r := r) (by omega) (by omega)
  have f3 := place_fb hW (r := i) (by omega) (by omega)
  have pl : -1 ≤ l ∧ l ≤ W.props.length := ⟨by omega, by omega⟩
  have pr : -1 ≤ r ∧ r ≤ W.props.length := ⟨by omega, by omega⟩
  have pi : -1 ≤ i ∧ i ≤ W.props.length := ⟨by omega, by omega⟩
  have fs := hs.mono (m := 1000) (by decide)
  have y1 : FB 1000 s0 ∧ FB 1000 (placeM W r, 1) := ⟨fs, f2.mono (by decide)⟩
  have y2 : FB 1000 (placeM W l, 1) ∧ FB 1000 s0 := ⟨f1.mono (by decide), fs⟩
  have y4 : FB 1000 s0 ∧ FB 1000 (placeM W i, 1) := ⟨fs, f3.mono (by decide)⟩
  have y5 : FB 1000 (1, 1) ∧ FB 1000 (slopeM (placeM W r) (placeM W i) s0) := ⟨fb_1, (slope_fb hW (by omega) t3 t4 hs).mono (by decide)⟩
  have y3 : FB 500 (placeM W l, 1) ∧ FB 400 (placeM W r - placeM W l, 1) ∧ 0 < placeM W r - placeM W l ∧ FB 400 s0 := ⟨f1.mono (by decide), place_fb2 hW t1 t2 (by omega), place_lt2 hW t1 t2 (by omega), hs.mono (by decide)⟩
  have y6 : FB 500 (placeM W r, 1) ∧ FB 400 (placeM W i - placeM W r, 1) ∧ 0 < placeM W i - placeM W r ∧ FB 400 s0 := ⟨f2.mono (by decide), place_fb2 hW (by omega) t3 t4, place_lt2 hW (by omega) t3 t4, hs.mono (by decide)⟩
  refine xb_cons (xs_set 5 (xe_meth (F_Plank_place_of.mono (by decide)) (T.clP) (fun _ => hr) ⟨(W, r), pr⟩ (fld_loads_plank T (xe_name (i := 0) rfl)) plank_m (xa_cons (xe_name (i := 2) rfl) xa_nil) rfl) ?_ nd)
  refine xb_cons (xs_if (xt_eqD (fun _ => hr) (by rfl) (by rfl) (xe_name (i := 4) rfl) (xe_call (F_whole.mono (by decide)) (fun _ => hr) _ (xa_cons (xe_name (i := 5) rfl) xa_nil))) (fun hb => ?_) (fun hb => ?_))
  · skip
    have h1 : s0 = (placeM W r, 1) := by rw [eqv_fr] at hb; exact of_decide_eq_true hb
    refine xb_one (xs_ret (T := tD g.K (frD (shareM W l r i s0))) (XE.toD (xe_gref (T.glo 89 rfl) T.tup.2) ?_) rfl)
    · unfold shareM; simp only [if_pos h1]; rfl
  · skip
    have h1 : ¬ s0 = (placeM W r, 1) := by rw [eqv_fr] at hb; exact of_decide_eq_false hb
    refine xb_nil ?_
    refine xb_cons (xs_if (xt_val (xe_call (F_is_below.mono (by decide)) (fun _ => hr) ⟨(s0, (placeM W r, 1)), y1⟩ (xa_cons (xe_name (i := 4) rfl) (xa_cons (xe_call (F_whole.mono (by decide)) (fun _ => hr) _ (xa_cons (xe_name (i := 5) rfl) xa_nil)) xa_nil)))) (fun hb => ?_) (fun hb => ?_))
    · skip
      have h2 : belowM s0 (placeM W r, 1) = true := hb
      refine xb_cons (xs_set 6 (xe_if (xt_eqI (xe_name (i := 2) rfl) (xe_gint (T.int 87 rfl))) (fun hb => absurd hb (by simp; omega)) (fun hb => (xe_meth (F_Plank_place_of.mono (by decide)) (T.clP) (fun _ => hr) ⟨(W, l), pl⟩ (fld_loads_plank T (xe_name (i := 0) rfl)) plank_m (xa_cons (xe_name (i := 1) rfl) xa_nil) rfl))) ?_ nd)
      refine xb_cons (xs_if (XW.t (xw_or (xt_isN (non_d _) (xe_name (i := 6) rfl) xe_non) fun hb => (xw_or1 (xt_not (xt_val (xe_call (F_is_below.mono (by decide)) (fun _ => hr) ⟨((placeM W l, 1), s0), y2⟩ (xa_cons (xe_call (F_whole.mono (by decide)) (fun _ => hr) _ (xa_cons (xe_name (i := 6) rfl) xa_nil)) (xa_cons (xe_name (i := 4) rfl) xa_nil)))))))) (fun hb => ?_) (fun hb => ?_))
      · skip
        have h3 : belowM (placeM W l, 1) s0 = false := by simpa [isNon] using hb
        refine xb_one (xs_ret (T := tD g.K (frD (shareM W l r i s0))) (XE.toD (xe_gref (T.glo 88 rfl) T.tup.1) ?_) rfl)
        · unfold shareM; simp only [if_neg h1, h2, h3]; rfl
      · skip
        have h3 : belowM (placeM W l, 1) s0 = true := by simpa [isNon] using hb
        refine xb_nil ?_
        refine xb_one (xs_ret (T := tD g.K (frD (shareM W l r i s0))) (XE.toD (xe_call (F_slope.mono (by decide)) (fun _ => hr) ⟨(placeM W l, placeM W r, s0), y3⟩ (xa_cons (xe_name (i := 6) rfl) (xa_cons (xe_name (i := 5) rfl) (xa_cons (xe_name (i := 4) rfl) xa_nil)))) ?_) rfl)
        · unfold shareM; simp only [if_neg h1, h2, h3]; rfl
    · skip
      have h2 : belowM s0 (placeM W r, 1) = false := hb
      refine xb_nil ?_
      refine xb_cons (xs_set 7 (xe_if (xt_eqI (xe_name (i := 2) rfl) (xe_meth0 (F_Plank_count.mono (by decide)) (T.clP) (fun _ => hr) _ (fld_loads_plank T (xe_name (i := 0) rfl)) plank_m rfl)) (fun hb => absurd hb (by simp; omega)) (fun hb => (xe_meth (F_Plank_place_of.mono (by decide)) (T.clP) (fun _ => hr) ⟨(W, i), pi⟩ (fld_loads_plank T (xe_name (i := 0) rfl)) plank_m (xa_cons (xe_name (i := 3) rfl) xa_nil) rfl))) ?_ nd)
      refine xb_cons (xs_if (XW.t (xw_or (xt_isN (non_d _) (xe_name (i := 7) rfl) xe_non) fun hb => (xw_or1 (xt_not (xt_val (xe_call (F_is_below.mono (by decide)) (fun _ => hr) ⟨(s0, (placeM W i, 1)), y4⟩ (xa_cons (xe_name (i := 4) rfl) (xa_cons (xe_call (F_whole.mono (by decide)) (fun _ => hr) _ (xa_cons (xe_name (i := 7) rfl) xa_nil)) xa_nil)))))))) (fun hb => ?_) (fun hb => ?_))
      · skip
        have h3 : belowM s0 (placeM W i, 1) = false := by simpa [isNon] using hb
        refine xb_one (xs_ret (T := tD g.K (frD (shareM W l r i s0))) (XE.toD (xe_gref (T.glo 88 rfl) T.tup.1) ?_) rfl)
        · unfold shareM; simp only [if_neg h1, h2, h3]; rfl
      · skip
        have h3 : belowM s0 (placeM W i, 1) = true := by simpa [isNon] using hb
        refine xb_nil ?_
        refine xb_one (xs_ret (T := tD g.K (frD (shareM W l r i s0))) (XE.toD (xe_call (F_less.mono (by decide)) (fun _ => hr) ⟨((1, 1), slopeM (placeM W r) (placeM W i) s0), y5⟩ (xa_cons (xe_gref (T.glo 89 rfl) T.tup.2) (xa_cons (xe_call (F_slope.mono (by decide)) (fun _ => hr) ⟨(placeM W r, placeM W i, s0), y6⟩ (xa_cons (xe_name (i := 5) rfl) (xa_cons (xe_name (i := 7) rfl) (xa_cons (xe_name (i := 4) rfl) xa_nil)))) xa_nil))) ?_) rfl)
        · unfold shareM; simp only [if_neg h1, h2, h3]; rfl

end Pf
end
section
set_option Elab.async false
set_option linter.all false
set_option maxRecDepth 100000
set_option maxHeartbeats 2000000
set_option exponentiation.threshold 5000
namespace Pf
open PySem PySem.Spec PyProof.Rows L2 RZ
theorem XR.toD {M : Ml} {δ : Sd} {t : TE} {K : PySem.W.Frag} {d d' : PyData} (h : XR M δ t (tD K d)) (s : d = d') : XR M δ t (tD K d') := s ▸ h
/-- the triples of rests -/
def dec3 (k : Nat) : List Int := [(k / 196 : Int) - 1, (k / 14 % 14 : Int) - 1, (k % 14 : Int) - 1]
def keys3 : List (List Int) := (List.range 2744).map dec3
theorem keys3_len : keys3.length < 100000 := by unfold keys3; rw [List.length_map, List.length_range]; exact Nat.le_of_ble_eq_true rfl
theorem keys3_in {W : Wd} {l r i : Int} (hW : WOk W) (h : TrOk W l r i) : [l, r, i] ∈ keys3 := by
  obtain ⟨h1, h2, h3, h4⟩ := h
  have := hW.p12
  refine List.mem_map.mpr ⟨(l + 1).toNat * 196 + (r + 1).toNat * 14 + (i + 1).toNat, List.mem_range.mpr (by omega), ?_⟩
  have e1 : ((((l + 1).toNat * 196 + (r + 1).toNat * 14 + (i + 1).toNat : Nat) : Int) / 196) - 1 = l := by omega
  have e2 : ((((l + 1).toNat * 196 + (r + 1).toNat * 14 + (i + 1).toNat : Nat) : Int) / 14 % 14) - 1 = r := by omega
  have e3 : ((((l + 1).toNat * 196 + (r + 1).toNat * 14 + (i + 1).toNat : Nat) : Int) % 14) - 1 = i := by omega
  unfold dec3
  rw [e1, e2, e3]
def liesL (W : Wd) (ns : List Int) : Int × Int := liesM W (ns.getD 0 0) (ns.getD 1 0) (ns.getD 2 0)
def overL (W : Wd) (ns : List Int) : Bool := overB W (ns.getD 0 0) (ns.getD 1 0) (ns.getD 2 0)
def knownI (K : PySem.W.Frag) (W : Wd) : Mi := memoI keys3 (fun ns => tD K (frD (liesL W ns)))
def overI (K : PySem.W.Frag) (W : Wd) : Mi := memoI keys3 (fun ns => tD K (.bool (overL W ns)))
theorem wts_list (W : Wd) (l r i : Int) : PyData.list ((W.wts.filter fun _ => true).map fun w => frD (timesM w.2 (shareM W l r i w.1))) = .list ((W.wts.map fun w => timesM w.2 (shareM W l r i w.1)).map frD) := by
  rw [ftrue, List.map_map]
  rfl
theorem times_in {W : Wd} {l r i : Int} {b : (Int × Int) × (Int × Int)} (hW : WOk W) (ht : TrOk W l r i) (hb : b ∈ W.wts) : FB 1000 b.2 ∧ FB 1000 (shareM W l r i b.1) :=
  ⟨(hW.wt b hb).1.1.mono (by decide), (share_fb hW ht (hW.sp b hb).1.1).mono (by decide)⟩
theorem sum_in {W : Wd} {l r i : Int} (hW : WOk W) (ht : TrOk W l r i) : (∀ p ∈ W.wts.map fun w => timesM w.2 (shareM W l r i w.1), FB 40 p) ∧ (W.wts.map fun w => timesM w.2 (shareM W l r i w.1)).length ≤ 20 := by
  refine ⟨fun p hp => ?_, by rw [List.length_map]; exact hW.w20⟩
  obtain ⟨b, hb, rfl⟩ := List.mem_map.mp hp
  exact times_fb (hW.wt b hb).1.1 (share_fb hW ht (hW.sp b hb).1.1)
theorem lies_fb {W : Wd} {l r i : Int} (hW : WOk W) (ht : TrOk W l r i) : FB 1000 (liesM W l r i) := by
  obtain ⟨h1, h2⟩ := sum_in hW ht
  refine (sum_fb (n := 40) h1).mono ?_
  omega
structure LzZ where
  W : Wd
  d1 : Addr
  d2 : Addr
  l : Int
  r : Int
  i : Int
abbrev LzIn := {z : LzZ // WOk z.W ∧ TrOk z.W z.l z.r z.i}
abbrev lzA (g : Pg) (z : LzIn) : List Ty := [tLoads g z.1.W z.1.d1 z.1.d2, tD g.K (.int z.1.l), tD g.K (.int z.1.r), tD g.K (.int z.1.i)]
abbrev FnT_Loads_lies_on (g : Pg) : Prop := Mt g (He.ga g.K "Loads") "lies_on" ["self", "left", "rest", "right"] 6 (spM (α := LzIn) (fun z => [(z.1.d1, knownI g.K z.1.W)]) (lzA g) (fun z => tD g.K (frD (liesM z.1.W z.1.l z.1.r z.1.i))))
theorem sc_Loads_lies_on : FnScope ["self", "left", "rest", "right", "key", "some", "spot", "weight"] ["self", "left", "rest", "right"] (defScope sLoadsLiesOn) := ⟨rfl, rfl, rfl, by decide +kernel, rfl, by decide +kernel, by decide +kernel⟩
theorem fn_Loads_lies_on {g : Pg} (T : Tx g) (F_times : FnT_times g) (F_Loads_share : FnT_Loads_share g) (F_sum_of : FnT_sum_of g) : FnT_Loads_lies_on g := by
  refine T.mt 28 75 (k := 5) (d := dLoadsLiesOn) rfl rfl rfl rfl rfl sc_Loads_lies_on (fun _ => rfl) (fun _ _ _ _ _ _ us hl => match us, hl with | [_, _, _, _], _ => rfl) fun cdv Ar outer s H z hr => ?_
  have nd := sc_Loads_lies_on.nd
  obtain ⟨⟨W, d1, d2, l, r, i⟩, hW, ht⟩ := z
  dsimp only at hW ht
  refine xb_cons (xs_set 4 (xe_tupK [l, r, i] (xa_cons (xe_name (i := 1) rfl) (xa_cons (xe_name (i := 2) rfl) (xa_cons (xe_name (i := 3) rfl) xa_nil)))) ?_ nd)
  refine xb_memo2 (TT := fun ns => tD g.K (frD (liesL W ns))) (L := keys3) (d := d1) (ns := [l, r, i]) (fun _ => hr) (keys3_in hW ht) keys3_len List.mem_cons_self (xe_name (i := 4) rfl) (fld_loads_known T (xe_name (i := 0) rfl)) (xe_name (i := 4) rfl) (fld_loads_known T (xe_name (i := 0) rfl)) ?_ rfl
  refine xs_setLc 5 [("spot", 6), ("weight", 7)] nd (fun j => pi_list (pe_w j)) (fun _ => blkOk_by (sc := defScope sLoadsLiesOn) (by show blkC ["self", "left", "rest", "right", "key", "some", "spot", "weight"] _ _ _ = true; decide +kernel)) (fun jj => pg_tup rfl (pgs_cons (pg_nm 6 jj nd) (pgs_cons (pg_nm 7 jj nd) pgs_nil))) (fun jj => pts_nil) (XR.toD (xr_lcL (W.wts) (wtD) (fun w => frD (timesM w.2 (shareM W l r i w.1))) (fun _ => true) (fun w => [some (tLoads g W d1 d2), some (tD g.K (.int l)), some (tD g.K (.int r)), some (tD g.K (.int i)), some (tKt [l, r, i]), none, some (tD g.K (frD w.1)), some (tD g.K (frD w.2))]) ((fld_loads_weights T (xe_name (i := 0) rfl))) (Nat.lt_of_le_of_lt hW.w20 (by decide)) (fun b hb => (xg_tup2 (xg_name 6) (xg_name 7))) (by decide) (fun b hb => tr_yes) (fun b hb hf => (xe_call (F_times.mono (by decide)) (fun _ => hr) ⟨(_, _), times_in hW ht hb⟩ (xa_cons (xe_name (i := 7) rfl) (xa_cons (xe_meth (F_Loads_share.mono (by decide)) T.clL (fun _ => hr) ⟨⟨W, d1, d2, l, r, i, _⟩, hW, ht, (hW.sp b hb).1.1⟩ (xe_name (i := 0) rfl) loads_at (xa_cons (xe_name (i := 1) rfl) (xa_cons (xe_name (i := 2) rfl) (xa_cons (xe_name (i := 3) rfl) (xa_cons (xe_name (i := 6) rfl) xa_nil)))) rfl) xa_nil))))) (wts_list W l r i)) ?_ (fun j => sw_true rfl rfl rfl (by decide +kernel))
  exact ⟨List.mem_cons_self, xe_call (F_sum_of.mono (by decide)) (fun _ => hr) ⟨_, sum_in hW ht⟩ (xa_cons (xe_name (i := 5) rfl) xa_nil), xe_name (i := 4) rfl, fld_loads_known T (xe_name (i := 0) rfl), xe_name (i := 4) rfl, fld_loads_known T (xe_name (i := 0) rfl)⟩
abbrev FnT_Loads_is_overlaid (g : Pg) : Prop := Mt g (He.ga g.K "Loads") "is_overlaid" ["self", "left", "prop", "right"] 7 (spM (α := LzIn) (fun z => [(z.1.d1, knownI g.K z.1.W), (z.1.d2, overI g.K z.1.W)]) (lzA g) (fun z => tD g.K (.bool (overB z.1.W z.1.l z.1.r z.1.i))))
theorem sc_Loads_is_overlaid : FnScope ["self", "left", "prop", "right", "key"] ["self", "left", "prop", "right"] (defScope sLoadsIsOverlaid) := ⟨rfl, rfl, rfl, by decide +kernel, rfl, by decide +kernel, by decide +kernel⟩
theorem str_fb {W : Wd} (hW : WOk W) {r : Int} (h1 : 0 ≤ r) (h2 : r < W.props.length) : FB 6 (strM W r) := by
  unfold strM
  rw [getD_at (show r.toNat < W.props.length by omega)]
  exact (hW.str _ (List.getElem_mem _)).1.1
theorem fn_Loads_is_overlaid {g : Pg} (T : Tx g) (F_is_below : FnT_is_below g) (F_Loads_lies_on : FnT_Loads_lies_on g) : FnT_Loads_is_overlaid g := by
  refine T.mt 29 76 (k := 6) (d := dLoadsIsOverlaid) rfl rfl rfl rfl rfl sc_Loads_is_overlaid (fun _ => rfl) (fun _ _ _ _ _ _ us hl => match us, hl with | [_, _, _, _], _ => rfl) fun cdv Ar outer s H z hr => ?_
  have nd := sc_Loads_is_overlaid.nd
  obtain ⟨⟨W, d1, d2, l, r, i⟩, hW, ht⟩ := z
  dsimp only at hW ht
  have h0 : 0 ≤ r := by have := ht.h1; have := ht.h2; omega
  have hn : r < W.props.length := by have := ht.h3; have := ht.h4; omega
  have y1 : FB 1000 (strM W r) ∧ FB 1000 (liesM W l r i) := ⟨(str_fb hW h0 hn).mono (by decide), lies_fb hW ht⟩
  refine xb_cons (xs_set 4 (xe_tupK [l, r, i] (xa_cons (xe_name (i := 1) rfl) (xa_cons (xe_name (i := 2) rfl) (xa_cons (xe_name (i := 3) rfl) xa_nil)))) ?_ nd)
  refine xb_memo1 (TT := fun ns => tD g.K (.bool (overL W ns))) (L := keys3) (d := d2) (ns := [l, r, i]) (fun _ => hr) (keys3_in hW ht) keys3_len (xe_name (i := 4) rfl) (fld_loads_over T (xe_name (i := 0) rfl)) ?_ rfl
  exact ⟨List.mem_cons_of_mem _ List.mem_cons_self, xe_call (F_is_below.mono (by decide)) (fun _ => hr) ⟨(strM W r, liesM W l r i), y1⟩ (xa_cons (xe_ixT (ds := [.int (placeM W r), frD (strM W r)]) rfl (xe_ixT (place_at h0 hn) (fld_plank_stakes T (fld_loads_plank T (xe_name (i := 0) rfl))) (xe_name (i := 2) rfl)) xe_int) (xa_cons (xe_meth (F_Loads_lies_on.mono (by decide)) T.clL (fun _ => hr) ⟨⟨W, d1, d2, l, r, i⟩, hW, ht⟩ (xe_name (i := 0) rfl) loads_at (xa_cons (xe_name (i := 1) rfl) (xa_cons (xe_name (i := 2) rfl) (xa_cons (xe_name (i := 3) rfl) xa_nil))) rfl (.cons₂ _ (.cons _ .slnil))) xa_nil)), xe_name (i := 4) rfl, fld_loads_over T (xe_name (i := 0) rfl), xe_name (i := 4) rfl, fld_loads_over T (xe_name (i := 0) rfl)⟩
end Pf
end
section
set_option Elab.async false
set_option linter.all false
set_option maxRecDepth 100000
set_option maxHeartbeats 2000000
set_option exponentiation.threshold 5000
namespace Pf
open PySem PySem.Spec PyProof.Rows L2 RZ
abbrev FnT_check_weights (g : Pg) : Prop := Fn g "check_weights" ["plank", "thing"] 7 (spM (α := WT) (fun _ => []) (fun z => [tPlank g z.1, tD g.K (.list (z.1.wts.map wtD))]) (fun z => tD g.K .none))
theorem sc_check_weights : FnScope ["plank", "thing", "at", "one"] ["plank", "thing"] (defScope sCheckWeights) := ⟨rfl, rfl, rfl, by decide +kernel, rfl, by decide +kernel, by decide +kernel⟩
theorem fn_check_weights {g : Pg} (T : Tx g) (F_is_weight : FnT_is_weight g) : FnT_check_weights g := by
  refine T.fn 24 20 (k := 6) (d := dCheckWeights) rfl rfl rfl rfl rfl sc_check_weights (fun _ => rfl) (fun _ _ _ _ _ _ us hl => match us, hl with | [_, _], _ => rfl) fun cdv Ar outer s H z hr => ?_
  have nd := sc_check_weights.nd
  obtain ⟨W, hW⟩ := z
  refine xb_cons (xs_if (xt_not (xt_val (xe_isi (kit_list _) (T.free 90 rfl) (T.free 95 rfl) (by decide +kernel) (xe_name (i := 1) rfl)))) (fun hb => ?_) (fun hb => ?_))
  · exact absurd hb (by simp [isTy_ll])
  · refine xb_nil ?_
    refine xb_one (xs_forE (W.wts.map wtD) (fun n => ⟨[some (tPlank g W), some (tD g.K (.list (W.wts.map wtD))), none, none], [], []⟩) (fun n d => [some (tPlank g W), some (tD g.K (.list (W.wts.map wtD))), some (tD g.K (.int (n : Int))), some (tD g.K d)]) (T.free 98 rfl) (xe_name (i := 1) rfl) ⟨Le.refl _, rfl, rfl⟩ (fun n d hd => (xg_tup2 (xg_name 2) (xg_name 3))) (fun n d hd => ?_) rfl (fun jj => pg_tup rfl (pgs_cons (pg_nm 2 jj nd) (pgs_cons (pg_nm 3 jj nd) pgs_nil))))
    obtain ⟨b, hb, rfl⟩ := map_get hd
    have hm := List.mem_of_getElem? hb
    have h1 := hW.sp b hm
    have h2 := hW.wt b hm
    have y1 : WOk W ∧ FrOk 1000 b.1 ∧ 0 ≤ b.1.1 ∧ b.1.1 ≤ W.len * b.1.2 ∧ FrOk 1000 b.2 ∧ 0 < b.2.1 := ⟨hW, ⟨h1.1.1.mono (by decide), h1.1.2⟩, h1.2.1, h1.2.2, ⟨h2.1.1.mono (by decide), h2.1.2⟩, h2.2⟩
    refine xb_one (xs_if (xt_not (xt_val (xe_call (F_is_weight.mono (by decide)) (fun _ => hr) ⟨(W, b), y1⟩ (xa_cons (xe_name (i := 0) rfl) (xa_cons (xe_name (i := 3) rfl) xa_nil))))) (fun hb => absurd hb (by simp)) (fun hb => ?_))
    exact xb_nil ⟨.is (.is (.no (.no .nil))), rfl, rfl⟩
/-! ### Loads(..), loads_of, begun_of -/
def misL (g : Pg) (W : Wd) : List Mi := [knownI g.K W, overI g.K W]
def tLd (g : Pg) (W : Wd) (ds : List Addr) : Ty := tLoads g W (ds.getD 0 0) (ds.getD 1 0)
theorem misL_nil (g : Pg) (W : Wd) : ∀ mi ∈ misL g W, ∀ B, mi.I B [] := fun mi h B => by
  rcases List.mem_cons.mp h with e | h
  · rw [e]; exact (MemoAt.nil : MemoAt _ _ B [])
  · rw [List.mem_singleton.mp h]; exact (MemoAt.nil : MemoAt _ _ B [])
abbrev MkT_Loads (g : Pg) : Prop := MkN g "Loads" ["self", "plank", "weights"] 1 [] (spI (α := WT) (He.ga g.K "Loads") (fun z => misL g z.1) (fun z => [tPlank g z.1, tD g.K (.list (z.1.wts.map wtD))]) (fun z ds => tLd g z.1 ds))
theorem sc_Loads_init : FnScope ["self", "plank", "weights"] ["self", "plank", "weights"] (defScope sLoadsInit) := ⟨rfl, rfl, rfl, by decide +kernel, rfl, by decide +kernel, by decide +kernel⟩
theorem fn_binds {g : Pg} {x qual : Str} {params : Arguments} {body : List Stmt} {scope : Scope} {f : Addr} {fd : FuncData} {ps : List Str} (F : FunD g.K x qual params body scope [] [] f fd)
    (h : ∀ (kV doc pm : Value) (an : Option Addr) (cdv ct : Value) (us : List Value), us.length = ps.length → bindArgs (PySem.W.fnOf x qual params body scope .none kV doc pm an cdv ct) ⟨us, []⟩ = pure (ps.zip us)) : ∃ vals, Vals ([] : List V) vals ∧ Binds g.K fd ps vals := ⟨[], .nil, F.bindsN h⟩
theorem mk_Loads {g : Pg} (T : Tx g) : MkT_Loads g := by
  refine T.mkI 26 60 58 (k := 0) (d := dLoadsInit) rfl rfl rfl rfl rfl sc_Loads_init (fun _ => rfl) (fun z => misL_nil g z.1) (fun fd F => fn_binds F fun kV doc pm an cdv ct us hl => match us, hl with | [_, _, _], _ => rfl) fun cdv Ar outer s H z xi dx hr => ?_
  have nd := sc_Loads_init.nd
  refine xb_cons (xs_fld (O1 := []) (O2 := []) rfl (xe_name (i := 0) rfl) T.clL (T.noat 70 rfl) (Nat.le_of_ble_eq_true rfl) (xe_name (i := 1) rfl) ?_)
  refine xb_cons (xs_fld (O1 := []) (O2 := []) rfl (xe_name (i := 0) rfl) T.clL (T.noat 71 rfl) (Nat.le_of_ble_eq_true rfl) (xe_name (i := 2) rfl) ?_)
  refine xb_cons (xs_fldD (O1 := []) (O2 := []) rfl (xe_name (i := 0) rfl) T.clL (T.noat 72 rfl) (Nat.le_of_ble_eq_true rfl) fun d1 => ?_)
  refine xb_one (xs_fldD (O1 := []) (O2 := [(d1, .dct [])]) rfl (xe_name (i := 0) rfl) T.clL (T.noat 73 rfl) (Nat.le_of_ble_eq_true rfl) fun d2 => ?_)
  refine ⟨[d1, d2], _, rfl, rfl, rfl, fun B vs h1 h2 => ?_⟩
  cases h2 with
  | cons a1 h2 =>
    cases h2 with
    | cons a2 h2 =>
      cases h2 with
      | cons a3 h2 =>
        cases h2 with
        | cons a4 h2 =>
          cases h2
          have e3 : _ = V.ref d1 := a3
          have e4 : _ = V.ref d2 := a4
          subst e3 e4
          exact ⟨xi, dx, _, _, rfl, h1, a1, a2⟩
abbrev FnT_loads_of (g : Pg) : Prop := FnN g "loads_of" ["plank", "weights"] 8 (spN (α := WT) (fun z => misL g z.1) (fun z => [tPlank g z.1, tD g.K (.list (z.1.wts.map wtD))]) (fun z ds => tLd g z.1 ds))
theorem sc_loads_of : FnScope ["plank", "weights"] ["plank", "weights"] (defScope sLoadsOf) := ⟨rfl, rfl, rfl, by decide +kernel, rfl, by decide +kernel, by decide +kernel⟩
theorem MkN.mono {g : Pg} {x : Str} {ps : List Str} {k k' : Nat} {dvs : List V} {sp : Sp} (F : MkN g x ps k dvs sp) (h : k ≤ k') : MkN g x ps k' dvs sp := by
  obtain ⟨f, fd, vals, h1, h2, h3, h4, h5⟩ := F.ex
  exact ⟨f, fd, vals, h1, h2, h3, h4, h5.mono h⟩
theorem FnN.mono {g : Pg} {x : Str} {ps : List Str} {k k' : Nat} {sp : Sp} (F : FnN g x ps k sp) (h : k ≤ k') : FnN g x ps k' sp := by
  obtain ⟨f, fd, h1, h2, h3, h4⟩ := F.ex
  exact ⟨f, fd, h1, h2, h3, h4.mono h⟩
theorem fn_loads_of {g : Pg} (T : Tx g) (F_check_weights : FnT_check_weights g) (M_Loads : MkT_Loads g) : FnT_loads_of g := by
  refine T.fnN 30 22 (k := 7) (d := dLoadsOf) rfl rfl rfl rfl rfl sc_loads_of (fun _ => rfl) (fun _ _ _ _ _ _ us hl => match us, hl with | [_, _], _ => rfl) fun cdv Ar outer s H z hr => ?_
  have nd := sc_loads_of.nd
  refine xbm_cons (xs_expr (xe_call F_check_weights (fun _ => hr) z (xa_cons (xe_name (i := 0) rfl) (xa_cons (xe_name (i := 1) rfl) xa_nil))) ?_)
  exact xbm_retM (xe_makeN (k := 6) (M_Loads.mono (by decide)) (fun _ => hr) z (xa_cons (xe_name (i := 0) rfl) (xa_cons (xe_lstOfL (T.free 95 rfl) (xe_name (i := 1) rfl)) xa_nil)) rfl) fun ds hl => ⟨ds, hl, rfl, rfl, rfl⟩
abbrev BgIn := {z : Wd × Option (List Int) // WOk z.1 ∧ ∀ l, z.2 = some l → LotOk z.1 l}
abbrev FnT_begun_of (g : Pg) : Prop := FnN g "begun_of" ["plank", "weights", "lot"] 9 (spN (α := BgIn) (fun z => misL g z.1.1) (fun z => [tPlank g z.1.1, tD g.K (.list (z.1.1.wts.map wtD)), tD g.K (lotD z.1.2)]) (fun z ds => tTupT g.K [tLd g z.1.1 ds, tD g.K (.tuple ((lotM z.1.1 z.1.2).map .int))]))
theorem sc_begun_of : FnScope ["plank", "weights", "lot", "loads"] ["plank", "weights", "lot"] (defScope sBegunOf) := ⟨rfl, rfl, rfl, by decide +kernel, rfl, by decide +kernel, by decide +kernel⟩
theorem fn_begun_of {g : Pg} (T : Tx g) (F_loads_of : FnT_loads_of g) (F_lot_of : FnT_lot_of g) : FnT_begun_of g := by
  refine T.fnN 42 29 (k := 8) (d := dBegunOf) rfl rfl rfl rfl rfl sc_begun_of (fun _ => rfl) (fun _ _ _ _ _ _ us hl => match us, hl with | [_, _, _], _ => rfl) fun cdv Ar outer s H z hr => ?_
  have nd := sc_begun_of.nd
  refine xbm_cons (xs_setM 3 (xe_callN (F_loads_of.mono (by decide)) (fun _ => hr) ⟨z.1.1, z.2.1⟩ (xa_cons (xe_name (i := 0) rfl) (xa_cons (xe_name (i := 1) rfl) xa_nil))) (fun ds hl => ?_) nd)
  exact xbm_ret (xe_tupT (xa_cons (xe_name (i := 3) rfl) (xa_cons (xe_call (F_lot_of.mono (by decide)) (fun _ => hr) z (xa_cons (xe_name (i := 0) rfl) (xa_cons (xe_name (i := 2) rfl) xa_nil)) (List.nil_sublist _)) xa_nil))) ⟨ds, hl, rfl, rfl, rfl⟩
end Pf
end
section
set_option Elab.async false
set_option linter.all false
set_option maxRecDepth 100000
set_option maxHeartbeats 2000000
set_option exponentiation.threshold 5000
namespace Pf
open PySem PySem.Spec PyProof.Rows L2 RZ
theorem RpAll.of_at {K : PySem.W.Frag} {H : Hp} : ∀ {vs : List V} {ds : List PyData}, vs.length = ds.length → (∀ (j : Nat) v d, vs[j]? = some v → ds[j]? = some d → Rp K H v d) → RpAll K H vs ds
  | [], [], _, _ => .nil
  | v :: vs, d :: ds, hl, h => .cons (h 0 v d rfl rfl) (RpAll.of_at (by simpa using hl) fun j v d e1 e2 => h (j + 1) v d (by simpa using e1) (by simpa using e2))
def zip3D (ds es fs : List PyData) : List PyData := (ds.zip (es.zip fs)).map fun t => .tuple [t.1, t.2.1, t.2.2]
theorem zip3D_at {ds es fs : List PyData} {j : Nat} {d : PyData} (h : (zip3D ds es fs)[j]? = some d) : ∃ a b c, ds[j]? = some a ∧ es[j]? = some b ∧ fs[j]? = some c ∧ d = .tuple [a, b, c] := by
  unfold zip3D at h
  rw [List.getElem?_map] at h
  cases e : (ds.zip (es.zip fs))[j]? with
  | none => rw [e] at h; cases h
  | some t =>
    rw [e] at h
    obtain rfl := Option.some.inj h
    obtain ⟨h1, h2⟩ := List.getElem?_zip_eq_some.mp e
    obtain ⟨h3, h4⟩ := List.getElem?_zip_eq_some.mp (show (es.zip fs)[j]? = some (t.2.1, t.2.2) from h2)
    exact ⟨_, _, _, h1, h3, h4, rfl⟩
theorem zip3D_len (ds es fs : List PyData) : (zip3D ds es fs).length = min (min ds.length es.length) fs.length := by
  unfold zip3D
  rw [List.length_map, List.length_zip, List.length_zip]
  omega
section
variable {g : Pg} {C : Ct} {M : Ml} {δ : Sd} {a b c : Expr} {p p2 pos pos2 : Pos}
theorem xe_lstZ3 {ds es fs : List PyData} (hm : g.mg "list" = none) (hm2 : g.mg "zip" = none) (hz : ds.length ≤ 100000) (ha : XA g C M δ [a, b, c] [tD g.K (.tuple ds), tD g.K (.tuple es), tD g.K (.tuple fs)]) (hg : ∀ j, (C.env j).kindOf "list" = some .globalImplicit := by intro _; rfl) (hg2 : ∀ j, (C.env j).kindOf "zip" = some .globalImplicit := by intro _; rfl)
    (hs : ∀ j, starEach [a, b, c] (C.env j) = (false, eval a (C.env j)) :: starEach [b, c] (C.env j) := by intro _; rfl) (hpl : ∀ j, (backTo pos2 (starEach [b, c] (C.env j))).any (·.1) = false := by intro _; rfl)
    (hs2 : ∀ j, starEach [.Call (.Name "zip" p2) [a, b, c] [] pos2] (C.env j) = (false, eval (.Call (.Name "zip" p2) [a, b, c] [] pos2) (C.env j)) :: starEach [] (C.env j) := by intro _; rfl) :
    XE g C M δ (.Call (.Name "list" p) [.Call (.Name "zip" p2) [a, b, c] [] pos2] [] pos) (tD g.K (.list (zip3D ds es fs))) := fun Z σ H hsl hA Q kk => by
  refine w_pe (t := tLstZ3 g.K (wA g C [a, b, c])) ?_ fun j => pe_lstZ3 (X := C.X g j) rfl (hg j) hm (hg2 j) hm2 (pa_w j) (hs j) (hpl j) (hs2 j)
  refine ha Z σ H hsl hA _ fun vs H1 f1 A1 t1 => ?_
  obtain ⟨v1, vs, rfl, t2, t1⟩ : ∃ v w, vs = v :: w ∧ (tD g.K (.tuple ds)).p _ v ∧ Al2 _ _ w := by cases t1 with | cons h r => exact ⟨_, _, rfl, h, r⟩
  obtain ⟨v2, v3, rfl, t3, t4⟩ := al2 t1
  obtain ⟨p1, xs, rfl, h1, r1⟩ := rp_tup t2
  obtain ⟨p2, ys, rfl, h2, r2⟩ := rp_tup t3
  obtain ⟨p3, us, rfl, h3, r3⟩ := rp_tup t4
  have l1 := r1.length
  have l2 := r2.length
  have l3 := r3.length
  refine ⟨p1, p2, p3, xs, ys, us, rfl, sqt_mono out_sub h1, sqt_mono out_sub h2, sqt_mono out_sub h3, by omega, fun S H2 refs hS ex gS hl hat => ?_⟩
  have f2 : Fr M H1 H2 := Fr.of_ex ex
  have A2 := A1.ex ex
  refine kk _ H2 (f1.trans f2) A2 (.lst (xs := refs) ?_ (RpAll.of_at (by rw [hl, zip3D_len, l1, l2, l3]) fun j v d e1 e2 => ?_))
  · rw [out_at (A1.fresh hS)]
    exact gS
  · obtain ⟨T, x1, x2, x3, rfl, hT, gT, e3, e4, e5⟩ := hat j v e1
    obtain ⟨a1, a2, a3, e6, e7, e8, rfl⟩ := zip3D_at e2
    obtain ⟨d1, g1, q1⟩ := r1.at2 e3
    obtain ⟨d2, g2, q2⟩ := r2.at2 e4
    obtain ⟨d3, g3, q3⟩ := r3.at2 e5
    rw [e6] at g1; rw [e7] at g2; rw [e8] at g3
    obtain rfl := Option.some.inj g1
    obtain rfl := Option.some.inj g2
    obtain rfl := Option.some.inj g3
    have eo := f2.out (Z := Z)
    refine .tup (SqT.of (by rw [out_at (A1.fresh hT)]; exact gT)) (.cons (q1.mono eo) (.cons (q2.mono eo) (.cons (q3.mono eo) .nil)))
end
/-! ### rests beside each other -/
def trD (t : Int × Int × Int) : PyData := .tuple [.int t.1, .int t.2.1, .int t.2.2]
def besM (l : Int) : List Int → Int → List (Int × Int × Int)
  | [], _ => []
  | [p], r => [(l, p, r)]
  | p :: q :: ps, r => (l, p, q) :: besM p (q :: ps) r
theorem bes_zip : ∀ (l : Int) (lot : List Int) (r : Int), zip3D ((l :: lot ++ [r]).map .int) (lot.map .int) (((l :: lot ++ [r]).drop 2).map .int) = (besM l lot r).map trD
  | l, [], r => rfl
  | l, [p], r => rfl
  | l, p :: q :: ps, r => by
    have ih := bes_zip p (q :: ps) r
    show trD (l, p, q) :: zip3D ((p :: q :: ps ++ [r]).map .int) ((q :: ps).map .int) (((p :: q :: ps ++ [r]).drop 2).map .int) = trD (l, p, q) :: (besM p (q :: ps) r).map trD
    rw [ih]
structure BtOk (W : Wd) (l : Int) (lot : List Int) (r : Int) : Prop where
  lo : -1 ≤ l
  hi : r ≤ W.props.length
  asc : (l :: lot ++ [r]).Pairwise (· < ·)
theorem bes_ok {W : Wd} : ∀ {l : Int} {lot : List Int} {r : Int}, BtOk W l lot r → ∀ t ∈ besM l lot r, TrOk W t.1 t.2.1 t.2.2
  | l, [], r, _, t, ht => nomatch ht
  | l, [p], r, h, t, ht => by
    rw [List.mem_singleton.mp ht]
    have a := h.asc
    simp at a
    exact ⟨h.lo, show l < p by omega, show p < r by omega, h.hi⟩
  | l, p :: q :: ps, r, h, t, ht => by
    obtain ⟨a1, a2⟩ := List.pairwise_cons.mp h.asc
    have a3 := a1 p List.mem_cons_self
    obtain ⟨a4, a5⟩ := List.pairwise_cons.mp a2
    rcases List.mem_cons.mp ht with e | ht
    · rw [e]
      have a6 := a4 q List.mem_cons_self
      obtain ⟨a7, _⟩ := List.pairwise_cons.mp a5
      have a8 : q < r := a7 r (by simp)
      have := h.hi
      exact ⟨h.lo, a3, a6, by show q ≤ _; omega⟩
    · exact bes_ok (l := p) (lot := q :: ps) (r := r) ⟨by have := h.lo; omega, h.hi, a2⟩ t ht
def obM (W : Wd) (l : Int) (lot : List Int) (r : Int) : List Int := ((besM l lot r).filter fun t => overB W t.1 t.2.1 t.2.2).map (·.2.1)
theorem ob_list (W : Wd) (l : Int) (lot : List Int) (r : Int) : PyData.list (((besM l lot r).filter fun t => overB W t.1 t.2.1 t.2.2).map fun t => .int t.2.1) = .list ((obM W l lot r).map .int) := by
  unfold obM
  rw [List.map_map]
  rfl
theorem bes_mid : ∀ {l : Int} {lot : List Int} {r : Int} {t : Int × Int × Int}, t ∈ besM l lot r → t.2.1 ∈ lot
  | l, [], r, t, ht => nomatch ht
  | l, [p], r, t, ht => by rw [List.mem_singleton.mp ht]; exact List.mem_cons_self
  | l, p :: q :: ps, r, t, ht => by
    rcases List.mem_cons.mp ht with e | ht
    · rw [e]; exact List.mem_cons_self
    · exact List.mem_cons_of_mem _ (bes_mid ht)
theorem bes_len : ∀ (l : Int) (lot : List Int) (r : Int), (besM l lot r).length = lot.length
  | l, [], r => rfl
  | l, [p], r => rfl
  | l, p :: q :: ps, r => by
    show (besM p (q :: ps) r).length + 1 = _
    rw [bes_len p (q :: ps) r]
    rfl
theorem ob_mem {W : Wd} {l : Int} {lot : List Int} {r p : Int} (h : p ∈ obM W l lot r) : p ∈ lot := by
  obtain ⟨t, ht, rfl⟩ := List.mem_map.mp h
  exact bes_mid (List.mem_filter.mp ht).1
def withM (lot : List Int) (p : Int) : List Int := lot.filter fun i => !decide (i = p)
theorem BtOk.without {W : Wd} {l : Int} {lot : List Int} {r : Int} (h : BtOk W l lot r) (p : Int) : BtOk W l (withM lot p) r := by
  refine ⟨h.lo, h.hi, ?_⟩
  refine h.asc.sublist ?_
  show (l :: (withM lot p ++ [r])).Sublist (l :: (lot ++ [r]))
  exact (List.filter_sublist.append_right _).cons₂ _
theorem BtOk.len {W : Wd} {l : Int} {lot : List Int} {r : Int} (h : BtOk W l lot r) : lot.length ≤ W.props.length := by
  obtain ⟨a1, a2⟩ := List.pairwise_cons.mp h.asc
  obtain ⟨a3, a4, a5⟩ := List.pairwise_append.mp a2
  refine lot_len a3 (lo := 0) fun i hi => ?_
  have k1 := a1 i (List.mem_append_left _ hi)
  have k2 := a5 i hi r (by simp)
  have := h.lo
  have := h.hi
  omega
structure BtZ where
  W : Wd
  d1 : Addr
  d2 : Addr
  l : Int
  lot : List Int
  r : Int
abbrev BtIn := {z : BtZ // WOk z.W ∧ BtOk z.W z.l z.lot z.r}
abbrev mmL (g : Pg) (W : Wd) (d1 d2 : Addr) : Ml := [(d1, knownI g.K W), (d2, overI g.K W)]
abbrev btA (g : Pg) (z : BtIn) : List Ty := [tLoads g z.1.W z.1.d1 z.1.d2, tD g.K (.int z.1.l), tD g.K (.tuple (z.1.lot.map .int)), tD g.K (.int z.1.r)]
theorem cut2T (l : List Int) : PyData.tuple (cutD (l.map .int) (some 2) none) = .tuple ((l.drop 2).map .int) := by
  unfold cutD
  have e2 : HT.sIx (l.map PyData.int).length (l.map PyData.int).length none = (l.map PyData.int).length := rfl
  have e1 : HT.sIx (l.map PyData.int).length 0 (some 2) = min 2 l.length := by
    unfold HT.sIx
    simp
    try omega
  rw [e1, e2]
  rw [List.length_map, List.map_drop]
  match l with
  | [] => rfl
  | [a] => rfl
  | a :: b :: l =>
    have e3 : min 2 (a :: b :: l).length = 2 := by simp only [List.length_cons]; omega
    rw [e3]
    congr 1
    apply List.take_of_length_le
    rw [List.length_drop, List.length_map]
    exact Nat.le_refl _
abbrev FnT_overlaid_between (g : Pg) : Prop := Fn g "overlaid_between" ["loads", "left", "lot", "right"] 8 (spM (α := BtIn) (fun z => mmL g z.1.W z.1.d1 z.1.d2) (btA g) (fun z => tD g.K (.list ((obM z.1.W z.1.l z.1.lot z.1.r).map .int))))
theorem sc_overlaid_between : FnScope ["loads", "left", "lot", "right", "rests", "beside", "before", "prop", "behind"] ["loads", "left", "lot", "right"] (defScope sOverlaidBetween) := ⟨rfl, rfl, rfl, by decide +kernel, rfl, by decide +kernel, by decide +kernel⟩
theorem fn_overlaid_between {g : Pg} (T : Tx g) (F_Loads_is_overlaid : FnT_Loads_is_overlaid g) : FnT_overlaid_between g := by
  refine T.fn 31 23 (k := 7) (d := dOverlaidBetween) rfl rfl rfl rfl rfl sc_overlaid_between (fun _ => rfl) (fun _ _ _ _ _ _ us hl => match us, hl with | [_, _, _, _], _ => rfl) fun cdv Ar outer s H z hr => ?_
  have nd := sc_overlaid_between.nd
  obtain ⟨⟨W, d1, d2, l, lot, r⟩, hW, ht⟩ := z
  dsimp only at hW ht
  have hlen := ht.len
  have hp12 := hW.p12
  refine xb_cons (xs_set 4 (xe_catF (ns := l :: lot) (ms := [r]) (by simp) (by simp) ?_ (xe_catT (ds := [.int l]) ?_ (xe_tupD (xa_cons (xe_name (i := 1) rfl) xa_nil)) (xe_name (i := 2) rfl)) (xe_tupD (xa_cons (xe_name (i := 3) rfl) xa_nil))) ?_ nd)
  · simp only [List.length_cons, List.length_nil]; omega
  · simp only [List.length_cons, List.length_nil, List.length_map]; omega
  refine xb_cons (xs_set 5 (XE.toD (xe_lstZ3 (T.free 95 rfl) (T.free 96 rfl) ?_ (xa_cons (XE.dR (xe_name (i := 4) rfl)) (xa_cons (xe_name (i := 2) rfl) (xa_cons (XE.toD (xe_slT (XE.dR (xe_name (i := 4) rfl)) (xo_some xe_int) xo_none) (cut2T _)) xa_nil)))) (congrArg _ (bes_zip l lot r))) ?_ nd)
  · simp only [List.length_map, List.length_append, List.length_cons, List.length_nil]; omega
  refine xb_one (xs_ret (T := tD g.K (.list ((obM W l lot r).map .int))) (XE.toD (xe_lc [("before", 6), ("prop", 7), ("behind", 8)] nd (fun j => pi_list (pe_w j)) (fun _ => blkOk_by (sc := defScope sOverlaidBetween) (by show blkC ["loads", "left", "lot", "right", "rests", "beside", "before", "prop", "behind"] _ _ _ = true; decide +kernel)) (fun jj => pg_tup rfl (pgs_cons (pg_nm 6 jj nd) (pgs_cons (pg_nm 7 jj nd) (pgs_cons (pg_nm 8 jj nd) pgs_nil)))) (fun jj => pts_one (pt_w jj)) (xr_lcL (besM l lot r) (trD) (fun t => .int t.2.1) (fun t => overB W t.1 t.2.1 t.2.2) (fun t => [some (tLoads g W d1 d2), some (tD g.K (.int l)), some (tD g.K (.tuple (lot.map .int))), some (tD g.K (.int r)), some (tRs g.K (l :: lot ++ [r])), some (tD g.K (.list ((besM l lot r).map trD))), some (tD g.K (.int t.1)), some (tD g.K (.int t.2.1)), some (tD g.K (.int t.2.2))]) ((xe_name (i := 5) rfl)) ?_ (fun b hb => (xg_tup3 (xg_name 6) (xg_name 7) (xg_name 8))) (by decide) (fun b hb => tr_one (xt_val (xe_meth (F_Loads_is_overlaid.mono (by decide)) T.clL (fun _ => hr) ⟨⟨W, d1, d2, b.1, b.2.1, b.2.2⟩, hW, bes_ok ht b hb⟩ (xe_name (i := 0) rfl) loads_at (xa_cons (xe_name (i := 6) rfl) (xa_cons (xe_name (i := 7) rfl) (xa_cons (xe_name (i := 8) rfl) xa_nil))) rfl (List.Sublist.refl _)))) (fun b hb hf => (xe_name (i := 7) rfl)))) ?_) rfl)
  · exact Nat.lt_of_le_of_lt (Nat.le_of_eq (bes_len l lot r)) (by omega)
  · exact ob_list W l lot r
abbrev FnT_without (g : Pg) : Prop := Fn g "without" ["lot", "prop"] 1 (spM (α := {z : List Int × Int // z.1.length ≤ 1000}) (fun _ => []) (fun z => [tD g.K (.tuple (z.1.1.map .int)), tD g.K (.int z.1.2)]) (fun z => tD g.K (.tuple ((withM z.1.1 z.1.2).map .int))))
theorem sc_without : FnScope ["lot", "prop", "one"] ["lot", "prop"] (defScope sWithout) := ⟨rfl, rfl, rfl, by decide +kernel, rfl, by decide +kernel, by decide +kernel⟩
theorem fn_without {g : Pg} (T : Tx g) : FnT_without g := by
  refine T.fn 32 24 (k := 0) (d := dWithout) rfl rfl rfl rfl rfl sc_without (fun _ => rfl) (fun _ _ _ _ _ _ us hl => match us, hl with | [_, _], _ => rfl) fun cdv Ar outer s H z hr => ?_
  have nd := sc_without.nd
  refine xb_one (xs_ret (T := tD g.K (.tuple ((withM z.1.1 z.1.2).map .int))) (xe_tupOfL (T.free 94 rfl) (xe_lc [("one", 2)] nd (fun j => pi_tup (pe_w j)) (fun _ => blkOk_by (sc := defScope sWithout) (by show blkC ["lot", "prop", "one"] _ _ _ = true; decide +kernel)) (fun jj => pg_nm 2 jj nd) (fun jj => pts_one (pt_w jj)) (xr_lcT (z.1.1) (PyData.int) (PyData.int) (fun i => !decide (i = z.1.2)) (fun i => [some (tD g.K (.tuple (z.1.1.map .int))), some (tD g.K (.int z.1.2)), some (tD g.K (.int i))]) ((xe_name (i := 0) rfl)) ?_ (fun b hb => (xg_name 2)) (by decide) (fun b hb => tr_one (xt_neI (xe_name (i := 2) rfl) (xe_name (i := 1) rfl))) (fun b hb hf => (xe_name (i := 2) rfl))))) rfl)
  exact Nat.lt_of_le_of_lt z.2 (by decide)
abbrev FnT_is_within (g : Pg) : Prop := Fn g "is_within" ["lot", "other"] 1 (spM (α := {z : List Int × List Int // z.1.length ≤ 1000}) (fun _ => []) (fun z => [tD g.K (.tuple (z.1.1.map .int)), tD g.K (.tuple (z.1.2.map .int))]) (fun z => tD g.K (.bool (z.1.1.all fun i => decide (i ∈ z.1.2)))))
theorem sc_is_within : FnScope ["lot", "other", "prop"] ["lot", "other"] (defScope sIsWithin) := ⟨rfl, rfl, rfl, by decide +kernel, rfl, by decide +kernel, by decide +kernel⟩
theorem fn_is_within {g : Pg} (T : Tx g) : FnT_is_within g := by
  refine T.fn 33 25 (k := 0) (d := dIsWithin) rfl rfl rfl rfl rfl sc_is_within (fun _ => rfl) (fun _ _ _ _ _ _ us hl => match us, hl with | [_, _], _ => rfl) fun cdv Ar outer s H z hr => ?_
  have nd := sc_is_within.nd
  refine xb_one (xs_ret (T := tD g.K (.bool (z.1.1.all fun i => decide (i ∈ z.1.2)))) (XE.toD (xe_all (T.free 92 rfl) (XE.toD (xe_lc [("prop", 2)] nd (fun j => pi_tup (pe_w j)) (fun _ => blkOk_by (sc := defScope sIsWithin) (by show blkC ["lot", "other", "prop"] _ _ _ = true; decide +kernel)) (fun jj => pg_nm 2 jj nd) (fun jj => pts_nil) (xr_lcT (z.1.1) (PyData.int) (fun i => .bool (decide (i ∈ z.1.2))) (fun _ => true) (fun i => [some (tD g.K (.tuple (z.1.1.map .int))), some (tD g.K (.tuple (z.1.2.map .int))), some (tD g.K (.int i))]) ((xe_name (i := 0) rfl)) ?_ (fun b hb => (xg_name 2)) (by decide) (fun b hb => tr_yes) (fun b hb hf => (xe_inIT (xe_name (i := 2) rfl) (xe_name (i := 1) rfl))))) (lcB _ _))) ?_) rfl)
  · exact Nat.lt_of_le_of_lt z.2 (by decide)
  · exact congrArg _ (allB _ _)

end Pf
end
section
set_option Elab.async false
set_option linter.all false
set_option maxRecDepth 100000
set_option maxHeartbeats 2000000
set_option exponentiation.threshold 5000
namespace Pf
open PySem PySem.Spec PyProof.Rows L2 RZ
/-! ### shapes of data -/
structure Sh (n : Nat) (d : PyData) : Prop where
  lay : d.canLay0 = true
  dep : d.depth ≤ n
theorem sh_all {n : Nat} : ∀ {xs : List PyData}, (∀ x ∈ xs, Sh n x) → PyData.canLayAll0 xs = true ∧ PyData.depthAll xs ≤ n
  | [], _ => ⟨rfl, Nat.zero_le _⟩
  | x :: xs, h => by
    obtain ⟨h1, h2⟩ := sh_all (xs := xs) fun y hy => h y (List.mem_cons_of_mem _ hy)
    have h3 := h x List.mem_cons_self
    refine ⟨?_, ?_⟩
    · show (PyData.canLay0 x && PyData.canLayAll0 xs) = true
      rw [h3.lay, h1]
      rfl
    · show max (PyData.depth x) (PyData.depthAll xs) ≤ n
      exact Nat.max_le.mpr ⟨h3.dep, h2⟩
theorem Sh.lst {n : Nat} {xs : List PyData} (h : ∀ x ∈ xs, Sh n x) : Sh (n + 1) (.list xs) := ⟨(sh_all h).1, Nat.succ_le_succ (sh_all h).2⟩
theorem Sh.tup {n : Nat} {xs : List PyData} (h : ∀ x ∈ xs, Sh n x) : Sh (n + 1) (.tuple xs) := ⟨(sh_all h).1, Nat.succ_le_succ (sh_all h).2⟩
theorem Sh.int {n : Nat} (i : Int) : Sh n (.int i) := ⟨rfl, Nat.zero_le _⟩
theorem Sh.bl {n : Nat} (i : Bool) : Sh n (.bool i) := ⟨rfl, Nat.zero_le _⟩
theorem Sh.non {n : Nat} : Sh n .none := ⟨rfl, Nat.zero_le _⟩
theorem Sh.mono {n m : Nat} {d : PyData} (h : Sh n d) (hn : n ≤ m) : Sh m d := ⟨h.lay, Nat.le_trans h.dep hn⟩
theorem Sh.ok {n : Nat} {d : PyData} (h : Sh n d) (hn : n ≤ 64 := by decide) : SeqAt.shaped d = true := by
  have h1 := h.lay
  have h2 : d.depth ≤ 64 := Nat.le_trans h.dep hn
  unfold SeqAt.shaped
  rw [h1, Bool.true_and, decide_eq_true_eq]
  exact h2
theorem sh_intl (ns : List Int) : Sh 1 (.list (ns.map .int)) := Sh.lst fun x hx => by
  obtain ⟨i, _, rfl⟩ := List.mem_map.mp hx
  exact Sh.int i
theorem sh_intt (ns : List Int) : Sh 1 (.tuple (ns.map .int)) := Sh.tup fun x hx => by
  obtain ⟨i, _, rfl⟩ := List.mem_map.mp hx
  exact Sh.int i
theorem eqv_nil (ds : List PyData) : PyData.eqv (.list ds) (.list []) = ds.isEmpty := by cases ds <;> rfl
theorem eqv_nilT (ds : List PyData) : PyData.eqv (.tuple ds) (.tuple []) = ds.isEmpty := by cases ds <;> rfl
theorem eqv_ints : ∀ (ns ms : List Int), PyData.eqvAll (ns.map .int) (ms.map .int) = decide (ns = ms)
  | [], [] => rfl
  | [], m :: ms => rfl
  | n :: ns, [] => rfl
  | n :: ns, m :: ms => by
    show ((n == m) && PyData.eqvAll (ns.map .int) (ms.map .int)) = _
    rw [eqv_ints ns ms]
    by_cases h : n = m <;> by_cases h2 : ns = ms <;> simp [h, h2]
/-! ### settled -/
def setM (W : Wd) (l r : Int) : Nat → List Int → List Int × List Int
  | 0, lot => ([], lot)
  | k + 1, lot => match obM W l lot r with
    | [] => ([], lot)
    | p :: _ => (p :: (setM W l r k (withM lot p)).1, (setM W l r k (withM lot p)).2)
theorem setM_nil {W : Wd} {l r : Int} {k : Nat} {lot : List Int} (h : obM W l lot r = []) : setM W l r k lot = ([], lot) := by
  cases k with
  | zero => rfl
  | succ k =>
    unfold setM
    rw [h]
theorem setM_cons {W : Wd} {l r p : Int} {ps : List Int} {k : Nat} {lot : List Int} (h : obM W l lot r = p :: ps) : setM W l r (k + 1) lot = (p :: (setM W l r k (withM lot p)).1, (setM W l r k (withM lot p)).2) := by
  rw [setM, h]
theorem with_lt {lot : List Int} {p : Int} (h : p ∈ lot) : (withM lot p).length < lot.length := by
  unfold withM
  induction lot with
  | nil => cases h
  | cons a r ih =>
    rw [List.filter_cons]
    by_cases e : a = p
    · subst e
      have h1 := List.length_filter_le (fun i => !decide (i = a)) r
      simp
      omega
    · have e' : (!decide (a = p)) = true := by simp [e]
      rw [if_pos e', List.length_cons, List.length_cons]
      have := ih ((List.mem_cons.mp h).resolve_left fun z => e z.symm)
      omega
theorem atI_nat {ds : List PyData} {n : Nat} {d : PyData} (h : ds[n]? = some d) : atI ds (n : Int) = some d := by
  have hl := (List.getElem?_eq_some_iff.mp h).1
  unfold atI ixN
  have h1 : (0 : Int) ≤ (n : Int) := by omega
  have h2 : (n : Int) < (ds.length : Int) := by omega
  simp only [h1, h2, if_true, Int.toNat_natCast, and_self]
  simpa using h
theorem atI_0 (d : PyData) (ds : List PyData) : atI (d :: ds) 0 = some d := atI_nat (n := 0) rfl
def setD (q : List Int × List Int) : PyData := .tuple [.list (q.1.map .int), .tuple (q.2.map .int)]
abbrev FnT_settled_between (g : Pg) : Prop := Fn g "settled_between" ["loads", "left", "lot", "right"] 9 (spM (α := BtIn) (fun z => mmL g z.1.W z.1.d1 z.1.d2) (btA g) (fun z => tD g.K (setD (setM z.1.W z.1.l z.1.r z.1.lot.length z.1.lot))))
theorem sc_settled_between : FnScope ["loads", "left", "lot", "right", "row", "some"] ["loads", "left", "lot", "right"] (defScope sSettledBetween) := ⟨rfl, rfl, rfl, by decide +kernel, rfl, by decide +kernel, by decide +kernel⟩
theorem fn_settled_between {g : Pg} (T : Tx g) (F_overlaid_between : FnT_overlaid_between g) (F_without : FnT_without g) : FnT_settled_between g := by
  refine T.fn 34 26 (k := 8) (d := dSettledBetween) rfl rfl rfl rfl rfl sc_settled_between (fun _ => rfl) (fun _ _ _ _ _ _ us hl => match us, hl with | [_, _, _, _], _ => rfl) fun cdv Ar outer s H z hr => ?_
  have nd := sc_settled_between.nd
  obtain ⟨⟨W, d1, d2, l, lot, r⟩, hW, ht⟩ := z
  dsimp only at hW ht
  have hlen := ht.len
  have hp12 := hW.p12
  refine xb_cons (xs_nil 4 (fun la => ?_) nd)
  refine xb_cons (xs_set 5 (xe_call (F_overlaid_between.mono (by decide)) (fun _ => hr) ⟨⟨W, d1, d2, l, lot, r⟩, hW, ht⟩ (xa_cons (xe_name (i := 0) rfl) (xa_cons (xe_name (i := 1) rfl) (xa_cons (xe_name (i := 2) rfl) (xa_cons (xe_name (i := 3) rfl) xa_nil)))) (List.Sublist.refl _)) ?_ nd)
  refine xb_cons (xs_while (γ := List Int × List Int × Nat) (fun c => ⟨[some (tLoads g W d1 d2), some (tD g.K (.int l)), some (tD g.K (.tuple (c.2.1.map .int))), some (tD g.K (.int r)), some (tAt la), some (tD g.K (.list ((obM W l c.2.1 r).map .int)))], [(la, .lst ((c.1.map PyData.int).map (tD g.K)))], mmL g W d1 d2⟩) (fun c => c.2.1.length) (fun c => BtOk W l c.2.1 r ∧ c.2.1.length ≤ c.2.2 ∧ c.1 ++ (setM W l r c.2.2 c.2.1).1 = (setM W l r lot.length lot).1 ∧ (setM W l r c.2.2 c.2.1).2 = (setM W l r lot.length lot).2 ∧ c.1.length + c.2.1.length ≤ lot.length) ([], lot, lot.length) ⟨ht, Nat.le_refl _, rfl, rfl, Nat.le_of_eq (Nat.zero_add _)⟩ ⟨Le.refl _, rfl, rfl⟩ (fun c => !PyData.eqv (.list ((obM W l c.2.1 r).map .int)) (.list [])) (fun c wc => (xt_neD (fun _ => hr) (sh_intl _).ok (by rfl) (xe_name (i := 5) rfl) (xe_lstD xa_nil))) (fun c wc hb => ?_) (fun c wc hb => ?_))
  
  · skip
    obtain ⟨b1, b2, b3, b4, b5⟩ := wc
    obtain ⟨p, ps, hp⟩ : ∃ p ps, obM W l c.2.1 r = p :: ps := by
      rw [eqv_nil] at hb
      cases e : obM W l c.2.1 r with
      | nil => rw [e] at hb; exact absurd hb (by simp)
      | cons p ps => exact ⟨p, ps, rfl⟩
    have hm : p ∈ c.2.1 := ob_mem (by rw [hp]; exact List.mem_cons_self)
    have hlt := with_lt hm
    have hc1 := b1.len
    have w1 : c.2.1.length ≤ 1000 := by omega
    have hat : atI ((obM W l c.2.1 r).map PyData.int) 0 = some (.int p) := by rw [hp]; exact atI_0 _ _
    refine xb_cons (xs_app (i := 4) (O1 := []) (O2 := []) rfl rfl (xe_ixL hat (xe_name (i := 5) rfl) xe_int) ?_ ?_)
    · simp only [List.length_map]; omega
    refine xb_cons (xs_set 2 (xe_call (F_without.mono (by decide)) (fun _ => hr) ⟨(c.2.1, p), w1⟩ (xa_cons (xe_name (i := 2) rfl) (xa_cons (xe_ixL hat (xe_name (i := 5) rfl) xe_int) xa_nil)) (List.nil_sublist _)) ?_ nd)
    refine xb_one (xs_set 5 (xe_call (F_overlaid_between.mono (by decide)) (fun _ => hr) ⟨⟨W, d1, d2, l, withM c.2.1 p, r⟩, hW, b1.without p⟩ (xa_cons (xe_name (i := 0) rfl) (xa_cons (xe_name (i := 1) rfl) (xa_cons (xe_name (i := 2) rfl) (xa_cons (xe_name (i := 3) rfl) xa_nil)))) (List.Sublist.refl _)) ?_ nd)
    refine ⟨(c.1 ++ [p], withM c.2.1 p, c.2.2 - 1), hlt, ⟨b1.without p, ?_, ?_, ?_, ?_⟩, ⟨Le.refl _, ?_, rfl⟩⟩
    · show (withM c.2.1 p).length ≤ c.2.2 - 1
      omega
    · obtain ⟨k, hk⟩ : ∃ k, c.2.2 = k + 1 := ⟨c.2.2 - 1, by omega⟩
      rw [hk, setM_cons hp] at b3
      rw [hk, ← b3]
      simp
    · obtain ⟨k, hk⟩ : ∃ k, c.2.2 = k + 1 := ⟨c.2.2 - 1, by omega⟩
      rw [hk, setM_cons hp] at b4
      rw [hk, ← b4]
      rfl
    · show (c.1 ++ [p]).length + (withM c.2.1 p).length ≤ lot.length
      rw [List.length_append, List.length_singleton]
      omega
    · simp
  · skip
    obtain ⟨b1, b2, b3, b4, b5⟩ := wc
    have he : obM W l c.2.1 r = [] := by
      rw [eqv_nil] at hb
      cases e : obM W l c.2.1 r with
      | nil => rfl
      | cons p ps => rw [e] at hb; exact absurd hb (by simp)
    rw [setM_nil he] at b3 b4
    refine xb_freeze 4 (O1 := []) (O2 := []) (ds := c.1.map .int) rfl rfl ?_
    refine xb_one (xs_ret (T := tD g.K (setD (setM W l r lot.length lot))) (XE.toD (xe_tupD (ds := [.list (c.1.map .int), .tuple (c.2.1.map .int)]) (xa_cons (xe_name (i := 4) rfl) (xa_cons (xe_name (i := 2) rfl) xa_nil))) ?_) rfl)
    · show _ = PyData.tuple [.list ((setM W l r lot.length lot).1.map .int), .tuple ((setM W l r lot.length lot).2.map .int)]
      rw [← b3, ← b4, List.append_nil]

end Pf
end
section
set_option Elab.async false
set_option linter.all false
set_option maxRecDepth 100000
set_option maxHeartbeats 2000000
set_option exponentiation.threshold 5000
namespace Pf
open PySem PySem.Spec PyProof.Rows L2 RZ
theorem LotOk.bt {W : Wd} {l : List Int} (h : LotOk W l) : BtOk W (-1) l W.props.length := by
  refine ⟨by omega, by omega, ?_⟩
  refine List.pairwise_cons.mpr ⟨fun i hi => ?_, ?_⟩
  · rcases List.mem_append.mp hi with hi | hi
    · have := h.inn i hi
      omega
    · have : i = W.props.length := by simpa using hi
      omega
  · refine List.pairwise_append.mpr ⟨ascB_pw h.asc, by simp, fun a ha b hb => ?_⟩
    have h1 := h.inn a ha
    have : b = W.props.length := by simpa using hb
    omega
structure LtZ where
  W : Wd
  d1 : Addr
  d2 : Addr
  lot : List Int
abbrev LtIn := {z : LtZ // WOk z.W ∧ LotOk z.W z.lot}
abbrev FnT_settled (g : Pg) : Prop := Fn g "settled" ["loads", "lot"] 10 (spM (α := LtIn) (fun z => mmL g z.1.W z.1.d1 z.1.d2) (fun z => [tLoads g z.1.W z.1.d1 z.1.d2, tD g.K (.tuple (z.1.lot.map .int))]) (fun z => tD g.K (setD (setM z.1.W (-1) z.1.W.props.length z.1.lot.length z.1.lot))))
theorem sc_settled : FnScope ["loads", "lot"] ["loads", "lot"] (defScope sSettled) := ⟨rfl, rfl, rfl, by decide +kernel, rfl, by decide +kernel, by decide +kernel⟩
theorem fn_settled {g : Pg} (T : Tx g) (F_settled_between : FnT_settled_between g) (F_Plank_count : FnT_Plank_count g) : FnT_settled g := by
  refine T.fn 35 27 (k := 9) (d := dSettled) rfl rfl rfl rfl rfl sc_settled (fun _ => rfl) (fun _ _ _ _ _ _ us hl => match us, hl with | [_, _], _ => rfl) fun cdv Ar outer s H z hr => ?_
  have nd := sc_settled.nd
  obtain ⟨⟨W, d1, d2, lot⟩, hW, ht⟩ := z
  refine xb_one (xs_ret (xe_call (F_settled_between.mono (by decide)) (fun _ => hr) ⟨⟨W, d1, d2, -1, lot, W.props.length⟩, hW, ht.bt⟩ (xa_cons (xe_name (i := 0) rfl) (xa_cons (xe_gint (T.int 87 rfl)) (xa_cons (xe_name (i := 1) rfl) (xa_cons (xe_meth0 (F_Plank_count.mono (by decide)) T.clP (fun _ => hr) W (fld_loads_plank T (xe_name (i := 0) rfl)) plank_m rfl (List.nil_sublist _)) xa_nil)))) (List.Sublist.refl _)) rfl)
/-! ### spans: what goes between two places of the rests -/
def ovN (W : Wd) (rs : List Int) (low at_ high : Nat) : Bool := overB W (rs.getD low 0) (rs.getD at_ 0) (rs.getD high 0)
def goF (ov : Nat → Nat → Nat → Bool) : Nat → Nat → Nat → Bool
  | 0, low, high => decide (high = low + 1)
  | f + 1, low, high => decide (high = low + 1) || (List.range (high - low - 1)).any fun i => ov low (low + 1 + i) high && (goF ov f low (low + 1 + i) && goF ov f (low + 1 + i) high)
theorem goF_eq {ov : Nat → Nat → Nat → Bool} : ∀ (f f' low high : Nat), high - low ≤ f → high - low ≤ f' → goF ov f low high = goF ov f' low high
  | 0, 0, low, high, _, _ => rfl
  | 0, f' + 1, low, high, h, _ => by
    have e : high - low - 1 = 0 := by omega
    simp only [goF, e, List.range_zero, List.any_nil, Bool.or_false]
  | f + 1, 0, low, high, _, h => by
    have e : high - low - 1 = 0 := by omega
    simp only [goF, e, List.range_zero, List.any_nil, Bool.or_false]
  | f + 1, f' + 1, low, high, h, h' => by
    unfold goF
    congr 1
    rw [Bool.eq_iff_iff, List.any_eq_true, List.any_eq_true]
    constructor
    · rintro ⟨i, hi, hp⟩
      refine ⟨i, hi, ?_⟩
      have hi' := List.mem_range.mp hi
      rw [← goF_eq f f' low (low + 1 + i) (by omega) (by omega), ← goF_eq f f' (low + 1 + i) high (by omega) (by omega)]
      exact hp
    · rintro ⟨i, hi, hp⟩
      refine ⟨i, hi, ?_⟩
      have hi' := List.mem_range.mp hi
      rw [goF_eq f f' low (low + 1 + i) (by omega) (by omega), goF_eq f f' (low + 1 + i) high (by omega) (by omega)]
      exact hp
/-- all between two places go -/
def goM (W : Wd) (rs : List Int) (low high : Nat) : Bool := goF (ovN W rs) (high - low) low high
def lastP (W : Wd) (rs : List Int) (low high at_ : Nat) : Bool := ovN W rs low at_ high && (goM W rs low at_ && goM W rs at_ high)
def lastsM (W : Wd) (rs : List Int) (low high : Nat) : List Nat := ((List.range (high - low - 1)).filter fun i => lastP W rs low high (low + 1 + i)).map fun i => low + 1 + i
theorem goM_eq {W : Wd} {rs : List Int} {low high : Nat} (h : low < high) : goM W rs low high = (decide (high = low + 1) || !(lastsM W rs low high).isEmpty) := by
  unfold goM lastsM
  obtain ⟨f, hf⟩ : ∃ f, high - low = f + 1 := ⟨high - low - 1, by omega⟩
  rw [hf]
  unfold goF
  congr 1
  rw [hf, Bool.eq_iff_iff, List.any_eq_true]
  have e1 : f + 1 - 1 = f := rfl
  rw [e1]
  constructor
  · rintro ⟨i, hi, hp⟩
    have hi' := List.mem_range.mp hi
    rw [goF_eq f (low + 1 + i - low) low (low + 1 + i) (by omega) (by omega), goF_eq f (high - (low + 1 + i)) (low + 1 + i) high (by omega) (by omega)] at hp
    have : i ∈ (List.range f).filter fun i => lastP W rs low high (low + 1 + i) := List.mem_filter.mpr ⟨hi, hp⟩
    cases e : (List.range f).filter fun i => lastP W rs low high (low + 1 + i) with
    | nil => rw [e] at this; cases this
    | cons a r => simp
  · intro h2
    cases e : (List.range f).filter fun i => lastP W rs low high (low + 1 + i) with
    | nil => rw [e] at h2; simp at h2
    | cons a r =>
      have ha : a ∈ (List.range f).filter fun i => lastP W rs low high (low + 1 + i) := by rw [e]; exact List.mem_cons_self
      obtain ⟨hi, hp⟩ := List.mem_filter.mp ha
      have hi' := List.mem_range.mp hi
      refine ⟨a, hi, ?_⟩
      rw [goF_eq f (low + 1 + a - low) low (low + 1 + a) (by omega) (by omega), goF_eq f (high - (low + 1 + a)) (low + 1 + a) high (by omega) (by omega)]
      exact hp
theorem lasts_mem {W : Wd} {rs : List Int} {low high at_ : Nat} : at_ ∈ lastsM W rs low high ↔ low < at_ ∧ at_ < high ∧ lastP W rs low high at_ = true := by
  unfold lastsM
  rw [List.mem_map]
  constructor
  · rintro ⟨i, hi, rfl⟩
    obtain ⟨h1, h2⟩ := List.mem_filter.mp hi
    have := List.mem_range.mp h1
    exact ⟨by omega, by omega, h2⟩
  · rintro ⟨h1, h2, h3⟩
    have e : low + 1 + (at_ - low - 1) = at_ := by omega
    exact ⟨at_ - low - 1, List.mem_filter.mpr ⟨List.mem_range.mpr (by omega), by rw [e]; exact h3⟩, e⟩
/-! what the program keeps of it -/
def keys2 : List (List Int) := (List.range 400).map fun (k : Nat) => [(k : Int) / 20, (k : Int) % 20]
theorem keys2_len : keys2.length < 100000 := by unfold keys2; rw [List.length_map, List.length_range]; exact Nat.le_of_ble_eq_true rfl
theorem keys2_in {a b : Nat} (ha : a < 20) (hb : b < 20) : [(a : Int), (b : Int)] ∈ keys2 := by
  refine List.mem_map.mpr ⟨a * 20 + b, List.mem_range.mpr (by omega), ?_⟩
  have e1 : ((a * 20 + b : Nat) : Int) / 20 = a := by omega
  have e2 : ((a * 20 + b : Nat) : Int) % 20 = b := by omega
  rw [e1, e2]
def goL (W : Wd) (rs : List Int) (ns : List Int) : Bool := goM W rs (ns.getD 0 0).toNat (ns.getD 1 0).toNat
def goI (K : PySem.W.Frag) (W : Wd) (rs : List Int) : Mi := memoI keys2 (fun ns => tD K (.bool (goL W rs ns)))
def tSpans (g : Pg) (W : Wd) (lot : List Int) (d1 d2 d3 : Addr) : Ty := ⟨fun H v => ∃ q dx lv rv cv, v = .ref q ∧ H q = some (.ins (He.ga g.K "Spans") dx [("loads", lv), ("rests", rv), ("going", .ref d3), ("counted", cv)]) ∧ (tLoads g W d1 d2).p H lv ∧ (tRs g.K (restsM W lot)).p H rv,
  fun e ⟨q, dx, lv, rv, cv, h1, h2, h3, h4⟩ => ⟨q, dx, lv, rv, cv, h1, e _ _ h2, (tLoads g W d1 d2).mono e h3, (tRs g.K (restsM W lot)).mono e h4⟩⟩
section
variable {g : Pg} {C : Ct} {M : Ml} {δ : Sd} {a : Expr} {pos : Pos} {W : Wd} {lot : List Int} {d1 d2 d3 : Addr}
theorem Tx.clS (T : Tx g) : Cls g.K (He.ga g.K "Spans") := T.cls 62 rfl
theorem fld_spans_loads (T : Tx g) (ha : XE g C M δ a (tSpans g W lot d1 d2 d3)) (hb : ∀ j, attributeBase a "loads" (C.env j) (eval a (C.env j)) = eval a (C.env j) := by intro _; rfl) : XE g C M δ (.Attribute a "loads" pos) (tLoads g W d1 d2) :=
  xe_fld (Ta := tSpans g W lot d1 d2 d3) (K0 := g.K) T.clS (T.noat 77 rfl) (fun B v ⟨q, dx, lv, rv, cv, h1, h2, h3, h4⟩ => ⟨q, dx, _, lv, h1, h2, rfl, h3⟩) ha hb
theorem fld_spans_rests (T : Tx g) (ha : XE g C M δ a (tSpans g W lot d1 d2 d3)) (hb : ∀ j, attributeBase a "rests" (C.env j) (eval a (C.env j)) = eval a (C.env j) := by intro _; rfl) : XE g C M δ (.Attribute a "rests" pos) (tRs g.K (restsM W lot)) :=
  xe_fld (Ta := tSpans g W lot d1 d2 d3) (K0 := g.K) T.clS (T.noat 78 rfl) (fun B v ⟨q, dx, lv, rv, cv, h1, h2, h3, h4⟩ => ⟨q, dx, _, rv, h1, h2, rfl, h4⟩) ha hb
theorem fld_spans_going (T : Tx g) (ha : XE g C M δ a (tSpans g W lot d1 d2 d3)) (hb : ∀ j, attributeBase a "going" (C.env j) (eval a (C.env j)) = eval a (C.env j) := by intro _; rfl) : XE g C M δ (.Attribute a "going" pos) (tAt d3) :=
  xe_fld (Ta := tSpans g W lot d1 d2 d3) (K0 := g.K) T.clS (T.noat 79 rfl) (fun B v ⟨q, dx, lv, rv, cv, h1, h2, h3, h4⟩ => ⟨q, dx, _, _, h1, h2, rfl, rfl⟩) ha hb
theorem spans_at {m : Str} (h : m ≠ "loads" ∧ m ≠ "rests" ∧ m ≠ "going" ∧ m ≠ "counted" := by decide) : ∀ B v, (tSpans g W lot d1 d2 d3).p B v → ∃ q dx fs, v = .ref q ∧ B q = some (.ins (He.ga g.K "Spans") dx fs) ∧ fs.lookup m = none := fun B v ⟨q, dx, lv, rv, cv, h1, h2, h3, h4⟩ => by
  refine ⟨q, dx, _, h1, h2, ?_⟩
  simp only [List.lookup, beq_eq_false_iff_ne.mpr h.1, beq_eq_false_iff_ne.mpr h.2.1, beq_eq_false_iff_ne.mpr h.2.2.1, beq_eq_false_iff_ne.mpr h.2.2.2]
end
structure SpZ where
  W : Wd
  lot : List Int
  d1 : Addr
  d2 : Addr
  d3 : Addr
abbrev mmS (g : Pg) (z : SpZ) : Ml := [(z.d1, knownI g.K z.W), (z.d2, overI g.K z.W), (z.d3, goI g.K z.W (restsM z.W z.lot))]
structure SpOk (z : SpZ) : Prop where
  w : WOk z.W
  l : LotOk z.W z.lot
theorem rests_len (W : Wd) (lot : List Int) : (restsM W lot).length = lot.length + 2 := by
  show (-1 :: (lot ++ [(W.props.length : Int)])).length = _
  rw [List.length_cons, List.length_append]
  rfl
theorem rests_0 (W : Wd) (lot : List Int) : (restsM W lot).getD 0 0 = -1 := rfl
theorem rests_last (W : Wd) (lot : List Int) : (restsM W lot).getD (lot.length + 1) 0 = W.props.length := by
  show (-1 :: (lot ++ [(W.props.length : Int)])).getD (lot.length + 1) 0 = _
  rw [List.getD_cons_succ, List.getD_eq_getElem?_getD, List.getElem?_append_right (Nat.le_refl _), Nat.sub_self]
  rfl
theorem rests_tr {W : Wd} {lot : List Int} (h : LotOk W lot) {a b c : Nat} (h1 : a < b) (h2 : b < c) (h3 : c < lot.length + 2) : TrOk W ((restsM W lot).getD a 0) ((restsM W lot).getD b 0) ((restsM W lot).getD c 0) := by
  have hl := rests_len W lot
  have pw : (restsM W lot).Pairwise (· < ·) := h.bt.asc
  have q := List.pairwise_iff_getElem.mp pw
  have k1 : a < (restsM W lot).length := by omega
  have k2 : b < (restsM W lot).length := by omega
  have k3 : c < (restsM W lot).length := by omega
  have k0 : 0 < (restsM W lot).length := by omega
  have k4 : lot.length + 1 < (restsM W lot).length := by omega
  have e0 := rests_0 W lot
  have e4 := rests_last W lot
  rw [getD_at k0] at e0
  rw [getD_at k4] at e4
  rw [getD_at k1, getD_at k2, getD_at k3]
  refine ⟨?_, q a b k1 k2 h1, q b c k2 k3 h2, ?_⟩
  · by_cases e : a = 0
    · subst e; rw [e0]; exact Int.le_refl _
    · have := q 0 a k0 k1 (by omega)
      rw [e0] at this
      exact Int.le_of_lt this
  · by_cases e : c = lot.length + 1
    · subst e
      rw [e4]
      exact Int.le_refl _
    · have := q c (lot.length + 1) k3 k4 (by omega)
      rw [e4] at this
      exact Int.le_of_lt this
theorem rests_at {W : Wd} {lot : List Int} {a : Nat} (h : a < lot.length + 2) : atI ((restsM W lot).map PyData.int) (a : Int) = some (.int ((restsM W lot).getD a 0)) := by
  refine atI_nat ?_
  have k1 : a < (restsM W lot).length := by rw [rests_len]; exact h
  rw [List.getElem?_map, List.getElem?_eq_getElem k1, getD_at k1]
  rfl
/-! Spans(..) -/
structure SnZ where
  W : Wd
  d1 : Addr
  d2 : Addr
  lot : List Int
abbrev SnIn := {z : SnZ // WOk z.W ∧ LotOk z.W z.lot}
abbrev MkT_Spans (g : Pg) : Prop := MkN g "Spans" ["self", "loads", "lot"] 3 [] (spI (α := SnIn) (He.ga g.K "Spans") (fun z => [goI g.K z.1.W (restsM z.1.W z.1.lot)]) (fun z => [tLoads g z.1.W z.1.d1 z.1.d2, tD g.K (.tuple (z.1.lot.map .int))]) (fun z ds => tSpans g z.1.W z.1.lot z.1.d1 z.1.d2 (ds.getD 0 0)))
theorem sc_Spans_init : FnScope ["self", "loads", "lot"] ["self", "loads", "lot"] (defScope sSpansInit) := ⟨rfl, rfl, rfl, by decide +kernel, rfl, by decide +kernel, by decide +kernel⟩
theorem mk_Spans {g : Pg} (T : Tx g) (F_rests_of : FnT_rests_of g) : MkT_Spans g := by
  refine T.mkI 36 63 61 (k := 2) (d := dSpansInit) rfl rfl rfl rfl rfl sc_Spans_init (fun _ => rfl) (fun z mi h B => by rw [List.mem_singleton.mp h]; exact (MemoAt.nil : MemoAt _ _ B [])) (fun fd F => fn_binds F fun kV doc pm an cdv ct us hl => match us, hl with | [_, _, _], _ => rfl) fun cdv Ar outer s H z xi dx hr => ?_
  have nd := sc_Spans_init.nd
  obtain ⟨⟨W, d1, d2, lot⟩, hW, ht⟩ := z
  have hl : lot.length ≤ 1000 := by
    have := ht.len
    have := hW.p12
    show lot.length ≤ 1000
    dsimp only at *
    omega
  refine xb_cons (xs_fld (O1 := []) (O2 := []) rfl (xe_name (i := 0) rfl) T.clS (T.noat 77 rfl) (Nat.le_of_ble_eq_true rfl) (xe_name (i := 1) rfl) ?_)
  refine xb_cons (xs_fld (O1 := []) (O2 := []) rfl (xe_name (i := 0) rfl) T.clS (T.noat 78 rfl) (Nat.le_of_ble_eq_true rfl) (xe_call (F_rests_of.mono (by decide)) (fun _ => hr) ⟨(W, lot), hl⟩ (xa_cons (fld_loads_plank T (xe_name (i := 1) rfl)) (xa_cons (xe_name (i := 2) rfl) xa_nil))) ?_)
  refine xb_cons (xs_fldD (O1 := []) (O2 := []) rfl (xe_name (i := 0) rfl) T.clS (T.noat 79 rfl) (Nat.le_of_ble_eq_true rfl) fun d3 => ?_)
  refine xb_one (xs_fld (O1 := []) (O2 := [(d3, .dct [])]) rfl (xe_name (i := 0) rfl) T.clS (T.noat 80 rfl) (Nat.le_of_ble_eq_true rfl) xe_dnew ?_)
  refine ⟨[d3], _, rfl, rfl, rfl, fun B vs h1 h2 => ?_⟩
  cases h2 with
  | cons a1 h2 =>
    cases h2 with
    | cons a2 h2 =>
      cases h2 with
      | cons a3 h2 =>
        cases h2 with
        | cons a4 h2 =>
          cases h2
          have e3 : _ = V.ref d3 := a3
          subst e3
          exact ⟨xi, dx, _, _, _, rfl, h1, a1, a2⟩
/-! its methods -/
structure I3Z where
  s : SpZ
  low : Nat
  at_ : Nat
  high : Nat
abbrev I3In := {z : I3Z // SpOk z.s ∧ z.low < z.at_ ∧ z.at_ < z.high ∧ z.high < z.s.lot.length + 2}
abbrev FnT_Spans_is_over (g : Pg) : Prop := Mt g (He.ga g.K "Spans") "is_over" ["self", "low", "at", "high"] 8 (spM (α := I3In) (fun z => mmS g z.1.s) (fun z => [tSpans g z.1.s.W z.1.s.lot z.1.s.d1 z.1.s.d2 z.1.s.d3, tD g.K (.int (z.1.low : Int)), tD g.K (.int (z.1.at_ : Int)), tD g.K (.int (z.1.high : Int))]) (fun z => tD g.K (.bool (ovN z.1.s.W (restsM z.1.s.W z.1.s.lot) z.1.low z.1.at_ z.1.high))))
theorem sc_Spans_is_over : FnScope ["self", "low", "at", "high"] ["self", "low", "at", "high"] (defScope sSpansIsOver) := ⟨rfl, rfl, rfl, by decide +kernel, rfl, by decide +kernel, by decide +kernel⟩
theorem mmS_sub {g : Pg} (z : SpZ) : (mmL g z.W z.d1 z.d2).Sublist (mmS g z) := .cons₂ _ (.cons₂ _ (.cons _ .slnil))
theorem fn_Spans_is_over {g : Pg} (T : Tx g) (F_Loads_is_overlaid : FnT_Loads_is_overlaid g) : FnT_Spans_is_over g := by
  refine T.mt 37 81 (k := 7) (d := dSpansIsOver) rfl rfl rfl rfl rfl sc_Spans_is_over (fun _ => rfl) (fun _ _ _ _ _ _ us hl => match us, hl with | [_, _, _, _], _ => rfl) fun cdv Ar outer s H z hr => ?_
  have nd := sc_Spans_is_over.nd
  obtain ⟨⟨⟨W, lot, d1, d2, d3⟩, low, at_, high⟩, hs, h1, h2, h3⟩ := z
  dsimp only at h1 h2 h3
  have g1 : low < lot.length + 2 := by omega
  have g2 : at_ < lot.length + 2 := by omega
  refine xb_one (xs_ret (xe_meth (F_Loads_is_overlaid.mono (by decide)) T.clL (fun _ => hr) ⟨⟨W, d1, d2, _, _, _⟩, hs.w, rests_tr hs.l h1 h2 h3⟩ (fld_spans_loads T (xe_name (i := 0) rfl)) loads_at (xa_cons (xe_ixT (rests_at g1) (XE.dR (fld_spans_rests T (xe_name (i := 0) rfl))) (xe_name (i := 1) rfl)) (xa_cons (xe_ixT (rests_at g2) (XE.dR (fld_spans_rests T (xe_name (i := 0) rfl))) (xe_name (i := 2) rfl)) (xa_cons (xe_ixT (rests_at h3) (XE.dR (fld_spans_rests T (xe_name (i := 0) rfl))) (xe_name (i := 3) rfl)) xa_nil))) rfl (mmS_sub ⟨W, lot, d1, d2, d3⟩)) rfl)
end Pf
end
section
set_option Elab.async false
set_option linter.all false
set_option maxRecDepth 100000
set_option maxHeartbeats 2000000
set_option exponentiation.threshold 5000
namespace Pf
open PySem PySem.Spec PyProof.Rows L2 RZ
structure I2Z where
  s : SpZ
  low : Nat
  high : Nat
structure I2Ok (d : Nat) (z : I2Z) : Prop where
  s : SpOk z.s
  lt : z.low < z.high
  le : z.high < z.s.lot.length + 2
  d : z.high - z.low ≤ d
def natsD (l : List Nat) : List PyData := l.map fun (n : Nat) => .int (n : Int)
abbrev i2A (g : Pg) (z : I2Z) : List Ty := [tSpans g z.s.W z.s.lot z.s.d1 z.s.d2 z.s.d3, tD g.K (.int (z.low : Int)), tD g.K (.int (z.high : Int))]
abbrev FnT_Spans_lasts (g : Pg) (d : Nat) : Prop := Mt g (He.ga g.K "Spans") "lasts" ["self", "low", "high"] (2 * d + 9) (spM (α := {z : I2Z // I2Ok d z}) (fun z => mmS g z.1.s) (fun z => i2A g z.1) (fun z => tD g.K (.list (natsD (lastsM z.1.s.W (restsM z.1.s.W z.1.s.lot) z.1.low z.1.high)))))
abbrev FnT_Spans_all_go (g : Pg) (d : Nat) : Prop := Mt g (He.ga g.K "Spans") "all_go" ["self", "low", "high"] (2 * d + 10) (spM (α := {z : I2Z // I2Ok d z}) (fun z => mmS g z.1.s) (fun z => i2A g z.1) (fun z => tD g.K (.bool (goM z.1.s.W (restsM z.1.s.W z.1.s.lot) z.1.low z.1.high))))
theorem sc_Spans_lasts : FnScope ["self", "low", "high", "found", "at"] ["self", "low", "high"] (defScope sSpansLasts) := ⟨rfl, rfl, rfl, by decide +kernel, rfl, by decide +kernel, by decide +kernel⟩
theorem sc_Spans_all_go : FnScope ["self", "low", "high"] ["self", "low", "high"] (defScope sSpansAllGo) := ⟨rfl, rfl, rfl, by decide +kernel, rfl, by decide +kernel, by decide +kernel⟩
def foundN (P : Nat → Bool) (b m : Nat) : List Nat := ((List.range m).filter fun i => P (b + i)).map fun i => b + i
theorem found_yes {P : Nat → Bool} {b m : Nat} (h : P (b + m) = true) : foundN P b (m + 1) = foundN P b m ++ [b + m] := by
  unfold foundN
  rw [List.range_succ, List.filter_append, List.map_append, List.filter_cons, if_pos h]
  rfl
theorem found_no {P : Nat → Bool} {b m : Nat} (h : P (b + m) = false) : foundN P b (m + 1) = foundN P b m := by
  unfold foundN
  rw [List.range_succ, List.filter_append, List.map_append, List.filter_cons, if_neg (by rw [h]; exact Bool.false_ne_true)]
  simp
theorem found_len {P : Nat → Bool} {b m : Nat} : (foundN P b m).length ≤ m := by
  unfold foundN
  rw [List.length_map]
  refine Nat.le_trans (List.length_filter_le _ _) ?_
  rw [List.length_range]
  exact Nat.le_refl _
theorem fn_Spans_lasts {g : Pg} (T : Tx g) (d : Nat) (F_is_over : FnT_Spans_is_over g) (F_all_go : FnT_Spans_all_go g d) : FnT_Spans_lasts g (d + 1) := by
  refine T.mt 38 82 (k := 2 * d + 10) (d := dSpansLasts) rfl rfl rfl rfl rfl sc_Spans_lasts (fun _ => rfl) (fun _ _ _ _ _ _ us hl => match us, hl with | [_, _, _], _ => rfl) fun cdv Ar outer s H z hr => ?_
  have nd := sc_Spans_lasts.nd
  obtain ⟨⟨⟨W, lot, d1, d2, d3⟩, low, high⟩, hs, h1, h2, h3⟩ := z
  dsimp only at h1 h2 h3
  have hll : lot.length ≤ 12 := Nat.le_trans hs.l.len hs.w.p12
  refine xb_cons (xs_nil 3 (fun la => ?_) nd)
  refine xb_cons (xs_forR2 4 (lo := (low : Int) + 1) (n := (high : Int)) (by omega) (fun m => ⟨[some (tSpans g W lot d1 d2 d3), some (tD g.K (.int (low : Int))), some (tD g.K (.int (high : Int))), some (tAt la), none], [(la, .lst ((natsD (foundN (lastP W (restsM W lot) low high) (low + 1) m)).map (tD g.K)))], mmS g ⟨W, lot, d1, d2, d3⟩⟩) (T.free 97 rfl) (xa_cons (xe_add (xe_name (i := 1) rfl) xe_int) (xa_cons (xe_name (i := 2) rfl) xa_nil)) ⟨Le.refl _, rfl, rfl⟩ (fun m hm => ?_) ?_ nd)
  · have e : (low : Int) + 1 + (m : Int) = ((low + 1 + m : Nat) : Int) := by omega
    rw [e]
    have hm2 : low + 1 + m < high := by omega
    have w0 : SpOk ⟨W, lot, d1, d2, d3⟩ ∧ low < low + 1 + m ∧ low + 1 + m < high ∧ high < lot.length + 2 := ⟨hs, by omega, hm2, h2⟩
    have w1 : I2Ok d ⟨⟨W, lot, d1, d2, d3⟩, low, low + 1 + m⟩ := ⟨hs, show low < low + 1 + m by omega, show low + 1 + m < lot.length + 2 by omega, show low + 1 + m - low ≤ d by omega⟩
    have w2 : I2Ok d ⟨⟨W, lot, d1, d2, d3⟩, low + 1 + m, high⟩ := ⟨hs, hm2, h2, show high - (low + 1 + m) ≤ d by omega⟩
    have ko : 8 ≤ 2 * d + 10 := by omega
    refine xb_one (xs_if (XW.t (xw_and (xt_val (xe_meth (F_is_over.mono ko) T.clS (fun _ => hr) ⟨⟨⟨W, lot, d1, d2, d3⟩, low, low + 1 + m, high⟩, w0⟩ (xe_name (i := 0) rfl) spans_at (xa_cons (xe_name (i := 1) rfl) (xa_cons (xe_name (i := 4) rfl) (xa_cons (xe_name (i := 2) rfl) xa_nil))) rfl (List.Sublist.refl _)))
      fun hb => xw_and (xt_val (xe_meth F_all_go T.clS (fun _ => hr) ⟨⟨⟨W, lot, d1, d2, d3⟩, low, low + 1 + m⟩, w1⟩ (xe_name (i := 0) rfl) spans_at (xa_cons (xe_name (i := 1) rfl) (xa_cons (xe_name (i := 4) rfl) xa_nil)) rfl (List.Sublist.refl _)))
      fun hb => xw_and1 (xt_val (xe_meth F_all_go T.clS (fun _ => hr) ⟨⟨⟨W, lot, d1, d2, d3⟩, low + 1 + m, high⟩, w2⟩ (xe_name (i := 0) rfl) spans_at (xa_cons (xe_name (i := 4) rfl) (xa_cons (xe_name (i := 2) rfl) xa_nil)) rfl (List.Sublist.refl _))))) (fun hb => ?_) (fun hb => ?_))
    · have hb' : lastP W (restsM W lot) low high (low + 1 + m) = true := hb
      have hlen := found_len (P := lastP W (restsM W lot) low high) (b := low + 1) (m := m)
      refine xb_one (xs_app (i := 3) (O1 := []) (O2 := []) rfl rfl (xe_name (i := 4) rfl) (by unfold natsD; simp only [List.length_map]; omega) ⟨.is (.is (.is (.is (.no .nil)))), ?_, rfl⟩)
      show [] ++ [(la, Kd.lst _)] = _
      rw [found_yes hb']
      unfold natsD
      simp
    · have hb' : lastP W (restsM W lot) low high (low + 1 + m) = false := hb
      refine xb_nil ⟨.is (.is (.is (.is (.no .nil)))), ?_, rfl⟩
      show [(la, Kd.lst _)] = _
      rw [found_no hb']
  · have e : ((high : Int) - ((low : Int) + 1)).toNat = high - low - 1 := by omega
    rw [e]
    refine xb_freeze 3 (O1 := []) (O2 := []) (ds := natsD (lastsM W (restsM W lot) low high)) rfl rfl ?_
    exact xb_one (xs_ret (xe_name (i := 3) rfl) rfl)
theorem xe_eqv_lasts (W : Wd) (rs : List Int) {low high : Nat} (h : low < high) : PyData.bool (decide ((high : Int) = (low : Int) + 1) || !PyData.eqv (.list (natsD (lastsM W rs low high))) (.list [])) = .bool (goL W rs [(low : Int), (high : Int)]) := by
  have e : goL W rs [(low : Int), (high : Int)] = goM W rs low high := rfl
  rw [e, goM_eq h, eqv_nil]
  have e2 : (natsD (lastsM W rs low high)).isEmpty = (lastsM W rs low high).isEmpty := by unfold natsD; cases lastsM W rs low high <;> rfl
  rw [e2]
  congr 2
  rw [decide_eq_decide]
  omega
theorem sh_nats (l : List Nat) : Sh 1 (.list (natsD l)) := Sh.lst fun x hx => by
  obtain ⟨i, _, rfl⟩ := List.mem_map.mp hx
  exact Sh.int _
theorem fn_Spans_all_go {g : Pg} (T : Tx g) (d : Nat) (F_lasts : FnT_Spans_lasts g d) : FnT_Spans_all_go g d := by
  refine T.mt 39 83 (k := 2 * d + 9) (d := dSpansAllGo) rfl rfl rfl rfl rfl sc_Spans_all_go (fun _ => rfl) (fun _ _ _ _ _ _ us hl => match us, hl with | [_, _, _], _ => rfl) fun cdv Ar outer s H z hr => ?_
  have nd := sc_Spans_all_go.nd
  obtain ⟨⟨⟨W, lot, d1, d2, d3⟩, low, high⟩, hs, h1, h2, h3⟩ := z
  dsimp only at h1 h2 h3
  have hll : lot.length ≤ 12 := Nat.le_trans hs.l.len hs.w.p12
  have ke : ∀ {C : Ct} {δ : Sd} {a b : Expr} {x1 pos}, XE g C [] δ a (tD g.K (.int (low : Int))) → XE g C [] δ b (tD g.K (.int (high : Int))) → (∀ i, starEach [a, b] (C.env i) = (false, eval a (C.env i)) :: starEach [b] (C.env i)) → (∀ i, starEach [b] (C.env i) = (false, eval b (C.env i)) :: starEach [] (C.env i)) → XE g C [] δ (.Tuple [a, b] x1 pos) (tKt [(low : Int), (high : Int)]) := fun ha hb e1 e2 => xe_tupK [(low : Int), (high : Int)] (xa_cons ha (xa_cons hb xa_nil e2) e1)
  refine xb_memo1 (TT := fun ns => tD g.K (.bool (goL W (restsM W lot) ns))) (L := keys2) (d := d3) (ns := [(low : Int), (high : Int)]) (fun _ => hr) (keys2_in (by omega) (by omega)) keys2_len (ke (xe_name (i := 1) rfl) (xe_name (i := 2) rfl) (by intro _; rfl) (by intro _; rfl)) (fld_spans_going T (xe_name (i := 0) rfl)) ?_ rfl
  refine ⟨List.mem_cons_of_mem _ (List.mem_cons_of_mem _ List.mem_cons_self), XE.toD (xe_or (xe_eqI (xe_name (i := 2) rfl) (xe_add (xe_name (i := 1) rfl) xe_int)) fun hb => xe_one (xe_neD (fun _ => hr) (sh_nats _).ok (by rfl) (xe_meth F_lasts T.clS (fun _ => hr) ⟨⟨⟨W, lot, d1, d2, d3⟩, low, high⟩, hs, h1, h2, h3⟩ (xe_name (i := 0) rfl) spans_at (xa_cons (xe_name (i := 1) rfl) (xa_cons (xe_name (i := 2) rfl) xa_nil)) rfl (List.Sublist.refl _)) (xe_lstD (ds := []) xa_nil))) (xe_eqv_lasts W _ h1),
    ke (xe_name (i := 1) rfl) (xe_name (i := 2) rfl) (by intro _; rfl) (by intro _; rfl), fld_spans_going T (xe_name (i := 0) rfl), ke (xe_name (i := 1) rfl) (xe_name (i := 2) rfl) (by intro _; rfl) (by intro _; rfl), fld_spans_going T (xe_name (i := 0) rfl)⟩
theorem fn_Spans_lasts0 {g : Pg} (T : Tx g) : FnT_Spans_lasts g 0 := by
  refine T.mt 38 82 (k := 8) (d := dSpansLasts) rfl rfl rfl rfl rfl sc_Spans_lasts (fun _ => rfl) (fun _ _ _ _ _ _ us hl => match us, hl with | [_, _, _], _ => rfl) fun cdv Ar outer s H z hr => ?_
  have h1 := z.2.lt
  have h3 := z.2.d
  omega
theorem fn_spans {g : Pg} (T : Tx g) (F_is_over : FnT_Spans_is_over g) : ∀ d, FnT_Spans_lasts g d ∧ FnT_Spans_all_go g d
  | 0 => ⟨fn_Spans_lasts0 T, fn_Spans_all_go T 0 (fn_Spans_lasts0 T)⟩
  | d + 1 => by
    have h := fn_spans T F_is_over d
    have h2 := fn_Spans_lasts T d F_is_over h.2
    exact ⟨h2, fn_Spans_all_go T (d + 1) h2⟩
end Pf
end
section
set_option Elab.async false
set_option linter.all false
set_option maxRecDepth 100000
set_option maxHeartbeats 2000000
set_option exponentiation.threshold 5000
namespace Pf
open PySem PySem.Spec PyProof.Rows L2 RZ
/-! ### trees of last ones -/
inductive Tr where
  | leaf
  | node (p : Int) (a b : Tr)
def datT : Tr → PyData
  | .leaf => .none
  | .node p a b => .tuple [.int p, datT a, datT b]
def rowT : Tr → List Int
  | .leaf => []
  | .node p a b => rowT a ++ rowT b ++ [p]
def depT : Tr → Nat
  | .leaf => 0
  | .node _ a b => max (depT a) (depT b) + 1
def treeF (W : Wd) (rs : List Int) : Nat → Nat → Nat → Tr
  | 0, _, _ => .leaf
  | f + 1, low, high => if high = low + 1 then .leaf else match lastsM W rs low high with
    | [] => .leaf
    | a :: _ => .node (rs.getD a 0) (treeF W rs f low a) (treeF W rs f a high)
abbrev FnT_Spans_tree (g : Pg) (d : Nat) : Prop := Mt g (He.ga g.K "Spans") "tree" ["self", "low", "high"] (3 * d + 10) (spM (α := {z : I2Z // I2Ok d z ∧ goM z.s.W (restsM z.s.W z.s.lot) z.low z.high = true}) (fun z => mmS g z.1.s) (fun z => i2A g z.1) (fun z => tD g.K (datT (treeF z.1.s.W (restsM z.1.s.W z.1.s.lot) d z.1.low z.1.high))))
theorem sc_Spans_tree : FnScope ["self", "low", "high", "at"] ["self", "low", "high"] (defScope sSpansTree) := ⟨rfl, rfl, rfl, by decide +kernel, rfl, by decide +kernel, by decide +kernel⟩
theorem fn_Spans_tree {g : Pg} (T : Tx g) (d : Nat) (F_lasts : FnT_Spans_lasts g (d + 1)) (F_tree : FnT_Spans_tree g d) : FnT_Spans_tree g (d + 1) := by
  refine T.mt 40 84 (k := 3 * d + 12) (d := dSpansTree) rfl rfl rfl rfl rfl sc_Spans_tree (fun _ => rfl) (fun _ _ _ _ _ _ us hl => match us, hl with | [_, _, _], _ => rfl) fun cdv Ar outer s H z hr => ?_
  have nd := sc_Spans_tree.nd
  obtain ⟨⟨⟨W, lot, d1, d2, d3⟩, low, high⟩, ⟨hs, h1, h2, h3⟩, hg⟩ := z
  dsimp only at h1 h2 h3 hg
  have hll : lot.length ≤ 12 := Nat.le_trans hs.l.len hs.w.p12
  have kl : 2 * (d + 1) + 9 ≤ 3 * d + 12 := by omega
  have kt : 3 * d + 10 ≤ 3 * d + 12 := by omega
  refine xb_cons (xs_if (xt_eqI (xe_name (i := 2) rfl) (xe_add (xe_name (i := 1) rfl) xe_int)) (fun hb => ?_) (fun hb => ?_))
  · have e : high = low + 1 := by have hb' : decide ((high : Int) = (low : Int) + 1) = true := hb; have := of_decide_eq_true hb'; omega
    refine xb_one (xs_ret (T := tD g.K (datT (treeF W (restsM W lot) (d + 1) low high))) (XE.toD xe_non ?_) rfl)
    unfold treeF
    rw [if_pos e]
    rfl
  · refine xb_nil ?_
    have e : ¬ high = low + 1 := by have hb' : decide ((high : Int) = (low : Int) + 1) = false := hb; have := of_decide_eq_false hb'; omega
    obtain ⟨a, r, hl⟩ : ∃ a r, lastsM W (restsM W lot) low high = a :: r := by
      rw [goM_eq h1, decide_eq_false e, Bool.false_or] at hg
      cases q : lastsM W (restsM W lot) low high with
      | nil => rw [q] at hg; simp at hg
      | cons a r => exact ⟨a, r, rfl⟩
    obtain ⟨ha1, ha2, ha3⟩ := lasts_mem.mp (show a ∈ lastsM W (restsM W lot) low high by rw [hl]; exact List.mem_cons_self)
    unfold lastP at ha3
    rw [Bool.and_eq_true, Bool.and_eq_true] at ha3
    have hat : atI (natsD (lastsM W (restsM W lot) low high)) 0 = some (.int (a : Int)) := by rw [hl]; exact atI_0 _ _
    have w0 : I2Ok (d + 1) ⟨⟨W, lot, d1, d2, d3⟩, low, high⟩ := ⟨hs, h1, h2, h3⟩
    have w1 : I2Ok d ⟨⟨W, lot, d1, d2, d3⟩, low, a⟩ ∧ goM W (restsM W lot) low a = true := ⟨⟨hs, ha1, show a < lot.length + 2 by omega, show a - low ≤ d by omega⟩, ha3.2.1⟩
    have w2 : I2Ok d ⟨⟨W, lot, d1, d2, d3⟩, a, high⟩ ∧ goM W (restsM W lot) a high = true := ⟨⟨hs, ha2, h2, show high - a ≤ d by omega⟩, ha3.2.2⟩
    have hal : a < lot.length + 2 := by omega
    refine xb_cons (xs_set 3 (T := tD g.K (.int (a : Int))) (xe_ixL hat (xe_meth (F_lasts.mono kl) T.clS (fun _ => hr) ⟨⟨⟨W, lot, d1, d2, d3⟩, low, high⟩, w0⟩ (xe_name (i := 0) rfl) spans_at (xa_cons (xe_name (i := 1) rfl) (xa_cons (xe_name (i := 2) rfl) xa_nil)) rfl (List.Sublist.refl _)) xe_int) ?_ nd)
    refine xb_one (xs_ret (T := tD g.K (datT (treeF W (restsM W lot) (d + 1) low high))) (XE.toD (xe_tupD (ds := [.int ((restsM W lot).getD a 0), datT (treeF W (restsM W lot) d low a), datT (treeF W (restsM W lot) d a high)]) (xa_cons (xe_ixT (rests_at hal) (XE.dR (fld_spans_rests T (xe_name (i := 0) rfl))) (xe_name (i := 3) rfl)) (xa_cons (xe_meth (F_tree.mono kt) T.clS (fun _ => hr) ⟨⟨⟨W, lot, d1, d2, d3⟩, low, a⟩, w1⟩ (xe_name (i := 0) rfl) spans_at (xa_cons (xe_name (i := 1) rfl) (xa_cons (xe_name (i := 3) rfl) xa_nil)) rfl (List.Sublist.refl _))
      (xa_cons (xe_meth (F_tree.mono kt) T.clS (fun _ => hr) ⟨⟨⟨W, lot, d1, d2, d3⟩, a, high⟩, w2⟩ (xe_name (i := 0) rfl) spans_at (xa_cons (xe_name (i := 3) rfl) (xa_cons (xe_name (i := 2) rfl) xa_nil)) rfl (List.Sublist.refl _)) xa_nil)))) ?_) rfl)
    rw [treeF, if_neg e, hl]
    rfl
theorem fn_Spans_tree0 {g : Pg} (T : Tx g) : FnT_Spans_tree g 0 := by
  refine T.mt 40 84 (k := 9) (d := dSpansTree) rfl rfl rfl rfl rfl sc_Spans_tree (fun _ => rfl) (fun _ _ _ _ _ _ us hl => match us, hl with | [_, _, _], _ => rfl) fun cdv Ar outer s H z hr => ?_
  have h1 := z.2.1.lt
  have h3 := z.2.1.d
  omega
theorem fn_trees {g : Pg} (T : Tx g) (F_is_over : FnT_Spans_is_over g) : ∀ d, FnT_Spans_tree g d
  | 0 => fn_Spans_tree0 T
  | d + 1 => fn_Spans_tree T d (fn_spans T F_is_over (d + 1)).1 (fn_trees T F_is_over d)
/-! row_of -/
abbrev FnT_row_of (g : Pg) (d : Nat) : Prop := Fn g "row_of" ["told"] (d + 1) (spM (α := {t : Tr // depT t ≤ d ∧ (rowT t).length ≤ 1000}) (fun _ => []) (fun t => [tD g.K (datT t.1)]) (fun t => tD g.K (.list ((rowT t.1).map .int))))
theorem sc_row_of : FnScope ["told", "last", "before", "behind"] ["told"] (defScope sRowOf) := ⟨rfl, rfl, rfl, by decide +kernel, rfl, by decide +kernel, by decide +kernel⟩
theorem row_step {g : Pg} (T : Tx g) (d : Nat) (F : ∀ d', d = d' + 1 → FnT_row_of g d') : FnT_row_of g d := by
  refine T.fn 41 28 (k := d) (d := dRowOf) rfl rfl rfl rfl rfl sc_row_of (fun _ => rfl) (fun _ _ _ _ _ _ us hl => match us, hl with | [_], _ => rfl) fun cdv Ar outer s H z hr => ?_
  have nd := sc_row_of.nd
  obtain ⟨t, h1, h2⟩ := z
  cases t with
  | leaf =>
    refine xb_cons (xs_if (xt_isN (non_d _) (xe_name (i := 0) rfl) xe_non) (fun hb => ?_) (fun hb => absurd hb (by simp [datT, isNon])))
    exact xb_one (xs_ret (xe_lstD (ds := []) xa_nil) rfl)
  | node p a b =>
    obtain ⟨d', rfl⟩ : ∃ d', d = d' + 1 := ⟨d - 1, by
      have : max (depT a) (depT b) + 1 ≤ d := h1
      omega⟩
    have h3 : max (depT a) (depT b) + 1 ≤ d' + 1 := h1
    have h4 : (rowT a).length + (rowT b).length + 1 ≤ 1000 := by
      have : (rowT a ++ rowT b ++ [p]).length ≤ 1000 := h2
      simp at this
      omega
    have w1 : depT a ≤ d' ∧ (rowT a).length ≤ 1000 := ⟨by omega, by omega⟩
    have w2 : depT b ≤ d' ∧ (rowT b).length ≤ 1000 := ⟨by omega, by omega⟩
    refine xb_cons (xs_if (xt_isN (non_d _) (xe_name (i := 0) rfl) xe_non) (fun hb => absurd hb (by simp [datT, isNon])) (fun hb => ?_))
    refine xb_nil ?_
    refine xb_cons (xs_unpack (T := tD g.K (.tuple [.int p, datT a, datT b])) (xe_name (i := 0) rfl) (xg_tup3 (xg_name 1) (xg_name 2) (xg_name 3)) ?_ (fun jj => pg_tup rfl (pgs_cons (pg_nm 1 jj nd) (pgs_cons (pg_nm 2 jj nd) (pgs_cons (pg_nm 3 jj nd) pgs_nil)))))
    refine xb_one (xs_ret (T := tD g.K (.list ((rowT a ++ rowT b ++ [p]).map .int))) (XE.toD (xe_catL ?_ (xe_catL ?_ (xe_call (F d' rfl) (fun _ => hr) ⟨a, w1⟩ (xa_cons (xe_name (i := 2) rfl) xa_nil)) (xe_call (F d' rfl) (fun _ => hr) ⟨b, w2⟩ (xa_cons (xe_name (i := 3) rfl) xa_nil))) (xe_lstD (ds := [.int p]) (xa_cons (xe_name (i := 1) rfl) xa_nil))) ?_) rfl)
    · simp only [List.length_append, List.length_map, List.length_cons, List.length_nil]; omega
    · simp only [List.length_map]; omega
    · rw [List.map_append, List.map_append]; rfl
theorem fn_rows {g : Pg} (T : Tx g) : ∀ d, FnT_row_of g d
  | 0 => row_step T 0 fun d' h => by omega
  | d + 1 => row_step T (d + 1) fun d' h => by
    obtain rfl : d = d' := by omega
    exact fn_rows T d
end Pf
end
section
set_option Elab.async false
set_option linter.all false
set_option maxRecDepth 100000
set_option maxHeartbeats 2000000
set_option exponentiation.threshold 5000
namespace Pf
open PySem PySem.Spec PyProof.Rows L2 RZ
section
variable {g : Pg} {C C' : Ct} {q q' : Sta} {P : Po} {e a b c o tg iter elt tg1 iter1 : Expr} {es ifs ifs1 : List Expr} {st : Stmt} {sts rest body : List Stmt} {pos p p2 apos cpos : Pos} {T Ta Tb : Ty} {Ts : List Ty} {x : Str} {i j : Nat} {M : Ml} {δ δ' : Sd} {ts vs vs1 : List Nat} {t t1 : TG} {scope : Scope} {own : List (Str × Nat)} {tt tt1 : TT} {te : TE} {wi wi1 : TI}
theorem xs_setLc2 (k : Nat) (own : List (Str × Nat)) (vs1 : List Nat) (hN : C.N.Nodup) (hi : ∀ i, PI (C.X g i) tg iter wi) (ok : ∀ i, BlkOk C.N (C.env i).scope scope own) (hv : ∀ i ∈ vs1, i ∈ own.map (·.2)) (hg : ∀ j, PG ((C.blk scope).X g j) tg t) (ht : ∀ j, PTs ((C.blk scope).X g j) ifs tt)
    (hi1 : ∀ j, PI ((C.blk scope).X g j) tg1 iter1 wi1) (hg1 : ∀ j, PG ((C.blk scope).X g j) tg1 t1) (ht1 : ∀ j, PTs ((C.blk scope).X g j) ifs1 tt1)
    (r : XR q.M q.δ (tLc2 wi t tt wi1 t1 tt1 (wE g (C.blk scope) elt) (own.map (·.2)) vs1) T) (kk : P.nx { q with δ := q.δ.set k (some T) }) (hsw : ∀ j, swapsWith (.ListComp elt [⟨tg, iter, ifs, 0⟩, ⟨tg1, iter1, ifs1, 0⟩] scope pos) (some (.Name x p)) p2.line (C.env j) = pure true)
    (hy : C.N[k]? = some x := by rfl) (hyl : ∀ j, (C.env j).scope.names.lookup x = some .local := by intro _; rfl) (hs : ∀ j x, foldedSetIterable iter (C.env j) x = pure x := by intro _ _; rfl) (hs1 : ∀ env x, foldedSetIterable iter1 env x = pure x := by intro _ _; rfl) :
    XS g C q (.Assign [.Name x p] (.ListComp elt [⟨tg, iter, ifs, 0⟩, ⟨tg1, iter1, ifs1, 0⟩] scope pos) p2) P := fun Z M0 H0 G σ H D hh m =>
  have h0 : tAsg (tLc2 wi t tt wi1 t1 tt1 (wE g (C.blk scope) elt) (own.map (·.2)) vs1) (gName k) D σ H := hh.ev r fun v H' hh' t => m.nx _ _ _ kk (hh'.sl' (Sl.set t k hh'.sl))
  w_ps h0 fun i => ps_setLc2 (X := C.X g i) (i := k) (own := own) (vs1 := vs1) rfl hN hy (hyl i) (hsw i) (hi i) (ok i) hv (fun s H Ca cl fp => hg (i, s, H, Ca, cl, fp)) (fun s H Ca cl fp => ht (i, s, H, Ca, cl, fp)) (fun s H Ca cl fp => hi1 (i, s, H, Ca, cl, fp)) (fun s H Ca cl fp => hg1 (i, s, H, Ca, cl, fp)) (fun s H Ca cl fp => ht1 (i, s, H, Ca, cl, fp)) (fun s H Ca cl fp => pe_w (C := C.blk scope) (i, s, H, Ca, cl, fp)) (hs i) hs1
/-- [elt for x in range(n) for y in range(lo, hi)]: its items -/
def prodD (h : Nat → Nat → PyData) (k1 n : Nat) : List PyData := (List.range n).flatMap fun a => (List.range k1).map (h a)
theorem prod_more (h : Nat → Nat → PyData) (k1 n : Nat) : prodD h k1 (n + 1) = prodD h k1 n ++ (List.range k1).map (h n) := by
  unfold prodD
  rw [List.range_succ, List.flatMap_append]
  simp
theorem prod_len (h : Nat → Nat → PyData) (k1 : Nat) : ∀ n, (prodD h k1 n).length = n * k1
  | 0 => by simp [prodD]
  | n + 1 => by rw [prod_more, List.length_append, prod_len h k1 n, List.length_map, List.length_range, Nat.add_mul, Nat.one_mul]
theorem tYes_of {σ : L2.St} {H : Hp} {A B : Hp → Prop} (h : A H) : tYes σ H (fun b H' => if b = true then A H' else B H') := by
  show (if true = true then A H else B H)
  rw [if_pos rfl]
  exact h
theorem xr_lc2R {n lo hi : Int} (i j : Nat) (k1 : Nat) (h : Nat → Nat → PyData) (δ1 : Nat → Sd) (δ2 : Nat → Nat → Sd) (hk : k1 = (hi - lo).toNat) (hn : 0 ≤ n ∧ n ≤ 200) (hb : -200 ≤ lo ∧ lo ≤ 200 ∧ -200 ≤ hi ∧ hi ≤ 200) (hiv : i ∈ vs) (hjv : j ∈ vs1)
    (src : XE g C M δ e (tD g.K (.int n))) (h1 : ∀ a : Nat, (wipeD δ vs).set i (some (tD g.K (.int (a : Int)))) = δ1 a) (src1 : ∀ a : Nat, XA g C' M (δ1 a) [b, c] [tD g.K (.int lo), tD g.K (.int hi)]) (h2 : ∀ a m : Nat, (wipeD (δ1 a) vs1).set j (some (tD g.K (.int (lo + (m : Int))))) = δ2 a m)
    (he : ∀ a m : Nat, (a : Int) < n → m < k1 → XR M (δ2 a m) te (tD g.K (h a m))) : XR M δ (tLc2 (iRng1 (tCons (wE g C e) tNil)) (gName i) tYes (iRng2 (wA g C' [b, c])) (gName j) tYes te vs vs1) (tD g.K (.list (prodD h k1 n.toNat))) := fun Z σ H hs hA Q k => by
  refine src Z σ H hs hA _ fun v H1 f1 A1 t1 => ⟨n, by rw [rp_int t1], by omega, by omega, fun D hD => ?_⟩
  refine ⟨fun m d H' => d = n.toNat - m ∧ m ≤ n.toNat ∧ LcAt g.K Z M H1 D (prodD h k1 m) H', ⟨n.toNat, rfl, Nat.zero_le _, LcAt.start A1 hD⟩, ?_⟩
  rintro m d H2 ⟨rfl, hm, w⟩
  by_cases hlt : m < n.toNat
  · refine .inr ⟨hlt, LcAt g.K Z M H1 D (prodD h k1 (m + 1)), fun H' w' => ⟨n.toNat - (m + 1), by omega, rfl, hlt, w'⟩, fun y H' hy => ?_⟩
    obtain ⟨rfl, rfl⟩ := hy
    have e0 : (0 : Int) + (m : Int) = (m : Int) := Int.zero_add _
    rw [e0]
    have ex := lc_ex A1 hD w.fr
    have sl1 : Sl (out (Zm (Zd Z D) M) H') (δ1 m) ((L2.wipe σ vs).set i (some (.int (m : Int)))) := by
      rw [← h1 m]
      exact Sl.set (T := tD g.K (.int (m : Int))) (.int _) i (Sl.wipe ((hs.mono f1.out).mono ex) vs)
    refine ⟨by rw [wipe_set hiv, wipe_idem], ?_⟩
    refine tYes_of ?_
    refine src1 m (Zd Z D) _ H' sl1 w.amb _ fun ws H3 f3 A3 t3 => ?_
    obtain ⟨v1, v2, rfl, r1, r2⟩ := al2 t3
    have w3 := w.step f3 A3
    have sl3 := sl1.mono f3.out
    refine ⟨lo, hi, by rw [rp_int r1, rp_int r2], ⟨by omega, by omega, by omega, by omega⟩, ?_⟩
    rw [← hk]
    refine ⟨fun y d H' => d = k1 - y ∧ y ≤ k1 ∧ LcAt g.K Z M H1 D (prodD h k1 m ++ (List.range y).map (h m)) H' ∧ Sl (out (Zm (Zd Z D) M) H') (δ1 m) ((L2.wipe σ vs).set i (some (.int (m : Int)))), ⟨k1, rfl, Nat.zero_le _, by rw [List.range_zero, List.map_nil, List.append_nil]; exact w3, sl3⟩, ?_⟩
    rintro y d H4 ⟨rfl, hy, w4, sl4⟩
    by_cases hlt1 : y < k1
    · refine .inr ⟨hlt1, fun H' => LcAt g.K Z M H1 D (prodD h k1 m ++ (List.range (y + 1)).map (h m)) H' ∧ Sl (out (Zm (Zd Z D) M) H') (δ1 m) ((L2.wipe σ vs).set i (some (.int (m : Int)))), fun H' w' => ⟨k1 - (y + 1), by omega, rfl, hlt1, w'.1, w'.2⟩, fun x H' hx => ?_⟩
      obtain ⟨rfl, rfl⟩ := hx
      have sl5 : Sl (out (Zm (Zd Z D) M) H') (δ2 m y) ((L2.wipe ((L2.wipe σ vs).set i (some (.int (m : Int)))) vs1).set j (some (.int (lo + (y : Int))))) := by
        rw [← h2 m y]
        exact Sl.set (T := tD g.K (.int (lo + (y : Int)))) (.int _) j (Sl.wipe sl4 vs1)
      refine ⟨by rw [wipe_set hjv, wipe_idem], ?_⟩
      refine tYes_of ?_
      refine he m y (by omega) hlt1 (Zd Z D) _ H' sl5 w4.amb _ fun z H6 f6 A6 t6 => ?_
      have w6 := w4.step f6 A6
      obtain ⟨acc, g1, g2⟩ := w6.got
      have hl : (prodD h k1 m ++ (List.range y).map (h m)).length < 100000 := by
        have q1 : m * k1 ≤ 200 * 400 := Nat.mul_le_mul (by omega) (by omega)
        rw [List.length_append, prod_len, List.length_map, List.length_range]
        omega
      have exu : Ex (out (Zm (Zd Z D) M) H') (out (Zm (Zd Z D) M) (upd H6 D (.lst (acc ++ [z])))) := by
        rw [zd_out A6]
        exact f6.out
      refine ⟨acc, g1, Nat.lt_of_lt_of_le (by rw [g2.length]; exact hl) (by decide), ⟨w.hD, fun a o e n => ?_, A6.upd, acc ++ [z], upd_same, ?_⟩, sl4.mono exu⟩
      · rw [upd_ne (ne_of_none e w.hD)]
        exact w6.fr a o e n
      · rw [zd_out A6, List.range_succ, List.map_append, ← List.append_assoc]
        exact g2.append (.cons t6 .nil)
    · have e : y = k1 := by omega
      subst e
      refine .inl ⟨Nat.le_refl _, ?_⟩
      show LcAt g.K Z M H1 D (prodD h y (m + 1)) H4
      rw [prod_more]
      exact w4
  · have e : m = n.toNat := by omega
    subst e
    obtain ⟨r1, r2, r3⟩ := w.fin A1
    exact .inl ⟨Nat.le_refl _, k _ H2 (f1.trans r1) r2 r3⟩
end
end Pf
end
section
set_option Elab.async false
set_option linter.all false
set_option maxRecDepth 100000
set_option maxHeartbeats 2000000
set_option exponentiation.threshold 5000
namespace Pf
open PySem PySem.Spec PyProof.Rows L2 RZ
def btwM (lot : List Int) (l r : Int) : List Int := lot.filter fun p => decide (l < p) && decide (p < r)
/-! ### the soonest span -/
def optD : Option (Nat × Nat) → PyData
  | none => .none
  | some p => .tuple [.int (p.1 : Int), .int (p.2 : Int)]
def nearM : Option (Nat × Nat) → Nat → Nat → Bool
  | none, _, _ => true
  | some p, low, high => decide ((high : Int) - (low : Int) < (p.2 : Int) - (p.1 : Int))
section
variable {g : Pg} {C : Ct} {M : Ml} {δ : Sd} {f1 f2 f3 he le : Expr} {p1 p2 p3 p4 p5 p6 p7 p8 p9 : Pos}
theorem xt_near {f : Option (Nat × Nat)} {low high : Nat} {j1 j2 j3} (h1 : XE g C M δ f1 (tD g.K (optD f))) (h2 : XE g C M δ f2 (tD g.K (optD f))) (h3 : XE g C M δ f3 (tD g.K (optD f))) (hh : XE g C M δ he (tD g.K (.int (high : Int)))) (hl : XE g C M δ le (tD g.K (.int (low : Int)))) :
    XT g C M δ (.BoolOp .Or [.Compare f1 [.Is] [.Constant .none j1 p1] p2, .Compare (.BinOp he .Sub le p3) [.Lt] [.BinOp (.Subscript f2 (.Constant (.int 1) j2 p4) p5) .Sub (.Subscript f3 (.Constant (.int 0) j3 p6) p7) p8] p9] p1) (nearM f low high) := by
  cases f with
  | none => exact XW.t (xw_or (kb := false) (xt_isN (k := true) (non_d _) h1 xe_non) fun hb => absurd hb (by simp))
  | some p => exact (XW.t (xw_or (xt_isN (k := false) (non_d _) h1 xe_non) fun hb => xw_or1 (xt_lt (xe_sub hh hl) (xe_sub (xe_ixT (d := .int (p.2 : Int)) rfl h2 xe_int) (xe_ixT (d := .int (p.1 : Int)) rfl h3 xe_int))))).to (Bool.false_or _)
end
def stepS (W : Wd) (rs : List Int) (at_ : Nat) (f : Option (Nat × Nat)) (low high : Nat) : Option (Nat × Nat) := if nearM f low high = true then (if at_ ∈ lastsM W rs low high then some (low, high) else f) else f
def innerS (W : Wd) (rs : List Int) (at_ : Nat) (f : Option (Nat × Nat)) (low k : Nat) : Option (Nat × Nat) := (List.range k).foldl (fun f i => stepS W rs at_ f low (at_ + 1 + i)) f
def outerS (W : Wd) (rs : List Int) (at_ k : Nat) : Option (Nat × Nat) := (List.range k).foldl (fun f low => innerS W rs at_ f low (rs.length - at_ - 1)) none
def spanM (W : Wd) (rs : List Int) (at_ : Nat) : Option (Nat × Nat) := outerS W rs at_ at_
theorem inner_more (W : Wd) (rs : List Int) (at_ : Nat) (f : Option (Nat × Nat)) (low k : Nat) : innerS W rs at_ f low (k + 1) = stepS W rs at_ (innerS W rs at_ f low k) low (at_ + 1 + k) := by
  unfold innerS
  rw [List.range_succ, List.foldl_append]
  rfl
theorem outer_more (W : Wd) (rs : List Int) (at_ k : Nat) : outerS W rs at_ (k + 1) = innerS W rs at_ (outerS W rs at_ k) k (rs.length - at_ - 1) := by
  unfold outerS
  rw [List.range_succ, List.foldl_append]
  rfl
theorem natsD_ints (l : List Nat) : natsD l = (l.map fun (n : Nat) => (n : Int)).map .int := by
  unfold natsD
  rw [List.map_map]
  rfl
theorem in_nats (n : Nat) (l : List Nat) : decide ((n : Int) ∈ l.map fun (n : Nat) => (n : Int)) = decide (n ∈ l) := by
  rw [decide_eq_decide, List.mem_map]
  constructor
  · rintro ⟨m, hm, e⟩
    have : m = n := by omega
    rw [← this]; exact hm
  · intro h
    exact ⟨n, h, rfl⟩
/-! ### pairs about a place -/
def prD (p : Nat × Nat) : PyData := .tuple [.int (p.1 : Int), .int (p.2 : Int)]
def allP (at_ len : Nat) : List (Nat × Nat) := (List.range at_).flatMap fun a => (List.range (len - at_ - 1)).map fun m => (a, at_ + 1 + m)
def pairsM (at_ len : Nat) (many : Int) : List (Nat × Nat) := (allP at_ len).filter fun p => decide ((p.2 : Int) - (p.1 : Int) - 1 ≤ many)
theorem all_prod (at_ len : Nat) : PyData.list (prodD (fun a m => .tuple [.int (a : Int), .int ((at_ : Int) + 1 + (m : Int))]) (len - at_ - 1) at_) = .list ((allP at_ len).map prD) := by
  congr 1
  unfold prodD allP
  rw [List.map_flatMap]
  congr 1
  funext a
  rw [List.map_map]
  apply List.map_congr_left
  intro m _
  show PyData.tuple [.int (a : Int), .int ((at_ : Int) + 1 + (m : Int))] = .tuple [.int (a : Int), .int (((at_ + 1 + m : Nat) : Nat) : Int)]
  have : (at_ : Int) + 1 + (m : Int) = ((at_ + 1 + m : Nat) : Int) := by omega
  rw [this]
theorem allP_mem {at_ len : Nat} {p : Nat × Nat} : p ∈ allP at_ len ↔ p.1 < at_ ∧ at_ < p.2 ∧ p.2 < len := by
  unfold allP
  rw [List.mem_flatMap]
  constructor
  · rintro ⟨a, ha, h⟩
    obtain ⟨m, hm, rfl⟩ := List.mem_map.mp h
    have h1 := List.mem_range.mp ha
    have h2 := List.mem_range.mp hm
    exact ⟨h1, show at_ < at_ + 1 + m by omega, show at_ + 1 + m < len by omega⟩
  · rintro ⟨h1, h2, h3⟩
    refine ⟨p.1, List.mem_range.mpr h1, List.mem_map.mpr ⟨p.2 - at_ - 1, List.mem_range.mpr (by omega), ?_⟩⟩
    have : at_ + 1 + (p.2 - at_ - 1) = p.2 := by omega
    rw [this]
theorem allP_len {at_ len : Nat} : (allP at_ len).length = at_ * (len - at_ - 1) := by
  have h := all_prod at_ len
  injection h with h
  have h2 := congrArg List.length h
  rw [prod_len, List.length_map] at h2
  exact h2.symm
abbrev FnT_soonest_span (g : Pg) : Prop := Fn g "soonest_span" ["spans", "at"] 38 (spM (α := {z : I2Z // SpOk z.s ∧ 0 < z.low ∧ z.low < z.s.lot.length + 1}) (fun z => mmS g z.1.s) (fun z => [tSpans g z.1.s.W z.1.s.lot z.1.s.d1 z.1.s.d2 z.1.s.d3, tD g.K (.int (z.1.low : Int))]) (fun z => tD g.K (optD (spanM z.1.s.W (restsM z.1.s.W z.1.s.lot) z.1.low))))
theorem sc_soonest_span : FnScope ["spans", "at", "found", "low", "high"] ["spans", "at"] (defScope sSoonestSpan) := ⟨rfl, rfl, rfl, by decide +kernel, rfl, by decide +kernel, by decide +kernel⟩
theorem fn_soonest_span {g : Pg} (T : Tx g) (F_lasts : FnT_Spans_lasts g 14) : FnT_soonest_span g := by
  refine T.fn 44 31 (k := 37) (d := dSoonestSpan) rfl rfl rfl rfl rfl sc_soonest_span (fun _ => rfl) (fun _ _ _ _ _ _ us hl => match us, hl with | [_, _], _ => rfl) fun cdv Ar outer s H z hr => ?_
  have nd := sc_soonest_span.nd
  obtain ⟨⟨⟨W, lot, d1, d2, d3⟩, at_, _⟩, hs, h1, h2⟩ := z
  dsimp only at h1 h2
  have hll : lot.length ≤ 12 := Nat.le_trans hs.l.len hs.w.p12
  have hrl := rests_len W lot
  refine xb_cons (xs_set 2 (T := tD g.K (optD (outerS W (restsM W lot) at_ 0))) xe_non ?_ nd)
  refine xb_cons (xs_forR 3 (n := (at_ : Int)) (by omega) (fun n => ⟨[some (tSpans g W lot d1 d2 d3), some (tD g.K (.int (at_ : Int))), some (tD g.K (optD (outerS W (restsM W lot) at_ n))), none, none], [], mmS g ⟨W, lot, d1, d2, d3⟩⟩) (T.free 97 rfl) (xe_name (i := 1) rfl) ⟨Le.refl _, rfl, rfl⟩ (fun n hn => ?_) ?_ nd)
  · have hn' : n < at_ := by omega
    refine xb_one (xs_forR2 4 (lo := (at_ : Int) + 1) (n := ((restsM W lot).map PyData.int).length) (by rw [List.length_map]; omega) (fun m => ⟨[some (tSpans g W lot d1 d2 d3), some (tD g.K (.int (at_ : Int))), some (tD g.K (optD (innerS W (restsM W lot) at_ (outerS W (restsM W lot) at_ n) n m))), some (tD g.K (.int (n : Int))), none], [], mmS g ⟨W, lot, d1, d2, d3⟩⟩) (T.free 97 rfl) (xa_cons (xe_add (xe_name (i := 1) rfl) xe_int) (xa_cons (xe_lenT (T.free 91 rfl) (XE.dR (fld_spans_rests T (xe_name (i := 0) rfl)))) xa_nil)) ⟨Le.refl _, rfl, rfl⟩ (fun m hm => ?_) ?_ nd)
    · have e : (at_ : Int) + 1 + (m : Int) = ((at_ + 1 + m : Nat) : Int) := by omega
      rw [List.length_map] at hm
      rw [e]
      have w0 : I2Ok 14 ⟨⟨W, lot, d1, d2, d3⟩, n, at_ + 1 + m⟩ := ⟨hs, show n < at_ + 1 + m by omega, show at_ + 1 + m < lot.length + 2 by omega, show at_ + 1 + m - n ≤ 14 by omega⟩
      refine xb_one (xs_if (xt_near (xe_name (i := 2) rfl) (xe_name (i := 2) rfl) (xe_name (i := 2) rfl) (xe_name (i := 4) rfl) (xe_name (i := 3) rfl)) (fun hb => ?_) (fun hb => ?_))
      · refine xb_one (xs_if (XT.to (xt_inIL (xe_name (i := 1) rfl) (XE.toD (xe_meth F_lasts T.clS (fun _ => hr) ⟨⟨⟨W, lot, d1, d2, d3⟩, n, at_ + 1 + m⟩, w0⟩ (xe_name (i := 0) rfl) spans_at (xa_cons (xe_name (i := 3) rfl) (xa_cons (xe_name (i := 4) rfl) xa_nil)) rfl (List.Sublist.refl _)) (congrArg _ (natsD_ints _)))) (in_nats _ _)) (fun hb2 => ?_) (fun hb2 => ?_))
        · refine xb_one (xs_set 2 (T := tD g.K (optD (innerS W (restsM W lot) at_ (outerS W (restsM W lot) at_ n) n (m + 1)))) (XE.toD (xe_tupD (ds := [.int (n : Int), .int ((at_ + 1 + m : Nat) : Int)]) (xa_cons (xe_name (i := 3) rfl) (xa_cons (xe_name (i := 4) rfl) xa_nil))) ?_) ⟨.is (.is (.is (.is (.no .nil)))), rfl, rfl⟩ nd)
          rw [inner_more]
          unfold stepS
          rw [if_pos hb, if_pos (of_decide_eq_true hb2)]
          rfl
        · refine xb_nil ⟨?_, rfl, rfl⟩
          show Le _ [_, _, some (tD g.K (optD (innerS W (restsM W lot) at_ (outerS W (restsM W lot) at_ n) n (m + 1)))), _, _]
          rw [inner_more]
          unfold stepS
          rw [if_pos hb, if_neg (of_decide_eq_false hb2)]
          exact .is (.is (.is (.is (.no .nil))))
      · refine xb_nil ⟨?_, rfl, rfl⟩
        show Le _ [_, _, some (tD g.K (optD (innerS W (restsM W lot) at_ (outerS W (restsM W lot) at_ n) n (m + 1)))), _, _]
        rw [inner_more]
        unfold stepS
        rw [if_neg (by rw [hb]; exact Bool.false_ne_true)]
        exact .is (.is (.is (.is (.no .nil))))
    · have e : ((((restsM W lot).map PyData.int).length : Int) - ((at_ : Int) + 1)).toNat = (restsM W lot).length - at_ - 1 := by rw [List.length_map]; omega
      rw [e]
      refine ⟨?_, rfl, rfl⟩
      show Le _ [_, _, some (tD g.K (optD (outerS W (restsM W lot) at_ (n + 1)))), _, _]
      rw [outer_more]
      exact .is (.is (.is (.no (.no .nil))))
  · exact xb_one (xs_ret (xe_name (i := 2) rfl) rfl)
abbrev FnT_between (g : Pg) : Prop := Fn g "between" ["lot", "left", "right"] 1 (spM (α := {z : List Int × Int × Int // z.1.length ≤ 1000}) (fun _ => []) (fun z => [tD g.K (.tuple (z.1.1.map .int)), tD g.K (.int z.1.2.1), tD g.K (.int z.1.2.2)]) (fun z => tD g.K (.tuple ((btwM z.1.1 z.1.2.1 z.1.2.2).map .int))))
theorem sc_between : FnScope ["lot", "left", "right", "prop"] ["lot", "left", "right"] (defScope sBetween) := ⟨rfl, rfl, rfl, by decide +kernel, rfl, by decide +kernel, by decide +kernel⟩
theorem fn_between {g : Pg} (T : Tx g) : FnT_between g := by
  refine T.fn 43 30 (k := 0) (d := dBetween) rfl rfl rfl rfl rfl sc_between (fun _ => rfl) (fun _ _ _ _ _ _ us hl => match us, hl with | [_, _, _], _ => rfl) fun cdv Ar outer s H z hr => ?_
  have nd := sc_between.nd
  refine xb_one (xs_ret (T := tD g.K (.tuple ((btwM z.1.1 z.1.2.1 z.1.2.2).map .int))) (xe_tupOfL (T.free 94 rfl) (xe_lc [("prop", 3)] nd (fun j => pi_tup (pe_w j)) (fun _ => blkOk_by (sc := defScope sBetween) (by show blkC ["lot", "left", "right", "prop"] _ _ _ = true; decide +kernel)) (fun jj => pg_nm 3 jj nd) (fun jj => pts_one (pt_w jj)) (xr_lcT (z.1.1) (PyData.int) (PyData.int) (fun p => decide (z.1.2.1 < p) && decide (p < z.1.2.2)) (fun p => [some (tD g.K (.tuple (z.1.1.map .int))), some (tD g.K (.int z.1.2.1)), some (tD g.K (.int z.1.2.2)), some (tD g.K (.int p))]) ((xe_name (i := 0) rfl)) ?_ (fun b hb => (xg_name 3)) (by decide) (fun b hb => tr_one (xt_chainI (f := (fun i j => decide (i < j))) (f' := (fun i j => decide (i < j))) (fun _ => op_lt) (fun _ => op_lt) (xe_name (i := 1) rfl) (xe_name (i := 3) rfl) (xe_name (i := 2) rfl) rfl)) (fun b hb hf => (xe_name (i := 3) rfl))))) rfl)
  exact Nat.lt_of_le_of_lt z.2 (by decide)
abbrev FnT_check_from_one (g : Pg) : Prop := Fn g "check_from_one" ["thing"] 2 (spM (α := {z : Int // 1 ≤ z}) (fun _ => []) (fun z => [tD g.K (.int z.1)]) (fun z => tD g.K .none))
theorem sc_check_from_one : FnScope ["thing"] ["thing"] (defScope sCheckFromOne) := ⟨rfl, rfl, rfl, by decide +kernel, rfl, by decide +kernel, by decide +kernel⟩
theorem fn_check_from_one {g : Pg} (T : Tx g) (F_is_whole : FnT_is_whole g) : FnT_check_from_one g := by
  refine T.fn 46 33 (k := 1) (d := dCheckFromOne) rfl rfl rfl rfl rfl sc_check_from_one (fun _ => rfl) (fun _ _ _ _ _ _ us hl => match us, hl with | [_], _ => rfl) fun cdv Ar outer s H z hr => ?_
  have nd := sc_check_from_one.nd
  refine xb_one (xs_if (XW.t (xw_or (xt_not (xt_val (xe_call (F_is_whole.mono (by decide)) (fun _ => hr) _ (xa_cons (xe_name (i := 0) rfl) xa_nil)))) fun hb => (xw_or1 (xt_lt (xe_name (i := 0) rfl) xe_int)))) (fun hb => ?_) (fun hb => ?_))
  · exact absurd hb (by have := z.2; simp [isWhole]; omega)
  · skip
    refine xb_nil ?_
    exact rfl
end Pf
end
section
set_option Elab.async false
set_option linter.all false
set_option maxRecDepth 100000
set_option maxHeartbeats 2000000
set_option exponentiation.threshold 5000
namespace Pf
open PySem PySem.Spec PyProof.Rows L2 RZ
structure PaZ where
  rs : List Int
  at_ : Nat
  many : Int
abbrev FnT_pairs_about (g : Pg) : Prop := Fn g "pairs_about" ["rests", "at", "many"] 1 (spM (α := {z : PaZ // z.at_ < z.rs.length ∧ z.rs.length ≤ 100}) (fun _ => []) (fun z => [tD g.K (.tuple (z.1.rs.map .int)), tD g.K (.int (z.1.at_ : Int)), tD g.K (.int z.1.many)]) (fun z => tD g.K (.list ((pairsM z.1.at_ z.1.rs.length z.1.many).map prD))))
theorem sc_pairs_about : FnScope ["rests", "at", "many", "pairs", "low", "high"] ["rests", "at", "many"] (defScope sPairsAbout) := ⟨rfl, rfl, rfl, by decide +kernel, rfl, by decide +kernel, by decide +kernel⟩
theorem fn_pairs_about {g : Pg} (T : Tx g) : FnT_pairs_about g := by
  refine T.fn 47 34 (k := 0) (d := dPairsAbout) rfl rfl rfl rfl rfl sc_pairs_about (fun _ => rfl) (fun _ _ _ _ _ _ us hl => match us, hl with | [_, _, _], _ => rfl) fun cdv Ar outer s H z hr => ?_
  have nd := sc_pairs_about.nd
  obtain ⟨⟨rs, at_, many⟩, h1, h2⟩ := z
  dsimp only at h1 h2
  have hl : (rs.map PyData.int).length = rs.length := List.length_map ..
  have hap : (allP at_ rs.length).length < 100000 := by
    rw [allP_len]
    have : at_ * (rs.length - at_ - 1) ≤ 100 * 100 := Nat.mul_le_mul (by omega) (by omega)
    omega
  have hk : rs.length - at_ - 1 = ((((rs.map PyData.int).length : Nat) : Int) - ((at_ : Int) + 1)).toNat := by rw [hl]; omega
  refine xb_cons (xs_setLc2 3 [("low", 4), ("high", 5)] [5] nd (fun j => pi_range1 (by rfl) (T.free 97 rfl) (pa_cons (pe_w j) pa_nil)) (fun _ => blkOk_by (sc := defScope sPairsAbout) (by show blkC ["rests", "at", "many", "pairs", "low", "high"] _ _ _ = true; decide +kernel)) (by decide) (fun jj => pg_nm 4 jj nd) (fun jj => pts_nil) (fun j => pi_range2 (by rfl) (T.free 97 rfl) (pa_w j)) (fun jj => pg_nm 5 jj nd) (fun jj => pts_nil)
    (XR.toD (xr_lc2R (n := (at_ : Int)) (lo := (at_ : Int) + 1) (hi := (((rs.map PyData.int).length : Nat) : Int)) 4 5 (rs.length - at_ - 1) (fun a m => .tuple [.int (a : Int), .int ((at_ : Int) + 1 + (m : Int))]) (fun a => [some (tD g.K (.tuple (rs.map .int))), some (tD g.K (.int (at_ : Int))), some (tD g.K (.int many)), none, some (tD g.K (.int (a : Int))), none]) (fun a m => [some (tD g.K (.tuple (rs.map .int))), some (tD g.K (.int (at_ : Int))), some (tD g.K (.int many)), none, some (tD g.K (.int (a : Int))), some (tD g.K (.int ((at_ : Int) + 1 + (m : Int))))]) hk (by omega) (by omega) (by decide) (by decide)
      (xe_name (i := 1) rfl) (fun a => rfl) (fun a => xa_cons (xe_add (xe_name (i := 1) rfl) xe_int) (xa_cons (xe_lenT (T.free 91 rfl) (xe_name (i := 0) rfl)) xa_nil)) (fun a m => rfl) (fun a m ha hm => xe_tupD (ds := [.int (a : Int), .int ((at_ : Int) + 1 + (m : Int))]) (xa_cons (xe_name (i := 4) rfl) (xa_cons (xe_name (i := 5) rfl) xa_nil)))) (all_prod at_ rs.length)) ?_ (fun j => sw_true rfl rfl rfl (by decide +kernel)))
  refine xb_one (xs_ret (xe_lc [("low", 4), ("high", 5)] nd (fun j => pi_list (pe_w j)) (fun _ => blkOk_by (sc := defScope sPairsAbout) (by show blkC ["rests", "at", "many", "pairs", "low", "high"] _ _ _ = true; decide +kernel)) (fun jj => pg_tup rfl (pgs_cons (pg_nm 4 jj nd) (pgs_cons (pg_nm 5 jj nd) pgs_nil))) (fun jj => pts_one (pt_w jj))
    (xr_lcL (allP at_ rs.length) prD prD (fun p => decide ((p.2 : Int) - (p.1 : Int) - 1 ≤ many)) (fun p => [some (tD g.K (.tuple (rs.map .int))), some (tD g.K (.int (at_ : Int))), some (tD g.K (.int many)), some (tD g.K (.list ((allP at_ rs.length).map prD))), some (tD g.K (.int (p.1 : Int))), some (tD g.K (.int (p.2 : Int)))]) (xe_name (i := 3) rfl) hap (fun b hb => xg_tup2 (xg_name 4) (xg_name 5)) (by decide) (fun b hb => tr_one (xt_le (xe_sub (xe_sub (xe_name (i := 5) rfl) (xe_name (i := 4) rfl)) xe_int) (xe_name (i := 2) rfl))) (fun b hb hf => xe_tupD (ds := [.int (b.1 : Int), .int (b.2 : Int)]) (xa_cons (xe_name (i := 4) rfl) (xa_cons (xe_name (i := 5) rfl) xa_nil))))) rfl)
end Pf
end
section
set_option Elab.async false
set_option linter.all false
set_option maxRecDepth 100000
set_option maxHeartbeats 2000000
set_option exponentiation.threshold 5000
namespace Pf
open PySem PySem.Spec PyProof.Rows L2 RZ
/-! ### values that come with a new list of their own -/
abbrev oneO (L : Addr) (ts : List Ty) : Ol := [(L, .lst ts)]
theorem zo_app (Z : Addr → Bool) (O O' : Ol) : Zo Z (O ++ O') = Zo (Zo Z O) O' := by
  funext a
  unfold Zo inO
  rw [List.any_append, Bool.or_assoc]
/-- a value of a kind of Rn, or one with a new list at L of the kinds ts, by Ro -/
def XEr (g : Pg) (C : Ct) (M : Ml) (δ : Sd) (e : Expr) (Rn : Ty → Prop) (Ro : Addr → Ty → List Ty → Prop) : Prop := ∀ (Z : Addr → Bool) (σ : L2.St) (H : Hp), Sl (out (Zm Z M) H) δ σ → Amb Z M H → ∀ Q : VK,
  (∀ T v H', Rn T → Fr M H H' → Amb Z M H' → T.p (out (Zm Z M) H') v → Q v H') →
  (∀ L ts T v H', Ro L T ts → H L = none → Fr M H H' → Amb (Zo Z (oneO L ts)) M H' → Ex (out (Zm Z M) H) (out (Zm (Zo Z (oneO L ts)) M) H') → KOk (out (Zm (Zo Z (oneO L ts)) M) H') H' L (.lst ts) → T.p (out (Zm (Zo Z (oneO L ts)) M) H') v → Q v H') → wE g C e σ H Q
theorem ex_one {Z : Addr → Bool} {M : Ml} {H H' : Hp} {L : Addr} {ts : List Ty} (hA : Amb Z M H) (hL : H L = none) (f : Fr M H H') : Ex (out (Zm Z M) H) (out (Zm (Zo Z (oneO L ts)) M) H') := out_mono (fun a z => by
  unfold Zm Zo inO at z
  unfold Zm
  rw [Bool.or_eq_true, Bool.or_eq_true] at z
  rcases z with (z | z) | z
  · exact .inl (by rw [z]; rfl)
  · have : L = a := by simpa using z
    rw [← this]; exact .inr hL
  · exact .inl (by rw [z, Bool.or_true])) fun a o z e => f a o e (by
  unfold Zm at z
  rw [Bool.or_eq_false_iff] at z
  exact z.2)
/-- the dicts keep what they remember when a new list is set apart -/
theorem amb_one {Z : Addr → Bool} {M : Ml} {H : Hp} {L : Addr} {u : HO} {ts : List Ty} (hA : Amb Z M H) (hL : H L = none) : Amb (Zo Z (oneO L ts)) M (upd H L u) where
  memo := fun p hp => by
    obtain ⟨k, h1, h2⟩ := hA.memo p hp
    exact ⟨k, Ex.new hL _ _ h1, p.2.mono (ex_one hA hL (Fr.of_ex (Ex.new hL))) h2⟩
  here := fun a z => by
    unfold Zo inO at z
    rw [Bool.or_eq_true] at z
    rcases z with z | z
    · exact fun e => hA.here a z ((Ex.new hL).free e)
    · have : L = a := by simpa using z
      rw [← this, upd_same]
      exact fun z => nomatch z
  nd := hA.nd
  off := fun p hp => by
    unfold Zo inO
    rw [hA.off p hp, Bool.false_or]
    cases e : (oneO L ts).any fun q => q.1 == p.1 with
    | false => rfl
    | true =>
      have : L = p.1 := by simpa using e
      obtain ⟨k, h1, _⟩ := hA.memo p hp
      rw [← this, hL] at h1
      cases h1
section
variable {g : Pg} {C : Ct} {q q' : Sta} {P : Po} {e a b c o iter tg : Expr} {es : List Expr} {st : Stmt} {sts rest body : List Stmt} {pos p p1 p2 p3 p4 apos cpos : Pos} {T Ta Tb : Ty} {Ts ts : List Ty} {x : Str} {i j k : Nat} {M : Ml} {δ δ' : Sd} {tl : List Nat} {t : TG} {Rn : Ty → Prop} {Ro : Addr → Ty → List Ty → Prop} {ps : List Str} {L : Addr}
theorem Hold.moreO {Z : Addr → Bool} {M0 : Ml} {H0 H H' : Hp} {G : List (V × Ty)} {σ : L2.St} (hh : Hold Z M0 H0 G q σ H) (hL : H L = none) (f : Fr q.M H H') (A : Amb (Zo (Zo Z q.O) (oneO L ts)) q.M H') (ex : Ex (stb Z q H) (out (Zm (Zo (Zo Z q.O) (oneO L ts)) q.M) H')) (kk : KOk (out (Zm (Zo (Zo Z q.O) (oneO L ts)) q.M) H') H' L (.lst ts)) :
    Hold Z M0 H0 G { q with O := q.O ++ oneO L ts } σ H' := by
  have eo := zo_app Z q.O (oneO L ts)
  have zl := hh.fresh hL
  have zl2 : Z L = false ∧ inO q.O L = false := by
    unfold Zm Zo at zl
    rw [Bool.or_eq_false_iff, Bool.or_eq_false_iff] at zl
    exact zl.1
  have st' : stb Z { q with O := q.O ++ oneO L ts } H' = out (Zm (Zo (Zo Z q.O) (oneO L ts)) q.M) H' := by
    show out (Zm (Zo Z (q.O ++ oneO L ts)) q.M) H' = _
    rw [eo]
  refine ⟨?_, ?_, fun p hp => ?_, ?_, fun p hp => ?_, fr_entry hh.newM hh.fr f, fun p hp => ?_, hh.newM, hh.subM, fun p hp => ?_⟩
  · rw [st']; exact hh.sl.mono ex
  · show Amb (Zo Z (q.O ++ oneO L ts)) q.M H'
    rw [eo]; exact A
  · rw [st']
    rcases List.mem_append.mp hp with hp | hp
    · refine (hh.own p hp).mono ex fun o e => f _ _ e ?_
      cases e2 : inM q.M p.1 with
      | false => rfl
      | true =>
        obtain ⟨r, hr, e3⟩ := inM_ex e2
        have z := hh.amb.off r hr
        rw [e3] at z
        unfold Zo at z
        rw [inO_of hp, Bool.or_true] at z
        cases z
    · rw [List.mem_singleton.mp hp]; exact kk
  · show ((q.O ++ oneO L ts).map (·.1)).Nodup
    rw [List.map_append]
    refine List.nodup_append.mpr ⟨hh.nd, by simp, fun a ha b hb => ?_⟩
    intro e
    obtain ⟨p, hp, rfl⟩ := List.mem_map.mp ha
    have eb : b = L := by simpa using hb
    rw [← e] at eb
    rw [← eb, inO_of hp] at zl2
    exact absurd zl2.2 (by simp)
  · rcases List.mem_append.mp hp with hp | hp
    · exact hh.off p hp
    · rw [List.mem_singleton.mp hp]; exact zl2.1
  · rcases List.mem_append.mp hp with hp | hp
    · exact hh.newO p hp
    · rw [List.mem_singleton.mp hp]
      cases e : H0 L with
      | none => rfl
      | some o =>
        have n : inM M0 L = false := by
          cases e2 : inM M0 L with
          | false => rfl
          | true =>
            have z3 := inM_sub hh.subM e2
            unfold Zm at zl
            rw [z3, Bool.or_true] at zl
            cases zl
        rw [hh.fr L o e n] at hL
        cases hL
  · rw [st']; exact p.2.mono ex (hh.gh p hp)
theorem Hold.evR {Z : Addr → Bool} {M0 : Ml} {H0 H : Hp} {G : List (V × Ty)} {σ : L2.St} (hh : Hold Z M0 H0 G q σ H) (h : XEr g C q.M q.δ e Rn Ro) {Q : VK} (k1 : ∀ T v H', Rn T → Hold Z M0 H0 G q σ H' → T.p (stb Z q H') v → Q v H')
    (k2 : ∀ L ts T v H', Ro L T ts → Hold Z M0 H0 G { q with O := q.O ++ oneO L ts } σ H' → T.p (stb Z { q with O := q.O ++ oneO L ts } H') v → Q v H') : wE g C e σ H Q :=
  h _ σ H hh.sl hh.amb Q (fun T v H' r f A t => k1 T v H' r (hh.step f A) t) fun L ts T v H' r hL f A ex kk t => k2 L ts T v H' r (hh.moreO hL f A ex kk) (by
    show T.p (out (Zm (Zo Z (q.O ++ oneO L ts)) q.M) H') v
    rw [zo_app]
    exact t)
/-- x = e -/
theorem xs_setR (i : Nat) (h : XEr g C q.M q.δ e Rn Ro) (k1 : ∀ T, Rn T → P.nx { q with δ := q.δ.set i (some T) }) (k2 : ∀ L ts T, Ro L T ts → P.nx { q with δ := q.δ.set i (some T), O := q.O ++ oneO L ts }) (hN : C.N.Nodup) (hi : C.N[i]? = some x := by rfl) (hx : ∀ j, Loc (C.env j).scope x := by intro _; first | exact Or.inl rfl | exact Or.inr rfl)
    (hs : ∀ j, swapsWith e (some (.Name x p)) pos.line (C.env j) = pure false := by intro _; rfl) (hf : ∀ j, C.fn j x = true ∨ (C.env j).scope.names.lookup x = some .local := by intro _; first | exact Or.inl rfl | exact Or.inr rfl) :
    XS g C q (.Assign [.Name x p] e pos) P := fun Z M0 H0 G σ H D hh m =>
  w_ps (t := tAsg (wE g C e) (gName i)) (hh.evR h (fun T v H' r hh' t => m.nx _ _ _ (k1 T r) (hh'.sl' (Sl.set t i hh'.sl))) fun L ts T v H' r hh' t => m.nx _ _ _ (k2 L ts T r) (hh'.sl' (Sl.set t i hh'.sl))) fun j => ps_set (X := C.X g j) hN hi (hx j) (pe_w j) (hs j) (hf j)
/-- a, b = e -/
theorem xs_unpackR (h : XEr g C q.M q.δ e Rn Ro) (δ1 : Ty → Sd) (δ2 : Addr → Ty → List Ty → Sd) (hg1 : ∀ T, Rn T → XG t T q.δ (δ1 T) tl) (hg2 : ∀ L T ts, Ro L T ts → XG t T q.δ (δ2 L T ts) tl) (k1 : ∀ T, Rn T → P.nx { q with δ := δ1 T }) (k2 : ∀ L ts T, Ro L T ts → P.nx { q with δ := δ2 L T ts, O := q.O ++ oneO L ts })
    (hp : ∀ j, PG (C.X g j) tg t) (hs : ∀ j, swapsWithSole [tg] e pos.line (C.env j) = pure false := by intro _; rfl) (hw : ∀ j, swappedStores [tg] e (C.env j) = pure none := by intro _; rfl) (h1 : ∀ j, (assignEach [tg] (C.env j)).map (·.2) = [assign tg (C.env j)] := by intro _; rfl) : XS g C q (.Assign [tg] e pos) P := fun Z M0 H0 G σ H D hh m =>
  w_ps (t := tAsg (wE g C e) t) (hh.evR h (fun T v H' r hh' tt => hg1 T r (stb Z q H') H' v σ D.nx out_sub tt hh'.sl fun σ' s' _ => m.nx _ _ _ (k1 T r) (hh'.sl' s'))
    fun L ts T v H' r hh' tt => hg2 L T ts r (stb Z { q with O := q.O ++ oneO L ts } H') H' v σ D.nx out_sub tt hh'.sl fun σ' s' _ => m.nx _ _ _ (k2 L ts T r) (hh'.sl' s')) fun j => ps_asg (X := C.X g j) (pe_w j) (hp j) (hs j) (hw j) (h1 j)
/-! making them -/
theorem xer_catL {ds ds' : List PyData} (hz : ds.length + ds'.length ≤ 100000) (ha : XE g C M δ a (tD g.K (.list ds))) (hb : XE g C M δ b (tD g.K (.list ds'))) : XEr g C M δ (.BinOp a .Add b pos) (fun _ => False) (fun L T ts => T = tAt L ∧ ts = (ds ++ ds').map (tD g.K)) := fun Z σ H hs hA Q k1 k2 => by
  refine w_pe (t := tOp rCat (wE g C a) (wE g C b)) ?_ fun i => pe_op (op_cat (X := C.X g i)) (pe_w i) (pe_w i)
  refine two ha hb hs hA _ fun x y H' f A hx hy => ?_
  obtain ⟨p, xs, rfl, h1, r1⟩ := rp_lst hx
  obtain ⟨q, ys, rfl, h2, r2⟩ := rp_lst hy
  have l1 := r1.length
  have l2 := r2.length
  refine ⟨p, q, xs, ys, rfl, rfl, out_sub _ _ h1, out_sub _ _ h2, sz6 (by omega), fun L hL => ?_⟩
  have f2 : Fr M H' (upd H' L (.lst (xs ++ ys))) := Fr.of_ex (Ex.new hL)
  have hL0 : H L = none := by
    cases e : H L with
    | none => rfl
    | some o =>
      have n : inM M L = false := by
        cases e2 : inM M L with
        | false => rfl
        | true =>
          obtain ⟨r, hr, e3⟩ := inM_ex e2
          obtain ⟨k, g1, _⟩ := A.memo r hr
          rw [e3, hL] at g1
          cases g1
      rw [f L o e n] at hL
      cases hL
  have ex := ex_one (ts := (ds ++ ds').map (tD g.K)) A hL f2
  refine k2 L _ (tAt L) (.ref L) _ ⟨rfl, rfl⟩ hL0 (f.trans f2) (amb_one A hL) (f.out.trans ex) ⟨xs ++ ys, upd_same, Al2.of_rp (RpAll.append (r1.mono ex) (r2.mono ex))⟩ rfl
theorem xer_tup2 {x1} (ha : XE g C M δ a Ta) (hb : XEr g C M δ b Rn Ro) (hs1 : ∀ i, starEach [a, b] (C.env i) = (false, eval a (C.env i)) :: starEach [b] (C.env i) := by intro _; rfl) (hs2 : ∀ i, starEach [b] (C.env i) = (false, eval b (C.env i)) :: starEach [] (C.env i) := by intro _; rfl) :
    XEr g C M δ (.Tuple [a, b] x1 pos) (fun T => ∃ T', Rn T' ∧ T = tTupT g.K [Ta, T']) (fun L T ts => ∃ T', Ro L T' ts ∧ T = tTupT g.K [Ta, T']) := fun Z σ H hs hA Q k1 k2 => by
  refine w_pe (t := tTup (tCons (wE g C a) (tCons (wE g C b) tNil))) ?_ fun i => pe_tup (pa_cons (pe_w i) (pa_cons (pe_w i) pa_nil (hs2 i)) (hs1 i))
  refine ha Z σ H hs hA _ fun v H1 f1 A1 t1 => hb Z σ H1 (hs.mono f1.out) A1 _ (fun T' w H2 r f2 A2 t2 => ⟨by show 2 ≤ sizeLine; decide, fun p hp => ?_⟩) fun L ts T' w H2 r hL f2 A2 ex kk t2 => ⟨by show 2 ≤ sizeLine; decide, fun p hp => ?_⟩
  · have f3 : Fr M H2 (upd H2 p (.tup [v, w])) := Fr.of_ex (Ex.new hp)
    exact k1 _ _ _ ⟨T', r, rfl⟩ ((f1.trans f2).trans f3) (A2.new hp) ⟨p, _, rfl, SqT.of (A2.got hp), .cons (Ta.mono (f2.trans f3).out t1) (.cons (T'.mono f3.out t2) .nil)⟩
  · have f3 : Fr M H2 (upd H2 p (.tup [v, w])) := Fr.of_ex (Ex.new hp)
    have e3 : Ex (out (Zm (Zo Z (oneO L ts)) M) H2) (out (Zm (Zo Z (oneO L ts)) M) (upd H2 p (.tup [v, w]))) := f3.out
    have hL0 : H L = none := by
      cases e : H L with
      | none => rfl
      | some o =>
        have n : inM M L = false := by
          cases e2 : inM M L with
          | false => rfl
          | true =>
            obtain ⟨r, hr, e3⟩ := inM_ex e2
            obtain ⟨k, g1, _⟩ := A1.memo r hr
            rw [e3, hL] at g1
            cases g1
        rw [f1 L o e n] at hL
        cases hL
    exact k2 L ts _ _ _ ⟨T', r, rfl⟩ hL0 ((f1.trans f2).trans f3) (A2.new hp) ((f1.out.trans ex).trans e3) (kk.mono e3 fun o e => Ex.new hp _ _ e) ⟨p, _, rfl, SqT.of (A2.got hp), .cons (Ta.mono (ex.trans e3) t1) (.cons (T'.mono e3 t2) .nil)⟩
/-! returning them -/
def XBr (g : Pg) (C : Ct) (q : Sta) (sts : List Stmt) (Kr : Ty → Prop) (Ko : Addr → Ty → List Ty → Prop) : Prop := ∀ (Z : Addr → Bool) (M0 : Ml) (H0 : Hp) (G : List (V × Ty)) (σ : L2.St) (H : Hp) (D : Ends), Hold Z M0 H0 G q σ H →
  (∀ T v H', Kr T → RetH Z M0 H0 T v H' → D.rt v H') → (∀ q' L ts T v σ' H', q'.O = oneO L ts → Ko L T ts → Hold Z M0 H0 G q' σ' H' → T.p (stb Z q' H') v → D.rt v H') → wB g C sts D σ H
variable {Kr : Ty → Prop} {Ko : Addr → Ty → List Ty → Prop}
theorem xbr_cons (h : XS g C q st { nx := fun q' => XBr g C q' rest Kr Ko, rt := Kr }) : XBr g C q (st :: rest) Kr Ko := fun Z M0 H0 G σ H D hh m1 m2 =>
  w_pss (t := tSeq (wS g C st) (wB g C rest)) (h Z M0 H0 G σ H _ hh ⟨fun q' σ' H' n h' => n Z M0 H0 G σ' H' D h' m1 m2, m1, fun _ _ _ z _ => z.elim, fun _ _ _ z _ => z.elim⟩) fun i => pss_cons (ps_w i) (pss_w i)
theorem xbr_ret (h : XE g C q.M q.δ e T) (k : Kr T) : XBr g C q [.Return (some e) pos] Kr Ko := fun Z M0 H0 G σ H D hh m1 m2 =>
  w_pss (t := tRet (wE g C e)) (hh.ev h fun v H' hh' t => m1 T v H' k (hh'.ret t)) fun j => pss_one (ps_ret (pe_w j))
theorem xbr_own (h : XE g C q.M q.δ e T) (hO : q.O = oneO L ts) (k : Ko L T ts) : XBr g C q [.Return (some e) pos] Kr Ko := fun Z M0 H0 G σ H D hh m1 m2 =>
  w_pss (t := tRet (wE g C e)) (hh.ev h fun v H' hh' t => m2 q L ts T v σ H' hO k hh' t) fun j => pss_one (ps_ret (pe_w j))
theorem xbr_retR (h : XEr g C q.M q.δ e Rn Ro) (hO : q.O = []) (k1 : ∀ T, Rn T → Kr T) (k2 : ∀ L T ts, Ro L T ts → Ko L T ts) : XBr g C q [.Return (some e) pos] Kr Ko := fun Z M0 H0 G σ H D hh m1 m2 =>
  w_pss (t := tRet (wE g C e)) (hh.evR h (fun T v H' r hh' t => m1 T v H' (k1 T r) (hh'.ret t)) fun L ts T v H' r hh' t => m2 _ L ts T v σ H' (by show q.O ++ oneO L ts = _; rw [hO]; rfl) (k2 L T ts r) hh' t) fun j => pss_one (ps_ret (pe_w j))
end
/-! the promise -/
def spO {α : Type} (A : α → List Ty) (Rn : α → Ty → Prop) (Ro : α → Addr → Ty → List Ty → Prop) : Sp := fun vs H Q _ => ∃ (Z : Addr → Bool) (y : α), Al2 (out Z H) (A y) vs ∧ (∀ a, Z a = true → H a ≠ none) ∧
  (∀ T v H', Rn y T → Ex H H' → T.p (out Z H') v → Q v H') ∧
  (∀ L ts T v H', Ro y L T ts → H L = none → Ex H H' → KOk (out (Zo Z (oneO L ts)) H') H' L (.lst ts) → T.p (out (Zo Z (oneO L ts)) H') v → Q v H')
section
variable {g : Pg} {ps : List Str} {α : Type} {A : α → List Ty} {Rn : α → Ty → Prop} {Ro : α → Addr → Ty → List Ty → Prop} {k : Nat}
theorem fn_okO {y : Str} {qual : Str} {params : Arguments} {body : List Stmt} {scope : Scope} {dvs : List V} {kws : List (Str × V)} {f : Addr} {fd : FuncData} {N : List Str} (F : FunD g.K y qual params body scope dvs kws f fd) (S : FnScope N ps scope) (len : ∀ z, (A z).length = ps.length)
    (hb : ∀ (cdv : Value) (Ar : Around) (outer : List Env) (s : Shared) (H : Hp) (z : α), Room k (Ar.deeper (envOfC qual scope s.heap.objs.size f cdv)) →
      XBr g (ctOf (cxOf CX0 g.P g.w g.K g.mg g.base N qual scope f cdv Ar outer s H E0)) (st0 N (A z) []) body (Rn z) (Ro z)) : FnOk g.P g.w g.K g.mg g.base CX0 (k + 1) f fd ps (spO A Rn Ro) := by
  refine F.ok S (fun vs H Q E h => ?_) fun cdv Ar outer s H vs Q E hr h => ?_
  · obtain ⟨Z, z, h1, _⟩ := h
    rw [h1.length, len]
  · obtain ⟨Z, z, h1, h2, k1, k2⟩ := h
    have hv := h1.length
    have hl : (A z).length = ps.length := len z
    refine ⟨wB g (ctOf (cxOf CX0 g.P g.w g.K g.mg g.base N qual scope f cdv Ar outer s H E)) body, PSs.nox (pss_w (C := ctOf (cxOf CX0 g.P g.w g.K g.mg g.base N qual scope f cdv Ar outer s H E)) ()), ?_⟩
    have zo : Zo Z [] = Z := by funext a; simp [Zo, inO]
    refine hb cdv Ar outer s H z hr Z [] H [] _ H _ ⟨?_, ?_, (fun p hp => nomatch hp), List.nodup_nil, (fun p hp => nomatch hp), Fr.refl, (fun p hp => nomatch hp), (fun p hp => nomatch hp), .refl _, (fun p hp => nomatch hp)⟩ (fun T v H' n r => ?_) fun q L ts T v σ' H' hO n hh t => ?_
    · show Sl (out (Zm (Zo Z []) []) H) _ _
      rw [zo, zm_nil]
      unfold L2.start
      rw [hv]
      exact sl_start h1
    · show Amb (Zo Z []) [] H
      rw [zo]
      exact amb_nil h2
    · have ri := r.is
      rw [zm_nil] at ri
      exact k1 T v H' n r.fr.ex0 ri
    · have ow := hh.own (L, .lst ts) (by rw [hO]; exact List.mem_cons_self)
      have nw := hh.newO (L, .lst ts) (by rw [hO]; exact List.mem_cons_self)
      have ex : Ex (stb Z q H') (out (Zo Z (oneO L ts)) H') := out_mono (fun a z => .inl (by
        unfold Zm
        rw [hO, z]
        rfl)) fun _ _ _ e => e
      exact k2 L ts T v H' n nw hh.fr.ex0 (ow.mono ex fun _ e => e) (T.mono ex t)
end
end Pf
end
section
set_option Elab.async false
set_option linter.all false
set_option maxRecDepth 100000
set_option maxHeartbeats 2000000
set_option exponentiation.threshold 5000
set_option pp.maxSteps 1200
namespace Pf
open PySem PySem.Spec PyProof.Rows L2 RZ
/-- where a number stands first -/
def idxI (p : Int) : List Int → Nat
  | [] => 0
  | a :: r => if a = p then 0 else idxI p r + 1
theorem idx_at {p : Int} : ∀ {l : List Int}, p ∈ l → l[idxI p l]? = some p ∧ ∀ m, m < idxI p l → l[m]? ≠ some p
  | a :: r, h => by
    unfold idxI
    by_cases e : a = p
    · rw [if_pos e]
      exact ⟨by rw [e]; rfl, fun m hm => absurd hm (Nat.not_lt_zero _)⟩
    · rw [if_neg e]
      have hr : p ∈ r := (List.mem_cons.mp h).resolve_left fun z => e z.symm
      obtain ⟨h1, h2⟩ := idx_at hr
      refine ⟨by rw [List.getElem?_cons_succ]; exact h1, fun m hm => ?_⟩
      cases m with
      | zero =>
        rw [List.getElem?_cons_zero]
        exact fun z => e (Option.some.inj z)
      | succ m =>
        rw [List.getElem?_cons_succ]
        exact h2 m (by omega)
theorem idx_app {p : Int} : ∀ {l l' : List Int}, p ∈ l → idxI p (l ++ l') = idxI p l
  | a :: r, l', h => by
    show idxI p (a :: (r ++ l')) = idxI p (a :: r)
    unfold idxI
    by_cases e : a = p
    · rw [if_pos e, if_pos e]
    · rw [if_neg e, if_neg e, idx_app ((List.mem_cons.mp h).resolve_left fun z => e z.symm)]
theorem idx_lt {p : Int} {l : List Int} (h : p ∈ l) : idxI p l < l.length := (List.getElem?_eq_some_iff.mp (idx_at h).1).1
theorem rest_idx {W : Wd} {lot : List Int} {p : Int} (h : LotOk W lot) (hp : p ∈ lot) : p ∈ restsM W lot ∧ 0 < idxI p (restsM W lot) ∧ idxI p (restsM W lot) < lot.length + 1 := by
  have h0 := h.inn p hp
  have e : idxI p (restsM W lot) = idxI p lot + 1 := by
    show (if (-1 : Int) = p then 0 else idxI p (lot ++ [(W.props.length : Int)]) + 1) = _
    rw [if_neg (by omega), idx_app hp]
  have hl := idx_lt hp
  refine ⟨List.mem_cons_of_mem _ (List.mem_append_left _ hp), by omega, by omega⟩
theorem rowT_len (W : Wd) (rs : List Int) : ∀ (f low high : Nat), low < high → (rowT (treeF W rs f low high)).length + low < high
  | 0, low, high, h => by
    show 0 + low < high
    omega
  | f + 1, low, high, h => by
    unfold treeF
    by_cases e : high = low + 1
    · rw [if_pos e]
      show 0 + low < high
      omega
    · rw [if_neg e]
      cases q : lastsM W rs low high with
      | nil =>
        show 0 + low < high
        omega
      | cons a r =>
        obtain ⟨h1, h2, _⟩ := lasts_mem.mp (show a ∈ lastsM W rs low high by rw [q]; exact List.mem_cons_self)
        have i1 := rowT_len W rs f low a h1
        have i2 := rowT_len W rs f a high h2
        show (rowT (treeF W rs f low a) ++ rowT (treeF W rs f a high) ++ [rs.getD a 0]).length + low < high
        rw [List.length_append, List.length_append, List.length_singleton]
        omega
theorem treeF_dep (W : Wd) (rs : List Int) : ∀ (f low high : Nat), depT (treeF W rs f low high) ≤ f
  | 0, low, high => Nat.le_refl _
  | f + 1, low, high => by
    unfold treeF
    split
    · exact Nat.zero_le _
    · split
      · exact Nat.zero_le _
      · rename_i a r q
        show max (depT (treeF W rs f low a)) (depT (treeF W rs f a high)) + 1 ≤ f + 1
        have := treeF_dep W rs f low a
        have := treeF_dep W rs f a high
        omega
def SpanOk (W : Wd) (rs : List Int) (at_ : Nat) (f : Option (Nat × Nat)) : Prop := ∀ p, f = some p → p.1 < at_ ∧ at_ < p.2 ∧ p.2 < rs.length ∧ at_ ∈ lastsM W rs p.1 p.2
theorem fold_inv {α β : Type} (I : β → Prop) (f : β → α → β) : ∀ (l : List α) (b : β), I b → (∀ b a, a ∈ l → I b → I (f b a)) → I (l.foldl f b)
  | [], b, h, _ => h
  | a :: l, b, h, k => fold_inv I f l (f b a) (k b a List.mem_cons_self h) fun b a' ha hb => k b a' (List.mem_cons_of_mem _ ha) hb
theorem span_some {W : Wd} {rs : List Int} {at_ : Nat} : SpanOk W rs at_ (spanM W rs at_) := by
  unfold spanM outerS
  refine fold_inv (SpanOk W rs at_) _ _ none (fun p e => nomatch e) fun f low hlow hf => ?_
  unfold innerS
  refine fold_inv (SpanOk W rs at_) _ _ f hf fun f i hi hf => ?_
  unfold stepS
  split
  · split
    · rename_i h1 h2
      intro p e
      obtain rfl := Option.some.inj e
      have g1 := List.mem_range.mp hlow
      have g2 := List.mem_range.mp hi
      exact ⟨g1, show at_ < at_ + 1 + i by omega, show at_ + 1 + i < rs.length by omega, h2⟩
    · exact hf
  · exact hf
/-! ### soonest -/
structure SoZ where
  W : Wd
  lo : Option (List Int)
  prop : Int
structure SoOk (z : SoZ) : Prop where
  w : WOk z.W
  l : ∀ l, z.lo = some l → LotOk z.W l
  p : z.prop ∈ lotM z.W z.lo
theorem lotM_ok {W : Wd} {lo : Option (List Int)} (h : ∀ l, lo = some l → LotOk W l) : LotOk W (lotM W lo) := by
  cases lo with
  | some l => exact h l rfl
  | none =>
    refine ⟨pw_ascB ?_, fun i hi => ?_⟩
    · unfold lotM
      refine List.pairwise_map.mpr ?_
      exact List.pairwise_lt_range.imp fun h => by omega
    · obtain ⟨n, hn, rfl⟩ := List.mem_map.mp hi
      have := List.mem_range.mp hn
      omega
def rsM (z : SoZ) : List Int := restsM z.W (lotM z.W z.lo)
def soAt (z : SoZ) : Nat := idxI z.prop (rsM z)
def leftM (W : Wd) (lot : List Int) : List Int := (setM W (-1) W.props.length lot.length lot).2
def fallsM (z : SoZ) (p : Nat × Nat) : List Int := rowT (treeF z.W (rsM z) 14 p.1 (soAt z)) ++ rowT (treeF z.W (rsM z) 14 (soAt z) p.2) ++ [z.prop]
abbrev soRn (g : Pg) (z : SoZ) (T : Ty) : Prop := spanM z.W (rsM z) (soAt z) = none ∧ T = tD g.K (.tuple [.str "stands", .tuple ((leftM z.W (lotM z.W z.lo)).map .int)])
abbrev soRo (g : Pg) (z : SoZ) (L : Addr) (T : Ty) (ts : List Ty) : Prop := ∃ p, spanM z.W (rsM z) (soAt z) = some p ∧ T = tTupT g.K [tD g.K (.str "falls"), tAt L] ∧ ts = ((fallsM z p).map PyData.int).map (tD g.K)
structure FnK (g : Pg) (x : Str) (ps : List Str) (n : Nat) (ks : List Str) (k : Nat) (sp : Sp) : Prop where
  ex : ∃ (f : Addr) (fd : FuncData) (G : List Value → List Value → List Value), g.mg x = some (.ref f) ∧ PySem.W.keepIn g.K (.ref f) = true ∧ KBn g.K fd ps n ks G (fun vs zs => vs ++ zs) ∧ FnOk g.P g.w g.K g.mg g.base CX0 k f fd ps sp
abbrev soA (g : Pg) (z : SoZ) : List Ty := [tPlank g z.W, tD g.K (.list (z.W.wts.map wtD)), tD g.K (.int z.prop), tD g.K (lotD z.lo)]
abbrev FnT_soonest (g : Pg) : Prop := FnK g "soonest" ["plank", "weights", "prop", "lot"] 3 ["lot"] 53 (spO (α := {z : SoZ // SoOk z}) (fun z => soA g z.1) (fun z => soRn g z.1) (fun z => soRo g z.1))
theorem sc_soonest : FnScope ["plank", "weights", "prop", "lot", "loads", "begun", "spans", "at", "found", "low", "high"] ["plank", "weights", "prop", "lot"] (defScope sSoonest) := ⟨rfl, rfl, rfl, by decide +kernel, rfl, by decide +kernel, by decide +kernel⟩
theorem vals_app {vs zs : List V} {us ws : List Value} (h : Vals vs us) (h' : Vals zs ws) : Vals (vs ++ zs) (us ++ ws) := h.append h'
section
variable {g : Pg} {x : Str} {ps N ks : List Str} {k n : Nat} {sp : Sp}
theorem Tx.fnK (T : Tx g) (i j : Nat) {d : He.DefD} (hd : fnL[i]? = some d) (hx : faL[j]? = some (.glo x)) (ha : d.at_ = (x, none)) (h1 : d.dfl = []) (kws : List (Str × V)) (h2 : d.kws g.K = kws) (h3 : kws ≠ [])
    (bind : ∀ (D : Addr) (doc pm : Value) (an : Option Addr) (cdv ct : Value) (us ws : List Value), us.length = n → ws.length = ks.length → bindArgs (PySem.W.fnOf d.name d.qual d.params d.body d.scope .none (.ref D) doc pm an cdv ct) ⟨us, ks.zip ws⟩ = pure (ps.zip (us ++ ws)))
    (ok : ∀ fd, FunD g.K d.name d.qual d.params d.body d.scope [] kws (He.ga g.K x) fd → FnOk g.P g.w g.K g.mg g.base CX0 k (He.ga g.K x) fd ps sp) : FnK g x ps n ks k sp := by
  obtain ⟨fd, F⟩ := T.says.def_ i hd
  have e1 : d.dvs g.K = [] := by unfold He.DefD.dvs; rw [h1]; rfl
  have e3 : He.fAd g.K d.at_ = He.ga g.K x := by rw [ha]; rfl
  rw [e1, e3, h2] at F
  obtain ⟨mv, B⟩ := FunD.kbinds0 F n ks [] (fun us mv ws => us ++ (mv ++ ws)) h3 (fun q hq => nomatch hq) (fun r1 r2 r3 => r1.append (r2.append r3)) fun D doc pm an cdv ct us mv ws l1 l2 l3 => by
    have hmv : mv = [] := List.eq_nil_of_length_eq_zero l2
    subst hmv
    exact bind D doc pm an cdv ct us ws l1 l3
  exact ⟨_, fd, _, T.glo j hx, F.kp, B, ok fd F⟩
end
theorem fn_soonest {g : Pg} (T : Tx g) (F_begun_of : FnT_begun_of g) (F_check_prop : FnT_check_prop g) (M_Spans : MkT_Spans g) (F_soonest_span : FnT_soonest_span g) (F_settled : FnT_settled g) (F_tree : FnT_Spans_tree g 14) (F_row_of : FnT_row_of g 14) : FnT_soonest g := by
  refine T.fnK 45 32 (d := dSoonest) rfl rfl rfl rfl [("lot", .non)] rfl (by simp) (fun D doc pm an cdv ct us ws l1 l2 => match us, l1, ws, l2 with | [_, _, _], _, [_], _ => rfl) fun fd F => fn_okO (k := 52) F sc_soonest (fun _ => rfl) fun cdv Ar outer s H z hr => ?_
  have nd := sc_soonest.nd
  obtain ⟨⟨W, lo, prop⟩, hw, hlo, hp⟩ := z
  dsimp only at hw hlo hp
  have hlot := lotM_ok hlo
  have hll : (lotM W lo).length ≤ 12 := Nat.le_trans hlot.len hw.p12
  obtain ⟨hi1, hi2, hi3⟩ := rest_idx hlot hp
  have hix := idx_at hi1
  refine xbr_cons (xs_unpackM (xe_callN (F_begun_of.mono (by decide)) (fun _ => hr) ⟨(W, lo), hw, hlo⟩ (xa_cons (xe_name (i := 0) rfl) (xa_cons (xe_name (i := 1) rfl) (xa_cons (xe_name (i := 3) rfl) xa_nil)))) (fun ds => [some (tPlank g W), some (tD g.K (.list (W.wts.map wtD))), some (tD g.K (.int prop)), some (tD g.K (lotD lo)), some (tLd g W ds), some (tD g.K (.tuple ((lotM W lo).map .int))), none, none, none, none, none]) (fun ds => xg_tupT2 (xg_name 4) (xg_name 5)) (fun ds hds => ?_) (fun jj => pg_tup rfl (pgs_cons (pg_nm 4 jj nd) (pgs_cons (pg_nm 5 jj nd) pgs_nil))))
  match ds, hds with
  | [d1, d2], _ =>
    show XBr g _ ⟨[some (tPlank g W), some (tD g.K (.list (W.wts.map wtD))), some (tD g.K (.int prop)), some (tD g.K (lotD lo)), some (tLoads g W d1 d2), some (tD g.K (.tuple ((lotM W lo).map .int))), none, none, none, none, none], [], mmL g W d1 d2⟩ _ _ _
    refine xbr_cons (xs_expr (xe_call (F_check_prop.mono (by decide)) (fun _ => hr) ⟨(lotM W lo, prop), hp⟩ (xa_cons (xe_name (i := 5) rfl) (xa_cons (xe_name (i := 2) rfl) xa_nil)) (List.nil_sublist _)) ?_)
    refine xbr_cons (xs_setM 6 (xe_makeN (k := 51) (M_Spans.mono (by decide)) (fun _ => hr) ⟨⟨W, d1, d2, lotM W lo⟩, hw, hlot⟩ (xa_cons (xe_name (i := 4) rfl) (xa_cons (xe_name (i := 5) rfl) xa_nil)) rfl) (fun ds hds => ?_) nd)
    match ds, hds with
    | [d3], _ =>
      have hs : SpOk ⟨W, lotM W lo, d1, d2, d3⟩ := ⟨hw, hlot⟩
      show XBr g _ ⟨[some (tPlank g W), some (tD g.K (.list (W.wts.map wtD))), some (tD g.K (.int prop)), some (tD g.K (lotD lo)), some (tLoads g W d1 d2), some (tD g.K (.tuple ((lotM W lo).map .int))), some (tSpans g W (lotM W lo) d1 d2 d3), none, none, none, none], [], mmS g ⟨W, lotM W lo, d1, d2, d3⟩⟩ _ _ _
      refine xbr_cons (xs_set 7 (T := tD g.K (.int (idxI prop (restsM W (lotM W lo)) : Nat))) (xe_indexT hix.1 hix.2 (fld_spans_rests T (xe_name (i := 6) rfl)) (xe_name (i := 2) rfl)) ?_ nd)
      have w1 : SpOk ⟨W, lotM W lo, d1, d2, d3⟩ ∧ 0 < idxI prop (restsM W (lotM W lo)) ∧ idxI prop (restsM W (lotM W lo)) < (lotM W lo).length + 1 := ⟨hs, hi2, hi3⟩
      refine xbr_cons (xs_set 8 (T := tD g.K (optD (spanM W (restsM W (lotM W lo)) (idxI prop (restsM W (lotM W lo)))))) (xe_call (F_soonest_span.mono (by decide)) (fun _ => hr) ⟨⟨⟨W, lotM W lo, d1, d2, d3⟩, idxI prop (restsM W (lotM W lo)), 0⟩, w1⟩ (xa_cons (xe_name (i := 6) rfl) (xa_cons (xe_name (i := 7) rfl) xa_nil)) (List.Sublist.refl _)) ?_ nd)
      cases hspan : spanM W (restsM W (lotM W lo)) (idxI prop (restsM W (lotM W lo))) with
      | none =>
        refine xbr_cons (xs_if (xt_isN (k := true) (non_d _) (xe_name (i := 8) rfl) xe_non) (fun hb => ?_) (fun hb => absurd hb (by simp)))
        refine xb_one (xs_ret (T := tD g.K (.tuple [.str "stands", .tuple ((leftM W (lotM W lo)).map .int)])) (xe_tupD (ds := [.str "stands", .tuple ((leftM W (lotM W lo)).map .int)]) (xa_cons xe_str (xa_cons (xe_ixT (ds := [.list ((setM W (-1) W.props.length (lotM W lo).length (lotM W lo)).1.map .int), .tuple ((leftM W (lotM W lo)).map .int)]) rfl (xe_call (F_settled.mono (by decide)) (fun _ => hr) ⟨⟨W, d1, d2, lotM W lo⟩, hw, hlot⟩ (xa_cons (xe_name (i := 4) rfl) (xa_cons (xe_name (i := 5) rfl) xa_nil)) (mmS_sub ⟨W, lotM W lo, d1, d2, d3⟩)) xe_int) xa_nil))) ⟨hspan, rfl⟩)
      | some p =>
        obtain ⟨q1, q2, q3, q4⟩ := span_some p hspan
        obtain ⟨_, _, q5⟩ := lasts_mem.mp q4
        unfold lastP at q5
        rw [Bool.and_eq_true, Bool.and_eq_true] at q5
        rw [rests_len] at q3
        have i1 : I2Ok 14 ⟨⟨W, lotM W lo, d1, d2, d3⟩, p.1, idxI prop (restsM W (lotM W lo))⟩ ∧ goM W (restsM W (lotM W lo)) p.1 (idxI prop (restsM W (lotM W lo))) = true := ⟨⟨hs, q1, show idxI prop (restsM W (lotM W lo)) < (lotM W lo).length + 2 by omega, show idxI prop (restsM W (lotM W lo)) - p.1 ≤ 14 by omega⟩, q5.2.1⟩
        have i2 : I2Ok 14 ⟨⟨W, lotM W lo, d1, d2, d3⟩, idxI prop (restsM W (lotM W lo)), p.2⟩ ∧ goM W (restsM W (lotM W lo)) (idxI prop (restsM W (lotM W lo))) p.2 = true := ⟨⟨hs, q2, q3, show p.2 - idxI prop (restsM W (lotM W lo)) ≤ 14 by omega⟩, q5.2.2⟩
        have l1 := rowT_len W (restsM W (lotM W lo)) 14 _ _ q1
        have l2 := rowT_len W (restsM W (lotM W lo)) 14 _ _ q2
        have r1 : depT (treeF W (restsM W (lotM W lo)) 14 p.1 (idxI prop (restsM W (lotM W lo)))) ≤ 14 ∧ (rowT (treeF W (restsM W (lotM W lo)) 14 p.1 (idxI prop (restsM W (lotM W lo))))).length ≤ 1000 := ⟨treeF_dep _ _ _ _ _, by omega⟩
        have r2 : depT (treeF W (restsM W (lotM W lo)) 14 (idxI prop (restsM W (lotM W lo))) p.2) ≤ 14 ∧ (rowT (treeF W (restsM W (lotM W lo)) 14 (idxI prop (restsM W (lotM W lo))) p.2)).length ≤ 1000 := ⟨treeF_dep _ _ _ _ _, by omega⟩
        refine xbr_cons (xs_if (xt_isN (k := false) (non_d _) (xe_name (i := 8) rfl) xe_non) (fun hb => absurd hb (by simp)) (fun hb => ?_))
        refine xb_nil ?_
        refine xbr_cons (xs_unpack (T := tD g.K (.tuple [.int (p.1 : Int), .int (p.2 : Int)])) (xe_name (i := 8) rfl) (xg_tup2 (xg_name 9) (xg_name 10)) ?_ (fun jj => pg_tup rfl (pgs_cons (pg_nm 9 jj nd) (pgs_cons (pg_nm 10 jj nd) pgs_nil))))
        refine xbr_retR (xer_tup2 xe_str (xer_catL ?_ (xe_catL ?_ (xe_call (F_row_of.mono (by decide)) (fun _ => hr) ⟨treeF W (restsM W (lotM W lo)) 14 p.1 (idxI prop (restsM W (lotM W lo))), r1⟩ (xa_cons (xe_meth F_tree T.clS (fun _ => hr) ⟨⟨⟨W, lotM W lo, d1, d2, d3⟩, p.1, idxI prop (restsM W (lotM W lo))⟩, i1⟩ (xe_name (i := 6) rfl) spans_at (xa_cons (xe_name (i := 9) rfl) (xa_cons (xe_name (i := 7) rfl) xa_nil)) rfl (List.Sublist.refl _)) xa_nil) (List.nil_sublist _))
          (xe_call (F_row_of.mono (by decide)) (fun _ => hr) ⟨treeF W (restsM W (lotM W lo)) 14 (idxI prop (restsM W (lotM W lo))) p.2, r2⟩ (xa_cons (xe_meth F_tree T.clS (fun _ => hr) ⟨⟨⟨W, lotM W lo, d1, d2, d3⟩, idxI prop (restsM W (lotM W lo)), p.2⟩, i2⟩ (xe_name (i := 6) rfl) spans_at (xa_cons (xe_name (i := 7) rfl) (xa_cons (xe_name (i := 10) rfl) xa_nil)) rfl (List.Sublist.refl _)) xa_nil) (List.nil_sublist _)))
          (xe_lstD (ds := [.int prop]) (xa_cons (xe_name (i := 2) rfl) xa_nil)))) rfl (fun T' r => ?_) fun L T' ts r => ?_
        · simp only [List.length_append, List.length_map, List.length_cons, List.length_nil]; omega
        · simp only [List.length_map]; omega
        · obtain ⟨T'', h, _⟩ := r
          exact h.elim
        · obtain ⟨T'', ⟨rfl, rfl⟩, rfl⟩ := r
          refine ⟨p, hspan, rfl, ?_⟩
          unfold fallsM rsM soAt rsM
          rw [List.map_append (f := PyData.int), List.map_append (f := PyData.int)]
          rfl
end Pf
end
section
set_option Elab.async false
set_option linter.all false
set_option maxRecDepth 100000
set_option maxHeartbeats 2000000
set_option exponentiation.threshold 5000
set_option pp.maxSteps 1200
namespace Pf
open PySem PySem.Spec PyProof.Rows L2 RZ
section
variable {g : Pg} {C : Ct} {q q' : Sta} {P : Po} {e tg iter : Expr} {st : Stmt} {sts rest body : List Stmt} {pos : Pos} {ts : List Nat} {t : TG}
theorem xb_to (q1 : Sta) (h : XS g C q st { P with nx := fun q' => Sub q' q1 }) (h2 : XB g C q1 rest P) : XB g C q (st :: rest) P := xb_cons fun Z M0 H0 G σ H D hh m => h Z M0 H0 G σ H D hh ⟨fun q' σ H n h' => m.nx q' σ H (h2.sub n) h', m.rt, m.bk, m.ct⟩
/-- for target in a list of data; W what is known at the turn -/
theorem xs_forLW {β : Type} (l : List β) (enc : β → PyData) (I : Nat → Sta) (D' : Nat → β → Sd) (W : Nat → Prop) (w0 : W 0) (h : XE g C q.M q.δ iter (tD g.K (.list (l.map enc)))) (h0 : Sub q (I 0)) (hg : ∀ n b, l[n]? = some b → XG t (tD g.K (enc b)) (I n).δ (D' n b) ts)
    (hs : ∀ n b, l[n]? = some b → W n → XB g C { I n with δ := D' n b } body { nx := fun q' => W (n + 1) ∧ Sub q' (I (n + 1)), ct := fun q' => W (n + 1) ∧ Sub q' (I (n + 1)), rt := P.rt, bk := P.nx }) (hd : W l.length → P.nx (I l.length)) (hp : ∀ j, PG (C.X g j) tg t)
    (hf : ∀ j x, foldedSetIterable iter (C.env j) x = pure x := by intro _ _; rfl) : XS g C q (.For tg iter body [] pos) P := fun Z M0 H0 G σ H D hh m => by
  refine w_ps (t := tFor (iList g.K (wE g C iter)) t (wB g C body)) ?_ fun j => ps_for (X := C.X g j) PassesOwn.never rfl (pi_list (pe_w j)) (hp j) (pss_w j) (hf j)
  refine hh.ev h fun v H1 h1 t1 => ?_
  obtain ⟨a, xs, rfl, hl, hr⟩ := rp_lst t1
  refine ⟨a, rfl, ⟨xs, SqL.of (out_sub _ _ hl)⟩, for_list (K := g.K) (a := a) (xs := xs) (fun n σ' H' => W n ∧ Hold Z M0 H0 ((.ref a, tSrc g.K a xs (l.map enc)) :: G) (I n) σ' H') ⟨w0, (h1.ghost (T := tSrc g.K a xs (l.map enc)) ⟨rfl, hl, hr⟩).sub h0⟩ (fun n σ' H' _ w => SqL.of (out_sub _ _ (w.2.gh _ List.mem_cons_self).2.1)) (fun n y σ' H' hn ww => ?_) fun σ' H' w => ?_⟩
  · obtain ⟨wn, w⟩ := ww
    obtain ⟨_, hl', hr'⟩ := w.gh _ List.mem_cons_self
    obtain ⟨d, hd', hy⟩ := hr'.at2 hn
    obtain ⟨b, hb, rfl⟩ := map_get hd'
    refine hg n b hb (stb Z (I n) H') H' y σ' _ out_sub hy w.sl fun σ2 s2 _ => ?_
    refine hs n b hb wn Z M0 H0 _ σ2 H' _ (w.sl' s2) ⟨fun q' σ3 H3 n3 h3 => ⟨n3.1, h3.sub n3.2⟩, m.rt, fun q' σ3 H3 n3 h3 => m.nx q' σ3 H3 n3 h3.unghost, fun q' σ3 H3 n3 h3 => ⟨n3.1, h3.sub n3.2⟩⟩
  · have e : xs.length = l.length := by rw [hr.length, List.length_map]
    rw [e] at w
    exact m.nx _ _ _ (hd w.1) w.2.unghost
end
/-! ### why a prop does not go as the last one between two rests -/
inductive Rsn where
  | bears
  | left (lot : List Int)
  | right (lot : List Int)
def rsnD : Rsn → PyData
  | .bears => .tuple [.str "bears"]
  | .left l => .tuple [.str "left", .tuple (l.map .int)]
  | .right l => .tuple [.str "right", .tuple (l.map .int)]
/-- the rests between two places -/
def segM (rs : List Int) (a b : Nat) : List Int := (rs.drop (a + 1)).take (b - a - 1)
def setB (W : Wd) (l : Int) (lot : List Int) (r : Int) : List Int := (setM W l r lot.length lot).2
def reasM (W : Wd) (rs : List Int) (at_ : Nat) (prop : Int) (p : Nat × Nat) : Option Rsn :=
  if ovN W rs p.1 at_ p.2 = false then some .bears
  else if goM W rs p.1 at_ = false then some (.left (setB W (rs.getD p.1 0) (segM rs p.1 at_) prop))
  else if goM W rs at_ p.2 = false then some (.right (setB W prop (segM rs at_ p.2) (rs.getD p.2 0)))
  else none
def entD (W : Wd) (rs : List Int) (at_ : Nat) (prop : Int) (p : Nat × Nat) : PyData := .tuple [.int (rs.getD p.1 0), .int (rs.getD p.2 0), rsnD ((reasM W rs at_ prop p).getD .bears)]
theorem cut_seg (rs : List Int) {a b : Nat} (h : a < b) (hb : b ≤ rs.length) : PyData.tuple (cutD (rs.map .int) (some ((a : Int) + 1)) (some (b : Int))) = .tuple ((segM rs a b).map .int) := by
  unfold cutD segM
  have e1 : HT.sIx (rs.map PyData.int).length 0 (some ((a : Int) + 1)) = a + 1 := by
    unfold HT.sIx
    simp only [List.length_map]
    split <;> omega
  have e2 : HT.sIx (rs.map PyData.int).length (rs.map PyData.int).length (some (b : Int)) = b := by
    unfold HT.sIx
    simp only [List.length_map]
    split <;> omega
  rw [e1, e2, ← List.map_drop, ← List.map_take]
  have e3 : b - (a + 1) = b - a - 1 := by omega
  rw [e3]
theorem seg_get {rs : List Int} {a b : Nat} (h : a < b) (hb : b < rs.length) : (rs.getD a 0 :: segM rs a b ++ [rs.getD b 0]).Sublist rs := by
  have ha : a < rs.length := by omega
  have e1 : rs.drop a = rs.getD a 0 :: rs.drop (a + 1) := by rw [getD_at ha, List.drop_eq_getElem_cons ha]
  have e2 : segM rs a b ++ [rs.getD b 0] = (rs.drop (a + 1)).take (b - a) := by
    unfold segM
    have hlt : b - a - 1 < (rs.drop (a + 1)).length := by rw [List.length_drop]; omega
    have e3 : b - a = (b - a - 1) + 1 := by omega
    rw [e3, List.take_succ_eq_append_getElem hlt, List.getElem_drop, getD_at hb]
    have e6 : a + 1 + (b - a - 1) = b := by omega
    simp only [e6, Nat.add_sub_cancel]
  have e4 : rs.getD a 0 :: segM rs a b ++ [rs.getD b 0] = rs.getD a 0 :: (rs.drop (a + 1)).take (b - a) := by rw [← e2]; rfl
  rw [e4]
  have e5 : (rs.getD a 0 :: (rs.drop (a + 1)).take (b - a)).Sublist (rs.drop a) := by
    rw [e1]
    exact (List.take_sublist _ _).cons₂ _
  exact e5.trans (List.drop_sublist _ _)
theorem seg_bt {W : Wd} {lot : List Int} (h : LotOk W lot) {a b : Nat} (h1 : a < b) (h2 : b < lot.length + 2) : BtOk W ((restsM W lot).getD a 0) (segM (restsM W lot) a b) ((restsM W lot).getD b 0) := by
  have hl := rests_len W lot
  refine ⟨?_, ?_, h.bt.asc.sublist (seg_get h1 (by omega))⟩
  · by_cases e : a = 0
    · subst e; exact Int.le_refl _
    · exact Int.le_trans (Int.le_refl _) (Int.le_of_lt (Int.lt_of_le_of_lt (rests_tr h (a := 0) (b := a) (c := b) (by omega) h1 h2).h1 (rests_tr h (a := 0) (b := a) (c := b) (by omega) h1 h2).h2))
  · by_cases e : b = lot.length + 1
    · subst e; rw [rests_last]; exact Int.le_refl _
    · have := rests_tr h (a := a) (b := b) (c := lot.length + 1) h1 (by omega) (by omega)
      have q1 := this.h3
      have q2 := this.h4
      omega
/-! ### no_sooner -/
structure NsZ where
  W : Wd
  lo : Option (List Int)
  prop : Int
  many : Int
structure NsOk (z : NsZ) : Prop where
  w : WOk z.W
  l : ∀ l, z.lo = some l → LotOk z.W l
  p : z.prop ∈ lotM z.W z.lo
  m : 1 ≤ z.many
def nsRs (z : NsZ) : List Int := restsM z.W (lotM z.W z.lo)
def nsAt (z : NsZ) : Nat := idxI z.prop (nsRs z)
def nsPairs (z : NsZ) : List (Nat × Nat) := pairsM (nsAt z) (nsRs z).length z.many
abbrev nsA (g : Pg) (z : NsZ) : List Ty := [tPlank g z.W, tD g.K (.list (z.W.wts.map wtD)), tD g.K (.int z.prop), tD g.K (.int z.many), tD g.K (lotD z.lo)]
abbrev nsRn (g : Pg) (z : NsZ) (T : Ty) : Prop := (∃ p ∈ nsPairs z, reasM z.W (nsRs z) (nsAt z) z.prop p = none) ∧ T = tD g.K .none
abbrev nsRo (g : Pg) (z : NsZ) (L : Addr) (T : Ty) (ts : List Ty) : Prop := (∀ p ∈ nsPairs z, reasM z.W (nsRs z) (nsAt z) z.prop p ≠ none) ∧ T = tAt L ∧ ts = ((nsPairs z).map (entD z.W (nsRs z) (nsAt z) z.prop)).map (tD g.K)
abbrev FnT_no_sooner (g : Pg) : Prop := FnK g "no_sooner" ["plank", "weights", "prop", "many", "lot"] 4 ["lot"] 39 (spO (α := {z : NsZ // NsOk z}) (fun z => nsA g z.1) (fun z => nsRn g z.1) (fun z => nsRo g z.1))
theorem sc_no_sooner : FnScope ["plank", "weights", "prop", "many", "lot", "loads", "begun", "spans", "rests", "at", "found", "low", "high", "reason"] ["plank", "weights", "prop", "many", "lot"] (defScope sNoSooner) := ⟨rfl, rfl, rfl, by decide +kernel, rfl, by decide +kernel, by decide +kernel⟩
abbrev nsD (g : Pg) (W : Wd) (lo : Option (List Int)) (prop many : Int) (d1 d2 d3 : Addr) (x : Option Ty) (y z w : Option Ty) : Sd := [some (tPlank g W), some (tD g.K (.list (W.wts.map wtD))), some (tD g.K (.int prop)), some (tD g.K (.int many)), some (tD g.K (lotD lo)), some (tLoads g W d1 d2), some (tD g.K (.tuple ((lotM W lo).map .int))), some (tSpans g W (lotM W lo) d1 d2 d3), some (tRs g.K (restsM W (lotM W lo))), some (tD g.K (.int (idxI prop (restsM W (lotM W lo)) : Nat))), x, y, z, w]
theorem fn_no_sooner {g : Pg} (T : Tx g) (F_begun_of : FnT_begun_of g) (F_check_prop : FnT_check_prop g) (F_check_from_one : FnT_check_from_one g) (M_Spans : MkT_Spans g) (F_pairs_about : FnT_pairs_about g) (F_is_over : FnT_Spans_is_over g) (F_all_go : FnT_Spans_all_go g 14) (F_settled_between : FnT_settled_between g) : FnT_no_sooner g := by
  refine T.fnK 48 35 (d := dNoSooner) rfl rfl rfl rfl [("lot", .non)] rfl (by simp) (fun D doc pm an cdv ct us ws l1 l2 => match us, l1, ws, l2 with | [_, _, _, _], _, [_], _ => rfl) fun fd F => fn_okO (k := 38) F sc_no_sooner (fun _ => rfl) fun cdv Ar outer s H z hr => ?_
  have nd := sc_no_sooner.nd
  obtain ⟨⟨W, lo, prop, many⟩, hw, hlo, hp, hm⟩ := z
  dsimp only at hw hlo hp hm
  have hlot := lotM_ok hlo
  have hll : (lotM W lo).length ≤ 12 := Nat.le_trans hlot.len hw.p12
  obtain ⟨hi1, hi2, hi3⟩ := rest_idx hlot hp
  have hix := idx_at hi1
  have hrl := rests_len W (lotM W lo)
  have eat : (restsM W (lotM W lo)).getD (idxI prop (restsM W (lotM W lo))) 0 = prop := by rw [List.getD_eq_getElem?_getD, hix.1]; rfl
  refine xbr_cons (xs_unpackM (xe_callN (F_begun_of.mono (by decide)) (fun _ => hr) ⟨(W, lo), hw, hlo⟩ (xa_cons (xe_name (i := 0) rfl) (xa_cons (xe_name (i := 1) rfl) (xa_cons (xe_name (i := 4) rfl) xa_nil)))) (fun ds => [some (tPlank g W), some (tD g.K (.list (W.wts.map wtD))), some (tD g.K (.int prop)), some (tD g.K (.int many)), some (tD g.K (lotD lo)), some (tLd g W ds), some (tD g.K (.tuple ((lotM W lo).map .int))), none, none, none, none, none, none, none]) (fun ds => xg_tupT2 (xg_name 5) (xg_name 6)) (fun ds hds => ?_) (fun jj => pg_tup rfl (pgs_cons (pg_nm 5 jj nd) (pgs_cons (pg_nm 6 jj nd) pgs_nil))))
  match ds, hds with
  | [d1, d2], _ =>
    show XBr g _ ⟨[some (tPlank g W), some (tD g.K (.list (W.wts.map wtD))), some (tD g.K (.int prop)), some (tD g.K (.int many)), some (tD g.K (lotD lo)), some (tLoads g W d1 d2), some (tD g.K (.tuple ((lotM W lo).map .int))), none, none, none, none, none, none, none], [], mmL g W d1 d2⟩ _ _ _
    refine xbr_cons (xs_expr (xe_call (F_check_prop.mono (by decide)) (fun _ => hr) ⟨(lotM W lo, prop), hp⟩ (xa_cons (xe_name (i := 6) rfl) (xa_cons (xe_name (i := 2) rfl) xa_nil)) (List.nil_sublist _)) ?_)
    refine xbr_cons (xs_expr (xe_call (F_check_from_one.mono (by decide)) (fun _ => hr) ⟨many, hm⟩ (xa_cons (xe_name (i := 3) rfl) xa_nil) (List.nil_sublist _)) ?_)
    refine xbr_cons (xs_setM 7 (xe_makeN (k := 37) (M_Spans.mono (by decide)) (fun _ => hr) ⟨⟨W, d1, d2, lotM W lo⟩, hw, hlot⟩ (xa_cons (xe_name (i := 5) rfl) (xa_cons (xe_name (i := 6) rfl) xa_nil)) rfl) (fun ds hds => ?_) nd)
    match ds, hds with
    | [d3], _ =>
      have hs : SpOk ⟨W, lotM W lo, d1, d2, d3⟩ := ⟨hw, hlot⟩
      show XBr g _ ⟨[some (tPlank g W), some (tD g.K (.list (W.wts.map wtD))), some (tD g.K (.int prop)), some (tD g.K (.int many)), some (tD g.K (lotD lo)), some (tLoads g W d1 d2), some (tD g.K (.tuple ((lotM W lo).map .int))), some (tSpans g W (lotM W lo) d1 d2 d3), none, none, none, none, none, none], [], mmS g ⟨W, lotM W lo, d1, d2, d3⟩⟩ _ _ _
      refine xbr_cons (xs_set 8 (fld_spans_rests T (xe_name (i := 7) rfl)) ?_ nd)
      refine xbr_cons (xs_set 9 (T := tD g.K (.int (idxI prop (restsM W (lotM W lo)) : Nat))) (xe_indexT hix.1 hix.2 (xe_name (i := 8) rfl) (xe_name (i := 2) rfl)) ?_ nd)
      refine xbr_cons (xs_nil 10 (fun la => ?_) nd)
      have w1 : idxI prop (restsM W (lotM W lo)) < (restsM W (lotM W lo)).length ∧ (restsM W (lotM W lo)).length ≤ 100 := ⟨by omega, by omega⟩
      have hpl : (pairsM (idxI prop (restsM W (lotM W lo))) (restsM W (lotM W lo)).length many).length ≤ 10000 := by
        refine Nat.le_trans (List.length_filter_le _ _) ?_
        rw [allP_len]
        exact Nat.le_trans (Nat.mul_le_mul (show _ ≤ 100 by omega) (show _ ≤ 100 by omega)) (by decide)
      refine xbr_cons (xs_forLW (pairsM (idxI prop (restsM W (lotM W lo))) (restsM W (lotM W lo)).length many) prD (fun n => ⟨nsD g W lo prop many d1 d2 d3 (some (tAt la)) none none none, [(la, .lst ((((pairsM (idxI prop (restsM W (lotM W lo))) (restsM W (lotM W lo)).length many).take n).map (entD W (restsM W (lotM W lo)) (idxI prop (restsM W (lotM W lo))) prop)).map (tD g.K)))], mmS g ⟨W, lotM W lo, d1, d2, d3⟩⟩)
        (fun n p => nsD g W lo prop many d1 d2 d3 (some (tAt la)) (some (tD g.K (.int (p.1 : Int)))) (some (tD g.K (.int (p.2 : Int)))) none)
        (fun n => ∀ p ∈ (pairsM (idxI prop (restsM W (lotM W lo))) (restsM W (lotM W lo)).length many).take n, reasM W (restsM W (lotM W lo)) (idxI prop (restsM W (lotM W lo))) prop p ≠ none) (by intro p hp; cases hp)
        (xe_call (F_pairs_about.mono (by decide)) (fun _ => hr) ⟨⟨restsM W (lotM W lo), idxI prop (restsM W (lotM W lo)), many⟩, w1⟩ (xa_cons (XE.dR (xe_name (i := 8) rfl)) (xa_cons (xe_name (i := 9) rfl) (xa_cons (xe_name (i := 3) rfl) xa_nil))) (List.nil_sublist _)) ⟨Le.refl _, rfl, rfl⟩ (fun n p hp => xg_tup2 (xg_name 11) (xg_name 12)) (fun n p hpn wn => ?_) (fun wn => ?_) (fun jj => pg_tup rfl (pgs_cons (pg_nm 11 jj nd) (pgs_cons (pg_nm 12 jj nd) pgs_nil))))
      · have hpm := List.mem_of_getElem? hpn
        obtain ⟨q1, q2, q3⟩ := allP_mem.mp (List.mem_filter.mp hpm).1
        rw [hrl] at q3
        have g1 : p.1 < (lotM W lo).length + 2 := by omega
        have v0 : SpOk ⟨W, lotM W lo, d1, d2, d3⟩ ∧ p.1 < idxI prop (restsM W (lotM W lo)) ∧ idxI prop (restsM W (lotM W lo)) < p.2 ∧ p.2 < (lotM W lo).length + 2 := ⟨hs, q1, q2, q3⟩
        have v1 : I2Ok 14 ⟨⟨W, lotM W lo, d1, d2, d3⟩, p.1, idxI prop (restsM W (lotM W lo))⟩ := ⟨hs, q1, show idxI prop (restsM W (lotM W lo)) < (lotM W lo).length + 2 by omega, show idxI prop (restsM W (lotM W lo)) - p.1 ≤ 14 by omega⟩
        have v2 : I2Ok 14 ⟨⟨W, lotM W lo, d1, d2, d3⟩, idxI prop (restsM W (lotM W lo)), p.2⟩ := ⟨hs, q2, q3, show p.2 - idxI prop (restsM W (lotM W lo)) ≤ 14 by omega⟩
        have b1 : BtOk W ((restsM W (lotM W lo)).getD p.1 0) (segM (restsM W (lotM W lo)) p.1 (idxI prop (restsM W (lotM W lo)))) prop := by
          have := seg_bt hlot q1 (show idxI prop (restsM W (lotM W lo)) < (lotM W lo).length + 2 by omega)
          rwa [eat] at this
        have b2 : BtOk W prop (segM (restsM W (lotM W lo)) (idxI prop (restsM W (lotM W lo))) p.2) ((restsM W (lotM W lo)).getD p.2 0) := by
          have := seg_bt hlot q2 q3
          rwa [eat] at this
        have te : ∀ {C : Ct} {M : Ml} {δ : Sd} {e : Expr}, XE g C M δ e (tD g.K (.int ((idxI prop (restsM W (lotM W lo)) : Nat) : Int))) → XE g C M δ e (tD g.K (.int ((idxI prop (restsM W (lotM W lo)) : Nat) : Int))) := fun h => h
        have t1 : ∀ {b : Bool}, (!b) = true → b = false := fun h => by simpa using h
        have t0 : ∀ {b : Bool}, (!b) = false → b = true := fun h => by simpa using h
        have ixl := rests_at (W := W) (lot := lotM W lo) g1
        have ixh := rests_at (W := W) (lot := lotM W lo) q3
        cases hrs : reasM W (restsM W (lotM W lo)) (idxI prop (restsM W (lotM W lo))) prop p with
        | none =>
          unfold reasM at hrs
          by_cases c1 : ovN W (restsM W (lotM W lo)) p.1 (idxI prop (restsM W (lotM W lo))) p.2 = false
          · rw [if_pos c1] at hrs; cases hrs
          rw [if_neg c1] at hrs
          by_cases c2 : goM W (restsM W (lotM W lo)) p.1 (idxI prop (restsM W (lotM W lo))) = false
          · rw [if_pos c2] at hrs; cases hrs
          rw [if_neg c2] at hrs
          by_cases c3 : goM W (restsM W (lotM W lo)) (idxI prop (restsM W (lotM W lo))) p.2 = false
          · rw [if_pos c3] at hrs; cases hrs
          refine xb_cons (xs_if (xt_not (xt_val (xe_meth (F_is_over.mono (by decide)) T.clS (fun _ => hr) ⟨⟨⟨W, lotM W lo, d1, d2, d3⟩, p.1, (idxI prop (restsM W (lotM W lo))), p.2⟩, v0⟩ (xe_name (i := 7) rfl) spans_at (xa_cons (xe_name (i := 11) rfl) (xa_cons (xe_name (i := 9) rfl) (xa_cons (xe_name (i := 12) rfl) xa_nil))) rfl (List.Sublist.refl _)))) (fun hb => absurd (t1 hb) c1) (fun hb => ?_))
          refine xb_one (xs_if (xt_not (xt_val (xe_meth F_all_go T.clS (fun _ => hr) ⟨⟨⟨W, lotM W lo, d1, d2, d3⟩, p.1, (idxI prop (restsM W (lotM W lo)))⟩, v1⟩ (xe_name (i := 7) rfl) spans_at (xa_cons (xe_name (i := 11) rfl) (xa_cons (xe_name (i := 9) rfl) xa_nil)) rfl (List.Sublist.refl _)))) (fun hb => absurd (t1 hb) c2) (fun hb => ?_))
          refine xb_one (xs_if (xt_not (xt_val (xe_meth F_all_go T.clS (fun _ => hr) ⟨⟨⟨W, lotM W lo, d1, d2, d3⟩, (idxI prop (restsM W (lotM W lo))), p.2⟩, v2⟩ (xe_name (i := 7) rfl) spans_at (xa_cons (xe_name (i := 9) rfl) (xa_cons (xe_name (i := 12) rfl) xa_nil)) rfl (List.Sublist.refl _)))) (fun hb => absurd (t1 hb) c3) (fun hb => ?_))
          refine xb_one (xs_ret xe_non ⟨⟨p, hpm, ?_⟩, rfl⟩)
          show reasM W (restsM W (lotM W lo)) (idxI prop (restsM W (lotM W lo))) prop p = none
          unfold reasM
          rw [if_neg c1, if_neg c2, if_neg c3]
        | some r =>
          refine xb_to ⟨nsD g W lo prop many d1 d2 d3 (some (tAt la)) (some (tD g.K (.int (p.1 : Int)))) (some (tD g.K (.int (p.2 : Int)))) (some (tD g.K (rsnD r))), [(la, .lst ((((pairsM (idxI prop (restsM W (lotM W lo))) (restsM W (lotM W lo)).length many).take n).map (entD W (restsM W (lotM W lo)) (idxI prop (restsM W (lotM W lo))) prop)).map (tD g.K)))], mmS g ⟨W, lotM W lo, d1, d2, d3⟩⟩ ?_ ?_
          · have hr2 := hrs
            unfold reasM at hr2
            by_cases c1 : ovN W (restsM W (lotM W lo)) p.1 (idxI prop (restsM W (lotM W lo))) p.2 = false
            · rw [if_pos c1] at hr2
              obtain rfl := Option.some.inj hr2
              refine xs_if (xt_not (xt_val (xe_meth (F_is_over.mono (by decide)) T.clS (fun _ => hr) ⟨⟨⟨W, lotM W lo, d1, d2, d3⟩, p.1, (idxI prop (restsM W (lotM W lo))), p.2⟩, v0⟩ (xe_name (i := 7) rfl) spans_at (xa_cons (xe_name (i := 11) rfl) (xa_cons (xe_name (i := 9) rfl) (xa_cons (xe_name (i := 12) rfl) xa_nil))) rfl (List.Sublist.refl _)))) (fun hb => ?_) (fun hb => absurd (show ovN W (restsM W (lotM W lo)) p.1 (idxI prop (restsM W (lotM W lo))) p.2 = true from t0 hb) (by rw [c1]; exact Bool.false_ne_true))
              exact xb_one (xs_set 13 (T := tD g.K (rsnD .bears)) (xe_tupD (ds := [.str "bears"]) (xa_cons xe_str xa_nil)) ⟨Le.refl _, rfl, rfl⟩ nd)
            rw [if_neg c1] at hr2
            refine xs_if (xt_not (xt_val (xe_meth (F_is_over.mono (by decide)) T.clS (fun _ => hr) ⟨⟨⟨W, lotM W lo, d1, d2, d3⟩, p.1, (idxI prop (restsM W (lotM W lo))), p.2⟩, v0⟩ (xe_name (i := 7) rfl) spans_at (xa_cons (xe_name (i := 11) rfl) (xa_cons (xe_name (i := 9) rfl) (xa_cons (xe_name (i := 12) rfl) xa_nil))) rfl (List.Sublist.refl _)))) (fun hb => absurd (t1 hb) c1) (fun hb => ?_)
            by_cases c2 : goM W (restsM W (lotM W lo)) p.1 (idxI prop (restsM W (lotM W lo))) = false
            · rw [if_pos c2] at hr2
              obtain rfl := Option.some.inj hr2
              refine xb_one (xs_if (xt_not (xt_val (xe_meth F_all_go T.clS (fun _ => hr) ⟨⟨⟨W, lotM W lo, d1, d2, d3⟩, p.1, (idxI prop (restsM W (lotM W lo)))⟩, v1⟩ (xe_name (i := 7) rfl) spans_at (xa_cons (xe_name (i := 11) rfl) (xa_cons (xe_name (i := 9) rfl) xa_nil)) rfl (List.Sublist.refl _)))) (fun hb => ?_) (fun hb => absurd (show goM W (restsM W (lotM W lo)) p.1 (idxI prop (restsM W (lotM W lo))) = true from t0 hb) (by rw [c2]; exact Bool.false_ne_true)))
              exact xb_one (xs_set 13 (T := tD g.K (rsnD (.left (setB W ((restsM W (lotM W lo)).getD p.1 0) (segM (restsM W (lotM W lo)) p.1 (idxI prop (restsM W (lotM W lo)))) prop)))) (xe_tupD (ds := [.str "left", .tuple ((setB W ((restsM W (lotM W lo)).getD p.1 0) (segM (restsM W (lotM W lo)) p.1 (idxI prop (restsM W (lotM W lo)))) prop).map .int)]) (xa_cons xe_str (xa_cons (xe_ixT (ds := [.list ((setM W ((restsM W (lotM W lo)).getD p.1 0) prop (segM (restsM W (lotM W lo)) p.1 (idxI prop (restsM W (lotM W lo)))).length (segM (restsM W (lotM W lo)) p.1 (idxI prop (restsM W (lotM W lo))))).1.map .int), .tuple ((setB W ((restsM W (lotM W lo)).getD p.1 0) (segM (restsM W (lotM W lo)) p.1 (idxI prop (restsM W (lotM W lo)))) prop).map .int)]) rfl (xe_call (F_settled_between.mono (by decide)) (fun _ => hr) ⟨⟨W, d1, d2, (restsM W (lotM W lo)).getD p.1 0, segM (restsM W (lotM W lo)) p.1 (idxI prop (restsM W (lotM W lo))), prop⟩, hw, b1⟩ (xa_cons (xe_name (i := 5) rfl) (xa_cons (xe_ixT ixl (XE.dR (xe_name (i := 8) rfl)) (xe_name (i := 11) rfl)) (xa_cons (XE.toD (xe_slT (XE.dR (xe_name (i := 8) rfl)) (xo_some (xe_add (xe_name (i := 11) rfl) xe_int)) (xo_some (xe_name (i := 9) rfl))) (cut_seg _ q1 (by omega))) (xa_cons (xe_name (i := 2) rfl) xa_nil)))) (mmS_sub ⟨W, lotM W lo, d1, d2, d3⟩)) xe_int) xa_nil))) ⟨Le.refl _, rfl, rfl⟩ nd)
            rw [if_neg c2] at hr2
            refine xb_one (xs_if (xt_not (xt_val (xe_meth F_all_go T.clS (fun _ => hr) ⟨⟨⟨W, lotM W lo, d1, d2, d3⟩, p.1, (idxI prop (restsM W (lotM W lo)))⟩, v1⟩ (xe_name (i := 7) rfl) spans_at (xa_cons (xe_name (i := 11) rfl) (xa_cons (xe_name (i := 9) rfl) xa_nil)) rfl (List.Sublist.refl _)))) (fun hb => absurd (t1 hb) c2) (fun hb => ?_))
            by_cases c3 : goM W (restsM W (lotM W lo)) (idxI prop (restsM W (lotM W lo))) p.2 = false
            · rw [if_pos c3] at hr2
              obtain rfl := Option.some.inj hr2
              refine xb_one (xs_if (xt_not (xt_val (xe_meth F_all_go T.clS (fun _ => hr) ⟨⟨⟨W, lotM W lo, d1, d2, d3⟩, (idxI prop (restsM W (lotM W lo))), p.2⟩, v2⟩ (xe_name (i := 7) rfl) spans_at (xa_cons (xe_name (i := 9) rfl) (xa_cons (xe_name (i := 12) rfl) xa_nil)) rfl (List.Sublist.refl _)))) (fun hb => ?_) (fun hb => absurd (show goM W (restsM W (lotM W lo)) (idxI prop (restsM W (lotM W lo))) p.2 = true from t0 hb) (by rw [c3]; exact Bool.false_ne_true)))
              exact xb_one (xs_set 13 (T := tD g.K (rsnD (.right (setB W prop (segM (restsM W (lotM W lo)) (idxI prop (restsM W (lotM W lo))) p.2) ((restsM W (lotM W lo)).getD p.2 0))))) (xe_tupD (ds := [.str "right", .tuple ((setB W prop (segM (restsM W (lotM W lo)) (idxI prop (restsM W (lotM W lo))) p.2) ((restsM W (lotM W lo)).getD p.2 0)).map .int)]) (xa_cons xe_str (xa_cons (xe_ixT (ds := [.list ((setM W prop ((restsM W (lotM W lo)).getD p.2 0) (segM (restsM W (lotM W lo)) (idxI prop (restsM W (lotM W lo))) p.2).length (segM (restsM W (lotM W lo)) (idxI prop (restsM W (lotM W lo))) p.2)).1.map .int), .tuple ((setB W prop (segM (restsM W (lotM W lo)) (idxI prop (restsM W (lotM W lo))) p.2) ((restsM W (lotM W lo)).getD p.2 0)).map .int)]) rfl (xe_call (F_settled_between.mono (by decide)) (fun _ => hr) ⟨⟨W, d1, d2, prop, segM (restsM W (lotM W lo)) (idxI prop (restsM W (lotM W lo))) p.2, (restsM W (lotM W lo)).getD p.2 0⟩, hw, b2⟩ (xa_cons (xe_name (i := 5) rfl) (xa_cons (xe_name (i := 2) rfl) (xa_cons (XE.toD (xe_slT (XE.dR (xe_name (i := 8) rfl)) (xo_some (xe_add (xe_name (i := 9) rfl) xe_int)) (xo_some (xe_name (i := 12) rfl))) (cut_seg _ q2 (by omega))) (xa_cons (xe_ixT ixh (XE.dR (xe_name (i := 8) rfl)) (xe_name (i := 12) rfl)) xa_nil)))) (mmS_sub ⟨W, lotM W lo, d1, d2, d3⟩)) xe_int) xa_nil))) ⟨Le.refl _, rfl, rfl⟩ nd)
            rw [if_neg c3] at hr2
            cases hr2
          · refine xb_one (xs_app (i := 10) (O1 := []) (O2 := []) rfl rfl (T := tD g.K (.tuple [.int ((restsM W (lotM W lo)).getD p.1 0), .int ((restsM W (lotM W lo)).getD p.2 0), rsnD r])) (xe_tupD (ds := [.int ((restsM W (lotM W lo)).getD p.1 0), .int ((restsM W (lotM W lo)).getD p.2 0), rsnD r]) (xa_cons (xe_ixT ixl (XE.dR (xe_name (i := 8) rfl)) (xe_name (i := 11) rfl)) (xa_cons (xe_ixT ixh (XE.dR (xe_name (i := 8) rfl)) (xe_name (i := 12) rfl)) (xa_cons (xe_name (i := 13) rfl) xa_nil)))) ?_ ⟨fun p' hp' => ?_, ⟨.is (.is (.is (.is (.is (.is (.is (.is (.is (.is (.is (.no (.no (.no .nil))))))))))))), ?_, rfl⟩⟩)
            · rw [List.length_map, List.length_map, List.length_take]
              omega
            · rw [take_more hpn] at hp'
              rcases List.mem_append.mp hp' with hp' | hp'
              · exact wn p' hp'
              · rw [List.mem_singleton.mp hp', hrs]
                exact fun z => nomatch z
            · show [(la, Kd.lst _)] = [(la, Kd.lst _)]
              rw [take_more hpn, List.map_append, List.map_append]
              have e9 : entD W (restsM W (lotM W lo)) (idxI prop (restsM W (lotM W lo))) prop p = .tuple [.int ((restsM W (lotM W lo)).getD p.1 0), .int ((restsM W (lotM W lo)).getD p.2 0), rsnD r] := by
                unfold entD
                rw [hrs]
                rfl
              show _ = [(la, Kd.lst (_ ++ [tD g.K (entD W (restsM W (lotM W lo)) (idxI prop (restsM W (lotM W lo))) prop p)]))]
              rw [e9]
      · rw [List.take_length] at wn
        refine xbr_own (xe_name (i := 10) rfl) rfl ⟨wn, rfl, ?_⟩
        rw [List.take_length]
        rfl
end Pf
end
section
set_option Elab.async false
set_option linter.all false
set_option maxRecDepth 100000
set_option maxHeartbeats 2000000
set_option exponentiation.threshold 5000
set_option pp.maxSteps 1200
namespace Pf
open PySem PySem.Spec PyProof.Rows L2 RZ
structure RdOk (c : PyData) : Prop where
  sh : Sh 10 c
  lot : ∀ s l, c = .tuple [.str s, l] → s = "left" ∨ s = "right" → ∃ ds, l = .tuple ds ∧ ds.length ≤ 1000
/-- the half of is_reason that looks at a lot -/
def lotOkM (W : Wd) (some : List Int) (lo hi : Int) (ds : List PyData) : Bool := (isLotM W ds && !ds.isEmpty) && ((intsOf ds).all (fun i => decide (i ∈ btwM some lo hi)) && (obM W lo (intsOf ds) hi).isEmpty)
def isReasM (W : Wd) (some : List Int) (prop l r : Int) (c : PyData) : Bool :=
  if PyData.eqv c (.tuple [.str "bears"]) = true then !overB W l prop r
  else match c with
    | .tuple [.str s, .tuple ds] => if s = "left" then lotOkM W some l prop ds else if s = "right" then lotOkM W some prop r ds else false
    | _ => false
structure IrZ where
  W : Wd
  d1 : Addr
  d2 : Addr
  some : List Int
  prop : Int
  l : Int
  r : Int
  c : PyData
structure IrOk (z : IrZ) : Prop where
  w : WOk z.W
  t : TrOk z.W z.l z.prop z.r
  c : RdOk z.c
  s : z.some.length ≤ 1000
abbrev FnT_is_reason (g : Pg) : Prop := Fn g "is_reason" ["loads", "some", "prop", "told"] 9 (spM (α := {z : IrZ // IrOk z}) (fun z => mmL g z.1.W z.1.d1 z.1.d2) (fun z => [tLoads g z.1.W z.1.d1 z.1.d2, tD g.K (.tuple (z.1.some.map .int)), tD g.K (.int z.1.prop), tD g.K (.tuple [.int z.1.l, .int z.1.r, z.1.c])]) (fun z => tD g.K (.bool (isReasM z.1.W z.1.some z.1.prop z.1.l z.1.r z.1.c))))
theorem sc_is_reason : FnScope ["loads", "some", "prop", "told", "plank", "left", "right", "reason", "side", "lot", "low", "high"] ["loads", "some", "prop", "told"] (defScope sIsReason) := ⟨rfl, rfl, rfl, by decide +kernel, rfl, by decide +kernel, by decide +kernel⟩
theorem btw_bt {W : Wd} {some ns : List Int} {lo hi : Int} (h1 : -1 ≤ lo) (h2 : hi ≤ W.props.length) (h3 : lo < hi) (ha : ascB ns = true) (hb : (ns.all fun i => decide (i ∈ btwM some lo hi)) = true) : BtOk W lo ns hi := by
  have hm : ∀ i ∈ ns, lo < i ∧ i < hi := fun i hi' => by
    have := of_decide_eq_true (List.all_eq_true.mp hb i hi')
    have := (List.mem_filter.mp this).2
    rw [Bool.and_eq_true, decide_eq_true_eq, decide_eq_true_eq] at this
    exact this
  refine ⟨h1, h2, ?_⟩
  refine List.pairwise_cons.mpr ⟨fun i hi' => ?_, List.pairwise_append.mpr ⟨ascB_pw ha, by simp, fun a ha b hb => ?_⟩⟩
  · rcases List.mem_append.mp hi' with h | h
    · exact (hm i h).1
    · have : i = hi := by simpa using h
      omega
  · have : b = hi := by simpa using hb
    have := (hm a ha).2
    omega
theorem eqv_bears2 (x y : PyData) : PyData.eqv (.tuple [x, y]) (.tuple [.str "bears"]) = false := by
  show (PyData.eqv x (.str "bears") && false) = false
  exact Bool.and_false _
theorem isTy_str (d : PyData) : isTy "str" d = (match d with | .str _ => true | _ => false) := by unfold isTy; cases d <;> simp only [tyName] <;> decide +kernel
theorem isTy_tuple (d : PyData) : isTy "tuple" d = (match d with | .tuple _ => true | _ => false) := by unfold isTy; cases d <;> simp only [tyName] <;> decide +kernel
theorem isTy_list (d : PyData) : isTy "list" d = (match d with | .list _ => true | _ => false) := by unfold isTy; cases d <;> simp only [tyName] <;> decide +kernel
/-- what is_reason does with the reasons that are no pairs with a text ahead -/
theorem isReas_other {W : Wd} {some : List Int} {prop l r : Int} {c : PyData} (h : PyData.eqv c (.tuple [.str "bears"]) = false) (h2 : ∀ s y, c ≠ .tuple [.str s, y]) : isReasM W some prop l r c = false := by
  unfold isReasM
  rw [if_neg (by rw [h]; exact Bool.false_ne_true)]
  split
  · rename_i s ds
    exact absurd rfl (h2 s (.tuple ds))
  · rfl
theorem strOk_lr : PyData.canLay0 (.str "left") = true ∧ PyData.canLay0 (.str "right") = true := by decide +kernel
theorem inV_lr (s : Str) : inV (.str s) ((["left", "right"] : List Str).map V.str) = (decide (s = "left") || decide (s = "right")) := by
  show ((("left" : Str) == s) || ((("right" : Str) == s) || false)) = _
  rw [Bool.or_false]
  have h1 : (("left" : Str) == s) = decide (s = "left") := by
    by_cases h : s = "left"
    · subst h; simp
    · have h' : ¬ ("left" : Str) = s := fun z => h z.symm
      simp [h, h']
  have h2 : (("right" : Str) == s) = decide (s = "right") := by
    by_cases h : s = "right"
    · subst h; simp
    · have h' : ¬ ("right" : Str) = s := fun z => h z.symm
      simp [h, h']
  rw [h1, h2]
theorem lot_of_ints {W : Wd} {ds : List PyData} (h : isLotM W ds = true) : ∃ ns : List Int, ds = ns.map .int ∧ ascB ns = true ∧ intsOf ds = ns := by
  unfold isLotM at h
  rw [Bool.and_eq_true] at h
  obtain ⟨ns, rfl, _⟩ := lot_ints h.1
  have h2 := h.2
  rw [intsOf_map] at h2
  exact ⟨ns, rfl, h2, intsOf_map ns⟩
theorem shb : SeqAt.shaped (.tuple [.str "bears"]) = true := by decide +kernel
theorem fn_is_reason {g : Pg} (T : Tx g) (F_is_overlaid : FnT_Loads_is_overlaid g) (F_is_lot : FnT_is_lot g) (F_is_within : FnT_is_within g) (F_between : FnT_between g) (F_overlaid_between : FnT_overlaid_between g) : FnT_is_reason g := by
  refine T.fn 49 36 (k := 8) (d := dIsReason) rfl rfl rfl rfl rfl sc_is_reason (fun _ => rfl) (fun _ _ _ _ _ _ us hl => match us, hl with | [_, _, _, _], _ => rfl) fun cdv Ar outer s H z hr => ?_
  have nd := sc_is_reason.nd
  obtain ⟨⟨W, d1, d2, sm, prop, l, r, c⟩, hw, ht, hc, hs⟩ := z
  dsimp only at hw ht hc hs
  have w0 : WOk W ∧ TrOk W l prop r := ⟨hw, ht⟩
  show XB g _ ⟨[some (tLoads g W d1 d2), some (tD g.K (.tuple (sm.map .int))), some (tD g.K (.int prop)), some (tD g.K (.tuple [.int l, .int r, c])), none, none, none, none, none, none, none, none], [], mmL g W d1 d2⟩ _ { nx := fun _ => tD g.K .none = tD g.K (.bool (isReasM W sm prop l r c)), rt := fun T => T = tD g.K (.bool (isReasM W sm prop l r c)) }
  refine xb_cons (xs_set 4 (fld_loads_plank T (xe_name (i := 0) rfl)) ?_ nd)
  refine xb_cons (xs_unpack (T := tD g.K (.tuple [.int l, .int r, c])) (xe_name (i := 3) rfl) (xg_tup3 (xg_name 5) (xg_name 6) (xg_name 7)) ?_ (fun jj => pg_tup rfl (pgs_cons (pg_nm 5 jj nd) (pgs_cons (pg_nm 6 jj nd) (pgs_cons (pg_nm 7 jj nd) pgs_nil)))))
  refine xb_cons (xs_if (xt_eqD (fun _ => hr) hc.sh.ok shb (xe_name (i := 7) rfl) (xe_tupD (ds := [.str "bears"]) (xa_cons xe_str xa_nil))) (fun hb => ?_) (fun hb => ?_))
  · refine xb_one (xs_ret (T := tD g.K (.bool (isReasM W sm prop l r c))) (XE.toD (xe_not (xe_meth (F_is_overlaid.mono (by decide)) T.clL (fun _ => hr) ⟨⟨W, d1, d2, l, prop, r⟩, w0⟩ (xe_name (i := 0) rfl) loads_at (xa_cons (xe_name (i := 5) rfl) (xa_cons (xe_name (i := 2) rfl) (xa_cons (xe_name (i := 6) rfl) xa_nil))) rfl (List.Sublist.refl _))) ?_) rfl)
    unfold isReasM
    rw [if_pos hb]
  · refine xb_nil ?_
    have FALSE : ∀ {q : Sta} {C : Ct} {P : Po} {p1 p2 j}, isReasM W sm prop l r c = false → P.rt (tD g.K (.bool (isReasM W sm prop l r c))) → XB g C q [.Return (some (.Constant (.bool false) j p1)) p2] P := fun h k => xb_one (xs_ret xe_bl (by rw [h] at k; exact k))
    by_cases hsy : ∃ s y, c = .tuple [.str s, y]
    · obtain ⟨s, y, rfl⟩ := hsy
      refine xb_cons (xs_if (XW.t (xw_or (xt_not (xt_val (xe_isi (kit_tuple _) (T.free 90 rfl) (T.free 94 rfl) (by decide +kernel) (xe_name (i := 7) rfl)))) fun hb => (xw_or (xt_neI (xe_lenT (T.free 91 rfl) (xe_name (i := 7) rfl)) xe_int) fun hb => (xw_or1 (xt_not (xt_val (xe_isi (kit_str _) (T.free 90 rfl) (T.free 107 rfl) (by decide +kernel) (xe_ixT (d := .str s) rfl (xe_name (i := 7) rfl) xe_int)))))))) (fun hb => absurd hb (by simp [isTy_tt, isTy_str])) (fun hb => ?_))
      refine xb_nil ?_
      refine xb_cons (xs_unpack (T := tD g.K (.tuple [.str s, y])) (xe_name (i := 7) rfl) (xg_tup2 (xg_name 8) (xg_name 9)) ?_ (fun jj => pg_tup rfl (pgs_cons (pg_nm 8 jj nd) (pgs_cons (pg_nm 9 jj nd) pgs_nil))))
      by_cases hlr : s = "left" ∨ s = "right"
      · obtain ⟨ds, rfl, hds⟩ := hc.lot s y rfl hlr
        have hin : inV (.str s) ((["left", "right"] : List Str).map V.str) = true := by
          rw [inV_lr]
          rcases hlr with h | h
          · rw [h]; rfl
          · rw [h]; rfl
        have shd : Sh 9 (.tuple ds) := by
          refine ⟨?_, ?_⟩
          · have := hc.sh.lay
            have h2 : (PyData.canLay0 (.str s) && (PyData.canLay0 (.tuple ds) && true)) = true := this
            rw [Bool.and_eq_true, Bool.and_true] at h2
            exact h2.2
          · have := hc.sh.dep
            have h2 : max (PyData.depth (.str s)) (max (PyData.depth (.tuple ds)) 0) + 1 ≤ 10 := this
            omega
        have wl : ((W, ds) : Wd × List PyData).2.length ≤ 1000 := hds
        refine xb_cons (xs_if (XW.t (xw_or (xt_niST (ss := ["left", "right"]) (xe_name (i := 8) rfl) (xe_tupD (ds := [.str "left", .str "right"]) (xa_cons xe_str (xa_cons xe_str xa_nil)))) fun hb => (xw_or (xt_not (xt_val (xe_call (F_is_lot.mono (by decide)) (fun _ => hr) ⟨(W, ds), wl⟩ (xa_cons (xe_name (i := 4) rfl) (xa_cons (xe_name (i := 9) rfl) xa_nil)) (List.nil_sublist _)))) fun hb => (xw_or1 (xt_eqD (fun _ => hr) shd.ok (by rfl) (xe_name (i := 9) rfl) (xe_tupD (ds := []) xa_nil)))))) (fun hb => ?_) (fun hb => ?_))
        · refine FALSE ?_ rfl
          have hb' : (!(inV (.str s) ((["left", "right"] : List Str).map V.str)) || (!isLotM W ds || PyData.eqv (.tuple ds) (.tuple []))) = true := hb
          rw [hin, eqv_nilT] at hb'
          have h3 : (isLotM W ds && !ds.isEmpty) = false := by
            cases q1 : isLotM W ds <;> cases q2 : ds.isEmpty <;> simp [q1, q2] at hb' ⊢
          unfold isReasM
          rw [if_neg (by rw [eqv_bears2]; exact Bool.false_ne_true)]
          show (if s = "left" then lotOkM W sm l prop ds else if s = "right" then lotOkM W sm prop r ds else false) = false
          unfold lotOkM
          rw [h3]
          simp
        · refine xb_nil ?_
          have hb' : (!(inV (.str s) ((["left", "right"] : List Str).map V.str)) || (!isLotM W ds || PyData.eqv (.tuple ds) (.tuple []))) = false := hb
          rw [hin, eqv_nilT] at hb'
          have h3 : isLotM W ds = true := by
            cases q1 : isLotM W ds <;> simp [q1] at hb' ⊢
          have h4 : ds.isEmpty = false := by
            cases q2 : ds.isEmpty <;> simp [q2] at hb' ⊢
          obtain ⟨ns, rfl, ha, hi⟩ := lot_of_ints h3
          have hns : ns.length ≤ 1000 := by simpa using hds
          rcases hlr with rfl | rfl
          · refine xb_cons (xs_unpack (T := tD g.K (.tuple [.int l, .int prop])) (xe_if (xt_eqD (fun _ => hr) (by decide +kernel) (by decide +kernel) (xe_name (i := 8) rfl) xe_str) (fun hb => xe_tupD (ds := [.int l, .int prop]) (xa_cons (xe_name (i := 5) rfl) (xa_cons (xe_name (i := 2) rfl) xa_nil))) (fun hb => absurd hb (by decide +kernel))) (xg_tup2 (xg_name 10) (xg_name 11)) ?_ (fun jj => pg_tup rfl (pgs_cons (pg_nm 10 jj nd) (pgs_cons (pg_nm 11 jj nd) pgs_nil))))
            have w1 : ((ns, btwM sm l prop) : List Int × List Int).1.length ≤ 1000 := hns
            have w2 : ((sm, l, prop) : List Int × Int × Int).1.length ≤ 1000 := hs
            have w3 : (ns.all fun i => decide (i ∈ btwM sm l prop)) = true → WOk W ∧ BtOk W l ns prop := fun h => ⟨hw, btw_bt ht.h1 (by have := ht.h3; have := ht.h4; omega) ht.h2 ha h⟩
            refine xb_one (xs_ret (T := tD g.K (.bool (isReasM W sm prop l r (.tuple [.str "left", .tuple (ns.map .int)])))) (XE.toD (xe_and (kb := (obM W l ns prop).isEmpty) (xe_call (F_is_within.mono (by decide)) (fun _ => hr) ⟨(ns, btwM sm l prop), w1⟩ (xa_cons (xe_name (i := 9) rfl) (xa_cons (xe_call (F_between.mono (by decide)) (fun _ => hr) ⟨(sm, l, prop), w2⟩ (xa_cons (xe_name (i := 1) rfl) (xa_cons (xe_name (i := 10) rfl) (xa_cons (xe_name (i := 11) rfl) xa_nil))) (List.nil_sublist _)) xa_nil)) (List.nil_sublist _))
              fun hb => xe_one (XE.toD (xe_eqD (fun _ => hr) (sh_intl _).ok (by rfl) (xe_call (F_overlaid_between.mono (by decide)) (fun _ => hr) ⟨⟨W, d1, d2, l, ns, prop⟩, w3 hb⟩ (xa_cons (xe_name (i := 0) rfl) (xa_cons (xe_name (i := 10) rfl) (xa_cons (xe_name (i := 9) rfl) (xa_cons (xe_name (i := 11) rfl) xa_nil)))) (List.Sublist.refl _)) (xe_lstD (ds := []) xa_nil)) (by rw [eqv_nil]; cases obM W l ns prop <;> rfl))) ?_) rfl)
            unfold isReasM
            rw [if_neg (by rw [eqv_bears2]; exact Bool.false_ne_true)]
            show _ = PyData.bool (if ("left" : Str) = "left" then lotOkM W sm l prop (ns.map .int) else _)
            rw [if_pos rfl]
            unfold lotOkM
            rw [h3, h4, hi]
            rfl
          · refine xb_cons (xs_unpack (T := tD g.K (.tuple [.int prop, .int r])) (xe_if (xt_eqD (fun _ => hr) (by decide +kernel) (by decide +kernel) (xe_name (i := 8) rfl) xe_str) (fun hb => absurd hb (by decide +kernel)) (fun hb => xe_tupD (ds := [.int prop, .int r]) (xa_cons (xe_name (i := 2) rfl) (xa_cons (xe_name (i := 6) rfl) xa_nil)))) (xg_tup2 (xg_name 10) (xg_name 11)) ?_ (fun jj => pg_tup rfl (pgs_cons (pg_nm 10 jj nd) (pgs_cons (pg_nm 11 jj nd) pgs_nil))))
            have w1 : ((ns, btwM sm prop r) : List Int × List Int).1.length ≤ 1000 := hns
            have w2 : ((sm, prop, r) : List Int × Int × Int).1.length ≤ 1000 := hs
            have w3 : (ns.all fun i => decide (i ∈ btwM sm prop r)) = true → WOk W ∧ BtOk W prop ns r := fun h => ⟨hw, btw_bt (by have := ht.h1; have := ht.h2; omega) ht.h4 ht.h3 ha h⟩
            refine xb_one (xs_ret (T := tD g.K (.bool (isReasM W sm prop l r (.tuple [.str "right", .tuple (ns.map .int)])))) (XE.toD (xe_and (kb := (obM W prop ns r).isEmpty) (xe_call (F_is_within.mono (by decide)) (fun _ => hr) ⟨(ns, btwM sm prop r), w1⟩ (xa_cons (xe_name (i := 9) rfl) (xa_cons (xe_call (F_between.mono (by decide)) (fun _ => hr) ⟨(sm, prop, r), w2⟩ (xa_cons (xe_name (i := 1) rfl) (xa_cons (xe_name (i := 10) rfl) (xa_cons (xe_name (i := 11) rfl) xa_nil))) (List.nil_sublist _)) xa_nil)) (List.nil_sublist _))
              fun hb => xe_one (XE.toD (xe_eqD (fun _ => hr) (sh_intl _).ok (by rfl) (xe_call (F_overlaid_between.mono (by decide)) (fun _ => hr) ⟨⟨W, d1, d2, prop, ns, r⟩, w3 hb⟩ (xa_cons (xe_name (i := 0) rfl) (xa_cons (xe_name (i := 10) rfl) (xa_cons (xe_name (i := 9) rfl) (xa_cons (xe_name (i := 11) rfl) xa_nil)))) (List.Sublist.refl _)) (xe_lstD (ds := []) xa_nil)) (by rw [eqv_nil]; cases obM W prop ns r <;> rfl))) ?_) rfl)
            unfold isReasM
            rw [if_neg (by rw [eqv_bears2]; exact Bool.false_ne_true)]
            show _ = PyData.bool (if ("right" : Str) = "left" then _ else if ("right" : Str) = "right" then lotOkM W sm prop r (ns.map .int) else _)
            rw [if_neg (by decide), if_pos rfl]
            unfold lotOkM
            rw [h3, h4, hi]
            rfl
      · have hin : inV (.str s) ((["left", "right"] : List Str).map V.str) = false := by
          rw [inV_lr]
          rw [decide_eq_false (fun h => hlr (.inl h)), decide_eq_false (fun h => hlr (.inr h))]
          rfl
        refine xb_cons (xs_if (XW.t (xw_or (kb := false) (xt_niST (ss := ["left", "right"]) (xe_name (i := 8) rfl) (xe_tupD (ds := [.str "left", .str "right"]) (xa_cons xe_str (xa_cons xe_str xa_nil)))) fun hb => absurd (show (!inV (.str s) ((["left", "right"] : List Str).map V.str)) = false from hb) (by rw [hin]; exact fun z => nomatch z))) (fun hb => ?_) (fun hb => absurd (show ((!inV (.str s) ((["left", "right"] : List Str).map V.str)) || false) = false from hb) (by rw [hin]; exact fun z => nomatch z)))
        refine FALSE ?_ rfl
        unfold isReasM
        rw [if_neg (by rw [eqv_bears2]; exact Bool.false_ne_true)]
        split
        · rename_i s' ds' e
          injection e with e
          injection e with e1 e2
          injection e1 with e1
          subst e1
          rw [if_neg (fun h => hlr (.inl h)), if_neg (fun h => hlr (.inr h))]
        · rfl
    · have hF : isReasM W sm prop l r c = false := isReas_other hb fun s y e => hsy ⟨s, y, e⟩
      by_cases htu : ∃ ds, c = .tuple ds
      · obtain ⟨ds, rfl⟩ := htu
        by_cases h2 : ds.length = 2
        · obtain ⟨x, y, rfl⟩ : ∃ x y, ds = [x, y] := by
            match ds, h2 with
            | [x, y], _ => exact ⟨x, y, rfl⟩
          have hx : isTy "str" x = false := by
            rw [isTy_str]
            cases x with
            | str s => exact absurd ⟨s, y, rfl⟩ hsy
            | _ => rfl
          refine xb_cons (xs_if (XW.t (xw_or (xt_not (xt_val (xe_isi (kit_tuple _) (T.free 90 rfl) (T.free 94 rfl) (by decide +kernel) (xe_name (i := 7) rfl)))) fun hb => (xw_or (xt_neI (xe_lenT (T.free 91 rfl) (xe_name (i := 7) rfl)) xe_int) fun hb => (xw_or1 (xt_not (xt_val (xe_isi (kit_str _) (T.free 90 rfl) (T.free 107 rfl) (by decide +kernel) (xe_ixT (d := x) rfl (xe_name (i := 7) rfl) xe_int)))))))) (fun hb => FALSE hF rfl) (fun hb => absurd hb (by simp [isTy_tt, hx])))
        · refine xb_cons (xs_if (XW.t (xw_or (xt_not (xt_val (xe_isi (kit_tuple _) (T.free 90 rfl) (T.free 94 rfl) (by decide +kernel) (xe_name (i := 7) rfl)))) fun hb => (xw_or (kb := false) (xt_neI (xe_lenT (T.free 91 rfl) (xe_name (i := 7) rfl)) xe_int) fun hb => absurd hb (by simp; omega)))) (fun hb => FALSE hF rfl) (fun hb => absurd hb (by simp [isTy_tt]; omega)))
      · have hty : isTy "tuple" c = false := by
          rw [isTy_tuple]
          cases c with
          | tuple ds => exact absurd ⟨ds, rfl⟩ htu
          | _ => rfl
        refine xb_cons (xs_if (XW.t (xw_or (kb := false) (xt_not (xt_val (xe_isi (kit_tuple _) (T.free 90 rfl) (T.free 94 rfl) (by decide +kernel) (xe_name (i := 7) rfl)))) fun hb => absurd hb (by simp [hty]))) (fun hb => FALSE hF rfl) (fun hb => absurd hb (by simp [hty])))
end Pf
end
section
set_option Elab.async false
set_option linter.all false
set_option maxRecDepth 100000
set_option maxHeartbeats 2000000
set_option exponentiation.threshold 5000
set_option pp.maxSteps 1200
namespace Pf
open PySem PySem.Spec PyProof.Rows L2 RZ
/-! ### is_no_sooner -/
def untold : PyData → Option (Int × Int × PyData)
  | .tuple [.int a, .int b, c] => some (a, b, c)
  | _ => none
def uD (u : Int × Int × PyData) : PyData := .tuple [.int u.1, .int u.2.1, u.2.2]
def dueM (rs : List Int) (ps : List (Nat × Nat)) : List (Int × Int) := ps.map fun p => (rs.getD p.1 0, rs.getD p.2 0)
def pD (p : Int × Int) : PyData := .tuple [.int p.1, .int p.2]
def isNosM (W : Wd) (lot : List Int) (prop many : Int) : PyData → Bool
  | .list es => es.all (fun d => (untold d).isSome) && (decide ((es.filterMap untold).map (fun u => (u.1, u.2.1)) = dueM (restsM W lot) (pairsM (idxI prop (restsM W lot)) (restsM W lot).length many)) && (es.filterMap untold).all fun u => isReasM W lot prop u.1 u.2.1 u.2.2)
  | _ => false
structure ThOk (d : PyData) : Prop where
  sh : Sh 20 d
  es : ∀ es, d = .list es → es.length ≤ 1000 ∧ ∀ a b c, PyData.tuple [a, b, c] ∈ es → RdOk c
structure InZ where
  W : Wd
  lo : Option (List Int)
  prop : Int
  many : Int
  th : PyData
structure InOk (z : InZ) : Prop where
  w : WOk z.W
  l : ∀ l, z.lo = some l → LotOk z.W l
  p : z.prop ∈ lotM z.W z.lo
  m : 1 ≤ z.many
  t : ThOk z.th
abbrev inA (g : Pg) (z : InZ) : List Ty := [tPlank g z.W, tD g.K (.list (z.W.wts.map wtD)), tD g.K (.int z.prop), tD g.K (.int z.many), tD g.K z.th, tD g.K (lotD z.lo)]
abbrev inSp (g : Pg) : Sp := spM (α := {z : InZ // InOk z}) (fun _ => []) (fun z => inA g z.1) (fun z => tD g.K (.bool (isNosM z.1.W (lotM z.1.W z.1.lo) z.1.prop z.1.many z.1.th)))
abbrev FnT_is_no_sooner (g : Pg) : Prop := FnK g "is_no_sooner" ["plank", "weights", "prop", "many", "thing", "lot"] 5 ["lot"] 10 (inSp g)
theorem sc_is_no_sooner : FnScope ["plank", "weights", "prop", "many", "thing", "lot", "loads", "begun", "rests", "due", "low", "high", "one"] ["plank", "weights", "prop", "many", "thing", "lot"] (defScope sIsNoSooner) := ⟨rfl, rfl, rfl, by decide +kernel, rfl, by decide +kernel, by decide +kernel⟩
def is3 : PyData → Bool
  | .tuple [_, _, _] => true
  | _ => false
def tupL : PyData → List PyData
  | .tuple ds => ds
  | _ => []
theorem isTup_eq {d : PyData} (h : isTy "tuple" d = true) : d = .tuple (tupL d) := by
  rw [isTy_tuple] at h
  cases d with
  | tuple ds => rfl
  | _ => cases h
theorem is3_eq (d : PyData) : (isTy "tuple" d && decide (((tupL d).length : Int) = 3)) = is3 d := by
  rw [isTy_tuple]
  cases d with
  | tuple ds =>
    show (true && decide ((ds.length : Int) = 3)) = is3 (.tuple ds)
    rw [Bool.true_and]
    match ds with
    | [] => rfl
    | [a] => rfl
    | [a, b] => rfl
    | [a, b, c] => rfl
    | a :: b :: c :: e :: r =>
      have : ¬ (((a :: b :: c :: e :: r).length : Nat) : Int) = 3 := by simp only [List.length_cons]; omega
      rw [decide_eq_false this]
      rfl
  | _ => rfl
def t3D (t : PyData × PyData × PyData) : PyData := .tuple [t.1, t.2.1, t.2.2]
theorem all3 : ∀ {es : List PyData}, es.all is3 = true → ∃ ts : List (PyData × PyData × PyData), es = ts.map t3D
  | [], _ => ⟨[], rfl⟩
  | d :: es, h => by
    rw [List.all_cons, Bool.and_eq_true] at h
    obtain ⟨ts, rfl⟩ := all3 h.2
    have h1 := h.1
    unfold is3 at h1
    split at h1
    · rename_i a b c
      exact ⟨(a, b, c) :: ts, rfl⟩
    · cases h1
theorem all_whole : ∀ {ts : List (PyData × PyData × PyData)}, (ts.filter fun t => !isWhole t.1 || !isWhole t.2.1) = [] → ∃ us : List (Int × Int × PyData), ts.map t3D = us.map uD
  | [], _ => ⟨[], rfl⟩
  | t :: ts, h => by
    rw [List.filter_cons] at h
    by_cases e : (!isWhole t.1 || !isWhole t.2.1) = true
    · rw [if_pos e] at h; cases h
    · rw [if_neg e] at h
      obtain ⟨us, hu⟩ := all_whole h
      have e' : (!isWhole t.1 || !isWhole t.2.1) = false := by simpa using e
      rw [Bool.or_eq_false_iff] at e'
      have w1 : isWhole t.1 = true := by simpa using e'.1
      have w2 : isWhole t.2.1 = true := by simpa using e'.2
      refine ⟨(valI t.1, valI t.2.1, t.2.2) :: us, ?_⟩
      rw [List.map_cons, List.map_cons, hu]
      congr 1
      unfold t3D uD
      rw [← isWhole_int w1, ← isWhole_int w2]
theorem untold_u (us : List (Int × Int × PyData)) : (us.map uD).all (fun d => (untold d).isSome) = true ∧ (us.map uD).filterMap untold = us := by
  induction us with
  | nil => exact ⟨rfl, rfl⟩
  | cons u us ih =>
    refine ⟨?_, ?_⟩
    · rw [List.map_cons, List.all_cons, ih.1]; rfl
    · rw [List.map_cons, List.filterMap_cons]
      show (u.1, u.2.1, u.2.2) :: (us.map uD).filterMap untold = u :: us
      rw [ih.2]
theorem untold_no3 {es : List PyData} (h : es.all is3 = false) : es.all (fun d => (untold d).isSome) = false := by
  rw [List.all_eq_false] at h ⊢
  obtain ⟨d, hd, h2⟩ := h
  refine ⟨d, hd, fun h3 => h2 ?_⟩
  unfold untold at h3
  split at h3
  · rfl
  · cases h3
theorem untold_now {ts : List (PyData × PyData × PyData)} (h : (ts.filter fun t => !isWhole t.1 || !isWhole t.2.1) ≠ []) : (ts.map t3D).all (fun d => (untold d).isSome) = false := by
  obtain ⟨t, ht⟩ := List.exists_mem_of_ne_nil _ h
  obtain ⟨h1, h2⟩ := List.mem_filter.mp ht
  rw [List.all_eq_false]
  refine ⟨t3D t, List.mem_map_of_mem h1, fun h3 => ?_⟩
  obtain ⟨a, b, c⟩ := t
  unfold untold t3D at h3
  split at h3
  · rename_i a' b' c' e
    injection e with e
    injection e with e1 e
    injection e with e2 e
    have e1' : a = .int a' := e1
    have e2' : b = .int b' := e2
    subst e1' e2'
    simp [isWhole] at h2
  · cases h3
theorem eqv_prs : ∀ (ps qs : List (Int × Int)), PyData.eqvAll (ps.map pD) (qs.map pD) = decide (ps = qs)
  | [], [] => rfl
  | [], q :: qs => rfl
  | p :: ps, [] => rfl
  | p :: ps, q :: qs => by
    show (PyData.eqv (pD p) (pD q) && PyData.eqvAll (ps.map pD) (qs.map pD)) = _
    rw [eqv_prs ps qs]
    have e : PyData.eqv (pD p) (pD q) = decide (p = q) := eqv_fr p q
    rw [e]
    by_cases h : p = q <;> by_cases h2 : ps = qs <;> simp [h, h2]
theorem sh_el {n : Nat} {es : List PyData} (h : Sh (n + 1) (.list es)) : ∀ d ∈ es, Sh n d := by
  obtain ⟨h1, h2⟩ := h
  have h1' : PyData.canLayAll0 es = true := h1
  have h2' : PyData.depthAll es + 1 ≤ n + 1 := h2
  clear h1 h2
  induction es with
  | nil => intro d hd; cases hd
  | cons e es ih =>
    have a1 : (PyData.canLay0 e && PyData.canLayAll0 es) = true := h1'
    have a2 : max (PyData.depth e) (PyData.depthAll es) + 1 ≤ n + 1 := h2'
    rw [Bool.and_eq_true] at a1
    intro d hd
    rcases List.mem_cons.mp hd with e' | hd
    · rw [e']; exact ⟨a1.1, by omega⟩
    · exact ih a1.2 (by omega) d hd
theorem sh_pD (p : Int × Int) : Sh 1 (pD p) := Sh.tup fun x hx => by
  rcases List.mem_cons.mp hx with e | hx
  · rw [e]; exact Sh.int _
  · rw [List.mem_singleton.mp hx]; exact Sh.int _
theorem sh_prs (ps : List (Int × Int)) : Sh 2 (.list (ps.map pD)) := Sh.lst fun x hx => by
  obtain ⟨p, _, rfl⟩ := List.mem_map.mp hx
  exact sh_pD p
theorem due_tr {W : Wd} {lot : List Int} (h : LotOk W lot) {prop many : Int} (hp : prop ∈ lot) {q : Int × Int} (hq : q ∈ dueM (restsM W lot) (pairsM (idxI prop (restsM W lot)) (restsM W lot).length many)) : TrOk W q.1 prop q.2 := by
  obtain ⟨p, hpm, rfl⟩ := List.mem_map.mp hq
  obtain ⟨q1, q2, q3⟩ := allP_mem.mp (List.mem_filter.mp hpm).1
  rw [rests_len] at q3
  have hi := idx_at (rest_idx h hp).1
  have eat : (restsM W lot).getD (idxI prop (restsM W lot)) 0 = prop := by rw [List.getD_eq_getElem?_getD, hi.1]; rfl
  have := rests_tr h q1 q2 q3
  rw [eat] at this
  exact this
theorem due_list (rs : List Int) (ps : List (Nat × Nat)) : PyData.list ((ps.filter fun _ => true).map fun p => pD (rs.getD p.1 0, rs.getD p.2 0)) = .list ((dueM rs ps).map pD) := by
  rw [ftrue]
  unfold dueM
  rw [List.map_map]
  rfl
theorem ok_is_no_sooner {g : Pg} (T : Tx g) (F_begun_of : FnT_begun_of g) (F_check_prop : FnT_check_prop g) (F_check_from_one : FnT_check_from_one g) (F_rests_of : FnT_rests_of g) (F_pairs_about : FnT_pairs_about g) (F_is_whole : FnT_is_whole g) (F_is_reason : FnT_is_reason g) {kws : List (Str × V)} {f : Addr} {fd : FuncData}
    (F : FunD g.K dIsNoSooner.name dIsNoSooner.qual dIsNoSooner.params dIsNoSooner.body dIsNoSooner.scope [] kws f fd) : FnOk g.P g.w g.K g.mg g.base CX0 10 f fd ["plank", "weights", "prop", "many", "thing", "lot"] (inSp g) := by
  refine fn_ok (k := 9) F sc_is_no_sooner (fun _ => rfl) fun cdv Ar outer s H z hr => ?_
  have nd := sc_is_no_sooner.nd
  obtain ⟨⟨W, lo, prop, many, th⟩, hw, hlo, hp, hm, hth⟩ := z
  dsimp only at hw hlo hp hm hth
  have hlot := lotM_ok hlo
  have hll : (lotM W lo).length ≤ 12 := Nat.le_trans hlot.len hw.p12
  obtain ⟨hi1, hi2, hi3⟩ := rest_idx hlot hp
  have hix := idx_at hi1
  have hrl := rests_len W (lotM W lo)
  have hl1 : (lotM W lo).length ≤ 1000 := by omega
  have w1 : idxI prop (restsM W (lotM W lo)) < (restsM W (lotM W lo)).length ∧ (restsM W (lotM W lo)).length ≤ 100 := ⟨by omega, by omega⟩
  have hpl : (pairsM (idxI prop (restsM W (lotM W lo))) (restsM W (lotM W lo)).length many).length < 100000 := by
    refine Nat.lt_of_le_of_lt (List.length_filter_le _ _) ?_
    rw [allP_len]
    exact Nat.lt_of_le_of_lt (Nat.mul_le_mul (show _ ≤ 100 by omega) (show _ ≤ 100 by omega)) (by decide)
  have ixl : ∀ p ∈ pairsM (idxI prop (restsM W (lotM W lo))) (restsM W (lotM W lo)).length many, atI ((restsM W (lotM W lo)).map PyData.int) ((p.1 : Nat) : Int) = some (.int ((restsM W (lotM W lo)).getD p.1 0)) := fun p hpm => by
    obtain ⟨q1, q2, q3⟩ := allP_mem.mp (List.mem_filter.mp hpm).1
    exact rests_at (by omega)
  have ixh : ∀ p ∈ pairsM (idxI prop (restsM W (lotM W lo))) (restsM W (lotM W lo)).length many, atI ((restsM W (lotM W lo)).map PyData.int) ((p.2 : Nat) : Int) = some (.int ((restsM W (lotM W lo)).getD p.2 0)) := fun p hpm => by
    obtain ⟨q1, q2, q3⟩ := allP_mem.mp (List.mem_filter.mp hpm).1
    exact rests_at (by omega)
  refine xb_cons (xs_unpackM (xe_callN (F_begun_of.mono (by decide)) (fun _ => hr) ⟨(W, lo), hw, hlo⟩ (xa_cons (xe_name (i := 0) rfl) (xa_cons (xe_name (i := 1) rfl) (xa_cons (xe_name (i := 5) rfl) xa_nil)))) (fun ds => [some (tPlank g W), some (tD g.K (.list (W.wts.map wtD))), some (tD g.K (.int prop)), some (tD g.K (.int many)), some (tD g.K th), some (tD g.K (lotD lo)), some (tLd g W ds), some (tD g.K (.tuple ((lotM W lo).map .int))), none, none, none, none, none]) (fun ds => xg_tupT2 (xg_name 6) (xg_name 7)) (fun ds hds => ?_) (fun jj => pg_tup rfl (pgs_cons (pg_nm 6 jj nd) (pgs_cons (pg_nm 7 jj nd) pgs_nil))))
  match ds, hds with
  | [d1, d2], _ =>
    show XB g _ ⟨[some (tPlank g W), some (tD g.K (.list (W.wts.map wtD))), some (tD g.K (.int prop)), some (tD g.K (.int many)), some (tD g.K th), some (tD g.K (lotD lo)), some (tLoads g W d1 d2), some (tD g.K (.tuple ((lotM W lo).map .int))), none, none, none, none, none], [], mmL g W d1 d2⟩ _ { nx := fun _ => tD g.K .none = tD g.K (.bool (isNosM W (lotM W lo) prop many th)), rt := fun T => T = tD g.K (.bool (isNosM W (lotM W lo) prop many th)) }
    refine xb_cons (xs_expr (xe_call (F_check_prop.mono (by decide)) (fun _ => hr) ⟨(lotM W lo, prop), hp⟩ (xa_cons (xe_name (i := 7) rfl) (xa_cons (xe_name (i := 2) rfl) xa_nil)) (List.nil_sublist _)) ?_)
    refine xb_cons (xs_expr (xe_call (F_check_from_one.mono (by decide)) (fun _ => hr) ⟨many, hm⟩ (xa_cons (xe_name (i := 3) rfl) xa_nil) (List.nil_sublist _)) ?_)
    refine xb_cons (xs_set 8 (xe_call (F_rests_of.mono (by decide)) (fun _ => hr) ⟨(W, lotM W lo), hl1⟩ (xa_cons (xe_name (i := 0) rfl) (xa_cons (xe_name (i := 7) rfl) xa_nil)) (List.nil_sublist _)) ?_ nd)
    refine xb_cons (xs_setLc 9 [("low", 10), ("high", 11)] nd (fun j => pi_list (pe_w j)) (fun _ => blkOk_by (sc := defScope sIsNoSooner) (by show blkC ["plank", "weights", "prop", "many", "thing", "lot", "loads", "begun", "rests", "due", "low", "high", "one"] _ _ _ = true; decide +kernel)) (fun jj => pg_tup rfl (pgs_cons (pg_nm 10 jj nd) (pgs_cons (pg_nm 11 jj nd) pgs_nil))) (fun jj => pts_nil)
      (XR.toD (xr_lcL (pairsM (idxI prop (restsM W (lotM W lo))) (restsM W (lotM W lo)).length many) prD (fun p => pD ((restsM W (lotM W lo)).getD p.1 0, (restsM W (lotM W lo)).getD p.2 0)) (fun _ => true) (fun p => [some (tPlank g W), some (tD g.K (.list (W.wts.map wtD))), some (tD g.K (.int prop)), some (tD g.K (.int many)), some (tD g.K th), some (tD g.K (lotD lo)), some (tLoads g W d1 d2), some (tD g.K (.tuple ((lotM W lo).map .int))), some (tRs g.K (restsM W (lotM W lo))), none, some (tD g.K (.int (p.1 : Int))), some (tD g.K (.int (p.2 : Int))), none])
        (xe_call (F_pairs_about.mono (by decide)) (fun _ => hr) ⟨⟨restsM W (lotM W lo), idxI prop (restsM W (lotM W lo)), many⟩, w1⟩ (xa_cons (XE.dR (xe_name (i := 8) rfl)) (xa_cons (xe_indexT hix.1 hix.2 (xe_name (i := 8) rfl) (xe_name (i := 2) rfl)) (xa_cons (xe_name (i := 3) rfl) xa_nil))) (List.nil_sublist _)) hpl (fun b hb => xg_tup2 (xg_name 10) (xg_name 11)) (by decide) (fun b hb => tr_yes)
        (fun b hb hf => xe_tupD (ds := [.int ((restsM W (lotM W lo)).getD b.1 0), .int ((restsM W (lotM W lo)).getD b.2 0)]) (xa_cons (xe_ixT (ixl b hb) (XE.dR (xe_name (i := 8) rfl)) (xe_name (i := 10) rfl)) (xa_cons (xe_ixT (ixh b hb) (XE.dR (xe_name (i := 8) rfl)) (xe_name (i := 11) rfl)) xa_nil)))) (due_list _ _)) ?_ (fun j => sw_true rfl rfl rfl (by decide +kernel)))
    have FALSE : ∀ {q : Sta} {C : Ct} {P : Po} {p1 p2 j}, isNosM W (lotM W lo) prop many th = false → P.rt (tD g.K (.bool (isNosM W (lotM W lo) prop many th))) → XB g C q [.Return (some (.Constant (.bool false) j p1)) p2] P := fun h k => xb_one (xs_ret xe_bl (by rw [h] at k; exact k))
    by_cases hli : ∃ es, th = .list es
    · obtain ⟨es, rfl⟩ := hli
      obtain ⟨hel, hec⟩ := hth.es es rfl
      have hz : es.length < 100000 := Nat.lt_of_le_of_lt hel (by decide)
      refine xb_cons (xs_if (XW.t (xw_or (xt_not (xt_val (xe_isi (kit_list _) (T.free 90 rfl) (T.free 95 rfl) (by decide +kernel) (xe_name (i := 4) rfl)))) fun hb => (xw_or1 (xt_not (xt_val (xe_all (T.free 92 rfl) (XE.toD (xe_lc [("one", 12)] nd (fun j => pi_list (pe_w j)) (fun _ => blkOk_by (sc := defScope sIsNoSooner) (by show blkC ["plank", "weights", "prop", "many", "thing", "lot", "loads", "begun", "rests", "due", "low", "high", "one"] _ _ _ = true; decide +kernel)) (fun jj => pg_nm 12 jj nd) (fun jj => pts_nil)
        (xr_lcL es id (fun d => .bool (is3 d)) (fun _ => true) (fun d => [some (tPlank g W), some (tD g.K (.list (W.wts.map wtD))), some (tD g.K (.int prop)), some (tD g.K (.int many)), some (tD g.K (.list es)), some (tD g.K (lotD lo)), some (tLoads g W d1 d2), some (tD g.K (.tuple ((lotM W lo).map .int))), some (tRs g.K (restsM W (lotM W lo))), some (tD g.K (.list ((dueM (restsM W (lotM W lo)) (pairsM (idxI prop (restsM W (lotM W lo))) (restsM W (lotM W lo)).length many)).map pD))), none, none, some (tD g.K d)])
          (XE.toD (xe_name (i := 4) rfl) (by rw [List.map_id])) hz (fun b hb => xg_name 12) (by decide) (fun b hb => tr_yes)
          (fun b hb hf => XE.toD (xe_and (kb := decide (((tupL b).length : Int) = 3)) (xe_isi (kit_tuple _) (T.free 90 rfl) (T.free 94 rfl) (by decide +kernel) (xe_name (i := 12) rfl)) fun hb => xe_one (xe_eqI (xe_lenT (T.free 91 rfl) (XE.toD (xe_name (i := 12) rfl) (isTup_eq hb))) xe_int)) (congrArg _ (is3_eq b))))) (lcB _ _)))))))) (fun hb => ?_) (fun hb => ?_))
      · refine FALSE ?_ rfl
        rw [allB, isTy_ll] at hb
        have h3 : es.all is3 = false := by simpa using hb
        show (es.all (fun d => (untold d).isSome) && _) = false
        rw [untold_no3 h3]
        rfl
      · refine xb_nil ?_
        rw [allB, isTy_ll] at hb
        have h3 : es.all is3 = true := by simpa using hb
        obtain ⟨ts, rfl⟩ := all3 h3
        have hzt : ts.length < 100000 := by simpa using hz
        have shl : ∀ d ∈ ts.map t3D, Sh 19 d := sh_el hth.sh
        have shf : Sh 20 (.list ((ts.filter fun t => !isWhole t.1 || !isWhole t.2.1).map t3D)) := Sh.lst fun x hx => by
          obtain ⟨t, ht, rfl⟩ := List.mem_map.mp hx
          exact shl _ (List.mem_map_of_mem (List.mem_filter.mp ht).1)
        refine xb_cons (xs_if (xt_neD (fun _ => hr) shf.ok (by rfl) (xe_lc [("one", 12)] nd (fun j => pi_list (pe_w j)) (fun _ => blkOk_by (sc := defScope sIsNoSooner) (by show blkC ["plank", "weights", "prop", "many", "thing", "lot", "loads", "begun", "rests", "due", "low", "high", "one"] _ _ _ = true; decide +kernel)) (fun jj => pg_nm 12 jj nd) (fun jj => pts_one (pt_w jj))
          (xr_lcL ts t3D t3D (fun t => !isWhole t.1 || !isWhole t.2.1) (fun t => [some (tPlank g W), some (tD g.K (.list (W.wts.map wtD))), some (tD g.K (.int prop)), some (tD g.K (.int many)), some (tD g.K (.list (ts.map t3D))), some (tD g.K (lotD lo)), some (tLoads g W d1 d2), some (tD g.K (.tuple ((lotM W lo).map .int))), some (tRs g.K (restsM W (lotM W lo))), some (tD g.K (.list ((dueM (restsM W (lotM W lo)) (pairsM (idxI prop (restsM W (lotM W lo))) (restsM W (lotM W lo)).length many)).map pD))), none, none, some (tD g.K (t3D t))])
            (xe_name (i := 4) rfl) hzt (fun b hb => xg_name 12) (by decide)
            (fun b hb => tr_one (XW.t (xw_or (xt_not (xt_val (xe_call (F_is_whole.mono (by decide)) (fun _ => hr) b.1 (xa_cons (xe_ixT (ds := [b.1, b.2.1, b.2.2]) rfl (xe_name (i := 12) rfl) xe_int) xa_nil) (List.nil_sublist _)))) fun hb => xw_or1 (xt_not (xt_val (xe_call (F_is_whole.mono (by decide)) (fun _ => hr) b.2.1 (xa_cons (xe_ixT (ds := [b.1, b.2.1, b.2.2]) rfl (xe_name (i := 12) rfl) xe_int) xa_nil) (List.nil_sublist _)))))))
            (fun b hb hf => xe_name (i := 12) rfl))) (xe_lstD (ds := []) xa_nil)) (fun hb => ?_) (fun hb => ?_))
        · refine FALSE ?_ rfl
          rw [eqv_nil] at hb
          have h4 : (ts.filter fun t => !isWhole t.1 || !isWhole t.2.1) ≠ [] := fun e => by
            rw [e] at hb
            cases hb
          show ((ts.map t3D).all (fun d => (untold d).isSome) && _) = false
          rw [untold_now h4]
          rfl
        · refine xb_nil ?_
          rw [eqv_nil] at hb
          have h4 : (ts.filter fun t => !isWhole t.1 || !isWhole t.2.1) = [] := by
            cases e : ts.filter fun t => !isWhole t.1 || !isWhole t.2.1 with
            | nil => rfl
            | cons a r => rw [e] at hb; cases hb
          obtain ⟨us, hus⟩ := all_whole h4
          rw [hus] at hec shl hz
          rw [hus]
          have hzu : us.length < 100000 := by simpa using hz
          obtain ⟨u1, u2⟩ := untold_u us
          have shu : Sh 2 (.list ((us.map fun u => (u.1, u.2.1)).map pD)) := sh_prs _
          have hsm : (lotM W lo).length ≤ 1000 := hl1
          have YIR : (us.map fun u => (u.1, u.2.1)) = dueM (restsM W (lotM W lo)) (pairsM (idxI prop (restsM W (lotM W lo))) (restsM W (lotM W lo)).length many) → ∀ u ∈ us, IrOk ⟨W, d1, d2, lotM W lo, prop, u.1, u.2.1, u.2.2⟩ := fun e u hu => by
            refine ⟨hw, ?_, hec (.int u.1) (.int u.2.1) u.2.2 (List.mem_map_of_mem (f := uD) hu), hsm⟩
            have : (u.1, u.2.1) ∈ dueM (restsM W (lotM W lo)) (pairsM (idxI prop (restsM W (lotM W lo))) (restsM W (lotM W lo)).length many) := by
              rw [← e]
              exact List.mem_map_of_mem (f := fun u : Int × Int × PyData => (u.1, u.2.1)) hu
            exact due_tr hlot hp this
          have eqd : ∀ {b : Bool}, PyData.eqv (.list ((us.map fun u => (u.1, u.2.1)).map pD)) (.list ((dueM (restsM W (lotM W lo)) (pairsM (idxI prop (restsM W (lotM W lo))) (restsM W (lotM W lo)).length many)).map pD)) = b → decide ((us.map fun u => (u.1, u.2.1)) = dueM (restsM W (lotM W lo)) (pairsM (idxI prop (restsM W (lotM W lo))) (restsM W (lotM W lo)).length many)) = b := fun h => by
            rw [← h]
            exact (eqv_prs _ _).symm
          refine xb_one (xs_ret (T := tD g.K (.bool (isNosM W (lotM W lo) prop many (.list (us.map uD))))) (XE.toD (xe_and (kb := us.all fun u => isReasM W (lotM W lo) prop u.1 u.2.1 u.2.2) (xe_eqD (fun _ => hr) shu.ok (sh_prs _).ok (XE.toD (xe_lc [("one", 12)] nd (fun j => pi_list (pe_w j)) (fun _ => blkOk_by (sc := defScope sIsNoSooner) (by show blkC ["plank", "weights", "prop", "many", "thing", "lot", "loads", "begun", "rests", "due", "low", "high", "one"] _ _ _ = true; decide +kernel)) (fun jj => pg_nm 12 jj nd) (fun jj => pts_nil)
            (xr_lcL us uD (fun u => pD (u.1, u.2.1)) (fun _ => true) (fun u => [some (tPlank g W), some (tD g.K (.list (W.wts.map wtD))), some (tD g.K (.int prop)), some (tD g.K (.int many)), some (tD g.K (.list (us.map uD))), some (tD g.K (lotD lo)), some (tLoads g W d1 d2), some (tD g.K (.tuple ((lotM W lo).map .int))), some (tRs g.K (restsM W (lotM W lo))), some (tD g.K (.list ((dueM (restsM W (lotM W lo)) (pairsM (idxI prop (restsM W (lotM W lo))) (restsM W (lotM W lo)).length many)).map pD))), none, none, some (tD g.K (uD u))])
              (xe_name (i := 4) rfl) hzu (fun b hb => xg_name 12) (by decide) (fun b hb => tr_yes) (fun b hb hf => XE.toD (xe_slT (ds := [.int b.1, .int b.2.1, b.2.2]) (xe_name (i := 12) rfl) xo_none (xo_some xe_int)) rfl))) (by rw [ftrue, List.map_map]; rfl)) (xe_name (i := 9) rfl))
            fun hb => xe_one (XE.toD (xe_all (T.free 92 rfl) (XE.toD (xe_lc [("one", 12)] nd (fun j => pi_list (pe_w j)) (fun _ => blkOk_by (sc := defScope sIsNoSooner) (by show blkC ["plank", "weights", "prop", "many", "thing", "lot", "loads", "begun", "rests", "due", "low", "high", "one"] _ _ _ = true; decide +kernel)) (fun jj => pg_nm 12 jj nd) (fun jj => pts_nil)
            (xr_lcL us uD (fun u => .bool (isReasM W (lotM W lo) prop u.1 u.2.1 u.2.2)) (fun _ => true) (fun u => [some (tPlank g W), some (tD g.K (.list (W.wts.map wtD))), some (tD g.K (.int prop)), some (tD g.K (.int many)), some (tD g.K (.list (us.map uD))), some (tD g.K (lotD lo)), some (tLoads g W d1 d2), some (tD g.K (.tuple ((lotM W lo).map .int))), some (tRs g.K (restsM W (lotM W lo))), some (tD g.K (.list ((dueM (restsM W (lotM W lo)) (pairsM (idxI prop (restsM W (lotM W lo))) (restsM W (lotM W lo)).length many)).map pD))), none, none, some (tD g.K (uD u))])
              (xe_name (i := 4) rfl) hzu (fun b hb => xg_name 12) (by decide) (fun b hb => tr_yes) (fun b hm hf => xe_call (F_is_reason.mono (by decide)) (fun _ => hr) ⟨⟨W, d1, d2, lotM W lo, prop, b.1, b.2.1, b.2.2⟩, YIR (of_decide_eq_true (eqd hb)) b hm⟩ (xa_cons (xe_name (i := 6) rfl) (xa_cons (xe_name (i := 7) rfl) (xa_cons (xe_name (i := 2) rfl) (xa_cons (xe_name (i := 12) rfl) xa_nil)))) (List.Sublist.refl _)))) (lcB _ _))) (congrArg _ (allB _ _)))) ?_) rfl)
          show _ = PyData.bool ((us.map uD).all (fun d => (untold d).isSome) && (decide (((us.map uD).filterMap untold).map (fun u => (u.1, u.2.1)) = dueM (restsM W (lotM W lo)) (pairsM (idxI prop (restsM W (lotM W lo))) (restsM W (lotM W lo)).length many)) && ((us.map uD).filterMap untold).all fun u => isReasM W (lotM W lo) prop u.1 u.2.1 u.2.2))
          rw [u1, u2, Bool.true_and]
          congr 2
          exact eqv_prs _ _
    · have hty : isTy "list" th = false := by
        rw [isTy_list]
        cases th with
        | list ds => exact absurd ⟨ds, rfl⟩ hli
        | _ => rfl
      have hF : isNosM W (lotM W lo) prop many th = false := by
        cases th with
        | list ds => exact absurd ⟨ds, rfl⟩ hli
        | _ => rfl
      refine xb_cons (xs_if (XW.t (xw_or (kb := false) (xt_not (xt_val (xe_isi (kit_list _) (T.free 90 rfl) (T.free 95 rfl) (by decide +kernel) (xe_name (i := 4) rfl)))) fun hb => absurd hb (by simp [hty]))) (fun hb => FALSE hF rfl) (fun hb => absurd hb (by simp [hty])))
theorem fn_is_no_sooner {g : Pg} (T : Tx g) (F_begun_of : FnT_begun_of g) (F_check_prop : FnT_check_prop g) (F_check_from_one : FnT_check_from_one g) (F_rests_of : FnT_rests_of g) (F_pairs_about : FnT_pairs_about g) (F_is_whole : FnT_is_whole g) (F_is_reason : FnT_is_reason g) : FnT_is_no_sooner g :=
  T.fnK 50 37 (d := dIsNoSooner) rfl rfl rfl rfl [("lot", .non)] rfl (by simp) (fun D doc pm an cdv ct us ws l1 l2 => match us, l1, ws, l2 with | [_, _, _, _, _], _, [_], _ => rfl) fun fd F => ok_is_no_sooner T F_begun_of F_check_prop F_check_from_one F_rests_of F_pairs_about F_is_whole F_is_reason F
/-- a def called without its keyword-only parameters -/
structure FnV (g : Pg) (x : Str) (ps : List Str) (dvs : List V) (k : Nat) (sp : Sp) : Prop where
  ex : ∃ (f : Addr) (fd : FuncData) (ds : List Value), g.mg x = some (.ref f) ∧ PySem.W.keepIn g.K (.ref f) = true ∧ Binds g.K fd ps ds ∧ Vals dvs ds ∧ FnOk g.P g.w g.K g.mg g.base CX0 k f fd ps sp
theorem fv_is_no_sooner {g : Pg} (T : Tx g) (F_begun_of : FnT_begun_of g) (F_check_prop : FnT_check_prop g) (F_check_from_one : FnT_check_from_one g) (F_rests_of : FnT_rests_of g) (F_pairs_about : FnT_pairs_about g) (F_is_whole : FnT_is_whole g) (F_is_reason : FnT_is_reason g) : FnV g "is_no_sooner" ["plank", "weights", "prop", "many", "thing", "lot"] [.non] 10 (inSp g) := by
  obtain ⟨fd, F⟩ := T.says.def_ 50 (d := dIsNoSooner) rfl
  have F' : FunD g.K dIsNoSooner.name dIsNoSooner.qual dIsNoSooner.params dIsNoSooner.body dIsNoSooner.scope [] [("lot", .non)] (He.ga g.K "is_no_sooner") fd := F
  have hb : ∃ ds, Vals [V.non] ds ∧ Binds g.K fd ["plank", "weights", "prop", "many", "thing", "lot"] ds := FunD.binds0 (kws := [("lot", .non)]) F' 5 (by simp) rfl fun D doc pm an cdv ct us ks h1 h2 => match us, h1, ks, h2 with | [_, _, _, _, _], _, [_], _ => ⟨_, _, _, _, _, _, rfl, rfl, rfl⟩
  obtain ⟨ds, h1, h2⟩ := hb
  exact ⟨_, fd, ds, T.glo 37 rfl, F'.kp, h2, h1, ok_is_no_sooner T F_begun_of F_check_prop F_check_from_one F_rests_of F_pairs_about F_is_whole F_is_reason F'⟩
end Pf
end
section
set_option Elab.async false
set_option linter.all false
set_option maxRecDepth 100000
set_option maxHeartbeats 2000000
set_option exponentiation.threshold 5000
set_option pp.maxSteps 1200
namespace Pf
open PySem PySem.Spec PyProof.Rows L2 RZ
section
variable {g : Pg} {C : Ct} {q q' : Sta} {P : Po} {e a b c o : Expr} {es : List Expr} {st : Stmt} {sts rest body : List Stmt} {pos p p2 apos cpos : Pos} {T Ta Tb : Ty} {Ts : List Ty} {x : Str} {i j k : Nat} {M : Ml} {δ δ' : Sd} {ps : List Str} {ns : List Int}
/-- tuple(list of numbers), to be a dict's key -/
theorem xe_tupOfK (hm : g.mg "tuple" = none) (ha : XE g C M δ a (tD g.K (.list (ns.map .int)))) (hg : ∀ j, (C.env j).kindOf "tuple" = some .globalImplicit := by intro _; rfl) (he : ∀ j, starEach [a] (C.env j) = (false, eval a (C.env j)) :: starEach [] (C.env j) := by intro _; rfl) :
    XE g C M δ (.Call (.Name "tuple" p) [a] [] pos) (tKt ns) :=
  xe_ctN (r := fun xs H Q => ∃ p ys, xs = [.ref p] ∧ ((SqL g.K H p ys ∧ ∀ l, H l = none → Q (.ref l) (upd H l (.tup ys))) ∨ (SqT g.K H p ys ∧ Q (.ref p) H))) (fun j => call_tuple_of (X := C.X g j)) hm PyProof.Rows.boot_tuple (fun B H vs Q e h k => by
    obtain ⟨v, rfl, hv⟩ := al1 h
    obtain ⟨q, xs, rfl, h1, r1⟩ := rp_lst hv
    exact ⟨q, xs, rfl, .inl ⟨SqL.of (e _ _ h1), fun l hl => k _ l hl fun B' e' hb => ⟨l, rfl, by rw [← rp_ints r1]; exact hb⟩⟩⟩) (xa_cons ha xa_nil he) (by decide) (by decide) hg he
end
abbrev FnT__law_cut (g : Pg) : Prop := Fn g "_law_cut" ["_law_top", "_law_bottom"] 1 (spM (α := FrIn) (fun _ => []) (fun z => [tD g.K (.int z.1.1), tD g.K (.int z.1.2)]) (fun z => tD g.K (frD (cutM z.1.1 z.1.2))))
theorem sc__law_cut : FnScope ["_law_top", "_law_bottom", "_law_one", "_law_other"] ["_law_top", "_law_bottom"] (defScope sLawCut) := ⟨rfl, rfl, rfl, by decide +kernel, rfl, by decide +kernel, by decide +kernel⟩
theorem fn__law_cut {g : Pg} (T : Tx g) : FnT__law_cut g := by
  refine T.fn 52 39 (k := 0) (d := dLawCut) rfl rfl rfl rfl rfl sc__law_cut (fun _ => rfl) (fun _ _ _ _ _ _ us hl => match us, hl with | [_, _], _ => rfl) fun cdv Ar outer s H z hr => ?_
  have nd := sc__law_cut.nd
  obtain ⟨⟨t, b⟩, hb0, hl⟩ := z
  dsimp only at hb0 hl
  have e0 : Int.gcd (t.natAbs : Int) b = Int.gcd t b := by simp [Int.gcd]
  refine xb_cons (xs_par 2 3 (xa_cons (xe_abs (T.free 93 rfl) (xe_name (i := 0) rfl)) (xa_cons (xe_name (i := 1) rfl) xa_nil)) ?_ nd (by decide) rfl rfl (fun jj => ps_par rfl nd rfl rfl (by decide) rfl rfl (pa_w jj) (by rfl)))
  refine xb_cons (xs_while (γ := Int × Int) (fun c => ⟨[some (tD g.K (.int t)), some (tD g.K (.int b)), some (tD g.K (.int c.1)), some (tD g.K (.int c.2))], [], []⟩) (fun c => c.2.toNat) (fun c => 0 ≤ c.1 ∧ 0 ≤ c.2 ∧ Int.gcd c.1 c.2 = Int.gcd t b) ((t.natAbs : Int), b) ⟨Int.natCast_nonneg _, Int.le_of_lt hb0, e0⟩ ⟨Le.refl _, rfl, rfl⟩ (fun c => decide (0 < c.2)) (fun c wc => (xt_gt (xe_name (i := 3) rfl) xe_int)) (fun c wc hb => ?_) (fun c wc hb => ?_))
  · skip
    obtain ⟨h1, h2, h3⟩ := wc
    have h4 : 0 < c.2 := of_decide_eq_true hb
    refine xb_one (xs_par 2 3 (xa_cons (xe_name (i := 3) rfl) (xa_cons (xe_mod ?_ (xe_int1 (T.free 99 rfl) (xe_name (i := 2) rfl)) (xe_name (i := 3) rfl)) xa_nil)) ?_ nd (by decide) rfl rfl (fun jj => ps_par rfl nd rfl rfl (by decide) rfl rfl (pa_w jj) (by rfl)))
    · exact h4
    refine ⟨(c.2, c.1 % c.2), ?_, ⟨h2, Int.emod_nonneg _ (by omega), by rw [gcd_step h1 h4, h3]⟩, ⟨Le.refl _, rfl, rfl⟩⟩
    have := Int.emod_lt_of_pos c.1 h4
    have := Int.emod_nonneg c.1 (show c.2 ≠ 0 by omega)
    show (c.1 % c.2).toNat < c.2.toNat
    omega
  · skip
    obtain ⟨h1, h2, h3⟩ := wc
    have h4 : c.2 = 0 := by have := of_decide_eq_false hb; omega
    have h5 : c.1 = (Int.gcd t b : Int) := by
      rw [← h3, h4, Int.gcd_zero_right]
      omega
    have hp := gcd_pos_r (t := t) hb0
    have hq := gcd_lo (t := t) hb0 hl
    rw [← h5] at hp hq
    refine xb_one (xs_ret (T := tD g.K (frD (cutM t b))) (XE.toD (xe_tupD (ds := [.int _, .int _]) (xa_cons (xe_div ?_ ?_ (xe_name (i := 0) rfl) (xe_name (i := 2) rfl)) (xa_cons (xe_div ?_ ?_ (xe_name (i := 1) rfl) (xe_name (i := 2) rfl)) xa_nil))) ?_) rfl)
    · exact hp
    · exact hq
    · exact hp
    · exact hq
    · show PyData.tuple [.int (t / c.1), .int (b / c.1)] = _
      rw [h5]
      rfl
abbrev FnT__law_less (g : Pg) : Prop := Fn g "_law_less" ["_law_troop", "_law_prop"] 1 (spM (α := {z : List Int × Int // z.1.length ≤ 1000}) (fun _ => []) (fun z => [tD g.K (.tuple (z.1.1.map .int)), tD g.K (.int z.1.2)]) (fun z => tKt (withM z.1.1 z.1.2)))
theorem sc__law_less : FnScope ["_law_troop", "_law_prop", "_law_one"] ["_law_troop", "_law_prop"] (defScope sLawLess) := ⟨rfl, rfl, rfl, by decide +kernel, rfl, by decide +kernel, by decide +kernel⟩
theorem fn__law_less {g : Pg} (T : Tx g) : FnT__law_less g := by
  refine T.fn 60 47 (k := 0) (d := dLawLess) rfl rfl rfl rfl rfl sc__law_less (fun _ => rfl) (fun _ _ _ _ _ _ us hl => match us, hl with | [_, _], _ => rfl) fun cdv Ar outer s H z hr => ?_
  have nd := sc__law_less.nd
  refine xb_one (xs_ret (T := tKt (withM z.1.1 z.1.2)) (xe_tupOfK (T.free 94 rfl) (xe_lc [("_law_one", 2)] nd (fun j => pi_tup (pe_w j)) (fun _ => blkOk_by (sc := defScope sLawLess) (by show blkC ["_law_troop", "_law_prop", "_law_one"] _ _ _ = true; decide +kernel)) (fun jj => pg_nm 2 jj nd) (fun jj => pts_one (pt_w jj)) (xr_lcT (z.1.1) (PyData.int) (PyData.int) (fun i => !decide (i = z.1.2)) (fun i => [some (tD g.K (.tuple (z.1.1.map .int))), some (tD g.K (.int z.1.2)), some (tD g.K (.int i))]) ((xe_name (i := 0) rfl)) ?_ (fun b hb => (xg_name 2)) (by decide) (fun b hb => tr_one (xt_neI (xe_name (i := 2) rfl) (xe_name (i := 1) rfl))) (fun b hb hf => (xe_name (i := 2) rfl))))) rfl)
  exact Nat.lt_of_le_of_lt z.2 (by decide)

end Pf
end
section
set_option Elab.async false
set_option linter.all false
set_option maxRecDepth 100000
set_option maxHeartbeats 2000000
set_option exponentiation.threshold 5000
set_option pp.maxSteps 1200
namespace Pf
open PySem PySem.Spec PyProof.Rows L2 RZ
/-! ### calls that give a new list -/
theorem zo_zm {Z : Addr → Bool} {M : Ml} {O : Ol} : Zo (Zm Z M) O = Zm (Zo Z O) M := by
  funext a
  show ((Z a || inM M a) || inO O a) = ((Z a || inO O a) || inM M a)
  cases Z a <;> cases inM M a <;> cases inO O a <;> rfl
theorem amb_more {Z : Addr → Bool} {M : Ml} {H H' : Hp} {L : Addr} {ts : List Ty} (hA : Amb Z M H) (hL : H L = none) (f : Ex H H') (h' : H' L ≠ none) : Amb (Zo Z (oneO L ts)) M H' := by
  have A2 := hA.ex f
  refine ⟨fun p hp => ?_, fun a z => ?_, hA.nd, fun p hp => ?_⟩
  · obtain ⟨k, h1, h2⟩ := hA.memo p hp
    exact ⟨k, f _ _ h1, p.2.mono (ex_one hA hL (Fr.of_ex f)) h2⟩
  · unfold Zo inO at z
    rw [Bool.or_eq_true] at z
    rcases z with z | z
    · exact A2.here a z
    · have : L = a := by simpa using z
      rw [← this]; exact h'
  · unfold Zo inO
    rw [hA.off p hp, Bool.false_or]
    cases e : (oneO L ts).any fun q => q.1 == p.1 with
    | false => rfl
    | true =>
      have : L = p.1 := by simpa using e
      obtain ⟨k, h1, _⟩ := hA.memo p hp
      rw [← this, hL] at h1
      cases h1
theorem fr_free {Z : Addr → Bool} {M : Ml} {H H1 : Hp} {L : Addr} (hA : Amb Z M H1) (f : Fr M H H1) (hL : H1 L = none) : H L = none := by
  cases e : H L with
  | none => rfl
  | some o =>
    have n : inM M L = false := by
      cases e2 : inM M L with
      | false => rfl
      | true =>
        obtain ⟨r, hr, e3⟩ := inM_ex e2
        obtain ⟨k, g1, _⟩ := hA.memo r hr
        rw [e3, hL] at g1
        cases g1
    rw [f L o e n] at hL
    cases hL
section
variable {g : Pg} {C : Ct} {q q' : Sta} {P : Po} {e a b c o ix : Expr} {es : List Expr} {st : Stmt} {sts rest body : List Stmt} {pos p p2 p3 apos cpos : Pos} {T Ta Tb Tc : Ty} {Ts ts : List Ty} {x : Str} {i j k n : Nat} {M : Ml} {δ δ' : Sd} {ps ks : List Str} {ns : List Int} {α : Type} {A : α → List Ty} {Rn : α → Ty → Prop} {Ro : α → Addr → Ty → List Ty → Prop}
theorem spO_use {Z : Addr → Bool} {H H1 : Hp} {vs : List V} {Q : VK} {E : XK} (y : α) (hA : Amb Z M H1) (f1 : Fr M H H1) (hv : Al2 (out (Zm Z M) H1) (A y) vs) (k1 : ∀ T v H', Rn y T → Fr M H H' → Amb Z M H' → T.p (out (Zm Z M) H') v → Q v H')
    (k2 : ∀ L ts T v H', Ro y L T ts → H L = none → Fr M H H' → Amb (Zo Z (oneO L ts)) M H' → Ex (out (Zm Z M) H) (out (Zm (Zo Z (oneO L ts)) M) H') → KOk (out (Zm (Zo Z (oneO L ts)) M) H') H' L (.lst ts) → T.p (out (Zm (Zo Z (oneO L ts)) M) H') v → Q v H') : spO A Rn Ro vs H1 Q E := by
  refine ⟨Zm Z M, y, hv, amb_z hA, fun T v H' r ex t => k1 T v H' r (f1.trans (Fr.of_ex ex)) (hA.ex ex) t, fun L ts T v H' r hL ex kk t => ?_⟩
  rw [zo_zm] at kk t
  exact k2 L ts T v H' r (fr_free hA f1 hL) (f1.trans (Fr.of_ex ex)) (amb_more hA hL ex kk.some) (f1.out.trans (ex_one hA hL (Fr.of_ex ex))) kk t
theorem xer_call (F : Fn g x ps k (spO A Rn Ro)) (hr : ∀ i, Room k (C.A i)) (y : α) (ha : XA g C M δ (e :: es) (A y)) (hg : ∀ j, (C.env j).kindOf x = some .globalImplicit := by intro _; rfl) (hdb : (x == ("__debug__" : Str)) = false := by decide)
    (he : ∀ j, starEach (e :: es) (C.env j) = (false, eval e (C.env j)) :: starEach es (C.env j) := by intro _; rfl) (hpl : ∀ j, (backTo pos (starEach es (C.env j))).any (·.1) = false := by intro _; rfl) : XEr g C M δ (.Call (.Name x p) (e :: es) [] pos) (Rn y) (Ro y) := by
  obtain ⟨f, fd, h1, h2, h3, h4⟩ := F.ex
  intro Z σ H hsl hA Q k1 k2
  refine w_pe (t := tCall (spO A Rn Ro) [] E0 (wA g C (e :: es))) ?_ fun i => pe_call (X := C.X g i) h4 (hr i) (hg i) h1 h2 h3 .nil pass0 (pa_w i) hdb (he i) (hpl i)
  refine ha Z σ H hsl hA _ fun vs H1 f1 A1 t1 => ?_
  rw [List.append_nil]
  exact spO_use y A1 f1 t1 k1 k2
/-! ### dicts with texts as keys -/
def tRec (fs : List (Str × Ty)) : Ty := ⟨fun H v => ∃ a kvs, v = .ref a ∧ H a = some (.dK kvs) ∧ ∀ p ∈ fs, ∃ w, valV kvs (.inr p.1) = some w ∧ p.2.p H w, fun e ⟨a, kvs, h1, h2, h3⟩ => ⟨a, kvs, h1, e _ _ h2, fun p hp => by
  obtain ⟨w, h4, h5⟩ := h3 p hp
  exact ⟨w, h4, p.2.mono e h5⟩⟩⟩
theorem xe_rget {fs : List (Str × Ty)} {f : Str} {jj} {n : Nat} (hr : ∀ i, Room n (C.A i)) (hf : (f, T) ∈ fs) (ha : XE g C M δ a (tRec fs)) (hs : NoSl (.Constant (.str f) jj p2) := by intro _ _; rfl) : XE g C M δ (.Subscript a (.Constant (.str f) jj p2) pos) T := fun Z σ H hsl hA Q kk => by
  refine w_pe (t := tDGet (wE g C a) (tC (.str f))) ?_ fun i => pe_dget (by have := (hr i).un; show (C.A i).units + 1 < cLine; omega) (pe_w i) pe_str hs
  refine ha Z σ H hsl hA _ fun v H1 f1 A1 t1 => ?_
  obtain ⟨l, kvs, rfl, hl, h3⟩ := t1
  obtain ⟨w, h4, h5⟩ := h3 _ hf
  exact ⟨l, w, rfl, by rw [← h4]; exact DGet.k (k := .inr f) (out_sub _ _ hl), kk w H1 f1 A1 h5⟩
/-- {'..': x, '..': y, '..': z} of names -/
theorem xe_rec3 {f1 f2 f3 x1 x2 x3 : Str} {j1 j2 j3 : Nat} {q1 q2 q3 r1 r2 r3 : Pos} (i1 i2 i3 : Nat) (hne : f1 ≠ f2 ∧ f1 ≠ f3 ∧ f2 ≠ f3) (h1 : δ[i1]? = some (some Ta)) (h2 : δ[i2]? = some (some Tb)) (h3 : δ[i3]? = some (some Tc))
    (e1 : ∀ i, PE (C.X g i) (.Name x1 r1) (tVar i1)) (e2 : ∀ i, PE (C.X g i) (.Name x2 r2) (tVar i2)) (e3 : ∀ i, PE (C.X g i) (.Name x3 r3) (tVar i3)) :
    XE g C M δ (.Dict [some (.Constant (.str f1) j1 q1), some (.Constant (.str f2) j2 q2), some (.Constant (.str f3) j3 q3)] [.Name x1 r1, .Name x2 r2, .Name x3 r3] pos) (tRec [(f1, Ta), (f2, Tb), (f3, Tc)]) := fun Z σ H hsl hA Q kk => by
  refine w_pe (t := tDisp [(tC (.str f1), tVar i1), (tC (.str f2), tVar i2), (tC (.str f3), tVar i3)]) ?_ fun i => pe_disp (pps_cons pe_str (e1 i) (pps_cons pe_str (e2 i) (pps_cons pe_str (e3 i) pps_nil))) rfl rfl (by simp) (Nat.le_of_ble_eq_true rfl)
  intro l hl
  obtain ⟨v1, g1, t1⟩ := hsl.get h1
  obtain ⟨v2, g2, t2⟩ := hsl.get h2
  obtain ⟨v3, g3, t3⟩ := hsl.get h3
  refine ⟨v1, g1, v2, g2, v3, g3, upd_same, [(.inr f1, v1), (.inr f2, v2), (.inr f3, v3)], rfl, Nat.le_of_ble_eq_true rfl, ?_⟩
  have eu : upd (upd H l (.dK [])) l (.dK (mergeK [] [(.inr f1, v1), (.inr f2, v2), (.inr f3, v3)])) = upd H l (.dK (mergeK [] [(.inr f1, v1), (.inr f2, v2), (.inr f3, v3)])) := by
    funext a
    by_cases e : a = l
    · rw [e, upd_same, upd_same]
    · rw [upd_ne e, upd_ne e, upd_ne e]
  rw [eu]
  have ex : Ex (out (Zm Z M) H) (out (Zm Z M) (upd H l (.dK (mergeK [] [(.inr f1, v1), (.inr f2, v2), (.inr f3, v3)])))) := Fr.out (Fr.of_ex (Ex.new hl))
  have n12 : (Sum.inr f1 : Key) ≠ .inr f2 := fun z => hne.1 (Sum.inr.inj z)
  have n13 : (Sum.inr f1 : Key) ≠ .inr f3 := fun z => hne.2.1 (Sum.inr.inj z)
  have n23 : (Sum.inr f2 : Key) ≠ .inr f3 := fun z => hne.2.2 (Sum.inr.inj z)
  refine kk _ _ (Fr.of_ex (Ex.new hl)) (hA.new hl) ⟨l, _, rfl, hA.got hl, fun p hp => ?_⟩
  have hmk : mergeK [] [((.inr f1 : Key), v1), (.inr f2, v2), (.inr f3, v3)] = putK (putK (putK [] (.inr f1) v1) (.inr f2) v2) (.inr f3) v3 := rfl
  rcases List.mem_cons.mp hp with rfl | hp
  · exact ⟨v1, by rw [hmk, valV_put, if_neg n13, valV_put, if_neg n12, valV_put, if_pos rfl], Ta.mono ex t1⟩
  rcases List.mem_cons.mp hp with rfl | hp
  · exact ⟨v2, by rw [hmk, valV_put, if_neg n23, valV_put, if_pos rfl], Tb.mono ex t2⟩
  obtain rfl := List.mem_singleton.mp hp
  exact ⟨v3, by rw [hmk, valV_put, if_pos rfl], Tc.mono ex t3⟩
/-! ### a, b, c = a list -/
theorem xg_lst3 {K : PySem.W.Frag} {d d' d'' : PyData} {δ : Sd} {t t' t'' : TG} {δ1 δ2 δ3 : Sd} {ts ts' ts'' : List Nat} (h1 : XG t (tD K d) δ δ1 ts) (h2 : XG t' (tD K d') δ1 δ2 ts') (h3 : XG t'' (tD K d'') δ2 δ3 ts'') : XG (gLst K 3 (gCons t (gCons t' (gCons t'' gNil)))) (tD K (.list [d, d', d''])) δ δ3 (ts ++ (ts' ++ ts'')) := fun B H v σ Q e t0 s k => by
  obtain ⟨a, xs, rfl, hs, r⟩ := rp_lst t0
  cases r with
  | cons r1 r =>
    cases r with
    | cons r2 r =>
      cases r with
      | cons r3 r =>
        cases r
        exact ⟨a, _, rfl, SqL.of (e _ _ hs), rfl, _, _, rfl, h1 B H _ σ _ e r1 s fun σ1 s1 w1 => ⟨_, _, rfl, h2 B H _ σ1 _ e r2 s1 fun σ2 s2 w2 => ⟨_, _, rfl, h3 B H _ σ2 _ e r3 s2 fun σ3 s3 w3 => ⟨rfl, k σ3 s3 fun vs h => by
          rw [w3 vs fun i hi => h i (List.mem_append_right _ (List.mem_append_right _ hi)), w2 vs fun i hi => h i (List.mem_append_right _ (List.mem_append_left _ hi)), w1 vs fun i hi => h i (List.mem_append_left _ hi)]⟩⟩⟩⟩
/-! ### own lists and dicts: stores -/
theorem Al2.set {B : Hp} {T : Ty} {v : V} (hv : T.p B v) : ∀ {Ts : List Ty} {vs : List V} (m : Nat), Al2 B Ts vs → Al2 B (Ts.set m T) (vs.set m v)
  | _, _, _, .nil => .nil
  | _, _, 0, .cons _ r => .cons hv r
  | _, _, m + 1, .cons h r => .cons h (Al2.set hv m r)
/-- x[ix] = e -/
theorem xs_lput {O1 O2 : Ol} {l : Addr} {ii : Int} {m : Nat} (hO : q.O = O1 ++ (l, .lst ts) :: O2) (hx : q.δ[i]? = some (some (tAt l))) (h : XE g C q.M q.δ e T) (hix : XE g C q.M q.δ ix (tD g.K (.int ii))) (hn : ixN ts.length ii = some m) (k : P.nx { q with O := O1 ++ (l, .lst (ts.set m T)) :: O2 })
    (hv : ∀ j, PE (C.X g j) (.Name x p) (tVar i)) (has : ∀ j v, assign (.Subscript (.Name x p) ix p2) (C.env j) v = (do
      let ov ← holding [v] (eval (.Name x p) (C.env j))
      let iv ← holding [v, ov] (eval ix (C.env j))
      standAt p2
      holding [v, ov, iv] (setItem ov iv v)
      release [v, ov, iv] []) := by intro _ _; rfl) (hs : ∀ j, swapsWithSole [.Subscript (.Name x p) ix p2] e pos.line (C.env j) = pure false := by intro _; rfl) (hw : ∀ j, swappedStores [.Subscript (.Name x p) ix p2] e (C.env j) = pure none := by intro _; rfl)
    (h1 : ∀ j, (assignEach [.Subscript (.Name x p) ix p2] (C.env j)).map (·.2) = [assign (.Subscript (.Name x p) ix p2) (C.env j)] := by intro _; rfl) : XS g C q (.Assign [.Subscript (.Name x p) ix p2] e pos) P := fun Z M0 H0 G σ H D hh mm => by
  refine w_ps (t := tAsg (wE g C e) (gSub (tVar i) (wE g C ix) rSetL)) ?_ fun j => ps_asg (X := C.X g j) (pe_w j) (pg_sub (hv j) (pe_w j) set_list (has j)) (hs j) (hw j) (h1 j)
  have ml : (l, Kd.lst ts) ∈ q.O := by rw [hO]; simp
  refine hh.ev h fun v H1 hh1 t1 => ?_
  obtain ⟨v0, g1, g2⟩ := hh1.sl.get hx
  obtain rfl : v0 = .ref l := g2
  refine ⟨_, g1, (hh1.ghost t1).ev hix fun w H2 hh2 t2 => ?_⟩
  have t3 := hh2.gh _ List.mem_cons_self
  have hh3 := hh2.unghost
  obtain ⟨vs, hv1, hv2⟩ := hh3.own _ ml
  refine ⟨l, vs, ii, m, rfl, rp_int t2, hv1, by rw [hv2.length]; exact hn, mm.nx _ _ _ k (hh3.put hO fun B e => ⟨vs.set m v, upd_same, Al2.set (T.mono e t3) m (hv2.mono e)⟩)⟩
/-- d[key] = a truth, d an own dict -/
theorem xs_dputB {O1 O2 : Ol} {l : Addr} {kvs : List (List Key × V)} {bb : Bool} {n : Nat} (hr : ∀ i, Room n (C.A i)) (hO : q.O = O1 ++ (l, .dct kvs) :: O2) (hx : q.δ[i]? = some (some (tAt l))) (h : XE g C q.M q.δ e (tD g.K (.bool bb))) (hix : XE g C q.M q.δ ix (tKt ns)) (hz : kvs.length < 100000) (k : P.nx { q with O := O1 ++ (l, .dct (putK kvs (kI ns) (.bl bb))) :: O2 })
    (hv : ∀ j, PE (C.X g j) (.Name x p) (tVar i)) (hs : ∀ j, swapsWith e (some (.Subscript (.Name x p) ix p2)) pos.line (C.env j) = pure false := by intro _; rfl) : XS g C q (.Assign [.Subscript (.Name x p) ix p2] e pos) P := fun Z M0 H0 G σ H D hh mm => by
  refine w_ps (t := sDPut (tVar i) (wE g C ix) (wE g C e)) ?_ fun j => ps_dput (by have := (hr j).un; show (C.A j).units + 1 < cLine; omega) (hv j) (pe_w j) (pe_w j) (hs j)
  have ml : (l, Kd.dct kvs) ∈ q.O := by rw [hO]; simp
  refine hh.ev h fun v H1 hh1 t1 => ?_
  obtain rfl := rp_bl t1
  obtain ⟨v0, g1, g2⟩ := hh1.sl.get hx
  obtain rfl : v0 = .ref l := g2
  refine ⟨_, g1, hh1.ev hix fun w H2 hh2 t2 => ?_⟩
  obtain ⟨b, rfl, hb⟩ := t2
  have hk : H2 l = some (.dT kvs) := hh2.own _ ml
  exact ⟨l, _, rfl, DPut.t (k := kI ns) hk (by rw [kI_v]; exact out_sub _ _ hb) (Nat.lt_of_lt_of_le hz (by decide)), mm.nx _ _ _ k (hh2.put hO fun B e => upd_same)⟩
end
/-! ### tables -/
def putT (f : List Int → Bool) (kvs : List (List Key × V)) (l : List (List Int)) : List (List Key × V) := l.foldl (fun a k => putK a (kI k) (.bl (f k))) kvs
theorem putK_len {kvs : List (List Key × V)} {k : List Key} {v : V} : (putK kvs k v).length ≤ kvs.length + 1 := by
  unfold putK
  split
  · rw [List.length_map]; omega
  · rw [List.length_append, List.length_singleton]; omega
theorem putT_len (f : List Int → Bool) : ∀ (l : List (List Int)) (kvs : List (List Key × V)), (putT f kvs l).length ≤ kvs.length + l.length
  | [], kvs => Nat.le_refl _
  | k :: l, kvs => by
    have h1 := putT_len f l (putK kvs (kI k) (.bl (f k)))
    have h2 := putK_len (kvs := kvs) (k := kI k) (v := .bl (f k))
    show (putT f (putK kvs (kI k) (.bl (f k))) l).length ≤ _
    rw [List.length_cons]; omega
theorem putT_app (f : List Int → Bool) (kvs : List (List Key × V)) (l l' : List (List Int)) : putT f kvs (l ++ l') = putT f (putT f kvs l) l' := List.foldl_append ..
theorem putT_keep (f : List Int → Bool) (k : List Int) : ∀ (l : List (List Int)) (kvs : List (List Key × V)), valV kvs (kI k) = some (.bl (f k)) → valV (putT f kvs l) (kI k) = some (.bl (f k))
  | [], _, h => h
  | k' :: l, kvs, h => putT_keep f k l _ (by
    rw [valV_put]
    by_cases e : kI k = kI k'
    · rw [if_pos e, kI_inj e]
    · rw [if_neg e]; exact h)
theorem putT_at (f : List Int → Bool) {k : List Int} : ∀ {l : List (List Int)} {kvs : List (List Key × V)}, k ∈ l → valV (putT f kvs l) (kI k) = some (.bl (f k))
  | k' :: l, kvs, h => by
    rcases List.mem_cons.mp h with e | h
    · subst e
      exact putT_keep f k l _ (by rw [valV_put, if_pos rfl])
    · exact putT_at (l := l) f h
/-- a dict of truths that is changed no more -/
def tTab (f : List Int → Bool) (dom : List Int → Prop) : Ty := ⟨fun H v => ∃ a kvs, v = .ref a ∧ H a = some (.dT kvs) ∧ ∀ k, dom k → valV kvs (kI k) = some (.bl (f k)), fun e ⟨a, kvs, h1, h2, h3⟩ => ⟨a, kvs, h1, e _ _ h2, h3⟩⟩
section
variable {g : Pg} {C : Ct} {q q' : Sta} {P : Po} {e a b c o ix : Expr} {es : List Expr} {st : Stmt} {sts rest body : List Stmt} {pos p p2 p3 apos cpos : Pos} {T Ta Tb Tc : Ty} {Ts ts : List Ty} {x : Str} {i j k n : Nat} {M : Ml} {δ δ' : Sd} {ns : List Int}
theorem xe_tab {f : List Int → Bool} {dom : List Int → Prop} {n : Nat} (hr : ∀ i, Room n (C.A i)) (hd : dom ns) (ha : XE g C M δ a (tTab f dom)) (hb : XE g C M δ b (tKt ns)) (hs : NoSl b := by intro _ _; rfl) : XE g C M δ (.Subscript a b pos) (tD g.K (.bool (f ns))) := fun Z σ H hsl hA Q kk => by
  refine w_pe (t := tDGet (wE g C a) (wE g C b)) ?_ fun i => pe_dget (by have := (hr i).un; show (C.A i).units + 1 < cLine; omega) (pe_w i) (pe_w i) hs
  refine two ha hb hsl hA _ fun x y H' f1 A1 tx ty => ?_
  obtain ⟨l, kvs, rfl, hl, h3⟩ := tx
  obtain ⟨bb, rfl, hb'⟩ := ty
  exact ⟨l, _, rfl, by rw [← h3 ns hd]; exact DGet.t (k := kI ns) (out_sub _ _ hl) (by rw [kI_v]; exact out_sub _ _ hb'), kk _ H' f1 A1 (.bl _)⟩
/-- an own dict is changed no more -/
theorem xb_freezeT (i : Nat) {O1 O2 : Ol} {l : Addr} {kvs : List (List Key × V)} (f : List Int → Bool) (dom : List Int → Prop) (hO : q.O = O1 ++ (l, .dct kvs) :: O2) (hx : q.δ[i]? = some (some (tAt l))) (hd : ∀ k, dom k → valV kvs (kI k) = some (.bl (f k))) (k : XB g C { q with O := O1 ++ O2, δ := q.δ.set i (some (tTab f dom)) } sts P) : XB g C q sts P := fun Z M0 H0 G σ H D hh m => by
  have ml : (l, Kd.dct kvs) ∈ q.O := by rw [hO]; simp
  obtain ⟨v, h1, h2⟩ := hh.sl.get hx
  obtain rfl : v = .ref l := h2
  have hv1 : H l = some (.dT kvs) := hh.own _ ml
  have zz : ∀ a, Zo Z (O1 ++ O2) a = true → Zo Z q.O a = true := fun a z => by
    unfold Zo inO at z ⊢
    rw [hO]
    rw [List.any_append] at z ⊢
    rw [List.any_cons]
    revert z
    cases Z a <;> cases (O1.any fun p => p.1 == a) <;> cases (O2.any fun p => p.1 == a) <;> simp
  have sb : List.Sublist (O1 ++ O2) q.O := by
    rw [hO]
    exact List.Sublist.append_left (List.sublist_cons_self _ _) _
  have ex : Ex (stb Z q H) (stb Z { q with O := O1 ++ O2, δ := q.δ.set i (some (tTab f dom)) } H) := out_mono (fun a z => .inl (by
    unfold Zm at z ⊢
    rw [Bool.or_eq_true] at z ⊢
    exact z.imp (zz a) id)) fun _ _ _ e => e
  have zl : Zm (Zo Z (O1 ++ O2)) q.M l = false := by
    have n0 : inO (O1 ++ O2) l = false := by
      cases e : inO (O1 ++ O2) l with
      | false => rfl
      | true =>
        obtain ⟨p, hp, e1⟩ := inO_ex e
        have nd := hh.nd
        rw [hO, List.map_append, List.map_cons] at nd
        obtain ⟨n1, n2, n3⟩ := List.nodup_append.mp nd
        obtain ⟨n4, n5⟩ := List.nodup_cons.mp n2
        rcases List.mem_append.mp hp with hp | hp
        · exact absurd e1 (n3 p.1 (List.mem_map_of_mem hp) l (by simp))
        · exact absurd (List.mem_map.mpr ⟨p, hp, e1⟩) n4
    have n1 : Z l = false := hh.off _ ml
    have n2 : inM q.M l = false := by
      cases e : inM q.M l with
      | false => rfl
      | true =>
        obtain ⟨p, hp, e1⟩ := inM_ex e
        have z := hh.amb.off p hp
        rw [e1] at z
        unfold Zo at z
        have z2 := inO_of ml
        rw [show inO q.O l = true from z2, Bool.or_true] at z
        cases z
    unfold Zm Zo
    rw [n1, n0, n2]
    rfl
  have tl : (tTab f dom).p (stb Z { q with O := O1 ++ O2, δ := q.δ.set i (some (tTab f dom)) } H) (.ref l) := ⟨l, kvs, rfl, by
    show out (Zm (Zo Z (O1 ++ O2)) q.M) H l = _
    rw [out_at zl]
    exact hv1, hd⟩
  refine k Z M0 H0 G σ H D ⟨?_, ⟨fun p hp => ?_, fun a z => hh.amb.here a (zz a z), hh.amb.nd, fun p hp => ?_⟩, fun p hp => (hh.own p (sb.subset hp)).mono ex fun _ e => e, (sb.map _).nodup hh.nd, fun p hp => hh.off p (sb.subset hp), hh.fr, fun p hp => hh.newO p (sb.subset hp), hh.newM, hh.subM, fun p hp => p.2.mono ex (hh.gh p hp)⟩ m
  · have h3 := Sl.set tl i (hh.sl.mono ex)
    have e4 : σ.set i (some (.ref l)) = σ := by
      apply List.ext_getElem?
      intro n
      by_cases e : i = n
      · subst e
        rw [h1, List.getElem?_set_self (List.getElem?_eq_some_iff.mp h1).1]
      · rw [List.getElem?_set_ne e]
    rw [e4] at h3
    exact h3
  · obtain ⟨k, h1, h2⟩ := hh.amb.memo p hp
    exact ⟨k, h1, p.2.mono ex h2⟩
  · cases e : Zo Z (O1 ++ O2) p.1 with
    | false => rfl
    | true =>
      have z := hh.amb.off p hp
      rw [zz _ e] at z
      cases z
end
section
variable {g : Pg} {x : Str} {ps N : List Str} {k : Nat} {α : Type} {A : α → List Ty} {Rn : α → Ty → Prop} {Ro : α → Addr → Ty → List Ty → Prop}
theorem Tx.fnO (T : Tx g) (i j : Nat) {d : He.DefD} (hd : fnL[i]? = some d) (hx : faL[j]? = some (.glo x)) (ha : d.at_ = (x, none)) (h1 : d.dfl = []) (h2 : d.kwd = []) (S : FnScope N ps d.scope) (len : ∀ z, (A z).length = ps.length)
    (bind : ∀ (kV doc pm : Value) (an : Option Addr) (cdv ct : Value) (us : List Value), us.length = ps.length → bindArgs (PySem.W.fnOf d.name d.qual d.params d.body d.scope .none kV doc pm an cdv ct) ⟨us, []⟩ = pure (ps.zip us))
    (hb : ∀ (cdv : Value) (Ar : Around) (outer : List Env) (s : Shared) (H : Hp) (z : α), Room k (Ar.deeper (envOfC d.qual d.scope s.heap.objs.size (He.ga g.K x) cdv)) →
      XBr g (ctOf (cxOf CX0 g.P g.w g.K g.mg g.base N d.qual d.scope (He.ga g.K x) cdv Ar outer s H E0)) (st0 N (A z) []) d.body (Rn z) (Ro z)) : Fn g x ps (k + 1) (spO A Rn Ro) := by
  obtain ⟨fd, F⟩ := T.says.def_ i hd
  have e1 : d.dvs g.K = [] := by unfold He.DefD.dvs; rw [h1]; rfl
  have e2 : d.kws g.K = [] := by unfold He.DefD.kws; rw [h2]; rfl
  have e3 : He.fAd g.K d.at_ = He.ga g.K x := by rw [ha]; rfl
  rw [e1, e2, e3] at F
  exact ⟨_, fd, T.glo j hx, F.kp, FunD.bindsN F bind, fn_okO F S len hb⟩
end
end Pf
end
section
set_option Elab.async false
set_option linter.all false
set_option maxRecDepth 100000
set_option maxHeartbeats 2000000
set_option exponentiation.threshold 5000
set_option pp.maxSteps 1200
namespace Pf
open PySem PySem.Spec PyProof.Rows L2 RZ
section
variable {g : Pg} {C : Ct} {q q' : Sta} {st : Stmt} {rest : List Stmt} {Kr : Ty → Prop} {Ko : Addr → Ty → List Ty → Prop}
theorem XBr.sub (h : XBr g C q' rest Kr Ko) (s : Sub q q') : XBr g C q rest Kr Ko := fun Z M0 H0 G σ H D hh m1 m2 => h Z M0 H0 G σ H D (hh.sub s) m1 m2
theorem xbr_to (q1 : Sta) (h : XS g C q st { nx := fun q' => Sub q' q1, rt := Kr }) (h2 : XBr g C q1 rest Kr Ko) : XBr g C q (st :: rest) Kr Ko := xbr_cons fun Z M0 H0 G σ H D hh m => h Z M0 H0 G σ H D hh ⟨fun q' σ H n h' => m.nx q' σ H (h2.sub n) h', m.rt, fun _ _ _ z _ => z.elim, fun _ _ _ z _ => z.elim⟩
end
/-! ### digits -/
def dgA (num : Int) (k : Nat) : Int := (num * 48271 + 30103 * (k : Int) + 11) % 2147483647
def dgB (a : Int) : Int := a * (a / 1009 + 69621) % 2147483629
def dgS (s : List Int × Int × Int) (k : Nat) : List Int × Int × Int :=
  if 0 < s.2.1 then (s.1 ++ [s.2.1 % 1009], s.2.1 / 1009, dgB (dgA s.2.2 k)) else (s.1 ++ [dgB (dgA s.2.2 k) / 7 % 1009], s.2.1, dgB (dgA s.2.2 k))
def dgR (c : Int) : Int := if 10 ^ 18 ≤ c then c else 0
def dgI (c : Int) : Nat → List Int × Int × Int
  | 0 => ([], dgR c, c % 2147483647)
  | k + 1 => dgS (dgI c k) k
def digL (c : Int) : List Int := (dgI c 140).1
def DgOk (ds : List Int) : Prop := ds.length = 140 ∧ ∀ d ∈ ds, 0 ≤ d ∧ d < 1009
theorem dgI_ok (c : Int) : ∀ n, (dgI c n).1.length = n ∧ (∀ d ∈ (dgI c n).1, 0 ≤ d ∧ d < 1009) ∧ 0 ≤ (dgI c n).2.2 ∧ (dgI c n).2.2 < 2147483647
  | 0 => ⟨rfl, (fun d h => nomatch h), Int.emod_nonneg _ (by decide), Int.emod_lt_of_pos _ (by decide)⟩
  | n + 1 => by
    obtain ⟨h1, h2, h3, h4⟩ := dgI_ok c n
    have b1 : 0 ≤ dgB (dgA (dgI c n).2.2 n) := Int.emod_nonneg _ (by decide)
    have b2 : dgB (dgA (dgI c n).2.2 n) < 2147483629 := Int.emod_lt_of_pos _ (by decide)
    show (dgS (dgI c n) n).1.length = n + 1 ∧ (∀ d ∈ (dgS (dgI c n) n).1, _) ∧ 0 ≤ (dgS (dgI c n) n).2.2 ∧ (dgS (dgI c n) n).2.2 < _
    unfold dgS
    split
    · refine ⟨by simp [h1], fun d hd => ?_, b1, Int.lt_trans b2 (by decide)⟩
      rcases List.mem_append.mp hd with hd | hd
      · exact h2 d hd
      · rw [List.mem_singleton.mp hd]
        exact ⟨Int.emod_nonneg _ (by decide), Int.emod_lt_of_pos _ (by decide)⟩
    · refine ⟨by simp [h1], fun d hd => ?_, b1, Int.lt_trans b2 (by decide)⟩
      rcases List.mem_append.mp hd with hd | hd
      · exact h2 d hd
      · rw [List.mem_singleton.mp hd]
        exact ⟨Int.emod_nonneg _ (by decide), Int.emod_lt_of_pos _ (by decide)⟩
theorem digL_ok (c : Int) : DgOk (digL c) := ⟨(dgI_ok c 140).1, (dgI_ok c 140).2.1⟩
theorem lo_nn {i : Int} (h0 : 0 ≤ i) (h : i < 2 ^ 64) : Lo i := Lo.of (n := 64) (by omega) (by decide)
abbrev FnT__law_digits (g : Pg) : Prop := Fn g "_law_digits" ["_law_cell_here", "_law_many"] 1 (spO (α := Int) (fun c => [tD g.K (.int c), tD g.K (.int 140)]) (fun _ _ => False) (fun c L T ts => T = tAt L ∧ ts = ((digL c).map PyData.int).map (tD g.K)))
theorem sc__law_digits : FnScope ["_law_cell_here", "_law_many", "_law_row", "_law_rest", "_law_number", "_law_k"] ["_law_cell_here", "_law_many"] (defScope sLawDigits) := ⟨rfl, rfl, rfl, by decide +kernel, rfl, by decide +kernel, by decide +kernel⟩
theorem fn__law_digits {g : Pg} (T : Tx g) : FnT__law_digits g := by
  refine T.fnO 51 38 (k := 0) (d := dLawDigits) rfl rfl rfl rfl rfl sc__law_digits (fun _ => rfl) (fun _ _ _ _ _ _ us hl => match us, hl with | [_, _], _ => rfl) fun cdv Ar outer s H c hr => ?_
  have nd := sc__law_digits.nd
  refine xbr_cons (xs_nil 2 (fun la => ?_) nd)
  refine xbr_cons (xs_set 3 xe_int ?_ nd)
  refine xbr_to ⟨[some (tD g.K (.int c)), some (tD g.K (.int 140)), some (tAt la), some (tD g.K (.int (dgR c))), none, none], [(la, .lst [])], []⟩ (xs_if (xt_ge (xe_name (i := 0) rfl) (xe_pow (by decide) xe_int xe_int)) (fun hb => ?_) (fun hb => ?_)) ?_
  · refine xb_one (xs_set 3 (T := tD g.K (.int (dgR c))) (XE.toD (xe_name (i := 0) rfl) ?_) ⟨Le.refl _, rfl, rfl⟩ nd)
    have h1 : (10 : Int) ^ 18 ≤ c := of_decide_eq_true hb
    unfold dgR
    rw [if_pos h1]
  · refine xb_nil ?_
    have h1 : ¬ (10 : Int) ^ 18 ≤ c := of_decide_eq_false hb
    have e : dgR c = 0 := by unfold dgR; rw [if_neg h1]
    rw [e]
    exact ⟨Le.refl _, rfl, rfl⟩
  refine xbr_cons (xs_set 4 (T := tD g.K (.int (c % 2147483647))) (xe_mod (by decide) (xe_int1 (T.free 99 rfl) (xe_name (i := 0) rfl)) xe_int) ?_ nd)
  refine xbr_cons (xs_forR 5 (n := 140) (by decide) (fun n => ⟨[some (tD g.K (.int c)), some (tD g.K (.int 140)), some (tAt la), some (tD g.K (.int (dgI c n).2.1)), some (tD g.K (.int (dgI c n).2.2)), none], [(la, .lst (((dgI c n).1.map PyData.int).map (tD g.K)))], []⟩) (T.free 97 rfl) (xe_name (i := 1) rfl) ⟨Le.refl _, rfl, rfl⟩ (fun n hn => ?_) ?_ nd)
  · obtain ⟨h1, h2, h3, h4⟩ := dgI_ok c n
    have a1 : 0 ≤ dgA (dgI c n).2.2 n := Int.emod_nonneg _ (by decide)
    have a2 : dgA (dgI c n).2.2 n < 2147483647 := Int.emod_lt_of_pos _ (by decide)
    have a3 : 0 ≤ dgA (dgI c n).2.2 n / 1009 := Int.ediv_nonneg a1 (by decide)
    have a4 : dgA (dgI c n).2.2 n / 1009 ≤ dgA (dgI c n).2.2 n := Int.ediv_le_self _ a1
    have b1 : 0 ≤ dgB (dgA (dgI c n).2.2 n) := Int.emod_nonneg _ (by decide)
    have b2 : dgB (dgA (dgI c n).2.2 n) < 2147483629 := Int.emod_lt_of_pos _ (by decide)
    have lk : Lo (n : Int) := lo_nn (by omega) (by omega)
    have l1 : Lo (dgI c n).2.2 := lo_nn h3 (by omega)
    have l2 : Lo (dgA (dgI c n).2.2 n) := lo_nn a1 (by omega)
    have l3 : Lo (dgA (dgI c n).2.2 n / 1009 + 69621) := lo_nn (by omega) (by omega)
    have k1 : Lo 48271 := lo_nn (by decide) (by decide)
    have k2 : Lo 30103 := lo_nn (by decide) (by decide)
    have k3 : Lo 1009 := lo_nn (by decide) (by decide)
    have k4 : Lo 7 := lo_nn (by decide) (by decide)
    refine xb_cons (xs_set 4 (T := tD g.K (.int (dgA (dgI c n).2.2 n))) (xe_mod (by decide) (xe_int1 (T.free 99 rfl) (xe_add (xe_add (xe_mul l1 k1 (xe_name (i := 4) rfl) xe_int) (xe_mul k2 lk xe_int (xe_name (i := 5) rfl))) xe_int)) xe_int) ?_ nd)
    refine xb_cons (xs_set 4 (T := tD g.K (.int (dgB (dgA (dgI c n).2.2 n)))) (xe_mod (by decide) (xe_int1 (T.free 99 rfl) (xe_mul l2 l3 (xe_name (i := 4) rfl) (xe_add (xe_div (by decide) k3 (xe_name (i := 4) rfl) xe_int) xe_int))) xe_int) ?_ nd)
    refine xb_one (xs_if (xt_gt (xe_name (i := 3) rfl) xe_int) (fun hb => ?_) (fun hb => ?_))
    · have hb' : 0 < (dgI c n).2.1 := of_decide_eq_true hb
      have e : dgI c (n + 1) = ((dgI c n).1 ++ [(dgI c n).2.1 % 1009], (dgI c n).2.1 / 1009, dgB (dgA (dgI c n).2.2 n)) := by
        show dgS _ _ = _
        unfold dgS
        rw [if_pos hb']
      refine xb_cons (xs_app (i := 2) (O1 := []) (O2 := []) rfl rfl (xe_mod (by decide) (xe_int1 (T.free 99 rfl) (xe_name (i := 3) rfl)) xe_int) (by simp only [List.length_map]; omega) ?_)
      refine xb_one (xs_set 3 (T := tD g.K (.int ((dgI c n).2.1 / 1009))) (xe_div (by decide) k3 (xe_name (i := 3) rfl) xe_int) ?_ nd)
      rw [e]
      exact ⟨.is (.is (.is (.is (.is (.no .nil))))), by simp, rfl⟩
    · have hb' : ¬ 0 < (dgI c n).2.1 := of_decide_eq_false hb
      have e : dgI c (n + 1) = ((dgI c n).1 ++ [dgB (dgA (dgI c n).2.2 n) / 7 % 1009], (dgI c n).2.1, dgB (dgA (dgI c n).2.2 n)) := by
        show dgS _ _ = _
        unfold dgS
        rw [if_neg hb']
      refine xb_one (xs_app (i := 2) (O1 := []) (O2 := []) rfl rfl (xe_mod (by decide) (xe_int1 (T.free 99 rfl) (xe_div (by decide) k4 (xe_name (i := 4) rfl) xe_int)) xe_int) (by simp only [List.length_map]; omega) ?_)
      rw [e]
      exact ⟨.is (.is (.is (.is (.is (.no .nil))))), by simp, rfl⟩
  · exact xbr_own (L := la) (ts := ((digL c).map PyData.int).map (tD g.K)) (xe_name (i := 2) rfl) rfl ⟨rfl, rfl⟩
end Pf
end
section
set_option Elab.async false
set_option linter.all false
set_option maxRecDepth 100000
set_option maxHeartbeats 2000000
set_option exponentiation.threshold 5000
set_option pp.maxSteps 1200
namespace Pf
open PySem PySem.Spec PyProof.Rows L2 RZ
/-! ### the same fraction -/
def Sm (a b : Int × Int) : Prop := a.1 * b.2 = b.1 * a.2
theorem sm_refl (a : Int × Int) : Sm a a := rfl
theorem sm_symm {a b : Int × Int} (h : Sm a b) : Sm b a := Eq.symm h
theorem sm_trans {a b c : Int × Int} (hb : 0 < b.2) (h1 : Sm a b) (h2 : Sm b c) : Sm a c := by
  unfold Sm at *
  have e : a.1 * c.2 * b.2 = c.1 * a.2 * b.2 := by grind
  exact Int.eq_of_mul_eq_mul_right (by omega) e
theorem cut_sm {t b : Int} (hb : 0 < b) : Sm (cutM t b) (t, b) := by
  have hg := gcd_pos_r (t := t) hb
  obtain ⟨x, hx⟩ := Int.gcd_dvd_left t b
  obtain ⟨y, hy⟩ := Int.gcd_dvd_right t b
  have e1 : t / (Int.gcd t b : Int) = x := by
    conv => lhs; lhs; rw [hx]
    exact Int.mul_ediv_cancel_left x (by omega)
  have e2 : b / (Int.gcd t b : Int) = y := by
    conv => lhs; lhs; rw [hy]
    exact Int.mul_ediv_cancel_left y (by omega)
  show t / (Int.gcd t b : Int) * b = t * (b / (Int.gcd t b : Int))
  rw [e1, e2]
  generalize (Int.gcd t b : Int) = k at hx hy
  grind
theorem cut_pos {t b : Int} (hb : 0 < b) : 0 < (cutM t b).2 := Int.ediv_pos_of_pos_of_dvd hb (Int.le_of_lt (gcd_pos_r hb)) (Int.gcd_dvd_right t b)
theorem plus_pos {a b : Int × Int} (ha : 0 < a.2) (hb : 0 < b.2) : 0 < (plusM a b).2 := cut_pos (Int.mul_pos ha hb)
theorem plus_sm {a b a' b' : Int × Int} (ha : 0 < a.2) (hb : 0 < b.2) (ha' : 0 < a'.2) (hb' : 0 < b'.2) (h1 : Sm a a') (h2 : Sm b b') : Sm (plusM a b) (plusM a' b') := by
  have c1 : Sm (plusM a b) (a.1 * b.2 + b.1 * a.2, a.2 * b.2) := cut_sm (Int.mul_pos ha hb)
  have c2 : Sm (plusM a' b') (a'.1 * b'.2 + b'.1 * a'.2, a'.2 * b'.2) := cut_sm (Int.mul_pos ha' hb')
  have p1 : 0 < a.2 * b.2 := Int.mul_pos ha hb
  have p2 : 0 < a'.2 * b'.2 := Int.mul_pos ha' hb'
  refine sm_trans p1 c1 (sm_trans p2 ?_ (sm_symm c2))
  unfold Sm at *
  show (a.1 * b.2 + b.1 * a.2) * (a'.2 * b'.2) = (a'.1 * b'.2 + b'.1 * a'.2) * (a.2 * b.2)
  grind
theorem plus_0 {a z : Int × Int} (ha : 0 < a.2) (hz : 0 < z.2) (h : z.1 = 0) : Sm (plusM a z) a := by
  have c1 : Sm (plusM a z) (a.1 * z.2 + z.1 * a.2, a.2 * z.2) := cut_sm (Int.mul_pos ha hz)
  refine sm_trans (Int.mul_pos ha hz) c1 ?_
  unfold Sm
  show (a.1 * z.2 + z.1 * a.2) * a.2 = a.1 * (a.2 * z.2)
  rw [h]
  grind
theorem times_pos {a b : Int × Int} (ha : 0 < a.2) (hb : 0 < b.2) : 0 < (timesM a b).2 := cut_pos (Int.mul_pos ha hb)
/-! ### what the law lays on a prop -/
def ctrM (low here high : Int) (w : (Int × Int) × (Int × Int)) : Option (Int × Int) :=
  if low * w.1.2 < w.1.1 ∧ w.1.1 ≤ here * w.1.2 then some (cutM (w.2.1 * (w.1.1 - low * w.1.2)) (w.2.2 * w.1.2 * (here - low)))
  else if here * w.1.2 < w.1.1 ∧ w.1.1 < high * w.1.2 then some (cutM (w.2.1 * (high * w.1.2 - w.1.1)) (w.2.2 * w.1.2 * (high - here)))
  else none
def loadL (W : Wd) (l p r : Int) (n : Nat) : List (Int × Int) := (0, 1) :: (W.wts.take n).filterMap (ctrM (placeM W l) (placeM W p) (placeM W r))
def loadM (W : Wd) (l p r : Int) : Int × Int := sumM (loadL W l p r W.wts.length)
theorem sum_sm {α : Type} (c : α → Option (Int × Int)) (d : α → Int × Int) : ∀ (l : List α) (a a' : Int × Int), 0 < a.2 → 0 < a'.2 → Sm a a' → (∀ w ∈ l, 0 < (d w).2 ∧ (∀ x, c w = some x → 0 < x.2 ∧ Sm x (d w)) ∧ (c w = none → (d w).1 = 0)) →
    Sm ((l.filterMap c).foldl plusM a) ((l.map d).foldl plusM a') ∧ 0 < ((l.filterMap c).foldl plusM a).2 ∧ 0 < ((l.map d).foldl plusM a').2
  | [], a, a', h1, h2, h3, _ => ⟨h3, h1, h2⟩
  | w :: l, a, a', h1, h2, h3, h => by
    obtain ⟨d1, d2, d3⟩ := h w List.mem_cons_self
    have hr := fun x hx => h x (List.mem_cons_of_mem w hx)
    cases e : c w with
    | none =>
      rw [List.filterMap_cons_none e, List.map_cons, List.foldl_cons]
      exact sum_sm c d l a _ h1 (plus_pos h2 d1) (sm_trans h2 h3 (sm_symm (plus_0 h2 d1 (d3 e)))) hr
    | some x =>
      obtain ⟨x1, x2⟩ := d2 x e
      rw [List.filterMap_cons_some e, List.map_cons, List.foldl_cons, List.foldl_cons]
      exact sum_sm c d l _ _ (plus_pos h1 x1) (plus_pos h2 d1) (plus_sm h1 x1 h2 d1 h3 x2) hr
theorem slope_sm {lo hi : Int} {s : Int × Int} (h : 0 < hi - lo) (hs : 0 < s.2) : 0 < (slopeM lo hi s).2 ∧ Sm (slopeM lo hi s) (s.1 - lo * s.2, s.2 * (hi - lo)) := by
  have p1 : 0 < s.2 * 1 := by omega
  have c1 : Sm (lessM s (lo, 1)) (s.1 * 1 - lo * s.2, s.2 * 1) := cut_sm p1
  have p2 : 0 < (lessM s (lo, 1)).2 := cut_pos p1
  have p3 : 0 < (lessM s (lo, 1)).2 * (hi - lo) := Int.mul_pos p2 h
  have c2 : Sm (slopeM lo hi s) ((lessM s (lo, 1)).1 * 1, (lessM s (lo, 1)).2 * (hi - lo)) := cut_sm p3
  refine ⟨cut_pos p3, sm_trans p3 c2 ?_⟩
  unfold Sm at c1 ⊢
  dsimp only at c1 ⊢
  generalize lessM s (lo, 1) = x at *
  grind
theorem less1_sm {y : Int × Int} {t b : Int} (hy : 0 < y.2) (hb : 0 < b) (h : Sm y (t, b)) : 0 < (lessM (1, 1) y).2 ∧ Sm (lessM (1, 1) y) (b - t, b) := by
  have p1 : 0 < (1 : Int) * y.2 := by omega
  have c1 : Sm (lessM (1, 1) y) (1 * y.2 - y.1 * 1, 1 * y.2) := cut_sm p1
  refine ⟨cut_pos p1, sm_trans p1 c1 ?_⟩
  unfold Sm at h ⊢
  dsimp only at h ⊢
  grind
theorem times_sm {w y : Int × Int} {t b : Int} (hw : 0 < w.2) (hy : 0 < y.2) (hb : 0 < b) (h : Sm y (t, b)) : Sm (timesM w y) (w.1 * t, w.2 * b) := by
  have p1 : 0 < w.2 * y.2 := Int.mul_pos hw hy
  refine sm_trans p1 (cut_sm p1 : Sm (timesM w y) (w.1 * y.1, w.2 * y.2)) ?_
  unfold Sm at h ⊢
  dsimp only at h ⊢
  grind
theorem ctr_one {W : Wd} (hW : WOk W) {l p r : Int} (ht : TrOk W l p r) {w : (Int × Int) × (Int × Int)} (hw : w ∈ W.wts) : 0 < (timesM w.2 (shareM W l p r w.1)).2 ∧ (∀ x, ctrM (placeM W l) (placeM W p) (placeM W r) w = some x → 0 < x.2 ∧ Sm x (timesM w.2 (shareM W l p r w.1))) ∧
    (ctrM (placeM W l) (placeM W p) (placeM W r) w = none → (timesM w.2 (shareM W l p r w.1)).1 = 0) := by
  obtain ⟨⟨s1, sg⟩, s2, s3⟩ := hW.sp w hw
  obtain ⟨⟨w1, wg⟩, w2⟩ := hW.wt w hw
  have hb : 0 < w.1.2 := s1.1
  have hv : 0 < w.2.2 := w1.1
  have q1 := place_lt2 hW ht.h1 ht.h2 (by have := ht.h3; have := ht.h4; omega)
  have q2 := place_lt2 hW (by have := ht.h1; have := ht.h2; omega) ht.h3 ht.h4
  have sh := share_fb hW ht s1
  have tp : 0 < (timesM w.2 (shareM W l p r w.1)).2 := times_pos hv sh.1
  refine ⟨tp, ?_⟩
  have zero : shareM W l p r w.1 = (0, 1) → (timesM w.2 (shareM W l p r w.1)).1 = 0 := fun e => by
    rw [e]
    show w.2.1 * 0 / _ = 0
    rw [Int.mul_zero, Int.zero_ediv]
  unfold ctrM
  unfold shareM at zero ⊢
  generalize placeM W l = lo at *
  generalize placeM W p = he at *
  generalize placeM W r = hi at *
  obtain ⟨⟨t, b⟩, ⟨m, k⟩⟩ := w
  dsimp only at *
  have pk1 : 0 < k * b * (he - lo) := Int.mul_pos (Int.mul_pos hv hb) q1
  have pk2 : 0 < k * b * (hi - he) := Int.mul_pos (Int.mul_pos hv hb) q2
  by_cases c1 : (t, b) = (he, (1 : Int))
  · obtain ⟨rfl, rfl⟩ := Prod.mk.inj c1
    rw [if_pos (show lo * 1 < t ∧ t ≤ t * 1 by omega), if_pos rfl]
    refine ⟨fun x hx => ?_, fun h => nomatch h⟩
    obtain rfl := Option.some.inj hx
    refine ⟨cut_pos pk1, sm_trans pk1 (cut_sm pk1) ?_⟩
    have h1 := times_sm (w := (m, k)) (y := (1, 1)) (t := 1) (b := 1) hv (by decide) (by decide) rfl
    refine sm_trans (b := (m * 1, k * 1)) (by show 0 < k * 1; omega) ?_ (sm_symm h1)
    unfold Sm
    dsimp only
    grind
  · rw [if_neg c1]
    rw [if_neg c1] at zero
    by_cases c2 : belowM (t, b) (he, 1) = true
    · have d2 : t * 1 < he * b := of_decide_eq_true c2
      rw [if_pos c2]
      rw [if_pos c2] at zero
      by_cases c3 : belowM (lo, 1) (t, b) = true
      · have d3 : lo * b < t * 1 := of_decide_eq_true c3
        rw [if_pos c3, if_pos (show lo * b < t ∧ t ≤ he * b by omega)]
        refine ⟨fun x hx => ?_, fun h => nomatch h⟩
        obtain rfl := Option.some.inj hx
        obtain ⟨y1, y2⟩ := slope_sm (lo := lo) (hi := he) (s := (t, b)) q1 hb
        refine ⟨cut_pos pk1, sm_trans pk1 (cut_sm pk1) ?_⟩
        have pb : 0 < b * (he - lo) := Int.mul_pos hb q1
        refine sm_trans (b := (m * (t - lo * b), k * (b * (he - lo)))) (Int.mul_pos hv pb) ?_ (sm_symm (times_sm (w := (m, k)) hv y1 pb y2))
        unfold Sm
        dsimp only
        grind
      · have d3 : ¬ lo * b < t * 1 := of_decide_eq_false (Bool.eq_false_iff.mpr c3)
        rw [if_neg c3] at zero
        rw [if_neg c3, if_neg (show ¬ (lo * b < t ∧ t ≤ he * b) by omega), if_neg (show ¬ (he * b < t ∧ t < hi * b) by omega)]
        exact ⟨(fun x hx => nomatch hx), fun _ => zero rfl⟩
    · have d2 : ¬ t * 1 < he * b := of_decide_eq_false (Bool.eq_false_iff.mpr c2)
      have d4 : t ≠ he * b := fun e => by
        apply c1
        have g1 : Int.gcd t b = 1 := sg
        have hd : b ∣ t := ⟨he, by rw [e, Int.mul_comm]⟩
        have g2 : b ∣ (Int.gcd t b : Int) := Int.dvd_coe_gcd hd (Int.dvd_refl b)
        rw [g1] at g2
        have g3 := Int.le_of_dvd (by decide) g2
        have b1 : b = 1 := by omega
        rw [b1] at e
        rw [b1, e, Int.mul_one]
      rw [if_neg c2]
      rw [if_neg c2] at zero
      rw [if_neg (show ¬ (lo * b < t ∧ t ≤ he * b) by omega)]
      by_cases c3 : belowM (t, b) (hi, 1) = true
      · have d3 : t * 1 < hi * b := of_decide_eq_true c3
        rw [if_pos c3, if_pos (show he * b < t ∧ t < hi * b by omega)]
        refine ⟨fun x hx => ?_, fun h => nomatch h⟩
        obtain rfl := Option.some.inj hx
        obtain ⟨y1, y2⟩ := slope_sm (lo := he) (hi := hi) (s := (t, b)) q2 hb
        have pb : 0 < b * (hi - he) := Int.mul_pos hb q2
        obtain ⟨z1, z2⟩ := less1_sm y1 pb y2
        refine ⟨cut_pos pk2, sm_trans pk2 (cut_sm pk2) ?_⟩
        refine sm_trans (b := (m * (b * (hi - he) - (t - he * b)), k * (b * (hi - he)))) (Int.mul_pos hv pb) ?_ (sm_symm (times_sm (w := (m, k)) hv z1 pb z2))
        unfold Sm
        dsimp only
        grind
      · have d3 : ¬ t * 1 < hi * b := of_decide_eq_false (Bool.eq_false_iff.mpr c3)
        rw [if_neg c3] at zero
        rw [if_neg c3, if_neg (show ¬ (he * b < t ∧ t < hi * b) by omega)]
        exact ⟨(fun x hx => nomatch hx), fun _ => zero rfl⟩
theorem load_sm {W : Wd} (hW : WOk W) {l p r : Int} (ht : TrOk W l p r) : Sm (loadM W l p r) (liesM W l p r) ∧ 0 < (loadM W l p r).2 ∧ 0 < (liesM W l p r).2 := by
  unfold loadM loadL liesM sumM
  rw [List.take_length, List.foldl_cons]
  exact sum_sm _ _ W.wts (plusM (0, 1) (0, 1)) (0, 1) (by decide) (by decide) (by unfold Sm; decide) fun w hw => ctr_one hW ht hw
theorem less_sm {s a b : Int × Int} (ha : 0 < a.2) (hb : 0 < b.2) (h : Sm a b) : decide (s.1 * a.2 < a.1 * s.2) = decide (s.1 * b.2 < b.1 * s.2) := by
  unfold Sm at h
  have key : s.1 * a.2 < a.1 * s.2 ↔ s.1 * b.2 < b.1 * s.2 := by
    have e1 : (a.1 * s.2 - s.1 * a.2) * b.2 = (b.1 * s.2 - s.1 * b.2) * a.2 := by grind
    constructor
    · intro h1
      have h2 : 0 < (a.1 * s.2 - s.1 * a.2) * b.2 := Int.mul_pos (by omega) hb
      rw [e1] at h2
      have := Int.pos_of_mul_pos_left h2 ha
      omega
    · intro h1
      have h2 : 0 < (b.1 * s.2 - s.1 * b.2) * a.2 := Int.mul_pos (by omega) ha
      rw [← e1] at h2
      have := Int.pos_of_mul_pos_left h2 hb
      omega
  by_cases h1 : s.1 * a.2 < a.1 * s.2
  · rw [decide_eq_true h1, decide_eq_true (key.mp h1)]
  · rw [decide_eq_false h1, decide_eq_false fun z => h1 (key.mpr z)]
/-- the law's table is the program's question -/
theorem tab_over {W : Wd} (hW : WOk W) {l p r : Int} (ht : TrOk W l p r) : decide ((loadM W l p r).1 * (strM W p).2 > (strM W p).1 * (loadM W l p r).2) = overB W l p r := by
  obtain ⟨h1, h2, h3⟩ := load_sm hW ht
  exact less_sm h2 h3 h1
end Pf
end
section
set_option Elab.async false
set_option linter.all false
set_option maxRecDepth 100000
set_option maxHeartbeats 2000000
set_option exponentiation.threshold 5000
set_option pp.maxSteps 1200
namespace Pf
open PySem PySem.Spec PyProof.Rows L2 RZ
abbrev FrM := {l : List (Int × Int) // (∀ p ∈ l, FB 40 p) ∧ l.length ≤ 22}
abbrev FnT__law_sum (g : Pg) : Prop := Fn g "_law_sum" ["_law_some"] 2 (spM (α := FrM) (fun _ => []) (fun z => [tD g.K (.list (z.1.map frD))]) (fun z => tD g.K (frD (sumM z.1))))
theorem sc__law_sum : FnScope ["_law_some", "_law_found", "_law_top", "_law_bottom"] ["_law_some"] (defScope sLawSum) := ⟨rfl, rfl, rfl, by decide +kernel, rfl, by decide +kernel, by decide +kernel⟩
theorem fn__law_sum {g : Pg} (T : Tx g) (F__law_cut : FnT__law_cut g) : FnT__law_sum g := by
  refine T.fn 53 40 (k := 1) (d := dLawSum) rfl rfl rfl rfl rfl sc__law_sum (fun _ => rfl) (fun _ _ _ _ _ _ us hl => match us, hl with | [_], _ => rfl) fun cdv Ar outer s H z hr => ?_
  have nd := sc__law_sum.nd
  obtain ⟨l, hl, hz⟩ := z
  refine xb_cons (xs_set 1 (T := tD g.K (frD (0, 1))) (xe_tupD (ds := [.int 0, .int 1]) (xa_cons xe_int (xa_cons xe_int xa_nil))) ?_ nd)
  refine xb_cons (xs_forLW l frD (fun n => ⟨[some (tD g.K (.list (l.map frD))), some (tD g.K (frD (sumM (l.take n)))), none, none], [], []⟩) (fun n b => [some (tD g.K (.list (l.map frD))), some (tD g.K (frD (sumM (l.take n)))), some (tD g.K (.int b.1)), some (tD g.K (.int b.2))]) (fun _ => True) trivial (xe_name (i := 0) rfl) ⟨Le.refl _, rfl, rfl⟩ (fun n b hb => (xg_tup2 (xg_name 2) (xg_name 3))) (fun n b hb _ => ?_) (fun _ => ?_) (fun jj => pg_tup rfl (pgs_cons (pg_nm 2 jj nd) (pgs_cons (pg_nm 3 jj nd) pgs_nil))))
  · have h1 : FB 40 b := hl b (List.mem_of_getElem? hb)
    have h2 : FB 1000 (sumM (l.take n)) := (sum_fb (n := 40) fun p hp => hl p (List.mem_of_mem_take hp)).mono (by
      rw [List.length_take]
      omega)
    refine xb_one (xs_set 1 (T := tD g.K (frD (sumM (l.take (n + 1))))) ((xe_call (F__law_cut.mono (by decide)) (fun _ => hr) ⟨(_, _), ⟨Int.mul_pos h2.1 h1.1, lo_mul h2.2.2 h1.2.2 (by decide)⟩⟩ (xa_cons (xe_add (xe_mul (h2.l1 (by decide)) (h1.l2 (by decide)) (xe_ixT rfl (xe_name (i := 1) rfl) xe_int) (xe_name (i := 3) rfl)) (xe_mul (h1.l1 (by decide)) (h2.l2 (by decide)) (xe_name (i := 2) rfl) (xe_ixT rfl (xe_name (i := 1) rfl) xe_int))) (xa_cons (xe_mul (h2.l2 (by decide)) (h1.l2 (by decide)) (xe_ixT rfl (xe_name (i := 1) rfl) xe_int) (xe_name (i := 3) rfl)) xa_nil))).toD (by unfold sumM; rw [fold_more hb]; rfl)) ⟨trivial, .is (.is (.no (.no .nil))), rfl, rfl⟩ nd)
  · refine xb_one (xs_ret (T := tD g.K (frD (sumM l))) (XE.toD (xe_name (i := 1) rfl) ?_) rfl)
    rw [List.take_length]
/-! ### the world -/
abbrev tWld (g : Pg) (W : Wd) : Ty := tRec [("length", tD g.K (.int W.len)), ("props", tD g.K (.list (W.props.map propD))), ("weights", tD g.K (.list (W.wts.map wtD)))]
section
variable {g : Pg} {C : Ct} {M : Ml} {δ : Sd} {a : Expr} {pos p2 : Pos} {W : Wd} {jj n : Nat}
theorem xe_wlen (hr : ∀ i, Room n (C.A i)) (ha : XE g C M δ a (tWld g W)) (hs : NoSl (.Constant (.str "length") jj p2) := by intro _ _; rfl) : XE g C M δ (.Subscript a (.Constant (.str "length") jj p2) pos) (tD g.K (.int W.len)) := xe_rget hr List.mem_cons_self ha hs
theorem xe_wprops (hr : ∀ i, Room n (C.A i)) (ha : XE g C M δ a (tWld g W)) (hs : NoSl (.Constant (.str "props") jj p2) := by intro _ _; rfl) : XE g C M δ (.Subscript a (.Constant (.str "props") jj p2) pos) (tD g.K (.list (W.props.map propD))) := xe_rget hr (List.mem_cons_of_mem _ List.mem_cons_self) ha hs
theorem xe_wwts (hr : ∀ i, Room n (C.A i)) (ha : XE g C M δ a (tWld g W)) (hs : NoSl (.Constant (.str "weights") jj p2) := by intro _ _; rfl) : XE g C M δ (.Subscript a (.Constant (.str "weights") jj p2) pos) (tD g.K (.list (W.wts.map wtD))) := xe_rget hr (List.mem_cons_of_mem _ (List.mem_cons_of_mem _ List.mem_cons_self)) ha hs
end
abbrev FnT__law_made (g : Pg) : Prop := Fn g "_law_made" ["_law_world_here"] 9 (spM (α := WT) (fun _ => []) (fun z => [tWld g z.1]) (fun z => tPlank g z.1))
theorem sc__law_made : FnScope ["_law_world_here"] ["_law_world_here"] (defScope sLawMade) := ⟨rfl, rfl, rfl, by decide +kernel, rfl, by decide +kernel, by decide +kernel⟩
theorem fn__law_made {g : Pg} (T : Tx g) (M_Plank : MkT_Plank g) : FnT__law_made g := by
  refine T.fn 55 42 (k := 8) (d := dLawMade) rfl rfl rfl rfl rfl sc__law_made (fun _ => rfl) (fun _ _ _ _ _ _ us hl => match us, hl with | [_], _ => rfl) fun cdv Ar outer s H z hr => ?_
  have nd := sc__law_made.nd
  refine xb_one (xs_ret (T := tPlank g z.1) (XEm.to0 (R := fun _ => tPlank g z.1) (xe_makeN (k := 7) M_Plank (fun _ => hr) z (xa_cons (xe_wlen (fun _ => hr) (xe_name (i := 0) rfl)) (xa_cons (xe_lstOfL (T.free 95 rfl) (xe_wprops (fun _ => hr) (xe_name (i := 0) rfl))) xa_nil)) rfl)) rfl)
theorem place_ix {W : Wd} {r : Int} (h1 : 0 ≤ r) (h2 : r ≤ W.props.length) : ∃ d, atI (W.props.map propD ++ [.tuple [.int W.len, .none]]) r = some (.tuple [.int (placeM W r), d]) := by
  unfold atI ixN
  rw [List.length_append, List.length_map, List.length_singleton]
  have e0 : (if 0 ≤ r ∧ r < ((W.props.length + 1 : Nat) : Int) then some r.toNat else if r < 0 ∧ 0 ≤ r + ((W.props.length + 1 : Nat) : Int) then some (r + ((W.props.length + 1 : Nat) : Int)).toNat else none) = some r.toNat := by rw [if_pos ⟨h1, by omega⟩]
  unfold placeM
  rw [if_neg (show ¬ r = -1 by omega)]
  by_cases e : r = W.props.length
  · refine ⟨.none, ?_⟩
    rw [if_pos e]
    subst e
    have h4 : (W.props.length : Int) < (W.props.length : Int) + 1 := by omega
    simp [h4]
  · have hl : r.toNat < W.props.length := by omega
    refine ⟨frD (strM W r), ?_⟩
    rw [if_neg e, getD_at hl]
    unfold strM
    rw [getD_at hl]
    have h3 : r < (W.props.length : Int) + 1 := by omega
    simp [h1, h3, List.getElem?_append_left, hl, propD]
abbrev FnT__law_place (g : Pg) : Prop := Fn g "_law_place" ["_law_world_here", "_law_spot"] 1 (spM (α := {z : Wd × Int // WOk z.1 ∧ -1 ≤ z.2 ∧ z.2 ≤ z.1.props.length}) (fun _ => []) (fun z => [tWld g z.1.1, tD g.K (.int z.1.2)]) (fun z => tD g.K (.int (placeM z.1.1 z.1.2))))
theorem sc__law_place : FnScope ["_law_world_here", "_law_spot"] ["_law_world_here", "_law_spot"] (defScope sLawPlace) := ⟨rfl, rfl, rfl, by decide +kernel, rfl, by decide +kernel, by decide +kernel⟩
theorem fn__law_place {g : Pg} (T : Tx g) : FnT__law_place g := by
  refine T.fn 56 43 (k := 0) (d := dLawPlace) rfl rfl rfl rfl rfl sc__law_place (fun _ => rfl) (fun _ _ _ _ _ _ us hl => match us, hl with | [_, _], _ => rfl) fun cdv Ar outer s H z hr => ?_
  have nd := sc__law_place.nd
  obtain ⟨⟨W, r⟩, hW, h1, h2⟩ := z
  dsimp only at hW h1 h2
  refine xb_cons (xs_if (xt_lt (xe_name (i := 1) rfl) xe_int) (fun hb => ?_) (fun hb => ?_))
  · have h3 : r < 0 := of_decide_eq_true hb
    refine xb_one (xs_ret (T := tD g.K (.int (placeM W r))) (XE.toD xe_int ?_) rfl)
    have : r = -1 := by omega
    rw [this, place_low]
  · have h3 : ¬ r < 0 := of_decide_eq_false hb
    refine xb_nil ?_
    obtain ⟨d, hd⟩ := place_ix (W := W) (r := r) (by omega) h2
    have hp := hW.p12
    refine xb_one (xs_ret (T := tD g.K (.int (placeM W r))) (xe_ixT (d := .int (placeM W r)) (ds := [.int (placeM W r), d]) rfl (xe_ixL hd (xe_catL (by simp only [List.length_map, List.length_singleton]; omega) (xe_wprops (fun _ => hr) (xe_name (i := 0) rfl)) (xe_lstD (ds := [.tuple [.int W.len, .none]]) (xa_cons (xe_tupD (ds := [.int W.len, .none]) (xa_cons (xe_wlen (fun _ => hr) (xe_name (i := 0) rfl)) (xa_cons xe_non xa_nil))) xa_nil))) (xe_name (i := 1) rfl)) xe_int) rfl)
end Pf
end
section
set_option Elab.async false
set_option linter.all false
set_option maxRecDepth 100000
set_option maxHeartbeats 2000000
set_option exponentiation.threshold 5000
set_option pp.maxSteps 1200
namespace Pf
open PySem PySem.Spec PyProof.Rows L2 RZ
section
variable {g : Pg} {C : Ct} {M : Ml} {δ : Sd} {es : List Expr} {pos : Pos} {Ts : List Ty}
/-- [e, ..], to be changed -/
theorem xer_lst (h : XA g C M δ es Ts) (hz : Ts.length ≤ 100000) : XEr g C M δ (.List es pos) (fun _ => False) (fun L T ts => T = tAt L ∧ ts = Ts) := fun Z σ H hs hA Q k1 k2 => by
  refine w_pe (t := tLst (wA g C es)) ?_ fun i => pe_lst (pa_w i)
  refine h Z σ H hs hA _ fun vs H1 f1 A1 t1 => ⟨sz6 (by rw [t1.length]; exact hz), fun p hp => ?_⟩
  have f2 : Fr M H1 (upd H1 p (.lst vs)) := Fr.of_ex (Ex.new hp)
  have ex := ex_one (ts := Ts) A1 hp f2
  exact k2 p Ts (tAt p) (.ref p) _ ⟨rfl, rfl⟩ (fr_free A1 f1 hp) (f1.trans f2) (amb_one A1 hp) (f1.out.trans ex) ⟨vs, upd_same, t1.mono ex⟩ rfl
end
theorem place10 {W : Wd} (hW : WOk W) {r : Int} (h1 : -1 ≤ r) (h2 : r ≤ W.props.length) : (placeM W r).natAbs < 2 ^ 10 := (place_fb hW h1 h2).2.1
theorem ctr_fb {W : Wd} (hW : WOk W) {l p r : Int} (ht : TrOk W l p r) {w : (Int × Int) × (Int × Int)} (hw : w ∈ W.wts) {x : Int × Int} (hx : ctrM (placeM W l) (placeM W p) (placeM W r) w = some x) : FB 40 x := by
  obtain ⟨h1, h2, h3, h4⟩ := ht
  obtain ⟨⟨s1, sg⟩, s2, s3⟩ := hW.sp w hw
  obtain ⟨⟨w1, wg⟩, w2⟩ := hW.wt w hw
  have p1 := place10 hW (r := l) h1 (by omega)
  have p2 := place10 hW (r := p) (by omega) (by omega)
  have p3 := place10 hW (r := r) (by omega) h4
  have q1 := place_lt2 hW h1 h2 (by omega)
  have q2 := place_lt2 hW (by omega) h3 h4
  have pk := Int.mul_pos w1.1 s1.1
  have m1 := mul_bits w1.2.2 s1.2.2
  unfold ctrM at hx
  split at hx
  · obtain rfl := Option.some.inj hx
    exact cut_fb (Int.mul_pos pk q1) (Nat.lt_of_lt_of_le (mul_bits w1.2.1 (sub_bits s1.2.1 (mul_bits p1 s1.2.2) (by decide))) (two_mono (by decide))) (Nat.lt_of_lt_of_le (mul_bits m1 (sub_bits p2 p1 (Nat.le_refl _))) (two_mono (by decide)))
  · split at hx
    · obtain rfl := Option.some.inj hx
      have b1 : (placeM W r * w.1.2 - w.1.1).natAbs < 2 ^ 23 := by
        have a1 := mul_bits p3 s1.2.2
        have a2 := s1.2.1
        have a3 := two_mono (show 12 ≤ 22 by decide)
        omega
      exact cut_fb (Int.mul_pos pk q2) (Nat.lt_of_lt_of_le (mul_bits w1.2.1 b1) (two_mono (by decide))) (Nat.lt_of_lt_of_le (mul_bits m1 (sub_bits p3 p2 (Nat.le_refl _))) (two_mono (by decide)))
    · cases hx
theorem loadL_fb {W : Wd} (hW : WOk W) {l p r : Int} (ht : TrOk W l p r) {n : Nat} : (∀ x ∈ loadL W l p r n, FB 40 x) ∧ (loadL W l p r n).length ≤ n + 1 := by
  refine ⟨fun x hx => ?_, ?_⟩
  · rcases List.mem_cons.mp hx with rfl | hx
    · exact fb_0' (by decide)
    · obtain ⟨w, hw, e⟩ := List.mem_filterMap.mp hx
      exact ctr_fb hW ht (List.mem_of_mem_take hw) e
  · show _ + 1 ≤ n + 1
    have h1 := List.length_filterMap_le (ctrM (placeM W l) (placeM W p) (placeM W r)) (W.wts.take n)
    rw [List.length_take] at h1
    omega
theorem loadL_more {W : Wd} {l p r : Int} {n : Nat} {w : (Int × Int) × (Int × Int)} (h : W.wts[n]? = some w) : loadL W l p r (n + 1) = loadL W l p r n ++ (ctrM (placeM W l) (placeM W p) (placeM W r) w).toList := by
  unfold loadL
  rw [take_more h, List.filterMap_append]
  show _ :: (_ ++ _) = _ :: _ ++ _
  rw [List.cons_append]
  congr 2
structure LoZ where
  W : Wd
  l : Int
  p : Int
  r : Int
abbrev FnT__law_load (g : Pg) : Prop := Fn g "_law_load" ["_law_world_here", "_law_left_here", "_law_prop", "_law_right_here"] 3 (spM (α := {z : LoZ // WOk z.W ∧ TrOk z.W z.l z.p z.r}) (fun _ => []) (fun z => [tWld g z.1.W, tD g.K (.int z.1.l), tD g.K (.int z.1.p), tD g.K (.int z.1.r)]) (fun z => tD g.K (frD (loadM z.1.W z.1.l z.1.p z.1.r))))
theorem sc__law_load : FnScope ["_law_world_here", "_law_left_here", "_law_prop", "_law_right_here", "_law_low", "_law_here", "_law_high", "_law_some", "_law_top", "_law_bottom", "_law_much", "_law_parts", "_law_spot"] ["_law_world_here", "_law_left_here", "_law_prop", "_law_right_here"] (defScope sLawLoad) := ⟨rfl, rfl, rfl, by decide +kernel, rfl, by decide +kernel, by decide +kernel⟩
theorem fn__law_load {g : Pg} (T : Tx g) (F__law_cut : FnT__law_cut g) (F__law_sum : FnT__law_sum g) (F__law_place : FnT__law_place g) : FnT__law_load g := by
  refine T.fn 57 44 (k := 2) (d := dLawLoad) rfl rfl rfl rfl rfl sc__law_load (fun _ => rfl) (fun _ _ _ _ _ _ us hl => match us, hl with | [_, _, _, _], _ => rfl) fun cdv Ar outer s H z hr => ?_
  have nd := sc__law_load.nd
  obtain ⟨⟨W, l, p, r⟩, hW, ht⟩ := z
  dsimp only at hW ht
  have ht' := ht
  obtain ⟨h1, h2, h3, h4⟩ := ht'
  have p1 := place10 hW (r := l) h1 (by omega)
  have p2 := place10 hW (r := p) (by omega) (by omega)
  have p3 := place10 hW (r := r) (by omega) h4
  have q1 := place_lt2 hW h1 h2 (by omega)
  have q2 := place_lt2 hW (by omega) h3 h4
  have l1 := Lo.of p1 (by decide)
  have l2 := Lo.of p2 (by decide)
  have l3 := Lo.of p3 (by decide)
  have w20 := hW.w20
  refine xb_cons (xs_unpack (T := tD g.K (.list [.int (placeM W l), .int (placeM W p), .int (placeM W r)])) (xe_lc [("_law_spot", 12)] nd (fun j => pi_tup (pe_w j)) (fun _ => blkOk_by (sc := defScope sLawLoad) (by show blkC ["_law_world_here", "_law_left_here", "_law_prop", "_law_right_here", "_law_low", "_law_here", "_law_high", "_law_some", "_law_top", "_law_bottom", "_law_much", "_law_parts", "_law_spot"] _ _ _ = true; decide +kernel)) (fun jj => pg_nm 12 jj nd) (fun jj => pts_nil) (xr_lcT ([l, p, r]) (PyData.int) (fun i => .int (placeM W i)) (fun _ => true) (fun i => [some (tWld g W), some (tD g.K (.int l)), some (tD g.K (.int p)), some (tD g.K (.int r)), none, none, none, none, none, none, none, none, some (tD g.K (.int i))]) ((xe_tupD (ds := [.int l, .int p, .int r]) (xa_cons (xe_name (i := 1) rfl) (xa_cons (xe_name (i := 2) rfl) (xa_cons (xe_name (i := 3) rfl) xa_nil))))) (Nat.le_of_ble_eq_true rfl) (fun b hb => (xg_name 12)) (by decide) (fun b hb => tr_yes) (fun b hb hf => ?_))) (xg_lst3 (xg_name 4) (xg_name 5) (xg_name 6)) ?_ (fun jj => pg_lst rfl (pgs_cons (pg_nm 4 jj nd) (pgs_cons (pg_nm 5 jj nd) (pgs_cons (pg_nm 6 jj nd) pgs_nil)))))
  · have hb1 : -1 ≤ b ∧ b ≤ W.props.length := by
      rcases List.mem_cons.mp hb with rfl | hb
      · omega
      rcases List.mem_cons.mp hb with rfl | hb
      · omega
      obtain rfl := List.mem_singleton.mp hb
      omega
    exact (xe_call (F__law_place.mono (by decide)) (fun _ => hr) ⟨(W, b), hW, hb1.1, hb1.2⟩ (xa_cons (xe_name (i := 0) rfl) (xa_cons (xe_name (i := 12) rfl) xa_nil)))
  refine xb_cons (xs_setR 7 (xer_lst (Ts := [frD (0, 1)].map (tD g.K)) (xa_cons (xe_tupD (ds := [.int 0, .int 1]) (xa_cons xe_int (xa_cons xe_int xa_nil))) xa_nil) (Nat.le_of_ble_eq_true rfl)) (fun _ h => h.elim) (fun la ts T h => ?_) nd)
  obtain ⟨rfl, rfl⟩ := h
  refine xb_cons (xs_forLW W.wts wtD (fun n => ⟨[some (tWld g W), some (tD g.K (.int l)), some (tD g.K (.int p)), some (tD g.K (.int r)), some (tD g.K (.int (placeM W l))), some (tD g.K (.int (placeM W p))), some (tD g.K (.int (placeM W r))), some (tAt la), none, none, none, none, none], [(la, .lst (((loadL W l p r n).map frD).map (tD g.K)))], []⟩) (fun n w => [some (tWld g W), some (tD g.K (.int l)), some (tD g.K (.int p)), some (tD g.K (.int r)), some (tD g.K (.int (placeM W l))), some (tD g.K (.int (placeM W p))), some (tD g.K (.int (placeM W r))), some (tAt la), some (tD g.K (.int w.1.1)), some (tD g.K (.int w.1.2)), some (tD g.K (.int w.2.1)), some (tD g.K (.int w.2.2)), none]) (fun _ => True) trivial (xe_wwts (fun _ => hr) (xe_name (i := 0) rfl)) ⟨Le.refl _, rfl, rfl⟩ (fun n w hw => (xg_tup2 (xg_tup2 (xg_name 8) (xg_name 9)) (xg_tup2 (xg_name 10) (xg_name 11)))) (fun n w hw _ => ?_) (fun _ => ?_) (fun jj => pg_tup rfl (pgs_cons (pg_tup rfl (pgs_cons (pg_nm 8 jj nd) (pgs_cons (pg_nm 9 jj nd) pgs_nil))) (pgs_cons (pg_tup rfl (pgs_cons (pg_nm 10 jj nd) (pgs_cons (pg_nm 11 jj nd) pgs_nil))) pgs_nil))))
  · have hm := List.mem_of_getElem? hw
    obtain ⟨⟨s1, sg⟩, s2, s3⟩ := hW.sp w hm
    obtain ⟨⟨w1, wg⟩, w2⟩ := hW.wt w hm
    have hn : n < W.wts.length := (List.getElem?_eq_some_iff.mp hw).1
    have pk := Int.mul_pos w1.1 s1.1
    have m1 := mul_bits w1.2.2 s1.2.2
    have lb := s1.l2 (by decide)
    have lm := w1.l1 (by decide)
    have lk := w1.l2 (by decide)
    have lkb : Lo (w.2.2 * w.1.2) := Lo.of m1 (by decide)
    have d1 : Lo (w.1.1 - placeM W l * w.1.2) := Lo.of (sub_bits s1.2.1 (mul_bits p1 s1.2.2) (by decide)) (by decide)
    have d2 : Lo (placeM W r * w.1.2 - w.1.1) := by
      have a1 := mul_bits p3 s1.2.2
      have a2 := s1.2.1
      have a3 := two_mono (show 12 ≤ 22 by decide)
      exact Lo.of (n := 23) (by omega) (by decide)
    have d3 : Lo (placeM W p - placeM W l) := Lo.of (sub_bits p2 p1 (Nat.le_refl _)) (by decide)
    have d4 : Lo (placeM W r - placeM W p) := Lo.of (sub_bits p3 p2 (Nat.le_refl _)) (by decide)
    have e1 : Lo (w.2.2 * w.1.2 * (placeM W p - placeM W l)) := Lo.of (mul_bits m1 (sub_bits p2 p1 (Nat.le_refl _))) (by decide)
    have e2 : Lo (w.2.2 * w.1.2 * (placeM W r - placeM W p)) := Lo.of (mul_bits m1 (sub_bits p3 p2 (Nat.le_refl _))) (by decide)
    have hlen := (loadL_fb hW ht (n := n)).2
    have hmore := loadL_more (l := l) (p := p) (r := r) hw
    refine xb_one (xs_if (xt_chainI (f := (fun i j => decide (i < j))) (f' := (fun i j => decide (i ≤ j))) (fun _ => op_lt) (fun _ => op_le) (xe_mul l1 lb (xe_name (i := 4) rfl) (xe_name (i := 9) rfl)) (xe_name (i := 8) rfl) (xe_mul l2 lb (xe_name (i := 5) rfl) (xe_name (i := 9) rfl)) rfl) (fun hb => ?_) (fun hb => ?_))
    · have hc : placeM W l * w.1.2 < w.1.1 ∧ w.1.1 ≤ placeM W p * w.1.2 := by simpa using hb
      refine xb_one (xs_app (i := 7) (O1 := []) (O2 := []) rfl rfl (xe_call (F__law_cut.mono (by decide)) (fun _ => hr) ⟨(w.2.1 * (w.1.1 - placeM W l * w.1.2), w.2.2 * w.1.2 * (placeM W p - placeM W l)), Int.mul_pos pk q1, e1⟩ (xa_cons (xe_mul lm d1 (xe_name (i := 10) rfl) (xe_sub (xe_name (i := 8) rfl) (xe_mul l1 lb (xe_name (i := 4) rfl) (xe_name (i := 9) rfl)))) (xa_cons (xe_mul lkb d3 (xe_mul lk lb (xe_name (i := 11) rfl) (xe_name (i := 9) rfl)) (xe_sub (xe_name (i := 5) rfl) (xe_name (i := 4) rfl))) xa_nil))) (by simp only [List.length_map]; omega) ⟨trivial, ?_, ?_, rfl⟩)
      · exact .is (.is (.is (.is (.is (.is (.is (.is (.no (.no (.no (.no (.no .nil))))))))))))
      · rw [hmore]
        unfold ctrM
        rw [if_pos hc]
        simp
    · have hc : ¬ (placeM W l * w.1.2 < w.1.1 ∧ w.1.1 ≤ placeM W p * w.1.2) := fun z => by
        rw [decide_eq_true z.1, decide_eq_true z.2] at hb
        cases hb
      refine xb_one (xs_if (xt_chainI (f := (fun i j => decide (i < j))) (f' := (fun i j => decide (i < j))) (fun _ => op_lt) (fun _ => op_lt) (xe_mul l2 lb (xe_name (i := 5) rfl) (xe_name (i := 9) rfl)) (xe_name (i := 8) rfl) (xe_mul l3 lb (xe_name (i := 6) rfl) (xe_name (i := 9) rfl)) rfl) (fun hb2 => ?_) (fun hb2 => ?_))
      · have hc2 : placeM W p * w.1.2 < w.1.1 ∧ w.1.1 < placeM W r * w.1.2 := by simpa using hb2
        refine xb_one (xs_app (i := 7) (O1 := []) (O2 := []) rfl rfl (xe_call (F__law_cut.mono (by decide)) (fun _ => hr) ⟨(w.2.1 * (placeM W r * w.1.2 - w.1.1), w.2.2 * w.1.2 * (placeM W r - placeM W p)), Int.mul_pos pk q2, e2⟩ (xa_cons (xe_mul lm d2 (xe_name (i := 10) rfl) (xe_sub (xe_mul l3 lb (xe_name (i := 6) rfl) (xe_name (i := 9) rfl)) (xe_name (i := 8) rfl))) (xa_cons (xe_mul lkb d4 (xe_mul lk lb (xe_name (i := 11) rfl) (xe_name (i := 9) rfl)) (xe_sub (xe_name (i := 6) rfl) (xe_name (i := 5) rfl))) xa_nil))) (by simp only [List.length_map]; omega) ⟨trivial, ?_, ?_, rfl⟩)
        · exact .is (.is (.is (.is (.is (.is (.is (.is (.no (.no (.no (.no (.no .nil))))))))))))
        · rw [hmore]
          unfold ctrM
          rw [if_neg hc, if_pos hc2]
          simp
      · have hc2 : ¬ (placeM W p * w.1.2 < w.1.1 ∧ w.1.1 < placeM W r * w.1.2) := fun z => by
          rw [decide_eq_true z.1, decide_eq_true z.2] at hb2
          cases hb2
        refine xb_nil ⟨trivial, ?_, ?_, rfl⟩
        · exact .is (.is (.is (.is (.is (.is (.is (.is (.no (.no (.no (.no (.no .nil))))))))))))
        · rw [hmore]
          unfold ctrM
          rw [if_neg hc, if_neg hc2]
          simp
  · have hlen := (loadL_fb hW ht (n := W.wts.length)).2
    have hfb := (loadL_fb hW ht (n := W.wts.length)).1
    have l20 : (loadL W l p r W.wts.length).length ≤ 22 := by omega
    refine xb_freeze 7 (O1 := []) (O2 := []) (ds := (loadL W l p r W.wts.length).map frD) rfl rfl ?_
    exact xb_one (xs_ret (T := tD g.K (frD (loadM W l p r))) (xe_call (F__law_sum.mono (by decide)) (fun _ => hr) ⟨loadL W l p r W.wts.length, hfb, l20⟩ (xa_cons (xe_name (i := 7) rfl) xa_nil)) rfl)
end Pf
end
section
set_option Elab.async false
set_option linter.all false
set_option maxRecDepth 100000
set_option maxHeartbeats 2000000
set_option exponentiation.threshold 5000
set_option pp.maxSteps 1200
namespace Pf
open PySem PySem.Spec PyProof.Rows L2 RZ
/-! ### the table -/
def keysR (p : Nat) (l : Int) (k : Nat) : List (List Int) := (List.range k).map fun (i : Nat) => [l, (p : Int), (p : Int) + 1 + (i : Int)]
def keysL (m p k : Nat) : List (List Int) := (List.range k).flatMap fun (j : Nat) => keysR p (0 - 1 + (j : Int)) (m - p)
def keysP (m k : Nat) : List (List Int) := (List.range k).flatMap fun (p : Nat) => keysL m p (p + 1)
theorem flatMap_le {α β : Type} {f : α → List β} {c : Nat} : ∀ {l : List α}, (∀ x ∈ l, (f x).length ≤ c) → (l.flatMap f).length ≤ l.length * c
  | [], _ => Nat.zero_le _
  | x :: l, h => by
    have h1 := h x List.mem_cons_self
    have h2 := flatMap_le (f := f) (c := c) (l := l) fun y hy => h y (List.mem_cons_of_mem _ hy)
    rw [List.flatMap_cons, List.length_append, List.length_cons, Nat.add_mul]
    omega
theorem keysR_len (p : Nat) (l : Int) (k : Nat) : (keysR p l k).length = k := by unfold keysR; rw [List.length_map, List.length_range]
theorem keysL_len (m p k : Nat) : (keysL m p k).length ≤ k * m := by
  have h := flatMap_le (l := List.range k) (f := fun (j : Nat) => keysR p (0 - 1 + (j : Int)) (m - p)) (c := m) fun x _ => by rw [keysR_len]; omega
  rw [List.length_range] at h
  exact h
theorem keysP_len {m k : Nat} (h : k ≤ m) : (keysP m k).length ≤ k * (m * m) := by
  have h := flatMap_le (l := List.range k) (f := fun (p : Nat) => keysL m p (p + 1)) (c := m * m) fun x hx => by
    have h1 := keysL_len m x (x + 1)
    have h2 : x < k := List.mem_range.mp hx
    exact Nat.le_trans h1 (Nat.mul_le_mul_right m (by omega))
  rw [List.length_range] at h
  exact h
theorem keysR_more (p : Nat) (l : Int) (k : Nat) : keysR p l (k + 1) = keysR p l k ++ [[l, (p : Int), (p : Int) + 1 + (k : Int)]] := by unfold keysR; rw [List.range_succ, List.map_append]; rfl
theorem keysL_more (m p k : Nat) : keysL m p (k + 1) = keysL m p k ++ keysR p (0 - 1 + (k : Int)) (m - p) := by
  unfold keysL
  rw [List.range_succ, List.flatMap_append, List.flatMap_singleton]
theorem keysP_more (m k : Nat) : keysP m (k + 1) = keysP m k ++ keysL m k (k + 1) := by
  unfold keysP
  rw [List.range_succ, List.flatMap_append, List.flatMap_singleton]
def TabIx (W : Wd) (k : List Int) : Prop := ∃ l p r, k = [l, p, r] ∧ TrOk W l p r
theorem keysP_in {W : Wd} {k : List Int} (h : TabIx W k) : k ∈ keysP W.props.length W.props.length := by
  obtain ⟨l, p, r, rfl, h1, h2, h3, h4⟩ := h
  unfold keysP keysL keysR
  refine List.mem_flatMap.mpr ⟨p.toNat, List.mem_range.mpr (by omega), List.mem_flatMap.mpr ⟨(l + 1).toNat, List.mem_range.mpr (by omega), List.mem_map.mpr ⟨(r - p - 1).toNat, List.mem_range.mpr (by omega), ?_⟩⟩⟩
  have e1 : (0 : Int) - 1 + ((l + 1).toNat : Int) = l := by omega
  have e2 : (p.toNat : Int) = p := by omega
  have e3 : p + 1 + ((r - p - 1).toNat : Int) = r := by omega
  rw [e1, e2, e3]
abbrev tTabW (W : Wd) : Ty := tTab (overL W) (TabIx W)
theorem load_fb {W : Wd} (hW : WOk W) {l p r : Int} (ht : TrOk W l p r) : FB 950 (loadM W l p r) := by
  obtain ⟨h1, h2⟩ := loadL_fb hW ht (n := W.wts.length)
  have w20 := hW.w20
  exact (sum_fb h1).mono (by omega)
abbrev FnT__law_table (g : Pg) : Prop := Fn g "_law_table" ["_law_world_here"] 4 (spM (α := WT) (fun _ => []) (fun z => [tWld g z.1]) (fun z => tTabW z.1))
theorem sc__law_table : FnScope ["_law_world_here", "_law_many", "_law_found", "_law_prop", "_law_top", "_law_bottom", "_law_left_here", "_law_right_here", "_law_much", "_law_parts"] ["_law_world_here"] (defScope sLawTable) := ⟨rfl, rfl, rfl, by decide +kernel, rfl, by decide +kernel, by decide +kernel⟩
theorem fn__law_table {g : Pg} (T : Tx g) (F__law_load : FnT__law_load g) : FnT__law_table g := by
  refine T.fn 58 45 (k := 3) (d := dLawTable) rfl rfl rfl rfl rfl sc__law_table (fun _ => rfl) (fun _ _ _ _ _ _ us hl => match us, hl with | [_], _ => rfl) fun cdv Ar outer s H z hr => ?_
  have nd := sc__law_table.nd
  obtain ⟨W, hW⟩ := z
  have hp12 := hW.p12
  refine xb_cons (xs_set 1 (T := tD g.K (.int (W.props.length : Int))) (XE.toD (xe_lenL (T.free 91 rfl) (xe_wprops (fun _ => hr) (xe_name (i := 0) rfl))) (by rw [List.length_map])) ?_ nd)
  refine xb_cons (xs_dnil 2 (fun la => ?_) nd)
  refine xb_cons (xs_forR 3 (n := (W.props.length : Int)) (by omega) (fun n => ⟨[some (tWld g W), some (tD g.K (.int (W.props.length : Int))), some (tAt la), none, none, none, none, none, none, none], [(la, .dct (putT (overL W) [] (keysP W.props.length n)))], []⟩) (T.free 97 rfl) (xe_name (i := 1) rfl) ⟨Le.refl _, rfl, rfl⟩ (fun n hn => ?_) ?_ nd)
  · have hn' : n < W.props.length := by omega
    have sfb := (hW.str _ (List.getElem_mem hn')).1.1
    have hstr : strM W (n : Int) = W.props[n].2 := by
      unfold strM
      rw [show ((n : Int).toNat) = n by omega, getD_at hn']
    rw [← hstr] at sfb
    have kl := keysP_len (m := W.props.length) (k := n) (by omega)
    have kl2 : n * (W.props.length * W.props.length) ≤ 12 * (12 * 12) := Nat.mul_le_mul (by omega) (Nat.mul_le_mul hp12 hp12)
    have kl3 : W.props.length * W.props.length ≤ 12 * 12 := Nat.mul_le_mul hp12 hp12
    refine xb_cons (xs_unpack (T := tD g.K (.tuple [.int (strM W n).1, .int (strM W n).2])) (xe_ixT (ds := [.int (placeM W n), frD (strM W n)]) rfl (xe_ixL (place_at (by omega) (by omega)) (xe_wprops (fun _ => hr) (xe_name (i := 0) rfl)) (xe_name (i := 3) rfl)) xe_int) (xg_tup2 (xg_name 4) (xg_name 5)) ?_ (fun jj => pg_tup rfl (pgs_cons (pg_nm 4 jj nd) (pgs_cons (pg_nm 5 jj nd) pgs_nil))))
    refine xb_one (xs_forR2 6 (lo := 0 - 1) (n := (n : Int)) (by omega) (fun j => ⟨[some (tWld g W), some (tD g.K (.int (W.props.length : Int))), some (tAt la), some (tD g.K (.int (n : Int))), some (tD g.K (.int (strM W n).1)), some (tD g.K (.int (strM W n).2)), none, none, none, none], [(la, .dct (putT (overL W) [] (keysP W.props.length n ++ keysL W.props.length n j)))], []⟩) (T.free 97 rfl) (xa_cons (xe_sub xe_int xe_int) (xa_cons (xe_name (i := 3) rfl) xa_nil)) ⟨Le.refl _, ?_, rfl⟩ (fun j hj => ?_) ?_ nd)
    · show [(la, Kd.dct (putT (overL W) [] (keysP W.props.length n)))] = [(la, .dct (putT (overL W) [] (keysP W.props.length n ++ [])))]
      rw [List.append_nil]
    · have kj := keysL_len W.props.length n j
      have kj2 : j * W.props.length ≤ 13 * 12 := Nat.mul_le_mul (by omega) hp12
      refine xb_one (xs_forR2 7 (lo := (n : Int) + 1) (n := (W.props.length : Int) + 1) (by omega) (fun i => ⟨[some (tWld g W), some (tD g.K (.int (W.props.length : Int))), some (tAt la), some (tD g.K (.int (n : Int))), some (tD g.K (.int (strM W n).1)), some (tD g.K (.int (strM W n).2)), some (tD g.K (.int (0 - 1 + (j : Int)))), none, none, none], [(la, .dct (putT (overL W) [] (keysP W.props.length n ++ (keysL W.props.length n j ++ keysR n (0 - 1 + (j : Int)) i))))], []⟩) (T.free 97 rfl) (xa_cons (xe_add (xe_name (i := 3) rfl) xe_int) (xa_cons (xe_add (xe_name (i := 1) rfl) xe_int) xa_nil)) ⟨Le.refl _, ?_, rfl⟩ (fun i hi => ?_) ?_ nd)
      · show [(la, Kd.dct (putT (overL W) [] (keysP W.props.length n ++ keysL W.props.length n j)))] = [(la, .dct (putT (overL W) [] (keysP W.props.length n ++ (keysL W.props.length n j ++ []))))]
        rw [List.append_nil]
      · have ht : TrOk W (0 - 1 + (j : Int)) (n : Int) ((n : Int) + 1 + (i : Int)) := ⟨by omega, by omega, by omega, by omega⟩
        have lfb := load_fb hW ht
        have hkr := keysR_len n (0 - 1 + (j : Int)) i
        refine xb_cons (xs_unpack (T := tD g.K (.tuple [.int (loadM W (0 - 1 + (j : Int)) n ((n : Int) + 1 + (i : Int))).1, .int (loadM W (0 - 1 + (j : Int)) n ((n : Int) + 1 + (i : Int))).2])) (xe_call (F__law_load.mono (by decide)) (fun _ => hr) ⟨⟨W, 0 - 1 + (j : Int), (n : Int), (n : Int) + 1 + (i : Int)⟩, hW, ht⟩ (xa_cons (xe_name (i := 0) rfl) (xa_cons (xe_name (i := 6) rfl) (xa_cons (xe_name (i := 3) rfl) (xa_cons (xe_name (i := 7) rfl) xa_nil))))) (xg_tup2 (xg_name 8) (xg_name 9)) ?_ (fun jj => pg_tup rfl (pgs_cons (pg_nm 8 jj nd) (pgs_cons (pg_nm 9 jj nd) pgs_nil))))
        refine xb_one (xs_dputB (i := 2) (O1 := []) (O2 := []) (bb := overL W [0 - 1 + (j : Int), (n : Int), (n : Int) + 1 + (i : Int)]) (fun _ => hr) rfl rfl (XE.toD (xe_gt (xe_mul (lfb.l1 (by decide)) (sfb.l2 (by decide)) (xe_name (i := 8) rfl) (xe_name (i := 5) rfl)) (xe_mul (sfb.l1 (by decide)) (lfb.l2 (by decide)) (xe_name (i := 4) rfl) (xe_name (i := 9) rfl))) (congrArg _ (tab_over hW ht))) (xe_tupK [0 - 1 + (j : Int), (n : Int), (n : Int) + 1 + (i : Int)] (xa_cons (xe_name (i := 6) rfl) (xa_cons (xe_name (i := 3) rfl) (xa_cons (xe_name (i := 7) rfl) xa_nil)))) ?_ ?_ (fun j => pe_var rfl (by first | exact Or.inl rfl | exact Or.inr (Or.inl rfl) | exact Or.inr (Or.inr rfl))))
        · refine Nat.lt_of_le_of_lt (putT_len _ _ _) ?_
          rw [List.length_nil, List.length_append, List.length_append]
          omega
        · refine ⟨.is (.is (.is (.is (.is (.is (.is (.no (.no (.no .nil))))))))), ?_, rfl⟩
          show [(la, Kd.dct (putK (putT (overL W) [] (keysP W.props.length n ++ (keysL W.props.length n j ++ keysR n (0 - 1 + (j : Int)) i))) (kI [0 - 1 + (j : Int), (n : Int), (n : Int) + 1 + (i : Int)]) (.bl (overL W [0 - 1 + (j : Int), (n : Int), (n : Int) + 1 + (i : Int)]))))] = [(la, .dct (putT (overL W) [] (keysP W.props.length n ++ (keysL W.props.length n j ++ keysR n (0 - 1 + (j : Int)) (i + 1)))))]
          rw [keysR_more, ← List.append_assoc, ← List.append_assoc, ← List.append_assoc, putT_app _ _ _ [_]]
          rfl
      · refine ⟨.is (.is (.is (.is (.is (.is (.no (.no (.no (.no .nil))))))))), ?_, rfl⟩
        have e : ((W.props.length : Int) + 1 - ((n : Int) + 1)).toNat = W.props.length - n := by omega
        show [(la, Kd.dct _)] = [(la, Kd.dct _)]
        rw [e, keysL_more]
    · refine ⟨.is (.is (.is (.no (.no (.no (.no (.no (.no (.no .nil))))))))), ?_, rfl⟩
      have e : ((n : Int) - (0 - 1)).toNat = n + 1 := by omega
      show [(la, Kd.dct _)] = [(la, Kd.dct _)]
      rw [e, keysP_more]
  · refine xb_freezeT 2 (O1 := []) (O2 := []) (overL W) (TabIx W) rfl rfl (fun k hk => ?_) ?_
    · rw [show ((W.props.length : Int).toNat) = W.props.length by omega]
      exact putT_at _ (keysP_in hk)
    · exact xb_one (xs_ret (T := tTabW W) (xe_name (i := 2) rfl) rfl)
end Pf
end
section
set_option Elab.async false
set_option linter.all false
set_option maxRecDepth 100000
set_option maxHeartbeats 2000000
set_option exponentiation.threshold 5000
set_option pp.maxSteps 1200
namespace Pf
open PySem PySem.Spec PyProof.Rows L2 RZ
section
variable {g : Pg} {C : Ct} {a b : Expr} {M : Ml} {δ : Sd} {ts vs : List Nat} {t : TG} {tt : TT} {te : TE}
/-- a comprehension over range(lo, n) -/
theorem xr_lcR2 {lo n : Int} (h : Nat → PyData) (f : Nat → Bool) (δc : Nat → Sd) (hn : -100000 ≤ lo ∧ lo ≤ 100000 ∧ -100000 ≤ n ∧ n ≤ 100000 ∧ n - lo < 100000) (src : XA g C M δ [a, b] [tD g.K (.int lo), tD g.K (.int n)])
    (hg : ∀ m : Nat, lo + (m : Int) < n → XG t (tD g.K (.int (lo + (m : Int)))) (wipeD δ vs) (δc m) ts) (hts : ∀ i ∈ ts, i ∈ vs) (ht : ∀ m : Nat, lo + (m : Int) < n → TR M (δc m) tt (f m)) (he : ∀ m : Nat, lo + (m : Int) < n → f m = true → XR M (δc m) te (tD g.K (h m))) :
    XR M δ (tLc (iRng2 (wA g C [a, b])) t tt te vs) (tD g.K (.list (((List.range (n - lo).toNat).filter f).map h))) := fun Z σ H hs hA Q k => by
  refine src Z σ H hs hA _ fun vv H1 f1 A1 t1 => ?_
  obtain ⟨v, w, rfl, hv, hw⟩ := al2 t1
  refine ⟨lo, n, by rw [rp_int hv, rp_int hw], ⟨by omega, by omega, by omega, by omega⟩, fun D hD => lc_range (lo := lo) (n := (n - lo).toNat) (fun n' H' => LcAt g.K Z M H1 D ((((List.range (n - lo).toNat).take n').filter f).map h) H') (LcAt.start A1 hD) (fun n' H' hn' w => ?_) fun H' w => ?_⟩
  · have e : (List.range (n - lo).toNat)[n']? = some n' := by rw [List.getElem?_range hn']
    have ex : Ex (out (Zm Z M) H1) (out (Zm (Zd Z D) M) H') := lc_ex A1 hD w.fr
    refine hg n' (by omega) (out (Zm (Zd Z D) M) H') H' _ (L2.wipe σ vs) _ out_sub (.int _) (Sl.wipe ((hs.mono f1.out).mono ex) vs) fun σ2 s2 w2 => ⟨by rw [w2 vs hts, wipe_idem], ?_⟩
    exact w.turn s2 (ht n' (by omega)) (he n' (by omega)) (Nat.lt_of_le_of_lt fm_len (by rw [List.length_range]; omega)) (fm_more e)
  · have e1 : (List.range (n - lo).toNat).take (n - lo).toNat = List.range (n - lo).toNat := by
      rw [List.take_of_length_le]
      rw [List.length_range]
      exact Nat.le_refl _
    rw [e1] at w
    obtain ⟨r1, r2, r3⟩ := w.fin A1
    exact k _ H' (f1.trans r1) r2 r3
end
theorem bes_rng : ∀ (l : Int) (lot : List Int) (r : Int), besM l lot r = (List.range lot.length).map fun i => ((l :: lot ++ [r]).getD i 0, (l :: lot ++ [r]).getD (i + 1) 0, (l :: lot ++ [r]).getD (i + 2) 0)
  | l, [], r => rfl
  | l, [p], r => rfl
  | l, p :: q :: ps, r => by
    have ih := bes_rng p (q :: ps) r
    show (l, p, q) :: besM p (q :: ps) r = _
    rw [ih, List.length_cons (a := p), List.range_succ_eq_map, List.map_cons, List.map_map]
    rfl
theorem ob_rng (W : Wd) (l : Int) (lot : List Int) (r : Int) : obM W l lot r = ((List.range lot.length).filter fun i => overB W ((l :: lot ++ [r]).getD i 0) ((l :: lot ++ [r]).getD (i + 1) 0) ((l :: lot ++ [r]).getD (i + 2) 0)).map fun i => (l :: lot ++ [r]).getD (i + 1) 0 := by
  unfold obM
  rw [bes_rng, List.filter_map, List.map_map]
  rfl
theorem rs_at {rs : List Int} {j : Int} {m : Nat} (h : j = (m : Int)) (hm : m < rs.length) : atI (rs.map PyData.int) j = some (.int (rs.getD m 0)) := by
  subst h
  exact atI_nat (by rw [List.getElem?_map, List.getElem?_eq_getElem hm, getD_at hm]; rfl)
theorem beside_tr {W : Wd} {l : Int} {lot : List Int} {r : Int} (hb : BtOk W l lot r) {i : Nat} (hi : i < lot.length) : TrOk W ((l :: lot ++ [r]).getD i 0) ((l :: lot ++ [r]).getD (i + 1) 0) ((l :: lot ++ [r]).getD (i + 2) 0) :=
  bes_ok hb ((l :: lot ++ [r]).getD i 0, (l :: lot ++ [r]).getD (i + 1) 0, (l :: lot ++ [r]).getD (i + 2) 0) (by
    rw [bes_rng]
    exact List.mem_map.mpr ⟨i, List.mem_range.mpr hi, rfl⟩)
structure OvZ where
  W : Wd
  l : Int
  lot : List Int
  r : Int
abbrev FnT__law_over (g : Pg) : Prop := Fn g "_law_over" ["_law_table_here", "_law_many", "_law_troop"] 1 (spM (α := {z : Wd × List Int // WOk z.1 ∧ LotOk z.1 z.2}) (fun _ => []) (fun z => [tTabW z.1.1, tD g.K (.int (z.1.1.props.length : Int)), tD g.K (.tuple (z.1.2.map .int))]) (fun z => tD g.K (.list ((obM z.1.1 (-1) z.1.2 z.1.1.props.length).map .int))))
theorem sc__law_over : FnScope ["_law_table_here", "_law_many", "_law_troop", "_law_rests", "_law_k"] ["_law_table_here", "_law_many", "_law_troop"] (defScope sLawOver) := ⟨rfl, rfl, rfl, by decide +kernel, rfl, by decide +kernel, by decide +kernel⟩
theorem lot_bt {W : Wd} {lot : List Int} (h : LotOk W lot) : BtOk W (-1) lot W.props.length := ⟨by omega, by omega, by
  have hp := ascB_pw h.asc
  rw [List.cons_append]
  refine List.pairwise_cons.mpr ⟨fun x hx => ?_, List.pairwise_append.mpr ⟨hp, by simp, fun x hx y hy => ?_⟩⟩
  · rcases List.mem_append.mp hx with hx | hx
    · have := h.inn x hx; omega
    · rw [List.mem_singleton.mp hx]; omega
  · rw [List.mem_singleton.mp hy]
    exact (h.inn x hx).2⟩
theorem fn__law_over {g : Pg} (T : Tx g) : FnT__law_over g := by
  refine T.fn 59 46 (k := 0) (d := dLawOver) rfl rfl rfl rfl rfl sc__law_over (fun _ => rfl) (fun _ _ _ _ _ _ us hl => match us, hl with | [_, _, _], _ => rfl) fun cdv Ar outer s H z hr => ?_
  have nd := sc__law_over.nd
  obtain ⟨⟨W, lot⟩, hW, hl⟩ := z
  dsimp only at hW hl
  have hlen := hl.len
  have hp12 := hW.p12
  have hlr : (-1 :: lot ++ [(W.props.length : Int)]).length = lot.length + 2 := by simp
  refine xb_cons (xs_set 3 (T := tD g.K (.list ((-1 :: lot ++ [(W.props.length : Int)]).map .int))) (XE.toD (xe_catL ?_ (xe_catL ?_ (xe_lstD (ds := [.int (0 - 1)]) (xa_cons (xe_sub xe_int xe_int) xa_nil)) (xe_lstOfT (T.free 95 rfl) (xe_name (i := 2) rfl))) (xe_lstD (ds := [.int (W.props.length : Int)]) (xa_cons (xe_name (i := 1) rfl) xa_nil))) (by simp)) ?_ nd)
  · simp only [List.length_append, List.length_cons, List.length_nil, List.length_map]; omega
  · simp only [List.length_cons, List.length_nil, List.length_map]; omega
  refine xb_one (xs_ret (T := tD g.K (.list ((obM W (-1) lot W.props.length).map .int))) (XE.toD (xe_lc [("_law_k", 4)] nd (fun j => pi_range2 rfl (T.free 97 rfl) (pa_w j) rfl rfl) (fun _ => blkOk_by (sc := defScope sLawOver) (by show blkC ["_law_table_here", "_law_many", "_law_troop", "_law_rests", "_law_k"] _ _ _ = true; decide +kernel)) (fun jj => pg_nm 4 jj nd) (fun jj => pts_one (pt_w jj)) (xr_lcR2 (lo := 1) (n := ((-1 :: lot ++ [(W.props.length : Int)]).length : Int) - 1) (h := fun i => .int ((-1 :: lot ++ [(W.props.length : Int)]).getD (i + 1) 0)) (f := fun i => overL W [(-1 :: lot ++ [(W.props.length : Int)]).getD i 0, (-1 :: lot ++ [(W.props.length : Int)]).getD (i + 1) 0, (-1 :: lot ++ [(W.props.length : Int)]).getD (i + 2) 0]) (δc := fun i => [some (tTabW W), some (tD g.K (.int (W.props.length : Int))), some (tD g.K (.tuple (lot.map .int))), some (tD g.K (.list ((-1 :: lot ++ [(W.props.length : Int)]).map .int))), some (tD g.K (.int (1 + (i : Int))))]) (by rw [hlr]; omega) (xa_cons xe_int (xa_cons (xe_sub (XE.toD (xe_lenL (T.free 91 rfl) (xe_name (i := 3) rfl)) (by rw [List.length_map])) xe_int) xa_nil)) (fun b hb => xg_name 4) (by decide) (fun b hb => ?_) (fun b hb hf => ?_))) ?_) rfl)
  · rw [hlr] at hb
    have hb' : b < lot.length := by omega
    refine tr_one (xt_val (xe_tab (ns := [(-1 :: lot ++ [(W.props.length : Int)]).getD b 0, (-1 :: lot ++ [(W.props.length : Int)]).getD (b + 1) 0, (-1 :: lot ++ [(W.props.length : Int)]).getD (b + 2) 0]) (fun _ => hr) ⟨_, _, _, rfl, beside_tr (lot_bt hl) hb'⟩ (xe_name (i := 0) rfl) (xe_tupK _ (xa_cons (xe_ixL (rs_at (m := b) (by omega) (by rw [hlr]; omega)) (xe_name (i := 3) rfl) (xe_sub (xe_name (i := 4) rfl) xe_int)) (xa_cons (xe_ixL (rs_at (m := b + 1) (by omega) (by rw [hlr]; omega)) (xe_name (i := 3) rfl) (xe_name (i := 4) rfl)) (xa_cons (xe_ixL (rs_at (m := b + 2) (by omega) (by rw [hlr]; omega)) (xe_name (i := 3) rfl) (xe_add (xe_name (i := 4) rfl) xe_int)) xa_nil))))))
  · rw [hlr] at hb
    have hb' : b < lot.length := by omega
    exact xe_ixL (rs_at (m := b + 1) (by omega) (by rw [hlr]; omega)) (xe_name (i := 3) rfl) (xe_name (i := 4) rfl)
  · rw [ob_rng, List.map_map, hlr]
    have e : (((lot.length + 2 : Nat) : Int) - 1 - 1).toNat = lot.length := by omega
    rw [e]
    rfl
end Pf
end
section
set_option Elab.async false
set_option linter.all false
set_option maxRecDepth 100000
set_option maxHeartbeats 2000000
set_option exponentiation.threshold 5000
set_option pp.maxSteps 1200
namespace Pf
open PySem PySem.Spec PyProof.Rows L2 RZ
structure RrZ where
  W : Wd
  lot : List Int
  one : Int
  row : List Int
def lotAt (lot row : List Int) (n : Nat) : List Int := (row.take n).foldl withM lot
/-- a row that goes along -/
structure RrOk (z : RrZ) : Prop where
  w : WOk z.W
  l : LotOk z.W z.lot
  st : ∀ n s, z.row[n]? = some s → s ∈ obM z.W (-1) (lotAt z.lot z.row n) z.W.props.length
  last : ∃ r, z.row = r ++ [z.one]
  seg : (z.lot.filter fun k => decide (leastI z.row ≤ k) && decide (k ≤ greatI z.row)) = sortI z.row
  len : z.row.length ≤ 20
theorem with_ok {W : Wd} {lot : List Int} (h : LotOk W lot) (p : Int) : LotOk W (withM lot p) := ⟨by
  have h1 := ascB_pw h.asc
  exact pw_ascB (h1.sublist List.filter_sublist), fun i hi => h.inn i (List.mem_filter.mp hi).1⟩
theorem lotAt_ok {W : Wd} {lot : List Int} (h : LotOk W lot) : ∀ (row : List Int), LotOk W (row.foldl withM lot)
  | [] => h
  | r :: row => lotAt_ok (with_ok h r) row
abbrev FnT__law_row_right (g : Pg) : Prop := Fn g "_law_row_right" ["_law_table_here", "_law_many", "_law_troop", "_law_one", "_law_row"] 2 (spM (α := {z : RrZ // RrOk z}) (fun _ => []) (fun z => [tTabW z.1.W, tD g.K (.int (z.1.W.props.length : Int)), tKt z.1.lot, tD g.K (.int z.1.one), tD g.K (.list (z.1.row.map .int))]) (fun z => tD g.K (.bool true)))
theorem sc__law_row_right : FnScope ["_law_table_here", "_law_many", "_law_troop", "_law_one", "_law_row", "_law_left_here", "_law_step", "_law_k"] ["_law_table_here", "_law_many", "_law_troop", "_law_one", "_law_row"] (defScope sLawRowRight) := ⟨rfl, rfl, rfl, by decide +kernel, rfl, by decide +kernel, by decide +kernel⟩
theorem cut_last (r : List Int) (x : Int) : cutD ((r ++ [x]).map PyData.int) (some (-1)) none = [.int x] := by
  unfold cutD HT.sIx
  have e : (-1 + ((r.length : Int) + 1)).toNat = (r.map PyData.int).length := by rw [List.length_map]; omega
  simp
  rw [e, List.drop_left]
  simp
theorem fn__law_row_right {g : Pg} (T : Tx g) (F__law_over : FnT__law_over g) (F__law_less : FnT__law_less g) : FnT__law_row_right g := by
  refine T.fn 62 49 (k := 1) (d := dLawRowRight) rfl rfl rfl rfl rfl sc__law_row_right (fun _ => rfl) (fun _ _ _ _ _ _ us hl => match us, hl with | [_, _, _, _, _], _ => rfl) fun cdv Ar outer s H z hr => ?_
  have nd := sc__law_row_right.nd
  obtain ⟨⟨W, lot, one, row⟩, hz⟩ := z
  have hW := hz.w
  have hl := hz.l
  dsimp only at hW hl
  have hp12 := hW.p12
  refine xb_cons (xs_set 5 (xe_name (i := 2) rfl) ?_ nd)
  refine xb_cons (xs_forLW row PyData.int (fun n => ⟨[some (tTabW W), some (tD g.K (.int (W.props.length : Int))), some (tKt lot), some (tD g.K (.int one)), some (tD g.K (.list (row.map .int))), some (tKt (lotAt lot row n)), none, none], [], []⟩) (fun n st => [some (tTabW W), some (tD g.K (.int (W.props.length : Int))), some (tKt lot), some (tD g.K (.int one)), some (tD g.K (.list (row.map .int))), some (tKt (lotAt lot row n)), some (tD g.K (.int st)), none]) (fun _ => True) trivial (xe_name (i := 4) rfl) ⟨Le.refl _, rfl, rfl⟩ (fun n b hb => xg_name 6) (fun n b hb _ => ?_) (fun _ => ?_) (fun jj => pg_nm 6 jj nd))
  · have hin := hz.st n b hb
    have hok : LotOk W (lotAt lot row n) := lotAt_ok hl _
    have hlen := hok.len
    refine xb_cons (xs_if (xt_niIL (xe_name (i := 6) rfl) (xe_call (F__law_over.mono (by decide)) (fun _ => hr) ⟨(W, lotAt lot row n), hW, hok⟩ (xa_cons (xe_name (i := 0) rfl) (xa_cons (xe_name (i := 1) rfl) (xa_cons (XE.dD (xe_name (i := 5) rfl)) xa_nil))))) (fun hb2 => ?_) (fun hb2 => ?_))
    · exact absurd hb2 (by rw [decide_eq_true hin]; decide)
    · refine xb_nil ?_
      refine xb_one (xs_set 5 (T := tKt (lotAt lot row (n + 1))) ((xe_call (F__law_less.mono (by decide)) (fun _ => hr) ⟨(lotAt lot row n, b), by show (lotAt lot row n).length ≤ 1000; omega⟩ (xa_cons (XE.dD (xe_name (i := 5) rfl)) (xa_cons (xe_name (i := 6) rfl) xa_nil))).to (by unfold lotAt; rw [fold_more hb])) ⟨trivial, .is (.is (.is (.is (.is (.is (.no (.no .nil))))))), rfl, rfl⟩ nd)
  · obtain ⟨r, hrow⟩ := hz.last
    dsimp only at hrow
    have h0 : 0 < row.length := by rw [hrow]; simp
    have hlen := hl.len
    have h20 := hz.len
    dsimp only at h20
    refine xb_one (xs_ret (T := tD g.K (.bool true)) (XE.toD (xe_and (XE.toD (d' := .bool true) (xe_eqD (fun _ => hr) (sh_intl [one]).ok (sh_intl [one]).ok (XE.toD (xe_slL (xe_name (i := 4) rfl) (xo_some (xe_neg xe_int)) xo_none) (by rw [hrow, cut_last]; rfl)) (xe_lstD (ds := [.int one]) (xa_cons (xe_name (i := 3) rfl) xa_nil))) (by show PyData.bool (PyData.eqvAll ([one].map .int) ([one].map .int)) = _; rw [eqv_ints]; simp)) fun hb => (xe_one (xe_eqD (fun _ => hr) (sh_intl (sortI row)).ok (sh_intl (sortI row)).ok (XE.toD (xe_lc [("_law_k", 7)] nd (fun j => pi_tup (pe_w j)) (fun _ => blkOk_by (sc := defScope sLawRowRight) (by show blkC ["_law_table_here", "_law_many", "_law_troop", "_law_one", "_law_row", "_law_left_here", "_law_step", "_law_k"] _ _ _ = true; decide +kernel)) (fun jj => pg_nm 7 jj nd) (fun jj => pts_one (pt_w jj)) (xr_lcT (lot) (PyData.int) (PyData.int) (fun k => decide (leastI row ≤ k) && decide (k ≤ greatI row)) (fun k => [some (tTabW W), some (tD g.K (.int (W.props.length : Int))), some (tKt lot), some (tD g.K (.int one)), some (tD g.K (.list (row.map .int))), some (tKt (lotAt lot row row.length)), none, some (tD g.K (.int k))]) (XE.dD (xe_name (i := 2) rfl)) (by omega) (fun b hb => (xg_name 7)) (by decide) (fun b hb => tr_one (xt_chainI (f := (fun i j => decide (i ≤ j))) (f' := (fun i j => decide (i ≤ j))) (fun _ => op_le) (fun _ => op_le) (xe_min (T.free 101 rfl) h0 (xe_name (i := 4) rfl)) (xe_name (i := 7) rfl) (xe_max (T.free 102 rfl) h0 (xe_name (i := 4) rfl)) rfl)) (fun b hb hf => (xe_name (i := 7) rfl)))) (congrArg (fun l => PyData.list (List.map PyData.int l)) hz.seg)) (xe_sorted (T.free 103 rfl) (by omega) (xe_name (i := 4) rfl))))) ?_) rfl)
    show PyData.bool (true && PyData.eqvAll ((sortI row).map .int) ((sortI row).map .int)) = _
    rw [eqv_ints]
    simp
end Pf
end
section
set_option Elab.async false
set_option linter.all false
set_option maxRecDepth 100000
set_option maxHeartbeats 2000000
set_option exponentiation.threshold 5000
set_option pp.maxSteps 1200
namespace Pf
open PySem PySem.Spec PyProof.Rows L2 RZ
/-- {k: v}, k a tuple of numbers -/
def tDisp1 (tk tv : TE) : TE := fun σ H Q => ∀ p, H p = none → tk σ (upd H p (.dT [])) fun x H1 => tv σ H1 fun y H2 => ∃ b ks, x = .ref b ∧ H2 b = some (.tup (ks.map kV)) ∧ H2 p = some (.dT []) ∧ Q (.ref p) (upd H2 p (.dT (putK [] ks y)))
theorem pe_disp1 {X : Cx} {pos : Pos} {k v : Expr} {tk tv : TE} (hu : X.A.units + 1 < cLine) (hk : PE X k tk) (hv : PE X v tv) : PE X (.Dict [some k] [v] pos) (tDisp1 tk tv) := by
  refine ⟨fun pins s σ H Q I q => ?_⟩
  have hn := I.hok.fresh (Nat.le_refl s.heap.objs.size)
  have I1 := I.laid (a := s.heap.objs.size) (o := .dT []) (h' := s.heap.push { cls := .type "dict", data := .dict #[] }) (t' := s.toks) (fun _ _ q => Heap.get?_push_of_some _ q) (Nat.le_refl _) (dt_empty s.heap I.big)
  have q0 := q _ hn
  have hl : (pairTrees [some k] [v] X.env pos).length = 1 := pairTrees_length [some k] [v] X.env pos rfl rfl
  have hne : pairTrees [some k] [v] X.env pos ≠ [] := fun e => by rw [e] at hl; cases hl
  rw [arm_eval_Dict, zip_pairTrees [some k] [v] X.env pos rfl rfl, dictDisplay_pairs _ hne (by omega)]
  refine wpAny_bind (wpAny_standAt (wpAny_bind (wpAny_subDictH (knd := tupleKind (mixKind X.prog X.w)) (by show X.A.units < cLine; omega) (by omega) ?_)))
  refine pairTrees_cons_walk (thn (hk.run pins _ σ _ _ I1 q0) fun u s1 ⟨x, H1, I2, rx, q1⟩ => thn (hv.run pins s1 σ H1 _ I2 q1) fun w2 s2 ⟨y, H2, I3, ry, b, ks, ex, hb, hp, q2⟩ => pairTrees_nil_walk ?_)
  subst ex
  obtain rfl : u = Value.ref b := rx
  obtain ⟨z, hd, xs, rel, dd⟩ := dt_of I3.hok hp
  cases rel
  refine ⟨[(ks, b, w2)], ⟨rfl, rfl, key_of I3.hok hb, trivial⟩, dd, fun h' tk' dd' hs => wpAny_pure ⟨.ref s.heap.objs.size, _, ?_, rfl, q2⟩⟩
  obtain ⟨o, es, ep, hq, h2, h3, h4, _, h5⟩ := dd'
  refine d_write (t' := tk') I3 (by rw [hp]; exact True.intro) hs ⟨o, hq⟩ ⟨by show 1 ≤ sizeLine; decide, hd, _, ((KT.put (kvs := []) (xs := []) .nil ks hb ry)).keeps fun c ys ec => ?_, o, es, ep, hq, h2, h3, h4, h5⟩
  rw [upd_ne (ne_of ec hp (fun z => nomatch z))]
  exact ec
end Pf
end
section
set_option Elab.async false
set_option linter.all false
set_option maxRecDepth 100000
set_option maxHeartbeats 2000000
set_option exponentiation.threshold 5000
set_option pp.maxSteps 1200
namespace Pf
open PySem PySem.Spec PyProof.Rows L2 RZ
/-! ### lots, layer by layer -/
def layerS (W : Wd) (lot : List Int) : Nat → List (List Int)
  | 0 => [lot]
  | n + 1 => (layerS W lot n).flatMap fun h => (obM W (-1) h W.props.length).map (withM h)
def distM (W : Wd) (lot : List Int) (one : Int) : Option Nat := (List.range (lot.length + 1)).find? fun n => (layerS W lot n).any fun x => !decide (one ∈ x)
def optI : Option Nat → PyData
  | none => .none
  | some n => .int (n : Int)
theorem with_len {p : Int} : ∀ {l : List Int}, l.Nodup → p ∈ l → (withM l p).length + 1 = l.length
  | a :: l, hn, hp => by
    obtain ⟨h1, h2⟩ := List.nodup_cons.mp hn
    unfold withM
    by_cases e : a = p
    · subst e
      have e2 : l.filter (fun i => !decide (i = a)) = l := List.filter_eq_self.mpr fun i hi => by
        have : i ≠ a := fun z => h1 (by rw [← z]; exact hi)
        simp [this]
      rw [List.filter_cons_of_neg (by simp), e2, List.length_cons]
    · have h3 : p ∈ l := (List.mem_cons.mp hp).resolve_left fun z => e z.symm
      rw [List.filter_cons_of_pos (by simp [e]), List.length_cons, List.length_cons]
      have := with_len h2 h3
      unfold withM at this
      omega
theorem lot_nodup {W : Wd} {lot : List Int} (h : LotOk W lot) : lot.Nodup := (ascB_pw h.asc).imp fun h => by omega
theorem lay_ok {W : Wd} {lot : List Int} (hl : LotOk W lot) : ∀ n, ∀ x ∈ layerS W lot n, LotOk W x ∧ x.Sublist lot ∧ x.length + n = lot.length
  | 0, x, hx => by
    rw [List.mem_singleton.mp hx]
    exact ⟨hl, List.Sublist.refl _, rfl⟩
  | n + 1, x, hx => by
    obtain ⟨h, hh, hx⟩ := List.mem_flatMap.mp hx
    obtain ⟨s, hs, rfl⟩ := List.mem_map.mp hx
    obtain ⟨h1, h2, h3⟩ := lay_ok hl n h hh
    have h4 := with_len (lot_nodup h1) (ob_mem hs)
    exact ⟨with_ok h1 s, List.filter_sublist.trans h2, by omega⟩
/-! the lots known, and those of the next layer -/
abbrev KnS := List (List Int) × List (List Int)
def stepK (s : KnS) (x : List Int) : KnS := if x ∈ s.1 then s else (s.1 ++ [x], s.2 ++ [x])
def hereK (W : Wd) (s : KnS) (h : List Int) : KnS := (obM W (-1) h W.props.length).foldl (fun s st => stepK s (withM h st)) s
theorem steps_add : ∀ (L : List (List Int)) (s : KnS), ∃ d, L.foldl stepK s = (s.1 ++ d, s.2 ++ d) ∧ (∀ x ∈ d, x ∈ L ∧ x ∉ s.1) ∧ (∀ x ∈ L, x ∈ s.1 ++ d) ∧ (s.1.Nodup → (s.1 ++ d).Nodup)
  | [], s => ⟨[], by simp, (fun x h => nomatch h), (fun x h => nomatch h), fun h => by simpa using h⟩
  | y :: L, s => by
    by_cases e : y ∈ s.1
    · obtain ⟨d, h1, h2, h3, h4⟩ := steps_add L s
      refine ⟨d, ?_, fun x hx => ⟨List.mem_cons_of_mem _ (h2 x hx).1, (h2 x hx).2⟩, fun x hx => ?_, h4⟩
      · rw [List.foldl_cons, ← h1]
        unfold stepK
        rw [if_pos e]
      · rcases List.mem_cons.mp hx with rfl | hx
        · exact List.mem_append_left _ e
        · exact h3 x hx
    · obtain ⟨d, h1, h2, h3, h4⟩ := steps_add L (s.1 ++ [y], s.2 ++ [y])
      refine ⟨y :: d, ?_, fun x hx => ?_, fun x hx => ?_, fun hn => ?_⟩
      · rw [List.foldl_cons]
        have e2 : stepK s y = (s.1 ++ [y], s.2 ++ [y]) := by unfold stepK; rw [if_neg e]
        rw [e2, h1]
        simp
      · rcases List.mem_cons.mp hx with rfl | hx
        · exact ⟨List.mem_cons_self, e⟩
        · obtain ⟨g1, g2⟩ := h2 x hx
          exact ⟨List.mem_cons_of_mem _ g1, fun z => g2 (List.mem_append_left _ z)⟩
      · rcases List.mem_cons.mp hx with rfl | hx
        · exact List.mem_append_right _ List.mem_cons_self
        · have := h3 x hx
          simpa using this
      · have hn2 : (s.1 ++ [y]).Nodup := List.nodup_append.mpr ⟨hn, by simp, fun a ha b hb z => by
          rw [List.mem_singleton.mp hb] at z
          exact e (by rw [← z]; exact ha)⟩
        have := h4 hn2
        simpa using this
theorem here_flat (W : Wd) : ∀ (layer : List (List Int)) (s : KnS), layer.foldl (hereK W) s = (layer.flatMap fun h => (obM W (-1) h W.props.length).map (withM h)).foldl stepK s
  | [], s => rfl
  | h :: layer, s => by
    rw [List.foldl_cons, List.flatMap_cons, List.foldl_append, here_flat W layer]
    congr 1
    unfold hereK
    rw [List.foldl_map]
/-! all lots within a lot -/
def subsL : List Int → List (List Int)
  | [] => [[]]
  | a :: l => subsL l ++ (subsL l).map (a :: ·)
theorem subs_len : ∀ l : List Int, (subsL l).length = 2 ^ l.length
  | [] => rfl
  | a :: l => by
    show (subsL l ++ (subsL l).map (a :: ·)).length = _
    rw [List.length_append, List.length_map, subs_len l, List.length_cons, Nat.pow_succ]
    omega
theorem subs_mem : ∀ {x l : List Int}, x.Sublist l → x ∈ subsL l
  | _, _, .slnil => List.mem_cons_self
  | _, _, .cons a h => List.mem_append_left _ (subs_mem h)
  | _, _, .cons_cons a h => List.mem_append_right _ (List.mem_map.mpr ⟨_, subs_mem h, rfl⟩)
def KnOk (lot : List Int) (s : KnS) : Prop := s.1.Nodup ∧ (∀ x ∈ s.1, x.Sublist lot) ∧ s.2.length ≤ s.1.length
theorem KnOk.len {lot : List Int} {s : KnS} (h : KnOk lot s) (hl : lot.length ≤ 12) : s.1.length ≤ 4096 ∧ s.2.length ≤ 4096 := by
  have h1 := nodup_sub_len h.1 fun x hx => subs_mem (h.2.1 x hx)
  rw [subs_len] at h1
  have h2 : 2 ^ lot.length ≤ 2 ^ 12 := Nat.pow_le_pow_right (by decide) hl
  have := h.2.2
  omega
theorem KnOk.step {lot x : List Int} {s : KnS} (h : KnOk lot s) (hx : x.Sublist lot) : KnOk lot (stepK s x) := by
  obtain ⟨h1, h2, h3⟩ := h
  unfold stepK
  split
  · exact ⟨h1, h2, h3⟩
  · rename_i e
    refine ⟨List.nodup_append.mpr ⟨h1, by simp, fun a ha b hb z => ?_⟩, fun y hy => ?_, by simpa using h3⟩
    · rw [List.mem_singleton.mp hb] at z
      exact e (by rw [← z]; exact ha)
    · rcases List.mem_append.mp hy with hy | hy
      · exact h2 y hy
      · rw [List.mem_singleton.mp hy]; exact hx
theorem KnOk.here {W : Wd} {lot h : List Int} {s : KnS} (hs : KnOk lot s) (hh : h.Sublist lot) : KnOk lot (hereK W s h) :=
  fold_inv (KnOk lot) _ _ s hs fun b a ha hb => hb.step (List.filter_sublist.trans hh)
def knV (kn : List (List Int)) : List (List Key × V) := kn.map fun k => (kI k, V.bl true)
theorem knV_val (kn : List (List Int)) (k : List Int) : (valV (knV kn) (kI k)).isSome = decide (k ∈ kn) := by
  rw [← valV_any]
  unfold knV
  induction kn with
  | nil => rfl
  | cons a kn ih =>
    rw [List.map_cons, List.any_cons, ih]
    by_cases e : a = k
    · subst e; simp
    · have e2 : ¬ k = a := fun z => e z.symm
      have e3 : ¬ kI a = kI k := fun z => e (kI_inj z)
      simp [e2, e3]
theorem knV_put {kn : List (List Int)} {k : List Int} (h : k ∉ kn) : putK (knV kn) (kI k) (.bl true) = knV (kn ++ [k]) := by
  have h1 := knV_val kn k
  rw [← valV_any, decide_eq_false h] at h1
  unfold putK
  rw [if_neg (by rw [h1]; decide)]
  unfold knV
  rw [List.map_append]
  rfl
section
variable {g : Pg} {C : Ct} {q q' : Sta} {P : Po} {ke : Expr} {sts rest : List Stmt} {pos p p2 p3 : Pos} {x y : Str} {i j n : Nat} {ns : List Int}
/-- if key not in d, d an own dict -/
theorem xs_ifD {O1 O2 : Ol} {l : Addr} {kvs : List (List Key × V)} (hr : ∀ i, Room n (C.A i)) (hO : q.O = O1 ++ (l, .dct kvs) :: O2) (hx : q.δ[i]? = some (some (tAt l))) (hk : XE g C q.M q.δ ke (tKt ns)) (h1 : (valV kvs (kI ns)).isSome = false → XB g C q sts P) (h2 : (valV kvs (kI ns)).isSome = true → XB g C q rest P)
    (hv : ∀ j, PE (C.X g j) (.Name x p) (tVar i)) (hmk : behindInMarks .NotIn (.Name x p) = false := by rfl) : XS g C q (.If (.Compare ke [.NotIn] [.Name x p] p2) sts rest pos) P := fun Z M0 H0 G σ H D hh m => by
  refine w_ps (t := tIfS (tB (tDNotIn (wE g C ke) (tVar i))) (wB g C sts) (wB g C rest)) ?_ fun j => ps_if (pt_cmp (pc_dnotin (by have := (hr j).un; show (C.A j).units + 1 < cLine; omega) (pe_w j) (hv j)) hmk) (pss_w j) (pss_w j)
  have ml : (l, Kd.dct kvs) ∈ q.O := by rw [hO]; simp
  refine hh.ev hk fun v H1 hh1 t1 => ?_
  obtain ⟨b, rfl, hb⟩ := t1
  obtain ⟨v0, g1, g2⟩ := hh1.sl.get hx
  obtain rfl : v0 = .ref l := g2
  have hd : H1 l = some (.dT kvs) := hh1.own _ ml
  refine ⟨_, g1, l, _, rfl, DGet.t (k := kI ns) hd (by rw [kI_v]; exact out_sub _ _ hb), _, rfl, ?_⟩
  cases e : (valV kvs (kI ns)).isSome with
  | false => exact iteT (h1 e Z M0 H0 G σ H1 D hh1 m)
  | true => exact iteF (h2 e Z M0 H0 G σ H1 D hh1 m)
/-- x = {y: True} -/
theorem xs_dict1 (hr : ∀ i, Room n (C.A i)) (i j : Nat) {k1 : Nat} (hy : q.δ[j]? = some (some (tKt ns))) (k : ∀ l, P.nx { q with δ := q.δ.set i (some (tAt l)), O := q.O ++ [(l, .dct (knV [ns]))] }) (hN : C.N.Nodup) (hv : ∀ jj, PE (C.X g jj) (.Name y p3) (tVar j)) (hi : C.N[i]? = some x := by rfl) (hx : ∀ j, Loc (C.env j).scope x := by intro _; first | exact Or.inl rfl | exact Or.inr rfl)
    (hs : ∀ jj, swapsWith (.Dict [some (.Name y p3)] [.Constant (.bool true) k1 p2] pos) (some (.Name x p)) pos.line (C.env jj) = pure false := by intro _; rfl) (hf : ∀ j, C.fn j x = true ∨ (C.env j).scope.names.lookup x = some .local := by intro _; first | exact Or.inl rfl | exact Or.inr rfl) :
    XS g C q (.Assign [.Name x p] (.Dict [some (.Name y p3)] [.Constant (.bool true) k1 p2] pos) pos) P := fun Z M0 H0 G σ H D hh m => by
  refine w_ps (t := tAsg (tDisp1 (tVar j) (tC (.bl true))) (gName i)) ?_ fun jj => ps_set (X := C.X g jj) hN hi (hx jj) (pe_disp1 (by have := (hr jj).un; show (C.A jj).units + 1 < cLine; omega) (hv jj) pe_bl) (hs jj) (hf jj)
  intro l hl
  obtain ⟨v0, g1, g2⟩ := hh.sl.get hy
  obtain ⟨b, rfl, hb⟩ := g2
  have hb' : H b = some (.tup (ns.map V.int)) := out_sub _ _ hb
  refine ⟨_, g1, b, kI ns, rfl, by rw [kI_v]; exact Ex.new hl _ _ hb', upd_same, ?_⟩
  have eu : upd (upd H l (.dT [])) l (.dT (putK [] (kI ns) (.bl true))) = upd H l (.dT (knV [ns])) := by
    funext a
    by_cases e : a = l
    · rw [e, upd_same, upd_same]; rfl
    · rw [upd_ne e, upd_ne e, upd_ne e]
  rw [eu]
  have h1 := hh.grow (u := .dT (knV [ns])) (kd := .dct (knV [ns])) hl fun B => upd_same
  exact m.nx _ _ _ (k l) (h1.sl' (Sl.set (T := tAt l) rfl i h1.sl))
end
end Pf
end
section
set_option Elab.async false
set_option linter.all false
set_option maxRecDepth 100000
set_option maxHeartbeats 2000000
set_option exponentiation.threshold 5000
set_option pp.maxSteps 1200
namespace Pf
open PySem PySem.Spec PyProof.Rows L2 RZ
def tupI (ns : List Int) : PyData := .tuple (ns.map .int)
theorem sh_lots (ls : List (List Int)) : Sh 2 (.list (ls.map tupI)) := Sh.lst fun x hx => by
  obtain ⟨i, _, rfl⟩ := List.mem_map.mp hx
  exact sh_intt i
theorem sh_nil : Sh 2 (.list []) := sh_lots []
structure DiC where
  kn : List (List Int)
  layer : List (List Int)
  n : Nat
structure DiW (W : Wd) (lot : List Int) (one : Int) (c : DiC) : Prop where
  kn : KnOk lot (c.kn, [])
  lay : ∀ x, x ∈ c.layer ↔ x ∈ layerS W lot c.n
  old : ∀ k ∈ c.kn, lot.length ≤ k.length + c.n
  no : ∀ m < c.n, ∀ x ∈ layerS W lot m, one ∈ x
  sz : c.layer.length ≤ 4096
def nextK (W : Wd) (c : DiC) (m : Nat) : KnS := (c.layer.take m).foldl (hereK W) (c.kn, [])
theorem next_ok {W : Wd} {lot : List Int} {one : Int} {c : DiC} (hl : LotOk W lot) (h : DiW W lot one c) (m : Nat) : KnOk lot (nextK W c m) :=
  fold_inv (KnOk lot) _ _ _ h.kn fun b a ha hb => hb.here (lay_ok hl c.n a ((h.lay a).mp (List.mem_of_mem_take ha))).2.1
theorem next_w {W : Wd} {lot : List Int} {one : Int} {c : DiC} (hl : LotOk W lot) (h12 : lot.length ≤ 12) (h : DiW W lot one c) (hno : ∀ x ∈ c.layer, one ∈ x) : DiW W lot one ⟨(nextK W c c.layer.length).1, (nextK W c c.layer.length).2, c.n + 1⟩ := by
  have hok := next_ok hl h c.layer.length
  have hlen := hok.len h12
  have e : nextK W c c.layer.length = (c.layer.flatMap fun h => (obM W (-1) h W.props.length).map (withM h)).foldl stepK (c.kn, []) := by
    unfold nextK
    rw [List.take_length, here_flat]
  obtain ⟨d, h1, h2, h3, h4⟩ := steps_add (c.layer.flatMap fun h => (obM W (-1) h W.props.length).map (withM h)) (c.kn, [])
  have lays : ∀ x, x ∈ (c.layer.flatMap fun h => (obM W (-1) h W.props.length).map (withM h)) ↔ x ∈ layerS W lot (c.n + 1) := fun x => by
    show _ ↔ x ∈ (layerS W lot c.n).flatMap fun h => (obM W (-1) h W.props.length).map (withM h)
    constructor
    · intro hx
      obtain ⟨y, hy, hx⟩ := List.mem_flatMap.mp hx
      exact List.mem_flatMap.mpr ⟨y, (h.lay y).mp hy, hx⟩
    · intro hx
      obtain ⟨y, hy, hx⟩ := List.mem_flatMap.mp hx
      exact List.mem_flatMap.mpr ⟨y, (h.lay y).mpr hy, hx⟩
  rw [← e] at h1
  have k1 : (nextK W c c.layer.length).1 = c.kn ++ d := by rw [h1]
  have k2 : (nextK W c c.layer.length).2 = d := by rw [h1]; rfl
  refine ⟨⟨hok.1, hok.2.1, Nat.zero_le _⟩, fun x => ?_, fun k hk => ?_, fun m hm x hx => ?_, hlen.2⟩
  · show x ∈ (nextK W c c.layer.length).2 ↔ x ∈ layerS W lot (c.n + 1)
    rw [k2]
    constructor
    · intro hx
      exact (lays x).mp (h2 x hx).1
    · intro hx
      have l1 := (lay_ok hl _ x hx).2.2
      rcases List.mem_append.mp (h3 x ((lays x).mpr hx)) with hk | hk
      · have : lot.length ≤ x.length + c.n := h.old x hk
        omega
      · exact hk
  · have hk' : k ∈ (nextK W c c.layer.length).1 := hk
    show lot.length ≤ k.length + (c.n + 1)
    rw [k1] at hk'
    rcases List.mem_append.mp hk' with hk' | hk'
    · have : lot.length ≤ k.length + c.n := h.old k hk'
      omega
    · have := (lay_ok hl _ k ((lays k).mp (h2 k hk').1)).2.2
      omega
  · have hm' : m < c.n + 1 := hm
    by_cases e2 : m = c.n
    · subst e2
      exact hno x ((h.lay x).mpr hx)
    · exact h.no m (by omega) x hx
theorem dist_some {W : Wd} {lot : List Int} {one : Int} {c : DiC} (hl : LotOk W lot) (h : DiW W lot one c) (hx : ∃ x ∈ c.layer, one ∉ x) : distM W lot one = some c.n := by
  obtain ⟨x, hx, ho⟩ := hx
  have l1 := (lay_ok hl _ x ((h.lay x).mp hx)).2.2
  unfold distM
  rw [List.find?_range_eq_some]
  refine ⟨List.any_eq_true.mpr ⟨x, (h.lay x).mp hx, by simp [ho]⟩, List.mem_range.mpr (by omega), fun j hj => ?_⟩
  have : ((layerS W lot j).any fun x => !decide (one ∈ x)) = false := List.any_eq_false.mpr fun y hy => by simp [h.no j hj y hy]
  rw [this]
  rfl
theorem lay_nil {W : Wd} {lot : List Int} {n : Nat} (h : layerS W lot n = []) : ∀ m, n ≤ m → layerS W lot m = []
  | 0, hm => by
    have e : n = 0 := by omega
    rw [e] at h
    exact h
  | m + 1, hm => by
    by_cases e : n = m + 1
    · rw [← e]; exact h
    · show (layerS W lot m).flatMap _ = []
      rw [lay_nil h m (by omega)]
      rfl
theorem dist_none {W : Wd} {lot : List Int} {one : Int} {c : DiC} (hl : LotOk W lot) (h : DiW W lot one c) (hx : c.layer = []) : distM W lot one = none := by
  have e : layerS W lot c.n = [] := List.eq_nil_iff_forall_not_mem.mpr fun x hx2 => by
    have := (h.lay x).mpr hx2
    rw [hx] at this
    cases this
  unfold distM
  refine List.find?_eq_none.mpr fun m _ => ?_
  have : ((layerS W lot m).any fun x => !decide (one ∈ x)) = false := List.any_eq_false.mpr fun y hy => by
    by_cases h2 : m < c.n
    · simp [h.no m h2 y hy]
    · rw [lay_nil e m (by omega)] at hy
      cases hy
  rw [this]
  decide
structure DiZ where
  W : Wd
  lot : List Int
  one : Int
abbrev FnT__law_distance (g : Pg) : Prop := Fn g "_law_distance" ["_law_table_here", "_law_many", "_law_troop", "_law_one"] 2 (spM (α := {z : DiZ // WOk z.W ∧ LotOk z.W z.lot}) (fun _ => []) (fun z => [tTabW z.1.W, tD g.K (.int (z.1.W.props.length : Int)), tKt z.1.lot, tD g.K (.int z.1.one)]) (fun z => tD g.K (optI (distM z.1.W z.1.lot z.1.one))))
theorem sc__law_distance : FnScope ["_law_table_here", "_law_many", "_law_troop", "_law_one", "_law_layer", "_law_known", "_law_number", "_law_later", "_law_here", "_law_step", "_law_left_here"] ["_law_table_here", "_law_many", "_law_troop", "_law_one"] (defScope sLawDistance) := ⟨rfl, rfl, rfl, by decide +kernel, rfl, by decide +kernel, by decide +kernel⟩
abbrev diD (g : Pg) (W : Wd) (lot : List Int) (one : Int) (c : DiC) (la : Addr) (x y z w : Option Ty) : Sd := [some (tTabW W), some (tD g.K (.int (W.props.length : Int))), some (tKt lot), some (tD g.K (.int one)), some (tD g.K (.list (c.layer.map tupI))), some (tAt la), some (tD g.K (.int (c.n : Int))), x, y, z, w]
theorem fn__law_distance {g : Pg} (T : Tx g) (F__law_over : FnT__law_over g) (F__law_less : FnT__law_less g) : FnT__law_distance g := by
  refine T.fn 61 48 (k := 1) (d := dLawDistance) rfl rfl rfl rfl rfl sc__law_distance (fun _ => rfl) (fun _ _ _ _ _ _ us hl => match us, hl with | [_, _, _, _], _ => rfl) fun cdv Ar outer s H z hr => ?_
  have nd := sc__law_distance.nd
  obtain ⟨⟨W, lot, one⟩, hW, hl⟩ := z
  dsimp only at hW hl
  have hp12 := hW.p12
  have h12 : lot.length ≤ 12 := Nat.le_trans hl.len hp12
  refine xb_cons (xs_set 4 (T := tD g.K (.list ([lot].map tupI))) (xe_lstD (ds := [tupI lot]) (xa_cons (XE.dD (xe_name (i := 2) rfl)) xa_nil)) ?_ nd)
  refine xb_cons (xs_dict1 (ns := lot) (fun _ => hr) 5 2 rfl (fun la => ?_) nd (fun j => pe_var rfl (by first | exact Or.inl rfl | exact Or.inr (Or.inl rfl) | exact Or.inr (Or.inr rfl))))
  refine xb_cons (xs_set 6 (T := tD g.K (.int ((0 : Nat) : Int))) xe_int ?_ nd)
  refine xb_cons (xs_while (γ := DiC) (fun c => ⟨diD g W lot one c la none none none none, [(la, .dct (knV c.kn))], []⟩) (fun c => lot.length + 1 - c.n) (DiW W lot one) ⟨[lot], [lot], 0⟩ ⟨⟨by simp, fun x hx => by rw [List.mem_singleton.mp hx]; exact List.Sublist.refl _, Nat.zero_le _⟩, fun x => Iff.rfl, fun k hk => by rw [List.mem_singleton.mp hk]; exact Nat.le_refl _, (fun m hm => absurd hm (Nat.not_lt_zero m)), Nat.le_of_ble_eq_true rfl⟩ ⟨Le.refl _, rfl, rfl⟩ (fun c => !PyData.eqv (.list (c.layer.map tupI)) (.list [])) (fun c wc => xt_neD (fun _ => hr) (sh_lots _).ok sh_nil.ok (xe_name (i := 4) rfl) (xe_lstD (ds := []) xa_nil)) (fun c wc hb => ?_) (fun c wc hb => ?_))
  · have hne : c.layer ≠ [] := fun e => by rw [eqv_nil, e] at hb; cases hb
    have hsz := wc.sz
    refine xb_cons (xs_if (xt_neD (fun _ => hr) (sh_lots (c.layer.filter fun x => !decide (one ∈ x))).ok sh_nil.ok (xe_lc [("_law_here", 8)] nd (fun j => pi_list (pe_w j)) (fun _ => blkOk_by (sc := defScope sLawDistance) (by show blkC ["_law_table_here", "_law_many", "_law_troop", "_law_one", "_law_layer", "_law_known", "_law_number", "_law_later", "_law_here", "_law_step", "_law_left_here"] _ _ _ = true; decide +kernel)) (fun jj => pg_nm 8 jj nd) (fun jj => pts_one (pt_w jj)) (xr_lcL (c.layer) (tupI) (tupI) (fun x => !decide (one ∈ x)) (fun x => diD g W lot one c la none (some (tD g.K (tupI x))) none none) ((xe_name (i := 4) rfl)) (by omega) (fun b hb => (xg_name 8)) (by decide) (fun b hb => tr_one (xt_niIT (xe_name (i := 3) rfl) (xe_name (i := 8) rfl))) (fun b hb hf => (xe_name (i := 8) rfl)))) (xe_lstD (ds := []) xa_nil)) (fun hb2 => ?_) (fun hb2 => ?_))
    · refine xb_one (xs_ret (T := tD g.K (optI (distM W lot one))) (XE.toD (xe_name (i := 6) rfl) ?_) rfl)
      rw [eqv_nil] at hb2
      obtain ⟨x, hx⟩ : ∃ x, x ∈ c.layer.filter fun x => !decide (one ∈ x) := by
        cases e : c.layer.filter fun x => !decide (one ∈ x) with
        | nil => rw [e] at hb2; cases hb2
        | cons x xs => exact ⟨x, List.mem_cons_self⟩
      obtain ⟨h1, h2⟩ := List.mem_filter.mp hx
      rw [dist_some hl wc ⟨x, h1, by simpa using h2⟩]
      rfl
    · refine xb_nil ?_
      have hno : ∀ x ∈ c.layer, one ∈ x := fun x hx => by
        rw [eqv_nil] at hb2
        by_cases e : one ∈ x
        · exact e
        · have h1 : x ∈ c.layer.filter fun x => !decide (one ∈ x) := List.mem_filter.mpr ⟨hx, by simp [e]⟩
          cases e2 : c.layer.filter fun x => !decide (one ∈ x) with
          | nil => rw [e2] at h1; cases h1
          | cons y ys => rw [e2] at hb2; cases hb2
      have hnw := next_w hl h12 wc hno
      have hcn : c.n ≤ lot.length := by
        cases e : c.layer with
        | nil => exact absurd e hne
        | cons y ys =>
          have := (lay_ok hl c.n y ((wc.lay y).mp (by rw [e]; exact List.mem_cons_self))).2.2
          omega
      refine xb_cons (xs_nil 7 (fun lb => ?_) nd)
      refine xb_cons (xs_forLW c.layer tupI (fun m => ⟨diD g W lot one c la (some (tAt lb)) none none none, [(la, .dct (knV (nextK W c m).1)), (lb, .lst (((nextK W c m).2.map tupI).map (tD g.K)))], []⟩) (fun m h => diD g W lot one c la (some (tAt lb)) (some (tD g.K (tupI h))) none none) (fun _ => True) trivial (xe_name (i := 4) rfl) ⟨Le.refl _, rfl, rfl⟩ (fun n b hb => xg_name 8) (fun m h hh _ => ?_) (fun _ => ?_) (fun jj => pg_nm 8 jj nd))
      · have hmem := List.mem_of_getElem? hh
        obtain ⟨ho1, ho2, ho3⟩ := lay_ok hl c.n h ((wc.lay h).mp hmem)
        have hol := ho1.len
        have hks := next_ok hl wc m
        refine xb_one (xs_forLW (obM W (-1) h W.props.length) PyData.int (fun n => ⟨diD g W lot one c la (some (tAt lb)) (some (tD g.K (tupI h))) none none, [(la, .dct (knV (((obM W (-1) h W.props.length).take n).foldl (fun s st => stepK s (withM h st)) (nextK W c m)).1)), (lb, .lst (((((obM W (-1) h W.props.length).take n).foldl (fun s st => stepK s (withM h st)) (nextK W c m)).2.map tupI).map (tD g.K)))], []⟩) (fun n st => diD g W lot one c la (some (tAt lb)) (some (tD g.K (tupI h))) (some (tD g.K (.int st))) none) (fun _ => True) trivial (xe_call (F__law_over.mono (by decide)) (fun _ => hr) ⟨(W, h), hW, ho1⟩ (xa_cons (xe_name (i := 0) rfl) (xa_cons (xe_name (i := 1) rfl) (xa_cons (xe_name (i := 8) rfl) xa_nil)))) ⟨Le.refl _, rfl, rfl⟩ (fun n b hb => xg_name 9) (fun n st hst _ => ?_) (fun _ => ?_) (fun jj => pg_nm 9 jj nd))
        · have hk2 : KnOk lot (((obM W (-1) h W.props.length).take n).foldl (fun s st => stepK s (withM h st)) (nextK W c m)) := fold_inv (KnOk lot) _ _ _ hks fun b a ha hb => hb.step (List.filter_sublist.trans ho2)
          have hfm := fold_more (f := fun s st => stepK s (withM h st)) (a := nextK W c m) hst
          have hln := hk2.len h12
          generalize ((obM W (-1) h W.props.length).take n).foldl (fun s st => stepK s (withM h st)) (nextK W c m) = s2 at hk2 hfm hln ⊢
          refine xb_cons (xs_set 10 (xe_call (F__law_less.mono (by decide)) (fun _ => hr) ⟨(h, st), by show h.length ≤ 1000; omega⟩ (xa_cons (xe_name (i := 8) rfl) (xa_cons (xe_name (i := 9) rfl) xa_nil))) ?_ nd)
          refine xb_one (xs_ifD (ns := withM h st) (i := 5) (O1 := []) (fun _ => hr) rfl rfl (xe_name (i := 10) rfl) (fun e => ?_) (fun e => ?_) (fun j => pe_var rfl (by first | exact Or.inl rfl | exact Or.inr (Or.inl rfl) | exact Or.inr (Or.inr rfl))))
          · rw [knV_val] at e
            have hnk : withM h st ∉ s2.1 := of_decide_eq_false e
            have es : stepK s2 (withM h st) = (s2.1 ++ [withM h st], s2.2 ++ [withM h st]) := by unfold stepK; rw [if_neg hnk]
            refine xb_cons (xs_dputB (ns := withM h st) (bb := true) (i := 5) (O1 := []) (fun _ => hr) rfl rfl xe_bl (xe_name (i := 10) rfl) (by unfold knV; rw [List.length_map]; omega) ?_ (fun j => pe_var rfl (by first | exact Or.inl rfl | exact Or.inr (Or.inl rfl) | exact Or.inr (Or.inr rfl))))
            refine xb_one (xs_app (i := 7) (O1 := [(la, _)]) (O2 := []) rfl rfl (T := tD g.K (tupI (withM h st))) (XE.dD (xe_name (i := 10) rfl)) (by simp only [List.length_map]; omega) ⟨trivial, ?_, ?_, rfl⟩)
            · exact .is (.is (.is (.is (.is (.is (.is (.is (.is (.no (.no .nil))))))))))
            · rw [hfm, es, knV_put hnk]
              simp
          · rw [knV_val] at e
            have hnk : withM h st ∈ s2.1 := of_decide_eq_true e
            have es : stepK s2 (withM h st) = s2 := by unfold stepK; rw [if_pos hnk]
            refine xb_nil ⟨trivial, ?_, ?_, rfl⟩
            · exact .is (.is (.is (.is (.is (.is (.is (.is (.is (.no (.no .nil))))))))))
            · rw [hfm, es]
        · refine ⟨trivial, ?_, ?_, rfl⟩
          · exact .is (.is (.is (.is (.is (.is (.is (.is (.no (.no (.no .nil))))))))))
          · rw [List.take_length]
            unfold nextK
            rw [fold_more hh]
            rfl
      · refine xb_freeze 7 (O1 := [(la, _)]) (O2 := []) (ds := (nextK W c c.layer.length).2.map tupI) rfl rfl ?_
        refine xb_cons (xs_set 4 (xe_name (i := 7) rfl) ?_ nd)
        refine xb_one (xs_set 6 (T := tD g.K (.int ((c.n + 1 : Nat) : Int))) (XE.toD (xe_add (xe_name (i := 6) rfl) xe_int) (by simp)) ⟨⟨(nextK W c c.layer.length).1, (nextK W c c.layer.length).2, c.n + 1⟩, ?_, hnw, ?_, rfl, rfl⟩ nd)
        · show lot.length + 1 - (c.n + 1) < lot.length + 1 - c.n
          omega
        · exact .is (.is (.is (.is (.is (.is (.is (.no (.no (.no (.no .nil))))))))))
  · have he : c.layer = [] := by
      rw [eqv_nil] at hb
      cases e : c.layer with
      | nil => rfl
      | cons y ys => rw [e] at hb; cases hb
    refine xb_one (xs_ret (T := tD g.K (optI (distM W lot one))) (XE.toD xe_non ?_) rfl)
    rw [dist_none hl wc he]
    rfl
end Pf
end
section
set_option Elab.async false
set_option linter.all false
set_option maxRecDepth 100000
set_option maxHeartbeats 2000000
set_option exponentiation.threshold 5000
set_option pp.maxSteps 1200
namespace Pf
open PySem PySem.Spec PyProof.Rows L2 RZ
/-! ### sorted(set(tuple of numbers)) -/
def insU (x : Int) : List Int → List Int
  | [] => [x]
  | y :: l => if x < y then x :: y :: l else if x = y then y :: l else y :: insU x l
def sortU : List Int → List Int
  | [] => []
  | x :: l => insU x (sortU l)
theorem insU_mem (x z : Int) : ∀ l : List Int, z ∈ insU x l ↔ z = x ∨ z ∈ l
  | [] => by simp [insU]
  | y :: l => by
    unfold insU
    split
    · simp
    · split
      · rename_i h
        subst h
        simp
      · rw [List.mem_cons, List.mem_cons, insU_mem x z l]
        constructor
        · rintro (h | h | h) <;> simp [h]
        · rintro (h | h | h) <;> simp [h]
theorem sortU_mem (z : Int) : ∀ l : List Int, z ∈ sortU l ↔ z ∈ l
  | [] => Iff.rfl
  | x :: l => by
    show z ∈ insU x (sortU l) ↔ _
    rw [insU_mem, sortU_mem z l, List.mem_cons]
theorem insU_pw (x : Int) : ∀ {l : List Int}, l.Pairwise (· < ·) → (insU x l).Pairwise (· < ·)
  | [], _ => by simp [insU]
  | y :: l, h => by
    obtain ⟨h1, h2⟩ := List.pairwise_cons.mp h
    unfold insU
    split
    · rename_i q
      refine List.pairwise_cons.mpr ⟨fun z hz => ?_, h⟩
      rcases List.mem_cons.mp hz with e | hz
      · omega
      · have := h1 z hz; omega
    · split
      · exact h
      · refine List.pairwise_cons.mpr ⟨fun z hz => ?_, insU_pw x h2⟩
        rcases (insU_mem x z l).mp hz with e | hz
        · omega
        · exact h1 z hz
theorem sortU_pw : ∀ l : List Int, (sortU l).Pairwise (· < ·)
  | [] => .nil
  | x :: l => insU_pw x (sortU_pw l)
theorem pw_one : ∀ {l l' : List Int}, l.Pairwise (· < ·) → l'.Pairwise (· < ·) → (∀ x, x ∈ l ↔ x ∈ l') → l = l'
  | [], [], _, _, _ => rfl
  | [], y :: l', _, _, h => by have := (h y).mpr List.mem_cons_self; cases this
  | x :: l, [], _, _, h => by have := (h x).mp List.mem_cons_self; cases this
  | x :: l, y :: l', h1, h2, h => by
    obtain ⟨a1, a2⟩ := List.pairwise_cons.mp h1
    obtain ⟨b1, b2⟩ := List.pairwise_cons.mp h2
    have e : x = y := by
      rcases List.mem_cons.mp ((h x).mp List.mem_cons_self) with e | i1
      · exact e
      · rcases List.mem_cons.mp ((h y).mpr List.mem_cons_self) with e | i2
        · exact e.symm
        · have := b1 x i1
          have := a1 y i2
          omega
    subst e
    rw [pw_one a2 b2 fun z => by
      constructor
      · intro hz
        rcases List.mem_cons.mp ((h z).mp (List.mem_cons_of_mem _ hz)) with e | i
        · have := a1 z hz
          omega
        · exact i
      · intro hz
        rcases List.mem_cons.mp ((h z).mpr (List.mem_cons_of_mem _ hz)) with e | i
        · have := b1 z hz
          omega
        · exact i]
theorem sortU_eq (l : List Int) : decide (l = sortU l) = ascB l := by
  by_cases h : ascB l = true
  · rw [h]
    exact decide_eq_true (pw_one (ascB_pw h) (sortU_pw l) fun x => (sortU_mem x l).symm)
  · have h2 : ascB l = false := Bool.eq_false_iff.mpr h
    rw [h2]
    exact decide_eq_false fun e => h (pw_ascB (by rw [e]; exact sortU_pw l))
def tSet (g : Pg) (ns : List Int) : Ty := ⟨fun H v => ∃ q c, v = .ref q ∧ c ≤ ns.length ∧ H q = some (SetO g.w q (fun j => decide (j ∈ ns)) c), fun e ⟨q, c, h1, h2, h3⟩ => ⟨q, c, h1, h2, e _ _ h3⟩⟩
section
variable {g : Pg} {C : Ct} {a : Expr} {M : Ml} {δ : Sd} {ns : List Int} {p pos p2 pos2 : Pos}
theorem xe_setT (hm : g.mg "set" = none) (hz : ns.length < 64) (ha : XE g C M δ a (tD g.K (.tuple (ns.map .int)))) (hg : ∀ j, (C.env j).kindOf "set" = some .globalImplicit := by intro _; rfl) (he : ∀ j, starEach [a] (C.env j) = (false, eval a (C.env j)) :: starEach [] (C.env j) := by intro _; rfl) : XE g C M δ (.Call (.Name "set" p) [a] [] pos) (tSet g ns) :=
  xe_ctN (r := fun xs H Q => ∃ p, ∃ ns : List Int, xs = [.ref p] ∧ SqT g.K H p (ns.map V.int) ∧ ns.length + 1 < scanBound ∧ ∀ c q, c ≤ ns.length → H q = none → Q (.ref q) (upd H q (SetO g.w q (fun j => decide (j ∈ ns)) c))) (fun j => cr_setT (X := C.X g j) rfl) hm (by decide +kernel) (fun B H vs Q e h k => by
    obtain ⟨v, rfl, hv⟩ := al1 h
    obtain ⟨q, xs, rfl, h1, r1⟩ := rp_tup hv
    have e2 := rp_ints r1
    subst e2
    exact ⟨q, ns, rfl, sqt_mono e h1, Nat.lt_of_lt_of_le (Nat.succ_lt_succ hz) (by decide +kernel), fun c p hc hp => k _ p hp fun B' _ hb => ⟨p, c, rfl, hc, hb⟩⟩) (xa_cons ha xa_nil he) (by decide) (by decide) hg he
theorem xe_sortedS (hm : g.mg "sorted" = none) (hz : ns.length < 64) (ha : XE g C M δ a (tSet g ns)) (hg : ∀ j, (C.env j).kindOf "sorted" = some .globalImplicit := by intro _; rfl) (he : ∀ j, starEach [a] (C.env j) = (false, eval a (C.env j)) :: starEach [] (C.env j) := by intro _; rfl) : XE g C M δ (.Call (.Name "sorted" p) [a] [] pos) (tD g.K (.list ((sortU ns).map .int))) :=
  xe_cbN (r := rSortedSet g.w) (fun j => cr_sortedSet (X := C.X g j) rfl) hm (by decide +kernel) (fun B H vs Q e h k => by
    obtain ⟨v, rfl, q, c, rfl, hc, hq⟩ := al1 h
    refine ⟨q, _, c, rfl, e _ _ hq, by omega, fun ns' p h1 h2 _ hp => ?_⟩
    have en : ns' = sortU ns := pw_one h1 (sortU_pw ns) fun x => by rw [h2, sortU_mem]; simp
    rw [en]
    exact k _ p hp fun B' _ hb => .lst hb (rp_of_ints _)) (xa_cons ha xa_nil he) (by decide) (by decide) hg he
end
end Pf
end
section
set_option Elab.async false
set_option linter.all false
set_option maxRecDepth 100000
set_option maxHeartbeats 2000000
set_option exponentiation.threshold 5000
set_option pp.maxSteps 1200
namespace Pf
open PySem PySem.Spec PyProof.Rows L2 RZ
theorem sh_elT {n : Nat} {es : List PyData} (h : Sh (n + 1) (.tuple es)) : ∀ d ∈ es, Sh n d := by
  obtain ⟨h1, h2⟩ := h
  exact sh_el (n := n) (es := es) ⟨h1, h2⟩
/-- a reason that is told, of the kind that the law makes -/
structure RkOk (c : PyData) : Prop where
  sh : Sh 10 c
  lot : ∀ s l, c = .tuple [.str s, l] → s = "left" ∨ s = "right" → ∃ ds, l = .tuple ds ∧ ds.length ≤ 60 ∧ ∀ d ∈ ds, (∃ i, d = .int i) ∨ (∃ b, d = .bool b)
theorem RkOk.rd {c : PyData} (h : RkOk c) : RdOk c := ⟨h.sh, fun s l e hs => by
  obtain ⟨ds, h1, h2, _⟩ := h.lot s l e hs
  exact ⟨ds, h1, by omega⟩⟩
theorem eqv_str {s : Str} {x : PyData} (h : PyData.eqv (.str s) x = true) : x = .str s := by
  cases x with
  | str t =>
    have h' : (s == t) = true := h
    rw [beq_iff_eq.mp h']
  | _ => cases h
/-- what the law asks of a told lot -/
def badK (lot : List Int) (d : PyData) : Bool := isTy "bool" d || !decide (valI d ∈ lot)
theorem isTy_bool (d : PyData) : isTy "bool" d = (match d with | .bool _ => true | _ => false) := by unfold isTy; cases d <;> simp only [tyName] <;> decide +kernel
theorem good_ints {lot : List Int} : ∀ {ds : List PyData}, (∀ d ∈ ds, (∃ i, d = .int i) ∨ (∃ b, d = .bool b)) → (ds.filter (badK lot)) = [] → ∃ ns : List Int, ds = ns.map .int ∧ ∀ i ∈ ns, i ∈ lot
  | [], _, _ => ⟨[], rfl, fun i h => nomatch h⟩
  | d :: ds, h, he => by
    rw [List.filter_cons] at he
    by_cases e : badK lot d = true
    · rw [if_pos e] at he; cases he
    · rw [if_neg e] at he
      obtain ⟨ns, rfl, hn⟩ := good_ints (fun d hd => h d (List.mem_cons_of_mem _ hd)) he
      rcases h d List.mem_cons_self with ⟨i, rfl⟩ | ⟨b, rfl⟩
      · refine ⟨i :: ns, rfl, fun j hj => ?_⟩
        rcases List.mem_cons.mp hj with e2 | hj
        · rw [e2]
          unfold badK at e
          rw [isTy_bool] at e
          have e' : ¬ (false || !decide (i ∈ lot)) = true := e
          simpa using e'
        · exact hn j hj
      · exfalso
        apply e
        unfold badK
        rw [isTy_bool]
        rfl
theorem bad_lot {W : Wd} {lot : List Int} {lo hi : Int} {ds : List PyData} (h : ds.filter (badK lot) ≠ []) : lotOkM W lot lo hi ds = false := by
  unfold lotOkM
  cases q1 : isLotM W ds with
  | false => rfl
  | true =>
    obtain ⟨ns, rfl, _, hii⟩ := lot_of_ints q1
    rw [hii]
    obtain ⟨d, hd⟩ := List.exists_mem_of_ne_nil _ h
    obtain ⟨h1, h2⟩ := List.mem_filter.mp hd
    obtain ⟨i, hi2, rfl⟩ := List.mem_map.mp h1
    have e : (ns.all fun i => decide (i ∈ btwM lot lo hi)) = false := List.all_eq_false.mpr ⟨i, hi2, fun z => by
      have z1 := (List.mem_filter.mp (of_decide_eq_true z)).1
      unfold badK at h2
      rw [isTy_bool] at h2
      have e' : (false || !decide (i ∈ lot)) = true := h2
      simp [z1] at e'⟩
    rw [e]
    simp
theorem last_of {ns : List Int} (h : ns ≠ []) : ∃ r b, ns = r ++ [b] := ⟨ns.dropLast, ns.getLast h, (List.dropLast_concat_getLast h).symm⟩
theorem atI_last (r : List Int) (b : Int) : atI ((r ++ [b]).map PyData.int) (-1) = some (.int b) := by
  unfold atI ixN
  have e : (-1 + ((r.length : Int) + 1)).toNat = r.length := by omega
  have e2 : (1 : Int) ≤ (r.length : Int) + 1 := by omega
  simp [e, e2]
theorem lot_bad2 {W : Wd} {lot : List Int} {lo hi : Int} {ns : List Int} {a b : Int} {r r' : List Int} (hl : LotOk W lot) (hin : ∀ i ∈ ns, i ∈ lot) (e1 : ns = a :: r) (e2 : ns = r' ++ [b]) (h : (ascB ns && (decide (lo < a) && decide (b < hi))) = false) : lotOkM W lot lo hi (ns.map .int) = false := by
  have hall : (ns.map PyData.int).all (inLot W) = true := List.all_eq_true.mpr fun d hd => by
    obtain ⟨i, hi, rfl⟩ := List.mem_map.mp hd
    have := hl.inn i (hin i hi)
    show (decide (0 ≤ i) && decide (i < (W.props.length : Int))) = true
    rw [decide_eq_true this.1, decide_eq_true this.2]
    rfl
  unfold lotOkM
  rw [isLotM_ints hall, intsOf_map]
  cases q : ascB ns with
  | false => rfl
  | true =>
    rw [q, Bool.true_and] at h
    have e : (ns.all fun i => decide (i ∈ btwM lot lo hi)) = false := by
      rw [List.all_eq_false]
      rw [Bool.and_eq_false_iff] at h
      rcases h with h | h
      · have h' := of_decide_eq_false h
        refine ⟨a, by rw [e1]; exact List.mem_cons_self, fun z => ?_⟩
        have z1 := (List.mem_filter.mp (of_decide_eq_true z)).2
        rw [Bool.and_eq_true] at z1
        exact h' (of_decide_eq_true z1.1)
      · have h' := of_decide_eq_false h
        refine ⟨b, by rw [e2]; exact List.mem_append_right _ List.mem_cons_self, fun z => ?_⟩
        have z1 := (List.mem_filter.mp (of_decide_eq_true z)).2
        rw [Bool.and_eq_true] at z1
        exact h' (of_decide_eq_true z1.2)
    rw [e]
    simp
theorem asc_ends {ns : List Int} {a b : Int} {r r' : List Int} (e1 : ns = a :: r) (e2 : ns = r' ++ [b]) (h : ascB ns = true) : ∀ i ∈ ns, a ≤ i ∧ i ≤ b := fun i hi => by
  have pw := ascB_pw h
  constructor
  · rw [e1] at pw hi
    rcases List.mem_cons.mp hi with e | hi
    · omega
    · exact Int.le_of_lt ((List.pairwise_cons.mp pw).1 i hi)
  · rw [e2] at pw hi
    rcases List.mem_append.mp hi with hi | hi
    · exact Int.le_of_lt ((List.pairwise_append.mp pw).2.2 i hi b (by simp))
    · rw [List.mem_singleton.mp hi]; exact Int.le_refl _
theorem lot_good2 {W : Wd} {lot : List Int} {lo hi : Int} {ns : List Int} {a b : Int} {r r' : List Int} (hl : LotOk W lot) (hin : ∀ i ∈ ns, i ∈ lot) (e1 : ns = a :: r) (e2 : ns = r' ++ [b]) (h1 : ascB ns = true) (h2 : lo < a) (h3 : b < hi) : lotOkM W lot lo hi (ns.map .int) = (obM W lo ns hi).isEmpty ∧ (ns.all fun i => decide (i ∈ btwM lot lo hi)) = true := by
  have hok : LotOk W ns := ⟨h1, fun i hi => hl.inn i (hin i hi)⟩
  have e : (ns.all fun i => decide (i ∈ btwM lot lo hi)) = true := List.all_eq_true.mpr fun i hi2 => decide_eq_true (List.mem_filter.mpr ⟨hin i hi2, by
    have := asc_ends e1 e2 h1 i hi2
    rw [Bool.and_eq_true]
    exact ⟨decide_eq_true (by omega), decide_eq_true (by omega)⟩⟩)
  refine ⟨?_, e⟩
  unfold lotOkM
  rw [isLotM_ok hok, intsOf_map, e, e1]
  rfl
structure RkZ where
  W : Wd
  lot : List Int
  one : Int
  l : Int
  r : Int
  c : PyData
structure RkIn (z : RkZ) : Prop where
  w : WOk z.W
  ll : LotOk z.W z.lot
  t : TrOk z.W z.l z.one z.r
  c : RkOk z.c
abbrev FnT__law_reason_right (g : Pg) : Prop := Fn g "_law_reason_right" ["_law_table_here", "_law_troop", "_law_one", "_law_told"] 1 (spM (α := {z : RkZ // RkIn z}) (fun _ => []) (fun z => [tTabW z.1.W, tD g.K (.tuple (z.1.lot.map .int)), tD g.K (.int z.1.one), tD g.K (.tuple [.int z.1.l, .int z.1.r, z.1.c])]) (fun z => tD g.K (.bool (isReasM z.1.W z.1.lot z.1.one z.1.l z.1.r z.1.c))))
theorem sc__law_reason_right : FnScope ["_law_table_here", "_law_troop", "_law_one", "_law_told", "_law_left_here", "_law_right_here", "_law_reason", "_law_side", "_law_some", "_law_low", "_law_high", "_law_rests", "_law_k"] ["_law_table_here", "_law_troop", "_law_one", "_law_told"] (defScope sLawReasonRight) := ⟨rfl, rfl, rfl, by decide +kernel, rfl, by decide +kernel, by decide +kernel⟩
abbrev rrD (g : Pg) (W : Wd) (lot : List Int) (one l r : Int) (c : PyData) (a b d e f h i j k : Option Ty) : Sd := [some (tTabW W), some (tD g.K (.tuple (lot.map .int))), some (tD g.K (.int one)), some (tD g.K (.tuple [.int l, .int r, c])), a, b, d, e, f, h, i, j, k]
theorem fn__law_reason_right {g : Pg} (T : Tx g) : FnT__law_reason_right g := by
  refine T.fn 63 50 (k := 0) (d := dLawReasonRight) rfl rfl rfl rfl rfl sc__law_reason_right (fun _ => rfl) (fun _ _ _ _ _ _ us hl => match us, hl with | [_, _, _, _], _ => rfl) fun cdv Ar outer s H z hr => ?_
  have nd := sc__law_reason_right.nd
  obtain ⟨⟨W, lot, one, l, r, c⟩, hW, hl, ht, hc⟩ := z
  dsimp only at hW hl ht hc
  have hlen := hl.len
  have hp12 := hW.p12
  show XB g _ ⟨rrD g W lot one l r c none none none none none none none none none, [], []⟩ _ { nx := fun _ => tD g.K .none = tD g.K (.bool (isReasM W lot one l r c)), rt := fun T => T = tD g.K (.bool (isReasM W lot one l r c)) }
  refine xb_cons (xs_unpack (T := tD g.K (.tuple [.int l, .int r, c])) (xe_name (i := 3) rfl) (xg_tup3 (xg_name 4) (xg_name 5) (xg_name 6)) ?_ (fun jj => pg_tup rfl (pgs_cons (pg_nm 4 jj nd) (pgs_cons (pg_nm 5 jj nd) (pgs_cons (pg_nm 6 jj nd) pgs_nil)))))
  refine xb_cons (xs_if (xt_eqD (fun _ => hr) hc.sh.ok shb (xe_name (i := 6) rfl) (xe_tupD (ds := [.str "bears"]) (xa_cons xe_str xa_nil))) (fun hb => ?_) (fun hb => ?_))
  · refine xb_one (xs_ret (T := tD g.K (.bool (isReasM W lot one l r c))) (XE.toD (xe_not (xe_tab (ns := [l, one, r]) (fun _ => hr) ⟨l, one, r, rfl, ht⟩ (xe_name (i := 0) rfl) (xe_tupK _ (xa_cons (xe_name (i := 4) rfl) (xa_cons (xe_name (i := 2) rfl) (xa_cons (xe_name (i := 5) rfl) xa_nil)))))) ?_) rfl)
    unfold isReasM
    rw [if_pos hb]
    rfl
  refine xb_nil ?_
  have FALSE : ∀ {q : Sta} {C : Ct} {P : Po} {p1 p2 j}, isReasM W lot one l r c = false → P.rt (tD g.K (.bool (isReasM W lot one l r c))) → XB g C q [.Return (some (.Constant (.bool false) j p1)) p2] P := fun h k => xb_one (xs_ret xe_bl (by rw [h] at k; exact k))
  by_cases htu : isTy "tuple" c = true
  · obtain ⟨ds0, rfl⟩ : ∃ ds, c = .tuple ds := ⟨_, isTup_eq htu⟩
    by_cases h2 : ds0.length = 2
    · obtain ⟨x, y, rfl⟩ : ∃ x y, ds0 = [x, y] := by
        match ds0, h2 with
        | [x, y], _ => exact ⟨x, y, rfl⟩
      have shx : Sh 9 x := sh_elT hc.sh x List.mem_cons_self
      refine xb_cons (xs_if (XW.t (xw_or (xt_not (xt_val (xe_isi (kit_tuple _) (T.free 90 rfl) (T.free 94 rfl) (by decide +kernel) (xe_name (i := 6) rfl)))) fun hb => (xw_or (xt_neI (xe_lenT (T.free 91 rfl) (xe_name (i := 6) rfl)) xe_int) fun hb => (xw_or1 (xt_niDL (ds := [.str "left", .str "right"]) (fun _ => hr) shx.ok (by decide +kernel) (xe_ixT (d := x) rfl (xe_name (i := 6) rfl) xe_int) (xe_lstD (ds := [.str "left", .str "right"]) (xa_cons xe_str (xa_cons xe_str xa_nil)))))))) (fun hb2 => ?_) (fun hb2 => ?_))
      · refine FALSE ?_ rfl
        unfold isReasM
        rw [if_neg (by rw [hb]; exact Bool.false_ne_true)]
        split
        · rename_i s' ds' e
          injection e with e
          injection e with e1 e2
          subst e1
          have key : ∀ t, (t = "left" ∨ t = "right") → s' ≠ t := fun t ht2 z => by
            have hin : ([PyData.str "left", .str "right"].any fun z => PyData.eqv z (.str s')) = true := by
              rcases ht2 with rfl | rfl
              · rw [z]; decide +kernel
              · rw [z]; decide +kernel
            have hb3 : (!isTy "tuple" (.tuple [.str s', y]) || (!decide (((2 : Nat) : Int) = 2) || !([PyData.str "left", .str "right"].any fun z => PyData.eqv z (.str s')))) = true := hb2
            rw [hin, isTy_tt] at hb3
            simp at hb3
          rw [if_neg (key _ (.inl rfl)), if_neg (key _ (.inr rfl))]
        · rfl
      · refine xb_nil ?_
        obtain ⟨s', rfl, hs⟩ : ∃ s, x = .str s ∧ (s = "left" ∨ s = "right") := by
          have hb3 : (!isTy "tuple" (.tuple [x, y]) || (!decide (((2 : Nat) : Int) = 2) || !(PyData.eqv (.str "left") x || (PyData.eqv (.str "right") x || false)))) = false := hb2
          cases q1 : PyData.eqv (.str "left") x with
          | true => exact ⟨_, eqv_str q1, .inl rfl⟩
          | false =>
            cases q2 : PyData.eqv (.str "right") x with
            | true => exact ⟨_, eqv_str q2, .inr rfl⟩
            | false => rw [q1, q2] at hb3; simp at hb3
        obtain ⟨ds, rfl, hz, hds⟩ := hc.lot s' y rfl hs
        have shd : Sh 9 (.tuple ds) := sh_elT hc.sh _ (List.mem_cons_of_mem _ List.mem_cons_self)
        refine xb_cons (xs_unpack (T := tD g.K (.tuple [.str s', .tuple ds])) (xe_name (i := 6) rfl) (xg_tup2 (xg_name 7) (xg_name 8)) ?_ (fun jj => pg_tup rfl (pgs_cons (pg_nm 7 jj nd) (pgs_cons (pg_nm 8 jj nd) pgs_nil))))
        obtain ⟨lo, hi, hat, b1, b2, b3, hR⟩ : ∃ lo hi, atI [PyData.tuple [.int l, .int one], .tuple [.int one, .int r]] (if PyData.eqv (.str s') (.str "right") then 1 else 0) = some (.tuple [.int lo, .int hi]) ∧ -1 ≤ lo ∧ hi ≤ W.props.length ∧ lo < hi ∧ isReasM W lot one l r (.tuple [.str s', .tuple ds]) = lotOkM W lot lo hi ds := by
          have u1 := ht.h1
          have u2 := ht.h2
          have u3 := ht.h3
          have u4 := ht.h4
          rcases hs with rfl | rfl
          · refine ⟨l, one, ?_, u1, by omega, u2, ?_⟩
            · have e : PyData.eqv (.str "left") (.str "right") = false := by decide +kernel
              rw [e]
              exact atI_nat (n := 0) rfl
            · unfold isReasM
              rw [if_neg (by rw [eqv_bears2]; exact Bool.false_ne_true)]
              show (if ("left" : Str) = "left" then lotOkM W lot l one ds else _) = _
              rw [if_pos rfl]
          · refine ⟨one, r, ?_, by omega, u4, u3, ?_⟩
            · have e : PyData.eqv (.str "right") (.str "right") = true := by decide +kernel
              rw [e]
              exact atI_nat (n := 1) rfl
            · unfold isReasM
              rw [if_neg (by rw [eqv_bears2]; exact Bool.false_ne_true)]
              show (if ("right" : Str) = "left" then _ else if ("right" : Str) = "right" then lotOkM W lot one r ds else _) = _
              rw [if_neg (by decide), if_pos rfl]
        rw [hR] at FALSE ⊢
        refine xb_cons (xs_unpack (T := tD g.K (.tuple [.int lo, .int hi])) (xe_ixL hat (xe_lstD (ds := [.tuple [.int l, .int one], .tuple [.int one, .int r]]) (xa_cons (xe_tupD (ds := [.int l, .int one]) (xa_cons (xe_name (i := 4) rfl) (xa_cons (xe_name (i := 2) rfl) xa_nil))) (xa_cons (xe_tupD (ds := [.int one, .int r]) (xa_cons (xe_name (i := 2) rfl) (xa_cons (xe_name (i := 5) rfl) xa_nil))) xa_nil))) (xe_intB (T.free 99 rfl) (xe_eqD (fun _ => hr) shx.ok (by decide +kernel) (xe_name (i := 7) rfl) xe_str))) (xg_tup2 (xg_name 9) (xg_name 10)) ?_ (fun jj => pg_tup rfl (pgs_cons (pg_nm 9 jj nd) (pgs_cons (pg_nm 10 jj nd) pgs_nil))))
        have shf : Sh 9 (.list ((ds.filter (badK lot)).map fun d => d)) := Sh.lst fun x hx => by
          obtain ⟨d, hd, rfl⟩ := List.mem_map.mp hx
          exact sh_elT shd d (List.mem_filter.mp hd).1
        refine xb_cons (xs_if (XW.t (xw_or (xt_not (xt_val (xe_isi (kit_tuple _) (T.free 90 rfl) (T.free 94 rfl) (by decide +kernel) (xe_name (i := 8) rfl)))) fun hq => (xw_or (xt_eqD (fun _ => hr) shd.ok (by rfl) (xe_name (i := 8) rfl) (xe_tupD (ds := []) xa_nil)) fun hq => (xw_or1 (xt_neD (fun _ => hr) shf.ok (by rfl) (xe_lc [("_law_k", 12)] nd (fun j => pi_tup (pe_w j)) (fun _ => blkOk_by (sc := defScope sLawReasonRight) (by show blkC ["_law_table_here", "_law_troop", "_law_one", "_law_told", "_law_left_here", "_law_right_here", "_law_reason", "_law_side", "_law_some", "_law_low", "_law_high", "_law_rests", "_law_k"] _ _ _ = true; decide +kernel)) (fun jj => pg_nm 12 jj nd) (fun jj => pts_one (pt_w jj)) (xr_lcT ds (fun d => d) (fun d => d) (badK lot) (fun d => rrD g W lot one l r (.tuple [.str s', .tuple ds]) (some (tD g.K (.int l))) (some (tD g.K (.int r))) (some (tD g.K (.tuple [.str s', .tuple ds]))) (some (tD g.K (.str s'))) (some (tD g.K (.tuple ds))) (some (tD g.K (.int lo))) (some (tD g.K (.int hi))) none (some (tD g.K d))) (XE.toD (xe_name (i := 8) rfl) (by rw [List.map_id'])) (by omega) (fun b hb => (xg_name 12)) (by decide) (fun b hb => tr_one (XW.t (xw_or (xt_val (xe_isi (kit_bool _) (T.free 90 rfl) (T.free 106 rfl) (by decide +kernel) (xe_name (i := 12) rfl))) fun hq => xw_or1 (xt_niIT (ii := valI b) (XE.toD (xe_name (i := 12) rfl) (by
          rcases hds b hb with ⟨i, rfl⟩ | ⟨k, rfl⟩
          · rfl
          · rw [isTy_bool] at hq
            cases hq)) (xe_name (i := 1) rfl))))) (fun b hb hf => (xe_name (i := 12) rfl)))) (xe_lstD (ds := []) xa_nil)))))) (fun hb4 => ?_) (fun hb4 => ?_))
        · have hb5 : (!isTy "tuple" (.tuple ds) || (PyData.eqv (.tuple ds) (.tuple []) || !PyData.eqv (.list ((ds.filter (badK lot)).map fun d => d)) (.list []))) = true := hb4
          rw [isTy_tt, eqv_nilT, eqv_nil, List.map_id'] at hb5
          refine FALSE ?_ rfl
          by_cases he : ds = []
          · subst he
            unfold lotOkM
            simp
          · refine bad_lot fun e => ?_
            rw [e] at hb5
            cases ds with
            | nil => exact he rfl
            | cons d ds => simp at hb5
        refine xb_nil ?_
        have hb5 : (!isTy "tuple" (.tuple ds) || (PyData.eqv (.tuple ds) (.tuple []) || !PyData.eqv (.list ((ds.filter (badK lot)).map fun d => d)) (.list []))) = false := hb4
        rw [isTy_tt, eqv_nilT, eqv_nil, List.map_id'] at hb5
        have hne : ds ≠ [] := fun e => by rw [e] at hb5; simp at hb5
        have hnf : ds.filter (badK lot) = [] := by
          cases e : ds.filter (badK lot) with
          | nil => rfl
          | cons d r => rw [e] at hb5; simp at hb5
        obtain ⟨ns, rfl, hin⟩ := good_ints hds hnf
        have hz' : ns.length ≤ 60 := by simpa using hz
        have hns : ns ≠ [] := fun e => hne (by rw [e]; rfl)
        obtain ⟨r', b, e2⟩ := last_of hns
        obtain ⟨a, r1, e1⟩ : ∃ a r, ns = a :: r := List.exists_cons_of_ne_nil hns
        have hfirst : atI (ns.map PyData.int) 0 = some (.int a) := by rw [e1]; exact atI_0 _ _
        have hlast : atI (ns.map PyData.int) (-1) = some (.int b) := by rw [e2]; exact atI_last _ _
        refine xb_cons (xs_if (XW.t (xw_or (xt_neD (fun _ => hr) (sh_intl ns).ok (sh_intl (sortU ns)).ok (xe_lstOfT (T.free 95 rfl) (xe_name (i := 8) rfl)) (xe_sortedS (T.free 103 rfl) (by omega) (xe_setT (T.free 104 rfl) (by omega) (xe_name (i := 8) rfl)))) fun hq => (xw_or (xt_not (xt_lt (xe_name (i := 9) rfl) (xe_ixT hfirst (xe_name (i := 8) rfl) xe_int))) fun hq => (xw_or1 (xt_not (xt_lt (xe_ixT hlast (xe_name (i := 8) rfl) (xe_neg xe_int)) (xe_name (i := 10) rfl))))))) (fun hb6 => ?_) (fun hb6 => ?_))
        · have hb7 : (!PyData.eqvAll (ns.map .int) ((sortU ns).map .int) || (!decide (lo < a) || !decide (b < hi))) = true := hb6
          rw [eqv_ints, sortU_eq] at hb7
          refine FALSE (lot_bad2 hl hin e1 e2 ?_) rfl
          cases q1 : ascB ns <;> cases q2 : decide (lo < a) <;> cases q3 : decide (b < hi) <;> simp [q1, q2, q3] at hb7 ⊢
        refine xb_nil ?_
        have hb7 : (!PyData.eqvAll (ns.map .int) ((sortU ns).map .int) || (!decide (lo < a) || !decide (b < hi))) = false := hb6
        rw [eqv_ints, sortU_eq] at hb7
        have g1 : ascB ns = true := by cases q1 : ascB ns <;> simp [q1] at hb7 ⊢
        have g2 : lo < a := by
          by_cases q : lo < a
          · exact q
          · simp [q] at hb7
        have g3 : b < hi := by
          by_cases q : b < hi
          · exact q
          · simp [q] at hb7
        obtain ⟨hgood, hall⟩ := lot_good2 hl hin e1 e2 g1 g2 g3
        have hbt : BtOk W lo ns hi := btw_bt b1 b2 b3 g1 hall
        have hlr : (lo :: ns ++ [hi]).length = ns.length + 2 := by simp
        refine xb_cons (xs_set 11 (T := tD g.K (.list ((lo :: ns ++ [hi]).map .int))) (XE.toD (xe_catL ?_ (xe_catL ?_ (xe_lstD (ds := [.int lo]) (xa_cons (xe_name (i := 9) rfl) xa_nil)) (xe_lstOfT (T.free 95 rfl) (xe_name (i := 8) rfl))) (xe_lstD (ds := [.int hi]) (xa_cons (xe_name (i := 10) rfl) xa_nil))) (by simp)) ?_ nd)
        · simp only [List.length_append, List.length_cons, List.length_nil, List.length_map]; omega
        · simp only [List.length_cons, List.length_nil, List.length_map]; omega
        refine xb_one (xs_ret (T := tD g.K (.bool (lotOkM W lot lo hi (ns.map .int)))) (XE.toD (xe_eqD (fun _ => hr) (sh_nats ((List.range ((ns.length : Nat) : Int).toNat).filter fun i => overL W [(lo :: ns ++ [hi]).getD i 0, (lo :: ns ++ [hi]).getD (i + 1) 0, (lo :: ns ++ [hi]).getD (i + 2) 0])).ok (by rfl) (xe_lc [("_law_k", 12)] nd (fun j => pi_range1 rfl (T.free 97 rfl) (pa_cons (pe_w j) pa_nil)) (fun _ => blkOk_by (sc := defScope sLawReasonRight) (by show blkC ["_law_table_here", "_law_troop", "_law_one", "_law_told", "_law_left_here", "_law_right_here", "_law_reason", "_law_side", "_law_some", "_law_low", "_law_high", "_law_rests", "_law_k"] _ _ _ = true; decide +kernel)) (fun jj => pg_nm 12 jj nd) (fun jj => pts_one (pt_w jj)) (xr_lcR (n := ((ns.length : Nat) : Int)) (h := fun (i : Nat) => .int (i : Int)) (f := fun i => overL W [(lo :: ns ++ [hi]).getD i 0, (lo :: ns ++ [hi]).getD (i + 1) 0, (lo :: ns ++ [hi]).getD (i + 2) 0]) (δc := fun (i : Nat) => rrD g W lot one l r (.tuple [.str s', .tuple (ns.map .int)]) (some (tD g.K (.int l))) (some (tD g.K (.int r))) (some (tD g.K (.tuple [.str s', .tuple (ns.map .int)]))) (some (tD g.K (.str s'))) (some (tD g.K (.tuple (ns.map .int)))) (some (tD g.K (.int lo))) (some (tD g.K (.int hi))) (some (tD g.K (.list ((lo :: ns ++ [hi]).map .int)))) (some (tD g.K (.int (i : Int))))) (by omega) (XE.toD (xe_lenT (T.free 91 rfl) (xe_name (i := 8) rfl)) (by rw [List.length_map])) (fun b hb => xg_name 12) (by decide) (fun b hb => ?_) (fun b hb hf => xe_name (i := 12) rfl))) (xe_lstD (ds := []) xa_nil)) ?_) rfl)
        · have hb' : b < ns.length := by omega
          refine tr_one (xt_val (xe_tab (ns := [(lo :: ns ++ [hi]).getD b 0, (lo :: ns ++ [hi]).getD (b + 1) 0, (lo :: ns ++ [hi]).getD (b + 2) 0]) (fun _ => hr) ⟨_, _, _, rfl, beside_tr hbt hb'⟩ (xe_name (i := 0) rfl) (xe_tupK _ (xa_cons (xe_ixL (rs_at (m := b) (by omega) (by rw [hlr]; omega)) (xe_name (i := 11) rfl) (xe_name (i := 12) rfl)) (xa_cons (xe_ixL (rs_at (m := b + 1) (by omega) (by rw [hlr]; omega)) (xe_name (i := 11) rfl) (xe_add (xe_name (i := 12) rfl) xe_int)) (xa_cons (xe_ixL (rs_at (m := b + 2) (by omega) (by rw [hlr]; omega)) (xe_name (i := 11) rfl) (xe_add (xe_name (i := 12) rfl) xe_int)) xa_nil))))))
        · rw [hgood, ob_rng, eqv_nil, Int.toNat_natCast]
          have key : ∀ (L : List Nat) (f : Nat → Int), (natsD L).isEmpty = (L.map f).isEmpty := fun L f => by cases L <;> rfl
          exact congrArg PyData.bool (key _ _)
    · refine xb_cons (xs_if (XW.t (xw_or (xt_not (xt_val (xe_isi (kit_tuple _) (T.free 90 rfl) (T.free 94 rfl) (by decide +kernel) (xe_name (i := 6) rfl)))) fun hb => (xw_or (kb := false) (xt_neI (xe_lenT (T.free 91 rfl) (xe_name (i := 6) rfl)) xe_int) fun hb => absurd hb (by simp; omega)))) (fun _ => FALSE (isReas_other hb fun s' y' e => h2 (by injection e with e; rw [e]; rfl)) rfl) (fun hb => absurd hb (by simp [isTy_tt]; omega)))
  · refine xb_cons (xs_if (XW.t (xw_or (kb := false) (xt_not (xt_val (xe_isi (kit_tuple _) (T.free 90 rfl) (T.free 94 rfl) (by decide +kernel) (xe_name (i := 6) rfl)))) fun hb => absurd hb (by simp [htu]))) (fun _ => FALSE (isReas_other hb fun s' y' e => htu (by rw [e]; exact isTy_tt _)) rfl) (fun hb => absurd hb (by simp [htu])))
end Pf
end
section
set_option Elab.async false
set_option linter.all false
set_option maxRecDepth 100000
set_option maxHeartbeats 2000000
set_option exponentiation.threshold 5000
set_option pp.maxSteps 1200
namespace Pf
open PySem PySem.Spec PyProof.Rows L2 RZ
/-! ### data whose text is short -/
structure Sw (n w : Nat) (d : PyData) : Prop where
  sh : Sh n d
  sb : d.showable = true
  si : d.intsShort 13 = true
  wt : d.weight ≤ w
theorem sw_all {n w : Nat} : ∀ {xs : List PyData}, (∀ x ∈ xs, Sw n w x) → PyData.showableAll xs = true ∧ PyData.intsShortAll 13 xs = true ∧ PyData.weightAll xs ≤ xs.length * (w + 1)
  | [], _ => ⟨rfl, rfl, Nat.zero_le _⟩
  | x :: xs, h => by
    obtain ⟨h1, h2, h3⟩ := sw_all (xs := xs) fun y hy => h y (List.mem_cons_of_mem _ hy)
    have hx := h x List.mem_cons_self
    refine ⟨?_, ?_, ?_⟩
    · show (PyData.showable x && PyData.showableAll xs) = true
      rw [hx.sb, h1]; rfl
    · show (PyData.intsShort 13 x && PyData.intsShortAll 13 xs) = true
      rw [hx.si, h2]; rfl
    · show PyData.weight x + 1 + PyData.weightAll xs ≤ (xs.length + 1) * (w + 1)
      have := hx.wt
      rw [Nat.add_mul]
      omega
theorem Sw.lst {n w k : Nat} {xs : List PyData} (h : ∀ x ∈ xs, Sw n w x) (hk : xs.length ≤ k) : Sw (n + 1) (k * (w + 1)) (.list xs) :=
  ⟨Sh.lst fun x hx => (h x hx).sh, (sw_all h).1, (sw_all h).2.1, Nat.le_trans (sw_all h).2.2 (Nat.mul_le_mul_right _ hk)⟩
theorem Sw.tup {n w k : Nat} {xs : List PyData} (h : ∀ x ∈ xs, Sw n w x) (hk : xs.length ≤ k) : Sw (n + 1) (k * (w + 1)) (.tuple xs) :=
  ⟨Sh.tup fun x hx => (h x hx).sh, (sw_all h).1, (sw_all h).2.1, Nat.le_trans (sw_all h).2.2 (Nat.mul_le_mul_right _ hk)⟩
theorem Sw.mono {n m w v : Nat} {d : PyData} (h : Sw n w d) (hn : n ≤ m) (hw : w ≤ v) : Sw m v d := ⟨h.sh.mono hn, h.sb, h.si, Nat.le_trans h.wt hw⟩
theorem Sw.int {n : Nat} {i : Int} (h : i.natAbs < 1000) : Sw n 10 (.int i) := by
  have hl : i.natAbs.log2 < 10 := by
    by_cases e : i.natAbs = 0
    · rw [e]; decide
    · exact (Nat.log2_lt e).mpr (by omega)
  refine ⟨Sh.int i, ?_, ?_, ?_⟩
  · show decide (i.natAbs.log2 < 1920) = true
    exact decide_eq_true (by omega)
  · have := PyData.intsShortAll_ints [i] (fun n hn => by rw [List.mem_singleton.mp hn]; omega)
    have e : (PyData.intsShort 13 (.int i) && true) = true := this
    rw [Bool.and_true] at e
    exact e
  · show (if i == 0 then 0 else i.natAbs.log2 + 1) ≤ 10
    split <;> omega
theorem Sw.str {n : Nat} {s : Str} (h1 : (PyData.str s).canLay0 = true) (h2 : s.cps.size ≤ 10) : Sw n 10 (.str s) := ⟨⟨h1, Nat.zero_le _⟩, rfl, rfl, h2⟩
theorem sw_ints {ns : List Int} {k : Nat} (h : ∀ i ∈ ns, i.natAbs < 1000) (hk : ns.length ≤ k) : Sw 1 (k * 11) (.list (ns.map .int)) ∧ Sw 1 (k * 11) (.tuple (ns.map .int)) := by
  have a : ∀ x ∈ ns.map PyData.int, Sw 0 10 x := fun x hx => by
    obtain ⟨i, hi, rfl⟩ := List.mem_map.mp hx
    exact Sw.int (h i hi)
  exact ⟨Sw.lst a (by rw [List.length_map]; exact hk), Sw.tup a (by rw [List.length_map]; exact hk)⟩
theorem Sw.fits {n w : Nat} {d : PyData} (h : Sw n w d) (hn : n ≤ 60) (hw : w ≤ 1000000) : d.shown.length ≤ sizeLine := by
  refine PyData.shown_fits_of_layable0 (B := 13) (by decide) (by decide) ?_ h.si
  show (PyData.canLay0 d && decide (PyData.depth d ≤ 64) && decide (PyData.weight d ≤ 2 ^ 20)) = true
  have h1 := h.sh.dep
  have h2 := h.wt
  rw [h.sh.lay, decide_eq_true (show PyData.depth d ≤ 64 by omega), decide_eq_true (show PyData.weight d ≤ 2 ^ 20 by omega)]
  rfl
/-! ### more rules -/
/-- a thing of which only the kind is known -/
def tExT {β : Type} (Pb : β → Prop) (Tf : β → Ty) : Ty := ⟨fun H v => ∃ b, Pb b ∧ (Tf b).p H v, fun e ⟨b, h1, h2⟩ => ⟨b, h1, (Tf b).mono e h2⟩⟩
theorem set_self {σ : L2.St} {i : Nat} {v : V} (h : σ[i]? = some (some v)) : σ.set i (some v) = σ := by
  apply List.ext_getElem?
  intro n
  by_cases e : i = n
  · subst e
    rw [h, List.getElem?_set_self (List.getElem?_eq_some_iff.mp h).1]
  · rw [List.getElem?_set_ne e]
section
variable {g : Pg} {C : Ct} {q q' : Sta} {P : Po} {e a b c o : Expr} {es : List Expr} {kws : List Keyword} {st : Stmt} {sts rest : List Stmt} {pos p p2 apos cpos : Pos} {T Ta Tb : Ty} {Ts Us : List Ty} {x : Str} {i j k n : Nat} {M : Ml} {δ δ' : Sd} {ps ks : List Str}
theorem xt_neS {s t : Str} (ha : XE g C M δ a (tD g.K (.str s))) (hb : XE g C M δ b (tD g.K (.str t))) : XT g C M δ (.Compare a [.NotEq] [b] pos) (!decide (s = t)) :=
  xt_cmpV (fun _ => op_ne) (fun B H x y Q _ hx hy q => by
    rw [rp_str hx, rp_str hy]
    have e : decide (V.str s = V.str t) = decide (s = t) := by by_cases h : s = t <;> simp [h]
    exact ⟨rfl, by rw [e]; exact q⟩) ha hb (nomark _)
theorem xe_reprS {d : PyData} {m w : Nat} (hr : ∀ j, Room n (C.A j)) (hgd : ∀ j, (C.A j).guards = some []) (hm : g.mg "repr" = none) (hs : Sw m w d) (hrf : ∀ B v, Rp g.K B v d → ∃ a, v = .ref a) (h1 : m ≤ 60 := by decide) (h2 : w ≤ 1000000 := by decide)
    (ha : XE g C M δ a (tD g.K d)) (hg : ∀ j, (C.env j).kindOf "repr" = some .globalImplicit := by intro _; rfl) (he : ∀ j, starEach [a] (C.env j) = (false, eval a (C.env j)) :: starEach [] (C.env j) := by intro _; rfl) :
    XE g C M δ (.Call (.Name "repr" p) [a] [] pos) (tD g.K (.str d.shown)) :=
  xe_repr hr hgd hm hs.sb (PyData.hasDict_of_canLay d hs.sh.lay) (Nat.le_trans hs.sh.dep h1) (hs.fits h1 h2) hrf ha hg he
theorem xb_open {β : Type} {Pb : β → Prop} {Tf : β → Ty} (i : Nat) (hx : q.δ[i]? = some (some (tExT Pb Tf))) (k : ∀ b, Pb b → XB g C { q with δ := q.δ.set i (some (Tf b)) } sts P) : XB g C q sts P := fun Z M0 H0 G σ H D hh m => by
  obtain ⟨v, h1, b, hb, hv⟩ := hh.sl.get hx
  refine k b hb Z M0 H0 G σ H D (hh.sl' ?_) m
  have h3 := Sl.set (T := Tf b) hv i hh.sl
  rw [set_self h1] at h3
  exact h3
/-! own objects that are looked at, forgotten -/
theorem Hold.forget {Z : Addr → Bool} {M0 : Ml} {H0 H : Hp} {G : List (V × Ty)} {σ : L2.St} {O1 O2 : Ol} {l : Addr} {kd : Kd} (hO : q.O = O1 ++ (l, kd) :: O2) (hh : Hold Z M0 H0 G q σ H) :
    Hold Z M0 H0 G { q with O := O1 ++ O2 } σ H ∧ Zm (Zo Z (O1 ++ O2)) q.M l = false ∧ Ex (stb Z q H) (stb Z { q with O := O1 ++ O2 } H) := by
  have ml : (l, kd) ∈ q.O := by rw [hO]; simp
  have zz : ∀ a, Zo Z (O1 ++ O2) a = true → Zo Z q.O a = true := fun a z => by
    unfold Zo inO at z ⊢
    rw [hO]
    rw [List.any_append] at z ⊢
    rw [List.any_cons]
    revert z
    cases Z a <;> cases (O1.any fun p => p.1 == a) <;> cases (O2.any fun p => p.1 == a) <;> simp
  have sb : List.Sublist (O1 ++ O2) q.O := by
    rw [hO]
    exact List.Sublist.append_left (List.sublist_cons_self _ _) _
  have ex : Ex (stb Z q H) (stb Z { q with O := O1 ++ O2 } H) := out_mono (fun a z => .inl (by
    unfold Zm at z ⊢
    rw [Bool.or_eq_true] at z ⊢
    exact z.imp (zz a) id)) fun _ _ _ e => e
  have zl : Zm (Zo Z (O1 ++ O2)) q.M l = false := by
    have n0 : inO (O1 ++ O2) l = false := by
      cases e : inO (O1 ++ O2) l with
      | false => rfl
      | true =>
        obtain ⟨p, hp, e1⟩ := inO_ex e
        have nd := hh.nd
        rw [hO, List.map_append, List.map_cons] at nd
        obtain ⟨n1, n2, n3⟩ := List.nodup_append.mp nd
        obtain ⟨n4, n5⟩ := List.nodup_cons.mp n2
        rcases List.mem_append.mp hp with hp | hp
        · exact absurd e1 (n3 p.1 (List.mem_map_of_mem hp) l (by simp))
        · exact absurd (List.mem_map.mpr ⟨p, hp, e1⟩) n4
    have n1 : Z l = false := hh.off _ ml
    have n2 : inM q.M l = false := by
      cases e : inM q.M l with
      | false => rfl
      | true =>
        obtain ⟨p, hp, e1⟩ := inM_ex e
        have z := hh.amb.off p hp
        rw [e1] at z
        unfold Zo at z
        have z2 := inO_of ml
        rw [show inO q.O l = true from z2, Bool.or_true] at z
        cases z
    unfold Zm Zo
    rw [n1, n0, n2]
    rfl
  refine ⟨⟨hh.sl.mono ex, ⟨fun p hp => ?_, fun a z => hh.amb.here a (zz a z), hh.amb.nd, fun p hp => ?_⟩, fun p hp => (hh.own p (sb.subset hp)).mono ex fun _ e => e, (sb.map _).nodup hh.nd, fun p hp => hh.off p (sb.subset hp), hh.fr, fun p hp => hh.newO p (sb.subset hp), hh.newM, hh.subM, fun p hp => p.2.mono ex (hh.gh p hp)⟩, zl, ex⟩
  · obtain ⟨k, h1, h2⟩ := hh.amb.memo p hp
    exact ⟨k, h1, p.2.mono ex h2⟩
  · cases e : Zo Z (O1 ++ O2) p.1 with
    | false => rfl
    | true =>
      have z := hh.amb.off p hp
      rw [zz _ e] at z
      cases z
theorem xb_forget {O1 O2 : Ol} {l : Addr} {kd : Kd} (hO : q.O = O1 ++ (l, kd) :: O2) (k : XB g C { q with O := O1 ++ O2 } sts P) : XB g C q sts P := fun Z M0 H0 G σ H D hh m => k Z M0 H0 G σ H D (hh.forget hO).1 m
theorem Hold.freeze {Z : Addr → Bool} {M0 : Ml} {H0 H : Hp} {G : List (V × Ty)} {σ : L2.St} {O1 O2 : Ol} {l : Addr} {ds : List PyData} (hO : q.O = O1 ++ (l, .lst (ds.map (tD g.K))) :: O2) (hx : q.δ[i]? = some (some (tAt l))) (hh : Hold Z M0 H0 G q σ H) :
    Hold Z M0 H0 G { q with O := O1 ++ O2, δ := q.δ.set i (some (tD g.K (.list ds))) } σ H := by
  have ml : (l, Kd.lst (ds.map (tD g.K))) ∈ q.O := by rw [hO]; simp
  obtain ⟨v, h1, h2⟩ := hh.sl.get hx
  obtain rfl : v = .ref l := h2
  obtain ⟨vs, hv1, hv2⟩ := hh.own _ ml
  obtain ⟨hf, zl, ex⟩ := hh.forget hO
  have tl : (tD g.K (.list ds)).p (stb Z { q with O := O1 ++ O2 } H) (.ref l) := .lst (by
    show out (Zm (Zo Z (O1 ++ O2)) q.M) H l = _
    rw [out_at zl]
    exact hv1) (hv2.mono ex).rp
  have h3 := Sl.set tl i hf.sl
  rw [set_self h1] at h3
  exact hf.sl' h3
/-- kinds that no heap is asked for -/
def Flat (T : Ty) : Prop := ∀ B B' v, T.p B v → T.p B' v
theorem flat_str {s : Str} : Flat (tD g.K (.str s)) := fun B B' v h => by rw [rp_str h]; exact .str s
theorem flat_bl {s : Bool} : Flat (tD g.K (.bool s)) := fun B B' v h => by rw [rp_bl h]; exact .bl s
/-- x = e, where e reads an own list -/
theorem xs_setOwn {O1 O2 : Ol} {l : Addr} {ds : List PyData} (i j : Nat) (hM : q.M = []) (hO : q.O = O1 ++ (l, .lst (ds.map (tD g.K))) :: O2) (hx : q.δ[j]? = some (some (tAt l))) (h : XE g C [] (q.δ.set j (some (tD g.K (.list ds)))) e T) (hT : Flat T) (k : P.nx { q with δ := q.δ.set i (some T) })
    (hN : C.N.Nodup) (hi : C.N[i]? = some x := by rfl) (hxl : ∀ j, Loc (C.env j).scope x := by intro _; first | exact Or.inl rfl | exact Or.inr rfl)
    (hs : ∀ j, swapsWith e (some (.Name x p)) pos.line (C.env j) = pure false := by intro _; rfl) (hf : ∀ j, C.fn j x = true ∨ (C.env j).scope.names.lookup x = some .local := by intro _; first | exact Or.inl rfl | exact Or.inr rfl) :
    XS g C q (.Assign [.Name x p] e pos) P := fun Z M0 H0 G σ H D hh m => by
  refine w_ps (t := tAsg (wE g C e) (gName i)) ?_ fun j => ps_set (X := C.X g j) hN hi (hxl j) (pe_w j) (hs j) (hf j)
  have hz := hh.freeze hO hx
  have hzA : Amb (Zo Z (O1 ++ O2)) q.M H := hz.amb
  have hzS : Sl (out (Zm (Zo Z (O1 ++ O2)) q.M) H) (q.δ.set j (some (tD g.K (.list ds)))) σ := hz.sl
  rw [hM] at hzA hzS
  refine h _ σ H hzS hzA _ fun v H' f A t => ?_
  have hh' := hh.step (H' := H') (by rw [hM]; exact f) (hh.amb.ex f.ex0)
  exact m.nx _ _ _ k (hh'.sl' (Sl.set (hT _ _ _ t) i hh'.sl))
/-- if c: .., where c reads an own list -/
theorem xs_ifOwn {O1 O2 : Ol} {l : Addr} {ds : List PyData} (j : Nat) {kk : Bool} (hM : q.M = []) (hO : q.O = O1 ++ (l, .lst (ds.map (tD g.K))) :: O2) (hx : q.δ[j]? = some (some (tAt l))) (h : XT g C [] (q.δ.set j (some (tD g.K (.list ds)))) c kk) (h1 : kk = true → XB g C q sts P) (h2 : kk = false → XB g C q rest P) :
    XS g C q (.If c sts rest pos) P := fun Z M0 H0 G σ H D hh m => by
  refine w_ps (t := tIfS (wT g C c) (wB g C sts) (wB g C rest)) ?_ fun j => ps_if (pt_w j) (pss_w j) (pss_w j)
  have hz := hh.freeze hO hx
  have hzA : Amb (Zo Z (O1 ++ O2)) q.M H := hz.amb
  have hzS : Sl (out (Zm (Zo Z (O1 ++ O2)) q.M) H) (q.δ.set j (some (tD g.K (.list ds)))) σ := hz.sl
  rw [hM] at hzA hzS
  refine h _ σ H hzS hzA _ fun H' f A => ?_
  have hh' := hh.step (H' := H') (by rw [hM]; exact f) (hh.amb.ex f.ex0)
  cases kk with
  | true => exact iteT (h1 rfl Z M0 H0 G σ H' D hh' m)
  | false => exact iteF (h2 rfl Z M0 H0 G σ H' D hh' m)
/-! calls with keywords -/
variable {α : Type} {A : α → List Ty} {Rn : α → Ty → Prop} {Ro : α → Addr → Ty → List Ty → Prop} {R : α → Ty} {Mm : α → Ml}
theorem xer_callK (F : FnK g x ps n ks k (spO A Rn Ro)) (hr : ∀ i, Room k (C.A i)) (y : α) (ha : XA g C M δ (e :: es) Ts) (hk : XKw g C M δ kws Us) (hA : A y = Ts ++ Us) (hn : Ts.length = n) (hu : Us.length = ks.length) (hg : ∀ j, (C.env j).kindOf x = some .globalImplicit := by intro _; rfl)
    (hall : ∀ j, (backToKw pos (keywordEach kws (C.env j))).all (·.1.isSome) = true := by intro _; rfl) (hks : ∀ j, (backToKw pos (keywordEach kws (C.env j))).filterMap (·.1) = ks := by intro _; rfl) (hdb : (x == ("__debug__" : Str)) = false := by decide)
    (he : ∀ j, starEach (e :: es) (C.env j) = (false, eval e (C.env j)) :: starEach es (C.env j) := by intro _; rfl) (hpl : ∀ j, ((backTo pos (starEach (e :: es) (C.env j))).any (·.1) || (backToKw pos (keywordEach kws (C.env j))).any (·.1.isNone)) = false := by intro _; rfl) :
    XEr g C M δ (.Call (.Name x p) (e :: es) kws pos) (Rn y) (Ro y) := by
  obtain ⟨f, fd, G, h1, h2, h3, h4⟩ := F.ex
  intro Z σ H hsl hAm Q k1 k2
  refine w_pe (t := tCallN n ks.length (spO A Rn Ro) (fun vs zs => vs ++ zs) E0 (wA g C (e :: es)) (wK g C kws)) ?_ fun i => pe_callN (X := C.X g i) h4 (hr i) (hg i) h1 h2 h3 pass0 (pa_w i) (pk_w i) (hall i) (hks i) hdb (he i) (hpl i)
  refine ha Z σ H hsl hAm _ fun vs H1 f1 A1 t1 => hk Z σ H1 (hsl.mono f1.out) A1 _ fun zs H2 f2 A2 t2 => ⟨t1.length.trans hn, t2.length.trans hu, ?_⟩
  exact spO_use y A2 (f1.trans f2) (by rw [hA]; exact (t1.mono f2.out).append t2) k1 k2
theorem xe_callK (F : FnK g x ps n ks k (spM Mm A R)) (hr : ∀ i, Room k (C.A i)) (y : α) (ha : XA g C M δ (e :: es) Ts) (hk : XKw g C M δ kws Us) (hA : A y = Ts ++ Us) (hn : Ts.length = n) (hu : Us.length = ks.length) (sub : (Mm y).Sublist M := by exact List.nil_sublist _) (hg : ∀ j, (C.env j).kindOf x = some .globalImplicit := by intro _; rfl)
    (hall : ∀ j, (backToKw pos (keywordEach kws (C.env j))).all (·.1.isSome) = true := by intro _; rfl) (hks : ∀ j, (backToKw pos (keywordEach kws (C.env j))).filterMap (·.1) = ks := by intro _; rfl) (hdb : (x == ("__debug__" : Str)) = false := by decide)
    (he : ∀ j, starEach (e :: es) (C.env j) = (false, eval e (C.env j)) :: starEach es (C.env j) := by intro _; rfl) (hpl : ∀ j, ((backTo pos (starEach (e :: es) (C.env j))).any (·.1) || (backToKw pos (keywordEach kws (C.env j))).any (·.1.isNone)) = false := by intro _; rfl) :
    XE g C M δ (.Call (.Name x p) (e :: es) kws pos) (R y) := by
  obtain ⟨f, fd, G, h1, h2, h3, h4⟩ := F.ex
  intro Z σ H hsl hAm Q kk
  refine w_pe (t := tCallN n ks.length (spM Mm A R) (fun vs zs => vs ++ zs) E0 (wA g C (e :: es)) (wK g C kws)) ?_ fun i => pe_callN (X := C.X g i) h4 (hr i) (hg i) h1 h2 h3 pass0 (pa_w i) (pk_w i) (hall i) (hks i) hdb (he i) (hpl i)
  refine ha Z σ H hsl hAm _ fun vs H1 f1 A1 t1 => hk Z σ H1 (hsl.mono f1.out) A1 _ fun zs H2 f2 A2 t2 => ⟨t1.length.trans hn, t2.length.trans hu, ?_⟩
  exact sp_use y sub A2 (by rw [hA]; exact (t1.mono f2.out).append t2) fun v H' f3 A3 t3 => kk v H' ((f1.trans f2).trans f3) A3 t3
theorem al_non {B : Hp} : Al2 B [tD g.K .none] [V.non] := .cons .non .nil
/-- .. without its keyword-only parameter, which is then None -/
theorem xe_callV (F : FnV g x ps [.non] k (spM Mm A R)) (hr : ∀ i, Room k (C.A i)) (y : α) (ha : XA g C M δ (e :: es) Ts) (hA : A y = Ts ++ [tD g.K .none]) (sub : (Mm y).Sublist M := by exact List.nil_sublist _) (hg : ∀ j, (C.env j).kindOf x = some .globalImplicit := by intro _; rfl) (hdb : (x == ("__debug__" : Str)) = false := by decide)
    (he : ∀ j, starEach (e :: es) (C.env j) = (false, eval e (C.env j)) :: starEach es (C.env j) := by intro _; rfl) (hpl : ∀ j, (backTo pos (starEach es (C.env j))).any (·.1) = false := by intro _; rfl) : XE g C M δ (.Call (.Name x p) (e :: es) [] pos) (R y) := by
  obtain ⟨f, fd, ds, h1, h2, h3, h5, h4⟩ := F.ex
  intro Z σ H hsl hAm Q kk
  refine w_pe (t := tCall (spM Mm A R) [.non] E0 (wA g C (e :: es))) ?_ fun i => pe_call (X := C.X g i) h4 (hr i) (hg i) h1 h2 h3 h5 pass0 (pa_w i) hdb (he i) (hpl i)
  refine ha Z σ H hsl hAm _ fun vs H1 f1 A1 t1 => ?_
  exact sp_use y sub A1 (by rw [hA]; exact t1.append al_non) fun v H' f2 A2 t2 => kk v H' (f1.trans f2) A2 t2
end
end Pf
end
section
set_option Elab.async false
set_option linter.all false
set_option maxRecDepth 100000
set_option maxHeartbeats 2000000
set_option exponentiation.threshold 5000
set_option pp.maxSteps 1200
namespace Pf
open PySem PySem.Spec PyProof.Rows L2 RZ
/-! ### defs that may ask for a list's text: what they promise holds where no text is being made around the call -/
structure OkG (g : Pg) (k : Nat) (f : Addr) (fd : FuncData) (ps : List Str) (sp : Sp) : Prop where
  len : ∀ vs H Q E, sp vs H Q E → vs.length = ps.length
  run : ∀ (Ar : Around), Ar.guards = some [] → Room k Ar → ∀ (outer : List Env) (s : Shared) (H : Hp), Env0 g.P g.w g.K g.mg g.base Ar outer s H → ∀ (ar : Args) (us : List Value) (vs : List V) (Q : VK) (E : XK),
    BindsTo s fd ar (ps.zip us) → Vals vs us → sp vs H Q E → codeAny (model g.P g.w) Ar (.call (.ref f) ar) (CR CX0 outer g.P g.w H s Q E) s
theorem OkG.mono {g : Pg} {k k' : Nat} {f : Addr} {fd : FuncData} {ps : List Str} {sp : Sp} (F : OkG g k f fd ps sp) (h : k ≤ k') : OkG g k' f fd ps sp := ⟨F.len, fun Ar hg hr => F.run Ar hg (hr.mono h)⟩
structure FnG (g : Pg) (x : Str) (ps : List Str) (k : Nat) (sp : Sp) : Prop where
  ex : ∃ (f : Addr) (fd : FuncData), g.mg x = some (.ref f) ∧ PySem.W.keepIn g.K (.ref f) = true ∧ Binds g.K fd ps [] ∧ OkG g k f fd ps sp
theorem FnG.mono {g : Pg} {x : Str} {ps : List Str} {k k' : Nat} {sp : Sp} (F : FnG g x ps k sp) (h : k ≤ k') : FnG g x ps k' sp := by
  obtain ⟨f, fd, h1, h2, h3, h4⟩ := F.ex
  exact ⟨f, fd, h1, h2, h3, h4.mono h⟩
/-- from a def's body -/
theorem okG_body {g : Pg} {y qual : Str} {params : Arguments} {body : List Stmt} {scope : Scope} {kws : List (Str × V)} {f : Addr} {fd : FuncData} {N ps : List Str} {k : Nat} {sp : Sp} (F : FunD g.K y qual params body scope [] kws f fd) (S : FnScope N ps scope) (len : ∀ vs H Q E, sp vs H Q E → vs.length = ps.length)
    (hb : ∀ (cdv : Value) (Ar : Around), Ar.guards = some [] → ∀ (outer : List Env) (s : Shared) (H : Hp) (vs : List V) (Q : VK) (E : XK), Room k (Ar.deeper (envOfC qual scope s.heap.objs.size f cdv)) → sp vs H Q E →
      ∃ t, PSs (cxOf CX0 g.P g.w g.K g.mg g.base N qual scope f cdv Ar outer s H E) body t ∧ t { nx := fun _ H' => Q .non H', rt := Q } (L2.start N vs) H) : OkG g (k + 1) f fd ps sp := by
  obtain ⟨_, _, _, _, _, _, _, cdv, _, _, rfl, at_, code, _⟩ := F.ex
  refine ⟨len, fun Ar hg hr outer s H e0 ar us vs Q E bnd vals wish => ?_⟩
  have size := len _ _ _ _ wish
  have kin : g.K.In s.heap := e0.mod.kin.keeps fun b o h => (e0.bs b o h).1
  refine codeAny_call_function hr.depth (kin _ _ at_) rfl S.co S.gen rfl (PySem.W.codeRec_of kin code) (bnd _ _ _ _ ?_)
  refine wpAny_newFunctionEnv_cells S.kind ?kinds fun env same s1 made => ?ran
  case kinds =>
    rintro ⟨n, v⟩ hn
    exact (S.par n (List.of_mem_zip hn).1).imp id fun c => ⟨c, PySem.W.cellsFrom_some _ _ _ (.inl c)⟩
  case ran =>
    subst same
    refine ⟨(e0.mod.nolimit.keeps fun b o h => (e0.bs b o h).1).keeps made.toInCall.keep, codeAny_func ?_⟩
    obtain ⟨t, pt, now⟩ := hb cdv Ar hg outer s H vs Q E (hr.deeper _) wish
    refine wpAny_mono (pt.run [] s1 (L2.start N vs) H _ (inv_start S hr.hd e0 size vals made) now) (fun fl s2 done => ?_) fun _ _ h => h
    match fl, done with
    | .ret u, ⟨v, _, H', J, rv, q⟩ => exact ⟨v, H', J.os, J.bare, J.base, J.hok, rv, q⟩
    | .next, ⟨_, H', J, q⟩ => exact ⟨.non, H', J.os, J.bare, J.base, J.hok, rfl, q⟩
    | .brk, ⟨_, _, _, q⟩ => exact q.elim
    | .cont, ⟨_, _, _, q⟩ => exact q.elim
section
variable {g : Pg} {C : Ct} {q q' : Sta} {P : Po} {e a b c o : Expr} {es : List Expr} {st : Stmt} {sts rest body : List Stmt} {pos p p2 apos cpos : Pos} {T Ta Tb : Ty} {Ts : List Ty} {x : Str} {i j k : Nat} {M : Ml} {δ δ' : Sd} {ps N : List Str} {α : Type} {Mm : α → Ml} {A : α → List Ty} {R : α → Ty}
/-- a call of such a def -/
theorem pe_callG {X : Cx} {f : Addr} {fd : FuncData} {sp : Sp} {t : TA} (hX : X.xe = fun _ _ => False) (F : OkG ⟨X.prog, X.w, X.K, X.mg, X.base⟩ k f fd ps sp) (hgd : X.A.guards = some []) (hr : Room k X.A) (hg : Gl X x) (hm : X.mg x = some (.ref f)) (hk : PySem.W.keepIn X.K (.ref f) = true) (hb : Binds X.K fd ps [])
    (ha : PA X (e :: es) t) (hdb : (x == ("__debug__" : Str)) = false) (he : starEach (e :: es) X.env = (false, eval e X.env) :: starEach es X.env) (hpl : (backTo pos (starEach es X.env)).any (·.1) = false) : PE X (.Call (.Name x p) (e :: es) [] pos) (tCall sp [] E0 t) := by
  constructor
  intro pins s σ H Q I0 wish
  refine wpAny_Call_Name_kw (ld_glob I0 hg hm ?_ hdb)
  refine PySem.W.callWith_K (h₀ := X.base) I0.ok.mod.kin hk (thn (ha.run pos pins s σ H _ I0 wish) ?_) he hpl
  rintro us s1 ⟨vs, H1, I1, rel, now⟩
  refine ⟨I1.kIn, wpAny_call (codeAny_mono (F.run X.A hgd hr X.stack s1 H1 I1.env0 ⟨us, []⟩ us vs Q E0 ?_ rel ?_) ?_)⟩
  · have size : us.length = ps.length := by
      rw [← rel.length]
      exact F.len _ _ _ _ (by rw [List.append_nil] at now; exact now)
    have := hb s1 us I1.kIn (by rw [List.append_nil]; exact size)
    rwa [List.append_nil] at this
  · rwa [List.append_nil] at now
  · intro r s2 done
    match r, done with
    | .error err, d => exact (pass0 pins σ H1 s1 err s2 I1 d)
    | .ok (.ret u), d => exact I1.after d
    | .ok .next, d => exact d.elim
    | .ok .brk, d => exact d.elim
    | .ok .cont, d => exact d.elim
theorem xe_callG (F : FnG g x ps k (spM Mm A R)) (hgd : ∀ i, (C.A i).guards = some []) (hr : ∀ i, Room k (C.A i)) (y : α) (ha : XA g C M δ (e :: es) (A y)) (sub : (Mm y).Sublist M := by exact List.nil_sublist _) (hg : ∀ j, (C.env j).kindOf x = some .globalImplicit := by intro _; rfl) (hdb : (x == ("__debug__" : Str)) = false := by decide)
    (he : ∀ j, starEach (e :: es) (C.env j) = (false, eval e (C.env j)) :: starEach es (C.env j) := by intro _; rfl) (hpl : ∀ j, (backTo pos (starEach es (C.env j))).any (·.1) = false := by intro _; rfl) : XE g C M δ (.Call (.Name x p) (e :: es) [] pos) (R y) := by
  obtain ⟨f, fd, h1, h2, h3, h4⟩ := F.ex
  intro Z σ H hsl hA Q kk
  refine w_pe (t := tCall (spM Mm A R) [] E0 (wA g C (e :: es))) ?_ fun i => pe_callG (X := C.X g i) rfl h4 (hgd i) (hr i) (hg i) h1 h2 h3 (pa_w i) hdb (he i) (hpl i)
  refine ha Z σ H hsl hA _ fun vs H1 f1 A1 t1 => ?_
  rw [List.append_nil]
  exact sp_use y sub A1 t1 fun v H' f2 A2 t2 => kk v H' (f1.trans f2) A2 t2
theorem Tx.fnG (T : Tx g) (i j : Nat) {d : He.DefD} (hd : fnL[i]? = some d) (hx : faL[j]? = some (.glo x)) (ha : d.at_ = (x, none)) (h1 : d.dfl = []) (h2 : d.kwd = []) (S : FnScope N ps d.scope) (len : ∀ z, (A z).length = ps.length)
    (bind : ∀ (kV doc pm : Value) (an : Option Addr) (cdv ct : Value) (us : List Value), us.length = ps.length → bindArgs (PySem.W.fnOf d.name d.qual d.params d.body d.scope .none kV doc pm an cdv ct) ⟨us, []⟩ = pure (ps.zip us))
    (hb : ∀ (cdv : Value) (Ar : Around) (outer : List Env) (s : Shared) (H : Hp) (z : α), Ar.guards = some [] → Room k (Ar.deeper (envOfC d.qual d.scope s.heap.objs.size (He.ga g.K x) cdv)) →
      XB g (ctOf (cxOf CX0 g.P g.w g.K g.mg g.base N d.qual d.scope (He.ga g.K x) cdv Ar outer s H E0)) (st0 N (A z) (Mm z)) d.body { nx := fun _ => tD g.K .none = R z, rt := fun T => T = R z }) : FnG g x ps (k + 1) (spM Mm A R) := by
  obtain ⟨fd, F⟩ := T.says.def_ i hd
  have e1 : d.dvs g.K = [] := by unfold He.DefD.dvs; rw [h1]; rfl
  have e2 : d.kws g.K = [] := by unfold He.DefD.kws; rw [h2]; rfl
  have e3 : He.fAd g.K d.at_ = He.ga g.K x := by rw [ha]; rfl
  rw [e1, e2, e3] at F
  refine ⟨_, fd, T.glo j hx, F.kp, FunD.bindsN F bind, okG_body F S (fun vs H Q E h => ?_) fun cdv Ar hg outer s H vs Q E hr h => ?_⟩
  · obtain ⟨Z, z, h1, _⟩ := h
    rw [h1.length, len]
  · obtain ⟨Z, z, h1, h2, kk⟩ := h
    have hv := h1.length
    have hl : (A z).length = ps.length := len z
    refine ⟨wB g (ctOf (cxOf CX0 g.P g.w g.K g.mg g.base N d.qual d.scope (He.ga g.K x) cdv Ar outer s H E)) d.body, PSs.nox (pss_w (C := ctOf (cxOf CX0 g.P g.w g.K g.mg g.base N d.qual d.scope (He.ga g.K x) cdv Ar outer s H E)) ()), ?_⟩
    have zo : Zo Z [] = Z := by funext a; simp [Zo, inO]
    refine hb cdv Ar outer s H z hg hr Z (Mm z) H [] _ H _ ⟨?_, ?_, (fun p hp => nomatch hp), List.nodup_nil, (fun p hp => nomatch hp), Fr.refl, (fun p hp => nomatch hp), (fun p hp => .inl hp), .refl _, (fun p hp => nomatch hp)⟩ ⟨fun q σ H' n hh => ?_, fun T v H' n r => ?_, fun _ _ _ n => n.elim, fun _ _ _ n => n.elim⟩
    · show Sl (out (Zm (Zo Z []) (Mm z)) H) _ _
      rw [zo]
      unfold L2.start
      rw [hv]
      exact sl_start h1
    · show Amb (Zo Z []) (Mm z) H
      rw [zo]
      exact h2
    · have r := hh.ret (T := tD g.K .none) (v := .non) .non
      have n' : tD g.K .none = R z := n
      rw [n'] at r
      exact kk _ H' r.fr r.amb r.is
    · have n' : T = R z := n
      rw [n'] at r
      exact kk v H' r.fr r.amb r.is
end
/-! ### the end: the law's call -/
/-- what stands behind the top, as the end finds it -/
structure Bt (K : PySem.W.Frag) (mg mb : Str → Option Value) (a : Addr) (vs : List Value) (s : Shared) : Prop where
  kin : K.In s.heap
  ns : s.heap.Ns mainGlobals mg
  nb : s.heap.Ns builtinsNs mb
  bb : ∀ x : Str, x ≠ "__name__" → mb x = bootBuiltins x
  lim : s.heap.NoLimit
  gens : s.gens = #[]
  scr : s.heap.get? a = some { cls := .type "list", data := .seq vs.toArray }
/-- what is tracked of it: the script, or nothing -/
structure Tk (K : PySem.W.Frag) (P : Program) (w : World) (a : Addr) (ns : List Int) (H : Hp) (s : Shared) : Prop where
  fz : ∀ b, H b = none ∨ ∃ o xs, H b = some (.frz o (.lst xs))
  sq : SqL K H a (ns.map V.int)
  ok : HOk P w H s.heap
  me : ∀ b, H b ≠ none → b = a ∧ K.lookup a = none
theorem law_run {P : Program} {w : World} {K : PySem.W.Frag} {mg mb : Str → Option Value} {k : Nat} {fa a : Addr} {fd : FuncData} {x : Str} {sp : Sp} {s : Shared} {vs : List Value} {ns : List Int} {H : Hp} (B : Bt K mg mb a vs s) (Tr : Tk K P w a ns H s) (hr : Room k callerA)
    (F : ∀ base : Heap, K.In base → base.Ns mainGlobals mg → OkG ⟨P, w, K, mg, base⟩ k fa fd [x] sp) (bnd : ∀ (s : Shared) (u : Value), BindsTo s fd ⟨[u], []⟩ [(x, u)]) (wish : sp [.ref a] H (fun v _ => v = .bl true) E0) :
    codeAny (model P w) callerA (.call (.ref fa) ⟨[.ref a], []⟩) (fun r s' => r = .ok (.ret (.bool true)) ∧ OldK s.heap s'.heap ∧ s'.os = s.os ∧ AllBare s'.gens) s := by
  -- the heap without the script is what the defs may build on
  have stays : ∀ {b : Addr} {o : Obj}, s.heap.get? b = some o → (H b ≠ none → False) → (hidT s.heap H).get? b = some o := fun e n => hidT_get e (Classical.not_not.mp n)
  have names : ∀ {b : Addr} {m : Str → Option Value}, s.heap.Ns b m → (hidT s.heap H).Ns b m := by
    rintro b m ⟨o, es, ep, e, d, r⟩
    refine ⟨o, es, ep, stays e fun n => ?_, d, r⟩
    obtain rfl := (Tr.me b n).1
    rw [B.scr] at e
    obtain rfl := Option.some.inj e
    exact nomatch d
  have kb : K.In (hidT s.heap H) := fun b o e => stays (B.kin b o e) fun n => by
    obtain ⟨rfl, n2⟩ := Tr.me b n
    rw [n2] at e
    exact nomatch e
  obtain ⟨mc, l1, l2⟩ := B.lim
  have e0 : Env0 P w K mg (hidT s.heap H) callerA [] s H := { frames := rfl, mod := ⟨kb, names B.ns, ⟨mb, names B.nb, B.bb⟩, ⟨mc, names l1, l2⟩⟩, bs := fun b o e => of_hidT e, bsz := Nat.le_of_eq (hidT_size _ _), funs := trivial, frf := fun b hb => (nomatch (show b ∈ ([] : List Addr) from hb)), hok := Tr.ok, bare := .of_eq B.gens }
  have run := (F _ kb (names B.ns)).run callerA rfl hr [] s H e0 ⟨[.ref a], []⟩ [.ref a] [.ref a] (fun v _ => v = .bl true) E0 (bnd s (.ref a)) (.cons rfl .nil) wish
  refine codeAny_mono run fun r s' done => ?_
  match r, done with
  | .ok (.ret u), ⟨v, H', os, bare, un, ok2, rel, q⟩ =>
    obtain rfl : v = .bl true := q
    obtain rfl : u = Value.bool true := rel
    refine ⟨rfl, OldK.of_keep fun b o e => ?_, os, bare⟩
    rcases Tr.fz b with n | ⟨ob, xs, n⟩
    · exact un.keep b o e n (fun z => nomatch (show b ∈ ([] : List Addr) from z)) (fun z => nomatch z)
    · have now := (ok2 b _ (un.frzs b ob _ n)).1
      have was := (Tr.ok b _ n).1
      rw [was] at e
      rw [now, ← Option.some.inj e]
theorem law_end {P : Program} {w : World} {K : PySem.W.Frag} {mg mb : Str → Option Value} {k : Nat} {fa a : Addr} {fd : FuncData} {x : Str} {sp : Sp} {s : Shared} {vs : List Value} {ns : List Int} (B : Bt K mg mb a vs s) (hi : IntsAre vs ns) (hl : ns.length ≤ sizeLine) (hr : Room k callerA)
    (F : ∀ base : Heap, K.In base → base.Ns mainGlobals mg → OkG ⟨P, w, K, mg, base⟩ k fa fd [x] sp) (bnd : ∀ (s : Shared) (u : Value), BindsTo s fd ⟨[u], []⟩ [(x, u)]) (wish : ∀ H : Hp, SqL K H a (ns.map V.int) → sp [.ref a] H (fun v _ => v = .bl true) E0) :
    codeAny (model P w) callerA (.call (.ref fa) ⟨[.ref a], []⟩) (fun r s' => r = .ok (.ret (.bool true)) ∧ OldK s.heap s'.heap ∧ s'.os = s.os ∧ AllBare s'.gens) s := by
  have rel := vals_ints hi
  have size : vs.length = ns.length := hi.length
  by_cases known : K.lookup a = none
  · let o : Obj := { cls := .type "list", data := .seq vs.toArray }
    let H : Hp := fun b => if b = a then some (.frz o (.lst (ns.map V.int))) else none
    have here : H a = some (.frz o (.lst (ns.map V.int))) := if_pos rfl
    have else_ : ∀ b, b ≠ a → H b = none := fun b n => if_neg n
    have sq : SqL K H a (ns.map V.int) := .inl (.inr ⟨o, here⟩)
    refine law_run (H := H) B ⟨fun b => ?_, sq, fun b u e => ?_, fun b n => ⟨?_, known⟩⟩ hr F bnd (wish H sq)
    · by_cases hb : b = a
      · rw [hb]; exact .inr ⟨_, _, here⟩
      · exact .inl (else_ b hb)
    · by_cases hb : b = a
      · rw [hb, here] at e
        obtain rfl := Option.some.inj e
        rw [hb]
        exact ⟨B.scr, by rw [List.length_map]; exact hl, vs, _, rel, B.scr⟩
      · rw [else_ b hb] at e
        exact nomatch e
    · exact Classical.byContradiction fun hb => n (else_ b hb)
  · obtain ⟨o, ho⟩ := Option.ne_none_iff_exists'.mp known
    have e := B.kin a o ho
    rw [B.scr] at e
    obtain rfl := Option.some.inj e
    have sq : SqL K (fun _ => none) a (ns.map V.int) := .inr ⟨_, vs.toArray, _, ho, rfl, rfl, rfl, by rw [List.size_toArray, size]; exact hl, by simpa using rel⟩
    exact law_run (H := fun _ => none) B ⟨fun _ => .inl rfl, sq, fun b u e => (nomatch (show (none : Option HO) = some u from e)), fun b n => (n rfl).elim⟩ hr F bnd (wish _ sq)
/-- the walk that the head asks for -/
theorem walk_G {l : PySem.W.OpenLaw} {n k : Nat} {q : Program} {loose : List Str} {XP : (Str → Option Value) → Heap → Prop} {YP : World → Heap → Prop} {d : DefRec} {x : Str} (hn : l.most = some n) (hn2 : n ≤ sizeLine) (hdf : d.params.defaults = []) (hr : Room k callerA)
    (F : ∀ (w : World) (mg : Str → Option Value) (fa : Addr) (h : Heap), YP w h → h.Ns mainGlobals mg → mg d.name = some (.ref fa) → ∃ (K : PySem.W.Frag) (fd : FuncData) (sp : Sp), K.In h ∧ (∀ (s : Shared) (u : Value), BindsTo s fd ⟨[u], []⟩ [(x, u)]) ∧
        (∀ (H : Hp) (a : Addr) (ns : List Int), ns.length ≤ n → SqL K H a (ns.map V.int) → sp [.ref a] H (fun v _ => v = .bl true) E0) ∧ ∀ base : Heap, K.In base → base.Ns mainGlobals mg → OkG ⟨l.prog, w, K, mg, base⟩ k fa fd [x] sp) :
    PySem.W.WalkO q loose XP YP l.row.toRowW d [] (fun f vs => PySem.call f vs) := by
  refine Att.attach_call hn hdf fun w s0 s1 mg mb fa o pm cd doc a vs ns G Y _ _ _ hm hobj hints hlen hg => ?_
  obtain ⟨K, fd, sp, kx, hb, wish, ok⟩ := F w mg fa _ Y G.T.g hm
  exact law_end (x := x) ⟨kx, G.T.g, G.T.b, G.T.builtins, G.T.nolimit, hg, hobj⟩ hints (Nat.le_trans hlen hn2) hr ok hb fun H sq => wish H a ns hlen sq
end Pf
end
section
set_option Elab.async false
set_option linter.all false
set_option maxRecDepth 100000
set_option maxHeartbeats 2000000
set_option exponentiation.threshold 5000
set_option pp.maxSteps 1200
namespace Pf
open PySem PySem.Spec PyProof.Rows L2 RZ
/-! ### papers of the kind that the law makes -/
inductive EnK : PyData → Prop
  | non : EnK .none
  | nil : EnK (.tuple [])
  | two (a b : Int) : EnK (.tuple [.int a, .int b])
  | three (a b : Int) (c : PyData) : RkOk c → EnK (.tuple [.int a, .int b, c])
theorem EnK.sh {d : PyData} (h : EnK d) : Sh 12 d := by
  cases h with
  | non => exact Sh.non
  | nil => exact Sh.tup (n := 11) fun x hx => nomatch hx
  | two a b =>
    refine Sh.tup (n := 11) fun x hx => ?_
    rcases List.mem_cons.mp hx with e | hx
    · rw [e]; exact Sh.int a
    · rw [List.mem_singleton.mp hx]; exact Sh.int b
  | three a b c hc =>
    refine Sh.tup (n := 11) fun x hx => ?_
    rcases List.mem_cons.mp hx with e | hx
    · rw [e]; exact Sh.int a
    rcases List.mem_cons.mp hx with e | hx
    · rw [e]; exact Sh.int b
    · rw [List.mem_singleton.mp hx]; exact hc.sh.mono (by decide)
structure EsK (es : List PyData) : Prop where
  e : ∀ e ∈ es, EnK e
  len : es.length ≤ 200
inductive ThK : PyData → Prop
  | non : ThK .none
  | tup (es : List PyData) : EsK es → ThK (.tuple es)
  | lst (es : List PyData) : EsK es → ThK (.list es)
theorem EsK.shl {es : List PyData} (h : EsK es) : Sh 13 (.list es) := Sh.lst fun x hx => (h.e x hx).sh
theorem ThK.ok {d : PyData} (h : ThK d) : ThOk d := by
  have key : ∀ {es : List PyData}, EsK es → ∀ a b c, PyData.tuple [a, b, c] ∈ es → RdOk c := fun he a b c hm => by
    cases he.e _ hm with
    | three _ _ _ hc => exact hc.rd
  cases h with
  | non => exact ⟨Sh.non, fun es e => nomatch e⟩
  | tup es he => exact ⟨(Sh.tup fun x hx => (he.e x hx).sh : Sh 13 (.tuple es)).mono (by decide), fun es e => nomatch e⟩
  | lst es he =>
    refine ⟨he.shl.mono (by decide), fun es' e => ?_⟩
    injection e with e
    subst e
    exact ⟨Nat.le_trans he.len (by decide), key he⟩
theorem EsK.filter {es : List PyData} (h : EsK es) (f : PyData → Bool) : EsK (es.filter f) := ⟨fun e he => h.e e (List.mem_filter.mp he).1, Nat.le_trans (List.length_filter_le _ _) h.len⟩
theorem es_three {es : List PyData} (h : EsK es) (h3 : es.all is3 = true) : ∃ us : List (Int × Int × PyData), es = us.map uD ∧ ∀ u ∈ us, RkOk u.2.2 := by
  obtain ⟨he, _⟩ := h
  induction es with
  | nil => exact ⟨[], rfl, fun u hu => nomatch hu⟩
  | cons e es ih =>
    rw [List.all_cons, Bool.and_eq_true] at h3
    obtain ⟨us, rfl, hu⟩ := ih h3.2 (fun x hx => he x (List.mem_cons_of_mem _ hx)) (by
      rename_i len
      rw [List.length_cons] at len
      omega)
    cases he e List.mem_cons_self with
    | non => cases h3.1
    | nil => cases h3.1
    | two a b => cases h3.1
    | three a b c hc =>
      refine ⟨(a, b, c) :: us, rfl, fun u hu2 => ?_⟩
      rcases List.mem_cons.mp hu2 with e | hu2
      · rw [e]; exact hc
      · exact hu u hu2
/-! the pairs that are due, as the law finds them -/
def partP (at_ k n m : Nat) : List (Nat × Nat) := ((List.range n).flatMap fun a => (List.range k).map fun i => (a, at_ + 1 + i)) ++ (List.range m).map fun i => (n, at_ + 1 + i)
def cndP (many : Int) (p : Nat × Nat) : Bool := decide ((p.2 : Int) - (p.1 : Int) - 1 ≤ many)
def dueL (rs : List Int) (at_ k : Nat) (many : Int) (n m : Nat) : List PyData := ((partP at_ k n m).filter (cndP many)).map fun p => pD (rs.getD p.1 0, rs.getD p.2 0)
theorem dueL_more (rs : List Int) (at_ k : Nat) (many : Int) (n m : Nat) : dueL rs at_ k many n (m + 1) = if cndP many (n, at_ + 1 + m) = true then dueL rs at_ k many n m ++ [pD (rs.getD n 0, rs.getD (at_ + 1 + m) 0)] else dueL rs at_ k many n m := by
  unfold dueL partP
  rw [List.range_succ, List.map_append, ← List.append_assoc, List.filter_append, List.map_append]
  show _ ++ ([(n, at_ + 1 + m)].filter (cndP many)).map _ = _
  by_cases h : cndP many (n, at_ + 1 + m) = true
  · rw [if_pos h, List.filter_cons, if_pos h]
    rfl
  · rw [if_neg h, List.filter_cons, if_neg h]
    simp
theorem dueL_next (rs : List Int) (at_ k : Nat) (many : Int) (n : Nat) : dueL rs at_ k many n k = dueL rs at_ k many (n + 1) 0 := by
  unfold dueL partP
  rw [List.range_succ, List.flatMap_append]
  simp
theorem dueL_len (rs : List Int) (at_ k : Nat) (many : Int) : ∀ n m : Nat, (dueL rs at_ k many n m).length ≤ n * k + m := fun n m => by
  unfold dueL
  rw [List.length_map]
  refine Nat.le_trans (List.length_filter_le _ _) ?_
  unfold partP
  rw [List.length_append, List.length_map, List.length_range]
  have : ((List.range n).flatMap fun a => (List.range k).map fun i => (a, at_ + 1 + i)).length ≤ (List.range n).length * k := flatMap_le fun a _ => by rw [List.length_map, List.length_range]; exact Nat.le_refl _
  rw [List.length_range] at this
  omega
theorem dueL_all (rs : List Int) (at_ : Nat) (many : Int) : dueL rs at_ (rs.length - at_ - 1) many at_ 0 = (dueM rs (pairsM at_ rs.length many)).map pD := by
  unfold dueL partP dueM pairsM allP
  rw [List.map_map]
  simp only [List.range_zero, List.map_nil, List.append_nil]
  rfl
structure PpZ where
  W : Wd
  lot : List Int
  one : Int
  many : Int
  th : PyData
structure PpOk (z : PpZ) : Prop where
  w : WOk z.W
  l : LotOk z.W z.lot
  o : z.one ∈ z.lot
  t : ThK z.th
abbrev FnT__law_papers_right (g : Pg) : Prop := FnG g "_law_papers_right" ["_law_table_here", "_law_many", "_law_troop", "_law_one", "_law_number", "_law_thing"] 2 (spM (α := {z : PpZ // PpOk z}) (fun _ => []) (fun z => [tTabW z.1.W, tD g.K (.int (z.1.W.props.length : Int)), tD g.K (.tuple (z.1.lot.map .int)), tD g.K (.int z.1.one), tD g.K (.int z.1.many), tD g.K z.1.th]) (fun z => tD g.K (.bool (isNosM z.1.W z.1.lot z.1.one z.1.many z.1.th))))
theorem sc__law_papers_right : FnScope ["_law_table_here", "_law_many", "_law_troop", "_law_one", "_law_number", "_law_thing", "_law_rests", "_law_at", "_law_due", "_law_low", "_law_high", "_law_told"] ["_law_table_here", "_law_many", "_law_troop", "_law_one", "_law_number", "_law_thing"] (defScope sLawPapersRight) := ⟨rfl, rfl, rfl, by decide +kernel, rfl, by decide +kernel, by decide +kernel⟩
abbrev ppD (g : Pg) (z : PpZ) (a b c d e f : Option Ty) : Sd := [some (tTabW z.W), some (tD g.K (.int (z.W.props.length : Int))), some (tD g.K (.tuple (z.lot.map .int))), some (tD g.K (.int z.one)), some (tD g.K (.int z.many)), some (tD g.K z.th), a, b, c, d, e, f]
theorem sw_due {W : Wd} {lot : List Int} (hW : WOk W) (hl : LotOk W lot) {ps : List (Nat × Nat)} (h : ∀ p ∈ ps, p.1 < (restsM W lot).length ∧ p.2 < (restsM W lot).length) (hz : ps.length ≤ 200) : Sw 2 (200 * 23) (.list ((dueM (restsM W lot) ps).map pD)) := by
  have h12 := hW.p12
  have small : ∀ i, i < (restsM W lot).length → ((restsM W lot).getD i 0).natAbs < 1000 := fun i hi => by
    rw [getD_at hi]
    have hm : (restsM W lot)[i] ∈ restsM W lot := List.getElem_mem hi
    generalize (restsM W lot)[i] = y at hm
    have hm' : y ∈ -1 :: (lot ++ [(W.props.length : Int)]) := hm
    rcases List.mem_cons.mp hm' with e | hm'
    · omega
    rcases List.mem_append.mp hm' with hm' | hm'
    · have := hl.inn y hm'
      omega
    · have := List.mem_singleton.mp hm'
      omega
  refine Sw.lst (n := 1) (w := 22) (fun x hx => ?_) (by unfold dueM; rw [List.length_map, List.length_map]; exact hz)
  obtain ⟨q, hq, rfl⟩ := List.mem_map.mp hx
  obtain ⟨p, hp, rfl⟩ := List.mem_map.mp hq
  exact Sw.tup (n := 0) (w := 10) (k := 2) (xs := [.int ((restsM W lot).getD p.1 0), .int ((restsM W lot).getD p.2 0)]) (fun y hy => by
    rcases List.mem_cons.mp hy with e | hy
    · rw [e]; exact Sw.int (small _ (h p hp).1)
    · rw [List.mem_singleton.mp hy]; exact Sw.int (small _ (h p hp).2)) (Nat.le_refl 2)
theorem no_all {α β : Type} (f : α → Bool) (h : α → β) : ∀ l : List α, ((l.filter fun u => !f u).map h).isEmpty = l.all f
  | [] => rfl
  | a :: l => by
    rw [List.filter_cons, List.all_cons]
    cases e : f a with
    | true => exact no_all f h l
    | false => rfl
theorem cut_two (a b c : PyData) : cutD [a, b, c] none (some 2) = [a, b] := rfl
theorem fn__law_papers_right {g : Pg} (T : Tx g) (F__law_reason_right : FnT__law_reason_right g) : FnT__law_papers_right g := by
  refine T.fnG 64 51 (k := 1) (d := dLawPapersRight) rfl rfl rfl rfl rfl sc__law_papers_right (fun _ => rfl) (fun _ _ _ _ _ _ us hl => match us, hl with | [_, _, _, _, _, _], _ => rfl) fun cdv Ar outer s H z hgd hr => ?_
  have nd := sc__law_papers_right.nd
  obtain ⟨⟨W, lot, one, many, th⟩, hW, hl, ho, ht⟩ := z
  dsimp only at hW hl ho ht
  have hlen := hl.len
  have hp12 := hW.p12
  have hrl := rests_len W lot
  obtain ⟨hi1, hi2, hi3⟩ := rest_idx hl ho
  have hix := idx_at hi1
  show XB g _ ⟨ppD g ⟨W, lot, one, many, th⟩ none none none none none none, [], []⟩ _ { nx := fun _ => tD g.K .none = tD g.K (.bool (isNosM W lot one many th)), rt := fun T => T = tD g.K (.bool (isNosM W lot one many th)) }
  refine xb_cons (xs_set 6 (T := tD g.K (.list ((restsM W lot).map .int))) (XE.toD (xe_catL ?_ (xe_catL ?_ (xe_lstD (ds := [.int (0 - 1)]) (xa_cons (xe_sub xe_int xe_int) xa_nil)) (xe_lstOfT (T.free 95 rfl) (xe_name (i := 2) rfl))) (xe_lstD (ds := [.int (W.props.length : Int)]) (xa_cons (xe_name (i := 1) rfl) xa_nil))) (by simp [restsM])) ?_ nd)
  · simp only [List.length_append, List.length_cons, List.length_nil, List.length_map]; omega
  · simp only [List.length_cons, List.length_nil, List.length_map]; omega
  refine xb_cons (xs_set 7 (T := tD g.K (.int (idxI one (restsM W lot) : Nat))) (xe_indexL hix.1 hix.2 (xe_name (i := 6) rfl) (xe_name (i := 3) rfl)) ?_ nd)
  generalize hat : idxI one (restsM W lot) = at_ at *
  refine xb_cons (xs_nil 8 (fun la => ?_) nd)
  have hk : (((restsM W lot).length : Int) - ((at_ : Int) + 1)).toNat = (restsM W lot).length - at_ - 1 := by omega
  refine xb_to ⟨ppD g ⟨W, lot, one, many, th⟩ (some (tD g.K (.list ((restsM W lot).map .int)))) (some (tD g.K (.int (at_ : Int)))) (some (tAt la)) none none none, [(la, .lst (((dueM (restsM W lot) (pairsM at_ (restsM W lot).length many)).map pD).map (tD g.K)))], []⟩ (xs_forR 9 (n := (at_ : Int)) (by omega) (fun n => ⟨ppD g ⟨W, lot, one, many, th⟩ (some (tD g.K (.list ((restsM W lot).map .int)))) (some (tD g.K (.int (at_ : Int)))) (some (tAt la)) none none none, [(la, .lst ((dueL (restsM W lot) at_ ((restsM W lot).length - at_ - 1) many n 0).map (tD g.K)))], []⟩) (T.free 97 rfl) (xe_name (i := 7) rfl) ⟨Le.refl _, rfl, rfl⟩ (fun n hn => ?_) ?_ nd) ?_
  · refine xb_one (xs_forR2 10 (lo := (at_ : Int) + 1) (n := ((restsM W lot).length : Int)) (by omega) (fun m => ⟨ppD g ⟨W, lot, one, many, th⟩ (some (tD g.K (.list ((restsM W lot).map .int)))) (some (tD g.K (.int (at_ : Int)))) (some (tAt la)) (some (tD g.K (.int (n : Int)))) none none, [(la, .lst ((dueL (restsM W lot) at_ ((restsM W lot).length - at_ - 1) many n m).map (tD g.K)))], []⟩) (T.free 97 rfl) (xa_cons (xe_add (xe_name (i := 7) rfl) xe_int) (xa_cons (XE.toD (xe_lenL (T.free 91 rfl) (xe_name (i := 6) rfl)) (by rw [List.length_map])) xa_nil)) ⟨Le.refl _, rfl, rfl⟩ (fun m hm => ?_) ?_ nd)
    · have hm2 : at_ + 1 + m < (restsM W lot).length := by omega
      have el : ((at_ : Int) + 1 + (m : Int)) = ((at_ + 1 + m : Nat) : Int) := by omega
      have dl := dueL_len (restsM W lot) at_ ((restsM W lot).length - at_ - 1) many n m
      have dl2 : n * ((restsM W lot).length - at_ - 1) ≤ 14 * 14 := Nat.mul_le_mul (by omega) (by omega)
      rw [el]
      refine xb_one (xs_if (xt_le (xe_sub (xe_sub (xe_name (i := 10) rfl) (xe_name (i := 9) rfl)) xe_int) (xe_name (i := 4) rfl)) (fun hb => ?_) (fun hb => ?_))
      · have hb' : cndP many (n, at_ + 1 + m) = true := hb
        refine xb_one (xs_app (i := 8) (O1 := []) (O2 := []) rfl rfl (T := tD g.K (pD ((restsM W lot).getD n 0, (restsM W lot).getD (at_ + 1 + m) 0))) (xe_tupD (ds := [.int _, .int _]) (xa_cons (xe_ixL (rs_at (m := n) rfl (by omega)) (xe_name (i := 6) rfl) (xe_name (i := 9) rfl)) (xa_cons (xe_ixL (rs_at (m := at_ + 1 + m) rfl hm2) (xe_name (i := 6) rfl) (xe_name (i := 10) rfl)) xa_nil))) (by rw [List.length_map]; omega) ⟨?_, ?_, rfl⟩)
        · exact .is (.is (.is (.is (.is (.is (.is (.is (.is (.is (.no (.no .nil)))))))))))
        · rw [dueL_more, if_pos hb']
          simp
      · have hb' : ¬ cndP many (n, at_ + 1 + m) = true := by
          have h2 : cndP many (n, at_ + 1 + m) = false := hb
          rw [h2]
          exact Bool.false_ne_true
        refine xb_nil ⟨?_, ?_, rfl⟩
        · exact .is (.is (.is (.is (.is (.is (.is (.is (.is (.is (.no (.no .nil)))))))))))
        · rw [dueL_more, if_neg hb']
    · rw [hk]
      refine ⟨?_, ?_, rfl⟩
      · exact .is (.is (.is (.is (.is (.is (.is (.is (.is (.no (.no (.no .nil)))))))))))
      · rw [dueL_next]
  · rw [Int.toNat_natCast, dueL_all]
    exact ⟨Le.refl _, rfl, rfl⟩
  refine xb_freeze 8 (O1 := []) (O2 := []) (ds := (dueM (restsM W lot) (pairsM at_ (restsM W lot).length many)).map pD) rfl rfl ?_
  have hdl : (pairsM at_ (restsM W lot).length many).length ≤ 200 := Nat.le_trans (List.length_filter_le _ _) (by
    rw [allP_len]
    exact Nat.le_trans (Nat.mul_le_mul (show at_ ≤ 14 by omega) (show (restsM W lot).length - at_ - 1 ≤ 14 by omega)) (by decide))
  have FALSE : ∀ {q : Sta} {C : Ct} {P : Po} {p1 p2 j}, isNosM W lot one many th = false → P.rt (tD g.K (.bool (isNosM W lot one many th))) → XB g C q [.Return (some (.Constant (.bool false) j p1)) p2] P := fun h k => xb_one (xs_ret xe_bl (by rw [h] at k; exact k))
  have NOL : isTy "list" th = false → isNosM W lot one many th = false := fun h => by
    rw [isTy_list] at h
    cases ht with
    | non => rfl
    | tup es he => rfl
    | lst es he => cases h
  by_cases hli : isTy "list" th = true
  · obtain ⟨es, rfl, he⟩ : ∃ es, th = .list es ∧ EsK es := by
      rw [isTy_list] at hli
      cases ht with
      | non => cases hli
      | tup es he => cases hli
      | lst es he => exact ⟨es, rfl, he⟩
    have hel := he.len
    refine xb_cons (xs_if (xt_not (xt_val (xe_isi (kit_list _) (T.free 90 rfl) (T.free 95 rfl) (by decide +kernel) (xe_name (i := 5) rfl)))) (fun hb => absurd hb (by simp [isTy_ll])) (fun hb => ?_))
    refine xb_nil ?_
    have shf : Sh 13 (.list ((es.filter fun d => !is3 d).map fun d => d)) := by rw [List.map_id']; exact (he.filter _).shl
    refine xb_cons (xs_if (xt_neD (fun _ => hr) shf.ok (by rfl) (xe_lc [("_law_told", 11)] nd (fun j => pi_list (pe_w j)) (fun _ => blkOk_by (sc := defScope sLawPapersRight) (by show blkC ["_law_table_here", "_law_many", "_law_troop", "_law_one", "_law_number", "_law_thing", "_law_rests", "_law_at", "_law_due", "_law_low", "_law_high", "_law_told"] _ _ _ = true; decide +kernel)) (fun jj => pg_nm 11 jj nd) (fun jj => pts_one (pt_w jj)) (xr_lcL es (fun d => d) (fun d => d) (fun d => !is3 d) (fun d => ppD g ⟨W, lot, one, many, .list es⟩ (some (tD g.K (.list ((restsM W lot).map .int)))) (some (tD g.K (.int (at_ : Int)))) (some (tD g.K (.list ((dueM (restsM W lot) (pairsM at_ (restsM W lot).length many)).map pD)))) none none (some (tD g.K d))) (XE.toD (xe_name (i := 5) rfl) (by rw [List.map_id'])) (by omega) (fun b hb => xg_name 11) (by decide) (fun b hb => tr_one ?_) (fun b hb hf => xe_name (i := 11) rfl))) (xe_lstD (ds := []) xa_nil)) (fun hb2 => ?_) (fun hb2 => ?_))
    · by_cases htb : isTy "tuple" b = true
      · have eb := isTup_eq htb
        refine (XW.t (xw_or (xt_not (xt_val (xe_isi (kit_tuple _) (T.free 90 rfl) (T.free 94 rfl) (by decide +kernel) (xe_name (i := 11) rfl)))) fun hq => xw_or1 (xt_neI (xe_lenT (T.free 91 rfl) (XE.toD (xe_name (i := 11) rfl) eb)) xe_int))).to ?_
        rw [← is3_eq, htb]
        simp
      · refine (XW.t (xw_or (kb := false) (xt_not (xt_val (xe_isi (kit_tuple _) (T.free 90 rfl) (T.free 94 rfl) (by decide +kernel) (xe_name (i := 11) rfl)))) fun hq => absurd hq (by simp [htb]))).to ?_
        rw [← is3_eq]
        simp [htb]
    · refine FALSE ?_ rfl
      rw [eqv_nil, no_all] at hb2
      have h3 : es.all is3 = false := by simpa using hb2
      show (es.all (fun d => (untold d).isSome) && _) = false
      rw [untold_no3 h3]
      rfl
    refine xb_nil ?_
    rw [eqv_nil, no_all] at hb2
    have h3 : es.all is3 = true := by simpa using hb2
    obtain ⟨us, rfl, hus⟩ := es_three he h3
    have hul : us.length ≤ 200 := by rw [List.length_map] at hel; exact hel
    have comp1 : ∀ {C : Ct} {δ : Sd} {e : Expr}, XE g C [] δ e (tD g.K (.list ((us.filter fun _ => true).map fun u => pD (u.1, u.2.1)))) → XE g C [] δ e (tD g.K (.list ((us.map fun u => (u.1, u.2.1)).map pD))) := fun h => h.toD (by rw [ftrue, List.map_map]; rfl)
    have isv : isNosM W lot one many (.list (us.map uD)) = (decide ((us.map fun u => (u.1, u.2.1)) = dueM (restsM W lot) (pairsM at_ (restsM W lot).length many)) && us.all fun u => isReasM W lot one u.1 u.2.1 u.2.2) := by
      obtain ⟨u1, u2⟩ := untold_u us
      show ((us.map uD).all (fun d => (untold d).isSome) && (decide (((us.map uD).filterMap untold).map (fun u => (u.1, u.2.1)) = dueM (restsM W lot) (pairsM (idxI one (restsM W lot)) (restsM W lot).length many)) && ((us.map uD).filterMap untold).all fun u => isReasM W lot one u.1 u.2.1 u.2.2)) = _
      rw [u1, u2, hat, Bool.true_and]
    have hrf : ∀ {ds : List PyData} (B : Hp) (v : V), Rp g.K B v (.list ds) → ∃ a, v = .ref a := fun B v h => by
      obtain ⟨a, _, rfl, _⟩ := rp_lst h
      exact ⟨a, rfl⟩
    have hsw := sw_due hW hl (ps := pairsM at_ (restsM W lot).length many) (fun p hp => by
      obtain ⟨q1, q2, q3⟩ := allP_mem.mp (List.mem_filter.mp hp).1
      omega) hdl
    refine xb_cons (xs_if (XW.t (xw_or (xt_neD (fun _ => hr) (sh_prs _).ok (sh_prs _).ok (comp1 (xe_lc [("_law_told", 11)] nd (fun j => pi_list (pe_w j)) (fun _ => blkOk_by (sc := defScope sLawPapersRight) (by show blkC ["_law_table_here", "_law_many", "_law_troop", "_law_one", "_law_number", "_law_thing", "_law_rests", "_law_at", "_law_due", "_law_low", "_law_high", "_law_told"] _ _ _ = true; decide +kernel)) (fun jj => pg_nm 11 jj nd) (fun jj => pts_nil) (xr_lcL us uD (fun u => pD (u.1, u.2.1)) (fun _ => true) (fun u => ppD g ⟨W, lot, one, many, .list (us.map uD)⟩ (some (tD g.K (.list ((restsM W lot).map .int)))) (some (tD g.K (.int (at_ : Int)))) (some (tD g.K (.list ((dueM (restsM W lot) (pairsM at_ (restsM W lot).length many)).map pD)))) none none (some (tD g.K (uD u)))) (xe_name (i := 5) rfl) (by omega) (fun b hb => xg_name 11) (by decide) (fun b hb => tr_yes) (fun b hb hf => XE.toD (xe_slT (ds := [.int b.1, .int b.2.1, b.2.2]) (xe_name (i := 11) rfl) xo_none (xo_some xe_int)) rfl)))) (xe_name (i := 8) rfl)) fun hq => xw_or1 (xt_neS (xe_reprS (fun _ => hr) (fun _ => hgd) (T.free 105 rfl) hsw hrf (ha := XE.toD (comp1 (xe_lc [("_law_told", 11)] nd (fun j => pi_list (pe_w j)) (fun _ => blkOk_by (sc := defScope sLawPapersRight) (by show blkC ["_law_table_here", "_law_many", "_law_troop", "_law_one", "_law_number", "_law_thing", "_law_rests", "_law_at", "_law_due", "_law_low", "_law_high", "_law_told"] _ _ _ = true; decide +kernel)) (fun jj => pg_nm 11 jj nd) (fun jj => pts_nil) (xr_lcL us uD (fun u => pD (u.1, u.2.1)) (fun _ => true) (fun u => ppD g ⟨W, lot, one, many, .list (us.map uD)⟩ (some (tD g.K (.list ((restsM W lot).map .int)))) (some (tD g.K (.int (at_ : Int)))) (some (tD g.K (.list ((dueM (restsM W lot) (pairsM at_ (restsM W lot).length many)).map pD)))) none none (some (tD g.K (uD u)))) (xe_name (i := 5) rfl) (by omega) (fun b hb => xg_name 11) (by decide) (fun b hb => tr_yes) (fun b hb hf => XE.toD (xe_slT (ds := [.int b.1, .int b.2.1, b.2.2]) (xe_name (i := 11) rfl) xo_none (xo_some xe_int)) rfl)))) (by
      have hq' : (!PyData.eqvAll ((us.map fun u => (u.1, u.2.1)).map pD) ((dueM (restsM W lot) (pairsM at_ (restsM W lot).length many)).map pD)) = false := hq
      rw [eqv_prs] at hq'
      have : (us.map fun u => (u.1, u.2.1)) = dueM (restsM W lot) (pairsM at_ (restsM W lot).length many) := by simpa using hq'
      rw [this]))) (xe_reprS (fun _ => hr) (fun _ => hgd) (T.free 105 rfl) hsw hrf (ha := xe_name (i := 8) rfl))))) (fun hb4 => ?_) (fun hb4 => ?_))
    · have hb5 : (!PyData.eqvAll ((us.map fun u => (u.1, u.2.1)).map pD) ((dueM (restsM W lot) (pairsM at_ (restsM W lot).length many)).map pD) || !decide (_ = _)) = true := hb4
      rw [eqv_prs, decide_eq_true rfl] at hb5
      refine FALSE ?_ rfl
      rw [isv]
      have : decide ((us.map fun u => (u.1, u.2.1)) = dueM (restsM W lot) (pairsM at_ (restsM W lot).length many)) = false := by simpa using hb5
      rw [this]
      rfl
    refine xb_nil ?_
    have hb5 : (!PyData.eqvAll ((us.map fun u => (u.1, u.2.1)).map pD) ((dueM (restsM W lot) (pairsM at_ (restsM W lot).length many)).map pD) || !decide (_ = _)) = false := hb4
    rw [eqv_prs, decide_eq_true rfl] at hb5
    have hdue : (us.map fun u => (u.1, u.2.1)) = dueM (restsM W lot) (pairsM at_ (restsM W lot).length many) := by simpa using hb5
    have shl : Sh 13 (.list ((us.filter fun u => !isReasM W lot one u.1 u.2.1 u.2.2).map uD)) := Sh.lst fun x hx => by
      obtain ⟨u, hu, rfl⟩ := List.mem_map.mp hx
      exact (he.e _ (List.mem_map_of_mem (List.mem_filter.mp hu).1)).sh
    refine xb_one (xs_ret (T := tD g.K (.bool (isNosM W lot one many (.list (us.map uD))))) (XE.toD (xe_eqD (fun _ => hr) shl.ok (by rfl) (xe_lc [("_law_told", 11)] nd (fun j => pi_list (pe_w j)) (fun _ => blkOk_by (sc := defScope sLawPapersRight) (by show blkC ["_law_table_here", "_law_many", "_law_troop", "_law_one", "_law_number", "_law_thing", "_law_rests", "_law_at", "_law_due", "_law_low", "_law_high", "_law_told"] _ _ _ = true; decide +kernel)) (fun jj => pg_nm 11 jj nd) (fun jj => pts_one (pt_w jj)) (xr_lcL us uD uD (fun u => !isReasM W lot one u.1 u.2.1 u.2.2) (fun u => ppD g ⟨W, lot, one, many, .list (us.map uD)⟩ (some (tD g.K (.list ((restsM W lot).map .int)))) (some (tD g.K (.int (at_ : Int)))) (some (tD g.K (.list ((dueM (restsM W lot) (pairsM at_ (restsM W lot).length many)).map pD)))) none none (some (tD g.K (uD u)))) (xe_name (i := 5) rfl) (by omega) (fun b hb => xg_name 11) (by decide) (fun u hu => tr_one ?_) (fun b hb hf => xe_name (i := 11) rfl))) (xe_lstD (ds := []) xa_nil)) ?_) rfl)
    · have htr : TrOk W u.1 one u.2.1 := due_tr hl ho (many := many) (q := (u.1, u.2.1)) (by rw [hat, ← hdue]; exact List.mem_map_of_mem (f := fun u => (u.1, u.2.1)) hu)
      exact xt_not (xt_val (xe_call (F__law_reason_right.mono (by decide)) (fun _ => hr) ⟨⟨W, lot, one, u.1, u.2.1, u.2.2⟩, hW, hl, htr, hus u hu⟩ (xa_cons (xe_name (i := 0) rfl) (xa_cons (xe_name (i := 2) rfl) (xa_cons (xe_name (i := 3) rfl) (xa_cons (xe_name (i := 11) rfl) xa_nil))))))
    · rw [eqv_nil, no_all, isv, decide_eq_true hdue]
      rfl
  · have hli' : isTy "list" th = false := Bool.eq_false_iff.mpr hli
    exact xb_cons (xs_if (xt_not (xt_val (xe_isi (kit_list _) (T.free 90 rfl) (T.free 95 rfl) (by decide +kernel) (xe_name (i := 5) rfl)))) (fun hb => FALSE (NOL hli') rfl) (fun hb => absurd hb (by simp [hli'])))
end Pf
end
section
set_option Elab.async false
set_option linter.all false
set_option maxRecDepth 100000
set_option maxHeartbeats 2000000
set_option exponentiation.threshold 5000
set_option pp.maxSteps 1200
namespace Pf
open PySem PySem.Spec PyProof.Rows L2 RZ
/-! ### t[::-1], t a tuple -/
section
open HT
variable {prog : Program} {w : World} {A : Around} {E : Value → Shared → Prop} {s : Shared}
theorem back_ends (n : Nat) : Builtin.Slice.sliceAdjust none none (-1) (n : Int) = ((n : Int) - 1, -1) := by
  unfold Builtin.Slice.sliceAdjust
  have neg : (-1 : Int) < 0 := by decide
  simp only [neg, if_true]
theorem back_many (n : Nat) : Builtin.Slice.slicePlaces ((n : Int) - 1) (-1) (-1) = n := by
  unfold Builtin.Slice.slicePlaces
  have no : ¬ (-1 : Int) > 0 := by decide
  rw [if_neg no]
  have e : (- -1 : Int) = 1 := by decide
  rw [e, Int.ediv_one]
  split <;> omega
theorem fm_all {α β : Type} {g : α → Option β} {h : α → β} : ∀ {l : List α}, (∀ a ∈ l, g a = some (h a)) → l.filterMap g = l.map h
  | [], _ => rfl
  | a :: l, k => by rw [List.filterMap_cons_some (k a List.mem_cons_self), List.map_cons, fm_all fun b hb => k b (List.mem_cons_of_mem _ hb)]
theorem back_pick (xs : Array Value) : ((List.range xs.size).filterMap fun (m : Nat) => xs[((xs.size : Int) - 1 + (m : Int) * -1).toNat]?).toArray = xs.toList.reverse.toArray := by
  congr 1
  apply List.ext_getElem?
  intro i
  have key : (List.range xs.size).filterMap (fun (m : Nat) => xs[((xs.size : Int) - 1 + (m : Int) * -1).toNat]?) = (List.range xs.size).map fun m => xs.toList.reverse.getD m .none := by
    refine fm_all fun m hm => ?_
    have hm' := List.mem_range.mp hm
    have e : ((xs.size : Int) - 1 + (m : Int) * -1).toNat = xs.size - 1 - m := by omega
    rw [e]
    have h1 : xs.size - 1 - m < xs.size := by omega
    have h2 : m < xs.toList.reverse.length := by rw [List.length_reverse, Array.length_toList]; exact hm'
    rw [Array.getElem?_eq_getElem h1]
    rw [getD_at h2, List.getElem_reverse]
    simp
  rw [key]
  by_cases hi : i < xs.size
  · have h2 : i < xs.toList.reverse.length := by rw [List.length_reverse, Array.length_toList]; exact hi
    rw [List.getElem?_map, List.getElem?_range hi, List.getElem?_eq_getElem h2]
    show some (xs.toList.reverse.getD i .none) = _
    rw [getD_at h2]
  · rw [List.getElem?_eq_none (by rw [List.length_map, List.length_range]; omega), List.getElem?_eq_none (by rw [List.length_reverse, Array.length_toList]; omega)]
theorem back_applied {sl : Addr} {vk : Value} {n : Nat} {Q : Int × Int × Nat → Shared → Prop} (hs : s.heap.IsSliceOf sl .none .none vk) (pk : IsPart vk (some (-1))) (h : Q ((n : Int) - 1, -1, n) s) : wpAny (model prog w) A (Builtin.Slice.sliceApplied (.ref sl) (pure (n : Int))) Q E s := by
  obtain ⟨ob, at_, _, data⟩ := id hs
  unfold Builtin.Slice.sliceApplied Builtin.Slice.sliceFields
  refine wpAny_bind (wpAny_bind ?fields)
  case fields =>
    refine wpAny_field at_ data (x := .none) rfl (wpAny_bind ?f2)
    refine wpAny_field at_ data (x := .none) rfl (wpAny_bind ?f3)
    refine wpAny_field at_ data (x := vk) rfl (wpAny_pure ?f4)
    refine wpAny_bind (slicePart_ pk ?f5)
    show wpAny _ _ (if ((-1 : Int) == 0) = true then _ else _) _ _ s
    rw [if_neg (by decide)]
    refine wpAny_bind (slicePart_ .none ?f6)
    refine wpAny_bind (slicePart_ .none ?f7)
    refine wpAny_bind (wpAny_pure ?f8)
    show wpAny _ _ (match Builtin.Slice.sliceAdjust none none (-1) (n : Int) with | (lo, hi) => pure (lo, (-1 : Int), Builtin.Slice.slicePlaces lo hi (-1))) _ _ s
    rw [back_ends]
    show wpAny _ _ (pure ((n : Int) - 1, (-1 : Int), Builtin.Slice.slicePlaces ((n : Int) - 1) (-1) (-1))) _ _ s
    rw [back_many]
    exact wpAny_pure h
theorem back_tuple {t sl : Addr} {items : Array Value} {vk : Value} {Q : Value → Shared → Prop} (ht : IsTup s.heap t items) (hs : s.heap.IsSliceOf sl .none .none vk) (pk : IsPart vk (some (-1)))
    (h : Q (.ref s.heap.objs.size) { s with heap := s.heap.push { cls := .type "tuple", data := .seq items.toList.reverse.toArray } }) (small : items.size ≤ sizeLine) : wpAny (model prog w) A (getItem (.ref t) (.ref sl)) Q E s := by
  have room : sizeOk (.seq items.toList.reverse.toArray) := by
    show items.toList.reverse.toArray.size ≤ sizeLine
    rw [List.size_toArray, List.length_reverse, Array.length_toList]
    exact small
  obtain ⟨ob, at_, cls, _⟩ := id hs
  unfold getItem
  try with_reducible refine wpAny_holding ?_
  first | refine wpAny_bind (wpAny_pure ?_) | skip
  refine wpAny_bind (wpAny_sequenceKey ht.typeIs (by decide) (wpAny_bind (wpAny_callSpecial?_slot (name := Str.ofString "__getitem__") ht.typeIs PyProof.Rows.slot_tuple_getitem (wpAny_call_entry PyProof.Rows.slot_tuple_getitem ht.typeIs entry_tuple_getitem ?_ (args_tuple_getitem _ _)))))
  show wpAny _ _ (Builtin.Tuple.tupleItemsOf (.ref t) >>= fun _ => _) _ _ s
  refine wpAny_bind (tupleItemsOf_ ht (wpAny_bind (wpAny_typeOf (show s.TypeIs (.ref sl) "slice" from ⟨ob, at_, cls⟩) ?_)))
  rw [if_pos (by decide)]
  refine wpAny_bind (back_applied hs pk ?_)
  have other : ¬ (((items.size : Int) - 1 == 0 && (-1 : Int) == 1 && items.size == items.size) = true) := fun z => by
    rw [Bool.and_eq_true, Bool.and_eq_true] at z
    exact absurd z.1.2 (by decide)
  show wpAny _ _ (if ((items.size : Int) - 1 == 0 && (-1 : Int) == 1 && items.size == items.size) = true then _ else _) _ _ s
  rw [if_neg other, back_pick]
  first
    | exact wpAny_bind (m := Builtin.Tuple.tupleExact _) (wpAny_newObj_type (wpAny_pure ⟨_, rfl, wpAny_pure h⟩) room)
    | exact wpAny_bind (m := Builtin.Tuple.tupleExact _) (wpAny_newObj_type (wpAny_bind (wpAny_pure (wpAny_pure ⟨_, rfl, wpAny_pure h⟩))) room)
    | exact wpAny_bind (wpAny_bind (m := Builtin.Tuple.tupleExact _) (wpAny_newObj_type (wpAny_pure (wpAny_pure ⟨_, rfl, wpAny_pure h⟩)) room))
    | exact wpAny_bind (wpAny_bind (m := Builtin.Tuple.tupleExact _) (wpAny_newObj_type (wpAny_pure ⟨_, rfl, wpAny_pure h⟩) room))
end
def tRevT (K : PySem.W.Frag) (te : TE) : TE := fun σ H Q => te σ H fun x H1 => ∃ a xs, x = .ref a ∧ SqT K H1 a xs ∧ ∀ p, H1 p = none → Q (.ref p) (upd H1 p (.tup xs.reverse))
theorem pe_revT {X : Cx} {e : Expr} {te : TE} {k : Nat} {p1 p2 p3 pos : Pos} (he : PE X e te) : PE X (.Subscript e (.Slice none none (some (.UnaryOp .USub (.Constant (.int 1) k p1) p2)) p3) pos) (tRevT X.K te) := by
  constructor
  intro pins s σ H Q I0 wish
  have minus : PO X (some (.UnaryOp .USub (.Constant (.int 1) k p1) p2)) (tPart (tUn (rU fun i => .int (-i)) (tC (.int 1)))) := po_some (pe_un un_neg pe_int)
  refine Subscript_ (thn (he.run pins s σ H _ I0 wish) ?_)
  rintro v s1 ⟨x, H1, I1, rel, a, xs, rfl, hx, q⟩
  cases rel
  refine wpAny_Slice (thn (po_none.run pins s1 σ H1 (fun o H2 => o = none ∧ H2 = H1) I1 ⟨rfl, rfl⟩) ?_)
  rintro vl s2 ⟨_, _, I2, pl, rfl, rfl⟩
  refine thn (po_none.run pins s2 σ _ (fun o H3 => o = none ∧ H3 = _) I2 ⟨rfl, rfl⟩) ?_
  rintro vu s3 ⟨_, _, I3, pu, rfl, rfl⟩
  refine thn (minus.run pins s3 σ _ (fun o H4 => o = some (-1) ∧ H4 = _) I3 ⟨1, rfl, -1, rfl, rfl, rfl⟩) ?_
  rintro vk s4 ⟨_, _, I4, pk, rfl, rfl⟩
  cases pl
  cases pu
  have I5 := I4.kept (h' := s4.heap.push { cls := .type "slice", data := .fields #[.none, .none, vk] }) (t' := s4.toks) fun b ob z => Heap.get?_push_of_some _ z
  obtain ⟨its, r, ht, small⟩ := I5.tuple hx
  refine tail_any (ops := [.ref a, .ref s4.heap.objs.size]) ht.typeIs PyProof.Rows.slot_tuple_getitem.lookup ?_ (by with_unfolding_all rfl)
  refine back_tuple ht (Heap.IsSliceOf.new _ .none .none vk) pk ?_ (by rw [List.size_toArray, ← r.length]; exact small)
  refine ⟨.ref _, _, I5.laid (t' := s4.toks) (o := .tup xs.reverse) (fun b ob z => Heap.get?_push_of_some _ z) (Nat.le_refl _) ?_, rfl, q _ (I5.hok.fresh (Nat.le_refl _))⟩
  exact ⟨by rw [List.length_reverse]; exact small, _, r.reverse, IsTup.new _ _⟩
section
variable {g : Pg} {C : Ct} {e a b : Expr} {M : Ml} {δ : Sd} {pos p1 p2 p3 : Pos} {k : Nat}
theorem xe_revT {ds : List PyData} (ha : XE g C M δ a (tD g.K (.tuple ds))) : XE g C M δ (.Subscript a (.Slice none none (some (.UnaryOp .USub (.Constant (.int 1) k p1) p2)) p3) pos) (tD g.K (.tuple ds.reverse)) := fun Z σ H hsl hA Q kk => by
  refine w_pe (t := tRevT g.K (wE g C a)) ?_ fun i => pe_revT (X := C.X g i) (pe_w i)
  refine ha Z σ H hsl hA _ fun x H1 f1 A1 t1 => ?_
  obtain ⟨q, xs, rfl, h1, r1⟩ := rp_tup t1
  exact ⟨q, xs, rfl, sqt_mono out_sub h1, fun p hp => kk _ _ (f1.trans (Fr.of_ex (Ex.new hp))) (A1.new hp) (.tup (SqT.of (A1.got hp)) (r1.reverse.mono (Fr.out (Fr.of_ex (Ex.new hp)))))⟩
theorem xe_revL {ds : List PyData} (ha : XE g C M δ a (tD g.K (.list ds))) : XE g C M δ (.Subscript a (.Slice none none (some (.UnaryOp .USub (.Constant (.int 1) k p1) p2)) p3) pos) (tD g.K (.list ds.reverse)) := fun Z σ H hsl hA Q kk => by
  refine w_pe (t := tRevL g.K (wE g C a)) ?_ fun i => pe_revL (X := C.X g i) (pe_w i)
  refine ha Z σ H hsl hA _ fun x H1 f1 A1 t1 => ?_
  obtain ⟨q, xs, rfl, h1, r1⟩ := rp_lst t1
  exact ⟨q, xs, rfl, SqL.of (out_sub _ _ h1), fun p hp => kk _ _ (f1.trans (Fr.of_ex (Ex.new hp))) (A1.new hp) (.lst (A1.got hp) (r1.reverse.mono (Fr.out (Fr.of_ex (Ex.new hp)))))⟩
end
end Pf
end
section
set_option Elab.async false
set_option linter.all false
set_option maxRecDepth 100000
set_option maxHeartbeats 2000000
set_option exponentiation.threshold 5000
set_option pp.maxSteps 1200
namespace Pf
open PySem PySem.Spec PyProof.Rows L2 RZ
/-! ### spoilt papers -/
theorem pick_in {L : List PyData} {i : Int} (h0 : 0 ≤ i) (h1 : i < L.length) : ∃ d, atI L i = some d ∧ d ∈ L := by
  have hl : i.toNat < L.length := by omega
  have e : i = ((i.toNat : Nat) : Int) := by omega
  have key := atI_nat (List.getElem?_eq_getElem hl)
  rw [← e] at key
  exact ⟨_, key, List.getElem_mem hl⟩
theorem cut_mem {L : List PyData} {lo hi : Option Int} {d : PyData} (h : d ∈ cutD L lo hi) : d ∈ L := by
  unfold cutD at h
  exact List.mem_of_mem_drop (List.mem_of_mem_take h)
theorem cut_le {L : List PyData} {lo hi : Option Int} : (cutD L lo hi).length ≤ L.length := by
  unfold cutD
  rw [List.length_take, List.length_drop]
  omega
def intB (d : PyData) : Prop := (∃ i, d = .int i) ∨ (∃ b, d = .bool b)
theorem intB_sh {n : Nat} {d : PyData} (h : intB d) : Sh n d := by
  rcases h with ⟨i, rfl⟩ | ⟨b, rfl⟩
  · exact Sh.int i
  · exact Sh.bl b
theorem sh_lr {n : Nat} {s : Str} (h : s = "left" ∨ s = "right" ∨ s = "bears") : Sh n (.str s) := by
  refine ⟨?_, Nat.zero_le _⟩
  rcases h with rfl | rfl | rfl <;> decide +kernel
theorem sh_two {n : Nat} {a b : PyData} (ha : Sh n a) (hb : Sh n b) : Sh (n + 1) (.tuple [a, b]) := Sh.tup fun x hx => by
  rcases List.mem_cons.mp hx with e | hx
  · rw [e]; exact ha
  · rw [List.mem_singleton.mp hx]; exact hb
theorem rk_lr {s : Str} (hs : s = "left" ∨ s = "right") {ds : List PyData} (hz : ds.length ≤ 60) (hd : ∀ d ∈ ds, intB d) : RkOk (.tuple [.str s, .tuple ds]) := by
  refine ⟨sh_two (n := 9) (sh_lr (hs.imp id .inl)) (Sh.tup (n := 8) fun x hx => intB_sh (hd x hx)), fun s' l e _ => ?_⟩
  injection e with e
  injection e with _ e
  injection e with e
  exact ⟨ds, e.symm, hz, hd⟩
theorem rk_no {c : PyData} (h : Sh 10 c) (hn : ∀ s l, c = .tuple [.str s, l] → ¬ (s = "left" ∨ s = "right")) : RkOk c := ⟨h, fun s l e hs => absurd hs (hn s l e)⟩
theorem rk_one {s : Str} (h : s = "left" ∨ s = "right" ∨ s = "bears") : RkOk (.tuple [.str s]) := rk_no (Sh.tup (n := 9) fun x hx => by rw [List.mem_singleton.mp hx]; exact sh_lr h) fun s' l e => by
  injection e with e
  injection e with _ e
  exact nomatch e
/-- a told reason, in short -/
structure RsL (w : Str) (tl : List PyData) : Prop where
  hw : w = "left" ∨ w = "right" ∨ w = "bears"
  any : ∀ s : Str, (s = "left" ∨ s = "right") → RkOk (.tuple (.str s :: tl))
  me : RkOk (.tuple (.str w :: tl))
  back : RkOk (.tuple (.str w :: tl).reverse)
  l : RkOk (.list (.str w :: tl))
  one : tl.length ≤ 1
theorem rsl_lr {s : Str} (hs : s = "left" ∨ s = "right") {lot : List Int} (hz : lot.length ≤ 12) : RsL s [.tuple (lot.map .int)] := by
  have hd : ∀ d ∈ lot.map PyData.int, intB d := fun d hd => by
    obtain ⟨i, _, rfl⟩ := List.mem_map.mp hd
    exact .inl ⟨i, rfl⟩
  have hl : (lot.map PyData.int).length ≤ 60 := by rw [List.length_map]; omega
  have h3 : s = "left" ∨ s = "right" ∨ s = "bears" := hs.imp id .inl
  have st : Sh 9 (.tuple (lot.map .int)) := Sh.tup (n := 8) fun x hx => intB_sh (hd x hx)
  refine ⟨h3, fun s' hs' => rk_lr hs' hl hd, rk_lr hs hl hd, rk_no (sh_two st (sh_lr h3)) fun s' l e => ?_, rk_no (Sh.lst (n := 9) fun x hx => ?_) (fun s' l e => nomatch e), Nat.le_refl 1⟩
  · injection e with e
    injection e with e _
    exact nomatch e
  · rcases List.mem_cons.mp hx with e | hx
    · rw [e]; exact sh_lr h3
    · rw [List.mem_singleton.mp hx]; exact st
def rsnZ : Rsn → Nat
  | .bears => 0
  | .left l => l.length
  | .right l => l.length
theorem rsl_of {r : Rsn} (h : rsnZ r ≤ 12) : ∃ w tl, rsnD r = .tuple (.str w :: tl) ∧ RsL w tl := by
  cases r with
  | bears =>
    refine ⟨"bears", [], rfl, .inr (.inr rfl), fun s hs => rk_one (hs.imp id .inl), rk_one (.inr (.inr rfl)), rk_one (.inr (.inr rfl)), rk_no (Sh.lst (n := 9) fun x hx => ?_) (fun s' l e => nomatch e), Nat.zero_le 1⟩
    rw [List.mem_singleton.mp hx]
    exact sh_lr (.inr (.inr rfl))
  | left l => exact ⟨"left", _, rfl, rsl_lr (.inl rfl) h⟩
  | right l => exact ⟨"right", _, rfl, rsl_lr (.inr rfl) h⟩
def rsE (u : Int × Int × Rsn) : PyData := .tuple [.int u.1, .int u.2.1, rsnD u.2.2]
theorem rsE_ok {u : Int × Int × Rsn} (h : rsnZ u.2.2 ≤ 12) : EnK (rsE u) := by
  obtain ⟨w, tl, e, hr⟩ := rsl_of h
  unfold rsE
  rw [e]
  exact .three _ _ _ hr.me
section
variable {g : Pg} {C : Ct} {M : Ml} {δ : Sd} {e a b : Expr} {es : List Expr} {pos : Pos} {T : Ty} {Ts : List Ty} {i : Int}
/-! the same rules, with nothing left to be found: Lean then does not look into what the text does -/
theorem xaC (ha : XE g C M δ e T) (hr : XA g C M δ es Ts) (hs : ∀ i, starEach (e :: es) (C.env i) = (false, eval e (C.env i)) :: starEach es (C.env i)) : XA g C M δ (e :: es) (T :: Ts) := xa_cons ha hr hs
theorem xeTup {ds : List PyData} {x1} (hz : ds.length ≤ 100000) (ha : XA g C M δ es (ds.map (tD g.K))) : XE g C M δ (.Tuple es x1 pos) (tD g.K (.tuple ds)) := xe_tupD ha hz
theorem xeLst {ds : List PyData} (hz : ds.length ≤ 100000) (ha : XA g C M δ es (ds.map (tD g.K))) : XE g C M δ (.List es pos) (tD g.K (.list ds)) := xe_lstD ha hz
theorem xeIxL {ds : List PyData} {d : PyData} (e : atI ds i = some d) (ha : XE g C M δ a (tD g.K (.list ds))) (hb : XE g C M δ b (tD g.K (.int i))) (hs : PlainIx b) : XE g C M δ (.Subscript a b pos) (tD g.K d) := xe_ixL e ha hb hs
theorem xeSub {T' : Ty} (h : XE g C M δ e T') (s : ∀ B v, T'.p B v → T.p B v) : XE g C M δ e T := h.sub s
end
theorem xsSet {g : Pg} {C : Ct} {q : Sta} {P : Po} {e : Expr} {x : Str} {p pos : Pos} (i : Nat) (T : Ty) (hN : C.N.Nodup) (hi : C.N[i]? = some x) (hx : ∀ j, Loc (C.env j).scope x) (hs : ∀ j, swapsWith e (some (.Name x p)) pos.line (C.env j) = pure false) (hf : ∀ j, C.fn j x = true ∨ (C.env j).scope.names.lookup x = some .local)
    (h : XE g C q.M q.δ e T) (k : P.nx { q with δ := q.δ.set i (some T) }) : XS g C q (.Assign [.Name x p] e pos) P := xs_set i h k hN hi hx hs hf
theorem xsSetR {g : Pg} {C : Ct} {q : Sta} {P : Po} {e : Expr} {x : Str} {p pos : Pos} {Rn : Ty → Prop} {Ro : Addr → Ty → List Ty → Prop} (i : Nat) (hN : C.N.Nodup) (hi : C.N[i]? = some x) (hx : ∀ j, Loc (C.env j).scope x) (hs : ∀ j, swapsWith e (some (.Name x p)) pos.line (C.env j) = pure false) (hf : ∀ j, C.fn j x = true ∨ (C.env j).scope.names.lookup x = some .local)
    (h : XEr g C q.M q.δ e Rn Ro) (k1 : ∀ T, Rn T → P.nx { q with δ := q.δ.set i (some T) }) (k2 : ∀ L ts T, Ro L T ts → P.nx { q with δ := q.δ.set i (some T), O := q.O ++ oneO L ts }) : XS g C q (.Assign [.Name x p] e pos) P := xs_setR i h k1 k2 hN hi hx hs hf
theorem xsRet {g : Pg} {C : Ct} {q : Sta} {P : Po} {e : Expr} {pos : Pos} {T : Ty} (k : P.rt T) (h : XE g C q.M q.δ e T) : XS g C q (.Return (some e) pos) P := xs_ret h k
structure SlZ where
  us : List (Int × Int × Rsn)
  lot : List Int
  ds : List Int
structure SlOk (z : SlZ) : Prop where
  us : z.us.length ≤ 90
  rs : ∀ u ∈ z.us, rsnZ u.2.2 ≤ 12
  lot : z.lot.length ≤ 12
  ds : 8 ≤ z.ds.length
  nn : ∀ d ∈ z.ds, 0 ≤ d
abbrev tThK (g : Pg) : Ty := tExT ThK (tD g.K)
abbrev FnT__law_spoilt (g : Pg) : Prop := Fn g "_law_spoilt" ["_law_thing", "_law_troop", "_law_digits_here"] 1 (spM (α := {z : SlZ // SlOk z}) (fun _ => []) (fun z => [tD g.K (.list (z.1.us.map rsE)), tD g.K (.tuple (z.1.lot.map .int)), tD g.K (.list (z.1.ds.map .int))]) (fun _ => tThK g))
theorem sc__law_spoilt : FnScope ["_law_thing", "_law_troop", "_law_digits_here", "_law_at", "_law_left_here", "_law_right_here", "_law_reason", "_law_side", "_law_some", "_law_odd", "_law_twice"] ["_law_thing", "_law_troop", "_law_digits_here"] (defScope sLawSpoilt) := ⟨rfl, rfl, rfl, by decide +kernel, rfl, by decide +kernel, by decide +kernel⟩
theorem cut_end {L : List PyData} {hi : Option Int} : (cutD L none hi).length + 0 ≤ L.length := cut_le
theorem fn__law_spoilt {g : Pg} (T : Tx g) : FnT__law_spoilt g := by
  refine T.fn 65 52 (k := 0) (d := dLawSpoilt) rfl rfl rfl rfl rfl sc__law_spoilt (fun _ => rfl) (fun _ _ _ _ _ _ us hl => match us, hl with | [_, _, _], _ => rfl) fun cdv Ar outer s H z hr => ?_
  have nd := sc__law_spoilt.nd
  obtain ⟨⟨us, lot, ds⟩, hus, hrs, hlo, hds, hnn⟩ := z
  dsimp only at hus hrs hlo hds hnn
  have dg : ∀ n : Nat, n < 8 → atI (ds.map PyData.int) (n : Int) = some (.int (ds.getD n 0)) := fun n hn => rs_at (m := n) rfl (by omega)
  have dn : ∀ n : Nat, n < 8 → 0 ≤ ds.getD n 0 := fun n hn => by
    rw [getD_at (show n < ds.length by omega)]
    exact hnn _ (List.getElem_mem _)
  have md : ∀ (n : Nat) (k : Int), n < 8 → 0 < k → 0 ≤ ds.getD n 0 % k ∧ ds.getD n 0 % k < k := fun n k hn hk => ⟨Int.emod_nonneg _ (by omega), Int.emod_lt_of_pos _ hk⟩
  have esk : EsK (us.map rsE) := ⟨fun e he => by
    obtain ⟨u, hu, rfl⟩ := List.mem_map.mp he
    exact rsE_ok (hrs u hu), by rw [List.length_map]; omega⟩
  have esl : (us.map rsE).length ≤ 90 := by rw [List.length_map]; exact hus
  have rk0 := rk_one (s := "bears") (.inr (.inr rfl))
  have rkL : ∀ {s : Str}, (s = "left" ∨ s = "right") → ∀ {lo hi : Option Int}, RkOk (.tuple [.str s, .tuple (cutD (lot.map .int) lo hi)]) := fun {s} hs {lo hi} => rk_lr hs (by have := cut_le (L := lot.map PyData.int) (lo := lo) (hi := hi); rw [List.length_map] at this; omega) fun d hd => by
    obtain ⟨i, _, rfl⟩ := List.mem_map.mp (cut_mem hd)
    exact .inl ⟨i, rfl⟩
  have rkW : ∀ {s : Str}, (s = "left" ∨ s = "right") → RkOk (.tuple [.str s, .tuple (lot.map .int)]) := fun {s} hs => rk_lr hs (by rw [List.length_map]; omega) fun d hd => by
    obtain ⟨i, _, rfl⟩ := List.mem_map.mp hd
    exact .inl ⟨i, rfl⟩
  show XB g _ ⟨[some (tD g.K (.list (us.map rsE))), some (tD g.K (.tuple (lot.map .int))), some (tD g.K (.list (ds.map .int))), none, none, none, none, none, none, none, none], [], []⟩ _ { nx := fun _ => tD g.K .none = tThK g, rt := fun T => T = tThK g }
  refine xb_cons (xs_if (XW.t (xw_or (xt_eqD (fun _ => hr) esk.shl.ok (by rfl) (xe_name (i := 0) rfl) (xe_lstD (ds := []) xa_nil)) fun hb => xw_or1 (xt_eqI (xe_mod (by decide) (xe_int1 (T.free 99 rfl) (xe_ixL (dg 0 (by decide)) (xe_name (i := 2) rfl) xe_int)) xe_int) xe_int))) (fun hb => ?_) (fun hb => ?_))
  · have all : ∀ d ∈ [PyData.none, .tuple [], .list [.tuple []], .list [.tuple [.int 0, .int 1, .tuple [.str "bears"]]], .tuple (us.map rsE), .list (us.map rsE ++ us.map rsE)], ThK d := fun d hd => by
      rcases List.mem_cons.mp hd with rfl | hd
      · exact .non
      rcases List.mem_cons.mp hd with rfl | hd
      · exact .tup [] ⟨(fun e he => nomatch he), Nat.zero_le _⟩
      rcases List.mem_cons.mp hd with rfl | hd
      · exact .lst _ ⟨fun e he => by rw [List.mem_singleton.mp he]; exact .nil, by decide⟩
      rcases List.mem_cons.mp hd with rfl | hd
      · exact .lst _ ⟨fun e he => by rw [List.mem_singleton.mp he]; exact .three 0 1 _ rk0, by decide⟩
      rcases List.mem_cons.mp hd with rfl | hd
      · exact .tup _ esk
      · obtain rfl := List.mem_singleton.mp hd
        refine .lst _ ⟨fun e he => ?_, by rw [List.length_append]; omega⟩
        rcases List.mem_append.mp he with he | he
        · exact esk.e e he
        · exact esk.e e he
    obtain ⟨d, hd1, hd2⟩ := pick_in (L := [PyData.none, .tuple [], .list [.tuple []], .list [.tuple [.int 0, .int 1, .tuple [.str "bears"]]], .tuple (us.map rsE), .list (us.map rsE ++ us.map rsE)]) (md 1 6 (by decide) (by decide)).1 (md 1 6 (by decide) (by decide)).2
    have ret : ∀ {C : Ct} {q : Sta} {P : Po} {e : Expr} {pos : Pos}, XE g C q.M q.δ e (tD g.K d) → P.rt (tThK g) → XS g C q (.Return (some e) pos) P := fun h k => xs_ret (T := tThK g) (h.sub fun B v t => ⟨d, all d hd2, t⟩) k
    refine xb_one ?_
    refine ret ?_ ?_
    rotate_right
    · rfl
    have ixh : ∀ {C : Ct} {M : Ml} {δ : Sd} {a b : Expr} {pos : Pos}, _ → _ → PlainIx b → XE g C M δ (.Subscript a b pos) (tD g.K _) := fun ha hb hs => xe_ixL hd1 ha hb hs
    refine ixh ?_ ?_ ?_
    rotate_right
    · intro _ _; rfl
    · refine xeLst ?_ ?_
      · exact Nat.le_of_ble_eq_true rfl
      refine xaC ?_ ?_ ?_
      rotate_right
      · intro _; rfl
      · with_reducible exact xe_non
      refine xaC ?_ ?_ ?_
      rotate_right
      · intro _; rfl
      · refine xeTup ?_ ?_
        · exact Nat.le_of_ble_eq_true rfl
        exact xa_nil
      refine xaC ?_ ?_ ?_
      rotate_right
      · intro _; rfl
      · refine xeLst ?_ ?_
        · exact Nat.le_of_ble_eq_true rfl
        refine xaC ?_ ?_ ?_
        rotate_right
        · intro _; rfl
        · refine xeTup ?_ ?_
          · exact Nat.le_of_ble_eq_true rfl
          exact xa_nil
        exact xa_nil
      refine xaC ?_ ?_ ?_
      rotate_right
      · intro _; rfl
      · refine xeLst ?_ ?_
        · exact Nat.le_of_ble_eq_true rfl
        refine xaC ?_ ?_ ?_
        rotate_right
        · intro _; rfl
        · refine xeTup ?_ ?_
          · exact Nat.le_of_ble_eq_true rfl
          refine xaC ?_ ?_ ?_
          rotate_right
          · intro _; rfl
          · with_reducible exact xe_int
          refine xaC ?_ ?_ ?_
          rotate_right
          · intro _; rfl
          · with_reducible exact xe_int
          refine xaC ?_ ?_ ?_
          rotate_right
          · intro _; rfl
          · refine xeTup ?_ ?_
            · exact Nat.le_of_ble_eq_true rfl
            refine xaC ?_ ?_ ?_
            rotate_right
            · intro _; rfl
            · with_reducible exact xe_str
            exact xa_nil
          exact xa_nil
        exact xa_nil
      refine xaC ?_ ?_ ?_
      rotate_right
      · intro _; rfl
      · exact xe_tupOfL (T.free 94 rfl) (xe_name (i := 0) rfl)
      refine xaC ?_ ?_ ?_
      rotate_right
      · intro _; rfl
      · exact xe_catL (by omega) (xe_name (i := 0) rfl) (xe_name (i := 0) rfl)
      exact xa_nil
    · exact xe_mod (by decide) (xe_int1 (T.free 99 rfl) (xe_ixL (dg 1 (by decide)) (xe_name (i := 2) rfl) xe_int)) xe_int
  refine xb_nil ?_
  have hne : us.map rsE ≠ [] := fun e => by
    have h2 : (PyData.eqv (.list (us.map rsE)) (.list []) || decide (ds.getD 0 0 % 8 = 0)) = false := hb
    rw [eqv_nil, e] at h2
    cases h2
  have hpos : 0 < us.length := by
    cases us with
    | nil => exact absurd rfl hne
    | cons u us => exact Nat.zero_lt_succ _
  have hla : 0 ≤ ds.getD 1 0 % ((us.map rsE).length : Int) ∧ ds.getD 1 0 % ((us.map rsE).length : Int) < ((us.map rsE).length : Int) := by
    rw [List.length_map]
    exact md 1 _ (by decide) (by omega)
  refine xb_cons (xs_set 3 (xe_mod (by rw [List.length_map]; omega) (xe_int1 (T.free 99 rfl) (xe_ixL (dg 1 (by decide)) (xe_name (i := 2) rfl) xe_int)) (xe_lenL (T.free 91 rfl) (xe_name (i := 0) rfl))) ?_ nd)
  generalize ds.getD 1 0 % ((us.map rsE).length : Int) = at_ at hla ⊢
  obtain ⟨e0, he0, hm0⟩ := pick_in hla.1 hla.2
  obtain ⟨u, hu, rfl⟩ := List.mem_map.mp hm0
  obtain ⟨w, tl, hrw, hR⟩ := rsl_of (hrs u hu)
  obtain ⟨l, r, rr⟩ := u
  dsimp only at hrw
  have eE : rsE (l, r, rr) = .tuple [.int l, .int r, .tuple (.str w :: tl)] := by
    unfold rsE
    rw [hrw]
  rw [eE] at he0
  refine xb_cons (xs_unpack (T := tD g.K (.tuple [.int l, .int r, .tuple (.str w :: tl)])) (xe_ixL he0 (xe_name (i := 0) rfl) (xe_name (i := 3) rfl)) (xg_tup3 (xg_name 4) (xg_name 5) (xg_name 6)) ?_ (fun jj => pg_tup rfl (pgs_cons (pg_nm 4 jj nd) (pgs_cons (pg_nm 5 jj nd) (pgs_cons (pg_nm 6 jj nd) pgs_nil)))))
  obtain ⟨sd, hsd1, hsd2⟩ := pick_in (L := [.str "left", .str "right"]) (md 2 2 (by decide) (by decide)).1 (md 2 2 (by decide) (by decide)).2
  obtain ⟨sw, rfl, hsw⟩ : ∃ s : Str, sd = .str s ∧ (s = "left" ∨ s = "right") := by
    rcases List.mem_cons.mp hsd2 with e | h
    · exact ⟨_, e, .inl rfl⟩
    · exact ⟨_, List.mem_singleton.mp h, .inr rfl⟩
  refine xb_cons ?_
  refine xsSet 7 (tD g.K (.str sw)) nd ?_ ?_ ?_ ?_ ?_ ?_
  · rfl
  · intro _; exact .inl rfl
  · intro _; rfl
  · intro _; exact .inl rfl
  · have ixh : ∀ {C : Ct} {M : Ml} {δ : Sd} {a b : Expr} {pos : Pos}, _ → _ → PlainIx b → XE g C M δ (.Subscript a b pos) (tD g.K _) := fun ha hb hs => xe_ixL hsd1 ha hb hs
    refine ixh ?_ ?_ ?_
    rotate_right
    · intro _ _; rfl
    · refine xeLst ?_ ?_
      · exact Nat.le_of_ble_eq_true rfl
      refine xaC ?_ ?_ ?_
      rotate_right
      · intro _; rfl
      · with_reducible exact xe_str
      refine xaC ?_ ?_ ?_
      rotate_right
      · intro _; rfl
      · with_reducible exact xe_str
      exact xa_nil
    · exact xe_mod (by decide) (xe_int1 (T.free 99 rfl) (xe_ixL (dg 2 (by decide)) (xe_name (i := 2) rfl) xe_int)) xe_int
  refine xb_cons ?_
  refine xsSet 8 (tD g.K (.list [.tuple [.str "bears"], .tuple [.str "left", .tuple (lot.map .int)], .tuple [.str "right", .tuple (cutD (lot.map .int) (some 1) none)], .tuple [.str "left", .tuple []], .tuple [.str "left", .tuple (cutD (lot.map .int) none (some 1))]])) nd ?_ ?_ ?_ ?_ ?_ ?_
  · rfl
  · intro _; exact .inl rfl
  · intro _; rfl
  · intro _; exact .inl rfl
  · refine xeLst ?_ ?_
    · exact Nat.le_of_ble_eq_true rfl
    refine xaC ?_ ?_ ?_
    rotate_right
    · intro _; rfl
    · refine xeTup ?_ ?_
      · exact Nat.le_of_ble_eq_true rfl
      refine xaC ?_ ?_ ?_
      rotate_right
      · intro _; rfl
      · with_reducible exact xe_str
      exact xa_nil
    refine xaC ?_ ?_ ?_
    rotate_right
    · intro _; rfl
    · refine xeTup ?_ ?_
      · exact Nat.le_of_ble_eq_true rfl
      refine xaC ?_ ?_ ?_
      rotate_right
      · intro _; rfl
      · with_reducible exact xe_str
      refine xaC ?_ ?_ ?_
      rotate_right
      · intro _; rfl
      · exact xe_name (i := 1) rfl
      exact xa_nil
    refine xaC ?_ ?_ ?_
    rotate_right
    · intro _; rfl
    · refine xeTup ?_ ?_
      · exact Nat.le_of_ble_eq_true rfl
      refine xaC ?_ ?_ ?_
      rotate_right
      · intro _; rfl
      · with_reducible exact xe_str
      refine xaC ?_ ?_ ?_
      rotate_right
      · intro _; rfl
      · exact xe_slT (xe_name (i := 1) rfl) (xo_some xe_int) xo_none
      exact xa_nil
    refine xaC ?_ ?_ ?_
    rotate_right
    · intro _; rfl
    · refine xeTup ?_ ?_
      · exact Nat.le_of_ble_eq_true rfl
      refine xaC ?_ ?_ ?_
      rotate_right
      · intro _; rfl
      · with_reducible exact xe_str
      refine xaC ?_ ?_ ?_
      rotate_right
      · intro _; rfl
      · refine xeTup ?_ ?_
        · exact Nat.le_of_ble_eq_true rfl
        exact xa_nil
      exact xa_nil
    refine xaC ?_ ?_ ?_
    rotate_right
    · intro _; rfl
    · refine xeTup ?_ ?_
      · exact Nat.le_of_ble_eq_true rfl
      refine xaC ?_ ?_ ?_
      rotate_right
      · intro _; rfl
      · with_reducible exact xe_str
      refine xaC ?_ ?_ ?_
      rotate_right
      · intro _; rfl
      · exact xe_slT (xe_name (i := 1) rfl) xo_none (xo_some xe_int)
      exact xa_nil
    exact xa_nil
  obtain ⟨d7, hd71, hd72⟩ := pick_in (L := [.tuple (.str sw :: tl), .tuple [.str sw, .tuple [.bool true]]]) (md 7 2 (by decide) (by decide)).1 (md 7 2 (by decide) (by decide)).2
  have rk7 : RkOk d7 := by
    rcases List.mem_cons.mp hd72 with e | h
    · rw [e]; exact hR.any sw hsw
    · rw [List.mem_singleton.mp h]
      exact rk_lr hsw (by decide) fun d hd => by rw [List.mem_singleton.mp hd]; exact .inr ⟨true, rfl⟩
  have rkAll : ∀ d ∈ ([PyData.tuple [.str "bears"], .tuple [.str "left", .tuple (lot.map .int)], .tuple [.str "right", .tuple (cutD (lot.map .int) (some 1) none)], .tuple [.str "left", .tuple []], .tuple [.str "left", .tuple (cutD (lot.map .int) none (some 1))]] ++ [.tuple [.str "right", .tuple (cutD (lot.map .int) (some (-1)) none)], .tuple (.str w :: tl).reverse, .tuple [.str w], .list (.str w :: tl), .none, .tuple [.str "bears", .int 1]]) ++ [d7], RkOk d := fun d hd => by
    rcases List.mem_append.mp hd with hd | hd
    · rcases List.mem_append.mp hd with hd | hd
      · rcases List.mem_cons.mp hd with rfl | hd
        · exact rk0
        rcases List.mem_cons.mp hd with rfl | hd
        · exact rkW (.inl rfl)
        rcases List.mem_cons.mp hd with rfl | hd
        · exact rkL (.inr rfl)
        rcases List.mem_cons.mp hd with rfl | hd
        · exact rk_lr (.inl rfl) (by decide) fun d hd => nomatch hd
        · obtain rfl := List.mem_singleton.mp hd
          exact rkL (.inl rfl)
      · rcases List.mem_cons.mp hd with rfl | hd
        · exact rkL (.inr rfl)
        rcases List.mem_cons.mp hd with rfl | hd
        · exact hR.back
        rcases List.mem_cons.mp hd with rfl | hd
        · exact rk_one hR.hw
        rcases List.mem_cons.mp hd with rfl | hd
        · exact hR.l
        rcases List.mem_cons.mp hd with rfl | hd
        · exact rk_no Sh.non fun s l e => nomatch e
        · obtain rfl := List.mem_singleton.mp hd
          refine rk_no (sh_two (n := 9) (sh_lr (.inr (.inr rfl))) (Sh.int 1)) fun s l e hs => ?_
          injection e with e
          injection e with e _
          injection e with e
          rcases hs with h | h
          · rw [h] at e; revert e; decide
          · rw [h] at e; revert e; decide
    · rw [List.mem_singleton.mp hd]
      exact rk7
  refine xb_cons ?_
  have cat : ∀ {C : Ct} {M : Ml} {δ : Sd} {a b : Expr} {pos : Pos}, XE g C M δ a (tD g.K (.list ([.tuple [.str "bears"], .tuple [.str "left", .tuple (lot.map .int)], .tuple [.str "right", .tuple (cutD (lot.map .int) (some 1) none)], .tuple [.str "left", .tuple []], .tuple [.str "left", .tuple (cutD (lot.map .int) none (some 1))]] : List PyData))) → XE g C M δ b (tD g.K (.list ([.tuple [.str "right", .tuple (cutD (lot.map .int) (some (-1)) none)], .tuple (.str w :: tl).reverse, .tuple [.str w], .list (.str w :: tl), .none, .tuple [.str "bears", .int 1]] : List PyData))) → XEr g C M δ (.BinOp a .Add b pos) (fun _ => False) (fun L T ts => T = tAt L ∧ ts = (([.tuple [.str "bears"], .tuple [.str "left", .tuple (lot.map .int)], .tuple [.str "right", .tuple (cutD (lot.map .int) (some 1) none)], .tuple [.str "left", .tuple []], .tuple [.str "left", .tuple (cutD (lot.map .int) none (some 1))]] ++ [.tuple [.str "right", .tuple (cutD (lot.map .int) (some (-1)) none)], .tuple (.str w :: tl).reverse, .tuple [.str w], .list (.str w :: tl), .none, .tuple [.str "bears", .int 1]] : List PyData)).map (tD g.K)) := fun ha hb => xer_catL (Nat.le_of_ble_eq_true rfl) ha hb
  refine xsSetR (Rn := fun _ => False) (Ro := fun L T ts => T = tAt L ∧ ts = (([.tuple [.str "bears"], .tuple [.str "left", .tuple (lot.map .int)], .tuple [.str "right", .tuple (cutD (lot.map .int) (some 1) none)], .tuple [.str "left", .tuple []], .tuple [.str "left", .tuple (cutD (lot.map .int) none (some 1))]] ++ [.tuple [.str "right", .tuple (cutD (lot.map .int) (some (-1)) none)], .tuple (.str w :: tl).reverse, .tuple [.str w], .list (.str w :: tl), .none, .tuple [.str "bears", .int 1]] : List PyData)).map (tD g.K)) 8 nd ?_ ?_ ?_ ?_ ?_ ?_ ?_
  · rfl
  · intro _; exact .inl rfl
  · intro _; rfl
  · intro _; exact .inl rfl
  · refine cat ?_ ?_
    · exact xe_name (i := 8) rfl
    · refine xeLst ?_ ?_
      · exact Nat.le_of_ble_eq_true rfl
      refine xaC ?_ ?_ ?_
      rotate_right
      · intro _; rfl
      · refine xeTup ?_ ?_
        · exact Nat.le_of_ble_eq_true rfl
        refine xaC ?_ ?_ ?_
        rotate_right
        · intro _; rfl
        · with_reducible exact xe_str
        refine xaC ?_ ?_ ?_
        rotate_right
        · intro _; rfl
        · exact xe_slT (xe_name (i := 1) rfl) (xo_some (xe_neg xe_int)) xo_none
        exact xa_nil
      refine xaC ?_ ?_ ?_
      rotate_right
      · intro _; rfl
      · exact xe_revT (xe_name (i := 6) rfl)
      refine xaC ?_ ?_ ?_
      rotate_right
      · intro _; rfl
      · refine xeTup ?_ ?_
        · exact Nat.le_of_ble_eq_true rfl
        refine xaC ?_ ?_ ?_
        rotate_right
        · intro _; rfl
        · exact xe_ixT (atI_0 _ _) (xe_name (i := 6) rfl) xe_int
        exact xa_nil
      refine xaC ?_ ?_ ?_
      rotate_right
      · intro _; rfl
      · exact xe_lstOfT (T.free 95 rfl) (xe_name (i := 6) rfl)
      refine xaC ?_ ?_ ?_
      rotate_right
      · intro _; rfl
      · with_reducible exact xe_non
      refine xaC ?_ ?_ ?_
      rotate_right
      · intro _; rfl
      · refine xeTup ?_ ?_
        · exact Nat.le_of_ble_eq_true rfl
        refine xaC ?_ ?_ ?_
        rotate_right
        · intro _; rfl
        · with_reducible exact xe_str
        refine xaC ?_ ?_ ?_
        rotate_right
        · intro _; rfl
        · with_reducible exact xe_int
        exact xa_nil
      exact xa_nil
  · intro _ h; exact h.elim
  intro la ts T2 h
  obtain ⟨rfl, rfl⟩ := h
  refine xb_cons (xs_app (i := 8) (O1 := []) (O2 := []) (T := tD g.K d7) (ts := ([.tuple [.str "bears"], .tuple [.str "left", .tuple (lot.map .int)], .tuple [.str "right", .tuple (cutD (lot.map .int) (some 1) none)], .tuple [.str "left", .tuple []], .tuple [.str "left", .tuple (cutD (lot.map .int) none (some 1))]] ++ [.tuple [.str "right", .tuple (cutD (lot.map .int) (some (-1)) none)], .tuple (.str w :: tl).reverse, .tuple [.str w], .list (.str w :: tl), .none, .tuple [.str "bears", .int 1]] : List PyData).map (tD g.K)) rfl rfl ?_ ?_ ?_)
  · have ixh : ∀ {C : Ct} {M : Ml} {δ : Sd} {a b : Expr} {pos : Pos}, _ → _ → PlainIx b → XE g C M δ (.Subscript a b pos) (tD g.K _) := fun ha hb hs => xe_ixL hd71 ha hb hs
    refine ixh ?_ ?_ ?_
    rotate_right
    · intro _ _; rfl
    · refine xeLst ?_ ?_
      · exact Nat.le_of_ble_eq_true rfl
      refine xaC ?_ ?_ ?_
      rotate_right
      · intro _; rfl
      · exact XE.toD (xe_catT (ds := [.str sw]) (ds' := tl) (by have := hR.one; simp only [List.length_singleton]; omega) (xe_tupD (ds := [.str sw]) (xa_cons (xe_name (i := 7) rfl) xa_nil)) (XE.toD (xe_slT (xe_name (i := 6) rfl) (xo_some xe_int) xo_none) (by rw [cut1]; rfl))) rfl
      refine xaC ?_ ?_ ?_
      rotate_right
      · intro _; rfl
      · refine xeTup ?_ ?_
        · exact Nat.le_of_ble_eq_true rfl
        refine xaC ?_ ?_ ?_
        rotate_right
        · intro _; rfl
        · exact xe_name (i := 7) rfl
        refine xaC ?_ ?_ ?_
        rotate_right
        · intro _; rfl
        · refine xeTup ?_ ?_
          · exact Nat.le_of_ble_eq_true rfl
          refine xaC ?_ ?_ ?_
          rotate_right
          · intro _; rfl
          · with_reducible exact xe_bl
          exact xa_nil
        exact xa_nil
      exact xa_nil
    · exact xe_mod (by decide) (xe_int1 (T.free 99 rfl) (xe_ixL (dg 7 (by decide)) (xe_name (i := 2) rfl) xe_int)) xe_int
  · exact Nat.lt_of_lt_of_le (show 11 < 12 by decide) (Nat.le_of_ble_eq_true rfl)
  refine xb_freeze 8 (O1 := []) (O2 := []) (ds := (([.tuple [.str "bears"], .tuple [.str "left", .tuple (lot.map .int)], .tuple [.str "right", .tuple (cutD (lot.map .int) (some 1) none)], .tuple [.str "left", .tuple []], .tuple [.str "left", .tuple (cutD (lot.map .int) none (some 1))]] ++ [.tuple [.str "right", .tuple (cutD (lot.map .int) (some (-1)) none)], .tuple (.str w :: tl).reverse, .tuple [.str w], .list (.str w :: tl), .none, .tuple [.str "bears", .int 1]] : List PyData) ++ [d7])) ?_ rfl ?_
  · rw [List.map_append]; rfl
  obtain ⟨d3, hd31, hd32⟩ := pick_in (L := (([.tuple [.str "bears"], .tuple [.str "left", .tuple (lot.map .int)], .tuple [.str "right", .tuple (cutD (lot.map .int) (some 1) none)], .tuple [.str "left", .tuple []], .tuple [.str "left", .tuple (cutD (lot.map .int) none (some 1))]] ++ [.tuple [.str "right", .tuple (cutD (lot.map .int) (some (-1)) none)], .tuple (.str w :: tl).reverse, .tuple [.str w], .list (.str w :: tl), .none, .tuple [.str "bears", .int 1]] : List PyData) ++ [d7])) (md 3 12 (by decide) (by decide)).1 (by
    have h := (md 3 12 (by decide) (by decide)).2
    simp only [List.length_append, List.length_cons, List.length_nil]
    omega)
  have rk3 := rkAll d3 hd32
  refine xb_cons ?_
  refine xsSet 9 (tD g.K (.list [.tuple [.int l, .int r, d3], .tuple [.int l, .int r], .tuple [.int r, .int l, .tuple (.str w :: tl)]])) nd ?_ ?_ ?_ ?_ ?_ ?_
  · rfl
  · intro _; exact .inl rfl
  · intro _; rfl
  · intro _; exact .inl rfl
  · refine xeLst ?_ ?_
    · exact Nat.le_of_ble_eq_true rfl
    refine xaC ?_ ?_ ?_
    rotate_right
    · intro _; rfl
    · refine xeTup ?_ ?_
      · exact Nat.le_of_ble_eq_true rfl
      refine xaC ?_ ?_ ?_
      rotate_right
      · intro _; rfl
      · exact xe_name (i := 4) rfl
      refine xaC ?_ ?_ ?_
      rotate_right
      · intro _; rfl
      · exact xe_name (i := 5) rfl
      refine xaC ?_ ?_ ?_
      rotate_right
      · intro _; rfl
      · exact xe_ixL hd31 (xe_name (i := 8) rfl) (xe_mod (by decide) (xe_int1 (T.free 99 rfl) (xe_ixL (dg 3 (by decide)) (xe_name (i := 2) rfl) xe_int)) xe_int)
      exact xa_nil
    refine xaC ?_ ?_ ?_
    rotate_right
    · intro _; rfl
    · refine xeTup ?_ ?_
      · exact Nat.le_of_ble_eq_true rfl
      refine xaC ?_ ?_ ?_
      rotate_right
      · intro _; rfl
      · exact xe_name (i := 4) rfl
      refine xaC ?_ ?_ ?_
      rotate_right
      · intro _; rfl
      · exact xe_name (i := 5) rfl
      exact xa_nil
    refine xaC ?_ ?_ ?_
    rotate_right
    · intro _; rfl
    · refine xeTup ?_ ?_
      · exact Nat.le_of_ble_eq_true rfl
      refine xaC ?_ ?_ ?_
      rotate_right
      · intro _; rfl
      · exact xe_name (i := 5) rfl
      refine xaC ?_ ?_ ?_
      rotate_right
      · intro _; rfl
      · exact xe_name (i := 4) rfl
      refine xaC ?_ ?_ ?_
      rotate_right
      · intro _; rfl
      · exact xe_name (i := 6) rfl
      exact xa_nil
    exact xa_nil
  have cat2 : ∀ {C : Ct} {M : Ml} {δ : Sd} {a b : Expr} {pos : Pos}, XE g C M δ a (tD g.K (.list [.tuple [.int l, .int r, d3], .tuple [.int l, .int r], .tuple [.int r, .int l, .tuple (.str w :: tl)]])) → XE g C M δ b (tD g.K (.list [.tuple [.int (l + 1), .int r, .tuple (.str w :: tl)], .none])) → XE g C M δ (.BinOp a .Add b pos) (tD g.K (.list ([.tuple [.int l, .int r, d3], .tuple [.int l, .int r], .tuple [.int r, .int l, .tuple (.str w :: tl)]] ++ [.tuple [.int (l + 1), .int r, .tuple (.str w :: tl)], .none]))) := fun ha hb => xe_catL (Nat.le_of_ble_eq_true rfl) ha hb
  refine xb_cons ?_
  refine xsSet 9 (tD g.K (.list ([.tuple [.int l, .int r, d3], .tuple [.int l, .int r], .tuple [.int r, .int l, .tuple (.str w :: tl)]] ++ [.tuple [.int (l + 1), .int r, .tuple (.str w :: tl)], .none]))) nd ?_ ?_ ?_ ?_ ?_ ?_
  · rfl
  · intro _; exact .inl rfl
  · intro _; rfl
  · intro _; exact .inl rfl
  · refine cat2 ?_ ?_
    · exact xe_name (i := 9) rfl
    · refine xeLst ?_ ?_
      · exact Nat.le_of_ble_eq_true rfl
      refine xaC ?_ ?_ ?_
      rotate_right
      · intro _; rfl
      · refine xeTup ?_ ?_
        · exact Nat.le_of_ble_eq_true rfl
        refine xaC ?_ ?_ ?_
        rotate_right
        · intro _; rfl
        · exact xe_add (xe_name (i := 4) rfl) xe_int
        refine xaC ?_ ?_ ?_
        rotate_right
        · intro _; rfl
        · exact xe_name (i := 5) rfl
        refine xaC ?_ ?_ ?_
        rotate_right
        · intro _; rfl
        · exact xe_name (i := 6) rfl
        exact xa_nil
      refine xaC ?_ ?_ ?_
      rotate_right
      · intro _; rfl
      · with_reducible exact xe_non
      exact xa_nil
  have odd : ∀ d ∈ ([.tuple [.int l, .int r, d3], .tuple [.int l, .int r], .tuple [.int r, .int l, .tuple (.str w :: tl)]] ++ [.tuple [.int (l + 1), .int r, .tuple (.str w :: tl)], .none] : List PyData), EnK d := fun d hd => by
    rcases List.mem_cons.mp hd with rfl | hd
    · exact .three l r d3 rk3
    rcases List.mem_cons.mp hd with rfl | hd
    · exact .two l r
    rcases List.mem_cons.mp hd with rfl | hd
    · exact .three r l _ hR.me
    rcases List.mem_cons.mp hd with rfl | hd
    · exact .three (l + 1) r _ hR.me
    · rw [List.mem_singleton.mp hd]
      exact .non
  have cutE : ∀ {lo hi : Option Int}, ∀ e ∈ cutD (us.map rsE) lo hi, EnK e := fun e he => esk.e e (cut_mem he)
  have cutZ : ∀ {lo hi : Option Int}, (cutD (us.map rsE) lo hi).length ≤ 90 := Nat.le_trans cut_le esl
  have nxt : ∀ {C : Ct} {M : Ml} {δ : Sd} {e : Expr} {d : PyData}, ThK d → XE g C M δ e (tD g.K d) → XE g C M δ e (tThK g) := fun {C M δ e d} hd h => XE.sub (T := tThK g) h fun B v t => ⟨d, hd, t⟩
  refine xb_cons (xs_if (xt_eqI (xe_mod (by decide) (xe_int1 (T.free 99 rfl) (xe_ixL (dg 4 (by decide)) (xe_name (i := 2) rfl) xe_int)) xe_int) xe_int) (fun _ => ?_) (fun _ => ?_))
  · refine xb_one (xs_ret (T := tThK g) (nxt ?_ (xe_catL (by have := cutZ (lo := none) (hi := some at_); have := cutZ (lo := some (at_ + 1)) (hi := none); omega) (xe_slL (xe_name (i := 0) rfl) xo_none (xo_some (xe_name (i := 3) rfl))) (xe_slL (xe_name (i := 0) rfl) (xo_some (xe_add (xe_name (i := 3) rfl) xe_int)) xo_none))) rfl)
    refine .lst _ ⟨fun e he => ?_, ?_⟩
    · rcases List.mem_append.mp he with he | he
      · exact cutE e he
      · exact cutE e he
    · rw [List.length_append]
      have := cutZ (lo := none) (hi := some at_)
      have := cutZ (lo := some (at_ + 1)) (hi := none)
      omega
  refine xb_nil ?_
  refine xb_cons (xs_if (xt_eqI (xe_mod (by decide) (xe_int1 (T.free 99 rfl) (xe_ixL (dg 4 (by decide)) (xe_name (i := 2) rfl) xe_int)) xe_int) xe_int) (fun _ => ?_) (fun _ => ?_))
  · have z1 := cutZ (lo := none) (hi := some at_)
    have z2 := cutZ (lo := some at_) (hi := some (at_ + 1))
    have z3 := cutZ (lo := some at_) (hi := none)
    have z4 := cutZ (lo := some 1) (hi := none)
    have z5 := cutZ (lo := none) (hi := some 1)
    refine xb_cons (xs_set 10 (xe_catL (by rw [List.length_append]; omega) (xe_catL (by omega) (xe_slL (xe_name (i := 0) rfl) xo_none (xo_some (xe_name (i := 3) rfl))) (xe_slL (xe_name (i := 0) rfl) (xo_some (xe_name (i := 3) rfl)) (xo_some (xe_add (xe_name (i := 3) rfl) xe_int)))) (xe_slL (xe_name (i := 0) rfl) (xo_some (xe_name (i := 3) rfl)) xo_none)) ?_ nd)
    have tE : EsK (us.map rsE).reverse := ⟨fun e he => esk.e e (List.mem_reverse.mp he), by rw [List.length_reverse]; exact esk.len⟩
    have tF : EsK (cutD (us.map rsE) (some 1) none ++ cutD (us.map rsE) none (some 1)) := ⟨fun e he => (List.mem_append.mp he).elim (cutE e) (cutE e), by rw [List.length_append]; omega⟩
    have u1 : (cutD (us.map rsE) none (some at_)).length ≤ at_.toNat := by
      unfold cutD
      rw [List.length_take]
      have : HT.sIx (us.map rsE).length (us.map rsE).length (some at_) ≤ at_.toNat := by
        unfold HT.sIx
        simp only
        split <;> omega
      omega
    have u3 : (cutD (us.map rsE) (some at_) none).length + at_.toNat ≤ (us.map rsE).length := by
      unfold cutD
      rw [List.length_take, List.length_drop]
      have : at_.toNat ≤ HT.sIx (us.map rsE).length 0 (some at_) := by
        unfold HT.sIx
        simp only
        split <;> omega
      omega
    have tG : EsK ((cutD (us.map rsE) none (some at_) ++ cutD (us.map rsE) (some at_) (some (at_ + 1))) ++ cutD (us.map rsE) (some at_) none) := ⟨fun e he => (List.mem_append.mp he).elim (fun h => (List.mem_append.mp h).elim (cutE e) (cutE e)) (cutE e), by rw [List.length_append, List.length_append]; omega⟩
    obtain ⟨d6, hd61, hd62⟩ := pick_in (L := [.list (us.map rsE).reverse, .list (cutD (us.map rsE) (some 1) none ++ cutD (us.map rsE) none (some 1)), .list ((cutD (us.map rsE) none (some at_) ++ cutD (us.map rsE) (some at_) (some (at_ + 1))) ++ cutD (us.map rsE) (some at_) none)]) (md 6 3 (by decide) (by decide)).1 (md 6 3 (by decide) (by decide)).2
    have t6 : ThK d6 := by
      rcases List.mem_cons.mp hd62 with rfl | h
      · exact .lst _ tE
      rcases List.mem_cons.mp h with rfl | h
      · exact .lst _ tF
      · rw [List.mem_singleton.mp h]
        exact .lst _ tG
    exact xb_one (xs_ret (T := tThK g) (nxt t6 (xe_ixL hd61 (xe_lstD (xa_cons (xe_revL (xe_name (i := 0) rfl)) (xa_cons (xe_catL (by omega) (xe_slL (xe_name (i := 0) rfl) (xo_some xe_int) xo_none) (xe_slL (xe_name (i := 0) rfl) xo_none (xo_some xe_int))) (xa_cons (xe_name (i := 10) rfl) xa_nil)))) (xe_mod (by decide) (xe_int1 (T.free 99 rfl) (xe_ixL (dg 6 (by decide)) (xe_name (i := 2) rfl) xe_int)) xe_int))) rfl)
  refine xb_nil ?_
  obtain ⟨jd, hj1, hj2⟩ := pick_in (L := [.int 0, .int 0, .int 0, .int 1, .int 2, .int 3, .int 4]) (md 5 7 (by decide) (by decide)).1 (md 5 7 (by decide) (by decide)).2
  obtain ⟨jj, rfl, j0, j1⟩ : ∃ j : Int, jd = .int j ∧ 0 ≤ j ∧ j < 5 := by
    simp only [List.mem_cons, List.mem_nil_iff, or_false] at hj2
    rcases hj2 with rfl | rfl | rfl | rfl | rfl | rfl | rfl
    · exact ⟨0, rfl, by decide, by decide⟩
    · exact ⟨0, rfl, by decide, by decide⟩
    · exact ⟨0, rfl, by decide, by decide⟩
    · exact ⟨1, rfl, by decide, by decide⟩
    · exact ⟨2, rfl, by decide, by decide⟩
    · exact ⟨3, rfl, by decide, by decide⟩
    · exact ⟨4, rfl, by decide, by decide⟩
  obtain ⟨od, ho1, ho2⟩ := pick_in (L := ([.tuple [.int l, .int r, d3], .tuple [.int l, .int r], .tuple [.int r, .int l, .tuple (.str w :: tl)]] ++ [.tuple [.int (l + 1), .int r, .tuple (.str w :: tl)], .none] : List PyData)) j0 (by
    simp only [List.length_append, List.length_cons, List.length_nil]
    omega)
  have z1 := cutZ (lo := none) (hi := some at_)
  have z2 := cutZ (lo := some (at_ + 1)) (hi := none)
  refine xb_one (xs_ret (T := tThK g) (nxt ?_ (xe_catL (by rw [List.length_append, List.length_singleton]; omega) (xe_catL (by rw [List.length_singleton]; omega) (xe_slL (xe_name (i := 0) rfl) xo_none (xo_some (xe_name (i := 3) rfl))) (xe_lstD (ds := [od]) (xa_cons ?_ xa_nil))) (xe_slL (xe_name (i := 0) rfl) (xo_some (xe_add (xe_name (i := 3) rfl) xe_int)) xo_none))) rfl)
  · refine .lst _ ⟨fun e he => ?_, by rw [List.length_append, List.length_append, List.length_singleton]; omega⟩
    rcases List.mem_append.mp he with he | he
    · rcases List.mem_append.mp he with he | he
      · exact cutE e he
      · rw [List.mem_singleton.mp he]; exact odd od ho2
    · exact cutE e he
  · have ixo : ∀ {C : Ct} {M : Ml} {δ : Sd} {a b : Expr} {pos : Pos}, XE g C M δ a (tD g.K (.list ([.tuple [.int l, .int r, d3], .tuple [.int l, .int r], .tuple [.int r, .int l, .tuple (.str w :: tl)]] ++ [.tuple [.int (l + 1), .int r, .tuple (.str w :: tl)], .none] : List PyData))) → XE g C M δ b (tD g.K (.int jj)) → PlainIx b → XE g C M δ (.Subscript a b pos) (tD g.K od) := fun ha hb hs => xe_ixL ho1 ha hb hs
    refine ixo ?_ ?_ ?_
    · exact xe_name (i := 9) rfl
    · have ixh : ∀ {C : Ct} {M : Ml} {δ : Sd} {a b : Expr} {pos : Pos}, _ → _ → PlainIx b → XE g C M δ (.Subscript a b pos) (tD g.K _) := fun ha hb hs => xe_ixL hj1 ha hb hs
      refine ixh ?_ ?_ ?_
      rotate_right
      · intro _ _; rfl
      · refine xeLst ?_ ?_
        · exact Nat.le_of_ble_eq_true rfl
        refine xaC ?_ ?_ ?_
        rotate_right
        · intro _; rfl
        · with_reducible exact xe_int
        refine xaC ?_ ?_ ?_
        rotate_right
        · intro _; rfl
        · with_reducible exact xe_int
        refine xaC ?_ ?_ ?_
        rotate_right
        · intro _; rfl
        · with_reducible exact xe_int
        refine xaC ?_ ?_ ?_
        rotate_right
        · intro _; rfl
        · with_reducible exact xe_int
        refine xaC ?_ ?_ ?_
        rotate_right
        · intro _; rfl
        · with_reducible exact xe_int
        refine xaC ?_ ?_ ?_
        rotate_right
        · intro _; rfl
        · with_reducible exact xe_int
        refine xaC ?_ ?_ ?_
        rotate_right
        · intro _; rfl
        · with_reducible exact xe_int
        exact xa_nil
      · exact xe_mod (by decide) (xe_int1 (T.free 99 rfl) (xe_ixL (dg 5 (by decide)) (xe_name (i := 2) rfl) xe_int)) xe_int
    · intro _ _; rfl
end Pf
end
section
set_option Elab.async false
set_option linter.all false
set_option maxRecDepth 100000
set_option maxHeartbeats 2000000
set_option exponentiation.threshold 5000
set_option pp.maxSteps 1200
namespace Pf
open PySem PySem.Spec PyProof.Rows L2 RZ
/-! ### the world that the law makes of digits -/
structure DgW (ds : List Int) : Prop where
  len : 80 ≤ ds.length
  nn : ∀ d ∈ ds, 0 ≤ d
def dgt (ds : List Int) (n : Nat) : Int := ds.getD n 0
def pickI (l : List Int) (i : Int) : Int := l.getD i.toNat 1
def manyM (ds : List Int) : Int := 1 + dgt ds 0 % 7
def gapG (ds : List Int) : Int := pickI [1, 3, 9, 40] (dgt ds 14 % 4)
def gapM (ds : List Int) (k : Nat) : Int := 1 + dgt ds (1 + k) % gapG ds
def gapsM (ds : List Int) : List Int := (List.range (manyM ds + 1).toNat).map (gapM ds)
def plcM (ds : List Int) (k : Nat) : Int := ((gapsM ds).take (k + 1)).sum
def plcsM (ds : List Int) : List Int := (List.range (manyM ds).toNat).map (plcM ds)
def lngM (ds : List Int) : Int := (gapsM ds).sum
def botM (ds : List Int) (k : Nat) : Int := 1 + dgt ds (16 + k) % 4
def spt0 (ds : List Int) (k : Nat) : Int × Int := (plcM ds (dgt ds (24 + k) % manyM ds).toNat, 1)
def sptM (ds : List Int) (k : Nat) : Int × Int := if dgt ds (32 + k) % 2 = 0 then cutM (dgt ds (24 + k) % (lngM ds * botM ds k + 1)) (botM ds k) else spt0 ds k
def undU (ds : List Int) : Int := pickI [1, 1, 3] (dgt ds 56 % 3)
def undM (ds : List Int) (k : Nat) : Int := 1 + dgt ds (48 + k) % undU ds
def wtM (ds : List Int) (k : Nat) : (Int × Int) × (Int × Int) := (sptM ds k, cutM (1 + dgt ds (40 + k) % 12) (undM ds k))
def topT (ds : List Int) : Int := pickI [4, 10, 24, 3] (dgt ds 57 % 4)
def strB (ds : List Int) : Int := pickI [1, 2, 1] (dgt ds 58 % 3)
def prM (ds : List Int) (k : Nat) : Int × (Int × Int) := (plcM ds k, cutM (dgt ds (60 + k) % topT ds) (1 + dgt ds (72 + k) % strB ds))
def wtsN (ds : List Int) : Nat := (dgt ds 15 % 7).toNat
def worldM (ds : List Int) : Wd := ⟨lngM ds, (List.range (manyM ds).toNat).map (prM ds), (List.range (wtsN ds)).map (wtM ds)⟩
section
variable {ds : List Int}
theorem pick_mem {l : List Int} {i n : Int} (hn : n = l.length) (h0 : 0 ≤ i) (h1 : i < n) : pickI l i ∈ l := by
  have h : i.toNat < l.length := by omega
  unfold pickI
  rw [getD_at h]
  exact List.getElem_mem h
theorem md_in (x : Int) {k : Int} (hk : 0 < k) : 0 ≤ x % k ∧ x % k < k := ⟨Int.emod_nonneg _ (by omega), Int.emod_lt_of_pos _ hk⟩
theorem many_in (ds : List Int) : 1 ≤ manyM ds ∧ manyM ds ≤ 7 := by
  have := md_in (dgt ds 0) (k := 7) (by decide)
  unfold manyM
  omega
theorem gapG_in (ds : List Int) : 1 ≤ gapG ds ∧ gapG ds ≤ 40 := by
  have h := md_in (dgt ds 14) (k := 4) (by decide)
  have := pick_mem (l := [1, 3, 9, 40]) (n := 4) rfl h.1 h.2
  unfold gapG
  simp only [List.mem_cons, List.mem_nil_iff, or_false] at this
  omega
theorem undU_in (ds : List Int) : 1 ≤ undU ds ∧ undU ds ≤ 3 := by
  have h := md_in (dgt ds 56) (k := 3) (by decide)
  have := pick_mem (l := [1, 1, 3]) (n := 3) rfl h.1 h.2
  unfold undU
  simp only [List.mem_cons, List.mem_nil_iff, or_false] at this
  omega
theorem topT_in (ds : List Int) : 1 ≤ topT ds ∧ topT ds ≤ 24 := by
  have h := md_in (dgt ds 57) (k := 4) (by decide)
  have := pick_mem (l := [4, 10, 24, 3]) (n := 4) rfl h.1 h.2
  unfold topT
  simp only [List.mem_cons, List.mem_nil_iff, or_false] at this
  omega
theorem strB_in (ds : List Int) : 1 ≤ strB ds ∧ strB ds ≤ 2 := by
  have h := md_in (dgt ds 58) (k := 3) (by decide)
  have := pick_mem (l := [1, 2, 1]) (n := 3) rfl h.1 h.2
  unfold strB
  simp only [List.mem_cons, List.mem_nil_iff, or_false] at this
  omega
theorem gap_in (ds : List Int) (k : Nat) : 1 ≤ gapM ds k ∧ gapM ds k ≤ 40 := by
  have h := gapG_in ds
  have := md_in (dgt ds (1 + k)) (k := gapG ds) (by omega)
  unfold gapM
  omega
theorem bot_in (ds : List Int) (k : Nat) : 1 ≤ botM ds k ∧ botM ds k ≤ 4 := by
  have := md_in (dgt ds (16 + k)) (k := 4) (by decide)
  unfold botM
  omega
theorem und_in (ds : List Int) (k : Nat) : 1 ≤ undM ds k ∧ undM ds k ≤ 3 := by
  have h := undU_in ds
  have := md_in (dgt ds (48 + k)) (k := undU ds) (by omega)
  unfold undM
  omega
theorem gsum_in : ∀ {l : List Int}, (∀ x ∈ l, 1 ≤ x ∧ x ≤ 40) → (l.length : Int) ≤ l.sum ∧ l.sum ≤ 40 * l.length
  | [], _ => ⟨Int.le_refl _, Int.le_refl _⟩
  | a :: l, h => by
    obtain ⟨h1, h2⟩ := gsum_in (l := l) fun x hx => h x (List.mem_cons_of_mem _ hx)
    have := h a List.mem_cons_self
    rw [List.sum_cons, List.length_cons]
    omega
theorem gaps_all (ds : List Int) : ∀ x ∈ gapsM ds, 1 ≤ x ∧ x ≤ 40 := fun x hx => by
  obtain ⟨k, _, rfl⟩ := List.mem_map.mp hx
  exact gap_in ds k
theorem gaps_len (ds : List Int) : (gapsM ds).length = (manyM ds).toNat + 1 := by
  have := many_in ds
  unfold gapsM
  rw [List.length_map, List.length_range]
  omega
theorem lng_in (ds : List Int) : 2 ≤ lngM ds ∧ lngM ds ≤ 320 := by
  have h := gsum_in (gaps_all ds)
  have := many_in ds
  rw [gaps_len] at h
  unfold lngM
  omega
theorem plc_in (ds : List Int) {k : Nat} (hk : k < (manyM ds).toNat) : 1 ≤ plcM ds k ∧ plcM ds k < lngM ds := by
  have hl := gaps_len ds
  have h1 := gsum_in (l := (gapsM ds).take (k + 1)) fun x hx => gaps_all ds x (List.mem_of_mem_take hx)
  have h2 := gsum_in (l := (gapsM ds).drop (k + 1)) fun x hx => gaps_all ds x (List.mem_of_mem_drop hx)
  have e : ((gapsM ds).take (k + 1)).sum + ((gapsM ds).drop (k + 1)).sum = (gapsM ds).sum := by rw [← List.sum_append, List.take_append_drop]
  rw [List.length_take] at h1
  rw [List.length_drop] at h2
  unfold plcM lngM
  omega
theorem plc_lt (ds : List Int) {j k : Nat} (h : j < k) (hk : k < (manyM ds).toNat) : plcM ds j < plcM ds k := by
  have hl := gaps_len ds
  have e : (gapsM ds).take (k + 1) = (gapsM ds).take (j + 1) ++ ((gapsM ds).drop (j + 1)).take (k - j) := by
    have := List.take_add (l := gapsM ds) (i := j + 1) (j := k - j)
    rw [← this]
    congr 1
    omega
  have h2 := gsum_in (l := ((gapsM ds).drop (j + 1)).take (k - j)) fun x hx => gaps_all ds x (List.mem_of_mem_drop (List.mem_of_mem_take hx))
  rw [List.length_take, List.length_drop] at h2
  unfold plcM
  rw [e, List.sum_append]
  omega
theorem cut_ok {t b : Int} {n : Nat} (hb : 0 < b) (h0 : 0 ≤ t) (h1 : t.natAbs < 2 ^ n) (h2 : b.natAbs < 2 ^ n) : FrOk n (cutM t b) ∧ 0 ≤ (cutM t b).1 := by
  have hg := gcd_pos_r (t := t) hb
  refine ⟨⟨cut_fb hb h1 h2, ?_⟩, Int.ediv_nonneg h0 (Int.le_of_lt hg)⟩
  show Int.gcd (t / (Int.gcd t b : Int)) (b / (Int.gcd t b : Int)) = 1
  have hp : 0 < Int.gcd t b := by omega
  exact Int.gcd_ediv_gcd_ediv_gcd hp
theorem cut_under {t b l : Int} (hb : 0 < b) (h : t ≤ l * b) : (cutM t b).1 ≤ l * (cutM t b).2 := by
  have hs : (cutM t b).1 * b = t * (cutM t b).2 := cut_sm hb
  have hp : 0 < (cutM t b).2 := cut_pos hb
  have h2 : (cutM t b).1 * b ≤ (l * (cutM t b).2) * b := by
    rw [hs]
    have : t * (cutM t b).2 ≤ (l * b) * (cutM t b).2 := Int.mul_le_mul_of_nonneg_right h (Int.le_of_lt hp)
    have e : (l * b) * (cutM t b).2 = (l * (cutM t b).2) * b := by grind
    omega
  exact Int.le_of_mul_le_mul_right h2 hb
theorem cut_over {t b : Int} (hb : 0 < b) (h : 0 < t) : 0 < (cutM t b).1 := by
  have hs : (cutM t b).1 * b = t * (cutM t b).2 := cut_sm hb
  have hp : 0 < (cutM t b).2 := cut_pos hb
  have h2 : 0 < (cutM t b).1 * b := by rw [hs]; exact Int.mul_pos h hp
  exact Int.pos_of_mul_pos_left h2 hb
theorem world_ok (ds : List Int) : WOk (worldM ds) ∧ 1 ≤ (worldM ds).props.length ∧ (worldM ds).props.length ≤ 7 := by
  have hm := many_in ds
  have hl := lng_in ds
  have hpl : (worldM ds).props.length = (manyM ds).toNat := by
    unfold worldM
    rw [List.length_map, List.length_range]
  refine ⟨⟨hl.1, by show lngM ds ≤ 1000; omega, by omega, ?_, ?_, ?_, ?_, ?_, ?_⟩, by omega, by omega⟩
  · refine pw_ascB ?_
    unfold worldM
    rw [List.map_map]
    refine List.pairwise_map.mpr ?_
    rw [List.pairwise_iff_getElem]
    intro i j hi hj hij
    rw [List.getElem_range, List.getElem_range]
    rw [List.length_range] at hj
    exact plc_lt ds hij hj
  · intro p hp
    obtain ⟨k, hk, rfl⟩ := List.mem_map.mp hp
    have := plc_in ds (List.mem_range.mp hk)
    show 0 < plcM ds k ∧ plcM ds k < lngM ds
    omega
  · intro p hp
    obtain ⟨k, hk, rfl⟩ := List.mem_map.mp hp
    have h1 := topT_in ds
    have h2 := strB_in ds
    have h3 := md_in (dgt ds (60 + k)) (k := topT ds) (by omega)
    have h4 := md_in (dgt ds (72 + k)) (k := strB ds) (by omega)
    exact cut_ok (by omega) h3.1 (by have : (2 : Nat) ^ 6 = 64 := rfl; omega) (by have : (2 : Nat) ^ 6 = 64 := rfl; omega)
  · unfold worldM wtsN
    rw [List.length_map, List.length_range]
    have := md_in (dgt ds 15) (k := 7) (by decide)
    omega
  · intro w hw
    obtain ⟨k, hk, rfl⟩ := List.mem_map.mp hw
    show FrOk 12 (sptM ds k) ∧ 0 ≤ (sptM ds k).1 ∧ (sptM ds k).1 ≤ lngM ds * (sptM ds k).2
    have hb := bot_in ds k
    unfold sptM
    split
    · have hmul : lngM ds * botM ds k ≤ 320 * 4 := Int.mul_le_mul hl.2 hb.2 (by omega) (by omega)
      have hmul0 : 0 < lngM ds * botM ds k := Int.mul_pos (by omega) (by omega)
      have h3 := md_in (dgt ds (24 + k)) (k := lngM ds * botM ds k + 1) (by omega)
      have p12 : (2 : Nat) ^ 12 = 4096 := rfl
      obtain ⟨c1, c2⟩ := cut_ok (n := 12) (t := dgt ds (24 + k) % (lngM ds * botM ds k + 1)) (b := botM ds k) (by omega) h3.1 (by omega) (by omega)
      exact ⟨c1, c2, cut_under (by omega) (by omega)⟩
    · have h3 := md_in (dgt ds (24 + k)) (k := manyM ds) (by omega)
      have hp := plc_in ds (k := (dgt ds (24 + k) % manyM ds).toNat) (by omega)
      have p12 : (2 : Nat) ^ 12 = 4096 := rfl
      unfold spt0
      refine ⟨⟨⟨by show (0 : Int) < 1; decide, ?_, by show (1 : Int).natAbs < 2 ^ 12; decide⟩, ?_⟩, ?_, ?_⟩
      · show (plcM ds _).natAbs < 2 ^ 12
        omega
      · show Int.gcd (plcM ds _) 1 = 1
        exact Int.gcd_one_right _
      · show 0 ≤ plcM ds _
        omega
      · show plcM ds _ ≤ lngM ds * 1
        omega
  · intro w hw
    obtain ⟨k, hk, rfl⟩ := List.mem_map.mp hw
    have hu := und_in ds k
    have h3 := md_in (dgt ds (40 + k)) (k := 12) (by decide)
    have p5 : (2 : Nat) ^ 5 = 32 := rfl
    exact ⟨(cut_ok (by omega) (by omega) (by omega) (by omega)).1, cut_over (by omega) (by omega)⟩
end
end Pf
end
section
set_option Elab.async false
set_option linter.all false
set_option maxRecDepth 100000
set_option maxHeartbeats 2000000
set_option exponentiation.threshold 5000
set_option pp.maxSteps 1200
namespace Pf
open PySem PySem.Spec PyProof.Rows L2 RZ
theorem pickI_at {l : List Int} {i n : Int} (hn : n = l.length) (h0 : 0 ≤ i) (h1 : i < n) : atI (l.map PyData.int) i = some (.int (pickI l i)) := by
  have h : i.toNat < l.length := by omega
  have e := rs_at (rs := l) (j := i) (m := i.toNat) (by omega) h
  rw [e]
  unfold pickI
  rw [getD_at h, getD_at h]
abbrev IxP (g : Pg) (l : List Int) (x v : Int) : Prop := ∀ {C : Ct} {M : Ml} {δ : Sd} {a b : Expr} {pos : Pos}, XE g C M δ a (tD g.K (.list (l.map .int))) → XE g C M δ b (tD g.K (.int x)) → PlainIx b → XE g C M δ (.Subscript a b pos) (tD g.K (.int v))
theorem ixP {g : Pg} {l : List Int} {n x : Int} (hn : n = l.length) (hp : 0 < n) : IxP g l (x % n) (pickI l (x % n)) := fun {C M δ a b pos} ha hb hs => xe_ixL (pickI_at hn (md_in x hp).1 (md_in x hp).2) ha hb hs
theorem cut_to (L : List Int) (n : Nat) : PyData.list (cutD (L.map .int) none (some ((n : Int) + 1))) = .list ((L.take (n + 1)).map .int) := by
  unfold cutD
  have e1 : HT.sIx (L.map PyData.int).length 0 none = 0 := rfl
  rw [e1, List.drop_zero, Nat.sub_zero, List.map_take]
  congr 1
  have e2 : HT.sIx (L.map PyData.int).length (L.map PyData.int).length (some ((n : Int) + 1)) = min (n + 1) (L.map PyData.int).length := by
    unfold HT.sIx
    simp only
    split <;> omega
  rw [e2]
  rcases Nat.le_total (n + 1) (L.map PyData.int).length with h | h
  · rw [Nat.min_eq_left h]
  · rw [Nat.min_eq_right h, List.take_length, List.take_of_length_le h]
abbrev FnT__law_world (g : Pg) : Prop := Fn g "_law_world" ["_law_digits_here", "_law_most"] 2 (spM (α := {ds : List Int // DgW ds}) (fun _ => []) (fun z => [tD g.K (.list (z.1.map .int)), tD g.K (.int 7)]) (fun z => tWld g (worldM z.1)))
theorem sc__law_world : FnScope ["_law_digits_here", "_law_most", "_law_many", "_law_gaps", "_law_places", "_law_length", "_law_weights", "_law_k", "_law_bottom", "_law_spot", "_law_under", "_law_props", "_law_top"] ["_law_digits_here", "_law_most"] (defScope sLawWorld) := ⟨rfl, rfl, rfl, by decide +kernel, rfl, by decide +kernel, by decide +kernel⟩
abbrev lwD (g : Pg) (ds : List Int) (a b c d e f h i j k l : Option Ty) : Sd := [some (tD g.K (.list (ds.map .int))), some (tD g.K (.int 7)), a, b, c, d, e, f, h, i, j, k, l]
abbrev lwI (g : Pg) (ds : List Int) (e f h i j k l : Option Ty) : Sd := lwD g ds (some (tD g.K (.int (manyM ds)))) (some (tD g.K (.list ((gapsM ds).map .int)))) (some (tD g.K (.list ((plcsM ds).map .int)))) (some (tD g.K (.int (lngM ds)))) e f h i j k l
theorem fn__law_world {g : Pg} (T : Tx g) (F__law_cut : FnT__law_cut g) : FnT__law_world g := by
  refine T.fn 54 41 (k := 1) (d := dLawWorld) rfl rfl rfl rfl rfl sc__law_world (fun _ => rfl) (fun _ _ _ _ _ _ us hl => match us, hl with | [_, _], _ => rfl) fun cdv Ar outer s H z hr => ?_
  have nd := sc__law_world.nd
  obtain ⟨ds, hds, hnn⟩ := z
  have dgx : ∀ {j : Int} {m : Nat}, j = (m : Int) → m < 80 → atI (ds.map PyData.int) j = some (.int (dgt ds m)) := fun {j m} h hm => rs_at (m := m) h (by omega)
  have hm := many_in ds
  have hll := lng_in ds
  have hgl := gaps_len ds
  have hpl : (plcsM ds).length = (manyM ds).toNat := by unfold plcsM; rw [List.length_map, List.length_range]
  have ixG : IxP g [1, 3, 9, 40] (dgt ds 14 % 4) (gapG ds) := ixP rfl (by decide)
  have ixU : IxP g [1, 1, 3] (dgt ds 56 % 3) (undU ds) := ixP rfl (by decide)
  have ixT : IxP g [4, 10, 24, 3] (dgt ds 57 % 4) (topT ds) := ixP rfl (by decide)
  have ixB : IxP g [1, 2, 1] (dgt ds 58 % 3) (strB ds) := ixP rfl (by decide)
  have hG := gapG_in ds
  have hU := undU_in ds
  have hT := topT_in ds
  have hB := strB_in ds
  show XB g _ ⟨lwD g ds none none none none none none none none none none none, [], []⟩ _ { nx := fun _ => tD g.K .none = tWld g (worldM ds), rt := fun T => T = tWld g (worldM ds) }
  refine xb_cons (xs_set 2 (T := tD g.K (.int (manyM ds))) (xe_add xe_int (xe_mod (by decide) (xe_int1 (T.free 99 rfl) (xe_ixL (dgx (m := 0) (by omega) (by omega)) (xe_name (i := 0) rfl) xe_int)) (xe_name (i := 1) rfl))) ?_ nd)
  refine xb_cons (xs_set 3 (T := tD g.K (.list ((gapsM ds).map .int))) (xe_lc [("_law_k", 7)] nd (fun j => pi_range1 rfl (T.free 97 rfl) (pa_cons (pe_w j) pa_nil)) (fun _ => blkOk_by (sc := defScope sLawWorld) (by show blkC ["_law_digits_here", "_law_most", "_law_many", "_law_gaps", "_law_places", "_law_length", "_law_weights", "_law_k", "_law_bottom", "_law_spot", "_law_under", "_law_props", "_law_top"] _ _ _ = true; decide +kernel)) (fun jj => pg_nm 7 jj nd) (fun jj => pts_nil) (XR.toD (xr_lcR (n := manyM ds + 1) (h := fun k => .int (gapM ds k)) (f := fun _ => true) (δc := fun (k : Nat) => lwD g ds (some (tD g.K (.int (manyM ds)))) none none none none (some (tD g.K (.int (k : Int)))) none none none none none) (by omega) (xe_add (xe_name (i := 2) rfl) xe_int) (fun b hb => xg_name 7) (by decide) (fun b hb => tr_yes) (fun b hb hf => ?_)) ?_)) ?_ nd)
  · refine xe_add xe_int (xe_mod (j := gapG ds) (by omega) (xe_int1 (T.free 99 rfl) (xe_ixL (dgx (m := 1 + b) (by omega) (by omega)) (xe_name (i := 0) rfl) (xe_add xe_int (xe_name (i := 7) rfl)))) ?_)
    refine ixG ?_ ?_ ?_
    · refine xeLst ?_ ?_
      · exact Nat.le_of_ble_eq_true rfl
      refine xaC ?_ ?_ ?_
      rotate_right
      · intro _; rfl
      · with_reducible exact xe_int
      refine xaC ?_ ?_ ?_
      rotate_right
      · intro _; rfl
      · with_reducible exact xe_int
      refine xaC ?_ ?_ ?_
      rotate_right
      · intro _; rfl
      · with_reducible exact xe_int
      refine xaC ?_ ?_ ?_
      rotate_right
      · intro _; rfl
      · with_reducible exact xe_int
      exact xa_nil
    · exact xe_mod (by decide) (xe_int1 (T.free 99 rfl) (xe_ixL (dgx (m := 14) (by omega) (by omega)) (xe_name (i := 0) rfl) xe_int)) xe_int
    · intro _ _; rfl
  · rw [ftrue]
    unfold gapsM
    rw [List.map_map]
    rfl
  refine xb_cons (xs_setLc 4 (T := tD g.K (.list ((plcsM ds).map .int))) [("_law_k", 7)] nd (fun j => pi_range1 rfl (T.free 97 rfl) (pa_cons (pe_w j) pa_nil)) (fun _ => blkOk_by (sc := defScope sLawWorld) (by show blkC ["_law_digits_here", "_law_most", "_law_many", "_law_gaps", "_law_places", "_law_length", "_law_weights", "_law_k", "_law_bottom", "_law_spot", "_law_under", "_law_props", "_law_top"] _ _ _ = true; decide +kernel)) (fun jj => pg_nm 7 jj nd) (fun jj => pts_nil) (XR.toD (xr_lcR (n := manyM ds) (h := fun k => .int (plcM ds k)) (f := fun _ => true) (δc := fun (k : Nat) => lwD g ds (some (tD g.K (.int (manyM ds)))) (some (tD g.K (.list ((gapsM ds).map .int)))) none none none (some (tD g.K (.int (k : Int)))) none none none none none) (by omega) (xe_name (i := 2) rfl) (fun b hb => xg_name 7) (by decide) (fun b hb => tr_yes) (fun b hb hf => xe_sum (ns := (gapsM ds).take (b + 1)) (T.free 100 rfl) (XE.toD (xe_slL (xe_name (i := 3) rfl) xo_none (xo_some (xe_add (xe_name (i := 7) rfl) xe_int))) (cut_to _ _)))) ?_) ?_ (fun j => sw_true rfl rfl rfl (by decide +kernel)))
  · rw [ftrue]
    unfold plcsM
    rw [List.map_map]
    rfl
  refine xb_cons (xs_set 5 (T := tD g.K (.int (lngM ds))) (xe_sum (T.free 100 rfl) (xe_name (i := 3) rfl)) ?_ nd)
  refine xb_cons (xs_nil 6 (fun la => ?_) nd)
  have h15 := md_in (dgt ds 15) (k := 7) (by decide)
  have w6 : wtsN ds ≤ 6 := by unfold wtsN; omega
  refine xb_to ⟨lwI g ds (some (tAt la)) none none none none none none, [(la, .lst ((((List.range (wtsN ds)).map (wtM ds)).map wtD).map (tD g.K)))], []⟩ (xs_forR 7 (n := dgt ds 15 % 7) (by omega) (fun n => ⟨lwI g ds (some (tAt la)) none none none none none none, [(la, .lst ((((List.range n).map (wtM ds)).map wtD).map (tD g.K)))], []⟩) (T.free 97 rfl) (xe_mod (by decide) (xe_int1 (T.free 99 rfl) (xe_ixL (dgx (m := 15) (by omega) (by omega)) (xe_name (i := 0) rfl) xe_int)) xe_int) ⟨Le.refl _, rfl, rfl⟩ (fun n hn => ?_) ⟨Le.refl _, rfl, rfl⟩ nd) ?_
  · have n6 : n < 7 := by omega
    have hb := bot_in ds n
    have hu := und_in ds n
    have h24 := md_in (dgt ds (24 + n)) (k := manyM ds) (by omega)
    have hmul : lngM ds * botM ds n ≤ 320 * 4 := Int.mul_le_mul hll.2 hb.2 (by omega) (by omega)
    have hmul0 : 0 < lngM ds * botM ds n := Int.mul_pos (by omega) (by omega)
    refine xb_cons (xs_set 8 (T := tD g.K (.int (botM ds n))) (xe_add xe_int (xe_mod (by decide) (xe_int1 (T.free 99 rfl) (xe_ixL (dgx (m := 16 + n) (by omega) (by omega)) (xe_name (i := 0) rfl) (xe_add xe_int (xe_name (i := 7) rfl)))) xe_int)) ?_ nd)
    have hpx : atI ((plcsM ds).map PyData.int) (dgt ds (24 + n) % manyM ds) = some (.int (plcM ds (dgt ds (24 + n) % manyM ds).toNat)) := by
      have e := rs_at (rs := plcsM ds) (j := dgt ds (24 + n) % manyM ds) (m := (dgt ds (24 + n) % manyM ds).toNat) (by omega) (by omega)
      rw [e, getD_at (show (dgt ds (24 + n) % manyM ds).toNat < (plcsM ds).length by omega)]
      unfold plcsM
      rw [List.getElem_map, List.getElem_range]
    refine xb_cons (xs_set 9 (T := tD g.K (frD (spt0 ds n))) (xe_tupD (ds := [.int _, .int _]) (xa_cons (xe_ixL hpx (xe_name (i := 4) rfl) (xe_mod (by omega) (xe_int1 (T.free 99 rfl) (xe_ixL (dgx (m := 24 + n) (by omega) (by omega)) (xe_name (i := 0) rfl) (xe_add xe_int (xe_name (i := 7) rfl)))) (xe_name (i := 2) rfl))) (xa_cons xe_int xa_nil))) ?_ nd)
    refine xb_to ⟨lwI g ds (some (tAt la)) (some (tD g.K (.int (n : Int)))) (some (tD g.K (.int (botM ds n)))) (some (tD g.K (frD (sptM ds n)))) none none none, [(la, .lst ((((List.range n).map (wtM ds)).map wtD).map (tD g.K)))], []⟩ (xs_if (xt_eqI (xe_mod (by decide) (xe_int1 (T.free 99 rfl) (xe_ixL (dgx (m := 32 + n) (by omega) (by omega)) (xe_name (i := 0) rfl) (xe_add xe_int (xe_name (i := 7) rfl)))) xe_int) xe_int) (fun hb2 => ?_) (fun hb2 => ?_)) ?_
    · have c2 : dgt ds (32 + n) % 2 = 0 := of_decide_eq_true hb2
      refine xb_one (xs_set 9 (T := tD g.K (frD (sptM ds n))) ((xe_call (F__law_cut.mono (by decide)) (fun _ => hr) ⟨(dgt ds (24 + n) % (lngM ds * botM ds n + 1), botM ds n), ⟨by show 0 < botM ds n; omega, lo_nn (by show 0 ≤ botM ds n; omega) (by show botM ds n < 2 ^ 64; omega)⟩⟩ (xa_cons (xe_mod (by omega) (xe_int1 (T.free 99 rfl) (xe_ixL (dgx (m := 24 + n) (by omega) (by omega)) (xe_name (i := 0) rfl) (xe_add xe_int (xe_name (i := 7) rfl)))) (xe_add (xe_mul (lo_nn (by omega) (by omega)) (lo_nn (by omega) (by omega)) (xe_name (i := 5) rfl) (xe_name (i := 8) rfl)) xe_int)) (xa_cons (xe_name (i := 8) rfl) xa_nil))).toD (by unfold sptM; rw [if_pos c2])) ⟨Le.refl _, rfl, rfl⟩ nd)
    · have c2 : ¬ dgt ds (32 + n) % 2 = 0 := of_decide_eq_false hb2
      refine xb_nil ?_
      have e : sptM ds n = spt0 ds n := by unfold sptM; rw [if_neg c2]
      rw [e]
      exact ⟨Le.refl _, rfl, rfl⟩
    refine xb_cons (xs_set 10 (T := tD g.K (.int (undM ds n))) (xe_add xe_int (xe_mod (j := undU ds) (by omega) (xe_int1 (T.free 99 rfl) (xe_ixL (dgx (m := 48 + n) (by omega) (by omega)) (xe_name (i := 0) rfl) (xe_add xe_int (xe_name (i := 7) rfl)))) ?_)) ?_ nd)
    rotate_left
    · refine xb_one (xs_app (i := 6) (O1 := []) (O2 := []) (T := tD g.K (wtD (wtM ds n))) rfl rfl (xe_tupD (ds := [frD (sptM ds n), frD (cutM (1 + dgt ds (40 + n) % 12) (undM ds n))]) (xa_cons (xe_name (i := 9) rfl) (xa_cons (xe_call (F__law_cut.mono (by decide)) (fun _ => hr) ⟨(1 + dgt ds (40 + n) % 12, undM ds n), ⟨by show 0 < undM ds n; omega, lo_nn (by show 0 ≤ undM ds n; omega) (by show undM ds n < 2 ^ 64; omega)⟩⟩ (xa_cons (xe_add xe_int (xe_mod (by decide) (xe_int1 (T.free 99 rfl) (xe_ixL (dgx (m := 40 + n) (by omega) (by omega)) (xe_name (i := 0) rfl) (xe_add xe_int (xe_name (i := 7) rfl)))) xe_int)) (xa_cons (xe_name (i := 10) rfl) xa_nil))) xa_nil))) (by simp only [List.length_map, List.length_range]; omega) ⟨?_, ?_, rfl⟩)
      · exact .is (.is (.is (.is (.is (.is (.is (.no (.no (.no (.no (.no (.no .nil))))))))))))
      · rw [List.range_succ]
        simp
    refine ixU ?_ ?_ ?_
    · refine xeLst ?_ ?_
      · exact Nat.le_of_ble_eq_true rfl
      refine xaC ?_ ?_ ?_
      rotate_right
      · intro _; rfl
      · with_reducible exact xe_int
      refine xaC ?_ ?_ ?_
      rotate_right
      · intro _; rfl
      · with_reducible exact xe_int
      refine xaC ?_ ?_ ?_
      rotate_right
      · intro _; rfl
      · with_reducible exact xe_int
      exact xa_nil
    · exact xe_mod (by decide) (xe_int1 (T.free 99 rfl) (xe_ixL (dgx (m := 56) (by omega) (by omega)) (xe_name (i := 0) rfl) xe_int)) xe_int
    · intro _ _; rfl
  refine xb_cons (xs_nil 11 (fun lb => ?_) nd)
  refine xb_to ⟨lwI g ds (some (tAt la)) none none none none (some (tAt lb)) none, [(la, .lst ((((List.range (wtsN ds)).map (wtM ds)).map wtD).map (tD g.K))), (lb, .lst ((((List.range (manyM ds).toNat).map (prM ds)).map propD).map (tD g.K)))], []⟩ (xs_forR 7 (n := manyM ds) (by omega) (fun n => ⟨lwI g ds (some (tAt la)) none none none none (some (tAt lb)) none, [(la, .lst ((((List.range (wtsN ds)).map (wtM ds)).map wtD).map (tD g.K))), (lb, .lst ((((List.range n).map (prM ds)).map propD).map (tD g.K)))], []⟩) (T.free 97 rfl) (xe_name (i := 2) rfl) ⟨Le.refl _, rfl, rfl⟩ (fun n hn => ?_) ⟨Le.refl _, rfl, rfl⟩ nd) ?_
  · have n7 : n < 7 := by omega
    have h60 := md_in (dgt ds (60 + n)) (k := topT ds) (by omega)
    have h72 := md_in (dgt ds (72 + n)) (k := strB ds) (by omega)
    have hpx : atI ((plcsM ds).map PyData.int) (n : Int) = some (.int (plcM ds n)) := by
      have e := rs_at (rs := plcsM ds) (j := (n : Int)) (m := n) rfl (by omega)
      rw [e, getD_at (show n < (plcsM ds).length by omega)]
      unfold plcsM
      rw [List.getElem_map, List.getElem_range]
    refine xb_cons (xs_set 12 (T := tD g.K (.int (dgt ds (60 + n) % topT ds))) (xe_mod (j := topT ds) (by omega) (xe_int1 (T.free 99 rfl) (xe_ixL (dgx (m := 60 + n) (by omega) (by omega)) (xe_name (i := 0) rfl) (xe_add xe_int (xe_name (i := 7) rfl)))) ?_) ?_ nd)
    rotate_left
    · refine xb_one (xs_app (i := 11) (O1 := [(la, _)]) (O2 := []) (T := tD g.K (propD (prM ds n))) rfl rfl (xe_tupD (ds := [.int (plcM ds n), frD (cutM (dgt ds (60 + n) % topT ds) (1 + dgt ds (72 + n) % strB ds))]) (xa_cons (xe_ixL hpx (xe_name (i := 4) rfl) (xe_name (i := 7) rfl)) (xa_cons (xe_call (F__law_cut.mono (by decide)) (fun _ => hr) ⟨(dgt ds (60 + n) % topT ds, 1 + dgt ds (72 + n) % strB ds), ⟨by show 0 < 1 + dgt ds (72 + n) % strB ds; omega, lo_nn (by show 0 ≤ 1 + dgt ds (72 + n) % strB ds; omega) (by show 1 + dgt ds (72 + n) % strB ds < 2 ^ 64; omega)⟩⟩ (xa_cons (xe_name (i := 12) rfl) (xa_cons (xe_add xe_int (xe_mod (j := strB ds) (by omega) (xe_int1 (T.free 99 rfl) (xe_ixL (dgx (m := 72 + n) (by omega) (by omega)) (xe_name (i := 0) rfl) (xe_add xe_int (xe_name (i := 7) rfl)))) ?_)) xa_nil))) xa_nil))) (by simp only [List.length_map, List.length_range]; omega) ⟨?_, ?_, rfl⟩)
      · refine ixB ?_ ?_ ?_
        · refine xeLst ?_ ?_
          · exact Nat.le_of_ble_eq_true rfl
          refine xaC ?_ ?_ ?_
          rotate_right
          · intro _; rfl
          · with_reducible exact xe_int
          refine xaC ?_ ?_ ?_
          rotate_right
          · intro _; rfl
          · with_reducible exact xe_int
          refine xaC ?_ ?_ ?_
          rotate_right
          · intro _; rfl
          · with_reducible exact xe_int
          exact xa_nil
        · exact xe_mod (by decide) (xe_int1 (T.free 99 rfl) (xe_ixL (dgx (m := 58) (by omega) (by omega)) (xe_name (i := 0) rfl) xe_int)) xe_int
        · intro _ _; rfl
      · exact .is (.is (.is (.is (.is (.is (.is (.no (.no (.no (.no (.is (.no .nil))))))))))))
      · rw [List.range_succ]
        simp
    refine ixT ?_ ?_ ?_
    · refine xeLst ?_ ?_
      · exact Nat.le_of_ble_eq_true rfl
      refine xaC ?_ ?_ ?_
      rotate_right
      · intro _; rfl
      · with_reducible exact xe_int
      refine xaC ?_ ?_ ?_
      rotate_right
      · intro _; rfl
      · with_reducible exact xe_int
      refine xaC ?_ ?_ ?_
      rotate_right
      · intro _; rfl
      · with_reducible exact xe_int
      refine xaC ?_ ?_ ?_
      rotate_right
      · intro _; rfl
      · with_reducible exact xe_int
      exact xa_nil
    · exact xe_mod (by decide) (xe_int1 (T.free 99 rfl) (xe_ixL (dgx (m := 57) (by omega) (by omega)) (xe_name (i := 0) rfl) xe_int)) xe_int
    · intro _ _; rfl
  refine xb_freeze 6 (O1 := []) (O2 := [(lb, _)]) (ds := ((List.range (wtsN ds)).map (wtM ds)).map wtD) rfl rfl ?_
  refine xb_freeze 11 (O1 := []) (O2 := []) (ds := ((List.range (manyM ds).toNat).map (prM ds)).map propD) rfl rfl ?_
  exact xb_one (xs_ret (T := tWld g (worldM ds)) (xe_rec3 5 11 6 (by decide) rfl rfl rfl (fun j => pe_var rfl (by first | exact Or.inl rfl | exact Or.inr (Or.inl rfl) | exact Or.inr (Or.inr rfl))) (fun j => pe_var rfl (by first | exact Or.inl rfl | exact Or.inr (Or.inl rfl) | exact Or.inr (Or.inr rfl))) (fun j => pe_var rfl (by first | exact Or.inl rfl | exact Or.inr (Or.inl rfl) | exact Or.inr (Or.inr rfl)))) rfl)
end Pf
end
section
set_option Elab.async false
set_option linter.all false
set_option maxRecDepth 100000
set_option maxHeartbeats 2000000
set_option exponentiation.threshold 5000
set_option pp.maxSteps 1200
namespace Pf
open PySem PySem.Spec PyProof.Rows L2 RZ
/-! ### who stands beside whom -/
structure Bes (l : Int) (x : List Int) (r a p b : Int) : Prop where
  hp : p ∈ x
  ha : a = l ∨ a ∈ x
  hb : b = r ∨ b ∈ x
  ap : a < p
  pb : p < b
  na : ∀ y ∈ x, y ≤ a ∨ p ≤ y
  nb : ∀ y ∈ x, y ≤ p ∨ b ≤ y
theorem bes_out : ∀ {l : Int} {lot : List Int} {r : Int}, (l :: lot ++ [r]).Pairwise (· < ·) → ∀ {t : Int × Int × Int}, t ∈ besM l lot r → Bes l lot r t.1 t.2.1 t.2.2
  | l, [], r, _, t, ht => nomatch ht
  | l, [q], r, h, t, ht => by
    obtain rfl := List.mem_singleton.mp ht
    have a := h
    simp at a
    refine ⟨List.mem_cons_self, .inl rfl, .inl rfl, by show l < q; omega, by show q < r; omega, fun y hy => ?_, fun y hy => ?_⟩
    · rw [List.mem_singleton.mp hy]; exact .inr (Int.le_refl _)
    · rw [List.mem_singleton.mp hy]; exact .inl (Int.le_refl _)
  | l, q :: s :: ps, r, h, t, ht => by
    obtain ⟨a1, a2⟩ := List.pairwise_cons.mp h
    have a3 : l < q := a1 q List.mem_cons_self
    obtain ⟨a4, a5⟩ := List.pairwise_cons.mp a2
    have a6 : q < s := a4 s List.mem_cons_self
    obtain ⟨a7, a8⟩ := List.pairwise_cons.mp a5
    rcases List.mem_cons.mp ht with e | ht
    · subst e
      refine ⟨List.mem_cons_self, .inl rfl, .inr (List.mem_cons_of_mem _ List.mem_cons_self), a3, a6, fun y hy => ?_, fun y hy => ?_⟩
      · rcases List.mem_cons.mp hy with e | hy
        · right; rw [e]; exact Int.le_refl _
        · right
          have := a4 y (List.mem_append_left _ hy)
          show q ≤ y
          omega
      · rcases List.mem_cons.mp hy with e | hy
        · left; rw [e]; exact Int.le_refl _
        · right
          rcases List.mem_cons.mp hy with e | hy
          · rw [e]; exact Int.le_refl _
          · have := a7 y (List.mem_append_left _ hy)
            show s ≤ y
            omega
    · have ih := bes_out (l := q) (lot := s :: ps) (r := r) a2 ht
      have hq : q < t.2.1 := a4 _ (List.mem_append_left _ ih.hp)
      refine ⟨List.mem_cons_of_mem _ ih.hp, ?_, ih.hb.imp id fun h => List.mem_cons_of_mem _ h, ih.ap, ih.pb, fun y hy => ?_, fun y hy => ?_⟩
      · right
        rcases ih.ha with e | e
        · rw [e]; exact List.mem_cons_self
        · exact List.mem_cons_of_mem _ e
      · rcases List.mem_cons.mp hy with e | hy
        · left
          rw [e]
          rcases ih.ha with e | e
          · rw [e]; exact Int.le_refl _
          · have := a4 _ (List.mem_append_left _ e)
            omega
        · exact ih.na y hy
      · rcases List.mem_cons.mp hy with e | hy
        · left; rw [e]; exact Int.le_of_lt hq
        · exact ih.nb y hy
theorem bes_mids : ∀ (l : Int) (lot : List Int) (r : Int), (besM l lot r).map (·.2.1) = lot
  | l, [], r => rfl
  | l, [p], r => rfl
  | l, p :: q :: ps, r => by
    show p :: (besM p (q :: ps) r).map (·.2.1) = _
    rw [bes_mids p (q :: ps) r]
structure AscB (l : Int) (x : List Int) (r : Int) : Prop where
  lo : ∀ y ∈ x, l < y
  hi : ∀ y ∈ x, y < r
  lr : l < r
theorem asc_b {l : Int} {x : List Int} {r : Int} (h : (l :: x ++ [r]).Pairwise (· < ·)) : AscB l x r := by
  obtain ⟨a1, a2⟩ := List.pairwise_cons.mp h
  obtain ⟨_, _, a3⟩ := List.pairwise_append.mp a2
  exact ⟨fun y hy => a1 y (List.mem_append_left _ hy), fun y hy => a3 y hy r (by simp), a1 r (by simp)⟩
theorem Bes.one {l : Int} {x : List Int} {r a p b a' b' : Int} (hB : AscB l x r) (h : Bes l x r a p b) (h' : Bes l x r a' p b') : a = a' ∧ b = b' := by
  have la : ∀ {c : Int}, c = l ∨ c ∈ x → l ≤ c := fun hc => by
    rcases hc with e | e
    · omega
    · exact Int.le_of_lt (hB.lo _ e)
  have lb : ∀ {c : Int}, c = r ∨ c ∈ x → c ≤ r := fun hc => by
    rcases hc with e | e
    · omega
    · exact Int.le_of_lt (hB.hi _ e)
  have k1 := la h.ha
  have k2 := la h'.ha
  have k3 := lb h.hb
  have k4 := lb h'.hb
  have := h.ap
  have := h.pb
  have := h'.ap
  have := h'.pb
  constructor
  · rcases h.ha with e | e
    · rcases h'.ha with e2 | e2
      · omega
      · have := h.na a' e2
        omega
    · have := h'.na a e
      rcases h'.ha with e2 | e2
      · omega
      · have := h.na a' e2
        omega
  · rcases h.hb with e | e
    · rcases h'.hb with e2 | e2
      · omega
      · have := h.nb b' e2
        omega
    · have := h'.nb b e
      rcases h'.hb with e2 | e2
      · omega
      · have := h.nb b' e2
        omega
/-- a prop that is overlaid: by its neighbours -/
theorem ob_iff {W : Wd} {l : Int} {x : List Int} {r p : Int} (h : (l :: x ++ [r]).Pairwise (· < ·)) : p ∈ obM W l x r ↔ ∃ a b, Bes l x r a p b ∧ overB W a p b = true := by
  unfold obM
  constructor
  · intro hp
    obtain ⟨t, ht, rfl⟩ := List.mem_map.mp hp
    obtain ⟨h1, h2⟩ := List.mem_filter.mp ht
    exact ⟨t.1, t.2.2, bes_out h h1, h2⟩
  · rintro ⟨a, b, hb, ho⟩
    have hp := hb.hp
    rw [← bes_mids l x r] at hp
    obtain ⟨t, ht, rfl⟩ := List.mem_map.mp hp
    obtain ⟨e1, e2⟩ := (bes_out h ht).one (asc_b h) hb
    exact List.mem_map.mpr ⟨t, List.mem_filter.mpr ⟨ht, by rw [e1, e2]; exact ho⟩, rfl⟩
theorem with_mem {x : List Int} {p y : Int} : y ∈ withM x p ↔ y ∈ x ∧ y ≠ p := by
  unfold withM
  rw [List.mem_filter]
  simp
theorem with_pw {l : Int} {x : List Int} {r p : Int} (h : (l :: x ++ [r]).Pairwise (· < ·)) : (l :: withM x p ++ [r]).Pairwise (· < ·) := by
  refine h.sublist ?_
  show (l :: (withM x p ++ [r])).Sublist (l :: (x ++ [r]))
  exact (List.filter_sublist.append_right _).cons₂ _
/-- two that stand beside each other -/
structure Con (l : Int) (x : List Int) (r u v : Int) : Prop where
  hu : u = l ∨ u ∈ x
  hv : v = r ∨ v ∈ x
  uv : u < v
  n : ∀ y ∈ x, y ≤ u ∨ v ≤ y
theorem Bes.l {l : Int} {x : List Int} {r a p b : Int} (h : Bes l x r a p b) : Con l x r a p := ⟨h.ha, .inr h.hp, h.ap, h.na⟩
theorem Bes.r {l : Int} {x : List Int} {r a p b : Int} (h : Bes l x r a p b) : Con l x r p b := ⟨.inr h.hp, h.hb, h.pb, h.nb⟩
/-- behind a giving: the same two, or those about it -/
theorem con_with {l : Int} {x : List Int} {r a p b u v : Int} (hB : AscB l x r) (h : Bes l x r a p b) (hc : Con l (withM x p) r u v) : Con l x r u v ∨ (u = a ∧ v = b) := by
  have hu : u = l ∨ u ∈ x := hc.hu.imp id fun h => (with_mem.mp h).1
  have hv : v = r ∨ v ∈ x := hc.hv.imp id fun h => (with_mem.mp h).1
  have up : u ≠ p := fun e => by
    rcases hc.hu with e2 | e2
    · have := hB.lo p h.hp
      omega
    · exact (with_mem.mp e2).2 e
  have vp : v ≠ p := fun e => by
    rcases hc.hv with e2 | e2
    · have := hB.hi p h.hp
      omega
    · exact (with_mem.mp e2).2 e
  by_cases hp : p ≤ u ∨ v ≤ p
  · refine .inl ⟨hu, hv, hc.uv, fun y hy => ?_⟩
    by_cases e : y = p
    · rw [e]; exact hp
    · exact hc.n y (with_mem.mpr ⟨hy, e⟩)
  · right
    have h1 : u < p := by omega
    have h2 : p < v := by omega
    have lu : l ≤ u := by
      rcases hu with e | e
      · omega
      · exact Int.le_of_lt (hB.lo _ e)
    have lv : v ≤ r := by
      rcases hv with e | e
      · omega
      · exact Int.le_of_lt (hB.hi _ e)
    have la : l ≤ a := by
      rcases h.ha with e | e
      · omega
      · exact Int.le_of_lt (hB.lo _ e)
    have lb : b ≤ r := by
      rcases h.hb with e | e
      · omega
      · exact Int.le_of_lt (hB.hi _ e)
    have := h.ap
    have := h.pb
    constructor
    · rcases hu with e | e
      · rcases h.ha with e2 | e2
        · omega
        · have := hc.n a (with_mem.mpr ⟨e2, by omega⟩)
          omega
      · have := h.na u e
        rcases h.ha with e2 | e2
        · omega
        · have := hc.n a (with_mem.mpr ⟨e2, by omega⟩)
          omega
    · rcases hv with e | e
      · rcases h.hb with e2 | e2
        · omega
        · have := hc.n b (with_mem.mpr ⟨e2, by omega⟩)
          omega
      · have := h.nb v e
        rcases h.hb with e2 | e2
        · omega
        · have := hc.n b (with_mem.mpr ⟨e2, by omega⟩)
          omega
/-! ### lots that are come to by givings -/
inductive Rch (W : Wd) (l r : Int) (x0 : List Int) : Nat → List Int → Prop
  | nil : Rch W l r x0 0 x0
  | step {n : Nat} {x : List Int} {p : Int} : Rch W l r x0 n x → p ∈ obM W l x r → Rch W l r x0 (n + 1) (withM x p)
theorem lay_iff {W : Wd} {lot : List Int} : ∀ {n : Nat} {x : List Int}, x ∈ layerS W lot n ↔ Rch W (-1) W.props.length lot n x
  | 0, x => by
    constructor
    · intro h
      rw [List.mem_singleton.mp h]
      exact .nil
    · intro h
      cases h
      exact List.mem_singleton.mpr rfl
  | n + 1, x => by
    constructor
    · intro h
      obtain ⟨y, hy, h⟩ := List.mem_flatMap.mp h
      obtain ⟨s, hs, rfl⟩ := List.mem_map.mp h
      exact .step (lay_iff.mp hy) hs
    · intro h
      cases h with
      | step h hp => exact List.mem_flatMap.mpr ⟨_, lay_iff.mpr h, List.mem_map.mpr ⟨_, hp, rfl⟩⟩
theorem Rch.pw {W : Wd} {l r : Int} {x0 : List Int} (h0 : (l :: x0 ++ [r]).Pairwise (· < ·)) : ∀ {n : Nat} {x : List Int}, Rch W l r x0 n x → (l :: x ++ [r]).Pairwise (· < ·)
  | _, _, .nil => h0
  | _, _, .step h _ => with_pw (Rch.pw h0 h)
theorem Rch.sub {W : Wd} {l r : Int} {x0 : List Int} : ∀ {n : Nat} {x : List Int}, Rch W l r x0 n x → ∀ y ∈ x, y ∈ x0
  | _, _, .nil => fun _ h => h
  | _, _, .step h _ => fun y hy => h.sub y (with_mem.mp hy).1
/-! ### places among the rests -/
structure RsOk (rs : List Int) : Prop where
  pw : rs.Pairwise (· < ·)
theorem RsOk.lt {rs : List Int} (h : RsOk rs) {i j : Nat} (hi : i < j) (hj : j < rs.length) : rs.getD i 0 < rs.getD j 0 := by
  rw [getD_at (Nat.lt_trans hi hj), getD_at hj]
  exact List.pairwise_iff_getElem.mp h.pw i j _ _ hi
theorem RsOk.le {rs : List Int} (h : RsOk rs) {i j : Nat} (hi : i < rs.length) (hj : j < rs.length) (hv : rs.getD i 0 < rs.getD j 0) : i < j := by
  rcases Nat.lt_trichotomy i j with e | e | e
  · exact e
  · subst e; omega
  · have := h.lt e hi
    omega
theorem RsOk.inj {rs : List Int} (h : RsOk rs) {i j : Nat} (hi : i < rs.length) (hj : j < rs.length) (hv : rs.getD i 0 = rs.getD j 0) : i = j := by
  rcases Nat.lt_trichotomy i j with e | e | e
  · have := h.lt e hj
    omega
  · exact e
  · have := h.lt e hi
    omega
theorem seg_mem {rs : List Int} {a b : Nat} (hb : b ≤ rs.length) {y : Int} : y ∈ segM rs a b ↔ ∃ k, a < k ∧ k < b ∧ rs.getD k 0 = y := by
  unfold segM
  constructor
  · intro h
    obtain ⟨i, hi, rfl⟩ := List.mem_iff_getElem.mp h
    have hi2 : i < b - a - 1 := by
      have := hi
      rw [List.length_take] at this
      omega
    refine ⟨a + 1 + i, by omega, by omega, ?_⟩
    rw [getD_at (show a + 1 + i < rs.length by omega), List.getElem_take, List.getElem_drop]
  · rintro ⟨k, h1, h2, rfl⟩
    have hk : k < rs.length := by omega
    have hl : k - (a + 1) < ((rs.drop (a + 1)).take (b - a - 1)).length := by
      rw [List.length_take, List.length_drop]
      omega
    refine List.mem_iff_getElem.mpr ⟨k - (a + 1), hl, ?_⟩
    rw [List.getElem_take, List.getElem_drop, getD_at hk]
    congr 1
    omega
theorem seg_len {rs : List Int} {a b : Nat} (hb : b ≤ rs.length) : (segM rs a b).length = b - a - 1 := by
  unfold segM
  rw [List.length_take, List.length_drop]
  omega
/-- all between two rests go, by the rests' numbers -/
def GoV (W : Wd) (rs : List Int) (u v : Int) : Prop := ∃ i j, i < j ∧ j < rs.length ∧ rs.getD i 0 = u ∧ rs.getD j 0 = v ∧ goM W rs i j = true
theorem goV_join {W : Wd} {rs : List Int} (hr : RsOk rs) {a p b : Int} (h1 : GoV W rs a p) (h2 : GoV W rs p b) (ho : overB W a p b = true) : ∃ i k j, i < k ∧ k < j ∧ j < rs.length ∧ rs.getD i 0 = a ∧ rs.getD k 0 = p ∧ rs.getD j 0 = b ∧ k ∈ lastsM W rs i j := by
  obtain ⟨i, k, q1, q2, q3, q4, q5⟩ := h1
  obtain ⟨k', j, r1, r2, r3, r4, r5⟩ := h2
  have e : k = k' := hr.inj q2 (by omega) (by rw [q4, r3])
  subst e
  refine ⟨i, k, j, q1, r1, r2, q3, q4, r4, lasts_mem.mpr ⟨q1, r1, ?_⟩⟩
  unfold lastP ovN
  rw [q3, q4, r4, ho, q5, r5]
  rfl
theorem goV_go {W : Wd} {rs : List Int} {i k j : Nat} (hj : j < rs.length) (h : k ∈ lastsM W rs i j) : GoV W rs (rs.getD i 0) (rs.getD j 0) := by
  obtain ⟨h1, h2, _⟩ := lasts_mem.mp h
  refine ⟨i, j, by omega, hj, rfl, rfl, ?_⟩
  rw [goM_eq (by omega)]
  cases e : lastsM W rs i j with
  | nil => rw [e] at h; cases h
  | cons a r => simp
/-- what stands beside each other behind givings had all between go -/
theorem rch_go {W : Wd} {rs : List Int} (hr : RsOk rs) {a b : Nat} (hab : a < b) (hb : b < rs.length) : ∀ {n : Nat} {x : List Int}, Rch W (rs.getD a 0) (rs.getD b 0) (segM rs a b) n x → ∀ u v, Con (rs.getD a 0) x (rs.getD b 0) u v → GoV W rs u v
  | _, _, .nil, u, v, hc => by
    have pos : ∀ {u : Int}, u = rs.getD a 0 ∨ u = rs.getD b 0 ∨ u ∈ segM rs a b → ∃ i, a ≤ i ∧ i ≤ b ∧ rs.getD i 0 = u := fun h => by
      rcases h with e | e | e
      · exact ⟨a, Nat.le_refl _, by omega, e.symm⟩
      · exact ⟨b, by omega, Nat.le_refl _, e.symm⟩
      · obtain ⟨k, h1, h2, h3⟩ := (seg_mem (by omega)).mp e
        exact ⟨k, by omega, by omega, h3⟩
    obtain ⟨i, i1, i2, i3⟩ := pos (u := u) (by rcases hc.hu with e | e <;> simp [e])
    obtain ⟨j, j1, j2, j3⟩ := pos (u := v) (by rcases hc.hv with e | e <;> simp [e])
    have hij : i < j := hr.le (by omega) (by omega) (by rw [i3, j3]; exact hc.uv)
    have e : j = i + 1 := by
      by_cases e : j = i + 1
      · exact e
      · exfalso
        have l1 := hr.lt (i := i) (j := i + 1) (by omega) (by omega)
        have l2 := hr.lt (i := i + 1) (j := j) (by omega) (by omega)
        have := hc.n (rs.getD (i + 1) 0) ((seg_mem (by omega)).mpr ⟨i + 1, by omega, by omega, rfl⟩)
        omega
    refine ⟨i, j, hij, by omega, i3, j3, ?_⟩
    rw [goM_eq hij, e]
    simp
  | _, _, .step (x := x) h hp, u, v, hc => by
    have pw0 : (rs.getD a 0 :: segM rs a b ++ [rs.getD b 0]).Pairwise (· < ·) := hr.pw.sublist (seg_get hab hb)
    have pw := h.pw pw0
    obtain ⟨c, d, hB, ho⟩ := (ob_iff pw).mp hp
    rcases con_with (asc_b pw) hB hc with h2 | ⟨rfl, rfl⟩
    · exact rch_go hr hab hb h u v h2
    · obtain ⟨i, k, j, q1, q2, q3, q4, q5, q6, q7⟩ := goV_join hr (rch_go hr hab hb h _ _ hB.l) (rch_go hr hab hb h _ _ hB.r) ho
      have := goV_go q3 q7
      rw [q4, q6] at this
      exact this
theorem rests_ok {W : Wd} {lot : List Int} (h : LotOk W lot) : RsOk (restsM W lot) := ⟨h.bt.asc⟩
theorem seg_all (W : Wd) (lot : List Int) : segM (restsM W lot) 0 (lot.length + 1) = lot := by
  unfold segM restsM
  show (lot ++ [(W.props.length : Int)]).take (lot.length + 1 - 0 - 1) = lot
  have e : lot.length + 1 - 0 - 1 = lot.length := by omega
  rw [e, List.take_left']
  rfl
/-- a prop that is gone behind n givings was the last one between two rests, at most n apart -/
theorem rch_gone {W : Wd} {lot : List Int} (hl : LotOk W lot) {one : Int} (h1 : one ∈ lot) : ∀ {n : Nat} {x : List Int}, Rch W (-1) W.props.length lot n x → one ∉ x → ∃ i k j, i < k ∧ k < j ∧ j < (restsM W lot).length ∧ (restsM W lot).getD k 0 = one ∧ k ∈ lastsM W (restsM W lot) i j ∧ j - i - 1 ≤ n
  | _, _, .nil, ho => absurd h1 ho
  | n + 1, _, .step (x := x) (p := p) h hp, ho => by
    by_cases hx : one ∈ x
    · have e : one = p := by
        by_cases e : one = p
        · exact e
        · exact absurd (with_mem.mpr ⟨hx, e⟩) ho
      subst e
      have hr := rests_ok hl
      have hlen := rests_len W lot
      have e0 := rests_0 W lot
      have e1 := rests_last W lot
      have pw : ((-1 : Int) :: x ++ [(W.props.length : Int)]).Pairwise (· < ·) := h.pw hl.bt.asc
      obtain ⟨c, d, hB, hov⟩ := (ob_iff pw).mp hp
      have key := rch_go (W := W) hr (a := 0) (b := lot.length + 1) (by omega) (by omega) (n := n) (x := x) (by rw [e0, e1, seg_all]; exact h)
      rw [e0, e1] at key
      obtain ⟨i, k, j, q1, q2, q3, q4, q5, q6, q7⟩ := goV_join hr (key _ _ hB.l) (key _ _ hB.r) hov
      refine ⟨i, k, j, q1, q2, q3, q5, q7, ?_⟩
      have hn := (lay_ok hl n x (lay_iff.mpr h)).2.2
      have hs := (lay_ok hl n x (lay_iff.mpr h)).1
      have ndx := lot_nodup hs
      have sg : (segM (restsM W lot) i j).Nodup := ((hr.pw.sublist ((List.take_sublist _ _).trans (List.drop_sublist _ _)) : (segM (restsM W lot) i j).Pairwise (· < ·))).imp fun h => by omega
      have lsg := seg_len (rs := restsM W lot) (a := i) (b := j) (by omega)
      have m1 : one ∈ segM (restsM W lot) i j := (seg_mem (by omega)).mpr ⟨k, q1, q2, q5⟩
      have wl := with_len sg m1
      have big := nodup_sub_len (l := x ++ withM (segM (restsM W lot) i j) one) (m := lot) (List.nodup_append.mpr ⟨ndx, sg.sublist List.filter_sublist, fun y hy z hz e => by
        subst e
        obtain ⟨z1, z2⟩ := with_mem.mp hz
        obtain ⟨w, w1, w2, w3⟩ := (seg_mem (by omega)).mp z1
        have l1 := hr.lt w1 (by omega)
        have l2 := hr.lt w2 (by omega)
        have n1 := hB.na y hy
        have n2 := hB.nb y hy
        rw [q4, w3] at l1
        rw [q6, w3] at l2
        omega⟩) fun y hy => by
        rcases List.mem_append.mp hy with hy | hy
        · exact h.sub y hy
        · obtain ⟨z1, z2⟩ := with_mem.mp hy
          rw [← seg_all W lot]
          obtain ⟨w, w1, w2, w3⟩ := (seg_mem (by omega)).mp z1
          exact (seg_mem (by omega)).mpr ⟨w, by omega, by omega, w3⟩
      rw [List.length_append] at big
      omega
    · obtain ⟨i, k, j, q1, q2, q3, q4, q5, q6⟩ := rch_gone hl h1 h hx
      exact ⟨i, k, j, q1, q2, q3, q4, q5, by omega⟩
end Pf
end
section
set_option Elab.async false
set_option linter.all false
set_option maxRecDepth 100000
set_option maxHeartbeats 2000000
set_option exponentiation.threshold 5000
set_option pp.maxSteps 1200
namespace Pf
open PySem PySem.Spec PyProof.Rows L2 RZ
/-! ### rows that go along -/
def alongP (W : Wd) (l r : Int) : List Int → List Int → Prop
  | _, [] => True
  | x, s :: row => s ∈ obM W l x r ∧ alongP W l r (withM x s) row
theorem along_app {W : Wd} {l r : Int} : ∀ {x row row2 : List Int}, alongP W l r x row → alongP W l r (row.foldl withM x) row2 → alongP W l r x (row ++ row2)
  | _, [], _, _, h => h
  | _, _ :: _, _, h1, h2 => ⟨h1.1, along_app h1.2 h2⟩
theorem along_at {W : Wd} {l r : Int} : ∀ {x row : List Int}, alongP W l r x row → ∀ n s, row[n]? = some s → s ∈ obM W l (lotAt x row n) r
  | _, [], _, n, s, h => by simp at h
  | x, a :: row, h, 0, s, e => by
    obtain rfl : a = s := by simpa using e
    exact h.1
  | x, a :: row, h, n + 1, s, e => by
    have := along_at h.2 n s (by simpa using e)
    unfold lotAt at this ⊢
    rw [List.take_succ_cons, List.foldl_cons]
    exact this
theorem along_rch {W : Wd} {l r : Int} {x0 : List Int} : ∀ {n : Nat} {x row : List Int}, Rch W l r x0 n x → alongP W l r x row → Rch W l r x0 (n + row.length) (row.foldl withM x)
  | n, x, [], h, _ => h
  | n, x, a :: row, h, k => by
    have := along_rch (.step h k.1) k.2
    rw [List.length_cons, List.foldl_cons]
    have e : n + (row.length + 1) = n + 1 + row.length := by omega
    rw [e]
    exact this
theorem fold_mem {y : Int} : ∀ {row x : List Int}, y ∈ row.foldl withM x ↔ y ∈ x ∧ y ∉ row
  | [], x => by simp
  | a :: row, x => by
    rw [List.foldl_cons, fold_mem, with_mem, List.mem_cons]
    constructor
    · rintro ⟨⟨h1, h2⟩, h3⟩
      exact ⟨h1, fun h => h.elim h2 h3⟩
    · rintro ⟨h1, h2⟩
      exact ⟨⟨h1, fun h => h2 (.inl h)⟩, fun h => h2 (.inr h)⟩
/-- what a row of all between two places is -/
structure RowOf (rs : List Int) (low high : Nat) (row : List Int) : Prop where
  m : ∀ y, y ∈ row ↔ ∃ k, low < k ∧ k < high ∧ rs.getD k 0 = y
  nd : row.Nodup
  len : row.length = high - low - 1
theorem rowOf_node {rs : List Int} (hr : RsOk rs) {low at_ high : Nat} {A B : List Int} (h1 : low < at_) (h2 : at_ < high) (h3 : high < rs.length) (hA : RowOf rs low at_ A) (hB : RowOf rs at_ high B) : RowOf rs low high (A ++ B ++ [rs.getD at_ 0]) := by
  refine ⟨fun y => ?_, ?_, ?_⟩
  · rw [List.mem_append, List.mem_append, List.mem_singleton, hA.m, hB.m]
    constructor
    · rintro ((⟨k, a, b, c⟩ | ⟨k, a, b, c⟩) | e)
      · exact ⟨k, a, by omega, c⟩
      · exact ⟨k, by omega, b, c⟩
      · exact ⟨at_, h1, h2, e.symm⟩
    · rintro ⟨k, a, b, c⟩
      rcases Nat.lt_trichotomy k at_ with e | e | e
      · exact .inl (.inl ⟨k, a, e, c⟩)
      · subst e
        exact .inr c.symm
      · exact .inl (.inr ⟨k, e, b, c⟩)
  · refine List.nodup_append.mpr ⟨List.nodup_append.mpr ⟨hA.nd, hB.nd, fun y hy z hz e => ?_⟩, by simp, fun y hy z hz e => ?_⟩
    · subst e
      obtain ⟨k, a, b, c⟩ := (hA.m y).mp hy
      obtain ⟨k', a', b', c'⟩ := (hB.m y).mp hz
      have := hr.inj (i := k) (j := k') (by omega) (by omega) (by rw [c, c'])
      omega
    · rw [List.mem_singleton] at hz
      subst e
      subst hz
      rcases List.mem_append.mp hy with hy | hy
      · obtain ⟨k, a, b, c⟩ := (hA.m _).mp hy
        have := hr.inj (i := k) (j := at_) (by omega) (by omega) c
        omega
      · obtain ⟨k, a, b, c⟩ := (hB.m _).mp hy
        have := hr.inj (i := k) (j := at_) (by omega) (by omega) c
        omega
  · rw [List.length_append, List.length_append, List.length_singleton, hA.len, hB.len]
    omega
theorem last_go {W : Wd} {rs : List Int} {low high at_ : Nat} (h : at_ ∈ lastsM W rs low high) : goM W rs low at_ = true ∧ goM W rs at_ high = true ∧ ovN W rs low at_ high = true := by
  have h3 := (lasts_mem.mp h).2.2
  unfold lastP at h3
  rw [Bool.and_eq_true, Bool.and_eq_true] at h3
  exact ⟨h3.2.1, h3.2.2, h3.1⟩
theorem go_last {W : Wd} {rs : List Int} {low high : Nat} (h : low < high) (hg : goM W rs low high = true) (hn : high ≠ low + 1) : ∃ a r, lastsM W rs low high = a :: r := by
  rw [goM_eq h] at hg
  cases e : lastsM W rs low high with
  | nil => rw [e] at hg; simp [hn] at hg
  | cons a r => exact ⟨a, r, rfl⟩
theorem tree_node {W : Wd} {rs : List Int} {f low high a : Nat} {r : List Nat} (hn : high ≠ low + 1) (h : lastsM W rs low high = a :: r) : treeF W rs (f + 1) low high = .node (rs.getD a 0) (treeF W rs f low a) (treeF W rs f a high) := by
  show (if high = low + 1 then Tr.leaf else match lastsM W rs low high with
    | [] => .leaf
    | a :: _ => .node (rs.getD a 0) (treeF W rs f low a) (treeF W rs f a high)) = _
  rw [if_neg hn, h]
theorem tree_rowOf {W : Wd} {rs : List Int} (hr : RsOk rs) : ∀ (f low high : Nat), low < high → high < rs.length → high ≤ low + f + 1 → goM W rs low high = true → RowOf rs low high (rowT (treeF W rs f low high))
  | f, low, high, h1, h2, h3, hg => by
    by_cases e : high = low + 1
    · have e2 : treeF W rs f low high = .leaf := by
        cases f with
        | zero => rfl
        | succ f => unfold treeF; rw [if_pos e]
      rw [e2]
      refine ⟨fun y => ⟨(fun h => nomatch h), fun ⟨k, a, b, _⟩ => by omega⟩, List.nodup_nil, ?_⟩
      show 0 = _
      omega
    · cases f with
      | zero => omega
      | succ f =>
        obtain ⟨a, r, ha⟩ := go_last h1 hg e
        have hm : a ∈ lastsM W rs low high := by rw [ha]; exact List.mem_cons_self
        obtain ⟨l1, l2, _⟩ := lasts_mem.mp hm
        obtain ⟨g1, g2, _⟩ := last_go hm
        rw [tree_node e ha]
        exact rowOf_node hr l1 l2 h2 (tree_rowOf hr f low a l1 (by omega) (by omega) g1) (tree_rowOf hr f a high l2 h2 (by omega) g2)
/-- a lot in which two rests stand with all between them -/
structure Full (W : Wd) (lot : List Int) (low high : Nat) (x : List Int) : Prop where
  pw : ((-1 : Int) :: x ++ [(W.props.length : Int)]).Pairwise (· < ·)
  sub : ∀ y ∈ x, y ∈ lot
  l : (restsM W lot).getD low 0 = -1 ∨ (restsM W lot).getD low 0 ∈ x
  h : (restsM W lot).getD high 0 = W.props.length ∨ (restsM W lot).getD high 0 ∈ x
  b : ∀ k, low < k → k < high → (restsM W lot).getD k 0 ∈ x
theorem fold_pw {l r : Int} : ∀ {row x : List Int}, (l :: x ++ [r]).Pairwise (· < ·) → (l :: row.foldl withM x ++ [r]).Pairwise (· < ·)
  | [], _, h => h
  | a :: row, x, h => fold_pw (row := row) (x := withM x a) (with_pw h)
theorem rests_pos {W : Wd} {lot : List Int} {y : Int} (h : y ∈ lot) : ∃ k, 0 < k ∧ k < lot.length + 1 ∧ (restsM W lot).getD k 0 = y := by
  have hl := rests_len W lot
  rw [← seg_all W lot] at h
  exact (seg_mem (by omega)).mp h
theorem along_node {W : Wd} {lot : List Int} (hl : LotOk W lot) {low at_ high : Nat} {A B x : List Int} (hm : at_ ∈ lastsM W (restsM W lot) low high) (h3 : high < (restsM W lot).length) (hA : RowOf (restsM W lot) low at_ A) (hB : RowOf (restsM W lot) at_ high B) (hx : Full W lot low high x)
    (aA : ∀ x, Full W lot low at_ x → alongP W (-1) W.props.length x A) (aB : ∀ x, Full W lot at_ high x → alongP W (-1) W.props.length x B) : alongP W (-1) W.props.length x (A ++ B ++ [(restsM W lot).getD at_ 0]) := by
  obtain ⟨l1, l2, _⟩ := lasts_mem.mp hm
  obtain ⟨_, _, ov⟩ := last_go hm
  have hr := rests_ok hl
  have no : ∀ {i j k : Nat}, j < (restsM W lot).length → k < (restsM W lot).length → j ≠ k → (restsM W lot).getD j 0 ≠ (restsM W lot).getD k 0 := fun hj hk hne e => hne (hr.inj hj hk e)
  have nA : ∀ k, at_ ≤ k ∨ k ≤ low → k < (restsM W lot).length → (restsM W lot).getD k 0 ∉ A := fun k hk hk2 h => by
    obtain ⟨j, a, b, c⟩ := (hA.m _).mp h
    have := hr.inj (i := j) (j := k) (by omega) hk2 c
    omega
  have nB : ∀ k, high ≤ k ∨ k ≤ at_ → k < (restsM W lot).length → (restsM W lot).getD k 0 ∉ B := fun k hk hk2 h => by
    obtain ⟨j, a, b, c⟩ := (hB.m _).mp h
    have := hr.inj (i := j) (j := k) (by omega) hk2 c
    omega
  have f1 : Full W lot low at_ x := ⟨hx.pw, hx.sub, hx.l, .inr (hx.b at_ l1 l2), fun k a b => hx.b k a (by omega)⟩
  have f2 : Full W lot at_ high (A.foldl withM x) := by
    refine ⟨fold_pw hx.pw, fun y hy => hx.sub y (fold_mem.mp hy).1, .inr (fold_mem.mpr ⟨hx.b at_ l1 l2, nA at_ (.inl (Nat.le_refl _)) (by omega)⟩), ?_, fun k a b => fold_mem.mpr ⟨hx.b k (by omega) b, nA k (.inl (by omega)) (by omega)⟩⟩
    exact hx.h.imp id fun h => fold_mem.mpr ⟨h, nA high (.inl (by omega)) h3⟩
  refine along_app (along_app (aA x f1) (aB _ f2)) ⟨?_, trivial⟩
  rw [List.foldl_append]
  refine (ob_iff (fold_pw (fold_pw hx.pw))).mpr ⟨(restsM W lot).getD low 0, (restsM W lot).getD high 0, ⟨?_, ?_, ?_, hr.lt l1 (by omega), hr.lt l2 h3, fun y hy => ?_, fun y hy => ?_⟩, ov⟩
  · exact fold_mem.mpr ⟨fold_mem.mpr ⟨hx.b at_ l1 l2, nA at_ (.inl (Nat.le_refl _)) (by omega)⟩, nB at_ (.inr (Nat.le_refl _)) (by omega)⟩
  · exact hx.l.imp id fun h => fold_mem.mpr ⟨fold_mem.mpr ⟨h, nA low (.inr (Nat.le_refl _)) (by omega)⟩, nB low (.inr (by omega)) (by omega)⟩
  · exact hx.h.imp id fun h => fold_mem.mpr ⟨fold_mem.mpr ⟨h, nA high (.inl (by omega)) h3⟩, nB high (.inl (Nat.le_refl _)) h3⟩
  · obtain ⟨h4, h5⟩ := fold_mem.mp hy
    obtain ⟨h6, h7⟩ := fold_mem.mp h4
    obtain ⟨k, k1, k2, rfl⟩ := rests_pos (W := W) (hx.sub y h6)
    have hlen := rests_len W lot
    by_cases c1 : k ≤ low
    · left
      by_cases e : k = low
      · rw [e]; exact Int.le_refl _
      · exact Int.le_of_lt (hr.lt (by omega) (by omega))
    · by_cases c2 : at_ ≤ k
      · right
        by_cases e : k = at_
        · rw [e]; exact Int.le_refl _
        · exact Int.le_of_lt (hr.lt (by omega) (by omega))
      · exact absurd ((hA.m _).mpr ⟨k, by omega, by omega, rfl⟩) h7
  · obtain ⟨h4, h5⟩ := fold_mem.mp hy
    obtain ⟨h6, h7⟩ := fold_mem.mp h4
    obtain ⟨k, k1, k2, rfl⟩ := rests_pos (W := W) (hx.sub y h6)
    have hlen := rests_len W lot
    by_cases c1 : k ≤ at_
    · left
      by_cases e : k = at_
      · rw [e]; exact Int.le_refl _
      · exact Int.le_of_lt (hr.lt (by omega) (by omega))
    · by_cases c2 : high ≤ k
      · right
        by_cases e : k = high
        · rw [e]; exact Int.le_refl _
        · exact Int.le_of_lt (hr.lt (by omega) (by omega))
      · exact absurd ((hB.m _).mpr ⟨k, by omega, by omega, rfl⟩) h5
theorem tree_along {W : Wd} {lot : List Int} (hl : LotOk W lot) : ∀ (f low high : Nat), low < high → high < (restsM W lot).length → high ≤ low + f + 1 → goM W (restsM W lot) low high = true → ∀ x, Full W lot low high x → alongP W (-1) W.props.length x (rowT (treeF W (restsM W lot) f low high))
  | f, low, high, h1, h2, h3, hg, x, hx => by
    by_cases e : high = low + 1
    · have e2 : treeF W (restsM W lot) f low high = .leaf := by
        cases f with
        | zero => rfl
        | succ f => unfold treeF; rw [if_pos e]
      rw [e2]
      trivial
    · cases f with
      | zero => omega
      | succ f =>
        obtain ⟨a, r, ha⟩ := go_last h1 hg e
        have hm : a ∈ lastsM W (restsM W lot) low high := by rw [ha]; exact List.mem_cons_self
        obtain ⟨l1, l2, _⟩ := lasts_mem.mp hm
        obtain ⟨g1, g2, _⟩ := last_go hm
        rw [tree_node e ha]
        exact along_node hl hm h2 (tree_rowOf (rests_ok hl) f low a l1 (by omega) (by omega) g1) (tree_rowOf (rests_ok hl) f a high l2 h2 (by omega) g2) hx
          (tree_along hl f low a l1 (by omega) (by omega) g1) (tree_along hl f a high l2 h2 (by omega) g2)
/-- soonest's row -/
def fallR (W : Wd) (lot : List Int) (one : Int) (p : Nat × Nat) : List Int := rowT (treeF W (restsM W lot) 14 p.1 (idxI one (restsM W lot))) ++ rowT (treeF W (restsM W lot) 14 (idxI one (restsM W lot)) p.2) ++ [one]
theorem idx_get {W : Wd} {lot : List Int} {one : Int} (h : LotOk W lot) (h1 : one ∈ lot) : (restsM W lot).getD (idxI one (restsM W lot)) 0 = one := by
  have h2 := (idx_at (rest_idx h h1).1).1
  rw [List.getD_eq_getElem?_getD, h2]
  rfl
theorem fall_ok {W : Wd} {lot : List Int} {one : Int} (hW : WOk W) (hl : LotOk W lot) (h1 : one ∈ lot) {p : Nat × Nat} (hm : idxI one (restsM W lot) ∈ lastsM W (restsM W lot) p.1 p.2) (h3 : p.2 < (restsM W lot).length) :
    RowOf (restsM W lot) p.1 p.2 (fallR W lot one p) ∧ alongP W (-1) W.props.length lot (fallR W lot one p) := by
  have hlen := rests_len W lot
  have hll := hl.len
  have hp12 := hW.p12
  obtain ⟨l1, l2, _⟩ := lasts_mem.mp hm
  obtain ⟨g1, g2, _⟩ := last_go hm
  have r1 := tree_rowOf (rests_ok hl) 14 p.1 _ l1 (by omega) (by omega) g1
  have r2 := tree_rowOf (rests_ok hl) 14 _ p.2 l2 h3 (by omega) g2
  have e := idx_get hl h1
  have a1 := rowOf_node (rests_ok hl) l1 l2 h3 r1 r2
  have fl : Full W lot p.1 p.2 lot := by
    refine ⟨hl.bt.asc, fun y h => h, ?_, ?_, fun k k1 k2 => ?_⟩
    · by_cases e : p.1 = 0
      · left; rw [e]; exact rests_0 W lot
      · right
        have := (seg_mem (rs := restsM W lot) (a := 0) (b := lot.length + 1) (by omega)).mpr ⟨p.1, by omega, by omega, rfl⟩
        rw [seg_all] at this
        exact this
    · by_cases e : p.2 = lot.length + 1
      · left; rw [e]; exact rests_last W lot
      · right
        have := (seg_mem (rs := restsM W lot) (a := 0) (b := lot.length + 1) (by omega)).mpr ⟨p.2, by omega, by omega, rfl⟩
        rw [seg_all] at this
        exact this
    · have := (seg_mem (rs := restsM W lot) (a := 0) (b := lot.length + 1) (by omega)).mpr ⟨k, by omega, by omega, rfl⟩
      rw [seg_all] at this
      exact this
  have a2 := along_node hl hm h3 r1 r2 fl (tree_along hl 14 p.1 _ l1 (by omega) (by omega) g1) (tree_along hl 14 _ p.2 l2 h3 (by omega) g2)
  rw [e] at a1 a2
  exact ⟨a1, a2⟩
end Pf
end
section
set_option Elab.async false
set_option linter.all false
set_option maxRecDepth 100000
set_option maxHeartbeats 2000000
set_option exponentiation.threshold 5000
set_option pp.maxSteps 1200
namespace Pf
open PySem PySem.Spec PyProof.Rows L2 RZ
/-! ### the nearest two rests -/
def Bd (f : Option (Nat × Nat)) (d : Int) : Prop := ∃ p, f = some p ∧ (p.2 : Int) - (p.1 : Int) ≤ d
theorem step_keep {W : Wd} {rs : List Int} {at_ : Nat} {f : Option (Nat × Nat)} {low high : Nat} {d : Int} (h : Bd f d) : Bd (stepS W rs at_ f low high) d := by
  obtain ⟨p, rfl, hp⟩ := h
  unfold stepS
  split
  · rename_i h1
    split
    · have h2 : (high : Int) - (low : Int) < (p.2 : Int) - (p.1 : Int) := of_decide_eq_true h1
      exact ⟨(low, high), rfl, by show (high : Int) - (low : Int) ≤ d; omega⟩
    · exact ⟨p, rfl, hp⟩
  · exact ⟨p, rfl, hp⟩
theorem step_new {W : Wd} {rs : List Int} {at_ : Nat} {f : Option (Nat × Nat)} {low high : Nat} (h : at_ ∈ lastsM W rs low high) : Bd (stepS W rs at_ f low high) ((high : Int) - (low : Int)) := by
  unfold stepS
  split
  · exact ⟨(low, high), rfl, Int.le_refl _⟩
  · rename_i h1
    cases f with
    | none => exact absurd rfl h1
    | some p =>
      have h2 : ¬ (high : Int) - (low : Int) < (p.2 : Int) - (p.1 : Int) := fun z => h1 (decide_eq_true z)
      exact ⟨p, rfl, by omega⟩
theorem inner_keep {W : Wd} {rs : List Int} {at_ : Nat} {f : Option (Nat × Nat)} {low : Nat} {d : Int} (h : Bd f d) : ∀ k, Bd (innerS W rs at_ f low k) d
  | 0 => h
  | k + 1 => by
    rw [inner_more]
    exact step_keep (inner_keep h k)
theorem inner_new {W : Wd} {rs : List Int} {at_ : Nat} {f : Option (Nat × Nat)} {low i : Nat} (h : at_ ∈ lastsM W rs low (at_ + 1 + i)) : ∀ k, i < k → Bd (innerS W rs at_ f low k) (((at_ + 1 + i : Nat) : Int) - (low : Int))
  | k + 1, hk => by
    rw [inner_more]
    by_cases e : i = k
    · rw [← e]; exact step_new h
    · exact step_keep (inner_new h k (by omega))
theorem outer_new {W : Wd} {rs : List Int} {at_ low i : Nat} (hi : i < rs.length - at_ - 1) (h : at_ ∈ lastsM W rs low (at_ + 1 + i)) : ∀ k, low < k → Bd (outerS W rs at_ k) (((at_ + 1 + i : Nat) : Int) - (low : Int))
  | k + 1, hk => by
    rw [outer_more]
    by_cases e : low = k
    · rw [← e]; exact inner_new h _ hi
    · exact inner_keep (outer_new hi h k (by omega)) _
theorem span_min {W : Wd} {rs : List Int} {at_ low high : Nat} (hh : high < rs.length) (h : at_ ∈ lastsM W rs low high) : Bd (spanM W rs at_) ((high : Int) - (low : Int)) := by
  obtain ⟨h1, h2, _⟩ := lasts_mem.mp h
  have e : at_ + 1 + (high - at_ - 1) = high := by omega
  have := outer_new (W := W) (rs := rs) (at_ := at_) (low := low) (i := high - at_ - 1) (by omega) (by rw [e]; exact h) at_ h1
  rw [e] at this
  exact this
/-! ### what soonest tells -/
section
variable {W : Wd} {lot : List Int} {one : Int}
theorem gone_span (hl : LotOk W lot) (h1 : one ∈ lot) {n : Nat} {x : List Int} (h : Rch W (-1) W.props.length lot n x) (ho : one ∉ x) : Bd (spanM W (restsM W lot) (idxI one (restsM W lot))) ((n : Int) + 1) := by
  obtain ⟨i, k, j, q1, q2, q3, q4, q5, q6⟩ := rch_gone hl h1 h ho
  have hri := rest_idx hl h1
  have e : k = idxI one (restsM W lot) := (rests_ok hl).inj (by omega) (idx_lt hri.1) (by rw [q4, idx_get hl h1])
  subst e
  obtain ⟨p, hp, hd⟩ := span_min q3 q5
  exact ⟨p, hp, by omega⟩
theorem rch_ok (hl : LotOk W lot) {n : Nat} {x : List Int} (h : Rch W (-1) W.props.length lot n x) : LotOk W x ∧ x.length + n = lot.length := by
  obtain ⟨a, _, b⟩ := lay_ok hl n x (lay_iff.mpr h)
  exact ⟨a, b⟩
theorem set_rch {l r : Int} {x0 : List Int} : ∀ (k n : Nat) (x : List Int), Rch W l r x0 n x → ∃ m, Rch W l r x0 m (setM W l r k x).2
  | 0, n, x, h => ⟨n, h⟩
  | k + 1, n, x, h => by
    cases e : obM W l x r with
    | nil => rw [setM_nil e]; exact ⟨n, h⟩
    | cons p ps =>
      rw [setM_cons e]
      exact set_rch k (n + 1) _ (.step h (by rw [e]; exact List.mem_cons_self))
theorem set_end {l r : Int} : ∀ (k : Nat) (x : List Int), x.length ≤ k → obM W l (setM W l r k x).2 r = []
  | 0, x, h => by
    have : x = [] := List.eq_nil_of_length_eq_zero (by omega)
    subst this
    rfl
  | k + 1, x, h => by
    cases e : obM W l x r with
    | nil => rw [setM_nil e]; exact e
    | cons p ps =>
      rw [setM_cons e]
      have := with_lt (lot := x) (p := p) (ob_mem (by rw [e]; exact List.mem_cons_self))
      exact set_end k _ (by omega)
/-- it never goes -/
theorem soon_none (hl : LotOk W lot) (h1 : one ∈ lot) (h : spanM W (restsM W lot) (idxI one (restsM W lot)) = none) : distM W lot one = none ∧ LotOk W (leftM W lot) ∧ one ∈ leftM W lot ∧ obM W (-1) (leftM W lot) W.props.length = [] := by
  have key : ∀ {n : Nat} {x : List Int}, Rch W (-1) W.props.length lot n x → one ∈ x := fun {n x} hx => by
    by_cases e : one ∈ x
    · exact e
    · obtain ⟨p, hp, _⟩ := gone_span hl h1 hx e
      rw [h] at hp
      cases hp
  obtain ⟨m, hm⟩ := set_rch (W := W) (l := -1) (r := W.props.length) lot.length 0 lot .nil
  refine ⟨?_, (rch_ok hl hm).1, key hm, set_end _ _ (Nat.le_refl _)⟩
  unfold distM
  refine List.find?_eq_none.mpr fun n _ hn => ?_
  obtain ⟨x, hx, hx2⟩ := List.any_eq_true.mp hn
  have := key (lay_iff.mp hx)
  simp [this] at hx2
theorem row_lot (hl : LotOk W lot) {p : Nat × Nat} {row : List Int} (h3 : p.2 < (restsM W lot).length) (hr : RowOf (restsM W lot) p.1 p.2 row) : ∀ y ∈ row, y ∈ lot := fun y hy => by
  obtain ⟨k, k1, k2, rfl⟩ := (hr.m y).mp hy
  have hlen := rests_len W lot
  have := (seg_mem (rs := restsM W lot) (a := 0) (b := lot.length + 1) (by omega)).mpr ⟨k, by omega, by omega, rfl⟩
  rw [seg_all] at this
  exact this
theorem row_seg (hl : LotOk W lot) {p : Nat × Nat} {row : List Int} (h3 : p.2 < (restsM W lot).length) (h0 : 0 < row.length) (hr : RowOf (restsM W lot) p.1 p.2 row) : (lot.filter fun k => decide (leastI row ≤ k) && decide (k ≤ greatI row)) = sortI row := by
  have ro := rests_ok hl
  have hlen := rests_len W lot
  have s1 : (sortI row).Pairwise (· < ·) := by
    have a := sortI_sorted row
    have b : (sortI row).Nodup := (sortI_perm row).nodup_iff.mpr hr.nd
    exact (List.pairwise_and_iff.mpr ⟨a, b⟩).imp fun ⟨h1, h2⟩ => by omega
  refine pw_one ((ascB_pw hl.asc).sublist List.filter_sublist) s1 fun y => ?_
  rw [(sortI_perm row).mem_iff, List.mem_filter, Bool.and_eq_true]
  constructor
  · rintro ⟨hy, h1, h2⟩
    have h1' := of_decide_eq_true h1
    have h2' := of_decide_eq_true h2
    obtain ⟨k, k1, k2, rfl⟩ := rests_pos (W := W) hy
    obtain ⟨a, a1, a2, a3⟩ := (hr.m _).mp (leastI_mem h0)
    obtain ⟨b, b1, b2, b3⟩ := (hr.m _).mp (greatI_mem h0)
    refine (hr.m _).mpr ⟨k, ?_, ?_, rfl⟩
    · rw [← a3] at h1'
      by_cases e : k < a
      · have := ro.lt e (by omega)
        omega
      · omega
    · rw [← b3] at h2'
      by_cases e : b < k
      · have := ro.lt e (by omega)
        omega
      · omega
  · intro hy
    exact ⟨row_lot hl h3 hr y hy, decide_eq_true (leastI_le hy), decide_eq_true (greatI_ge hy)⟩
theorem dist_is (hl : LotOk W lot) {n : Nat} (hn : n ≤ lot.length) (h1 : ∃ x, Rch W (-1) W.props.length lot n x ∧ one ∉ x) (h2 : ∀ m x, m < n → Rch W (-1) W.props.length lot m x → one ∈ x) : distM W lot one = some n := by
  obtain ⟨x, hx, ho⟩ := h1
  unfold distM
  rw [List.find?_range_eq_some]
  refine ⟨List.any_eq_true.mpr ⟨x, lay_iff.mpr hx, by simp [ho]⟩, List.mem_range.mpr (by omega), fun j hj => ?_⟩
  have : ((layerS W lot j).any fun x => !decide (one ∈ x)) = false := List.any_eq_false.mpr fun y hy => by simp [h2 j y hj (lay_iff.mp hy)]
  rw [this]
  rfl
/-- it goes: soonest's row -/
theorem soon_some (hW : WOk W) (hl : LotOk W lot) (h1 : one ∈ lot) {p : Nat × Nat} (h : spanM W (restsM W lot) (idxI one (restsM W lot)) = some p) : distM W lot one = some (p.2 - p.1 - 1) ∧ (fallR W lot one p).length = p.2 - p.1 - 1 ∧ RrOk ⟨W, lot, one, fallR W lot one p⟩ ∧ p.1 < idxI one (restsM W lot) ∧ idxI one (restsM W lot) < p.2 ∧ p.2 < (restsM W lot).length := by
  obtain ⟨s1, s2, s3, s4⟩ := span_some p h
  obtain ⟨r1, r2⟩ := fall_ok hW hl h1 s4 s3
  have hlen := rests_len W lot
  have hll := hl.len
  have hp12 := hW.p12
  have rl := r1.len
  have rr := along_rch (.nil) r2
  rw [Nat.zero_add] at rr
  have hpos : 0 < (fallR W lot one p).length := by rw [rl]; omega
  have hin : one ∈ fallR W lot one p := List.mem_append_right _ List.mem_cons_self
  have hno : one ∉ (fallR W lot one p).foldl withM lot := fun z => (fold_mem.mp z).2 hin
  refine ⟨?_, rl, ⟨hW, hl, fun n s e => along_at r2 n s e, ⟨_, rfl⟩, row_seg hl s3 hpos r1, by show (fallR W lot one p).length ≤ 20; omega⟩, s1, s2, s3⟩
  refine dist_is hl (by have := (rch_ok hl rr).2; omega) ⟨_, by rw [rl] at rr; exact rr, hno⟩ fun m x hm hx => ?_
  by_cases e : one ∈ x
  · exact e
  · obtain ⟨q, hq, hd⟩ := gone_span hl h1 hx e
    rw [h] at hq
    obtain rfl := Option.some.inj hq
    omega
/-! ### why no sooner -/
theorem reas_none {at_ : Nat} {p : Nat × Nat} (h1 : p.1 < at_) (h2 : at_ < p.2) : reasM W (restsM W lot) at_ one p = none ↔ at_ ∈ lastsM W (restsM W lot) p.1 p.2 := by
  rw [lasts_mem]
  unfold reasM lastP
  cases e1 : ovN W (restsM W lot) p.1 at_ p.2 <;> cases e2 : goM W (restsM W lot) p.1 at_ <;> cases e3 : goM W (restsM W lot) at_ p.2 <;> simp [h1, h2]
/-- below the fewest there are reasons, from them on there are none -/
theorem many_all (hW : WOk W) (hl : LotOk W lot) (h1 : one ∈ lot) {many : Int} (h : ∀ n, distM W lot one = some n → many < n) : ∀ p ∈ pairsM (idxI one (restsM W lot)) (restsM W lot).length many, reasM W (restsM W lot) (idxI one (restsM W lot)) one p ≠ none := fun p hp hn => by
  obtain ⟨a, b⟩ := List.mem_filter.mp hp
  obtain ⟨q1, q2, q3⟩ := allP_mem.mp a
  have b' := of_decide_eq_true b
  have hm := (reas_none q1 q2).mp hn
  obtain ⟨s, hs, hd⟩ := span_min q3 hm
  obtain ⟨t1, _, _, t2, t3, _⟩ := soon_some hW hl h1 hs
  have := h _ t1
  omega
theorem many_ex (hW : WOk W) (hl : LotOk W lot) (h1 : one ∈ lot) {many : Int} {n : Nat} (h : distM W lot one = some n) (hm : (n : Int) ≤ many) : ∃ p ∈ pairsM (idxI one (restsM W lot)) (restsM W lot).length many, reasM W (restsM W lot) (idxI one (restsM W lot)) one p = none := by
  cases e : spanM W (restsM W lot) (idxI one (restsM W lot)) with
  | none =>
    rw [(soon_none hl h1 e).1] at h
    cases h
  | some p =>
    obtain ⟨t1, _, _, t2, t3, t4⟩ := soon_some hW hl h1 e
    rw [t1] at h
    obtain rfl := Option.some.inj h
    refine ⟨p, List.mem_filter.mpr ⟨allP_mem.mpr ⟨t2, t3, t4⟩, decide_eq_true (by omega)⟩, (reas_none t2 t3).mpr (span_some p e).2.2.2⟩
/-- a lot that is left between two rests, of which not all go -/
theorem set_lot (hl : LotOk W lot) {a b : Nat} (hab : a < b) (hb : b < (restsM W lot).length) (hg : goM W (restsM W lot) a b = false) : lotOkM W lot ((restsM W lot).getD a 0) ((restsM W lot).getD b 0) ((setB W ((restsM W lot).getD a 0) (segM (restsM W lot) a b) ((restsM W lot).getD b 0)).map .int) = true := by
  have hr := rests_ok hl
  have hlen := rests_len W lot
  obtain ⟨m, hm⟩ := set_rch (W := W) (l := (restsM W lot).getD a 0) (r := (restsM W lot).getD b 0) (x0 := segM (restsM W lot) a b) (segM (restsM W lot) a b).length 0 _ .nil
  have he := set_end (W := W) (l := (restsM W lot).getD a 0) (r := (restsM W lot).getD b 0) (segM (restsM W lot) a b).length (segM (restsM W lot) a b) (Nat.le_refl _)
  have hs : ∀ y ∈ setB W ((restsM W lot).getD a 0) (segM (restsM W lot) a b) ((restsM W lot).getD b 0), y ∈ segM (restsM W lot) a b := hm.sub
  have pw0 : ((restsM W lot).getD a 0 :: segM (restsM W lot) a b ++ [(restsM W lot).getD b 0]).Pairwise (· < ·) := hr.pw.sublist (seg_get hab hb)
  have pw := hm.pw pw0
  have hB := asc_b pw
  have hin : ∀ y ∈ setB W ((restsM W lot).getD a 0) (segM (restsM W lot) a b) ((restsM W lot).getD b 0), y ∈ lot := fun y hy => by
    obtain ⟨k, k1, k2, rfl⟩ := (seg_mem (by omega)).mp (hs y hy)
    have := (seg_mem (rs := restsM W lot) (a := 0) (b := lot.length + 1) (by omega)).mpr ⟨k, by omega, by omega, rfl⟩
    rw [seg_all] at this
    exact this
  have pwx : (setB W ((restsM W lot).getD a 0) (segM (restsM W lot) a b) ((restsM W lot).getD b 0)).Pairwise (· < ·) := by
    obtain ⟨_, a2⟩ := List.pairwise_cons.mp pw
    exact (List.pairwise_append.mp a2).1
  have hok : LotOk W (setB W ((restsM W lot).getD a 0) (segM (restsM W lot) a b) ((restsM W lot).getD b 0)) := ⟨pw_ascB pwx, fun y hy => hl.inn y (hin y hy)⟩
  unfold lotOkM
  rw [isLotM_ok hok, intsOf_map]
  have he' : obM W ((restsM W lot).getD a 0) (setB W ((restsM W lot).getD a 0) (segM (restsM W lot) a b) ((restsM W lot).getD b 0)) ((restsM W lot).getD b 0) = [] := he
  rw [he']
  have hne : setB W ((restsM W lot).getD a 0) (segM (restsM W lot) a b) ((restsM W lot).getD b 0) ≠ [] := fun e => by
    have hm' : Rch W ((restsM W lot).getD a 0) ((restsM W lot).getD b 0) (segM (restsM W lot) a b) m (setB W ((restsM W lot).getD a 0) (segM (restsM W lot) a b) ((restsM W lot).getD b 0)) := hm
    rw [e] at hm'
    obtain ⟨i, j, q1, q2, q3, q4, q5⟩ := rch_go hr hab hb hm' ((restsM W lot).getD a 0) ((restsM W lot).getD b 0) ⟨.inl rfl, .inl rfl, hr.lt hab hb, fun y hy => nomatch hy⟩
    have e1 := hr.inj (i := i) (j := a) (by omega) (by omega) q3
    have e2 := hr.inj (i := j) (j := b) (by omega) (by omega) q4
    rw [e1, e2, hg] at q5
    cases q5
  have hne' : ((setB W ((restsM W lot).getD a 0) (segM (restsM W lot) a b) ((restsM W lot).getD b 0)).map PyData.int).isEmpty = false := by
    cases e : setB W ((restsM W lot).getD a 0) (segM (restsM W lot) a b) ((restsM W lot).getD b 0) with
    | nil => exact absurd e hne
    | cons c cs => rfl
  rw [hne']
  have hall : ((setB W ((restsM W lot).getD a 0) (segM (restsM W lot) a b) ((restsM W lot).getD b 0)).all fun i => decide (i ∈ btwM lot ((restsM W lot).getD a 0) ((restsM W lot).getD b 0))) = true := List.all_eq_true.mpr fun y hy => by
    have := hB.lo y hy
    have := hB.hi y hy
    refine decide_eq_true (List.mem_filter.mpr ⟨hin y hy, ?_⟩)
    rw [Bool.and_eq_true]
    exact ⟨decide_eq_true (by omega), decide_eq_true (by omega)⟩
  rw [hall]
  rfl
/-- the reasons that are told are right -/
theorem reas_right (hl : LotOk W lot) (h1 : one ∈ lot) {p : Nat × Nat} (q1 : p.1 < idxI one (restsM W lot)) (q2 : idxI one (restsM W lot) < p.2) (q3 : p.2 < (restsM W lot).length) {r : Rsn} (h : reasM W (restsM W lot) (idxI one (restsM W lot)) one p = some r) : isReasM W lot one ((restsM W lot).getD p.1 0) ((restsM W lot).getD p.2 0) (rsnD r) = true := by
  have eo := idx_get hl h1
  unfold reasM at h
  unfold isReasM
  split at h
  · rename_i e
    obtain rfl := Option.some.inj h
    have e2 : PyData.eqv (rsnD .bears) (.tuple [.str "bears"]) = true := by decide +kernel
    rw [if_pos e2]
    unfold ovN at e
    rw [eo] at e
    rw [e]
    rfl
  · split at h
    · rename_i _ e
      obtain rfl := Option.some.inj h
      have := set_lot hl q1 (by omega) e
      rw [eo] at this
      rw [if_neg (by show ¬ PyData.eqv (.tuple [_, _]) _ = true; rw [eqv_bears2]; exact Bool.false_ne_true)]
      exact this
    · split at h
      · rename_i _ _ e
        obtain rfl := Option.some.inj h
        have := set_lot hl q2 q3 e
        rw [eo] at this
        rw [if_neg (by show ¬ PyData.eqv (.tuple [_, _]) _ = true; rw [eqv_bears2]; exact Bool.false_ne_true)]
        exact this
      · cases h
theorem papers_right (hl : LotOk W lot) (h1 : one ∈ lot) {many : Int} (h : ∀ p ∈ pairsM (idxI one (restsM W lot)) (restsM W lot).length many, reasM W (restsM W lot) (idxI one (restsM W lot)) one p ≠ none) :
    isNosM W lot one many (.list ((pairsM (idxI one (restsM W lot)) (restsM W lot).length many).map (entD W (restsM W lot) (idxI one (restsM W lot)) one))) = true := by
  have e : (pairsM (idxI one (restsM W lot)) (restsM W lot).length many).map (entD W (restsM W lot) (idxI one (restsM W lot)) one) = ((pairsM (idxI one (restsM W lot)) (restsM W lot).length many).map fun p => ((restsM W lot).getD p.1 0, (restsM W lot).getD p.2 0, rsnD ((reasM W (restsM W lot) (idxI one (restsM W lot)) one p).getD .bears))).map uD := by
    rw [List.map_map]
    rfl
  rw [e]
  show ((List.map uD _).all (fun d => (untold d).isSome) && (decide (((List.map uD _).filterMap untold).map (fun u => (u.1, u.2.1)) = dueM (restsM W lot) (pairsM (idxI one (restsM W lot)) (restsM W lot).length many)) && ((List.map uD _).filterMap untold).all fun u => isReasM W lot one u.1 u.2.1 u.2.2)) = true
  obtain ⟨u1, u2⟩ := untold_u ((pairsM (idxI one (restsM W lot)) (restsM W lot).length many).map fun p => ((restsM W lot).getD p.1 0, (restsM W lot).getD p.2 0, rsnD ((reasM W (restsM W lot) (idxI one (restsM W lot)) one p).getD .bears)))
  rw [u1, u2, Bool.true_and, Bool.and_eq_true]
  refine ⟨decide_eq_true ?_, List.all_eq_true.mpr fun u hu => ?_⟩
  · rw [List.map_map]
    rfl
  · obtain ⟨p, hp, rfl⟩ := List.mem_map.mp hu
    obtain ⟨q1, q2, q3⟩ := allP_mem.mp (List.mem_filter.mp hp).1
    cases er : reasM W (restsM W lot) (idxI one (restsM W lot)) one p with
    | none => exact absurd er (h p hp)
    | some r => exact reas_right hl h1 q1 q2 q3 er
end
end Pf
end
section
set_option Elab.async false
set_option linter.all false
set_option maxRecDepth 100000
set_option maxHeartbeats 2000000
set_option exponentiation.threshold 5000
set_option pp.maxSteps 1200
namespace Pf
open PySem PySem.Spec PyProof.Rows L2 RZ
section
variable {g : Pg} {C : Ct} {e a b c o : Expr} {es rest : List Expr} {pos p p2 : Pos} {M : Ml} {δ : Sd} {T Ta Tb : Ty} {Rn : Ty → Prop} {Ro : Addr → Ty → List Ty → Prop}
/-- due or 0 -/
theorem xe_dueor {o : Option Nat} (ha : XE g C M δ a (tD g.K (optI o))) (hb : XE g C M δ b (tD g.K (.int 0))) : XE g C M δ (.BoolOp .Or [a, b] pos) (tD g.K (.int ((o.getD 0 : Nat) : Int))) := fun Z σ H hs hA Q kk => by
  refine w_pe (t := tOrT g.K (wE g C a) (wE g C (.BoolOp .Or [b] pos))) ?_ fun i => pe_orT (X := C.X g i) (pe_w i) (pe_w i)
  refine ha Z σ H hs hA _ fun v H1 f1 A1 t1 => ?_
  cases o with
  | none =>
    rw [rp_non t1]
    exact ⟨false, rfl, iteF ((xe_one hb) Z σ H1 (hs.mono f1.out) A1 Q fun w H2 f2 A2 t2 => kk w H2 (f1.trans f2) A2 t2)⟩
  | some n =>
    rw [rp_int t1]
    by_cases hn : n = 0
    · subst hn
      exact ⟨false, rfl, iteF ((xe_one hb) Z σ H1 (hs.mono f1.out) A1 Q fun w H2 f2 A2 t2 => kk w H2 (f1.trans f2) A2 t2)⟩
    · refine ⟨true, ?_, iteT (kk _ H1 f1 A1 (.int _))⟩
      show true = ((n : Int) != 0)
      simp [hn]
theorem xt_neB {s t : Bool} (ha : XE g C M δ a (tD g.K (.bool s))) (hb : XE g C M δ b (tD g.K (.bool t))) : XT g C M δ (.Compare a [.NotEq] [b] pos) (!decide (s = t)) :=
  xt_cmpV (fun _ => op_ne) (fun B H x y Q _ hx hy q => by
    rw [rp_bl hx, rp_bl hy]
    have e : decide (V.bl s = V.bl t) = decide (s = t) := by by_cases h : s = t <;> simp [h]
    exact ⟨rfl, by rw [e]; exact q⟩) ha hb (nomark _)
/-- a call that gives no new list here -/
theorem XEr.only (h : XEr g C M δ e Rn Ro) (h1 : ∀ T', Rn T' → T' = T) (h2 : ∀ L T' ts, ¬ Ro L T' ts) : XE g C M δ e T := fun Z σ H hs hA Q kk => h Z σ H hs hA Q (fun T' v H' r f A t => kk v H' f A (by rw [← h1 T' r]; exact t)) fun L ts T' v H' r => absurd r (h2 L T' ts)
end
/-! ### sizes of reasons -/
theorem rch_len {W : Wd} {l r : Int} {x0 : List Int} : ∀ {n : Nat} {x : List Int}, Rch W l r x0 n x → x.length ≤ x0.length
  | _, _, .nil => Nat.le_refl _
  | _, _, .step (x := x) h _ => Nat.le_trans (List.length_filter_le _ x) (rch_len h)
theorem setB_len (W : Wd) (l : Int) (x : List Int) (r : Int) : (setB W l x r).length ≤ x.length := by
  obtain ⟨m, h⟩ := set_rch (W := W) (l := l) (r := r) (x0 := x) x.length 0 x .nil
  exact rch_len h
def entR (W : Wd) (lot : List Int) (one : Int) (p : Nat × Nat) : Int × Int × Rsn := ((restsM W lot).getD p.1 0, (restsM W lot).getD p.2 0, (reasM W (restsM W lot) (idxI one (restsM W lot)) one p).getD .bears)
theorem ent_rs (W : Wd) (lot : List Int) (one : Int) (ps : List (Nat × Nat)) : ps.map (entD W (restsM W lot) (idxI one (restsM W lot)) one) = (ps.map (entR W lot one)).map rsE := by
  rw [List.map_map]
  rfl
theorem ent_z {W : Wd} {lot : List Int} {one : Int} (hl : LotOk W lot) (h12 : lot.length ≤ 12) {p : Nat × Nat} (h3 : p.2 < (restsM W lot).length) (h1 : idxI one (restsM W lot) < (restsM W lot).length) : rsnZ (entR W lot one p).2.2 ≤ 12 := by
  have hlen := rests_len W lot
  show rsnZ ((reasM W (restsM W lot) (idxI one (restsM W lot)) one p).getD .bears) ≤ 12
  unfold reasM
  split
  · exact Nat.zero_le _
  · split
    · have a := setB_len W ((restsM W lot).getD p.1 0) (segM (restsM W lot) p.1 (idxI one (restsM W lot))) one
      have b := seg_len (rs := restsM W lot) (a := p.1) (b := idxI one (restsM W lot)) (by omega)
      show (setB W ((restsM W lot).getD p.1 0) (segM (restsM W lot) p.1 (idxI one (restsM W lot))) one).length ≤ 12
      omega
    · split
      · have a := setB_len W one (segM (restsM W lot) (idxI one (restsM W lot)) p.2) ((restsM W lot).getD p.2 0)
        have b := seg_len (rs := restsM W lot) (a := idxI one (restsM W lot)) (b := p.2) (by omega)
        show (setB W one (segM (restsM W lot) (idxI one (restsM W lot)) p.2) ((restsM W lot).getD p.2 0)).length ≤ 12
        omega
      · exact Nat.zero_le _
/-- the papers that no_sooner tells -/
abbrev prsL (W : Wd) (lot : List Int) (one many : Int) : List (Nat × Nat) := pairsM (idxI one (restsM W lot)) (restsM W lot).length many
abbrev papL (W : Wd) (lot : List Int) (one many : Int) : List PyData := (prsL W lot one many).map (entD W (restsM W lot) (idxI one (restsM W lot)) one)
section
variable {W : Wd} {lot : List Int} {one many : Int}
theorem prs_len (hl : LotOk W lot) (h12 : lot.length ≤ 12) (ho : one ∈ lot) : (prsL W lot one many).length ≤ 90 := by
  have hlen := rests_len W lot
  obtain ⟨h1, h2, h3⟩ := rest_idx hl ho
  refine Nat.le_trans (List.length_filter_le _ _) ?_
  rw [allP_len, hlen]
  generalize idxI one (restsM W lot) = i at h2 h3
  have a : i ≤ 13 := by omega
  have b : i * (lot.length + 2 - i - 1) ≤ i * (13 - i) := Nat.mul_le_mul_left _ (by omega)
  have c : ∀ i ≤ 13, i * (13 - i) ≤ 90 := by decide
  exact Nat.le_trans b (c i a)
theorem prs_at (hl : LotOk W lot) (ho : one ∈ lot) {p : Nat × Nat} (hp : p ∈ prsL W lot one many) : p.1 < idxI one (restsM W lot) ∧ idxI one (restsM W lot) < p.2 ∧ p.2 < (restsM W lot).length := allP_mem.mp (List.mem_filter.mp hp).1
theorem pap_es (hl : LotOk W lot) (h12 : lot.length ≤ 12) (ho : one ∈ lot) : EsK (papL W lot one many) := by
  unfold papL
  rw [ent_rs]
  refine ⟨fun e he => ?_, by rw [List.length_map, List.length_map]; have := prs_len (many := many) hl h12 ho; omega⟩
  obtain ⟨u, hu, rfl⟩ := List.mem_map.mp he
  obtain ⟨p, hp, rfl⟩ := List.mem_map.mp hu
  obtain ⟨q1, q2, q3⟩ := prs_at hl ho hp
  exact rsE_ok (ent_z hl h12 q3 (by omega))
theorem rest_small (hW : WOk W) (hl : LotOk W lot) {i : Nat} (hi : i < (restsM W lot).length) : ((restsM W lot).getD i 0).natAbs < 1000 := by
  have h12 := hW.p12
  rw [getD_at hi]
  have hm : (restsM W lot)[i] ∈ restsM W lot := List.getElem_mem hi
  generalize (restsM W lot)[i] = y at hm
  have hm' : y ∈ -1 :: (lot ++ [(W.props.length : Int)]) := hm
  rcases List.mem_cons.mp hm' with e | hm'
  · omega
  rcases List.mem_append.mp hm' with hm' | hm'
  · have := hl.inn y hm'
    omega
  · have := List.mem_singleton.mp hm'
    omega
theorem set_small (hW : WOk W) (hl : LotOk W lot) {a b : Nat} (hb : b ≤ (restsM W lot).length) {l r : Int} : ∀ i ∈ setB W l (segM (restsM W lot) a b) r, i.natAbs < 1000 := fun i hi => by
  obtain ⟨m, hm⟩ := set_rch (W := W) (l := l) (r := r) (x0 := segM (restsM W lot) a b) (segM (restsM W lot) a b).length 0 _ .nil
  have h := hm.sub i hi
  obtain ⟨k, _, k2, rfl⟩ := (seg_mem hb).mp h
  exact rest_small hW hl (by omega)
theorem sw_lot {s : Str} (hs : s = "left" ∨ s = "right") {x : List Int} (h : ∀ i ∈ x, i.natAbs < 1000) (hz : x.length ≤ 12) : Sw 2 600 (.tuple [.str s, .tuple (x.map .int)]) := by
  have a : Sw 1 200 (.tuple (x.map .int)) := ((sw_ints h hz).2).mono (by decide) (by decide)
  have b : Sw 1 200 (.str s) := by
    refine (Sw.str (n := 1) (sh_lr (n := 0) (hs.imp id .inl)).lay ?_).mono (by decide) (by decide)
    rcases hs with rfl | rfl <;> decide +kernel
  exact (Sw.tup (n := 1) (w := 200) (k := 2) (xs := [.str s, .tuple (x.map .int)]) (fun y hy => by
    rcases List.mem_cons.mp hy with e | hy
    · rw [e]; exact b
    · rw [List.mem_singleton.mp hy]; exact a) (Nat.le_refl 2)).mono (by decide) (by decide)
theorem sw_bears : Sw 2 600 (.tuple [.str "bears"]) := by
  have b : Sw 1 200 (.str "bears") := (Sw.str (n := 1) (sh_lr (n := 0) (.inr (.inr rfl))).lay (by decide +kernel)).mono (by decide) (by decide)
  exact (Sw.tup (n := 1) (w := 200) (k := 1) (xs := [.str "bears"]) (fun y hy => by rw [List.mem_singleton.mp hy]; exact b) (Nat.le_refl 1)).mono (by decide) (by decide)
theorem sw_rsn (hW : WOk W) (hl : LotOk W lot) (h12 : lot.length ≤ 12) {p : Nat × Nat} (h3 : p.2 < (restsM W lot).length) (h1 : idxI one (restsM W lot) < (restsM W lot).length) : Sw 2 600 (rsnD (entR W lot one p).2.2) := by
  have hz := ent_z (one := one) hl h12 h3 h1
  revert hz
  show rsnZ ((reasM W (restsM W lot) (idxI one (restsM W lot)) one p).getD .bears) ≤ 12 → Sw 2 600 (rsnD ((reasM W (restsM W lot) (idxI one (restsM W lot)) one p).getD .bears))
  unfold reasM
  split
  · exact fun _ => sw_bears
  · split
    · exact fun hz => sw_lot (.inl rfl) (set_small hW hl (by omega)) hz
    · split
      · exact fun hz => sw_lot (.inr rfl) (set_small hW hl (by omega)) hz
      · exact fun _ => sw_bears
theorem sw_pap (hW : WOk W) (hl : LotOk W lot) (ho : one ∈ lot) : Sw 4 (90 * 2001) (.list (papL W lot one many)) := by
  have h12 : lot.length ≤ 12 := Nat.le_trans hl.len hW.p12
  refine Sw.lst (n := 3) (w := 2000) (fun x hx => ?_) (by unfold papL; rw [List.length_map]; exact prs_len hl h12 ho)
  obtain ⟨p, hp, rfl⟩ := List.mem_map.mp hx
  obtain ⟨q1, q2, q3⟩ := prs_at hl ho hp
  have s1 : Sw 2 600 (.int ((restsM W lot).getD p.1 0)) := (Sw.int (n := 2) (rest_small hW hl (by omega))).mono (by decide) (by decide)
  have s2 : Sw 2 600 (.int ((restsM W lot).getD p.2 0)) := (Sw.int (n := 2) (rest_small hW hl q3)).mono (by decide) (by decide)
  have s3 := sw_rsn (one := one) hW hl h12 q3 (by omega)
  exact (Sw.tup (n := 2) (w := 600) (k := 3) (xs := [.int ((restsM W lot).getD p.1 0), .int ((restsM W lot).getD p.2 0), rsnD (entR W lot one p).2.2]) (fun y hy => by
    rcases List.mem_cons.mp hy with e | hy
    · rw [e]; exact s1
    rcases List.mem_cons.mp hy with e | hy
    · rw [e]; exact s2
    · rw [List.mem_singleton.mp hy]; exact s3) (Nat.le_refl 3)).mono (by decide) (by decide)
theorem full_lot (hl : LotOk W lot) (h : lot.length = W.props.length) : lot = lotM W none := by
  have hn := lotM_ok (W := W) (lo := none) fun l e => nomatch e
  refine pw_one (ascB_pw hl.asc) (ascB_pw hn.asc) fun x => ⟨fun hx => ?_, fun hx => ?_⟩
  · have := hl.inn x hx
    refine List.mem_map.mpr ⟨x.toNat, List.mem_range.mpr (by omega), by omega⟩
  · have hsub := nodup_sub_len (l := x :: lot) (m := lotM W none)
    by_cases e : x ∈ lot
    · exact e
    · have := hsub (List.nodup_cons.mpr ⟨e, lot_nodup hl⟩) fun y hy => by
        rcases List.mem_cons.mp hy with e | hy
        · rw [e]; exact hx
        · have := hl.inn y hy
          exact List.mem_map.mpr ⟨y.toNat, List.mem_range.mpr (by omega), by omega⟩
      have hl2 : (lotM W none).length = W.props.length := by
        unfold lotM
        rw [List.length_map, List.length_range]
      rw [List.length_cons] at this
      omega
end
end Pf
end
section
set_option Elab.async false
set_option linter.all false
set_option maxRecDepth 100000
set_option maxHeartbeats 2000000
set_option exponentiation.threshold 5000
set_option pp.maxSteps 1200
namespace Pf
open PySem PySem.Spec PyProof.Rows L2 RZ
/-! ### _law_right -/
theorem Le.eq {x : Option Ty} {δ δ' : Sd} (h : Le δ δ') : Le (x :: δ) (x :: δ') := by
  cases x with
  | none => exact .no h
  | some T => exact .is h
structure RtF (g : Pg) : Prop where
  so : FnT_soonest g
  ns : FnT_no_sooner g
  is_ : FnT_is_no_sooner g
  iv : FnV g "is_no_sooner" ["plank", "weights", "prop", "many", "thing", "lot"] [.non] 10 (inSp g)
  ct : FnT_Plank_count g
  di : FnT__law_distance g
  ov : FnT__law_over g
  rr : FnT__law_row_right g
  pr : FnT__law_papers_right g
  sp : FnT__law_spoilt g
abbrev rtN : List Str := ["_law_table_here", "_law_plank", "_law_laid", "_law_troop", "_law_one", "_law_digits_here", "_law_many", "_law_due", "_law_word", "_law_told", "_law_saved", "_law_number", "_law_papers", "_law_other", "_law_more", "_law_thing", "_law_at", "_law_found"]
theorem sc__law_right : FnScope rtN ["_law_table_here", "_law_plank", "_law_laid", "_law_troop", "_law_one", "_law_digits_here"] (defScope sLawRight) := ⟨rfl, rfl, rfl, by decide +kernel, rfl, by decide +kernel, by decide +kernel⟩
structure RtZ where
  W : Wd
  lot : List Int
  one : Int
  ds : List Int
structure RtOk (z : RtZ) : Prop where
  w : WOk z.W
  l : LotOk z.W z.lot
  o : z.one ∈ z.lot
  m : z.lot.length ≤ 7
  ds : 20 ≤ z.ds.length
  nn : ∀ d ∈ z.ds, 0 ≤ d
abbrev rtD (g : Pg) (z : RtZ) (d : Option Nat) (a8 a9 a10 a11 a12 a13 a14 a15 a16 a17 : Option Ty) : Sd := [some (tTabW z.W), some (tPlank g z.W), some (tD g.K (.list (z.W.wts.map wtD))), some (tKt z.lot), some (tD g.K (.int z.one)), some (tD g.K (.list (z.ds.map .int))), some (tD g.K (.int (z.W.props.length : Int))), some (tD g.K (optI d)), a8, a9, a10, a11, a12, a13, a14, a15, a16, a17]
abbrev rtC (g : Pg) (cdv : Value) (Ar : Around) (outer : List Env) (s : Shared) (H : Hp) : Ct := ctOf (cxOf CX0 g.P g.w g.K g.mg g.base rtN dLawRight.qual dLawRight.scope (He.ga g.K "_law_right") cdv Ar outer s H E0)
def forB : Stmt → List Stmt
  | .For _ _ b _ _ => b
  | _ => []
abbrev rtLoop : List Stmt := forB ((defBody sLawRight).getD 5 (.Pass ⟨0, 0, 0, 0⟩))
section
variable {g : Pg} {cdv : Value} {Ar : Around} {outer : List Env} {s : Shared} {H : Hp} {z : RtZ} {d : Option Nat}
theorem in_ok (hz : RtOk z) {at_ : Int} (ha : 1 ≤ at_) {th : PyData} (ht : ThK th) : InOk ⟨z.W, some z.lot, z.one, at_, th⟩ := ⟨hz.w, fun l e => by rw [← Option.some.inj e]; exact hz.l, hz.o, ha, ht.ok⟩
theorem rt_inner (T : Tx g) (F : RtF g) (hgd : Ar.guards = some []) (hr : Room 54 (Ar.deeper (envOfC dLawRight.qual dLawRight.scope s.heap.objs.size (He.ga g.K "_law_right") cdv))) (hz : RtOk z) {num : Int} (hn : 1 ≤ num) {th d13 d14 : PyData} (t12 : ThK th) (t13 : ThK d13) (t14 : ThK d14) {a8 a9 a10 : Option Ty} {P : Po}
    (hP : P.nx ⟨rtD g z d a8 a9 a10 (some (tD g.K (.int num))) (some (tD g.K th)) (some (tD g.K d13)) (some (tD g.K d14)) none none none, [], []⟩) :
    XB g (rtC g cdv Ar outer s H) ⟨rtD g z d a8 a9 a10 (some (tD g.K (.int num))) (some (tD g.K th)) (some (tD g.K d13)) (some (tD g.K d14)) none none none, [], []⟩ (rtLoop.drop 10) P := by
  have nd := sc__law_right.nd
  refine xb_one (xs_forL [th, d13, d14] (fun _ => ⟨rtD g z d a8 a9 a10 (some (tD g.K (.int num))) (some (tD g.K th)) (some (tD g.K d13)) (some (tD g.K d14)) none none none, [], []⟩) (fun _ x => rtD g z d a8 a9 a10 (some (tD g.K (.int num))) (some (tD g.K th)) (some (tD g.K d13)) (some (tD g.K d14)) (some (tD g.K x)) none none) (xe_lstD (ds := [th, d13, d14]) (xa_cons (xe_name (i := 12) rfl) (xa_cons (xe_name (i := 13) rfl) (xa_cons (xe_name (i := 14) rfl) xa_nil)))) ⟨Le.refl _, rfl, rfl⟩ (fun n x hx => xg_name 15) (fun n x hx => ?_) hP (fun jj => pg_nm 15 jj nd))
  have tx : ThK x := by
    rcases List.mem_cons.mp (List.mem_of_getElem? hx) with e | h
    · rw [e]; exact t12
    rcases List.mem_cons.mp h with e | h
    · rw [e]; exact t13
    · rw [List.mem_singleton.mp h]; exact t14
  refine xb_one (xs_forL [.int num, .int (num + 1)] (fun _ => ⟨rtD g z d a8 a9 a10 (some (tD g.K (.int num))) (some (tD g.K th)) (some (tD g.K d13)) (some (tD g.K d14)) (some (tD g.K x)) none none, [], []⟩) (fun _ y => rtD g z d a8 a9 a10 (some (tD g.K (.int num))) (some (tD g.K th)) (some (tD g.K d13)) (some (tD g.K d14)) (some (tD g.K x)) (some (tD g.K y)) none) (xe_lstD (ds := [.int num, .int (num + 1)]) (xa_cons (xe_name (i := 11) rfl) (xa_cons (xe_add (xe_name (i := 11) rfl) xe_int) xa_nil))) ⟨Le.refl _, rfl, rfl⟩ (fun n y hy => xg_name 16) (fun n y hy => ?_) ?_ (fun jj => pg_nm 16 jj nd))
  · obtain ⟨at_, rfl, ha⟩ : ∃ i : Int, y = .int i ∧ 1 ≤ i := by
      rcases List.mem_cons.mp (List.mem_of_getElem? hy) with e | h
      · exact ⟨num, e, hn⟩
      · exact ⟨num + 1, List.mem_singleton.mp h, by omega⟩
    refine xb_cons (xs_set 17 (T := tD g.K (.bool (isNosM z.W z.lot z.one at_ x))) (xe_callK F.is_ (fun _ => hr.mono (by decide)) ⟨⟨z.W, some z.lot, z.one, at_, x⟩, in_ok hz ha tx⟩ (xa_cons (xe_name (i := 1) rfl) (xa_cons (xe_name (i := 2) rfl) (xa_cons (xe_name (i := 4) rfl) (xa_cons (xe_name (i := 16) rfl) (xa_cons (xe_name (i := 15) rfl) xa_nil))))) (xk_cons (XE.dD (xe_name (i := 3) rfl)) xk_nil) rfl rfl rfl) ?_ nd)
    refine xb_one (xs_if (xt_neB (xe_name (i := 17) rfl) (xe_callG F.pr (fun _ => hgd) (fun _ => hr.mono (by decide)) ⟨⟨z.W, z.lot, z.one, at_, x⟩, hz.w, hz.l, hz.o, tx⟩ (xa_cons (xe_name (i := 0) rfl) (xa_cons (xe_name (i := 6) rfl) (xa_cons (XE.dD (xe_name (i := 3) rfl)) (xa_cons (xe_name (i := 4) rfl) (xa_cons (xe_name (i := 16) rfl) (xa_cons (xe_name (i := 15) rfl) xa_nil)))))))) (fun hb => absurd hb (by simp)) (fun hb => xb_nil ⟨?_, rfl, rfl⟩))
    repeat' first | exact Le.nil | refine Le.eq ?_ | refine Le.no ?_
  · refine ⟨?_, rfl, rfl⟩
    repeat' first | exact Le.nil | refine Le.eq ?_ | refine Le.no ?_
end
end Pf
end
section
set_option Elab.async false
set_option linter.all false
set_option maxRecDepth 100000
set_option maxHeartbeats 2000000
set_option exponentiation.threshold 5000
set_option pp.maxSteps 1200
namespace Pf
open PySem PySem.Spec PyProof.Rows L2 RZ
theorem cut_from (L : List Int) {n : Int} (h : 0 ≤ n) : PyData.list (cutD (L.map .int) (some n) none) = .list ((L.drop n.toNat).map .int) := by
  unfold cutD
  congr 1
  have e1 : HT.sIx (L.map PyData.int).length (L.map PyData.int).length none = (L.map PyData.int).length := rfl
  have e2 : HT.sIx (L.map PyData.int).length 0 (some n) = min n.toNat (L.map PyData.int).length := by
    unfold HT.sIx
    simp only
    split <;> omega
  rw [e1, e2, List.map_drop]
  rcases Nat.le_total n.toNat (L.map PyData.int).length with h2 | h2
  · rw [Nat.min_eq_left h2]
    exact List.take_of_length_le (by rw [List.length_drop]; exact Nat.le_refl _)
  · rw [Nat.min_eq_right h2, Nat.sub_self, List.take_zero, List.drop_eq_nil_of_le h2]
theorem eqv_due (num : Int) (d : Option Nat) : PyData.eqv (.int num) (optI d) = decide (∃ n, d = some n ∧ num = (n : Int)) := by
  cases d with
  | none =>
    have : ¬ ∃ n : Nat, (none : Option Nat) = some n ∧ num = (n : Int) := fun ⟨n, h, _⟩ => nomatch h
    rw [decide_eq_false this]
    rfl
  | some m =>
    show (num == (m : Int)) = _
    by_cases h : num = m
    · have : ∃ n : Nat, some m = some n ∧ num = (n : Int) := ⟨m, rfl, h⟩
      rw [decide_eq_true this, beq_iff_eq.mpr h]
    · have : ¬ ∃ n : Nat, some m = some n ∧ num = (n : Int) := fun ⟨n, h1, h2⟩ => h (by rw [h2, Option.some.inj h1])
      rw [decide_eq_false this]
      exact beq_eq_false_iff_ne.mpr h
theorem sh_opt (d : Option Nat) : Sh 1 (optI d) := by
  cases d with
  | none => exact Sh.non
  | some n => exact Sh.int _
theorem XT_to {g : Pg} {C : Ct} {M : Ml} {δ : Sd} {e : Expr} {k k' : Bool} (s : k = k') (h : XW g C M δ e k) : XW g C M δ e k' := s ▸ h
section
variable {g : Pg} {cdv : Value} {Ar : Around} {outer : List Env} {s : Shared} {H : Hp} {z : RtZ} {d : Option Nat}
theorem ns_ok (hz : RtOk z) {num : Int} (h : 1 ≤ num) : NsOk ⟨z.W, some z.lot, z.one, num⟩ := ⟨hz.w, fun l e => by rw [← Option.some.inj e]; exact hz.l, hz.o, h⟩
theorem rt_body (T : Tx g) (F : RtF g) (hgd : Ar.guards = some []) (hr : Room 54 (Ar.deeper (envOfC dLawRight.qual dLawRight.scope s.heap.objs.size (He.ga g.K "_law_right") cdv))) (hz : RtOk z) (hd : distM z.W z.lot z.one = d) {num : Int} (h1 : 1 ≤ num) (h9 : num ≤ 9) (h2 : ∀ n : Nat, d = some n → num ≤ n) {P : Po}
    (hP : ∀ q', Sub q' ⟨rtD g z d none none none none none none none none none none, [], []⟩ → P.nx q') (hR : P.rt (tD g.K (.bool true))) :
    XB g (rtC g cdv Ar outer s H) ⟨rtD g z d none none none (some (tD g.K (.int num))) none none none none none none, [], []⟩ rtLoop P := by
  have nd := sc__law_right.nd
  have h12 : z.lot.length ≤ 12 := Nat.le_trans hz.l.len hz.w.p12
  have hes : ∀ {many : Int}, EsK (papL z.W z.lot z.one many) := pap_es hz.l h12 hz.o
  have call : ∀ {C : Ct} {M : Ml} {δ : Sd}, True := fun {_ _ _} => trivial
  refine xb_cons (xs_setR 12 (xer_callK F.ns (fun _ => hr.mono (by decide)) ⟨⟨z.W, some z.lot, z.one, num⟩, ns_ok hz h1⟩ (xa_cons (xe_name (i := 1) rfl) (xa_cons (xe_name (i := 2) rfl) (xa_cons (xe_name (i := 4) rfl) (xa_cons (xe_name (i := 11) rfl) xa_nil)))) (xk_cons (XE.dD (xe_name (i := 3) rfl)) xk_nil) rfl rfl rfl) (fun T1 hT => ?_) (fun la ts1 T1 hT => ?_) nd)
  · obtain ⟨⟨p, hp, hpn⟩, rfl⟩ := hT
    have hex : ∃ n : Nat, d = some n ∧ num = (n : Int) := by
      cases hdd : d with
      | none =>
        refine absurd hpn (many_all hz.w hz.l hz.o (many := num) (fun n hn => ?_) p hp)
        rw [hd, hdd] at hn
        exact nomatch hn
      | some n =>
        refine ⟨n, rfl, ?_⟩
        have := h2 n hdd
        by_cases e : num < n
        · refine absurd hpn (many_all hz.w hz.l hz.o (many := num) (fun n' hn => ?_) p hp)
          rw [hd, hdd] at hn
          rw [← Option.some.inj hn]
          exact e
        · omega
    refine xb_cons (xs_if (xt_eqD (fun _ => hr) (Sh.int (n := 0) num).ok (sh_opt d).ok (xe_name (i := 11) rfl) (xe_name (i := 7) rfl)) (fun hb => ?_) (fun hb => ?_))
    · refine xb_one (xs_ret (T := tD g.K (.bool true)) (XE.toD (xe_and (ka := true) (kb := true) (xe_isN (non_d .none) (xe_name (i := 12) rfl) xe_non) fun _ => xe_one (xe_isN (non_d .none) (XEr.only (xer_callK F.ns (fun _ => hr.mono (by decide)) ⟨⟨z.W, some z.lot, z.one, num + 2⟩, ns_ok hz (by omega)⟩ (xa_cons (xe_name (i := 1) rfl) (xa_cons (xe_name (i := 2) rfl) (xa_cons (xe_name (i := 4) rfl) (xa_cons (xe_add (xe_name (i := 11) rfl) xe_int) xa_nil)))) (xk_cons (XE.dD (xe_name (i := 3) rfl)) xk_nil) rfl rfl rfl) (fun T' h => h.2) fun L T' ts h => ?_) xe_non)) rfl) hR)
      obtain ⟨n, hn, hnn⟩ := hex
      obtain ⟨p2, hp2, hn2⟩ := many_ex hz.w hz.l hz.o (many := num + 2) (n := n) (by rw [hd, hn]) (by omega)
      exact h.1 p2 hp2 hn2
    · rw [eqv_due, decide_eq_true hex] at hb
      exact nomatch hb
  · obtain ⟨hall, rfl, rfl⟩ := hT
    have hno : ¬ ∃ n : Nat, d = some n ∧ num = (n : Int) := fun ⟨n, hn, hnn⟩ => by
      obtain ⟨p2, hp2, hn2⟩ := many_ex hz.w hz.l hz.o (many := num) (n := n) (by rw [hd, hn]) (by omega)
      exact hall p2 hp2 hn2
    have hpr : isNosM z.W z.lot z.one num (.list (papL z.W z.lot z.one num)) = true := papers_right hz.l hz.o hall
    refine xb_cons (xs_if (xt_eqD (fun _ => hr) (Sh.int (n := 0) num).ok (sh_opt d).ok (xe_name (i := 11) rfl) (xe_name (i := 7) rfl)) (fun hb => ?_) (fun hb => ?_))
    · rw [eqv_due, decide_eq_false hno] at hb
      exact nomatch hb
    refine xb_nil ?_
    have hsw := sw_pap (many := num) hz.w hz.l hz.o
    have hrf : ∀ {ds : List PyData} (B : Hp) (v : V), Rp g.K B v (.list ds) → ∃ a, v = .ref a := fun B v h => by
      obtain ⟨a, _, rfl, _⟩ := rp_lst h
      exact ⟨a, rfl⟩
    refine xb_cons (xs_ifOwn 12 (O1 := []) (O2 := []) (l := la) (ds := papL z.W z.lot z.one num) rfl rfl rfl (xt_not (xt_val (xe_callG F.pr (fun _ => hgd) (fun _ => hr.mono (by decide)) ⟨⟨z.W, z.lot, z.one, num, .list (papL z.W z.lot z.one num)⟩, hz.w, hz.l, hz.o, .lst _ hes⟩ (xa_cons (xe_name (i := 0) rfl) (xa_cons (xe_name (i := 6) rfl) (xa_cons (XE.dD (xe_name (i := 3) rfl)) (xa_cons (xe_name (i := 4) rfl) (xa_cons (xe_name (i := 11) rfl) (xa_cons (xe_name (i := 12) rfl) xa_nil))))))))) (fun hb => ?_) (fun hb => ?_))
    · have hb' : (!isNosM z.W z.lot z.one num (.list (papL z.W z.lot z.one num))) = true := hb
      rw [hpr] at hb'
      exact nomatch hb'
    refine xb_nil ?_
    refine xb_cons (xs_setOwn 10 12 (O1 := []) (O2 := []) (l := la) (ds := papL z.W z.lot z.one num) (T := tD g.K (.str (PyData.list (papL z.W z.lot z.one num)).shown)) rfl rfl rfl (xe_reprS (fun _ => hr) (fun _ => hgd) (T.free 105 rfl) hsw hrf (ha := xe_name (i := 12) rfl)) flat_str ?_ nd)
    refine xb_cons (xs_app (i := 12) (O1 := []) (O2 := []) (l := la) (T := tD g.K .none) rfl rfl xe_non (by rw [List.length_map]; exact Nat.lt_of_le_of_lt (hes (many := num)).len (by decide)) ?_)
    refine xb_cons (xs_setR 12 (xer_callK F.ns (fun _ => hr.mono (by decide)) ⟨⟨z.W, some z.lot, z.one, num⟩, ns_ok hz h1⟩ (xa_cons (xe_name (i := 1) rfl) (xa_cons (xe_name (i := 2) rfl) (xa_cons (xe_name (i := 4) rfl) (xa_cons (xe_name (i := 11) rfl) xa_nil)))) (xk_cons (XE.dD (xe_name (i := 3) rfl)) xk_nil) rfl rfl rfl) (fun T1 hT => ?_) (fun lb ts1 T1 hT => ?_) nd)
    · obtain ⟨⟨p, hp, hpn⟩, _⟩ := hT
      exact absurd hpn (hall p hp)
    obtain ⟨_, rfl, rfl⟩ := hT
    refine xb_cons (xs_ifOwn 12 (O1 := [(la, _)]) (O2 := []) (l := lb) (ds := papL z.W z.lot z.one num) rfl rfl rfl (xt_neS (xe_reprS (fun _ => hr) (fun _ => hgd) (T.free 105 rfl) hsw hrf (ha := xe_name (i := 12) rfl)) (xe_name (i := 10) rfl)) (fun hb => ?_) (fun hb => ?_))
    · rw [decide_eq_true rfl] at hb
      exact nomatch hb
    refine xb_nil ?_
    refine xb_forget (O1 := []) (O2 := [(lb, _)]) (l := la) rfl ?_
    refine xb_freeze 12 (O1 := []) (O2 := []) (l := lb) (ds := papL z.W z.lot z.one num) rfl rfl ?_
    have hfull : decide ((z.lot.length : Int) = (z.W.props.length : Int)) = true → z.lot = lotM z.W none := fun h => full_lot hz.l (by have := of_decide_eq_true h; omega)
    refine xb_cons (xs_if (XW.t (xw_and (kb := false) (xt_eqI (XE.toD (xe_lenT (T.free 91 rfl) (XE.dD (xe_name (i := 3) rfl))) (by rw [List.length_map])) (xe_name (i := 6) rfl)) fun hb => ?_)) (fun hb => ?_) (fun hb => ?_))
    · have hf := hfull hb
      have hio : InOk ⟨z.W, none, z.one, num, .list (papL z.W z.lot z.one num)⟩ := ⟨hz.w, (fun l e => nomatch e), by show z.one ∈ lotM z.W none; rw [← hf]; exact hz.o, h1, (ThK.lst _ hes).ok⟩
      have hv : isNosM z.W (lotM z.W none) z.one num (.list (papL z.W z.lot z.one num)) = true := by rw [← hf]; exact hpr
      refine XT_to ?_ (xw_and1 (xt_not (xt_val (xe_callV F.iv (fun _ => hr.mono (by decide)) ⟨⟨z.W, none, z.one, num, .list (papL z.W z.lot z.one num)⟩, hio⟩ (xa_cons (xe_name (i := 1) rfl) (xa_cons (xe_name (i := 2) rfl) (xa_cons (xe_name (i := 4) rfl) (xa_cons (xe_name (i := 11) rfl) (xa_cons (xe_name (i := 12) rfl) xa_nil))))) rfl))))
      show (!isNosM z.W (lotM z.W none) z.one num (.list (papL z.W z.lot z.one num))) = false
      rw [hv]
      rfl
    · rw [Bool.and_false] at hb
      exact nomatch hb
    refine xb_nil ?_
    have hsl : SlOk ⟨(prsL z.W z.lot z.one num).map (entR z.W z.lot z.one), z.lot, z.ds.drop num.toNat⟩ := by
      refine ⟨?_, fun u hu => ?_, h12, ?_, fun x hx => hz.nn x (List.mem_of_mem_drop hx)⟩
      · show ((prsL z.W z.lot z.one num).map (entR z.W z.lot z.one)).length ≤ 90
        rw [List.length_map]
        exact prs_len hz.l h12 hz.o
      · obtain ⟨p, hp, rfl⟩ := List.mem_map.mp hu
        obtain ⟨q1, q2, q3⟩ := prs_at hz.l hz.o hp
        exact ent_z hz.l h12 q3 (by omega)
      · show 8 ≤ (z.ds.drop num.toNat).length
        rw [List.length_drop]
        have := hz.ds
        omega
    refine xb_cons (xs_set 13 (T := tThK g) (xe_call (F.sp.mono (by decide)) (fun _ => hr) ⟨_, hsl⟩ (xa_cons (XE.toD (xe_name (i := 12) rfl) (congrArg PyData.list (ent_rs z.W z.lot z.one _))) (xa_cons (XE.dD (xe_name (i := 3) rfl)) (xa_cons (XE.toD (xe_slL (xe_name (i := 5) rfl) (xo_some (xe_name (i := 11) rfl)) xo_none) (cut_from z.ds (by omega))) xa_nil)))) ?_ nd)
    have fin : ∀ (d13 d14 : PyData) (a10 : Option Ty), ThK d13 → ThK d14 → XB g (rtC g cdv Ar outer s H) ⟨rtD g z d none none a10 (some (tD g.K (.int num))) (some (tD g.K (.list (papL z.W z.lot z.one num)))) (some (tD g.K d13)) (some (tD g.K d14)) none none none, [], []⟩ (rtLoop.drop 10) P := fun d13 d14 a10 k13 k14 => rt_inner T F hgd hr hz h1 (.lst _ hes) k13 k14 (hP _ ⟨by repeat' first | exact Le.nil | refine Le.eq ?_ | refine Le.no ?_, rfl, rfl⟩)
    refine xb_cons (xs_setR 14 (xer_callK F.ns (fun _ => hr.mono (by decide)) ⟨⟨z.W, some z.lot, z.one, num + 1⟩, ns_ok hz (by omega)⟩ (xa_cons (xe_name (i := 1) rfl) (xa_cons (xe_name (i := 2) rfl) (xa_cons (xe_name (i := 4) rfl) (xa_cons (xe_add (xe_name (i := 11) rfl) xe_int) xa_nil)))) (xk_cons (XE.dD (xe_name (i := 3) rfl)) xk_nil) rfl rfl rfl) (fun T1 hT => ?_) (fun lc ts1 T1 hT => ?_) nd)
    · obtain ⟨_, rfl⟩ := hT
      refine xb_open 13 rfl fun d13 k13 => ?_
      exact fin d13 .none _ k13 .non
    · obtain ⟨_, rfl, rfl⟩ := hT
      refine xb_freeze 14 (O1 := []) (O2 := []) (l := lc) (ds := papL z.W z.lot z.one (num + 1)) rfl rfl ?_
      refine xb_open 13 rfl fun d13 k13 => ?_
      exact fin d13 _ _ k13 (.lst _ hes)
end
end Pf
end
section
set_option Elab.async false
set_option linter.all false
set_option maxRecDepth 100000
set_option maxHeartbeats 2000000
set_option exponentiation.threshold 5000
set_option pp.maxSteps 1200
namespace Pf
open PySem PySem.Spec PyProof.Rows L2 RZ
theorem dist_le {W : Wd} {lot : List Int} {one : Int} {n : Nat} (h : distM W lot one = some n) : n ≤ lot.length := by
  unfold distM at h
  have := List.mem_range.mp (List.mem_of_find?_eq_some h)
  omega
def stopM (lot : List Int) (d : Option Nat) : Int := (match d with | none => (lot.length : Int) + 2 | some n => (n : Int))
section
variable {g : Pg} {cdv : Value} {Ar : Around} {outer : List Env} {s : Shared} {H : Hp} {z : RtZ} {d : Option Nat}
theorem rt_loop (T : Tx g) (F : RtF g) (hgd : Ar.guards = some []) (hr : Room 54 (Ar.deeper (envOfC dLawRight.qual dLawRight.scope s.heap.objs.size (He.ga g.K "_law_right") cdv))) (hz : RtOk z) (hd : distM z.W z.lot z.one = d) {P : Po} (hR : P.rt (tD g.K (.bool true))) :
    XB g (rtC g cdv Ar outer s H) ⟨rtD g z d none none none none none none none none none none, [], []⟩ ((defBody sLawRight).drop 5) P := by
  have nd := sc__law_right.nd
  have hm := hz.m
  have hs : 0 ≤ stopM z.lot d ∧ stopM z.lot d ≤ 9 := by
    unfold stopM
    cases hdd : d with
    | none => dsimp only; omega
    | some n =>
      have := dist_le (hd.trans hdd)
      dsimp only
      omega
  have hat : atI [PyData.int ((z.lot.length : Int) + 2), .int ((d.getD 0 : Nat) : Int)] (if (!isNon (optI d)) = true then 1 else 0) = some (.int (stopM z.lot d)) := by
    cases d with
    | none => exact atI_nat (n := 0) rfl
    | some n => exact atI_nat (n := 1) rfl
  refine xb_cons (xs_forR2 11 (lo := 1) (n := stopM z.lot d + 1) (by omega) (fun _ => ⟨rtD g z d none none none none none none none none none none, [], []⟩) (T.free 97 rfl) (xa_cons xe_int (xa_cons (xe_add (xe_ixL hat (xe_lstD (xa_cons (xe_add (XE.toD (xe_lenT (T.free 91 rfl) (XE.dD (xe_name (i := 3) rfl))) (by rw [List.length_map])) xe_int) (xa_cons (xe_dueor (xe_name (i := 7) rfl) xe_int) xa_nil))) (xe_intB (T.free 99 rfl) (xe_notN (non_d _) (xe_name (i := 7) rfl) xe_non))) xe_int) xa_nil)) ⟨Le.refl _, rfl, rfl⟩ (fun m hm => ?_) ?_ nd)
  · refine rt_body T F hgd hr hz hd (num := 1 + (m : Int)) (by omega) (by omega) (fun n hn => ?_) (fun q' h => h) hR
    have : stopM z.lot d = n := by unfold stopM; rw [hn]
    omega
  · exact xb_one (xs_ret (T := tD g.K (.bool true)) xe_bl hR)
end
abbrev FnT__law_right (g : Pg) : Prop := FnG g "_law_right" ["_law_table_here", "_law_plank", "_law_laid", "_law_troop", "_law_one", "_law_digits_here"] 55 (spM (α := {z : RtZ // RtOk z}) (fun _ => []) (fun z => [tTabW z.1.W, tPlank g z.1.W, tD g.K (.list (z.1.W.wts.map wtD)), tKt z.1.lot, tD g.K (.int z.1.one), tD g.K (.list (z.1.ds.map .int))]) (fun _ => tD g.K (.bool true)))
theorem so_ok {z : RtZ} (hz : RtOk z) : SoOk ⟨z.W, some z.lot, z.one⟩ := ⟨hz.w, fun l e => by rw [← Option.some.inj e]; exact hz.l, hz.o⟩
theorem fn__law_right {g : Pg} (T : Tx g) (F : RtF g) : FnT__law_right g := by
  refine T.fnG 66 53 (k := 54) (d := dLawRight) rfl rfl rfl rfl rfl sc__law_right (fun _ => rfl) (fun _ _ _ _ _ _ us hl => match us, hl with | [_, _, _, _, _, _], _ => rfl) fun cdv Ar outer s H z hgd hr => ?_
  have nd := sc__law_right.nd
  obtain ⟨z, hz⟩ := z
  have h12 : z.lot.length ≤ 12 := Nat.le_trans hz.l.len hz.w.p12
  refine xb_cons (xs_set 6 (xe_meth0 (F.ct.mono (by decide)) T.clP (fun _ => hr) z.W (xe_name (i := 1) rfl) plank_m rfl) ?_ nd)
  refine xb_cons (xs_set 7 (xe_call (F.di.mono (by decide)) (fun _ => hr) ⟨⟨z.W, z.lot, z.one⟩, hz.w, hz.l⟩ (xa_cons (xe_name (i := 0) rfl) (xa_cons (xe_name (i := 6) rfl) (xa_cons (xe_name (i := 3) rfl) (xa_cons (xe_name (i := 4) rfl) xa_nil))))) ?_ nd)
  cases hsp : spanM z.W (restsM z.W z.lot) (idxI z.one (restsM z.W z.lot)) with
  | none =>
    obtain ⟨hd, hlo, hin, hob⟩ := soon_none hz.l hz.o hsp
    refine xb_cons (xs_unpackR (xer_callK F.so (fun _ => hr.mono (by decide)) ⟨⟨z.W, some z.lot, z.one⟩, so_ok hz⟩ (xa_cons (xe_name (i := 1) rfl) (xa_cons (xe_name (i := 2) rfl) (xa_cons (xe_name (i := 4) rfl) xa_nil))) (xk_cons (XE.dD (xe_name (i := 3) rfl)) xk_nil) rfl rfl rfl)
      (fun _ => rtD g z (distM z.W z.lot z.one) (some (tD g.K (.str "stands"))) (some (tD g.K (.tuple ((leftM z.W z.lot).map .int)))) none none none none none none none none) (fun _ _ _ => rtD g z (distM z.W z.lot z.one) none none none none none none none none none none)
      (fun T' h => by rw [h.2]; exact xg_tup2 (xg_name 8) (xg_name 9)) (fun L T' ts h => by obtain ⟨p, hp, _⟩ := h; exact nomatch (show none = some p from hsp.symm.trans hp)) (fun T' h => ?_) (fun L ts T' h => ?_) (fun jj => pg_tup rfl (pgs_cons (pg_nm 8 jj nd) (pgs_cons (pg_nm 9 jj nd) pgs_nil))))
    · refine xb_cons (xs_if (xt_val (xe_isi (kit_list _) (T.free 90 rfl) (T.free 95 rfl) (by decide +kernel) (xe_name (i := 9) rfl))) (fun hb => absurd hb (by rw [isTy_list]; exact fun z => nomatch z)) (fun hb => ?_))
      refine xb_nil ?_
      refine xb_cons (xs_if (xt_isN (non_d _) (xe_name (i := 7) rfl) xe_non) (fun hb => ?_) (fun hb => ?_))
      · refine xb_one (xs_if (XW.t (xw_or (ka := false) (XT.to (xt_neS (s := "stands") (t := "stands") (xe_name (i := 8) rfl) xe_str) (by rw [decide_eq_true rfl]; rfl)) fun _ => (xw_or (ka := false) (XT.to (xt_niIT (xe_name (i := 4) rfl) (xe_name (i := 9) rfl)) (by rw [decide_eq_true hin]; rfl)) fun _ => (xw_or1 (XT.to (k' := false) (xt_neD (fun _ => hr) (sh_intl _).ok (by rfl) (xe_call (F.ov.mono (by decide)) (fun _ => hr) ⟨(z.W, leftM z.W z.lot), hz.w, hlo⟩ (xa_cons (xe_name (i := 0) rfl) (xa_cons (xe_name (i := 6) rfl) (xa_cons (xe_name (i := 9) rfl) xa_nil)))) (xe_lstD (ds := []) xa_nil)) (by rw [hob]; rfl)))))) (fun hb2 => nomatch hb2) (fun hb2 => ?_))
        refine xb_nil ?_
        exact (rt_loop T F hgd hr hz rfl rfl).sub ⟨by repeat' first | exact Le.nil | refine Le.eq ?_ | refine Le.no ?_, rfl, rfl⟩
      · rw [hd] at hb
        exact nomatch hb
    · obtain ⟨p, hp, _⟩ := h
      exact nomatch (show none = some p from hsp.symm.trans hp)
  | some p =>
    obtain ⟨t1, t2, t3, q1, q2, q3⟩ := soon_some hz.w hz.l hz.o hsp
    generalize hrow : fallR z.W z.lot z.one p = row at t2 t3
    have h20 := t3.len
    dsimp only at h20
    have hmem : ∀ i ∈ row, i.natAbs < 1000 := fun i hi => by
      have h3 : (sortI row).Perm row := sortI_perm row
      have hin : i ∈ z.lot := by
        have hseg := t3.seg
        dsimp only at hseg
        have h4 := h3.mem_iff.mpr hi
        rw [← hseg] at h4
        exact (List.mem_filter.mp h4).1
      have := hz.l.inn i hin
      have := hz.w.p12
      omega
    have hsw : Sw 1 (20 * 11) (.list (row.map .int)) := (sw_ints hmem h20).1
    have hrf : ∀ {ds : List PyData} (B : Hp) (v : V), Rp g.K B v (.list ds) → ∃ a, v = .ref a := fun B v h => by
      obtain ⟨a, _, rfl, _⟩ := rp_lst h
      exact ⟨a, rfl⟩
    have row_is : ∀ {p' : Nat × Nat} {ts : List Ty}, spanM z.W (rsM ⟨z.W, some z.lot, z.one⟩) (soAt ⟨z.W, some z.lot, z.one⟩) = some p' → ts = ((fallsM ⟨z.W, some z.lot, z.one⟩ p').map PyData.int).map (tD g.K) → ts = (row.map PyData.int).map (tD g.K) := fun {p' ts} h1 h2 => by
      have e : some p = some p' := hsp.symm.trans h1
      rw [← Option.some.inj e] at h2
      rw [h2, ← hrow]
      rfl
    refine xb_cons (xs_unpackR (xer_callK F.so (fun _ => hr.mono (by decide)) ⟨⟨z.W, some z.lot, z.one⟩, so_ok hz⟩ (xa_cons (xe_name (i := 1) rfl) (xa_cons (xe_name (i := 2) rfl) (xa_cons (xe_name (i := 4) rfl) xa_nil))) (xk_cons (XE.dD (xe_name (i := 3) rfl)) xk_nil) rfl rfl rfl)
      (fun _ => rtD g z (distM z.W z.lot z.one) none none none none none none none none none none) (fun L _ _ => rtD g z (distM z.W z.lot z.one) (some (tD g.K (.str "falls"))) (some (tAt L)) none none none none none none none none)
      (fun T' h => by obtain ⟨h, _⟩ := h; exact nomatch (show some p = none from hsp.symm.trans h)) (fun L T' ts h => by obtain ⟨p', _, h2, _⟩ := h; rw [h2]; exact xg_tupT2 (xg_name 8) (xg_name 9)) (fun T' h => by obtain ⟨h, _⟩ := h; exact nomatch (show some p = none from hsp.symm.trans h)) (fun la ts T' h => ?_) (fun jj => pg_tup rfl (pgs_cons (pg_nm 8 jj nd) (pgs_cons (pg_nm 9 jj nd) pgs_nil))))
    obtain ⟨p1, e1, rfl, e2⟩ := h
    have e3 := row_is e1 e2
    subst e3
    refine xb_cons (xs_ifOwn 9 (O1 := []) (O2 := []) (l := la) (ds := row.map .int) rfl rfl rfl (xt_val (xe_isi (kit_list _) (T.free 90 rfl) (T.free 95 rfl) (by decide +kernel) (xe_name (i := 9) rfl))) (fun hb => ?_) (fun hb => absurd hb (by rw [isTy_list]; exact fun z => nomatch z)))
    refine xb_cons (xs_setOwn 10 9 (O1 := []) (O2 := []) (l := la) (ds := row.map .int) (T := tD g.K (.str (PyData.list (row.map .int)).shown)) rfl rfl rfl (xe_reprS (fun _ => hr) (fun _ => hgd) (T.free 105 rfl) hsw hrf (ha := xe_name (i := 9) rfl)) flat_str ?_ nd)
    refine xb_cons (xs_app (i := 9) (O1 := []) (O2 := []) (l := la) (T := tD g.K (.int 0)) rfl rfl xe_int (by rw [List.length_map, List.length_map]; omega) ?_)
    refine xb_cons (xs_unpackR (xer_callK F.so (fun _ => hr.mono (by decide)) ⟨⟨z.W, some z.lot, z.one⟩, so_ok hz⟩ (xa_cons (xe_name (i := 1) rfl) (xa_cons (xe_name (i := 2) rfl) (xa_cons (xe_name (i := 4) rfl) xa_nil))) (xk_cons (XE.dD (xe_name (i := 3) rfl)) xk_nil) rfl rfl rfl)
      (fun _ => rtD g z (distM z.W z.lot z.one) none none none none none none none none none none) (fun L _ _ => rtD g z (distM z.W z.lot z.one) (some (tD g.K (.str "falls"))) (some (tAt L)) (some (tD g.K (.str (PyData.list (row.map .int)).shown))) none none none none none none none)
      (fun T' h => by obtain ⟨h, _⟩ := h; exact nomatch (show some p = none from hsp.symm.trans h)) (fun L T' ts h => by obtain ⟨p', _, h2, _⟩ := h; rw [h2]; exact xg_tupT2 (xg_name 8) (xg_name 9)) (fun T' h => by obtain ⟨h, _⟩ := h; exact nomatch (show some p = none from hsp.symm.trans h)) (fun lb ts T' h => ?_) (fun jj => pg_tup rfl (pgs_cons (pg_nm 8 jj nd) (pgs_cons (pg_nm 9 jj nd) pgs_nil))))
    obtain ⟨p2, e1', rfl, e2'⟩ := h
    have e3 := row_is e1' e2'
    subst e3
    refine xb_one (xs_ifOwn 9 (O1 := [(la, _)]) (O2 := []) (l := lb) (ds := row.map .int) rfl rfl rfl (xt_neS (xe_reprS (fun _ => hr) (fun _ => hgd) (T.free 105 rfl) hsw hrf (ha := xe_name (i := 9) rfl)) (xe_name (i := 10) rfl)) (fun hb => ?_) (fun hb => ?_))
    · rw [decide_eq_true rfl] at hb
      exact nomatch hb
    refine xb_nil ?_
    refine xb_forget (O1 := []) (O2 := [(lb, _)]) (l := la) rfl ?_
    refine xb_freeze 9 (O1 := []) (O2 := []) (l := lb) (ds := row.map .int) rfl rfl ?_
    refine xb_cons (xs_if (xt_isN (non_d _) (xe_name (i := 7) rfl) xe_non) (fun hb => ?_) (fun hb => ?_))
    · rw [t1] at hb
      exact nomatch hb
    · refine xb_one (xs_if (XW.t (xw_or (ka := false) (XT.to (xt_neS (s := "falls") (t := "falls") (xe_name (i := 8) rfl) xe_str) (by rw [decide_eq_true rfl]; rfl)) fun _ => (xw_or (ka := false) (XT.to (xt_neI (i := ((p.2 - p.1 - 1 : Nat) : Int)) (j := ((p.2 - p.1 - 1 : Nat) : Int)) (XE.toD (xe_lenL (T.free 91 rfl) (xe_name (i := 9) rfl)) (by rw [List.length_map, t2])) (XE.toD (xe_name (i := 7) rfl) (by rw [t1]; rfl))) (by rw [decide_eq_true rfl]; rfl)) fun _ => (xw_or1 (XT.to (k' := false) (xt_not (xt_val (xe_call (F.rr.mono (by decide)) (fun _ => hr) ⟨⟨z.W, z.lot, z.one, row⟩, t3⟩ (xa_cons (xe_name (i := 0) rfl) (xa_cons (xe_name (i := 6) rfl) (xa_cons (xe_name (i := 3) rfl) (xa_cons (xe_name (i := 4) rfl) (xa_cons (xe_name (i := 9) rfl) xa_nil)))))))) rfl))))) (fun hb2 => nomatch hb2) (fun hb2 => ?_))
      refine xb_nil ?_
      exact (rt_loop T F hgd hr hz rfl rfl).sub ⟨by repeat' first | exact Le.nil | refine Le.eq ?_ | refine Le.no ?_, rfl, rfl⟩
end Pf
end
section
set_option Elab.async false
set_option linter.all false
set_option maxRecDepth 100000
namespace L2
open PySem PySem.Spec PyProof.Rows
open PySem.AutoSeq1 (wpAny_loadPart')
/-! enumerate over a tuple -/
/-- the iterator that enumerate makes of a tuple -/
@[reducible] def oIt (t : Addr) : Obj := { cls := .type "tuple_iterator", data := .fields #[.ref t, .int 0 0] }
@[reducible] def oEn (i : Addr) : Obj := { cls := .type "enumerate", data := .fields #[.none, .bool false, .ref i, rawInt 0, .none, .none] }
@[reducible] def oTu (dct : Option Addr) (items : Array Value) (n : Nat) (sl : Array (Option Value)) : Obj := { cls := .type "tuple", dict := dct, data := .seq items n, slots := sl }
set_option maxHeartbeats 1000000 in
theorem enT_new (t : Addr) (items : Array Value) (n : Nat) (dct : Option Addr) (sl : Array (Option Value)) :
    Meets (Builtin.«enumerate.__new__» ⟨[.type "enumerate", .ref t], []⟩) (fun _ R s => s.heap.get? t = some (oTu dct items n sl) ∧
      R (.ok (.ret (.ref (s.heap.push (oIt t)).objs.size))) { s with heap := (s.heap.push (oIt t)).push (oEn s.heap.objs.size) }) :=
  .of_wp fun prog w A R s ⟨ht, hr⟩ => by
    obtain ⟨hp, g, d, tk, os⟩ := s
    have hsub := sub_enumerate
    have hT : Heap.IsTuple (Shared.heap ⟨hp, g, d, tk, os⟩) t items := ⟨_, ht, rfl, n, rfl⟩
    wp_walk using wpAny_loadPart' ht
    refine wpAny_stack_any fun st => wpAny_pure ?_
    split
    · rename_i c _ _ _ _ _
      cases (c == Value.type "enumerate") <;>
      · wp_walk using wpAny_loadPart' ht, wpAny_pyIter_tuple hT
        exact ⟨_, rfl, hr⟩
    · wp_walk using wpAny_loadPart' ht, wpAny_pyIter_tuple hT
      exact ⟨_, rfl, hr⟩
section
variable {prog : Program} {w : World} {A : Around} {E : Value → Shared → Prop} {s : Shared}
theorem enT_call {t : Addr} {items : Array Value} {Q : Value → Shared → Prop} (hT : s.heap.IsTuple t items)
    (h : ∀ h', IsEnum h' (s.heap.objs.size + 1) s.heap.objs.size 0 .none → h'.IsTupleIter s.heap.objs.size t 0 → (∀ b o, s.heap.get? b = some o → h'.get? b = some o) → Q (.ref (s.heap.objs.size + 1)) { s with heap := h' }) :
    wpAny (model prog w) A (call (.type "enumerate") [.ref t]) Q E s := by
  obtain ⟨⟨c, dct, dt, sl⟩, ht, hc, n, hd⟩ := hT
  obtain rfl : c = .type "tuple" := hc
  obtain rfl : dt = .seq items n := hd
  refine callType_new F.called_enumerate (by decide) (F.typeCall_enumerate_1 _) (F.newCall_enumerate_1 _) (fun obj => F.args_object_init_2 obj _) F.entry_enumerate_new (enT_new t items n dct sl) ⟨ht, ?_⟩
  have hz : (s.heap.push (oIt t)).objs.size = s.heap.objs.size + 1 := Heap.size_push ..
  show _ ∧ _
  rw [hz]
  have he : IsEnum ((s.heap.push (oIt t)).push (oEn s.heap.objs.size)) (s.heap.objs.size + 1) s.heap.objs.size 0 .none := by
    have q := Heap.get?_push_size (s.heap.push (oIt t)) (o := oEn s.heap.objs.size) rfl
    rwa [hz] at q
  exact ⟨⟨_, he, rfl⟩, h _ he ⟨_, Heap.get?_push_of_some _ (Heap.get?_push_size _ rfl), rfl, rfl⟩ fun b o x => Heap.get?_push_of_some _ (Heap.get?_push_of_some _ x)⟩
end
/-- the tuple at a, each item in a new pair -/
def IteT (K : PySem.W.Frag) (a : Addr) : It :=
  ⟨fun i H => ∃ (xs : List V) (x : V), SqT K H a xs ∧ xs[i]? = some x, fun i H v H' => ∃ T x, v = .ref T ∧ H T = none ∧ H' = upd H T (.tup [.int (i : Nat), x]) ∧ ∀ xs, SqT K H a xs → xs[i]? = some x, fun i H => ∃ xs : List V, SqT K H a xs ∧ xs.length = i⟩
theorem turn_enT {P : Program} {w : World} {K : PySem.W.Frag} {elts : List Expr} {kk : Nat} {tpos : Pos} (a e it : Addr) :
    Turn P w K (.Tuple elts kk tpos) (IteT K a) [e, it] e (fun i h => (∃ old, IsEnum h e it ((i : Nat) : Int) old) ∧ h.IsTupleIter it a i ∧ e ≠ it ∧ a ≠ it ∧ a ≠ e) where
  mem := by simp
  obj := fun i h st b hb => by
    obtain ⟨⟨old, he⟩, ⟨o, ho, hc, hd⟩, _⟩ := st
    rcases (show b = e ∨ b = it by simpa using hb) with rfl | rfl
    · exact ⟨_, he, fun v q => nomatch q⟩
    · exact ⟨o, ho, fun v q => by rw [hd] at q; cases q⟩
  keep := fun i h h' ⟨⟨old, he⟩, hi, hne⟩ k => ⟨⟨old, k e (by simp) _ he⟩, hi.at fun o q => k it (by simp) o q, hne⟩
  item := by
    intro X hP hw hK hc i pins s σ H E I hf st hg
    subst hP hw hK
    obtain ⟨⟨old, he⟩, hit, hne, hai, hae⟩ := st
    obtain ⟨xs, x, hq, hx⟩ := hg
    obtain ⟨its, rv, p, hz⟩ := I.tuple hq
    obtain ⟨u, hu, ru⟩ := rv.get hx
    have p' : s.heap.IsTuple a its.toArray := p
    have hel : e < s.heap.objs.size := Heap.lt_size he
    have hil : it < s.heap.objs.size := by obtain ⟨_, q, _⟩ := hit; exact Heap.lt_size q
    have hlt : i < its.toArray.size := by
      obtain ⟨hb, _⟩ := List.getElem?_eq_some_iff.1 hu
      simpa using hb
    refine wpAny_pyNext_enum_itemD (Draws.tuple (prog := X.prog) (w := X.w) (A := X.A.in1) (I.ok.hd hc) it a hai its.toArray) he ⟨hit, p'⟩ hlt hne (by simp [hne, Ne.symm hae]) fun y h' tk hy ho hit' hT hsz hk => ?_
    obtain rfl : u = y := by
      have e1 : its.toArray[i]? = some u := by simpa using hu
      exact Option.some.inj (e1.symm.trans hy)
    refine ⟨_, rfl, wpAny_letOwnedTupleGo_enum (s := { s with heap := h', toks := tk + 1 }) ho fun h'' he' sb => ?_⟩
    have hT2 : h''.get? s.heap.objs.size = some { cls := .type "tuple", data := .seq #[.int i tk, u] } := (sb.2 _ (Nat.ne_of_gt hel)).trans hT
    have new : ObjOk X.prog X.w (upd H s.heap.objs.size (.tup [.int (i : Nat), x])) h'' s.heap.objs.size (.tup [.int (i : Nat), x]) :=
      ⟨by show 2 ≤ sizeLine; decide, [.int i tk, u], .cons ⟨_, rfl⟩ (.cons ru .nil), ⟨_, hT2, rfl, _, rfl⟩⟩
    have I1 : Inv X pins σ (upd H s.heap.objs.size (.tup [.int (i : Nat), x])) { s with heap := h'', toks := tk + 1 } :=
      I.turnedNew (ch := [e, it]) (fun b ob hb q => (sb.2 b (fun z => hb (by simp [z]))).trans (hk b ob (fun z => hb (by simp [z])) (fun z => hb (by simp [z])) q)) hf (Nat.le_refl _) new
    refine ⟨.ref s.heap.objs.size, _, I1, rfl, ⟨_, x, rfl, I.hok.fresh (Nat.le_refl _), rfl, fun ys hy => by rw [I.tuple_inj hy hq]; exact hx⟩, ⟨⟨u, ?_⟩, hit'.1.at fun o q => (sb.2 it (Ne.symm hne)).trans q, hne, hai, hae⟩, fun b hb => ?_⟩
    · have e1 : ((i + 1 : Nat) : Int) = (i : Int) + 1 := by omega
      rw [e1]; exact he'
    · have hb' : b < s.heap.objs.size := by rcases (show b = e ∨ b = it by simpa using hb) with rfl | rfl <;> assumption
      rw [upd_ne (Nat.ne_of_lt hb')]
      exact (hf b hb).1
  done := by
    intro X hP hw hK hc i pins s σ H E I hf st hg
    subst hP hw hK
    obtain ⟨⟨old, he⟩, hit, hne, hai, hae⟩ := st
    obtain ⟨xs, hq, hx⟩ := hg
    obtain ⟨its, rv, p, hz⟩ := I.tuple hq
    have hl := rv.length
    have p' : s.heap.IsTuple a its.toArray := p
    obtain rfl : its.toArray.size = i := by simp; omega
    obtain ⟨f0, f1, f2, f3, f4, f5⟩ := hf it (by simp)
    exact wpAny_pyNext_enum_endD (Draws.tuple (prog := X.prog) (w := X.w) (A := X.A.in1) (I.ok.hd hc) it a hai its.toArray) he ⟨hit, p'⟩ fun h' eb => ⟨rfl, I.turned (t' := s.toks) (fun b o hb q => eb b o hb q) f0 f1 f3 f4 f5⟩
  self := fun A i s Q E ⟨⟨_, he⟩, _⟩ h => wpAny_pyIter_enum he h
def iEnT (K : PySem.W.Frag) (ta : TA) : TI := fun σ H R => ta σ H fun vs H1 => ∃ a xs, vs = [.ref a] ∧ SqT K H1 a xs ∧ R (IteT K a) H1
theorem pi_enT {X : Cx} {e : Expr} {ta : TA} {p pos tpos : Pos} {elts : List Expr} {kk : Nat} (hg : Gl X "enumerate") (hm : X.mg "enumerate" = none) (ha : PA X [e] ta) (hs : starEach [e] X.env = [(false, eval e X.env)] := by rfl) :
    PI X (.Tuple elts kk tpos) (.Call (.Name "enumerate" p) [e] [] pos) (iEnT X.K ta) := by
  refine ⟨fun pins s σ H R I h => ?_⟩
  refine Call_ (ld_blt I hg hm boot_enumerate (PyProof.Rows.callWith_type1 (thn (ha.run pos pins s σ H _ I h) fun us s1 ⟨vs, H1, I1, r1, a, xs, ex, hq, q⟩ => ?_) hs rfl))
  subst ex
  obtain ⟨⟩ | ⟨r, rr⟩ := r1
  cases rr
  cases r
  obtain ⟨its, rv, p', hz⟩ := I1.tuple hq
  have p2 : s1.heap.IsTuple a its.toArray := p'
  have hal : a < s1.heap.objs.size := by obtain ⟨_, z, _⟩ := p2; exact Heap.lt_size z
  refine enT_call p2 fun h' he hit hk => wpAny_pyIter_enum he ?_
  have I2 : Inv X pins σ H1 { s1 with heap := h' } := I1.kept (t' := s1.toks) hk
  refine ⟨s1.heap.objs.size + 1, [s1.heap.objs.size + 1, s1.heap.objs.size], _, _, H1, rfl, I2, turn_enT a (s1.heap.objs.size + 1) s1.heap.objs.size, ⟨⟨.none, he⟩, hit, Nat.succ_ne_self _, Nat.ne_of_lt hal, Nat.ne_of_lt (Nat.lt_succ_of_lt hal)⟩, fun b hb => ?_, q⟩
  have hle : s1.heap.objs.size ≤ b := by
    rcases (show b = s1.heap.objs.size + 1 ∨ b = s1.heap.objs.size by simpa using hb) with rfl | rfl
    · exact Nat.le_add_right _ _
    · exact Nat.le_refl _
  exact I1.fpOk hle (I1.hok.fresh hle)
theorem walk_enT {K : PySem.W.Frag} {a : Addr} {xs : List V} : Walk (IteT K a) xs.length (fun H => SqT K H a xs) (YPair (fun i => some (.int (i : Nat))) (fun i => xs[i]?)) :=
  ⟨fun i _ hi q => ⟨xs, xs[i], q, by simp [hi]⟩, fun _ q => ⟨xs, q, rfl⟩, fun i H v H' _ q ⟨T, x, h1, h2, h3, h4⟩ => ⟨T, .int (i : Nat), x, h1, h2, h3, rfl, h4 xs q⟩⟩
end L2
end
section
set_option Elab.async false
set_option linter.all false
set_option maxRecDepth 100000
set_option maxHeartbeats 2000000
set_option exponentiation.threshold 5000
set_option pp.maxSteps 1200
namespace Pf
open PySem PySem.Spec PyProof.Rows L2 RZ
/-- the law's script -/
def tScr (K : PySem.W.Frag) (ns : List Int) : Ty := ⟨fun H v => ∃ a, v = .ref a ∧ SqL K H a (ns.map V.int), fun e ⟨a, h1, h2⟩ => ⟨a, h1, sql_mono e h2⟩⟩
section
variable {g : Pg} {C : Ct} {q q' : Sta} {P : Po} {e a b c o tg iter elt ix : Expr} {es ifs : List Expr} {st : Stmt} {sts rest body : List Stmt} {pos p p2 p3 apos cpos : Pos} {T Ta Tb : Ty} {Ts : List Ty} {x : Str} {i j : Nat} {M : Ml} {δ δ' : Sd} {ts vs : List Nat} {t : TG} {lo hi : Option Expr} {lo' hi' : Option Int}
theorem xe_slS {ns : List Int} (ha : XE g C M δ a (tScr g.K ns)) (h1 : XO g C M δ lo lo') (h2 : XO g C M δ hi hi') : XE g C M δ (.Subscript a (.Slice lo hi none p2) pos) (tD g.K (.list (cutD (ns.map .int) lo' hi'))) := fun Z σ H hsl hA Q kk => by
  refine w_pe (t := tSl (rSlL g.K) (wE g C a) (wO g C lo) (wO g C hi)) ?_ fun i => pe_slice (sl_list (X := C.X g i)) (pe_w i) (po_w i) (po_w i)
  refine ha Z σ H hsl hA _ fun x H1 f1 A1 t1 => h1 Z σ H1 (hsl.mono f1.out) A1 _ fun H2 f2 A2 => h2 Z σ H2 (hsl.mono (f1.trans f2).out) A2 _ fun H3 f3 A3 => ?_
  obtain ⟨q, rfl, h3⟩ := (tScr g.K ns).mono (f2.trans f3).out t1
  exact ⟨q, ns.map V.int, rfl, sql_mono out_sub h3, fun p hp => kk _ _ (((f1.trans f2).trans f3).trans (Fr.of_ex (Ex.new hp))) (A3.new hp) (.lst (A3.got hp) ((cut_rp (rp_of_ints ns)).mono (Fr.out (Fr.of_ex (Ex.new hp)))))⟩
/-- for i, x in enumerate(tuple of numbers) -/
theorem xs_forET {elts : List Expr} {kk : Nat} {tpos : Pos} (ns : List Int) (I : Nat → Sta) (D' : Nat → Int → Sd) (hm : g.mg "enumerate" = none) (h : XE g C q.M q.δ e (tKt ns)) (h0 : Sub q (I 0)) (hg : ∀ (n : Nat) d, ns[n]? = some d → XG t (tD g.K (.tuple [.int (n : Int), .int d])) (I n).δ (D' n d) ts)
    (hs : ∀ n d, ns[n]? = some d → XB g C { I n with δ := D' n d } body { nx := fun q' => Sub q' (I (n + 1)), ct := fun q' => Sub q' (I (n + 1)), rt := P.rt, bk := P.nx }) (hd : P.nx (I ns.length)) (hp : ∀ j, PG (C.X g j) (.Tuple elts kk tpos) t)
    (hk : ∀ j, (C.env j).kindOf "enumerate" = some .globalImplicit := by intro _; rfl) (hst : ∀ j, starEach [e] (C.env j) = [(false, eval e (C.env j))] := by intro _; rfl) (hf : ∀ j x, foldedSetIterable (.Call (.Name "enumerate" p2) [e] [] apos) (C.env j) x = pure x := by intro _ _; rfl) :
    XS g C q (.For (.Tuple elts kk tpos) (.Call (.Name "enumerate" p2) [e] [] apos) body [] pos) P := fun Z M0 H0 G σ H D hh m => by
  refine w_ps (t := tFor (iEnT g.K (tCons (wE g C e) tNil)) t (wB g C body)) ?_ fun j => ps_for (X := C.X g j) PassesOwn.never rfl (pi_enT (hk j) hm (pa_cons (pe_w j) pa_nil (by rw [hst j]; rfl)) (hst j)) (hp j) (pss_w j) (hf j)
  refine hh.ev h fun v H1 h1 t1 => ?_
  obtain ⟨l, rfl, hl⟩ := t1
  have hq : SqT g.K H1 l (ns.map V.int) := SqT.of (out_sub _ _ hl)
  refine ⟨l, ns.map V.int, rfl, hq, for_it (walk_enT (K := g.K) (a := l) (xs := ns.map V.int)) (fun n σ' H' => Hold Z M0 H0 ((.ref l, tSrcT g.K l (ns.map V.int) (ns.map .int)) :: G) (I n) σ' H') ((h1.ghost (T := tSrcT g.K l (ns.map V.int) (ns.map .int)) ⟨rfl, SqT.of hl, rp_of_ints ns⟩).sub h0) (fun n σ' H' _ w => sqt_mono out_sub (w.gh _ List.mem_cons_self).2.1) (fun n y σ' H' H2 hn w yy => ?_) fun σ' H' w => ?_⟩
  · obtain ⟨A, v1, v2, rfl, hA, rfl, e1, e2⟩ := yy
    obtain rfl : V.int (n : Nat) = v1 := Option.some.inj e1
    obtain ⟨d, hd', rfl⟩ := map_get (show (ns.map V.int)[n]? = some v2 from e2)
    obtain ⟨w2, g2⟩ := w.new (ob := .tup [.int (n : Nat), .int d]) hA
    refine hg n d hd' (stb Z (I n) (upd H' A (.tup [.int (n : Nat), .int d]))) _ _ σ' _ out_sub (.tup (SqT.of g2) (.cons (.int _) (.cons (.int _) .nil))) w2.sl fun σ2 s2 _ => ?_
    exact hs n d hd' Z M0 H0 _ σ2 _ _ (w2.sl' s2) ⟨fun q' σ3 H3 n3 h3 => h3.sub n3, m.rt, fun q' σ3 H3 n3 h3 => m.nx q' σ3 H3 n3 h3.unghost, fun q' σ3 H3 n3 h3 => h3.sub n3⟩
  · have e : (ns.map V.int).length = ns.length := List.length_map ..
    rw [e] at w
    exact m.nx _ _ _ hd w.unghost
/-- l[i] = a number, read off the own list l -/
theorem xs_lputOwn {O1 O2 : Ol} {l : Addr} {ds : List PyData} {d ii : Int} {m : Nat} (hM : q.M = []) (hO : q.O = O1 ++ (l, .lst (ds.map (tD g.K))) :: O2) (hx : q.δ[i]? = some (some (tAt l))) (h : XE g C [] (q.δ.set i (some (tD g.K (.list ds)))) e (tD g.K (.int d))) (hix : XE g C q.M q.δ ix (tD g.K (.int ii))) (hn : ixN ds.length ii = some m)
    (k : P.nx { q with O := O1 ++ (l, .lst ((ds.set m (.int d)).map (tD g.K))) :: O2 }) (hv : ∀ j, PE (C.X g j) (.Name x p) (tVar i)) (has : ∀ j v, assign (.Subscript (.Name x p) ix p2) (C.env j) v = (do
      let at_ ← holding [v] (eval (.Name x p) (C.env j))
      let no ← holding [v, at_] (eval ix (C.env j))
      standAt p2
      holding [v, at_, no] (setItem at_ no v)
      release [v, at_, no] []) := by intro _ _; rfl) (hs : ∀ j, swapsWithSole [.Subscript (.Name x p) ix p2] e pos.line (C.env j) = pure false := by intro _; rfl) (hw : ∀ j, swappedStores [.Subscript (.Name x p) ix p2] e (C.env j) = pure none := by intro _; rfl)
    (h1 : ∀ j, (assignEach [.Subscript (.Name x p) ix p2] (C.env j)).map (·.2) = [assign (.Subscript (.Name x p) ix p2) (C.env j)] := by intro _; rfl) : XS g C q (.Assign [.Subscript (.Name x p) ix p2] e pos) P := fun Z M0 H0 G σ H D hh mm => by
  refine w_ps (t := tAsg (wE g C e) (gSub (tVar i) (wE g C ix) rSetL)) ?_ fun j => ps_asg (X := C.X g j) (pe_w j) (pg_sub (hv j) (pe_w j) set_list (has j)) (hs j) (hw j) (h1 j)
  have ml : (l, Kd.lst (ds.map (tD g.K))) ∈ q.O := by rw [hO]; simp
  have hz := hh.freeze hO hx
  have hzA : Amb (Zo Z (O1 ++ O2)) q.M H := hz.amb
  have hzS : Sl (out (Zm (Zo Z (O1 ++ O2)) q.M) H) (q.δ.set i (some (tD g.K (.list ds)))) σ := hz.sl
  rw [hM] at hzA hzS
  refine h _ σ H hzS hzA _ fun v H1 f A t => ?_
  obtain rfl := rp_int t
  have hh1 := hh.step (H' := H1) (by rw [hM]; exact f) (hh.amb.ex f.ex0)
  obtain ⟨v0, g1, g2⟩ := hh1.sl.get hx
  obtain rfl : v0 = .ref l := g2
  refine ⟨_, g1, hh1.ev hix fun w H2 hh2 t2 => ?_⟩
  obtain ⟨us, hv1, hv2⟩ := hh2.own _ ml
  refine ⟨l, us, ii, m, rfl, rp_int t2, hv1, by rw [hv2.length, List.length_map]; exact hn, mm.nx _ _ _ k (hh2.put hO fun B e => ⟨us.set m (.int d), upd_same, ?_⟩)⟩
  rw [List.map_set]
  exact Al2.set (T := tD g.K (.int d)) (.int d) m (hv2.mono e)
end
end Pf
end
section
set_option Elab.async false
set_option linter.all false
set_option maxRecDepth 100000
set_option maxHeartbeats 2000000
set_option exponentiation.threshold 5000
set_option pp.maxSteps 1200
namespace Pf
open PySem PySem.Spec PyProof.Rows L2 RZ
/-! ### law: the plain side -/
def cellsM (ns : List Int) : List Int := if ns.take 3 = [] then [4, 19] else ns.take 3
def markM (D : List Int) : Int := dgt D 57 / 4 * 4 + pickI [0, 3, 1] (dgt D 100 % 3)
def dg2M (c : Int) : List Int := (digL c).set 57 (markM (digL c))
def trpF (ds : List Int) (b : Nat) : Bool := decide (0 < dgt ds 101 / 2 ^ b % 4)
def trpM (ds : List Int) : List Int := ((List.range (worldM ds).props.length).filter (trpF ds)).map fun (b : Nat) => (b : Int)
theorem eqv_nilI (L : List Int) : PyData.eqv (.list (L.map .int)) (.list []) = decide (L = []) := by
  cases L with
  | nil => rfl
  | cons a L => rfl
theorem mark_nn {D : List Int} (h : 0 ≤ dgt D 57) : 0 ≤ markM D := by
  have h1 := md_in (dgt D 100) (k := 3) (by decide)
  have := pick_mem (l := [0, 3, 1]) (n := 3) rfl h1.1 h1.2
  simp only [List.mem_cons, List.mem_nil_iff, or_false] at this
  unfold markM
  have h2 : 0 ≤ dgt D 57 / 4 := Int.ediv_nonneg h (by decide)
  omega
theorem dgt_in {D : List Int} (h : DgOk D) {n : Nat} (hn : n < 140) : 0 ≤ dgt D n ∧ dgt D n < 1009 := by
  have hl : n < D.length := by rw [h.1]; exact hn
  unfold dgt
  rw [getD_at hl]
  exact h.2 _ (List.getElem_mem hl)
theorem dg2_ok (c : Int) : (dg2M c).length = 140 ∧ ∀ d ∈ dg2M c, 0 ≤ d := by
  have h := digL_ok c
  refine ⟨by unfold dg2M; rw [List.length_set, h.1], fun d hd => ?_⟩
  unfold dg2M at hd
  rcases List.mem_or_eq_of_mem_set hd with hd | rfl
  · exact (h.2 d hd).1
  · exact mark_nn (dgt_in h (by decide)).1
theorem trp_ok (ds : List Int) : LotOk (worldM ds) (trpM ds) ∧ (trpM ds).length ≤ 7 := by
  obtain ⟨_, h1, h7⟩ := world_ok ds
  have hl : (trpM ds).length ≤ (worldM ds).props.length := by
    unfold trpM
    rw [List.length_map]
    exact Nat.le_trans (List.length_filter_le _ _) (by rw [List.length_range]; exact Nat.le_refl _)
  refine ⟨⟨?_, fun i hi => ?_⟩, by omega⟩
  · refine pw_ascB ?_
    unfold trpM
    refine List.pairwise_map.mpr ?_
    refine List.Pairwise.imp (fun {a b} (h : a < b) => ?_) (List.Pairwise.filter _ List.pairwise_lt_range)
    omega
  · unfold trpM at hi
    obtain ⟨b, hb, rfl⟩ := List.mem_map.mp hi
    have := List.mem_range.mp (List.mem_filter.mp hb).1
    omega
/-! ### law: the walk -/
abbrev laN : List Str := ["_law_script", "_law_cells", "_law_cell_here", "_law_digits_here", "_law_world_here", "_law_plank", "_law_table_here", "_law_troop", "_law_k", "_law_one"]
theorem sc_law : FnScope laN ["_law_script"] (defScope sLaw) := ⟨rfl, rfl, rfl, by decide +kernel, rfl, by decide +kernel, by decide +kernel⟩
abbrev laD (g : Pg) (ns : List Int) (a1 a2 a3 a4 a5 a6 a7 a8 a9 : Option Ty) : Sd := [some (tScr g.K ns), a1, a2, a3, a4, a5, a6, a7, a8, a9]
abbrev laC (g : Pg) (cdv : Value) (Ar : Around) (outer : List Env) (s : Shared) (H : Hp) : Ct := ctOf (cxOf CX0 g.P g.w g.K g.mg g.base laN dLaw.qual dLaw.scope (He.ga g.K "law") cdv Ar outer s H E0)
abbrev tInts (g : Pg) (l : List Int) : Ty := tD g.K (.list (l.map .int))
abbrev laLoop : List Stmt := forB ((defBody sLaw).getD 2 (.Pass ⟨0, 0, 0, 0⟩))
abbrev laIn : List Stmt := forB (laLoop.getD 6 (.Pass ⟨0, 0, 0, 0⟩))
abbrev laW (g : Pg) (ns : List Int) (c : Int) (a8 a9 : Option Ty) : Sd := laD g ns (some (tInts g (cellsM ns))) (some (tD g.K (.int c))) (some (tInts g (dg2M c))) (some (tWld g (worldM (dg2M c)))) (some (tPlank g (worldM (dg2M c)))) (some (tTabW (worldM (dg2M c)))) (some (tKt (trpM (dg2M c)))) a8 a9
structure LaF (g : Pg) : Prop where
  dg : FnT__law_digits g
  wo : FnT__law_world g
  ma : FnT__law_made g
  ta : FnT__law_table g
  ri : FnT__law_right g
section
variable {g : Pg} {cdv : Value} {Ar : Around} {outer : List Env} {s : Shared} {H : Hp} {ns : List Int}
theorem la_turn (T : Tx g) (F : LaF g) (hgd : Ar.guards = some []) (hr : Room 55 (Ar.deeper (envOfC dLaw.qual dLaw.scope s.heap.objs.size (He.ga g.K "law") cdv))) {c one : Int} {n : Nat} (hn : (trpM (dg2M c))[n]? = some one) {P : Po}
    (hP : P.nx ⟨laW g ns c (some (tD g.K (.int (n : Int)))) (some (tD g.K (.int one))), [], []⟩) :
    XB g (laC g cdv Ar outer s H) ⟨laW g ns c (some (tD g.K (.int (n : Int)))) (some (tD g.K (.int one))), [], []⟩ laIn P := by
  have nd := sc_law.nd
  have hw := (world_ok (dg2M c)).1
  have ht := trp_ok (dg2M c)
  have hd := dg2_ok c
  have hn7 : n < 7 := by
    obtain ⟨h, _⟩ := List.getElem?_eq_some_iff.mp hn
    omega
  have hm : one ∈ trpM (dg2M c) := List.mem_of_getElem? hn
  have hl : 20 ≤ ((dg2M c).drop (105 + (n : Int)).toNat).length := by rw [List.length_drop, hd.1]; omega
  have hnn : ∀ d ∈ (dg2M c).drop (105 + (n : Int)).toNat, 0 ≤ d := fun d h => hd.2 d (List.mem_of_mem_drop h)
  have hz : RtOk ⟨worldM (dg2M c), trpM (dg2M c), one, (dg2M c).drop (105 + (n : Int)).toNat⟩ := ⟨hw, ht.1, hm, ht.2, hl, hnn⟩
  refine xb_one (xs_if (xt_not (xt_val (xe_callG F.ri (fun _ => hgd) (fun _ => hr) ⟨_, hz⟩ (xa_cons (xe_name (i := 6) rfl) (xa_cons (xe_name (i := 5) rfl) (xa_cons (xe_lstOfL (T.free 95 rfl) (xe_wwts (fun _ => hr) (xe_name (i := 4) rfl))) (xa_cons (xe_name (i := 7) rfl) (xa_cons (xe_name (i := 9) rfl) (xa_cons (XE.toD (xe_slL (xe_name (i := 3) rfl) (xo_some (xe_add xe_int (xe_name (i := 8) rfl))) xo_none) (cut_from (dg2M c) (n := 105 + (n : Int)) (by omega))) xa_nil))))))))) (fun hb => nomatch hb) (fun _ => xb_nil hP))
theorem la_cell (T : Tx g) (F : LaF g) (hgd : Ar.guards = some []) (hr : Room 55 (Ar.deeper (envOfC dLaw.qual dLaw.scope s.heap.objs.size (He.ga g.K "law") cdv))) {c : Int} {P : Po}
    (hP : ∀ q', Sub q' ⟨laD g ns (some (tInts g (cellsM ns))) none none none none none none none none, [], []⟩ → P.nx q') :
    XB g (laC g cdv Ar outer s H) ⟨laD g ns (some (tInts g (cellsM ns))) (some (tD g.K (.int c))) none none none none none none none, [], []⟩ laLoop P := by
  have nd := sc_law.nd
  obtain ⟨hw, hw1, hw7⟩ := world_ok (dg2M c)
  have hd := dg2_ok c
  have h0 := digL_ok c
  have ix0 : ∀ {j : Int} {m : Nat}, j = (m : Int) → m < 140 → atI ((digL c).map PyData.int) j = some (.int (dgt (digL c) m)) := fun {j m} h hm => rs_at (m := m) h (by rw [h0.1]; exact hm)
  have ix2 : ∀ {j : Int} {m : Nat}, j = (m : Int) → m < 140 → atI ((dg2M c).map PyData.int) j = some (.int (dgt (dg2M c) m)) := fun {j m} h hm => rs_at (m := m) h (by rw [hd.1]; exact hm)
  have b57 := dgt_in h0 (n := 57) (by decide)
  have eL : ((((digL c).map PyData.int).set 57 (.int (markM (digL c)))).map (tD g.K)) = (((dg2M c).map PyData.int).map (tD g.K)) := by
    unfold dg2M
    rw [List.map_set (f := PyData.int)]
  have ixK : IxP g [0, 3, 1] (dgt (digL c) 100 % 3) (pickI [0, 3, 1] (dgt (digL c) 100 % 3)) := ixP rfl (by decide)
  refine xb_cons (xs_setR 3 (xer_call (F.dg.mono (by decide)) (fun _ => hr) c (xa_cons (xe_name (i := 2) rfl) (xa_cons xe_int xa_nil))) (fun T1 hT => hT.elim) (fun la ts1 T1 hT => ?_) nd)
  obtain ⟨rfl, rfl⟩ := hT
  refine xb_cons (xs_lputOwn (i := 3) (O1 := []) (O2 := []) (l := la) (ds := (digL c).map .int) (d := markM (digL c)) (ii := 57) (m := 57) rfl rfl rfl (xe_add (xe_mul (lo_nn (by omega) (by omega)) (lo_nn (by decide) (by decide)) (xe_div (by decide) (lo_nn (by decide) (by decide)) (xe_ixL (ix0 (m := 57) rfl (by decide)) (xe_name (i := 3) rfl) xe_int) xe_int) xe_int) ?_) xe_int (by rw [List.length_map, h0.1]; rfl) ?_ (fun j => pe_var rfl (by first | exact Or.inl rfl | exact Or.inr (Or.inl rfl) | exact Or.inr (Or.inr rfl))))
  · refine ixK ?_ ?_ ?_
    · refine xeLst ?_ ?_
      · exact Nat.le_of_ble_eq_true rfl
      refine xaC ?_ ?_ ?_
      rotate_right
      · intro _; rfl
      · with_reducible exact xe_int
      refine xaC ?_ ?_ ?_
      rotate_right
      · intro _; rfl
      · with_reducible exact xe_int
      refine xaC ?_ ?_ ?_
      rotate_right
      · intro _; rfl
      · with_reducible exact xe_int
      exact xa_nil
    · exact xe_mod (by decide) (xe_int1 (T.free 99 rfl) (xe_ixL (ix0 (m := 100) rfl (by decide)) (xe_name (i := 3) rfl) xe_int)) xe_int
    · intro _ _; rfl
  refine xb_freeze 3 (O1 := []) (O2 := []) (l := la) (ds := (dg2M c).map .int) (congrArg (fun x => [(la, Kd.lst x)]) eL) rfl ?_
  refine xb_cons (xs_set 4 (xe_call (F.wo.mono (by decide)) (fun _ => hr) ⟨dg2M c, by rw [hd.1]; decide, hd.2⟩ (xa_cons (xe_name (i := 3) rfl) (xa_cons xe_int xa_nil))) ?_ nd)
  refine xb_cons (xs_set 5 (xe_call (F.ma.mono (by decide)) (fun _ => hr) ⟨worldM (dg2M c), hw⟩ (xa_cons (xe_name (i := 4) rfl) xa_nil)) ?_ nd)
  refine xb_cons (xs_set 6 (xe_call (F.ta.mono (by decide)) (fun _ => hr) ⟨worldM (dg2M c), hw⟩ (xa_cons (xe_name (i := 4) rfl) xa_nil)) ?_ nd)
  refine xb_cons (xs_set 7 (T := tKt (trpM (dg2M c))) (xe_tupOfK (T.free 94 rfl) (xe_lc [("_law_one", 9)] nd (fun j => pi_range1 rfl (T.free 97 rfl) (pa_cons (pe_w j) pa_nil)) (fun _ => blkOk_by (sc := defScope sLaw) (by show blkC ["_law_script", "_law_cells", "_law_cell_here", "_law_digits_here", "_law_world_here", "_law_plank", "_law_table_here", "_law_troop", "_law_k", "_law_one"] _ _ _ = true; decide +kernel)) (fun jj => pg_nm 9 jj nd) (fun jj => pts_one (pt_w jj)) (XR.toD (xr_lcR (n := ((worldM (dg2M c)).props.length : Int)) (h := fun b => .int (b : Int)) (f := trpF (dg2M c)) (δc := fun (b : Nat) => laD g ns (some (tInts g (cellsM ns))) (some (tD g.K (.int c))) (some (tInts g (dg2M c))) (some (tWld g (worldM (dg2M c)))) (some (tPlank g (worldM (dg2M c)))) (some (tTabW (worldM (dg2M c)))) none none (some (tD g.K (.int (b : Int))))) (by omega) (XE.toD (xe_lenL (T.free 91 rfl) (xe_wprops (fun _ => hr) (xe_name (i := 4) rfl))) (by rw [List.length_map])) (fun b hb => xg_name 9) (by decide) (fun b hb => tr_one (XT.to (xt_gt (xe_mod (by decide) (xe_int1 (T.free 99 rfl) (xe_shr (j := (b : Int)) (Int.natCast_nonneg b) (xe_ixL (ix2 (m := 101) rfl (by decide)) (xe_name (i := 3) rfl) xe_int) (xe_name (i := 9) rfl))) xe_int) xe_int) rfl)) (fun b hb hf => xe_name (i := 9) rfl)) ?_))) ?_ nd)
  · unfold trpM
    rw [List.map_map, Int.toNat_natCast]
    rfl
  refine xb_one (xs_forET (trpM (dg2M c)) (fun _ => ⟨laW g ns c none none, [], []⟩) (fun n d => laW g ns c (some (tD g.K (.int (n : Int)))) (some (tD g.K (.int d)))) (T.free 98 rfl) (xe_name (i := 7) rfl) ⟨Le.refl _, rfl, rfl⟩ (fun n d hn => xg_tup2 (xg_name 8) (xg_name 9)) (fun n d hn => la_turn T F hgd hr hn ⟨?_, rfl, rfl⟩) (hP _ ⟨?_, rfl, rfl⟩) (fun jj => pg_tup rfl (pgs_cons (pg_nm 8 jj nd) (pgs_cons (pg_nm 9 jj nd) pgs_nil))))
  all_goals repeat' first | exact Le.nil | refine Le.eq ?_ | refine Le.no ?_
end
theorem la_body {g : Pg} (T : Tx g) (F : LaF g) (cdv : Value) (Ar : Around) (outer : List Env) (s : Shared) (H : Hp) (ns : List Int) (hgd : Ar.guards = some []) (hr : Room 55 (Ar.deeper (envOfC dLaw.qual dLaw.scope s.heap.objs.size (He.ga g.K "law") cdv))) :
    XB g (laC g cdv Ar outer s H) (st0 laN [tScr g.K ns] []) dLaw.body { nx := fun _ => tD g.K .none = tD g.K (.bool true), rt := fun T => T = tD g.K (.bool true) } := by
  have nd := sc_law.nd
  have e3 : PyData.list (cutD (ns.map .int) none (some 3)) = .list ((ns.take 3).map .int) := cut_to ns 2
  refine xb_cons (xs_set 1 (XE.toD (xe_slS (xe_name (i := 0) rfl) xo_none (xo_some xe_int)) e3) ?_ nd)
  refine xb_to ⟨laD g ns (some (tInts g (cellsM ns))) none none none none none none none none, [], []⟩ (xs_if (xt_eqD (fun _ => hr) (sh_intl _).ok (by rfl) (xe_name (i := 1) rfl) (xe_lstD (ds := []) xa_nil)) (fun hb => ?_) (fun hb => ?_)) ?_
  · have h1 : ns.take 3 = [] := of_decide_eq_true ((eqv_nilI _).symm.trans hb)
    have e : cellsM ns = [4, 19] := by unfold cellsM; rw [if_pos h1]
    refine xb_one (xsSet 1 (tInts g (cellsM ns)) nd ?_ ?_ ?_ ?_ ?_ ?_)
    · rfl
    · intro _; first | exact Or.inl rfl | exact Or.inr rfl
    · intro _; rfl
    · intro _; first | exact Or.inl rfl | exact Or.inr rfl
    · rw [e]
      refine xeLst (ds := [.int 4, .int 19]) ?_ ?_
      · exact Nat.le_of_ble_eq_true rfl
      refine xaC ?_ ?_ ?_
      rotate_right
      · intro _; rfl
      · with_reducible exact xe_int
      refine xaC ?_ ?_ ?_
      rotate_right
      · intro _; rfl
      · with_reducible exact xe_int
      exact xa_nil
    · exact ⟨Le.refl _, rfl, rfl⟩
  · have h1 : ¬ ns.take 3 = [] := of_decide_eq_false ((eqv_nilI _).symm.trans hb)
    refine xb_nil ?_
    have e : cellsM ns = ns.take 3 := by unfold cellsM; rw [if_neg h1]
    rw [e]
    exact ⟨Le.refl _, rfl, rfl⟩
  refine xb_cons (xs_forLW (cellsM ns) PyData.int (fun _ => ⟨laD g ns (some (tInts g (cellsM ns))) none none none none none none none none, [], []⟩) (fun _ c => laD g ns (some (tInts g (cellsM ns))) (some (tD g.K (.int c))) none none none none none none none) (fun _ => True) trivial (xe_name (i := 1) rfl) ⟨Le.refl _, rfl, rfl⟩ (fun n c hn => xg_name 2) (fun n c hn _ => la_cell T F hgd hr fun q' h => ⟨trivial, h⟩) (fun _ => ?_) (fun jj => pg_nm 2 jj nd))
  exact xb_one (xs_ret (T := tD g.K (.bool true)) xe_bl rfl)
end Pf
end
section
set_option Elab.async false
set_option linter.all false
set_option maxRecDepth 100000
set_option maxHeartbeats 2000000
set_option exponentiation.threshold 5000
set_option pp.maxSteps 1200
namespace Pf
open PySem PySem.Spec PyProof.Rows L2 RZ
/-! ### all promises, in order -/
theorem la_all {g : Pg} (T : Tx g) : LaF g := by
  have is_whole := fn_is_whole T
  have divisor := fn_divisor T
  have cut := fn_cut T divisor
  have whole := fn_whole T
  have plus := fn_plus T cut
  have less := fn_less T cut
  have times := fn_times T cut
  have over := fn_over T cut
  have is_below := fn_is_below T
  have sum_of := fn_sum_of T plus
  have is_fraction := fn_is_fraction T is_whole divisor
  have is_measure := fn_is_measure T is_fraction is_below
  have is_prop := fn_is_prop T is_whole is_measure
  have are_props := fn_are_props T is_prop
  have p_length := fn_Plank_length T
  have p_count := fn_Plank_count T
  have p_place := fn_Plank_place_of T is_whole p_count
  have is_lot := fn_is_lot T is_whole p_count
  have lot_of := fn_lot_of T p_count is_lot
  have check_prop := fn_check_prop T is_whole
  have rests_of := fn_rests_of T p_count
  have is_spot := fn_is_spot T is_measure is_below whole p_length
  have is_weight := fn_is_weight T is_spot is_fraction is_below
  have slope := fn_slope T over less whole
  have mkp := mk_Plank T is_whole are_props
  have share := fn_Loads_share T p_place whole is_below slope less p_count
  have lies_on := fn_Loads_lies_on T times share sum_of
  have overlaid := fn_Loads_is_overlaid T is_below lies_on
  have check_weights := fn_check_weights T is_weight
  have mkl := mk_Loads T
  have loads_of := fn_loads_of T check_weights mkl
  have begun_of := fn_begun_of T loads_of lot_of
  have ob := fn_overlaid_between T overlaid
  have without := fn_without T
  have is_within := fn_is_within T
  have sb := fn_settled_between T ob without
  have settled := fn_settled T sb p_count
  have mks := mk_Spans T rests_of
  have is_over := fn_Spans_is_over T overlaid
  have spans := fn_spans T is_over
  have trees := fn_trees T is_over
  have rows := fn_rows T
  have soonest_span := fn_soonest_span T (spans 14).1
  have between := fn_between T
  have from_one := fn_check_from_one T is_whole
  have pairs := fn_pairs_about T
  have soonest := fn_soonest T begun_of check_prop mks soonest_span settled (trees 14) (rows 14)
  have no_sooner := fn_no_sooner T begun_of check_prop from_one mks pairs is_over (spans 14).2 sb
  have is_reason := fn_is_reason T overlaid is_lot is_within between ob
  have is_ns := fn_is_no_sooner T begun_of check_prop from_one rests_of pairs is_whole is_reason
  have is_nv := fv_is_no_sooner T begun_of check_prop from_one rests_of pairs is_whole is_reason
  have lcut := fn__law_cut T
  have lless := fn__law_less T
  have lsum := fn__law_sum T lcut
  have lload := fn__law_load T lcut lsum (fn__law_place T)
  have lover := fn__law_over T
  have rr := fn__law_row_right T lover lless
  have ld := fn__law_distance T lover lless
  have pr := fn__law_papers_right T (fn__law_reason_right T)
  exact ⟨fn__law_digits T, fn__law_world T lcut, fn__law_made T mkp, fn__law_table T lload, fn__law_right T ⟨soonest, no_sooner, is_ns, is_nv, p_count, ld, lover, rr, pr, fn__law_spoilt T⟩⟩
section
variable {g : Pg} {x : Str} {ps N : List Str} {k : Nat} {α : Type} {Mm : α → Ml} {A : α → List Ty} {R : α → Ty} {fd : FuncData}
theorem okG_of {y qual : Str} {params : Arguments} {body : List Stmt} {scope : Scope} {f : Addr} (F : FunD g.K y qual params body scope [] [] f fd) (S : FnScope N ps scope) (len : ∀ z, (A z).length = ps.length)
    (hb : ∀ (cdv : Value) (Ar : Around) (outer : List Env) (s : Shared) (H : Hp) (z : α), Ar.guards = some [] → Room k (Ar.deeper (envOfC qual scope s.heap.objs.size f cdv)) →
      XB g (ctOf (cxOf CX0 g.P g.w g.K g.mg g.base N qual scope f cdv Ar outer s H E0)) (st0 N (A z) (Mm z)) body { nx := fun _ => tD g.K .none = R z, rt := fun T => T = R z }) : OkG g (k + 1) f fd ps (spM Mm A R) := by
  refine okG_body F S (fun vs H Q E h => ?_) fun cdv Ar hg outer s H vs Q E hr h => ?_
  · obtain ⟨Z, z, h1, _⟩ := h
    rw [h1.length, len]
  · obtain ⟨Z, z, h1, h2, kk⟩ := h
    have hv := h1.length
    have hl : (A z).length = ps.length := len z
    refine ⟨wB g (ctOf (cxOf CX0 g.P g.w g.K g.mg g.base N qual scope f cdv Ar outer s H E)) body, PSs.nox (pss_w (C := ctOf (cxOf CX0 g.P g.w g.K g.mg g.base N qual scope f cdv Ar outer s H E)) ()), ?_⟩
    have zo : Zo Z [] = Z := by funext a; simp [Zo, inO]
    refine hb cdv Ar outer s H z hg hr Z (Mm z) H [] _ H _ ⟨?_, ?_, (fun p hp => nomatch hp), List.nodup_nil, (fun p hp => nomatch hp), Fr.refl, (fun p hp => nomatch hp), (fun p hp => .inl hp), .refl _, (fun p hp => nomatch hp)⟩ ⟨fun q σ H' n hh => ?_, fun T v H' n r => ?_, fun _ _ _ n => n.elim, fun _ _ _ n => n.elim⟩
    · show Sl (out (Zm (Zo Z []) (Mm z)) H) _ _
      rw [zo]
      unfold L2.start
      rw [hv]
      exact sl_start h1
    · show Amb (Zo Z []) (Mm z) H
      rw [zo]
      exact h2
    · have r := hh.ret (T := tD g.K .none) (v := .non) .non
      have n' : tD g.K .none = R z := n
      rw [n'] at r
      exact kk _ H' r.fr r.amb r.is
    · have n' : T = R z := n
      rw [n'] at r
      exact kk v H' r.fr r.amb r.is
end
abbrev spLaw (K : PySem.W.Frag) : Sp := spM (α := List Int) (fun _ => []) (fun ns => [tScr K ns]) (fun _ => tD K (.bool true))
theorem law_ok {P : Program} {w : World} {K : PySem.W.Frag} {mg : Str → Option Value} {base h : Heap} {fd : FuncData} (hK : K.In h) (hG : h.Ns mainGlobals mg) (c : He.SaysD faL fnL K) (ex : exB K = true) (F : FunD K dLaw.name dLaw.qual dLaw.params dLaw.body dLaw.scope [] [] (He.ga K "law") fd) :
    OkG ⟨P, w, K, mg, base⟩ 56 (He.ga K "law") fd ["_law_script"] (spLaw K) :=
  okG_of (g := ⟨P, w, K, mg, base⟩) (N := laN) F sc_law (fun _ => rfl) fun cdv Ar outer s H ns hgd hr => la_body (g := ⟨P, w, K, mg, base⟩) ⟨⟨h, hK, hG⟩, c, ex⟩ (la_all ⟨⟨h, hK, hG⟩, c, ex⟩) cdv Ar outer s H ns hgd hr
theorem law_wish {K : PySem.W.Frag} {H : Hp} {a : Addr} {ns : List Int} (hS : SqL K H a (ns.map V.int)) : spLaw K [.ref a] H (fun v _ => v = .bl true) E0 := by
  have e : out (Zm (fun _ => false) []) H = H := by
    funext b
    unfold out Zm inM
    simp
  refine ⟨fun _ => false, ns, ?_, ⟨(fun p hp => nomatch hp), (fun a z => nomatch z), List.nodup_nil, (fun p hp => nomatch hp)⟩, fun v H' _ _ t => rp_bl t⟩
  rw [e]
  exact .cons ⟨a, rfl, hS⟩ .nil
theorem facts {P : Program} {w : World} {K : PySem.W.Frag} {h : Heap} {mg : Str → Option Value} {f : Addr} (hK : K.In h) (hG : h.Ns mainGlobals mg) (hf : mg ("law" : Str) = some (.ref f)) (c : He.SaysD faL fnL K) (ex : exB K = true) :
    ∃ fd : FuncData, (∀ (s : Shared) (u : Value), BindsTo s fd ⟨[u], []⟩ [("_law_script", u)]) ∧ ∀ base : Heap, K.In base → base.Ns mainGlobals mg → OkG ⟨P, w, K, mg, base⟩ 56 f fd ["_law_script"] (spLaw K) := by
  obtain ⟨fd, F⟩ := c.def_ 67 (d := dLaw) rfl
  have e := hf.symm.trans (He.glo_ok hK hG (c.fact 54 (f := .glo "law") rfl))
  obtain rfl : f = He.ga K "law" := by cases e; rfl
  have b := FunD.bindsA (ps := ["_law_script"]) F fun _ _ _ _ _ _ us hl => match us, hl with | [_], _ => rfl
  exact ⟨fd, fun s u => b s [u] rfl, fun base hb hn => law_ok hb hn c ex F⟩
end Pf
end
set_option Elab.async false
set_option linter.all false
set_option maxRecDepth 100000
set_option maxHeartbeats 0
open PySem PySem.W PySem.Calls PyProof.Rows
theorem PySem.Challenge.cw_propfall_k24_whole_the_fewest_ahead_holds : PySem.Challenge.rw_propfall_k24_whole_the_fewest_ahead.Holds := by
  w_on; o_law
  refine HandSHeadRun.head_any (r := OpenLaw.row PySem.Challenge.rw_propfall_k24_whole_the_fewest_ahead) (q := view (OpenLaw.row PySem.Challenge.rw_propfall_k24_whole_the_fewest_ahead).prog [Pf.lawIx]) (H := Pf.hk) (ob := Pf.ob) (M := 6000) (loose := Pf.looseL) (d := HandSHeadRun.topDef (OpenLaw.row PySem.Challenge.rw_propfall_k24_whole_the_fewest_ahead).prog Pf.lawIx) (kwd := []) Pf.ob_eq
    (by kernel_rfl) (fun s => by kernel_rfl) Pf.run (by kernel_rfl) (by kernel_rfl) (by kernel_rfl) (by rfl) (by first | assumption | decide +kernel) (by decide +kernel) ⟨rfl, rfl, rfl, rfl, rfl, by decide +kernel⟩ ?hw ?hc
  case hw => w_witness2
  case hc =>
    refine Pf.walk_G (l := PySem.Challenge.rw_propfall_k24_whole_the_fewest_ahead) (n := 63) (k := 56) (x := "_law_script") rfl (by decide) (by kernel_rfl) ⟨rfl, by decide, by decide⟩ ?F
    intro w mg fa h Y G hmg0
    obtain ⟨K, KX, c⟩ := Y
    have hmg : mg ("law" : PySem.Str) = some (.ref fa) := by
      have e : (HandSHeadRun.topDef (OpenLaw.row PySem.Challenge.rw_propfall_k24_whole_the_fewest_ahead).prog Pf.lawIx).name = ("law" : PySem.Str) := by kernel_rfl
      rw [← e]
      exact hmg0
    obtain ⟨fd, hb, hF⟩ := Pf.facts (P := (PySem.Challenge.rw_propfall_k24_whole_the_fewest_ahead).prog) (w := w) KX G hmg c.t.d c.more
    exact ⟨K, fd, Pf.spLaw K, KX, hb, fun H a ns hl hS => Pf.law_wish hS, hF⟩
