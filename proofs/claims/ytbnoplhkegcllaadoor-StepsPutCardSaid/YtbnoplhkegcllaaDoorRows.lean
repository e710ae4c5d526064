/-
  NARROWER THAN 'FOR EVERY INPUT', by the rows' own cells (each row's printed sentence says how): StepsGet: loops, laid · StepsPut: loops, laid · StepsDrop: loops, laid · StepsBack: loops, laid · StepsTwice: loops, laid · StepsBeside: loops, laid · StepsGone: loops, laid · OrderCompares: loops, laid · OrderTotal: loops, laid · OrderLists: loops, laid · OrderSorts: loops, laid · OrderRises: loops, laid.
  DERIVED. THE GIVEN ROWS OF THIS SEAT. 12 by the template 'for every input the law returns true; each argument reads behind the call as it read before'; 0 by the template 'total and deterministic' (their statements: YtbnoplhkegcllaaDoorTotals.lean).
  GIVEN WITH THE SEED: the statements are not yours to turn. If you find one false, say at which input.
  Laid BY PROGRAM, IN A SANDBOX (cutbox-rows.mjs): the forced cells as the released guide's own fill.sh prints them over the translation f31d04e69246e948… (all of the seat's roots in one cut). By AI agents, Wed Nov 11 2026. No macro, syntax, notation, axiom, sorry.
-/
import Derived.Test.YtbnoplhkegcllaaDoorChecked
import GoSem.PinnedTables
import GoSem.Claim
import GoSem.ClaimJoined
import GoSem.ClaimMapViews
import Derived.JoinedTies
import Derived.KernelRfl
namespace Go.Proofs.YtbnoplhkegcllaaDoor
/- THE CELL 'sum', in the pinned program and in every row, IS THE sha256 OF THE DUMP (.gsa) THAT YtbnoplhkegcllaaDoorProg.lean LOADS. Nothing in Lean hashes anything: it is a label: what it is worth is what the hold of that sum in a sandbox is worth. -/
noncomputable def Tryd.pinned : Pinned := { name := "ytbnoplhkegcllaadoor", sum := "f31d04e69246e948bc47eec5f13781651cd668b69b76dba2263c390c30d117af", checked := Tryd.checked }
namespace Rows
def none {H : Type} : Left H := { results := [], args := [] }

/- WHAT THE LISTED PACKAGE-LEVEL VARIABLES READ AS WHEN THE CALL BEGINS. Each datum BY PROGRAM (the guide's laid-datum.mjs) off the statement by which the dump's own 'gosem.cut.vars' lays the variable. In a bare row this is a premise. The card (YtbnoplhkegcllaaDoorCards.lean) ties it to the program's text. -/
def laid_unicode_utf8_acceptRanges {H : Type} : DataW H := .agg [.agg [.lit (.int .u8 128), .lit (.int .u8 191)], .agg [.lit (.int .u8 160), .lit (.int .u8 191)], .agg [.lit (.int .u8 128), .lit (.int .u8 159)], .agg [.lit (.int .u8 144), .lit (.int .u8 191)], .agg [.lit (.int .u8 128), .lit (.int .u8 143)], .agg [.lit (.int .u8 0), .lit (.int .u8 0)], .agg [.lit (.int .u8 0), .lit (.int .u8 0)], .agg [.lit (.int .u8 0), .lit (.int .u8 0)], .agg [.lit (.int .u8 0), .lit (.int .u8 0)], .agg [.lit (.int .u8 0), .lit (.int .u8 0)], .agg [.lit (.int .u8 0), .lit (.int .u8 0)], .agg [.lit (.int .u8 0), .lit (.int .u8 0)], .agg [.lit (.int .u8 0), .lit (.int .u8 0)], .agg [.lit (.int .u8 0), .lit (.int .u8 0)], .agg [.lit (.int .u8 0), .lit (.int .u8 0)], .agg [.lit (.int .u8 0), .lit (.int .u8 0)]]
def laid_thimble_num_tens {H : Type} : DataW H := .agg [.lit (.int .u64 1), .lit (.int .u64 10), .lit (.int .u64 100), .lit (.int .u64 1000), .lit (.int .u64 10000), .lit (.int .u64 100000), .lit (.int .u64 1000000), .lit (.int .u64 10000000), .lit (.int .u64 100000000), .lit (.int .u64 1000000000), .lit (.int .u64 10000000000), .lit (.int .u64 100000000000), .lit (.int .u64 1000000000000), .lit (.int .u64 10000000000000), .lit (.int .u64 100000000000000), .lit (.int .u64 1000000000000000), .lit (.int .u64 10000000000000000), .lit (.int .u64 100000000000000000), .lit (.int .u64 1000000000000000000), .lit (.int .u64 10000000000000000000)]
/-- One of Go's own tables, pinned by name: the form's constant. -/
def laid_unicode_utf8_first : DataW Unit := Go.Pinned.utf8First
def laid_math_bits_deBruijn32tab {H : Type} : DataW H := .agg [.lit (.int .u8 0), .lit (.int .u8 1), .lit (.int .u8 28), .lit (.int .u8 2), .lit (.int .u8 29), .lit (.int .u8 14), .lit (.int .u8 24), .lit (.int .u8 3), .lit (.int .u8 30), .lit (.int .u8 22), .lit (.int .u8 20), .lit (.int .u8 15), .lit (.int .u8 25), .lit (.int .u8 17), .lit (.int .u8 4), .lit (.int .u8 8), .lit (.int .u8 31), .lit (.int .u8 27), .lit (.int .u8 13), .lit (.int .u8 23), .lit (.int .u8 21), .lit (.int .u8 19), .lit (.int .u8 16), .lit (.int .u8 7), .lit (.int .u8 26), .lit (.int .u8 12), .lit (.int .u8 18), .lit (.int .u8 6), .lit (.int .u8 11), .lit (.int .u8 5), .lit (.int .u8 10), .lit (.int .u8 9)]
def laid_math_bits_deBruijn64tab {H : Type} : DataW H := .agg [.lit (.int .u8 0), .lit (.int .u8 1), .lit (.int .u8 56), .lit (.int .u8 2), .lit (.int .u8 57), .lit (.int .u8 49), .lit (.int .u8 28), .lit (.int .u8 3), .lit (.int .u8 61), .lit (.int .u8 58), .lit (.int .u8 42), .lit (.int .u8 50), .lit (.int .u8 38), .lit (.int .u8 29), .lit (.int .u8 17), .lit (.int .u8 4), .lit (.int .u8 62), .lit (.int .u8 47), .lit (.int .u8 59), .lit (.int .u8 36), .lit (.int .u8 45), .lit (.int .u8 43), .lit (.int .u8 51), .lit (.int .u8 22), .lit (.int .u8 53), .lit (.int .u8 39), .lit (.int .u8 33), .lit (.int .u8 30), .lit (.int .u8 24), .lit (.int .u8 18), .lit (.int .u8 12), .lit (.int .u8 5), .lit (.int .u8 63), .lit (.int .u8 55), .lit (.int .u8 48), .lit (.int .u8 27), .lit (.int .u8 60), .lit (.int .u8 41), .lit (.int .u8 37), .lit (.int .u8 16), .lit (.int .u8 46), .lit (.int .u8 35), .lit (.int .u8 44), .lit (.int .u8 21), .lit (.int .u8 52), .lit (.int .u8 32), .lit (.int .u8 23), .lit (.int .u8 11), .lit (.int .u8 54), .lit (.int .u8 26), .lit (.int .u8 40), .lit (.int .u8 15), .lit (.int .u8 34), .lit (.int .u8 20), .lit (.int .u8 31), .lit (.int .u8 10), .lit (.int .u8 25), .lit (.int .u8 14), .lit (.int .u8 19), .lit (.int .u8 9), .lit (.int .u8 13), .lit (.int .u8 8), .lit (.int .u8 7), .lit (.int .u8 6)]
def laid_internal_strconv_uint64pow10 {H : Type} : DataW H := .agg [.lit (.int .u64 1), .lit (.int .u64 10), .lit (.int .u64 100), .lit (.int .u64 1000), .lit (.int .u64 10000), .lit (.int .u64 100000), .lit (.int .u64 1000000), .lit (.int .u64 10000000), .lit (.int .u64 100000000), .lit (.int .u64 1000000000), .lit (.int .u64 10000000000), .lit (.int .u64 100000000000), .lit (.int .u64 1000000000000), .lit (.int .u64 10000000000000), .lit (.int .u64 100000000000000), .lit (.int .u64 1000000000000000), .lit (.int .u64 10000000000000000), .lit (.int .u64 100000000000000000), .lit (.int .u64 1000000000000000000), .lit (.int .u64 10000000000000000000)]

/-- 'thimblelaw08.StepsGet': WHATEVER THE INPUT: true; the input reads as it did. -/
def stepsGetSpec : ChangeSpec := { name := "stepsGet", fn := fun _ => fun
  | [d1, d2] => { results := [.lit (.bool true)], args := [d1, d2] }
  | _ => none }
def stepsGetRow : OpenClaim := { program := "ytbnoplhkegcllaadoor", sum := "f31d04e69246e948bc47eec5f13781651cd668b69b76dba2263c390c30d117af", func := "thimble/thimblelaw08.StepsGet", spec := "stepsGet", unfollowed := true, recurses := true, named := ["thimble/num.tens", "unicode/utf8.first", "unicode/utf8.acceptRanges"], loops := true, apart := false, laid := [("unicode/utf8.acceptRanges", laid_unicode_utf8_acceptRanges), ("thimble/num.tens", laid_thimble_num_tens), ("unicode/utf8.first", laid_unicode_utf8_first)] }
def StepsGetSaid : Prop := stepsGetRow.holds Tryd.pinned (OpenSpec.ofChange stepsGetSpec)

/-- ITS FALSE NEIGHBOUR: 'it returns false'. Refute it at one input. -/
def stepsGetWrong : ChangeSpec := { name := "stepsGet", fn := fun _ => fun
  | [d1, d2] => { results := [.lit (.bool false)], args := [d1, d2] }
  | _ => none }
def StepsGetWrongFalsely : Prop := stepsGetRow.holds Tryd.pinned (OpenSpec.ofChange stepsGetWrong)

/-- 'thimblelaw08.StepsPut': WHATEVER THE INPUT: true; the input reads as it did. -/
def stepsPutSpec : ChangeSpec := { name := "stepsPut", fn := fun _ => fun
  | [d1, d2, d3] => { results := [.lit (.bool true)], args := [d1, d2, d3] }
  | _ => none }
def stepsPutRow : OpenClaim := { program := "ytbnoplhkegcllaadoor", sum := "f31d04e69246e948bc47eec5f13781651cd668b69b76dba2263c390c30d117af", func := "thimble/thimblelaw08.StepsPut", spec := "stepsPut", unfollowed := true, recurses := true, named := ["thimble/num.tens", "unicode/utf8.first", "unicode/utf8.acceptRanges"], loops := true, apart := false, laid := [("unicode/utf8.acceptRanges", laid_unicode_utf8_acceptRanges), ("thimble/num.tens", laid_thimble_num_tens), ("unicode/utf8.first", laid_unicode_utf8_first)] }
def StepsPutSaid : Prop := stepsPutRow.holds Tryd.pinned (OpenSpec.ofChange stepsPutSpec)

/-- ITS FALSE NEIGHBOUR: 'it returns false'. Refute it at one input. -/
def stepsPutWrong : ChangeSpec := { name := "stepsPut", fn := fun _ => fun
  | [d1, d2, d3] => { results := [.lit (.bool false)], args := [d1, d2, d3] }
  | _ => none }
def StepsPutWrongFalsely : Prop := stepsPutRow.holds Tryd.pinned (OpenSpec.ofChange stepsPutWrong)

/-- 'thimblelaw08.StepsDrop': WHATEVER THE INPUT: true; the input reads as it did. -/
def stepsDropSpec : ChangeSpec := { name := "stepsDrop", fn := fun _ => fun
  | [d1, d2] => { results := [.lit (.bool true)], args := [d1, d2] }
  | _ => none }
def stepsDropRow : OpenClaim := { program := "ytbnoplhkegcllaadoor", sum := "f31d04e69246e948bc47eec5f13781651cd668b69b76dba2263c390c30d117af", func := "thimble/thimblelaw08.StepsDrop", spec := "stepsDrop", unfollowed := true, recurses := true, named := ["thimble/num.tens", "unicode/utf8.first", "unicode/utf8.acceptRanges"], loops := true, apart := false, laid := [("unicode/utf8.acceptRanges", laid_unicode_utf8_acceptRanges), ("thimble/num.tens", laid_thimble_num_tens), ("unicode/utf8.first", laid_unicode_utf8_first)] }
def StepsDropSaid : Prop := stepsDropRow.holds Tryd.pinned (OpenSpec.ofChange stepsDropSpec)

/-- ITS FALSE NEIGHBOUR: 'it returns false'. Refute it at one input. -/
def stepsDropWrong : ChangeSpec := { name := "stepsDrop", fn := fun _ => fun
  | [d1, d2] => { results := [.lit (.bool false)], args := [d1, d2] }
  | _ => none }
def StepsDropWrongFalsely : Prop := stepsDropRow.holds Tryd.pinned (OpenSpec.ofChange stepsDropWrong)

/-- 'thimblelaw08.StepsBack': WHATEVER THE INPUT: true; the input reads as it did. -/
def stepsBackSpec : ChangeSpec := { name := "stepsBack", fn := fun _ => fun
  | [d1, d2, d3] => { results := [.lit (.bool true)], args := [d1, d2, d3] }
  | _ => none }
def stepsBackRow : OpenClaim := { program := "ytbnoplhkegcllaadoor", sum := "f31d04e69246e948bc47eec5f13781651cd668b69b76dba2263c390c30d117af", func := "thimble/thimblelaw08.StepsBack", spec := "stepsBack", unfollowed := true, recurses := true, named := ["thimble/num.tens", "unicode/utf8.first", "unicode/utf8.acceptRanges"], loops := true, apart := false, laid := [("unicode/utf8.acceptRanges", laid_unicode_utf8_acceptRanges), ("thimble/num.tens", laid_thimble_num_tens), ("unicode/utf8.first", laid_unicode_utf8_first)] }
def StepsBackSaid : Prop := stepsBackRow.holds Tryd.pinned (OpenSpec.ofChange stepsBackSpec)

/-- ITS FALSE NEIGHBOUR: 'it returns false'. Refute it at one input. -/
def stepsBackWrong : ChangeSpec := { name := "stepsBack", fn := fun _ => fun
  | [d1, d2, d3] => { results := [.lit (.bool false)], args := [d1, d2, d3] }
  | _ => none }
def StepsBackWrongFalsely : Prop := stepsBackRow.holds Tryd.pinned (OpenSpec.ofChange stepsBackWrong)

/-- 'thimblelaw08.StepsTwice': WHATEVER THE INPUT: true; the input reads as it did. -/
def stepsTwiceSpec : ChangeSpec := { name := "stepsTwice", fn := fun _ => fun
  | [d1, d2, d3, d4] => { results := [.lit (.bool true)], args := [d1, d2, d3, d4] }
  | _ => none }
def stepsTwiceRow : OpenClaim := { program := "ytbnoplhkegcllaadoor", sum := "f31d04e69246e948bc47eec5f13781651cd668b69b76dba2263c390c30d117af", func := "thimble/thimblelaw08.StepsTwice", spec := "stepsTwice", unfollowed := true, recurses := true, named := ["thimble/num.tens", "unicode/utf8.first", "unicode/utf8.acceptRanges"], loops := true, apart := false, laid := [("unicode/utf8.acceptRanges", laid_unicode_utf8_acceptRanges), ("thimble/num.tens", laid_thimble_num_tens), ("unicode/utf8.first", laid_unicode_utf8_first)] }
def StepsTwiceSaid : Prop := stepsTwiceRow.holds Tryd.pinned (OpenSpec.ofChange stepsTwiceSpec)

/-- ITS FALSE NEIGHBOUR: 'it returns false'. Refute it at one input. -/
def stepsTwiceWrong : ChangeSpec := { name := "stepsTwice", fn := fun _ => fun
  | [d1, d2, d3, d4] => { results := [.lit (.bool false)], args := [d1, d2, d3, d4] }
  | _ => none }
def StepsTwiceWrongFalsely : Prop := stepsTwiceRow.holds Tryd.pinned (OpenSpec.ofChange stepsTwiceWrong)

/-- 'thimblelaw08.StepsBeside': WHATEVER THE INPUT: true; the input reads as it did. -/
def stepsBesideSpec : ChangeSpec := { name := "stepsBeside", fn := fun _ => fun
  | [d1, d2, d3, d4, d5] => { results := [.lit (.bool true)], args := [d1, d2, d3, d4, d5] }
  | _ => none }
def stepsBesideRow : OpenClaim := { program := "ytbnoplhkegcllaadoor", sum := "f31d04e69246e948bc47eec5f13781651cd668b69b76dba2263c390c30d117af", func := "thimble/thimblelaw08.StepsBeside", spec := "stepsBeside", unfollowed := true, recurses := true, named := ["thimble/num.tens", "unicode/utf8.first", "unicode/utf8.acceptRanges"], loops := true, apart := false, laid := [("unicode/utf8.acceptRanges", laid_unicode_utf8_acceptRanges), ("thimble/num.tens", laid_thimble_num_tens), ("unicode/utf8.first", laid_unicode_utf8_first)] }
def StepsBesideSaid : Prop := stepsBesideRow.holds Tryd.pinned (OpenSpec.ofChange stepsBesideSpec)

/-- ITS FALSE NEIGHBOUR: 'it returns false'. Refute it at one input. -/
def stepsBesideWrong : ChangeSpec := { name := "stepsBeside", fn := fun _ => fun
  | [d1, d2, d3, d4, d5] => { results := [.lit (.bool false)], args := [d1, d2, d3, d4, d5] }
  | _ => none }
def StepsBesideWrongFalsely : Prop := stepsBesideRow.holds Tryd.pinned (OpenSpec.ofChange stepsBesideWrong)

/-- 'thimblelaw08.StepsGone': WHATEVER THE INPUT: true; the input reads as it did. -/
def stepsGoneSpec : ChangeSpec := { name := "stepsGone", fn := fun _ => fun
  | [d1, d2] => { results := [.lit (.bool true)], args := [d1, d2] }
  | _ => none }
def stepsGoneRow : OpenClaim := { program := "ytbnoplhkegcllaadoor", sum := "f31d04e69246e948bc47eec5f13781651cd668b69b76dba2263c390c30d117af", func := "thimble/thimblelaw08.StepsGone", spec := "stepsGone", unfollowed := true, recurses := true, named := ["thimble/num.tens", "unicode/utf8.first", "unicode/utf8.acceptRanges"], loops := true, apart := false, laid := [("unicode/utf8.acceptRanges", laid_unicode_utf8_acceptRanges), ("thimble/num.tens", laid_thimble_num_tens), ("unicode/utf8.first", laid_unicode_utf8_first)] }
def StepsGoneSaid : Prop := stepsGoneRow.holds Tryd.pinned (OpenSpec.ofChange stepsGoneSpec)

/-- ITS FALSE NEIGHBOUR: 'it returns false'. Refute it at one input. -/
def stepsGoneWrong : ChangeSpec := { name := "stepsGone", fn := fun _ => fun
  | [d1, d2] => { results := [.lit (.bool false)], args := [d1, d2] }
  | _ => none }
def StepsGoneWrongFalsely : Prop := stepsGoneRow.holds Tryd.pinned (OpenSpec.ofChange stepsGoneWrong)

/-- 'thimblelaw04.OrderCompares': WHATEVER THE INPUT: true; the input reads as it did. -/
def orderComparesSpec : ChangeSpec := { name := "orderCompares", fn := fun _ => fun
  | [d1, d2] => { results := [.lit (.bool true)], args := [d1, d2] }
  | _ => none }
def orderComparesRow : OpenClaim := { program := "ytbnoplhkegcllaadoor", sum := "f31d04e69246e948bc47eec5f13781651cd668b69b76dba2263c390c30d117af", func := "thimble/thimblelaw04.OrderCompares", spec := "orderCompares", inPlace := ["internal/bytealg.abigen_runtime_cmpstring"], unfollowed := true, recurses := true, named := ["thimble/num.tens", "unicode/utf8.first", "unicode/utf8.acceptRanges", "internal/strconv.uint64pow10", "math/bits.deBruijn32tab", "math/bits.deBruijn64tab"], loops := true, apart := false, laid := [("math/bits.deBruijn32tab", laid_math_bits_deBruijn32tab), ("math/bits.deBruijn64tab", laid_math_bits_deBruijn64tab), ("internal/strconv.uint64pow10", laid_internal_strconv_uint64pow10), ("unicode/utf8.acceptRanges", laid_unicode_utf8_acceptRanges), ("thimble/num.tens", laid_thimble_num_tens), ("unicode/utf8.first", laid_unicode_utf8_first)] }
def OrderComparesSaid : Prop := orderComparesRow.holds Tryd.pinned (OpenSpec.ofChange orderComparesSpec)

/-- ITS FALSE NEIGHBOUR: 'it returns false'. Refute it at one input. -/
def orderComparesWrong : ChangeSpec := { name := "orderCompares", fn := fun _ => fun
  | [d1, d2] => { results := [.lit (.bool false)], args := [d1, d2] }
  | _ => none }
def OrderComparesWrongFalsely : Prop := orderComparesRow.holds Tryd.pinned (OpenSpec.ofChange orderComparesWrong)

/-- 'thimblelaw04.OrderTotal': WHATEVER THE INPUT: true; the input reads as it did. -/
def orderTotalSpec : ChangeSpec := { name := "orderTotal", fn := fun _ => fun
  | [d1, d2, d3] => { results := [.lit (.bool true)], args := [d1, d2, d3] }
  | _ => none }
def orderTotalRow : OpenClaim := { program := "ytbnoplhkegcllaadoor", sum := "f31d04e69246e948bc47eec5f13781651cd668b69b76dba2263c390c30d117af", func := "thimble/thimblelaw04.OrderTotal", spec := "orderTotal", inPlace := ["internal/bytealg.abigen_runtime_cmpstring"], unfollowed := true, recurses := true, named := ["thimble/num.tens", "unicode/utf8.first", "unicode/utf8.acceptRanges", "internal/strconv.uint64pow10", "math/bits.deBruijn32tab", "math/bits.deBruijn64tab"], loops := true, apart := false, laid := [("math/bits.deBruijn32tab", laid_math_bits_deBruijn32tab), ("math/bits.deBruijn64tab", laid_math_bits_deBruijn64tab), ("internal/strconv.uint64pow10", laid_internal_strconv_uint64pow10), ("unicode/utf8.acceptRanges", laid_unicode_utf8_acceptRanges), ("thimble/num.tens", laid_thimble_num_tens), ("unicode/utf8.first", laid_unicode_utf8_first)] }
def OrderTotalSaid : Prop := orderTotalRow.holds Tryd.pinned (OpenSpec.ofChange orderTotalSpec)

/-- ITS FALSE NEIGHBOUR: 'it returns false'. Refute it at one input. -/
def orderTotalWrong : ChangeSpec := { name := "orderTotal", fn := fun _ => fun
  | [d1, d2, d3] => { results := [.lit (.bool false)], args := [d1, d2, d3] }
  | _ => none }
def OrderTotalWrongFalsely : Prop := orderTotalRow.holds Tryd.pinned (OpenSpec.ofChange orderTotalWrong)

/-- 'thimblelaw04.OrderLists': WHATEVER THE INPUT: true; the input reads as it did. -/
def orderListsSpec : ChangeSpec := { name := "orderLists", fn := fun _ => fun
  | [d1, d2, d3, d4] => { results := [.lit (.bool true)], args := [d1, d2, d3, d4] }
  | _ => none }
def orderListsRow : OpenClaim := { program := "ytbnoplhkegcllaadoor", sum := "f31d04e69246e948bc47eec5f13781651cd668b69b76dba2263c390c30d117af", func := "thimble/thimblelaw04.OrderLists", spec := "orderLists", inPlace := ["internal/bytealg.abigen_runtime_cmpstring"], unfollowed := true, recurses := true, named := ["thimble/num.tens", "unicode/utf8.first", "unicode/utf8.acceptRanges", "internal/strconv.uint64pow10", "math/bits.deBruijn32tab", "math/bits.deBruijn64tab"], loops := true, apart := false, laid := [("math/bits.deBruijn32tab", laid_math_bits_deBruijn32tab), ("math/bits.deBruijn64tab", laid_math_bits_deBruijn64tab), ("internal/strconv.uint64pow10", laid_internal_strconv_uint64pow10), ("unicode/utf8.acceptRanges", laid_unicode_utf8_acceptRanges), ("thimble/num.tens", laid_thimble_num_tens), ("unicode/utf8.first", laid_unicode_utf8_first)] }
def OrderListsSaid : Prop := orderListsRow.holds Tryd.pinned (OpenSpec.ofChange orderListsSpec)

/-- ITS FALSE NEIGHBOUR: 'it returns false'. Refute it at one input. -/
def orderListsWrong : ChangeSpec := { name := "orderLists", fn := fun _ => fun
  | [d1, d2, d3, d4] => { results := [.lit (.bool false)], args := [d1, d2, d3, d4] }
  | _ => none }
def OrderListsWrongFalsely : Prop := orderListsRow.holds Tryd.pinned (OpenSpec.ofChange orderListsWrong)

/-- 'thimblelaw04.OrderSorts': WHATEVER THE INPUT: true; the input reads as it did. -/
def orderSortsSpec : ChangeSpec := { name := "orderSorts", fn := fun _ => fun
  | [d] => { results := [.lit (.bool true)], args := [d] }
  | _ => none }
def orderSortsRow : OpenClaim := { program := "ytbnoplhkegcllaadoor", sum := "f31d04e69246e948bc47eec5f13781651cd668b69b76dba2263c390c30d117af", func := "thimble/thimblelaw04.OrderSorts", spec := "orderSorts", inPlace := ["internal/bytealg.abigen_runtime_cmpstring"], unfollowed := true, recurses := true, named := ["thimble/num.tens", "unicode/utf8.first", "unicode/utf8.acceptRanges", "internal/strconv.uint64pow10", "math/bits.deBruijn32tab", "math/bits.deBruijn64tab"], loops := true, apart := false, laid := [("math/bits.deBruijn32tab", laid_math_bits_deBruijn32tab), ("math/bits.deBruijn64tab", laid_math_bits_deBruijn64tab), ("internal/strconv.uint64pow10", laid_internal_strconv_uint64pow10), ("unicode/utf8.acceptRanges", laid_unicode_utf8_acceptRanges), ("thimble/num.tens", laid_thimble_num_tens), ("unicode/utf8.first", laid_unicode_utf8_first)] }
def OrderSortsSaid : Prop := orderSortsRow.holds Tryd.pinned (OpenSpec.ofChange orderSortsSpec)

/-- ITS FALSE NEIGHBOUR: 'it returns false'. Refute it at one input. -/
def orderSortsWrong : ChangeSpec := { name := "orderSorts", fn := fun _ => fun
  | [d] => { results := [.lit (.bool false)], args := [d] }
  | _ => none }
def OrderSortsWrongFalsely : Prop := orderSortsRow.holds Tryd.pinned (OpenSpec.ofChange orderSortsWrong)

/-- 'thimblelaw04.OrderRises': WHATEVER THE INPUT: true; the input reads as it did. -/
def orderRisesSpec : ChangeSpec := { name := "orderRises", fn := fun _ => fun
  | [d] => { results := [.lit (.bool true)], args := [d] }
  | _ => none }
def orderRisesRow : OpenClaim := { program := "ytbnoplhkegcllaadoor", sum := "f31d04e69246e948bc47eec5f13781651cd668b69b76dba2263c390c30d117af", func := "thimble/thimblelaw04.OrderRises", spec := "orderRises", inPlace := ["internal/bytealg.abigen_runtime_cmpstring"], unfollowed := true, recurses := true, named := ["thimble/num.tens", "unicode/utf8.first", "unicode/utf8.acceptRanges", "internal/strconv.uint64pow10", "math/bits.deBruijn32tab", "math/bits.deBruijn64tab"], loops := true, apart := false, laid := [("math/bits.deBruijn32tab", laid_math_bits_deBruijn32tab), ("math/bits.deBruijn64tab", laid_math_bits_deBruijn64tab), ("internal/strconv.uint64pow10", laid_internal_strconv_uint64pow10), ("unicode/utf8.acceptRanges", laid_unicode_utf8_acceptRanges), ("thimble/num.tens", laid_thimble_num_tens), ("unicode/utf8.first", laid_unicode_utf8_first)] }
def OrderRisesSaid : Prop := orderRisesRow.holds Tryd.pinned (OpenSpec.ofChange orderRisesSpec)

/-- ITS FALSE NEIGHBOUR: 'it returns false'. Refute it at one input. -/
def orderRisesWrong : ChangeSpec := { name := "orderRises", fn := fun _ => fun
  | [d] => { results := [.lit (.bool false)], args := [d] }
  | _ => none }
def OrderRisesWrongFalsely : Prop := orderRisesRow.holds Tryd.pinned (OpenSpec.ofChange orderRisesWrong)

/- THE SECOND FORM. 'bulk': how many values and letters a reading holds, each counted each time it is reached (what is shared counts as often as it is met; a slice's spare places count too). A statement '..UptoSaid' is the law's where the arguments, and the package variables that the reading takes, are together of bulk at most 1048576: NARROWER than '..Said'. Prove '..Said' where nothing that the law and all that it calls make is longer than what came in: it says more and counts as full. Else prove '..UptoSaid'. A law counts once. -/
mutual
def uptoBulk {H : Type} : DataW H → Nat
  | .lit (.string bytes) => bytes.length + 1
  | .lit _ => 1
  | .nil => 1
  | .ptr d => uptoBulk d + 1
  | .slice elems spare => uptoBulkAll elems + uptoBulkAll spare + 1
  | .agg parts => uptoBulkAll parts + 1
  | .iface _ d => uptoBulk d + 1
  | .map entries => uptoBulkEntries entries + 1
  | .held _ => 1
def uptoBulkAll {H : Type} : List (DataW H) → Nat
  | [] => 0
  | d :: r => uptoBulk d + uptoBulkAll r
def uptoBulkEntries {H : Type} : List (Lit × DataW H) → Nat
  | [] => 0
  | x :: r => uptoBulkEntry x + uptoBulkEntries r
def uptoBulkEntry {H : Type} : Lit × DataW H → Nat
  | (.string bytes, d) => bytes.length + uptoBulk d + 1
  | (_, d) => uptoBulk d + 1
 end
def uptoSmall : (H : Type) → List (DataW H) → Bool := fun _ ds => decide (uptoBulkAll ds ≤ 1048576)
def OpenSpec.upto (s : _root_.Go.ChangeSpec) : _root_.Go.OpenSpec := { _root_.Go.OpenSpec.ofChange s with cond := some uptoSmall }

/-- 'thimblelaw08.StepsGet', WHERE WHAT IT READS IS OF BULK AT MOST 1048576: true; the input reads as it did. -/
def stepsGetUptoRow : OpenClaim := { program := "ytbnoplhkegcllaadoor", sum := "f31d04e69246e948bc47eec5f13781651cd668b69b76dba2263c390c30d117af", func := "thimble/thimblelaw08.StepsGet", spec := "stepsGet", unfollowed := true, recurses := true, named := ["thimble/num.tens", "unicode/utf8.first", "unicode/utf8.acceptRanges"], loops := true, apart := false, laid := [("unicode/utf8.acceptRanges", laid_unicode_utf8_acceptRanges), ("thimble/num.tens", laid_thimble_num_tens), ("unicode/utf8.first", laid_unicode_utf8_first)], narrowed := true }
def StepsGetUptoSaid : Prop := stepsGetUptoRow.holds Tryd.pinned (OpenSpec.upto stepsGetSpec)

/-- 'thimblelaw08.StepsPut', WHERE WHAT IT READS IS OF BULK AT MOST 1048576: true; the input reads as it did. -/
def stepsPutUptoRow : OpenClaim := { program := "ytbnoplhkegcllaadoor", sum := "f31d04e69246e948bc47eec5f13781651cd668b69b76dba2263c390c30d117af", func := "thimble/thimblelaw08.StepsPut", spec := "stepsPut", unfollowed := true, recurses := true, named := ["thimble/num.tens", "unicode/utf8.first", "unicode/utf8.acceptRanges"], loops := true, apart := false, laid := [("unicode/utf8.acceptRanges", laid_unicode_utf8_acceptRanges), ("thimble/num.tens", laid_thimble_num_tens), ("unicode/utf8.first", laid_unicode_utf8_first)], narrowed := true }
def StepsPutUptoSaid : Prop := stepsPutUptoRow.holds Tryd.pinned (OpenSpec.upto stepsPutSpec)

/-- 'thimblelaw08.StepsDrop', WHERE WHAT IT READS IS OF BULK AT MOST 1048576: true; the input reads as it did. -/
def stepsDropUptoRow : OpenClaim := { program := "ytbnoplhkegcllaadoor", sum := "f31d04e69246e948bc47eec5f13781651cd668b69b76dba2263c390c30d117af", func := "thimble/thimblelaw08.StepsDrop", spec := "stepsDrop", unfollowed := true, recurses := true, named := ["thimble/num.tens", "unicode/utf8.first", "unicode/utf8.acceptRanges"], loops := true, apart := false, laid := [("unicode/utf8.acceptRanges", laid_unicode_utf8_acceptRanges), ("thimble/num.tens", laid_thimble_num_tens), ("unicode/utf8.first", laid_unicode_utf8_first)], narrowed := true }
def StepsDropUptoSaid : Prop := stepsDropUptoRow.holds Tryd.pinned (OpenSpec.upto stepsDropSpec)

/-- 'thimblelaw08.StepsBack', WHERE WHAT IT READS IS OF BULK AT MOST 1048576: true; the input reads as it did. -/
def stepsBackUptoRow : OpenClaim := { program := "ytbnoplhkegcllaadoor", sum := "f31d04e69246e948bc47eec5f13781651cd668b69b76dba2263c390c30d117af", func := "thimble/thimblelaw08.StepsBack", spec := "stepsBack", unfollowed := true, recurses := true, named := ["thimble/num.tens", "unicode/utf8.first", "unicode/utf8.acceptRanges"], loops := true, apart := false, laid := [("unicode/utf8.acceptRanges", laid_unicode_utf8_acceptRanges), ("thimble/num.tens", laid_thimble_num_tens), ("unicode/utf8.first", laid_unicode_utf8_first)], narrowed := true }
def StepsBackUptoSaid : Prop := stepsBackUptoRow.holds Tryd.pinned (OpenSpec.upto stepsBackSpec)

/-- 'thimblelaw08.StepsTwice', WHERE WHAT IT READS IS OF BULK AT MOST 1048576: true; the input reads as it did. -/
def stepsTwiceUptoRow : OpenClaim := { program := "ytbnoplhkegcllaadoor", sum := "f31d04e69246e948bc47eec5f13781651cd668b69b76dba2263c390c30d117af", func := "thimble/thimblelaw08.StepsTwice", spec := "stepsTwice", unfollowed := true, recurses := true, named := ["thimble/num.tens", "unicode/utf8.first", "unicode/utf8.acceptRanges"], loops := true, apart := false, laid := [("unicode/utf8.acceptRanges", laid_unicode_utf8_acceptRanges), ("thimble/num.tens", laid_thimble_num_tens), ("unicode/utf8.first", laid_unicode_utf8_first)], narrowed := true }
def StepsTwiceUptoSaid : Prop := stepsTwiceUptoRow.holds Tryd.pinned (OpenSpec.upto stepsTwiceSpec)

/-- 'thimblelaw08.StepsBeside', WHERE WHAT IT READS IS OF BULK AT MOST 1048576: true; the input reads as it did. -/
def stepsBesideUptoRow : OpenClaim := { program := "ytbnoplhkegcllaadoor", sum := "f31d04e69246e948bc47eec5f13781651cd668b69b76dba2263c390c30d117af", func := "thimble/thimblelaw08.StepsBeside", spec := "stepsBeside", unfollowed := true, recurses := true, named := ["thimble/num.tens", "unicode/utf8.first", "unicode/utf8.acceptRanges"], loops := true, apart := false, laid := [("unicode/utf8.acceptRanges", laid_unicode_utf8_acceptRanges), ("thimble/num.tens", laid_thimble_num_tens), ("unicode/utf8.first", laid_unicode_utf8_first)], narrowed := true }
def StepsBesideUptoSaid : Prop := stepsBesideUptoRow.holds Tryd.pinned (OpenSpec.upto stepsBesideSpec)

/-- 'thimblelaw08.StepsGone', WHERE WHAT IT READS IS OF BULK AT MOST 1048576: true; the input reads as it did. -/
def stepsGoneUptoRow : OpenClaim := { program := "ytbnoplhkegcllaadoor", sum := "f31d04e69246e948bc47eec5f13781651cd668b69b76dba2263c390c30d117af", func := "thimble/thimblelaw08.StepsGone", spec := "stepsGone", unfollowed := true, recurses := true, named := ["thimble/num.tens", "unicode/utf8.first", "unicode/utf8.acceptRanges"], loops := true, apart := false, laid := [("unicode/utf8.acceptRanges", laid_unicode_utf8_acceptRanges), ("thimble/num.tens", laid_thimble_num_tens), ("unicode/utf8.first", laid_unicode_utf8_first)], narrowed := true }
def StepsGoneUptoSaid : Prop := stepsGoneUptoRow.holds Tryd.pinned (OpenSpec.upto stepsGoneSpec)

/-- 'thimblelaw04.OrderCompares', WHERE WHAT IT READS IS OF BULK AT MOST 1048576: true; the input reads as it did. -/
def orderComparesUptoRow : OpenClaim := { program := "ytbnoplhkegcllaadoor", sum := "f31d04e69246e948bc47eec5f13781651cd668b69b76dba2263c390c30d117af", func := "thimble/thimblelaw04.OrderCompares", spec := "orderCompares", inPlace := ["internal/bytealg.abigen_runtime_cmpstring"], unfollowed := true, recurses := true, named := ["thimble/num.tens", "unicode/utf8.first", "unicode/utf8.acceptRanges", "internal/strconv.uint64pow10", "math/bits.deBruijn32tab", "math/bits.deBruijn64tab"], loops := true, apart := false, laid := [("math/bits.deBruijn32tab", laid_math_bits_deBruijn32tab), ("math/bits.deBruijn64tab", laid_math_bits_deBruijn64tab), ("internal/strconv.uint64pow10", laid_internal_strconv_uint64pow10), ("unicode/utf8.acceptRanges", laid_unicode_utf8_acceptRanges), ("thimble/num.tens", laid_thimble_num_tens), ("unicode/utf8.first", laid_unicode_utf8_first)], narrowed := true }
def OrderComparesUptoSaid : Prop := orderComparesUptoRow.holds Tryd.pinned (OpenSpec.upto orderComparesSpec)

/-- 'thimblelaw04.OrderTotal', WHERE WHAT IT READS IS OF BULK AT MOST 1048576: true; the input reads as it did. -/
def orderTotalUptoRow : OpenClaim := { program := "ytbnoplhkegcllaadoor", sum := "f31d04e69246e948bc47eec5f13781651cd668b69b76dba2263c390c30d117af", func := "thimble/thimblelaw04.OrderTotal", spec := "orderTotal", inPlace := ["internal/bytealg.abigen_runtime_cmpstring"], unfollowed := true, recurses := true, named := ["thimble/num.tens", "unicode/utf8.first", "unicode/utf8.acceptRanges", "internal/strconv.uint64pow10", "math/bits.deBruijn32tab", "math/bits.deBruijn64tab"], loops := true, apart := false, laid := [("math/bits.deBruijn32tab", laid_math_bits_deBruijn32tab), ("math/bits.deBruijn64tab", laid_math_bits_deBruijn64tab), ("internal/strconv.uint64pow10", laid_internal_strconv_uint64pow10), ("unicode/utf8.acceptRanges", laid_unicode_utf8_acceptRanges), ("thimble/num.tens", laid_thimble_num_tens), ("unicode/utf8.first", laid_unicode_utf8_first)], narrowed := true }
def OrderTotalUptoSaid : Prop := orderTotalUptoRow.holds Tryd.pinned (OpenSpec.upto orderTotalSpec)

/-- 'thimblelaw04.OrderLists', WHERE WHAT IT READS IS OF BULK AT MOST 1048576: true; the input reads as it did. -/
def orderListsUptoRow : OpenClaim := { program := "ytbnoplhkegcllaadoor", sum := "f31d04e69246e948bc47eec5f13781651cd668b69b76dba2263c390c30d117af", func := "thimble/thimblelaw04.OrderLists", spec := "orderLists", inPlace := ["internal/bytealg.abigen_runtime_cmpstring"], unfollowed := true, recurses := true, named := ["thimble/num.tens", "unicode/utf8.first", "unicode/utf8.acceptRanges", "internal/strconv.uint64pow10", "math/bits.deBruijn32tab", "math/bits.deBruijn64tab"], loops := true, apart := false, laid := [("math/bits.deBruijn32tab", laid_math_bits_deBruijn32tab), ("math/bits.deBruijn64tab", laid_math_bits_deBruijn64tab), ("internal/strconv.uint64pow10", laid_internal_strconv_uint64pow10), ("unicode/utf8.acceptRanges", laid_unicode_utf8_acceptRanges), ("thimble/num.tens", laid_thimble_num_tens), ("unicode/utf8.first", laid_unicode_utf8_first)], narrowed := true }
def OrderListsUptoSaid : Prop := orderListsUptoRow.holds Tryd.pinned (OpenSpec.upto orderListsSpec)

/-- 'thimblelaw04.OrderSorts', WHERE WHAT IT READS IS OF BULK AT MOST 1048576: true; the input reads as it did. -/
def orderSortsUptoRow : OpenClaim := { program := "ytbnoplhkegcllaadoor", sum := "f31d04e69246e948bc47eec5f13781651cd668b69b76dba2263c390c30d117af", func := "thimble/thimblelaw04.OrderSorts", spec := "orderSorts", inPlace := ["internal/bytealg.abigen_runtime_cmpstring"], unfollowed := true, recurses := true, named := ["thimble/num.tens", "unicode/utf8.first", "unicode/utf8.acceptRanges", "internal/strconv.uint64pow10", "math/bits.deBruijn32tab", "math/bits.deBruijn64tab"], loops := true, apart := false, laid := [("math/bits.deBruijn32tab", laid_math_bits_deBruijn32tab), ("math/bits.deBruijn64tab", laid_math_bits_deBruijn64tab), ("internal/strconv.uint64pow10", laid_internal_strconv_uint64pow10), ("unicode/utf8.acceptRanges", laid_unicode_utf8_acceptRanges), ("thimble/num.tens", laid_thimble_num_tens), ("unicode/utf8.first", laid_unicode_utf8_first)], narrowed := true }
def OrderSortsUptoSaid : Prop := orderSortsUptoRow.holds Tryd.pinned (OpenSpec.upto orderSortsSpec)

/-- 'thimblelaw04.OrderRises', WHERE WHAT IT READS IS OF BULK AT MOST 1048576: true; the input reads as it did. -/
def orderRisesUptoRow : OpenClaim := { program := "ytbnoplhkegcllaadoor", sum := "f31d04e69246e948bc47eec5f13781651cd668b69b76dba2263c390c30d117af", func := "thimble/thimblelaw04.OrderRises", spec := "orderRises", inPlace := ["internal/bytealg.abigen_runtime_cmpstring"], unfollowed := true, recurses := true, named := ["thimble/num.tens", "unicode/utf8.first", "unicode/utf8.acceptRanges", "internal/strconv.uint64pow10", "math/bits.deBruijn32tab", "math/bits.deBruijn64tab"], loops := true, apart := false, laid := [("math/bits.deBruijn32tab", laid_math_bits_deBruijn32tab), ("math/bits.deBruijn64tab", laid_math_bits_deBruijn64tab), ("internal/strconv.uint64pow10", laid_internal_strconv_uint64pow10), ("unicode/utf8.acceptRanges", laid_unicode_utf8_acceptRanges), ("thimble/num.tens", laid_thimble_num_tens), ("unicode/utf8.first", laid_unicode_utf8_first)], narrowed := true }
def OrderRisesUptoSaid : Prop := orderRisesUptoRow.holds Tryd.pinned (OpenSpec.upto orderRisesSpec)

end Rows
end Go.Proofs.YtbnoplhkegcllaaDoor
