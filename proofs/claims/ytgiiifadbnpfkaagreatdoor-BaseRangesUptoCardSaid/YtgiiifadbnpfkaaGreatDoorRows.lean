/-
  NARROWER THAN 'FOR EVERY INPUT', by the rows' own cells (each row's printed sentence says how): BaseParts: laid · BaseFinds: laid · BaseRanges: laid · BaseOwn: laid · BaseSets: laid · BaseAdds: laid · BaseLooks: laid · BaseAll: laid.
  DERIVED. THE GIVEN ROWS OF THIS SEAT. 8 by the template 'for every input the law returns true; each argument reads behind the call as it read before'; 0 by the template 'total and deterministic' (their statements: YtgiiifadbnpfkaaGreatDoorTotals.lean).
  GIVEN WITH THE SEED: the statements are not yours to turn. If you find one false, say at which input.
  Laid BY PROGRAM, IN A SANDBOX (cutbox-rows.mjs): the forced cells as the released guide's own fill.sh prints them over the translation b1277533a0a04339… (all of the seat's roots in one cut). By AI agents, Wed Nov 11 2026. No macro, syntax, notation, axiom, sorry.
-/
import Derived.Test.YtgiiifadbnpfkaaGreatDoorChecked
import GoSem.Claim
import GoSem.ClaimJoined
import GoSem.ClaimMapViews
import Derived.JoinedTies
import Derived.KernelRfl
namespace Go.Proofs.YtgiiifadbnpfkaaGreatDoor
/- THE CELL 'sum', in the pinned program and in every row, IS THE sha256 OF THE DUMP (.gsa) THAT YtgiiifadbnpfkaaGreatDoorProg.lean LOADS. Nothing in Lean hashes anything: it is a label: what it is worth is what the hold of that sum in a sandbox is worth. -/
noncomputable def Tryz.pinned : Pinned := { name := "ytgiiifadbnpfkaagreatdoor", sum := "b1277533a0a0433917aa1e5034d911340451fe0518c52b0a45f9eeb7bc954101", checked := Tryz.checked }
namespace Rows
def none {H : Type} : Left H := { results := [], args := [] }

/- WHAT THE LISTED PACKAGE-LEVEL VARIABLES READ AS WHEN THE CALL BEGINS. Each datum BY PROGRAM (the guide's laid-datum.mjs) off the statement by which the dump's own 'gosem.cut.vars' lays the variable. In a bare row this is a premise. The card (YtgiiifadbnpfkaaGreatDoorCards.lean) ties it to the program's text. -/
def laid_math_bits_deBruijn32tab {H : Type} : DataW H := .agg [.lit (.int .u8 0), .lit (.int .u8 1), .lit (.int .u8 28), .lit (.int .u8 2), .lit (.int .u8 29), .lit (.int .u8 14), .lit (.int .u8 24), .lit (.int .u8 3), .lit (.int .u8 30), .lit (.int .u8 22), .lit (.int .u8 20), .lit (.int .u8 15), .lit (.int .u8 25), .lit (.int .u8 17), .lit (.int .u8 4), .lit (.int .u8 8), .lit (.int .u8 31), .lit (.int .u8 27), .lit (.int .u8 13), .lit (.int .u8 23), .lit (.int .u8 21), .lit (.int .u8 19), .lit (.int .u8 16), .lit (.int .u8 7), .lit (.int .u8 26), .lit (.int .u8 12), .lit (.int .u8 18), .lit (.int .u8 6), .lit (.int .u8 11), .lit (.int .u8 5), .lit (.int .u8 10), .lit (.int .u8 9)]
def laid_math_bits_deBruijn64tab {H : Type} : DataW H := .agg [.lit (.int .u8 0), .lit (.int .u8 1), .lit (.int .u8 56), .lit (.int .u8 2), .lit (.int .u8 57), .lit (.int .u8 49), .lit (.int .u8 28), .lit (.int .u8 3), .lit (.int .u8 61), .lit (.int .u8 58), .lit (.int .u8 42), .lit (.int .u8 50), .lit (.int .u8 38), .lit (.int .u8 29), .lit (.int .u8 17), .lit (.int .u8 4), .lit (.int .u8 62), .lit (.int .u8 47), .lit (.int .u8 59), .lit (.int .u8 36), .lit (.int .u8 45), .lit (.int .u8 43), .lit (.int .u8 51), .lit (.int .u8 22), .lit (.int .u8 53), .lit (.int .u8 39), .lit (.int .u8 33), .lit (.int .u8 30), .lit (.int .u8 24), .lit (.int .u8 18), .lit (.int .u8 12), .lit (.int .u8 5), .lit (.int .u8 63), .lit (.int .u8 55), .lit (.int .u8 48), .lit (.int .u8 27), .lit (.int .u8 60), .lit (.int .u8 41), .lit (.int .u8 37), .lit (.int .u8 16), .lit (.int .u8 46), .lit (.int .u8 35), .lit (.int .u8 44), .lit (.int .u8 21), .lit (.int .u8 52), .lit (.int .u8 32), .lit (.int .u8 23), .lit (.int .u8 11), .lit (.int .u8 54), .lit (.int .u8 26), .lit (.int .u8 40), .lit (.int .u8 15), .lit (.int .u8 34), .lit (.int .u8 20), .lit (.int .u8 31), .lit (.int .u8 10), .lit (.int .u8 25), .lit (.int .u8 14), .lit (.int .u8 19), .lit (.int .u8 9), .lit (.int .u8 13), .lit (.int .u8 8), .lit (.int .u8 7), .lit (.int .u8 6)]
def laid_internal_strconv_uint64pow10 {H : Type} : DataW H := .agg [.lit (.int .u64 1), .lit (.int .u64 10), .lit (.int .u64 100), .lit (.int .u64 1000), .lit (.int .u64 10000), .lit (.int .u64 100000), .lit (.int .u64 1000000), .lit (.int .u64 10000000), .lit (.int .u64 100000000), .lit (.int .u64 1000000000), .lit (.int .u64 10000000000), .lit (.int .u64 100000000000), .lit (.int .u64 1000000000000), .lit (.int .u64 10000000000000), .lit (.int .u64 100000000000000), .lit (.int .u64 1000000000000000), .lit (.int .u64 10000000000000000), .lit (.int .u64 100000000000000000), .lit (.int .u64 1000000000000000000), .lit (.int .u64 10000000000000000000)]
def laid_hearsay_term_none {H : Type} : DataW H := .agg [.lit (.int .i64 0), .lit (.int .i64 0), .lit (.string [])]
def laid_hearsay_hearsayref03_behindTerm {H : Type} : DataW H := .agg [.lit (.int .i64 901), .lit (.int .i64 902), .lit (.string [98, 101, 104, 105, 110, 100])]

/-- 'hearsaylaw08.BaseParts': WHATEVER THE INPUT: true; the input reads as it did. -/
def basePartsSpec : ChangeSpec := { name := "baseParts", fn := fun _ => fun
  | [d1, d2] => { results := [.lit (.bool true)], args := [d1, d2] }
  | _ => none }
def basePartsRow : OpenClaim := { program := "ytgiiifadbnpfkaagreatdoor", sum := "b1277533a0a0433917aa1e5034d911340451fe0518c52b0a45f9eeb7bc954101", func := "hearsay/hearsaylaw08.BaseParts", spec := "baseParts", inPlace := ["(*internal/sync.Mutex).Lock", "internal/race.Disable", "sync/atomic.CompareAndSwapInt32", "internal/race.Enable", "internal/race.Acquire", "(*internal/sync.Mutex).lockSlow", "internal/sync.runtime_canSpin", "internal/sync.runtime_doSpin", "internal/sync.throw", "internal/sync.runtime_nanotime", "internal/sync.runtime_SemacquireMutex", "sync/atomic.AddInt32", "(*internal/sync.Mutex).Unlock", "internal/race.ReleaseMerge", "(*internal/sync.Mutex).unlockSlow", "internal/sync.fatal", "internal/sync.runtime_Semrelease", "internal/bytealg.abigen_runtime_cmpstring"], unfollowed := true, recurses := true, named := ["hearsay/term.none", "internal/strconv.uint64pow10", "math/bits.deBruijn32tab", "math/bits.deBruijn64tab"], plainKeys := false, apart := false, laid := [("math/bits.deBruijn32tab", laid_math_bits_deBruijn32tab), ("math/bits.deBruijn64tab", laid_math_bits_deBruijn64tab), ("internal/strconv.uint64pow10", laid_internal_strconv_uint64pow10), ("hearsay/term.none", laid_hearsay_term_none)] }
def BasePartsSaid : Prop := basePartsRow.holds Tryz.pinned (OpenSpec.ofChange basePartsSpec)

/-- ITS FALSE NEIGHBOUR: 'it returns false'. Refute it at one input. -/
def basePartsWrong : ChangeSpec := { name := "baseParts", fn := fun _ => fun
  | [d1, d2] => { results := [.lit (.bool false)], args := [d1, d2] }
  | _ => none }
def BasePartsWrongFalsely : Prop := basePartsRow.holds Tryz.pinned (OpenSpec.ofChange basePartsWrong)

/-- 'hearsaylaw08.BaseFinds': WHATEVER THE INPUT: true; the input reads as it did. -/
def baseFindsSpec : ChangeSpec := { name := "baseFinds", fn := fun _ => fun
  | [d1, d2, d3] => { results := [.lit (.bool true)], args := [d1, d2, d3] }
  | _ => none }
def baseFindsRow : OpenClaim := { program := "ytgiiifadbnpfkaagreatdoor", sum := "b1277533a0a0433917aa1e5034d911340451fe0518c52b0a45f9eeb7bc954101", func := "hearsay/hearsaylaw08.BaseFinds", spec := "baseFinds", inPlace := ["(*internal/sync.Mutex).Lock", "internal/race.Disable", "sync/atomic.CompareAndSwapInt32", "internal/race.Enable", "internal/race.Acquire", "(*internal/sync.Mutex).lockSlow", "internal/sync.runtime_canSpin", "internal/sync.runtime_doSpin", "internal/sync.throw", "internal/sync.runtime_nanotime", "internal/sync.runtime_SemacquireMutex", "sync/atomic.AddInt32", "(*internal/sync.Mutex).Unlock", "internal/race.ReleaseMerge", "(*internal/sync.Mutex).unlockSlow", "internal/sync.fatal", "internal/sync.runtime_Semrelease", "internal/bytealg.abigen_runtime_cmpstring"], unfollowed := true, recurses := true, named := ["hearsay/term.none", "internal/strconv.uint64pow10", "math/bits.deBruijn32tab", "math/bits.deBruijn64tab"], plainKeys := false, apart := false, laid := [("math/bits.deBruijn32tab", laid_math_bits_deBruijn32tab), ("math/bits.deBruijn64tab", laid_math_bits_deBruijn64tab), ("internal/strconv.uint64pow10", laid_internal_strconv_uint64pow10), ("hearsay/term.none", laid_hearsay_term_none)] }
def BaseFindsSaid : Prop := baseFindsRow.holds Tryz.pinned (OpenSpec.ofChange baseFindsSpec)

/-- ITS FALSE NEIGHBOUR: 'it returns false'. Refute it at one input. -/
def baseFindsWrong : ChangeSpec := { name := "baseFinds", fn := fun _ => fun
  | [d1, d2, d3] => { results := [.lit (.bool false)], args := [d1, d2, d3] }
  | _ => none }
def BaseFindsWrongFalsely : Prop := baseFindsRow.holds Tryz.pinned (OpenSpec.ofChange baseFindsWrong)

/-- 'hearsaylaw08.BaseRanges': WHATEVER THE INPUT: true; the input reads as it did. -/
def baseRangesSpec : ChangeSpec := { name := "baseRanges", fn := fun _ => fun
  | [d1, d2, d3, d4, d5] => { results := [.lit (.bool true)], args := [d1, d2, d3, d4, d5] }
  | _ => none }
def baseRangesRow : OpenClaim := { program := "ytgiiifadbnpfkaagreatdoor", sum := "b1277533a0a0433917aa1e5034d911340451fe0518c52b0a45f9eeb7bc954101", func := "hearsay/hearsaylaw08.BaseRanges", spec := "baseRanges", inPlace := ["(*internal/sync.Mutex).Lock", "internal/race.Disable", "sync/atomic.CompareAndSwapInt32", "internal/race.Enable", "internal/race.Acquire", "(*internal/sync.Mutex).lockSlow", "internal/sync.runtime_canSpin", "internal/sync.runtime_doSpin", "internal/sync.throw", "internal/sync.runtime_nanotime", "internal/sync.runtime_SemacquireMutex", "sync/atomic.AddInt32", "(*internal/sync.Mutex).Unlock", "internal/race.ReleaseMerge", "(*internal/sync.Mutex).unlockSlow", "internal/sync.fatal", "internal/sync.runtime_Semrelease", "internal/bytealg.abigen_runtime_cmpstring"], unfollowed := true, recurses := true, named := ["hearsay/term.none", "internal/strconv.uint64pow10", "math/bits.deBruijn32tab", "math/bits.deBruijn64tab", "hearsay/hearsayref03.behindTerm"], plainKeys := false, apart := false, laid := [("hearsay/hearsayref03.behindTerm", laid_hearsay_hearsayref03_behindTerm), ("math/bits.deBruijn32tab", laid_math_bits_deBruijn32tab), ("math/bits.deBruijn64tab", laid_math_bits_deBruijn64tab), ("internal/strconv.uint64pow10", laid_internal_strconv_uint64pow10), ("hearsay/term.none", laid_hearsay_term_none)] }
def BaseRangesSaid : Prop := baseRangesRow.holds Tryz.pinned (OpenSpec.ofChange baseRangesSpec)

/-- ITS FALSE NEIGHBOUR: 'it returns false'. Refute it at one input. -/
def baseRangesWrong : ChangeSpec := { name := "baseRanges", fn := fun _ => fun
  | [d1, d2, d3, d4, d5] => { results := [.lit (.bool false)], args := [d1, d2, d3, d4, d5] }
  | _ => none }
def BaseRangesWrongFalsely : Prop := baseRangesRow.holds Tryz.pinned (OpenSpec.ofChange baseRangesWrong)

/-- 'hearsaylaw08.BaseOwn': WHATEVER THE INPUT: true; the input reads as it did. -/
def baseOwnSpec : ChangeSpec := { name := "baseOwn", fn := fun _ => fun
  | [d1, d2, d3] => { results := [.lit (.bool true)], args := [d1, d2, d3] }
  | _ => none }
def baseOwnRow : OpenClaim := { program := "ytgiiifadbnpfkaagreatdoor", sum := "b1277533a0a0433917aa1e5034d911340451fe0518c52b0a45f9eeb7bc954101", func := "hearsay/hearsaylaw08.BaseOwn", spec := "baseOwn", inPlace := ["(*internal/sync.Mutex).Lock", "internal/race.Disable", "sync/atomic.CompareAndSwapInt32", "internal/race.Enable", "internal/race.Acquire", "(*internal/sync.Mutex).lockSlow", "internal/sync.runtime_canSpin", "internal/sync.runtime_doSpin", "internal/sync.throw", "internal/sync.runtime_nanotime", "internal/sync.runtime_SemacquireMutex", "sync/atomic.AddInt32", "(*internal/sync.Mutex).Unlock", "internal/race.ReleaseMerge", "(*internal/sync.Mutex).unlockSlow", "internal/sync.fatal", "internal/sync.runtime_Semrelease", "internal/bytealg.abigen_runtime_cmpstring"], unfollowed := true, recurses := true, named := ["hearsay/hearsayref03.behindTerm", "hearsay/term.none", "internal/strconv.uint64pow10", "math/bits.deBruijn32tab", "math/bits.deBruijn64tab"], plainKeys := false, apart := false, laid := [("hearsay/hearsayref03.behindTerm", laid_hearsay_hearsayref03_behindTerm), ("math/bits.deBruijn32tab", laid_math_bits_deBruijn32tab), ("math/bits.deBruijn64tab", laid_math_bits_deBruijn64tab), ("internal/strconv.uint64pow10", laid_internal_strconv_uint64pow10), ("hearsay/term.none", laid_hearsay_term_none)] }
def BaseOwnSaid : Prop := baseOwnRow.holds Tryz.pinned (OpenSpec.ofChange baseOwnSpec)

/-- ITS FALSE NEIGHBOUR: 'it returns false'. Refute it at one input. -/
def baseOwnWrong : ChangeSpec := { name := "baseOwn", fn := fun _ => fun
  | [d1, d2, d3] => { results := [.lit (.bool false)], args := [d1, d2, d3] }
  | _ => none }
def BaseOwnWrongFalsely : Prop := baseOwnRow.holds Tryz.pinned (OpenSpec.ofChange baseOwnWrong)

/-- 'hearsaylaw08.BaseSets': WHATEVER THE INPUT: true; the input reads as it did. -/
def baseSetsSpec : ChangeSpec := { name := "baseSets", fn := fun _ => fun
  | [d1, d2] => { results := [.lit (.bool true)], args := [d1, d2] }
  | _ => none }
def baseSetsRow : OpenClaim := { program := "ytgiiifadbnpfkaagreatdoor", sum := "b1277533a0a0433917aa1e5034d911340451fe0518c52b0a45f9eeb7bc954101", func := "hearsay/hearsaylaw08.BaseSets", spec := "baseSets", inPlace := ["(*internal/sync.Mutex).Lock", "internal/race.Disable", "sync/atomic.CompareAndSwapInt32", "internal/race.Enable", "internal/race.Acquire", "(*internal/sync.Mutex).lockSlow", "internal/sync.runtime_canSpin", "internal/sync.runtime_doSpin", "internal/sync.throw", "internal/sync.runtime_nanotime", "internal/sync.runtime_SemacquireMutex", "sync/atomic.AddInt32", "(*internal/sync.Mutex).Unlock", "internal/race.ReleaseMerge", "(*internal/sync.Mutex).unlockSlow", "internal/sync.fatal", "internal/sync.runtime_Semrelease", "internal/bytealg.abigen_runtime_cmpstring"], unfollowed := true, recurses := true, named := ["hearsay/term.none", "internal/strconv.uint64pow10", "math/bits.deBruijn32tab", "math/bits.deBruijn64tab"], plainKeys := false, apart := false, laid := [("math/bits.deBruijn32tab", laid_math_bits_deBruijn32tab), ("math/bits.deBruijn64tab", laid_math_bits_deBruijn64tab), ("internal/strconv.uint64pow10", laid_internal_strconv_uint64pow10), ("hearsay/term.none", laid_hearsay_term_none)] }
def BaseSetsSaid : Prop := baseSetsRow.holds Tryz.pinned (OpenSpec.ofChange baseSetsSpec)

/-- ITS FALSE NEIGHBOUR: 'it returns false'. Refute it at one input. -/
def baseSetsWrong : ChangeSpec := { name := "baseSets", fn := fun _ => fun
  | [d1, d2] => { results := [.lit (.bool false)], args := [d1, d2] }
  | _ => none }
def BaseSetsWrongFalsely : Prop := baseSetsRow.holds Tryz.pinned (OpenSpec.ofChange baseSetsWrong)

/-- 'hearsaylaw08.BaseAdds': WHATEVER THE INPUT: true; the input reads as it did. -/
def baseAddsSpec : ChangeSpec := { name := "baseAdds", fn := fun _ => fun
  | [d] => { results := [.lit (.bool true)], args := [d] }
  | _ => none }
def baseAddsRow : OpenClaim := { program := "ytgiiifadbnpfkaagreatdoor", sum := "b1277533a0a0433917aa1e5034d911340451fe0518c52b0a45f9eeb7bc954101", func := "hearsay/hearsaylaw08.BaseAdds", spec := "baseAdds", inPlace := ["(*internal/sync.Mutex).Lock", "internal/race.Disable", "sync/atomic.CompareAndSwapInt32", "internal/race.Enable", "internal/race.Acquire", "(*internal/sync.Mutex).lockSlow", "internal/sync.runtime_canSpin", "internal/sync.runtime_doSpin", "internal/sync.throw", "internal/sync.runtime_nanotime", "internal/sync.runtime_SemacquireMutex", "sync/atomic.AddInt32", "(*internal/sync.Mutex).Unlock", "internal/race.ReleaseMerge", "(*internal/sync.Mutex).unlockSlow", "internal/sync.fatal", "internal/sync.runtime_Semrelease", "internal/bytealg.abigen_runtime_cmpstring"], unfollowed := true, recurses := true, named := ["hearsay/hearsayref03.behindTerm", "hearsay/term.none", "internal/strconv.uint64pow10", "math/bits.deBruijn32tab", "math/bits.deBruijn64tab"], plainKeys := false, apart := false, laid := [("hearsay/hearsayref03.behindTerm", laid_hearsay_hearsayref03_behindTerm), ("math/bits.deBruijn32tab", laid_math_bits_deBruijn32tab), ("math/bits.deBruijn64tab", laid_math_bits_deBruijn64tab), ("internal/strconv.uint64pow10", laid_internal_strconv_uint64pow10), ("hearsay/term.none", laid_hearsay_term_none)] }
def BaseAddsSaid : Prop := baseAddsRow.holds Tryz.pinned (OpenSpec.ofChange baseAddsSpec)

/-- ITS FALSE NEIGHBOUR: 'it returns false'. Refute it at one input. -/
def baseAddsWrong : ChangeSpec := { name := "baseAdds", fn := fun _ => fun
  | [d] => { results := [.lit (.bool false)], args := [d] }
  | _ => none }
def BaseAddsWrongFalsely : Prop := baseAddsRow.holds Tryz.pinned (OpenSpec.ofChange baseAddsWrong)

/-- 'hearsaylaw08.BaseLooks': WHATEVER THE INPUT: true; the input reads as it did. -/
def baseLooksSpec : ChangeSpec := { name := "baseLooks", fn := fun _ => fun
  | [d] => { results := [.lit (.bool true)], args := [d] }
  | _ => none }
def baseLooksRow : OpenClaim := { program := "ytgiiifadbnpfkaagreatdoor", sum := "b1277533a0a0433917aa1e5034d911340451fe0518c52b0a45f9eeb7bc954101", func := "hearsay/hearsaylaw08.BaseLooks", spec := "baseLooks", inPlace := ["(*internal/sync.Mutex).Lock", "internal/race.Disable", "sync/atomic.CompareAndSwapInt32", "internal/race.Enable", "internal/race.Acquire", "(*internal/sync.Mutex).lockSlow", "internal/sync.runtime_canSpin", "internal/sync.runtime_doSpin", "internal/sync.throw", "internal/sync.runtime_nanotime", "internal/sync.runtime_SemacquireMutex", "sync/atomic.AddInt32", "(*internal/sync.Mutex).Unlock", "internal/race.ReleaseMerge", "(*internal/sync.Mutex).unlockSlow", "internal/sync.fatal", "internal/sync.runtime_Semrelease", "internal/bytealg.abigen_runtime_cmpstring"], unfollowed := true, recurses := true, named := ["hearsay/hearsayref03.behindTerm", "hearsay/term.none", "internal/strconv.uint64pow10", "math/bits.deBruijn32tab", "math/bits.deBruijn64tab"], plainKeys := false, apart := false, laid := [("hearsay/hearsayref03.behindTerm", laid_hearsay_hearsayref03_behindTerm), ("math/bits.deBruijn32tab", laid_math_bits_deBruijn32tab), ("math/bits.deBruijn64tab", laid_math_bits_deBruijn64tab), ("internal/strconv.uint64pow10", laid_internal_strconv_uint64pow10), ("hearsay/term.none", laid_hearsay_term_none)] }
def BaseLooksSaid : Prop := baseLooksRow.holds Tryz.pinned (OpenSpec.ofChange baseLooksSpec)

/-- ITS FALSE NEIGHBOUR: 'it returns false'. Refute it at one input. -/
def baseLooksWrong : ChangeSpec := { name := "baseLooks", fn := fun _ => fun
  | [d] => { results := [.lit (.bool false)], args := [d] }
  | _ => none }
def BaseLooksWrongFalsely : Prop := baseLooksRow.holds Tryz.pinned (OpenSpec.ofChange baseLooksWrong)

/-- 'hearsaylaw08.BaseAll': WHATEVER THE INPUT: true; the input reads as it did. -/
def baseAllSpec : ChangeSpec := { name := "baseAll", fn := fun _ => fun
  | [d] => { results := [.lit (.bool true)], args := [d] }
  | _ => none }
def baseAllRow : OpenClaim := { program := "ytgiiifadbnpfkaagreatdoor", sum := "b1277533a0a0433917aa1e5034d911340451fe0518c52b0a45f9eeb7bc954101", func := "hearsay/hearsaylaw08.BaseAll", spec := "baseAll", inPlace := ["(*internal/sync.Mutex).Lock", "internal/race.Disable", "sync/atomic.CompareAndSwapInt32", "internal/race.Enable", "internal/race.Acquire", "(*internal/sync.Mutex).lockSlow", "internal/sync.runtime_canSpin", "internal/sync.runtime_doSpin", "internal/sync.throw", "internal/sync.runtime_nanotime", "internal/sync.runtime_SemacquireMutex", "sync/atomic.AddInt32", "(*internal/sync.Mutex).Unlock", "internal/race.ReleaseMerge", "(*internal/sync.Mutex).unlockSlow", "internal/sync.fatal", "internal/sync.runtime_Semrelease", "internal/bytealg.abigen_runtime_cmpstring"], unfollowed := true, recurses := true, named := ["hearsay/hearsayref03.behindTerm", "hearsay/term.none", "internal/strconv.uint64pow10", "math/bits.deBruijn32tab", "math/bits.deBruijn64tab"], plainKeys := false, apart := false, laid := [("hearsay/hearsayref03.behindTerm", laid_hearsay_hearsayref03_behindTerm), ("math/bits.deBruijn32tab", laid_math_bits_deBruijn32tab), ("math/bits.deBruijn64tab", laid_math_bits_deBruijn64tab), ("internal/strconv.uint64pow10", laid_internal_strconv_uint64pow10), ("hearsay/term.none", laid_hearsay_term_none)] }
def BaseAllSaid : Prop := baseAllRow.holds Tryz.pinned (OpenSpec.ofChange baseAllSpec)

/-- ITS FALSE NEIGHBOUR: 'it returns false'. Refute it at one input. -/
def baseAllWrong : ChangeSpec := { name := "baseAll", fn := fun _ => fun
  | [d] => { results := [.lit (.bool false)], args := [d] }
  | _ => none }
def BaseAllWrongFalsely : Prop := baseAllRow.holds Tryz.pinned (OpenSpec.ofChange baseAllWrong)

/- THE SECOND FORM. 'bulk': how many values and letters a reading holds, each counted each time it is reached (what is shared counts as often as it is met; a slice's spare places count too). A statement '..UptoSaid' is the law's where the arguments, and the package variables that the reading takes, are together of bulk at most 1048576: NARROWER than '..Said'. Prove '..Said' where nothing that the law and all that it calls make is longer than what came in: it says more and counts as full. Else prove '..UptoSaid'. A law counts once. -/
mutual
def uptoBulk {H : Type} : DataW H → Nat
  | .lit (.string bytes) => bytes.length + 1
  | .lit _ => 1
  | .nil => 1
  | .ptr d => uptoBulk d + 1
  | .slice elems spare => uptoBulkAll elems + uptoBulkAll spare + 1
  | .agg parts => uptoBulkAll parts + 1
  | .iface _ d => uptoBulk d + 1
  | .map entries => uptoBulkEntries entries + 1
  | .held _ => 1
def uptoBulkAll {H : Type} : List (DataW H) → Nat
  | [] => 0
  | d :: r => uptoBulk d + uptoBulkAll r
def uptoBulkEntries {H : Type} : List (Lit × DataW H) → Nat
  | [] => 0
  | x :: r => uptoBulkEntry x + uptoBulkEntries r
def uptoBulkEntry {H : Type} : Lit × DataW H → Nat
  | (.string bytes, d) => bytes.length + uptoBulk d + 1
  | (_, d) => uptoBulk d + 1
 end
def uptoSmall : (H : Type) → List (DataW H) → Bool := fun _ ds => decide (uptoBulkAll ds ≤ 1048576)
def OpenSpec.upto (s : _root_.Go.ChangeSpec) : _root_.Go.OpenSpec := { _root_.Go.OpenSpec.ofChange s with cond := some uptoSmall }

/-- 'hearsaylaw08.BaseParts', WHERE WHAT IT READS IS OF BULK AT MOST 1048576: true; the input reads as it did. -/
def basePartsUptoRow : OpenClaim := { program := "ytgiiifadbnpfkaagreatdoor", sum := "b1277533a0a0433917aa1e5034d911340451fe0518c52b0a45f9eeb7bc954101", func := "hearsay/hearsaylaw08.BaseParts", spec := "baseParts", inPlace := ["(*internal/sync.Mutex).Lock", "internal/race.Disable", "sync/atomic.CompareAndSwapInt32", "internal/race.Enable", "internal/race.Acquire", "(*internal/sync.Mutex).lockSlow", "internal/sync.runtime_canSpin", "internal/sync.runtime_doSpin", "internal/sync.throw", "internal/sync.runtime_nanotime", "internal/sync.runtime_SemacquireMutex", "sync/atomic.AddInt32", "(*internal/sync.Mutex).Unlock", "internal/race.ReleaseMerge", "(*internal/sync.Mutex).unlockSlow", "internal/sync.fatal", "internal/sync.runtime_Semrelease", "internal/bytealg.abigen_runtime_cmpstring"], unfollowed := true, recurses := true, named := ["hearsay/term.none", "internal/strconv.uint64pow10", "math/bits.deBruijn32tab", "math/bits.deBruijn64tab"], plainKeys := false, apart := false, laid := [("math/bits.deBruijn32tab", laid_math_bits_deBruijn32tab), ("math/bits.deBruijn64tab", laid_math_bits_deBruijn64tab), ("internal/strconv.uint64pow10", laid_internal_strconv_uint64pow10), ("hearsay/term.none", laid_hearsay_term_none)], narrowed := true }
def BasePartsUptoSaid : Prop := basePartsUptoRow.holds Tryz.pinned (OpenSpec.upto basePartsSpec)

/-- 'hearsaylaw08.BaseFinds', WHERE WHAT IT READS IS OF BULK AT MOST 1048576: true; the input reads as it did. -/
def baseFindsUptoRow : OpenClaim := { program := "ytgiiifadbnpfkaagreatdoor", sum := "b1277533a0a0433917aa1e5034d911340451fe0518c52b0a45f9eeb7bc954101", func := "hearsay/hearsaylaw08.BaseFinds", spec := "baseFinds", inPlace := ["(*internal/sync.Mutex).Lock", "internal/race.Disable", "sync/atomic.CompareAndSwapInt32", "internal/race.Enable", "internal/race.Acquire", "(*internal/sync.Mutex).lockSlow", "internal/sync.runtime_canSpin", "internal/sync.runtime_doSpin", "internal/sync.throw", "internal/sync.runtime_nanotime", "internal/sync.runtime_SemacquireMutex", "sync/atomic.AddInt32", "(*internal/sync.Mutex).Unlock", "internal/race.ReleaseMerge", "(*internal/sync.Mutex).unlockSlow", "internal/sync.fatal", "internal/sync.runtime_Semrelease", "internal/bytealg.abigen_runtime_cmpstring"], unfollowed := true, recurses := true, named := ["hearsay/term.none", "internal/strconv.uint64pow10", "math/bits.deBruijn32tab", "math/bits.deBruijn64tab"], plainKeys := false, apart := false, laid := [("math/bits.deBruijn32tab", laid_math_bits_deBruijn32tab), ("math/bits.deBruijn64tab", laid_math_bits_deBruijn64tab), ("internal/strconv.uint64pow10", laid_internal_strconv_uint64pow10), ("hearsay/term.none", laid_hearsay_term_none)], narrowed := true }
def BaseFindsUptoSaid : Prop := baseFindsUptoRow.holds Tryz.pinned (OpenSpec.upto baseFindsSpec)

/-- 'hearsaylaw08.BaseRanges', WHERE WHAT IT READS IS OF BULK AT MOST 1048576: true; the input reads as it did. -/
def baseRangesUptoRow : OpenClaim := { program := "ytgiiifadbnpfkaagreatdoor", sum := "b1277533a0a0433917aa1e5034d911340451fe0518c52b0a45f9eeb7bc954101", func := "hearsay/hearsaylaw08.BaseRanges", spec := "baseRanges", inPlace := ["(*internal/sync.Mutex).Lock", "internal/race.Disable", "sync/atomic.CompareAndSwapInt32", "internal/race.Enable", "internal/race.Acquire", "(*internal/sync.Mutex).lockSlow", "internal/sync.runtime_canSpin", "internal/sync.runtime_doSpin", "internal/sync.throw", "internal/sync.runtime_nanotime", "internal/sync.runtime_SemacquireMutex", "sync/atomic.AddInt32", "(*internal/sync.Mutex).Unlock", "internal/race.ReleaseMerge", "(*internal/sync.Mutex).unlockSlow", "internal/sync.fatal", "internal/sync.runtime_Semrelease", "internal/bytealg.abigen_runtime_cmpstring"], unfollowed := true, recurses := true, named := ["hearsay/term.none", "internal/strconv.uint64pow10", "math/bits.deBruijn32tab", "math/bits.deBruijn64tab", "hearsay/hearsayref03.behindTerm"], plainKeys := false, apart := false, laid := [("hearsay/hearsayref03.behindTerm", laid_hearsay_hearsayref03_behindTerm), ("math/bits.deBruijn32tab", laid_math_bits_deBruijn32tab), ("math/bits.deBruijn64tab", laid_math_bits_deBruijn64tab), ("internal/strconv.uint64pow10", laid_internal_strconv_uint64pow10), ("hearsay/term.none", laid_hearsay_term_none)], narrowed := true }
def BaseRangesUptoSaid : Prop := baseRangesUptoRow.holds Tryz.pinned (OpenSpec.upto baseRangesSpec)

/-- 'hearsaylaw08.BaseOwn', WHERE WHAT IT READS IS OF BULK AT MOST 1048576: true; the input reads as it did. -/
def baseOwnUptoRow : OpenClaim := { program := "ytgiiifadbnpfkaagreatdoor", sum := "b1277533a0a0433917aa1e5034d911340451fe0518c52b0a45f9eeb7bc954101", func := "hearsay/hearsaylaw08.BaseOwn", spec := "baseOwn", inPlace := ["(*internal/sync.Mutex).Lock", "internal/race.Disable", "sync/atomic.CompareAndSwapInt32", "internal/race.Enable", "internal/race.Acquire", "(*internal/sync.Mutex).lockSlow", "internal/sync.runtime_canSpin", "internal/sync.runtime_doSpin", "internal/sync.throw", "internal/sync.runtime_nanotime", "internal/sync.runtime_SemacquireMutex", "sync/atomic.AddInt32", "(*internal/sync.Mutex).Unlock", "internal/race.ReleaseMerge", "(*internal/sync.Mutex).unlockSlow", "internal/sync.fatal", "internal/sync.runtime_Semrelease", "internal/bytealg.abigen_runtime_cmpstring"], unfollowed := true, recurses := true, named := ["hearsay/hearsayref03.behindTerm", "hearsay/term.none", "internal/strconv.uint64pow10", "math/bits.deBruijn32tab", "math/bits.deBruijn64tab"], plainKeys := false, apart := false, laid := [("hearsay/hearsayref03.behindTerm", laid_hearsay_hearsayref03_behindTerm), ("math/bits.deBruijn32tab", laid_math_bits_deBruijn32tab), ("math/bits.deBruijn64tab", laid_math_bits_deBruijn64tab), ("internal/strconv.uint64pow10", laid_internal_strconv_uint64pow10), ("hearsay/term.none", laid_hearsay_term_none)], narrowed := true }
def BaseOwnUptoSaid : Prop := baseOwnUptoRow.holds Tryz.pinned (OpenSpec.upto baseOwnSpec)

/-- 'hearsaylaw08.BaseSets', WHERE WHAT IT READS IS OF BULK AT MOST 1048576: true; the input reads as it did. -/
def baseSetsUptoRow : OpenClaim := { program := "ytgiiifadbnpfkaagreatdoor", sum := "b1277533a0a0433917aa1e5034d911340451fe0518c52b0a45f9eeb7bc954101", func := "hearsay/hearsaylaw08.BaseSets", spec := "baseSets", inPlace := ["(*internal/sync.Mutex).Lock", "internal/race.Disable", "sync/atomic.CompareAndSwapInt32", "internal/race.Enable", "internal/race.Acquire", "(*internal/sync.Mutex).lockSlow", "internal/sync.runtime_canSpin", "internal/sync.runtime_doSpin", "internal/sync.throw", "internal/sync.runtime_nanotime", "internal/sync.runtime_SemacquireMutex", "sync/atomic.AddInt32", "(*internal/sync.Mutex).Unlock", "internal/race.ReleaseMerge", "(*internal/sync.Mutex).unlockSlow", "internal/sync.fatal", "internal/sync.runtime_Semrelease", "internal/bytealg.abigen_runtime_cmpstring"], unfollowed := true, recurses := true, named := ["hearsay/term.none", "internal/strconv.uint64pow10", "math/bits.deBruijn32tab", "math/bits.deBruijn64tab"], plainKeys := false, apart := false, laid := [("math/bits.deBruijn32tab", laid_math_bits_deBruijn32tab), ("math/bits.deBruijn64tab", laid_math_bits_deBruijn64tab), ("internal/strconv.uint64pow10", laid_internal_strconv_uint64pow10), ("hearsay/term.none", laid_hearsay_term_none)], narrowed := true }
def BaseSetsUptoSaid : Prop := baseSetsUptoRow.holds Tryz.pinned (OpenSpec.upto baseSetsSpec)

/-- 'hearsaylaw08.BaseAdds', WHERE WHAT IT READS IS OF BULK AT MOST 1048576: true; the input reads as it did. -/
def baseAddsUptoRow : OpenClaim := { program := "ytgiiifadbnpfkaagreatdoor", sum := "b1277533a0a0433917aa1e5034d911340451fe0518c52b0a45f9eeb7bc954101", func := "hearsay/hearsaylaw08.BaseAdds", spec := "baseAdds", inPlace := ["(*internal/sync.Mutex).Lock", "internal/race.Disable", "sync/atomic.CompareAndSwapInt32", "internal/race.Enable", "internal/race.Acquire", "(*internal/sync.Mutex).lockSlow", "internal/sync.runtime_canSpin", "internal/sync.runtime_doSpin", "internal/sync.throw", "internal/sync.runtime_nanotime", "internal/sync.runtime_SemacquireMutex", "sync/atomic.AddInt32", "(*internal/sync.Mutex).Unlock", "internal/race.ReleaseMerge", "(*internal/sync.Mutex).unlockSlow", "internal/sync.fatal", "internal/sync.runtime_Semrelease", "internal/bytealg.abigen_runtime_cmpstring"], unfollowed := true, recurses := true, named := ["hearsay/hearsayref03.behindTerm", "hearsay/term.none", "internal/strconv.uint64pow10", "math/bits.deBruijn32tab", "math/bits.deBruijn64tab"], plainKeys := false, apart := false, laid := [("hearsay/hearsayref03.behindTerm", laid_hearsay_hearsayref03_behindTerm), ("math/bits.deBruijn32tab", laid_math_bits_deBruijn32tab), ("math/bits.deBruijn64tab", laid_math_bits_deBruijn64tab), ("internal/strconv.uint64pow10", laid_internal_strconv_uint64pow10), ("hearsay/term.none", laid_hearsay_term_none)], narrowed := true }
def BaseAddsUptoSaid : Prop := baseAddsUptoRow.holds Tryz.pinned (OpenSpec.upto baseAddsSpec)

/-- 'hearsaylaw08.BaseLooks', WHERE WHAT IT READS IS OF BULK AT MOST 1048576: true; the input reads as it did. -/
def baseLooksUptoRow : OpenClaim := { program := "ytgiiifadbnpfkaagreatdoor", sum := "b1277533a0a0433917aa1e5034d911340451fe0518c52b0a45f9eeb7bc954101", func := "hearsay/hearsaylaw08.BaseLooks", spec := "baseLooks", inPlace := ["(*internal/sync.Mutex).Lock", "internal/race.Disable", "sync/atomic.CompareAndSwapInt32", "internal/race.Enable", "internal/race.Acquire", "(*internal/sync.Mutex).lockSlow", "internal/sync.runtime_canSpin", "internal/sync.runtime_doSpin", "internal/sync.throw", "internal/sync.runtime_nanotime", "internal/sync.runtime_SemacquireMutex", "sync/atomic.AddInt32", "(*internal/sync.Mutex).Unlock", "internal/race.ReleaseMerge", "(*internal/sync.Mutex).unlockSlow", "internal/sync.fatal", "internal/sync.runtime_Semrelease", "internal/bytealg.abigen_runtime_cmpstring"], unfollowed := true, recurses := true, named := ["hearsay/hearsayref03.behindTerm", "hearsay/term.none", "internal/strconv.uint64pow10", "math/bits.deBruijn32tab", "math/bits.deBruijn64tab"], plainKeys := false, apart := false, laid := [("hearsay/hearsayref03.behindTerm", laid_hearsay_hearsayref03_behindTerm), ("math/bits.deBruijn32tab", laid_math_bits_deBruijn32tab), ("math/bits.deBruijn64tab", laid_math_bits_deBruijn64tab), ("internal/strconv.uint64pow10", laid_internal_strconv_uint64pow10), ("hearsay/term.none", laid_hearsay_term_none)], narrowed := true }
def BaseLooksUptoSaid : Prop := baseLooksUptoRow.holds Tryz.pinned (OpenSpec.upto baseLooksSpec)

/-- 'hearsaylaw08.BaseAll', WHERE WHAT IT READS IS OF BULK AT MOST 1048576: true; the input reads as it did. -/
def baseAllUptoRow : OpenClaim := { program := "ytgiiifadbnpfkaagreatdoor", sum := "b1277533a0a0433917aa1e5034d911340451fe0518c52b0a45f9eeb7bc954101", func := "hearsay/hearsaylaw08.BaseAll", spec := "baseAll", inPlace := ["(*internal/sync.Mutex).Lock", "internal/race.Disable", "sync/atomic.CompareAndSwapInt32", "internal/race.Enable", "internal/race.Acquire", "(*internal/sync.Mutex).lockSlow", "internal/sync.runtime_canSpin", "internal/sync.runtime_doSpin", "internal/sync.throw", "internal/sync.runtime_nanotime", "internal/sync.runtime_SemacquireMutex", "sync/atomic.AddInt32", "(*internal/sync.Mutex).Unlock", "internal/race.ReleaseMerge", "(*internal/sync.Mutex).unlockSlow", "internal/sync.fatal", "internal/sync.runtime_Semrelease", "internal/bytealg.abigen_runtime_cmpstring"], unfollowed := true, recurses := true, named := ["hearsay/hearsayref03.behindTerm", "hearsay/term.none", "internal/strconv.uint64pow10", "math/bits.deBruijn32tab", "math/bits.deBruijn64tab"], plainKeys := false, apart := false, laid := [("hearsay/hearsayref03.behindTerm", laid_hearsay_hearsayref03_behindTerm), ("math/bits.deBruijn32tab", laid_math_bits_deBruijn32tab), ("math/bits.deBruijn64tab", laid_math_bits_deBruijn64tab), ("internal/strconv.uint64pow10", laid_internal_strconv_uint64pow10), ("hearsay/term.none", laid_hearsay_term_none)], narrowed := true }
def BaseAllUptoSaid : Prop := baseAllUptoRow.holds Tryz.pinned (OpenSpec.upto baseAllSpec)

end Rows
end Go.Proofs.YtgiiifadbnpfkaaGreatDoor
