/-
  NARROWER THAN 'FOR EVERY INPUT', by the rows' own cells (each row's printed sentence says how): PlanMakes: laid · PlanSolves: laid · PlanApart: laid.
  DERIVED. THE GIVEN ROWS OF THIS SEAT. 3 by the template 'for every input the law returns true; each argument reads behind the call as it read before'; 0 by the template 'total and deterministic' (their statements: YtdgigbopibdflaaGreatDoorTotals.lean).
  GIVEN WITH THE SEED: the statements are not yours to turn. If you find one false, say at which input.
  Laid BY PROGRAM, IN A SANDBOX (cutbox-rows.mjs): the forced cells as the released guide's own fill.sh prints them over the translation 8023667000ae2c83… (all of the seat's roots in one cut). By AI agents, Wed Nov 11 2026. No macro, syntax, notation, axiom, sorry.
-/
import Derived.Test.YtdgigbopibdflaaGreatDoorChecked
import GoSem.Claim
import GoSem.ClaimJoined
import GoSem.ClaimMapViews
import Derived.JoinedTies
import Derived.KernelRfl
namespace Go.Proofs.YtdgigbopibdflaaGreatDoor
/- THE CELL 'sum', in the pinned program and in every row, IS THE sha256 OF THE DUMP (.gsa) THAT YtdgigbopibdflaaGreatDoorProg.lean LOADS. Nothing in Lean hashes anything: it is a label: what it is worth is what the hold of that sum in a sandbox is worth. -/
noncomputable def Tryz.pinned : Pinned := { name := "ytdgigbopibdflaagreatdoor", sum := "8023667000ae2c83c4edc773f3af034d36b4fc293f387c8834ce0acec01a096c", checked := Tryz.checked }
namespace Rows
def none {H : Type} : Left H := { results := [], args := [] }

/- WHAT THE LISTED PACKAGE-LEVEL VARIABLES READ AS WHEN THE CALL BEGINS. Each datum BY PROGRAM (the guide's laid-datum.mjs) off the statement by which the dump's own 'gosem.cut.vars' lays the variable. In a bare row this is a premise. The card (YtdgigbopibdflaaGreatDoorCards.lean) ties it to the program's text. -/
def laid_hearsay_hearsayref03_behindTerm {H : Type} : DataW H := .agg [.lit (.int .i64 901), .lit (.int .i64 902), .lit (.string [98, 101, 104, 105, 110, 100])]
def laid_hearsay_hearsayref03_behindTest {H : Type} : DataW H := .agg [.lit (.int .i64 903), .agg [.lit (.int .i64 0), .lit (.int .i64 0), .lit (.string [])], .agg [.lit (.int .i64 0), .lit (.int .i64 0), .lit (.string [])]]
def laid_math_bits_deBruijn32tab {H : Type} : DataW H := .agg [.lit (.int .u8 0), .lit (.int .u8 1), .lit (.int .u8 28), .lit (.int .u8 2), .lit (.int .u8 29), .lit (.int .u8 14), .lit (.int .u8 24), .lit (.int .u8 3), .lit (.int .u8 30), .lit (.int .u8 22), .lit (.int .u8 20), .lit (.int .u8 15), .lit (.int .u8 25), .lit (.int .u8 17), .lit (.int .u8 4), .lit (.int .u8 8), .lit (.int .u8 31), .lit (.int .u8 27), .lit (.int .u8 13), .lit (.int .u8 23), .lit (.int .u8 21), .lit (.int .u8 19), .lit (.int .u8 16), .lit (.int .u8 7), .lit (.int .u8 26), .lit (.int .u8 12), .lit (.int .u8 18), .lit (.int .u8 6), .lit (.int .u8 11), .lit (.int .u8 5), .lit (.int .u8 10), .lit (.int .u8 9)]
def laid_math_bits_deBruijn64tab {H : Type} : DataW H := .agg [.lit (.int .u8 0), .lit (.int .u8 1), .lit (.int .u8 56), .lit (.int .u8 2), .lit (.int .u8 57), .lit (.int .u8 49), .lit (.int .u8 28), .lit (.int .u8 3), .lit (.int .u8 61), .lit (.int .u8 58), .lit (.int .u8 42), .lit (.int .u8 50), .lit (.int .u8 38), .lit (.int .u8 29), .lit (.int .u8 17), .lit (.int .u8 4), .lit (.int .u8 62), .lit (.int .u8 47), .lit (.int .u8 59), .lit (.int .u8 36), .lit (.int .u8 45), .lit (.int .u8 43), .lit (.int .u8 51), .lit (.int .u8 22), .lit (.int .u8 53), .lit (.int .u8 39), .lit (.int .u8 33), .lit (.int .u8 30), .lit (.int .u8 24), .lit (.int .u8 18), .lit (.int .u8 12), .lit (.int .u8 5), .lit (.int .u8 63), .lit (.int .u8 55), .lit (.int .u8 48), .lit (.int .u8 27), .lit (.int .u8 60), .lit (.int .u8 41), .lit (.int .u8 37), .lit (.int .u8 16), .lit (.int .u8 46), .lit (.int .u8 35), .lit (.int .u8 44), .lit (.int .u8 21), .lit (.int .u8 52), .lit (.int .u8 32), .lit (.int .u8 23), .lit (.int .u8 11), .lit (.int .u8 54), .lit (.int .u8 26), .lit (.int .u8 40), .lit (.int .u8 15), .lit (.int .u8 34), .lit (.int .u8 20), .lit (.int .u8 31), .lit (.int .u8 10), .lit (.int .u8 25), .lit (.int .u8 14), .lit (.int .u8 19), .lit (.int .u8 9), .lit (.int .u8 13), .lit (.int .u8 8), .lit (.int .u8 7), .lit (.int .u8 6)]
def laid_internal_strconv_uint64pow10 {H : Type} : DataW H := .agg [.lit (.int .u64 1), .lit (.int .u64 10), .lit (.int .u64 100), .lit (.int .u64 1000), .lit (.int .u64 10000), .lit (.int .u64 100000), .lit (.int .u64 1000000), .lit (.int .u64 10000000), .lit (.int .u64 100000000), .lit (.int .u64 1000000000), .lit (.int .u64 10000000000), .lit (.int .u64 100000000000), .lit (.int .u64 1000000000000), .lit (.int .u64 10000000000000), .lit (.int .u64 100000000000000), .lit (.int .u64 1000000000000000), .lit (.int .u64 10000000000000000), .lit (.int .u64 100000000000000000), .lit (.int .u64 1000000000000000000), .lit (.int .u64 10000000000000000000)]
def laid_hearsay_term_none {H : Type} : DataW H := .agg [.lit (.int .i64 0), .lit (.int .i64 0), .lit (.string [])]
def laid_hearsay_clause_checks {H : Type} : DataW H := .iface "func table" (.agg [.agg [.iface "func" (.lit (.string [104, 101, 97, 114, 115, 97, 121, 47, 99, 108, 97, 117, 115, 101, 46, 116, 111, 111, 76, 111, 110, 103]))], .agg [.iface "func" (.lit (.string [104, 101, 97, 114, 115, 97, 121, 47, 99, 108, 97, 117, 115, 101, 46, 98, 97, 100, 65, 116, 111, 109]))], .agg [.iface "func" (.lit (.string [104, 101, 97, 114, 115, 97, 121, 47, 99, 108, 97, 117, 115, 101, 46, 98, 97, 100, 84, 101, 115, 116]))], .agg [.iface "func" (.lit (.string [104, 101, 97, 114, 115, 97, 121, 47, 99, 108, 97, 117, 115, 101, 46, 111, 112, 101, 110, 72, 101, 97, 100]))], .agg [.iface "func" (.lit (.string [104, 101, 97, 114, 115, 97, 121, 47, 99, 108, 97, 117, 115, 101, 46, 117, 110, 115, 97, 102, 101]))], .agg [.iface "func" (.lit (.string [104, 101, 97, 114, 115, 97, 121, 47, 99, 108, 97, 117, 115, 101, 46, 109, 105, 115, 110, 117, 109, 98, 101, 114, 101, 100]))]])

/-- 'hearsaylaw09.PlanMakes': WHATEVER THE INPUT: true; the input reads as it did. -/
def planMakesSpec : ChangeSpec := { name := "planMakes", fn := fun _ => fun
  | [d1, d2] => { results := [.lit (.bool true)], args := [d1, d2] }
  | _ => none }
def planMakesRow : OpenClaim := { program := "ytdgigbopibdflaagreatdoor", sum := "8023667000ae2c83c4edc773f3af034d36b4fc293f387c8834ce0acec01a096c", func := "hearsay/hearsaylaw09.PlanMakes", spec := "planMakes", inPlace := ["internal/bytealg.abigen_runtime_cmpstring", "(*internal/sync.Mutex).Lock", "internal/race.Disable", "sync/atomic.CompareAndSwapInt32", "internal/race.Enable", "internal/race.Acquire", "(*internal/sync.Mutex).lockSlow", "internal/sync.runtime_canSpin", "internal/sync.runtime_doSpin", "internal/sync.throw", "internal/sync.runtime_nanotime", "internal/sync.runtime_SemacquireMutex", "sync/atomic.AddInt32", "(*internal/sync.Mutex).Unlock", "internal/race.ReleaseMerge", "(*internal/sync.Mutex).unlockSlow", "internal/sync.fatal", "internal/sync.runtime_Semrelease"], unfollowed := true, recurses := true, named := ["hearsay/hearsayref03.behindTest", "hearsay/hearsayref03.behindTerm", "hearsay/clause.checks", "hearsay/term.none", "internal/strconv.uint64pow10", "math/bits.deBruijn32tab", "math/bits.deBruijn64tab"], plainKeys := false, apart := false, laid := [("hearsay/hearsayref03.behindTerm", laid_hearsay_hearsayref03_behindTerm), ("hearsay/hearsayref03.behindTest", laid_hearsay_hearsayref03_behindTest), ("math/bits.deBruijn32tab", laid_math_bits_deBruijn32tab), ("math/bits.deBruijn64tab", laid_math_bits_deBruijn64tab), ("internal/strconv.uint64pow10", laid_internal_strconv_uint64pow10), ("hearsay/term.none", laid_hearsay_term_none), ("hearsay/clause.checks", laid_hearsay_clause_checks)] }
def PlanMakesSaid : Prop := planMakesRow.holds Tryz.pinned (OpenSpec.ofChange planMakesSpec)

/-- ITS FALSE NEIGHBOUR: 'it returns false'. Refute it at one input. -/
def planMakesWrong : ChangeSpec := { name := "planMakes", fn := fun _ => fun
  | [d1, d2] => { results := [.lit (.bool false)], args := [d1, d2] }
  | _ => none }
def PlanMakesWrongFalsely : Prop := planMakesRow.holds Tryz.pinned (OpenSpec.ofChange planMakesWrong)

/-- 'hearsaylaw09.PlanSolves': WHATEVER THE INPUT: true; the input reads as it did. -/
def planSolvesSpec : ChangeSpec := { name := "planSolves", fn := fun _ => fun
  | [d1, d2, d3] => { results := [.lit (.bool true)], args := [d1, d2, d3] }
  | _ => none }
def planSolvesRow : OpenClaim := { program := "ytdgigbopibdflaagreatdoor", sum := "8023667000ae2c83c4edc773f3af034d36b4fc293f387c8834ce0acec01a096c", func := "hearsay/hearsaylaw09.PlanSolves", spec := "planSolves", inPlace := ["internal/bytealg.abigen_runtime_cmpstring", "(*internal/sync.Mutex).Lock", "internal/race.Disable", "sync/atomic.CompareAndSwapInt32", "internal/race.Enable", "internal/race.Acquire", "(*internal/sync.Mutex).lockSlow", "internal/sync.runtime_canSpin", "internal/sync.runtime_doSpin", "internal/sync.throw", "internal/sync.runtime_nanotime", "internal/sync.runtime_SemacquireMutex", "sync/atomic.AddInt32", "(*internal/sync.Mutex).Unlock", "internal/race.ReleaseMerge", "(*internal/sync.Mutex).unlockSlow", "internal/sync.fatal", "internal/sync.runtime_Semrelease"], unfollowed := true, recurses := true, named := ["hearsay/term.none", "internal/strconv.uint64pow10", "math/bits.deBruijn32tab", "math/bits.deBruijn64tab", "hearsay/hearsayref03.behindTest", "hearsay/hearsayref03.behindTerm", "hearsay/clause.checks"], plainKeys := false, apart := false, laid := [("hearsay/hearsayref03.behindTerm", laid_hearsay_hearsayref03_behindTerm), ("hearsay/hearsayref03.behindTest", laid_hearsay_hearsayref03_behindTest), ("math/bits.deBruijn32tab", laid_math_bits_deBruijn32tab), ("math/bits.deBruijn64tab", laid_math_bits_deBruijn64tab), ("internal/strconv.uint64pow10", laid_internal_strconv_uint64pow10), ("hearsay/term.none", laid_hearsay_term_none), ("hearsay/clause.checks", laid_hearsay_clause_checks)] }
def PlanSolvesSaid : Prop := planSolvesRow.holds Tryz.pinned (OpenSpec.ofChange planSolvesSpec)

/-- ITS FALSE NEIGHBOUR: 'it returns false'. Refute it at one input. -/
def planSolvesWrong : ChangeSpec := { name := "planSolves", fn := fun _ => fun
  | [d1, d2, d3] => { results := [.lit (.bool false)], args := [d1, d2, d3] }
  | _ => none }
def PlanSolvesWrongFalsely : Prop := planSolvesRow.holds Tryz.pinned (OpenSpec.ofChange planSolvesWrong)

/-- 'hearsaylaw09.PlanApart': WHATEVER THE INPUT: true; the input reads as it did. -/
def planApartSpec : ChangeSpec := { name := "planApart", fn := fun _ => fun
  | [d1, d2, d3] => { results := [.lit (.bool true)], args := [d1, d2, d3] }
  | _ => none }
def planApartRow : OpenClaim := { program := "ytdgigbopibdflaagreatdoor", sum := "8023667000ae2c83c4edc773f3af034d36b4fc293f387c8834ce0acec01a096c", func := "hearsay/hearsaylaw09.PlanApart", spec := "planApart", inPlace := ["internal/bytealg.abigen_runtime_cmpstring", "(*internal/sync.Mutex).Lock", "internal/race.Disable", "sync/atomic.CompareAndSwapInt32", "internal/race.Enable", "internal/race.Acquire", "(*internal/sync.Mutex).lockSlow", "internal/sync.runtime_canSpin", "internal/sync.runtime_doSpin", "internal/sync.throw", "internal/sync.runtime_nanotime", "internal/sync.runtime_SemacquireMutex", "sync/atomic.AddInt32", "(*internal/sync.Mutex).Unlock", "internal/race.ReleaseMerge", "(*internal/sync.Mutex).unlockSlow", "internal/sync.fatal", "internal/sync.runtime_Semrelease"], unfollowed := true, recurses := true, named := ["hearsay/term.none", "internal/strconv.uint64pow10", "math/bits.deBruijn32tab", "math/bits.deBruijn64tab", "hearsay/hearsayref03.behindTest", "hearsay/hearsayref03.behindTerm", "hearsay/clause.checks"], plainKeys := false, apart := false, laid := [("hearsay/hearsayref03.behindTerm", laid_hearsay_hearsayref03_behindTerm), ("hearsay/hearsayref03.behindTest", laid_hearsay_hearsayref03_behindTest), ("math/bits.deBruijn32tab", laid_math_bits_deBruijn32tab), ("math/bits.deBruijn64tab", laid_math_bits_deBruijn64tab), ("internal/strconv.uint64pow10", laid_internal_strconv_uint64pow10), ("hearsay/term.none", laid_hearsay_term_none), ("hearsay/clause.checks", laid_hearsay_clause_checks)] }
def PlanApartSaid : Prop := planApartRow.holds Tryz.pinned (OpenSpec.ofChange planApartSpec)

/-- ITS FALSE NEIGHBOUR: 'it returns false'. Refute it at one input. -/
def planApartWrong : ChangeSpec := { name := "planApart", fn := fun _ => fun
  | [d1, d2, d3] => { results := [.lit (.bool false)], args := [d1, d2, d3] }
  | _ => none }
def PlanApartWrongFalsely : Prop := planApartRow.holds Tryz.pinned (OpenSpec.ofChange planApartWrong)

/- THE SECOND FORM. 'bulk': how many values and letters a reading holds, each counted each time it is reached (what is shared counts as often as it is met; a slice's spare places count too). A statement '..UptoSaid' is the law's where the arguments, and the package variables that the reading takes, are together of bulk at most 1048576: NARROWER than '..Said'. Prove '..Said' where nothing that the law and all that it calls make is longer than what came in: it says more and counts as full. Else prove '..UptoSaid'. A law counts once. -/
mutual
def uptoBulk {H : Type} : DataW H → Nat
  | .lit (.string bytes) => bytes.length + 1
  | .lit _ => 1
  | .nil => 1
  | .ptr d => uptoBulk d + 1
  | .slice elems spare => uptoBulkAll elems + uptoBulkAll spare + 1
  | .agg parts => uptoBulkAll parts + 1
  | .iface _ d => uptoBulk d + 1
  | .map entries => uptoBulkEntries entries + 1
  | .held _ => 1
def uptoBulkAll {H : Type} : List (DataW H) → Nat
  | [] => 0
  | d :: r => uptoBulk d + uptoBulkAll r
def uptoBulkEntries {H : Type} : List (Lit × DataW H) → Nat
  | [] => 0
  | x :: r => uptoBulkEntry x + uptoBulkEntries r
def uptoBulkEntry {H : Type} : Lit × DataW H → Nat
  | (.string bytes, d) => bytes.length + uptoBulk d + 1
  | (_, d) => uptoBulk d + 1
 end
def uptoSmall : (H : Type) → List (DataW H) → Bool := fun _ ds => decide (uptoBulkAll ds ≤ 1048576)
def OpenSpec.upto (s : _root_.Go.ChangeSpec) : _root_.Go.OpenSpec := { _root_.Go.OpenSpec.ofChange s with cond := some uptoSmall }

/-- 'hearsaylaw09.PlanMakes', WHERE WHAT IT READS IS OF BULK AT MOST 1048576: true; the input reads as it did. -/
def planMakesUptoRow : OpenClaim := { program := "ytdgigbopibdflaagreatdoor", sum := "8023667000ae2c83c4edc773f3af034d36b4fc293f387c8834ce0acec01a096c", func := "hearsay/hearsaylaw09.PlanMakes", spec := "planMakes", inPlace := ["internal/bytealg.abigen_runtime_cmpstring", "(*internal/sync.Mutex).Lock", "internal/race.Disable", "sync/atomic.CompareAndSwapInt32", "internal/race.Enable", "internal/race.Acquire", "(*internal/sync.Mutex).lockSlow", "internal/sync.runtime_canSpin", "internal/sync.runtime_doSpin", "internal/sync.throw", "internal/sync.runtime_nanotime", "internal/sync.runtime_SemacquireMutex", "sync/atomic.AddInt32", "(*internal/sync.Mutex).Unlock", "internal/race.ReleaseMerge", "(*internal/sync.Mutex).unlockSlow", "internal/sync.fatal", "internal/sync.runtime_Semrelease"], unfollowed := true, recurses := true, named := ["hearsay/hearsayref03.behindTest", "hearsay/hearsayref03.behindTerm", "hearsay/clause.checks", "hearsay/term.none", "internal/strconv.uint64pow10", "math/bits.deBruijn32tab", "math/bits.deBruijn64tab"], plainKeys := false, apart := false, laid := [("hearsay/hearsayref03.behindTerm", laid_hearsay_hearsayref03_behindTerm), ("hearsay/hearsayref03.behindTest", laid_hearsay_hearsayref03_behindTest), ("math/bits.deBruijn32tab", laid_math_bits_deBruijn32tab), ("math/bits.deBruijn64tab", laid_math_bits_deBruijn64tab), ("internal/strconv.uint64pow10", laid_internal_strconv_uint64pow10), ("hearsay/term.none", laid_hearsay_term_none), ("hearsay/clause.checks", laid_hearsay_clause_checks)], narrowed := true }
def PlanMakesUptoSaid : Prop := planMakesUptoRow.holds Tryz.pinned (OpenSpec.upto planMakesSpec)

/-- 'hearsaylaw09.PlanSolves', WHERE WHAT IT READS IS OF BULK AT MOST 1048576: true; the input reads as it did. -/
def planSolvesUptoRow : OpenClaim := { program := "ytdgigbopibdflaagreatdoor", sum := "8023667000ae2c83c4edc773f3af034d36b4fc293f387c8834ce0acec01a096c", func := "hearsay/hearsaylaw09.PlanSolves", spec := "planSolves", inPlace := ["internal/bytealg.abigen_runtime_cmpstring", "(*internal/sync.Mutex).Lock", "internal/race.Disable", "sync/atomic.CompareAndSwapInt32", "internal/race.Enable", "internal/race.Acquire", "(*internal/sync.Mutex).lockSlow", "internal/sync.runtime_canSpin", "internal/sync.runtime_doSpin", "internal/sync.throw", "internal/sync.runtime_nanotime", "internal/sync.runtime_SemacquireMutex", "sync/atomic.AddInt32", "(*internal/sync.Mutex).Unlock", "internal/race.ReleaseMerge", "(*internal/sync.Mutex).unlockSlow", "internal/sync.fatal", "internal/sync.runtime_Semrelease"], unfollowed := true, recurses := true, named := ["hearsay/term.none", "internal/strconv.uint64pow10", "math/bits.deBruijn32tab", "math/bits.deBruijn64tab", "hearsay/hearsayref03.behindTest", "hearsay/hearsayref03.behindTerm", "hearsay/clause.checks"], plainKeys := false, apart := false, laid := [("hearsay/hearsayref03.behindTerm", laid_hearsay_hearsayref03_behindTerm), ("hearsay/hearsayref03.behindTest", laid_hearsay_hearsayref03_behindTest), ("math/bits.deBruijn32tab", laid_math_bits_deBruijn32tab), ("math/bits.deBruijn64tab", laid_math_bits_deBruijn64tab), ("internal/strconv.uint64pow10", laid_internal_strconv_uint64pow10), ("hearsay/term.none", laid_hearsay_term_none), ("hearsay/clause.checks", laid_hearsay_clause_checks)], narrowed := true }
def PlanSolvesUptoSaid : Prop := planSolvesUptoRow.holds Tryz.pinned (OpenSpec.upto planSolvesSpec)

/-- 'hearsaylaw09.PlanApart', WHERE WHAT IT READS IS OF BULK AT MOST 1048576: true; the input reads as it did. -/
def planApartUptoRow : OpenClaim := { program := "ytdgigbopibdflaagreatdoor", sum := "8023667000ae2c83c4edc773f3af034d36b4fc293f387c8834ce0acec01a096c", func := "hearsay/hearsaylaw09.PlanApart", spec := "planApart", inPlace := ["internal/bytealg.abigen_runtime_cmpstring", "(*internal/sync.Mutex).Lock", "internal/race.Disable", "sync/atomic.CompareAndSwapInt32", "internal/race.Enable", "internal/race.Acquire", "(*internal/sync.Mutex).lockSlow", "internal/sync.runtime_canSpin", "internal/sync.runtime_doSpin", "internal/sync.throw", "internal/sync.runtime_nanotime", "internal/sync.runtime_SemacquireMutex", "sync/atomic.AddInt32", "(*internal/sync.Mutex).Unlock", "internal/race.ReleaseMerge", "(*internal/sync.Mutex).unlockSlow", "internal/sync.fatal", "internal/sync.runtime_Semrelease"], unfollowed := true, recurses := true, named := ["hearsay/term.none", "internal/strconv.uint64pow10", "math/bits.deBruijn32tab", "math/bits.deBruijn64tab", "hearsay/hearsayref03.behindTest", "hearsay/hearsayref03.behindTerm", "hearsay/clause.checks"], plainKeys := false, apart := false, laid := [("hearsay/hearsayref03.behindTerm", laid_hearsay_hearsayref03_behindTerm), ("hearsay/hearsayref03.behindTest", laid_hearsay_hearsayref03_behindTest), ("math/bits.deBruijn32tab", laid_math_bits_deBruijn32tab), ("math/bits.deBruijn64tab", laid_math_bits_deBruijn64tab), ("internal/strconv.uint64pow10", laid_internal_strconv_uint64pow10), ("hearsay/term.none", laid_hearsay_term_none), ("hearsay/clause.checks", laid_hearsay_clause_checks)], narrowed := true }
def PlanApartUptoSaid : Prop := planApartUptoRow.holds Tryz.pinned (OpenSpec.upto planApartSpec)

end Rows
end Go.Proofs.YtdgigbopibdflaaGreatDoor
