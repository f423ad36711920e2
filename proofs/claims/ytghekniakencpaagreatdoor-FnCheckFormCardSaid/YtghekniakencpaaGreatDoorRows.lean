/-
  NARROWER THAN 'FOR EVERY INPUT', by the rows' own cells (each row's printed sentence says how): FnCheckLess: ifaces, laid · FnCheckTwice: ifaces, laid · FnCheckMore: ifaces, laid · FnCheckCut: ifaces, laid · FnPureRun: ifaces, laid · FnCheckForm: ifaces, laid.
  DERIVED. THE GIVEN ROWS OF THIS SEAT. 6 by the template 'for every input the law returns true; each argument reads behind the call as it read before'; 0 by the template 'total and deterministic' (their statements: YtghekniakencpaaGreatDoorTotals.lean).
  GIVEN WITH THE SEED: the statements are not yours to turn. If you find one false, say at which input.
  Laid BY PROGRAM, IN A SANDBOX (cutbox-rows.mjs): the forced cells as the released guide's own fill.sh prints them over the translation a7e8ac306f9a9b70… (all of the seat's roots in one cut). By AI agents, Wed Nov 11 2026. No macro, syntax, notation, axiom, sorry.
-/
import Derived.Test.YtghekniakencpaaGreatDoorChecked
import GoSem.Claim
import GoSem.ClaimJoined
import GoSem.ClaimMapViews
import Derived.JoinedTies
import Derived.KernelRfl
namespace Go.Proofs.YtghekniakencpaaGreatDoor
/- THE CELL 'sum', in the pinned program and in every row, IS THE sha256 OF THE DUMP (.gsa) THAT YtghekniakencpaaGreatDoorProg.lean LOADS. Nothing in Lean hashes anything: it is a label: what it is worth is what the hold of that sum in a sandbox is worth. -/
noncomputable def Tryz.pinned : Pinned := { name := "ytghekniakencpaagreatdoor", sum := "a7e8ac306f9a9b70b7b4a252bc99cf64427df0ed22e051ad42476b405ca4d5a2", checked := Tryz.checked }
namespace Rows
def none {H : Type} : Left H := { results := [], args := [] }

/- WHAT THE LISTED PACKAGE-LEVEL VARIABLES READ AS WHEN THE CALL BEGINS. Each datum BY PROGRAM (the guide's laid-datum.mjs) off the statement by which the dump's own 'gosem.cut.vars' lays the variable. In a bare row this is a premise. The card (YtghekniakencpaaGreatDoorCards.lean) ties it to the program's text. -/
def laid_errors_errorType {H : Type} : DataW H := .iface "internal/reflectlite.rtype" (.agg [.ptr (.lit (.string [101, 114, 114, 111, 114]))])
def laid_loop_example_handfast_impl_errCheckName {H : Type} : DataW H := .iface "*errors.errorString" (.ptr (.agg [.lit (.string [97, 32, 110, 97, 109, 101, 32, 116, 104, 97, 116, 32, 105, 115, 32, 110, 111, 116, 32, 103, 105, 118, 101, 110, 44, 32, 111, 114, 32, 103, 105, 118, 101, 110, 32, 97, 108, 114, 101, 97, 100, 121])]))
def laid_loop_example_handfast_impl_errCheckType {H : Type} : DataW H := .iface "*errors.errorString" (.ptr (.agg [.lit (.string [97, 32, 116, 121, 112, 101, 32, 116, 104, 97, 116, 32, 100, 111, 101, 115, 32, 110, 111, 116, 32, 102, 105, 116])]))
def laid_loop_example_handfast_impl_errCheckLoan {H : Type} : DataW H := .iface "*errors.errorString" (.ptr (.agg [.lit (.string [119, 104, 97, 116, 32, 105, 115, 32, 108, 101, 110, 116, 32, 104, 97, 115, 32, 101, 110, 100, 101, 100])]))
def laid_loop_example_handfast_impl_errCheckOut {H : Type} : DataW H := .iface "*errors.errorString" (.ptr (.agg [.lit (.string [119, 104, 97, 116, 32, 105, 115, 32, 103, 105, 118, 101, 110, 32, 111, 117, 116, 32, 105, 115, 32, 110, 111, 116, 32, 111, 102, 32, 111, 117, 116, 115, 105, 100, 101])]))
def laid_loop_example_handfast_impl_errPureFail {H : Type} : DataW H := .iface "*errors.errorString" (.ptr (.agg [.lit (.string [105, 116, 32, 102, 97, 105, 108, 115])]))
def laid_math_bits_deBruijn32tab {H : Type} : DataW H := .agg [.lit (.int .u8 0), .lit (.int .u8 1), .lit (.int .u8 28), .lit (.int .u8 2), .lit (.int .u8 29), .lit (.int .u8 14), .lit (.int .u8 24), .lit (.int .u8 3), .lit (.int .u8 30), .lit (.int .u8 22), .lit (.int .u8 20), .lit (.int .u8 15), .lit (.int .u8 25), .lit (.int .u8 17), .lit (.int .u8 4), .lit (.int .u8 8), .lit (.int .u8 31), .lit (.int .u8 27), .lit (.int .u8 13), .lit (.int .u8 23), .lit (.int .u8 21), .lit (.int .u8 19), .lit (.int .u8 16), .lit (.int .u8 7), .lit (.int .u8 26), .lit (.int .u8 12), .lit (.int .u8 18), .lit (.int .u8 6), .lit (.int .u8 11), .lit (.int .u8 5), .lit (.int .u8 10), .lit (.int .u8 9)]
def laid_math_bits_deBruijn64tab {H : Type} : DataW H := .agg [.lit (.int .u8 0), .lit (.int .u8 1), .lit (.int .u8 56), .lit (.int .u8 2), .lit (.int .u8 57), .lit (.int .u8 49), .lit (.int .u8 28), .lit (.int .u8 3), .lit (.int .u8 61), .lit (.int .u8 58), .lit (.int .u8 42), .lit (.int .u8 50), .lit (.int .u8 38), .lit (.int .u8 29), .lit (.int .u8 17), .lit (.int .u8 4), .lit (.int .u8 62), .lit (.int .u8 47), .lit (.int .u8 59), .lit (.int .u8 36), .lit (.int .u8 45), .lit (.int .u8 43), .lit (.int .u8 51), .lit (.int .u8 22), .lit (.int .u8 53), .lit (.int .u8 39), .lit (.int .u8 33), .lit (.int .u8 30), .lit (.int .u8 24), .lit (.int .u8 18), .lit (.int .u8 12), .lit (.int .u8 5), .lit (.int .u8 63), .lit (.int .u8 55), .lit (.int .u8 48), .lit (.int .u8 27), .lit (.int .u8 60), .lit (.int .u8 41), .lit (.int .u8 37), .lit (.int .u8 16), .lit (.int .u8 46), .lit (.int .u8 35), .lit (.int .u8 44), .lit (.int .u8 21), .lit (.int .u8 52), .lit (.int .u8 32), .lit (.int .u8 23), .lit (.int .u8 11), .lit (.int .u8 54), .lit (.int .u8 26), .lit (.int .u8 40), .lit (.int .u8 15), .lit (.int .u8 34), .lit (.int .u8 20), .lit (.int .u8 31), .lit (.int .u8 10), .lit (.int .u8 25), .lit (.int .u8 14), .lit (.int .u8 19), .lit (.int .u8 9), .lit (.int .u8 13), .lit (.int .u8 8), .lit (.int .u8 7), .lit (.int .u8 6)]
def laid_internal_strconv_uint64pow10 {H : Type} : DataW H := .agg [.lit (.int .u64 1), .lit (.int .u64 10), .lit (.int .u64 100), .lit (.int .u64 1000), .lit (.int .u64 10000), .lit (.int .u64 100000), .lit (.int .u64 1000000), .lit (.int .u64 10000000), .lit (.int .u64 100000000), .lit (.int .u64 1000000000), .lit (.int .u64 10000000000), .lit (.int .u64 100000000000), .lit (.int .u64 1000000000000), .lit (.int .u64 10000000000000), .lit (.int .u64 100000000000000), .lit (.int .u64 1000000000000000), .lit (.int .u64 10000000000000000), .lit (.int .u64 100000000000000000), .lit (.int .u64 1000000000000000000), .lit (.int .u64 10000000000000000000)]

/-- 'laws.FnCheckLess': WHATEVER THE INPUT: true; the input reads as it did. -/
def fnCheckLessSpec : ChangeSpec := { name := "fnCheckLess", vars := ["loop.example/handfast/impl.errCheckName", "loop.example/handfast/impl.errCheckType", "loop.example/handfast/impl.errCheckLoan", "loop.example/handfast/impl.errCheckOut"], fn := fun _ => fun
  | [d, g1, g2, g3, g4] => { results := [.lit (.bool true)], args := [d], vars := [g1, g2, g3, g4] }
  | _ => none }
def fnCheckLessRow : OpenClaim := { program := "ytghekniakencpaagreatdoor", sum := "a7e8ac306f9a9b70b7b4a252bc99cf64427df0ed22e051ad42476b405ca4d5a2", func := "loop.example/handfast/laws.FnCheckLess", spec := "fnCheckLess", inPlace := ["maps.clone", "internal/reflectlite.ValueOf", "(internal/reflectlite.Value).Type", "(internal/reflectlite.Value).IsNil", "internal/reflectlite.TypeOf", "(internal/reflectlite.Value).Elem", "(internal/reflectlite.Value).Set"], unfollowed := true, recurses := true, named := ["loop.example/handfast/impl.errCheckName", "loop.example/handfast/impl.errCheckType", "loop.example/handfast/impl.errCheckLoan", "loop.example/handfast/impl.errCheckOut", "errors.errorType"], ifaces := true, apart := false, laid := [("errors.errorType", laid_errors_errorType), ("loop.example/handfast/impl.errCheckName", laid_loop_example_handfast_impl_errCheckName), ("loop.example/handfast/impl.errCheckType", laid_loop_example_handfast_impl_errCheckType), ("loop.example/handfast/impl.errCheckLoan", laid_loop_example_handfast_impl_errCheckLoan), ("loop.example/handfast/impl.errCheckOut", laid_loop_example_handfast_impl_errCheckOut)] }
def FnCheckLessSaid : Prop := fnCheckLessRow.holds Tryz.pinned (OpenSpec.ofChange fnCheckLessSpec)

/-- ITS FALSE NEIGHBOUR: 'it returns false'. Refute it at one input. -/
def fnCheckLessWrong : ChangeSpec := { name := "fnCheckLess", vars := ["loop.example/handfast/impl.errCheckName", "loop.example/handfast/impl.errCheckType", "loop.example/handfast/impl.errCheckLoan", "loop.example/handfast/impl.errCheckOut"], fn := fun _ => fun
  | [d, g1, g2, g3, g4] => { results := [.lit (.bool false)], args := [d], vars := [g1, g2, g3, g4] }
  | _ => none }
def FnCheckLessWrongFalsely : Prop := fnCheckLessRow.holds Tryz.pinned (OpenSpec.ofChange fnCheckLessWrong)

/-- 'laws.FnCheckTwice': WHATEVER THE INPUT: true; the input reads as it did. -/
def fnCheckTwiceSpec : ChangeSpec := { name := "fnCheckTwice", vars := ["loop.example/handfast/impl.errCheckName", "loop.example/handfast/impl.errCheckType", "loop.example/handfast/impl.errCheckLoan", "loop.example/handfast/impl.errCheckOut"], fn := fun _ => fun
  | [d, g1, g2, g3, g4] => { results := [.lit (.bool true)], args := [d], vars := [g1, g2, g3, g4] }
  | _ => none }
def fnCheckTwiceRow : OpenClaim := { program := "ytghekniakencpaagreatdoor", sum := "a7e8ac306f9a9b70b7b4a252bc99cf64427df0ed22e051ad42476b405ca4d5a2", func := "loop.example/handfast/laws.FnCheckTwice", spec := "fnCheckTwice", inPlace := ["maps.clone", "internal/reflectlite.ValueOf", "(internal/reflectlite.Value).Type", "(internal/reflectlite.Value).IsNil", "internal/reflectlite.TypeOf", "(internal/reflectlite.Value).Elem", "(internal/reflectlite.Value).Set"], unfollowed := true, recurses := true, named := ["loop.example/handfast/impl.errCheckName", "loop.example/handfast/impl.errCheckType", "loop.example/handfast/impl.errCheckLoan", "loop.example/handfast/impl.errCheckOut", "errors.errorType"], ifaces := true, apart := false, laid := [("errors.errorType", laid_errors_errorType), ("loop.example/handfast/impl.errCheckName", laid_loop_example_handfast_impl_errCheckName), ("loop.example/handfast/impl.errCheckType", laid_loop_example_handfast_impl_errCheckType), ("loop.example/handfast/impl.errCheckLoan", laid_loop_example_handfast_impl_errCheckLoan), ("loop.example/handfast/impl.errCheckOut", laid_loop_example_handfast_impl_errCheckOut)] }
def FnCheckTwiceSaid : Prop := fnCheckTwiceRow.holds Tryz.pinned (OpenSpec.ofChange fnCheckTwiceSpec)

/-- ITS FALSE NEIGHBOUR: 'it returns false'. Refute it at one input. -/
def fnCheckTwiceWrong : ChangeSpec := { name := "fnCheckTwice", vars := ["loop.example/handfast/impl.errCheckName", "loop.example/handfast/impl.errCheckType", "loop.example/handfast/impl.errCheckLoan", "loop.example/handfast/impl.errCheckOut"], fn := fun _ => fun
  | [d, g1, g2, g3, g4] => { results := [.lit (.bool false)], args := [d], vars := [g1, g2, g3, g4] }
  | _ => none }
def FnCheckTwiceWrongFalsely : Prop := fnCheckTwiceRow.holds Tryz.pinned (OpenSpec.ofChange fnCheckTwiceWrong)

/-- 'laws.FnCheckMore': WHATEVER THE INPUT: true; the input reads as it did. -/
def fnCheckMoreSpec : ChangeSpec := { name := "fnCheckMore", vars := ["loop.example/handfast/impl.errCheckName", "loop.example/handfast/impl.errCheckType", "loop.example/handfast/impl.errCheckLoan", "loop.example/handfast/impl.errCheckOut"], fn := fun _ => fun
  | [d, g1, g2, g3, g4] => { results := [.lit (.bool true)], args := [d], vars := [g1, g2, g3, g4] }
  | _ => none }
def fnCheckMoreRow : OpenClaim := { program := "ytghekniakencpaagreatdoor", sum := "a7e8ac306f9a9b70b7b4a252bc99cf64427df0ed22e051ad42476b405ca4d5a2", func := "loop.example/handfast/laws.FnCheckMore", spec := "fnCheckMore", inPlace := ["maps.clone", "internal/reflectlite.ValueOf", "(internal/reflectlite.Value).Type", "(internal/reflectlite.Value).IsNil", "internal/reflectlite.TypeOf", "(internal/reflectlite.Value).Elem", "(internal/reflectlite.Value).Set"], unfollowed := true, recurses := true, named := ["loop.example/handfast/impl.errCheckName", "loop.example/handfast/impl.errCheckType", "loop.example/handfast/impl.errCheckLoan", "loop.example/handfast/impl.errCheckOut", "errors.errorType"], ifaces := true, apart := false, laid := [("errors.errorType", laid_errors_errorType), ("loop.example/handfast/impl.errCheckName", laid_loop_example_handfast_impl_errCheckName), ("loop.example/handfast/impl.errCheckType", laid_loop_example_handfast_impl_errCheckType), ("loop.example/handfast/impl.errCheckLoan", laid_loop_example_handfast_impl_errCheckLoan), ("loop.example/handfast/impl.errCheckOut", laid_loop_example_handfast_impl_errCheckOut)] }
def FnCheckMoreSaid : Prop := fnCheckMoreRow.holds Tryz.pinned (OpenSpec.ofChange fnCheckMoreSpec)

/-- ITS FALSE NEIGHBOUR: 'it returns false'. Refute it at one input. -/
def fnCheckMoreWrong : ChangeSpec := { name := "fnCheckMore", vars := ["loop.example/handfast/impl.errCheckName", "loop.example/handfast/impl.errCheckType", "loop.example/handfast/impl.errCheckLoan", "loop.example/handfast/impl.errCheckOut"], fn := fun _ => fun
  | [d, g1, g2, g3, g4] => { results := [.lit (.bool false)], args := [d], vars := [g1, g2, g3, g4] }
  | _ => none }
def FnCheckMoreWrongFalsely : Prop := fnCheckMoreRow.holds Tryz.pinned (OpenSpec.ofChange fnCheckMoreWrong)

/-- 'laws.FnCheckCut': WHATEVER THE INPUT: true; the input reads as it did. -/
def fnCheckCutSpec : ChangeSpec := { name := "fnCheckCut", vars := ["loop.example/handfast/impl.errCheckName", "loop.example/handfast/impl.errCheckType", "loop.example/handfast/impl.errCheckLoan", "loop.example/handfast/impl.errCheckOut"], fn := fun _ => fun
  | [d, g1, g2, g3, g4] => { results := [.lit (.bool true)], args := [d], vars := [g1, g2, g3, g4] }
  | _ => none }
def fnCheckCutRow : OpenClaim := { program := "ytghekniakencpaagreatdoor", sum := "a7e8ac306f9a9b70b7b4a252bc99cf64427df0ed22e051ad42476b405ca4d5a2", func := "loop.example/handfast/laws.FnCheckCut", spec := "fnCheckCut", inPlace := ["maps.clone", "internal/reflectlite.ValueOf", "(internal/reflectlite.Value).Type", "(internal/reflectlite.Value).IsNil", "internal/reflectlite.TypeOf", "(internal/reflectlite.Value).Elem", "(internal/reflectlite.Value).Set"], unfollowed := true, recurses := true, named := ["loop.example/handfast/impl.errCheckName", "loop.example/handfast/impl.errCheckType", "loop.example/handfast/impl.errCheckLoan", "loop.example/handfast/impl.errCheckOut", "errors.errorType"], ifaces := true, apart := false, laid := [("errors.errorType", laid_errors_errorType), ("loop.example/handfast/impl.errCheckName", laid_loop_example_handfast_impl_errCheckName), ("loop.example/handfast/impl.errCheckType", laid_loop_example_handfast_impl_errCheckType), ("loop.example/handfast/impl.errCheckLoan", laid_loop_example_handfast_impl_errCheckLoan), ("loop.example/handfast/impl.errCheckOut", laid_loop_example_handfast_impl_errCheckOut)] }
def FnCheckCutSaid : Prop := fnCheckCutRow.holds Tryz.pinned (OpenSpec.ofChange fnCheckCutSpec)

/-- ITS FALSE NEIGHBOUR: 'it returns false'. Refute it at one input. -/
def fnCheckCutWrong : ChangeSpec := { name := "fnCheckCut", vars := ["loop.example/handfast/impl.errCheckName", "loop.example/handfast/impl.errCheckType", "loop.example/handfast/impl.errCheckLoan", "loop.example/handfast/impl.errCheckOut"], fn := fun _ => fun
  | [d, g1, g2, g3, g4] => { results := [.lit (.bool false)], args := [d], vars := [g1, g2, g3, g4] }
  | _ => none }
def FnCheckCutWrongFalsely : Prop := fnCheckCutRow.holds Tryz.pinned (OpenSpec.ofChange fnCheckCutWrong)

/-- 'laws.FnPureRun': WHATEVER THE INPUT: true; the input reads as it did. -/
def fnPureRunSpec : ChangeSpec := { name := "fnPureRun", vars := ["loop.example/handfast/impl.errPureFail"], fn := fun _ => fun
  | [d, g1] => { results := [.lit (.bool true)], args := [d], vars := [g1] }
  | _ => none }
def fnPureRunRow : OpenClaim := { program := "ytghekniakencpaagreatdoor", sum := "a7e8ac306f9a9b70b7b4a252bc99cf64427df0ed22e051ad42476b405ca4d5a2", func := "loop.example/handfast/laws.FnPureRun", spec := "fnPureRun", inPlace := ["maps.clone", "internal/reflectlite.TypeOf"], unfollowed := true, recurses := true, named := ["loop.example/handfast/impl.errPureFail"], ifaces := true, apart := false, laid := [("loop.example/handfast/impl.errPureFail", laid_loop_example_handfast_impl_errPureFail)] }
def FnPureRunSaid : Prop := fnPureRunRow.holds Tryz.pinned (OpenSpec.ofChange fnPureRunSpec)

/-- ITS FALSE NEIGHBOUR: 'it returns false'. Refute it at one input. -/
def fnPureRunWrong : ChangeSpec := { name := "fnPureRun", vars := ["loop.example/handfast/impl.errPureFail"], fn := fun _ => fun
  | [d, g1] => { results := [.lit (.bool false)], args := [d], vars := [g1] }
  | _ => none }
def FnPureRunWrongFalsely : Prop := fnPureRunRow.holds Tryz.pinned (OpenSpec.ofChange fnPureRunWrong)

/-- 'laws.FnCheckForm': WHATEVER THE INPUT: true; the input reads as it did. -/
def fnCheckFormSpec : ChangeSpec := { name := "fnCheckForm", vars := ["loop.example/handfast/impl.errCheckName", "loop.example/handfast/impl.errCheckType", "loop.example/handfast/impl.errCheckLoan", "loop.example/handfast/impl.errCheckOut"], fn := fun _ => fun
  | [d, g1, g2, g3, g4] => { results := [.lit (.bool true)], args := [d], vars := [g1, g2, g3, g4] }
  | _ => none }
def fnCheckFormRow : OpenClaim := { program := "ytghekniakencpaagreatdoor", sum := "a7e8ac306f9a9b70b7b4a252bc99cf64427df0ed22e051ad42476b405ca4d5a2", func := "loop.example/handfast/laws.FnCheckForm", spec := "fnCheckForm", inPlace := ["maps.clone", "internal/reflectlite.ValueOf", "(internal/reflectlite.Value).Type", "(internal/reflectlite.Value).IsNil", "internal/reflectlite.TypeOf", "(internal/reflectlite.Value).Elem", "(internal/reflectlite.Value).Set", "internal/abi.NoEscape", "internal/bytealg.MakeNoZero"], unfollowed := true, recurses := true, named := ["loop.example/handfast/impl.errCheckName", "loop.example/handfast/impl.errCheckType", "loop.example/handfast/impl.errCheckLoan", "loop.example/handfast/impl.errCheckOut", "errors.errorType", "internal/strconv.uint64pow10", "math/bits.deBruijn32tab", "math/bits.deBruijn64tab"], ifaces := true, apart := false, laid := [("math/bits.deBruijn32tab", laid_math_bits_deBruijn32tab), ("math/bits.deBruijn64tab", laid_math_bits_deBruijn64tab), ("internal/strconv.uint64pow10", laid_internal_strconv_uint64pow10), ("errors.errorType", laid_errors_errorType), ("loop.example/handfast/impl.errCheckName", laid_loop_example_handfast_impl_errCheckName), ("loop.example/handfast/impl.errCheckType", laid_loop_example_handfast_impl_errCheckType), ("loop.example/handfast/impl.errCheckLoan", laid_loop_example_handfast_impl_errCheckLoan), ("loop.example/handfast/impl.errCheckOut", laid_loop_example_handfast_impl_errCheckOut)] }
def FnCheckFormSaid : Prop := fnCheckFormRow.holds Tryz.pinned (OpenSpec.ofChange fnCheckFormSpec)

/-- ITS FALSE NEIGHBOUR: 'it returns false'. Refute it at one input. -/
def fnCheckFormWrong : ChangeSpec := { name := "fnCheckForm", vars := ["loop.example/handfast/impl.errCheckName", "loop.example/handfast/impl.errCheckType", "loop.example/handfast/impl.errCheckLoan", "loop.example/handfast/impl.errCheckOut"], fn := fun _ => fun
  | [d, g1, g2, g3, g4] => { results := [.lit (.bool false)], args := [d], vars := [g1, g2, g3, g4] }
  | _ => none }
def FnCheckFormWrongFalsely : Prop := fnCheckFormRow.holds Tryz.pinned (OpenSpec.ofChange fnCheckFormWrong)

/- THE SECOND FORM. 'bulk': how many values and letters a reading holds, each counted each time it is reached (what is shared counts as often as it is met; a slice's spare places count too). A statement '..UptoSaid' is the law's where the arguments, and the package variables that the reading takes, are together of bulk at most 1048576: NARROWER than '..Said'. Prove '..Said' where nothing that the law and all that it calls make is longer than what came in: it says more and counts as full. Else prove '..UptoSaid'. A law counts once. -/
mutual
def uptoBulk {H : Type} : DataW H → Nat
  | .lit (.string bytes) => bytes.length + 1
  | .lit _ => 1
  | .nil => 1
  | .ptr d => uptoBulk d + 1
  | .slice elems spare => uptoBulkAll elems + uptoBulkAll spare + 1
  | .agg parts => uptoBulkAll parts + 1
  | .iface _ d => uptoBulk d + 1
  | .map entries => uptoBulkEntries entries + 1
  | .held _ => 1
def uptoBulkAll {H : Type} : List (DataW H) → Nat
  | [] => 0
  | d :: r => uptoBulk d + uptoBulkAll r
def uptoBulkEntries {H : Type} : List (Lit × DataW H) → Nat
  | [] => 0
  | x :: r => uptoBulkEntry x + uptoBulkEntries r
def uptoBulkEntry {H : Type} : Lit × DataW H → Nat
  | (.string bytes, d) => bytes.length + uptoBulk d + 1
  | (_, d) => uptoBulk d + 1
 end
def uptoSmall : (H : Type) → List (DataW H) → Bool := fun _ ds => decide (uptoBulkAll ds ≤ 1048576)
def OpenSpec.upto (s : _root_.Go.ChangeSpec) : _root_.Go.OpenSpec := { _root_.Go.OpenSpec.ofChange s with cond := some uptoSmall }

/-- 'laws.FnCheckLess', WHERE WHAT IT READS IS OF BULK AT MOST 1048576: true; the input reads as it did. -/
def fnCheckLessUptoRow : OpenClaim := { program := "ytghekniakencpaagreatdoor", sum := "a7e8ac306f9a9b70b7b4a252bc99cf64427df0ed22e051ad42476b405ca4d5a2", func := "loop.example/handfast/laws.FnCheckLess", spec := "fnCheckLess", inPlace := ["maps.clone", "internal/reflectlite.ValueOf", "(internal/reflectlite.Value).Type", "(internal/reflectlite.Value).IsNil", "internal/reflectlite.TypeOf", "(internal/reflectlite.Value).Elem", "(internal/reflectlite.Value).Set"], unfollowed := true, recurses := true, named := ["loop.example/handfast/impl.errCheckName", "loop.example/handfast/impl.errCheckType", "loop.example/handfast/impl.errCheckLoan", "loop.example/handfast/impl.errCheckOut", "errors.errorType"], ifaces := true, apart := false, laid := [("errors.errorType", laid_errors_errorType), ("loop.example/handfast/impl.errCheckName", laid_loop_example_handfast_impl_errCheckName), ("loop.example/handfast/impl.errCheckType", laid_loop_example_handfast_impl_errCheckType), ("loop.example/handfast/impl.errCheckLoan", laid_loop_example_handfast_impl_errCheckLoan), ("loop.example/handfast/impl.errCheckOut", laid_loop_example_handfast_impl_errCheckOut)], narrowed := true }
def FnCheckLessUptoSaid : Prop := fnCheckLessUptoRow.holds Tryz.pinned (OpenSpec.upto fnCheckLessSpec)

/-- 'laws.FnCheckTwice', WHERE WHAT IT READS IS OF BULK AT MOST 1048576: true; the input reads as it did. -/
def fnCheckTwiceUptoRow : OpenClaim := { program := "ytghekniakencpaagreatdoor", sum := "a7e8ac306f9a9b70b7b4a252bc99cf64427df0ed22e051ad42476b405ca4d5a2", func := "loop.example/handfast/laws.FnCheckTwice", spec := "fnCheckTwice", inPlace := ["maps.clone", "internal/reflectlite.ValueOf", "(internal/reflectlite.Value).Type", "(internal/reflectlite.Value).IsNil", "internal/reflectlite.TypeOf", "(internal/reflectlite.Value).Elem", "(internal/reflectlite.Value).Set"], unfollowed := true, recurses := true, named := ["loop.example/handfast/impl.errCheckName", "loop.example/handfast/impl.errCheckType", "loop.example/handfast/impl.errCheckLoan", "loop.example/handfast/impl.errCheckOut", "errors.errorType"], ifaces := true, apart := false, laid := [("errors.errorType", laid_errors_errorType), ("loop.example/handfast/impl.errCheckName", laid_loop_example_handfast_impl_errCheckName), ("loop.example/handfast/impl.errCheckType", laid_loop_example_handfast_impl_errCheckType), ("loop.example/handfast/impl.errCheckLoan", laid_loop_example_handfast_impl_errCheckLoan), ("loop.example/handfast/impl.errCheckOut", laid_loop_example_handfast_impl_errCheckOut)], narrowed := true }
def FnCheckTwiceUptoSaid : Prop := fnCheckTwiceUptoRow.holds Tryz.pinned (OpenSpec.upto fnCheckTwiceSpec)

/-- 'laws.FnCheckMore', WHERE WHAT IT READS IS OF BULK AT MOST 1048576: true; the input reads as it did. -/
def fnCheckMoreUptoRow : OpenClaim := { program := "ytghekniakencpaagreatdoor", sum := "a7e8ac306f9a9b70b7b4a252bc99cf64427df0ed22e051ad42476b405ca4d5a2", func := "loop.example/handfast/laws.FnCheckMore", spec := "fnCheckMore", inPlace := ["maps.clone", "internal/reflectlite.ValueOf", "(internal/reflectlite.Value).Type", "(internal/reflectlite.Value).IsNil", "internal/reflectlite.TypeOf", "(internal/reflectlite.Value).Elem", "(internal/reflectlite.Value).Set"], unfollowed := true, recurses := true, named := ["loop.example/handfast/impl.errCheckName", "loop.example/handfast/impl.errCheckType", "loop.example/handfast/impl.errCheckLoan", "loop.example/handfast/impl.errCheckOut", "errors.errorType"], ifaces := true, apart := false, laid := [("errors.errorType", laid_errors_errorType), ("loop.example/handfast/impl.errCheckName", laid_loop_example_handfast_impl_errCheckName), ("loop.example/handfast/impl.errCheckType", laid_loop_example_handfast_impl_errCheckType), ("loop.example/handfast/impl.errCheckLoan", laid_loop_example_handfast_impl_errCheckLoan), ("loop.example/handfast/impl.errCheckOut", laid_loop_example_handfast_impl_errCheckOut)], narrowed := true }
def FnCheckMoreUptoSaid : Prop := fnCheckMoreUptoRow.holds Tryz.pinned (OpenSpec.upto fnCheckMoreSpec)

/-- 'laws.FnCheckCut', WHERE WHAT IT READS IS OF BULK AT MOST 1048576: true; the input reads as it did. -/
def fnCheckCutUptoRow : OpenClaim := { program := "ytghekniakencpaagreatdoor", sum := "a7e8ac306f9a9b70b7b4a252bc99cf64427df0ed22e051ad42476b405ca4d5a2", func := "loop.example/handfast/laws.FnCheckCut", spec := "fnCheckCut", inPlace := ["maps.clone", "internal/reflectlite.ValueOf", "(internal/reflectlite.Value).Type", "(internal/reflectlite.Value).IsNil", "internal/reflectlite.TypeOf", "(internal/reflectlite.Value).Elem", "(internal/reflectlite.Value).Set"], unfollowed := true, recurses := true, named := ["loop.example/handfast/impl.errCheckName", "loop.example/handfast/impl.errCheckType", "loop.example/handfast/impl.errCheckLoan", "loop.example/handfast/impl.errCheckOut", "errors.errorType"], ifaces := true, apart := false, laid := [("errors.errorType", laid_errors_errorType), ("loop.example/handfast/impl.errCheckName", laid_loop_example_handfast_impl_errCheckName), ("loop.example/handfast/impl.errCheckType", laid_loop_example_handfast_impl_errCheckType), ("loop.example/handfast/impl.errCheckLoan", laid_loop_example_handfast_impl_errCheckLoan), ("loop.example/handfast/impl.errCheckOut", laid_loop_example_handfast_impl_errCheckOut)], narrowed := true }
def FnCheckCutUptoSaid : Prop := fnCheckCutUptoRow.holds Tryz.pinned (OpenSpec.upto fnCheckCutSpec)

/-- 'laws.FnPureRun', WHERE WHAT IT READS IS OF BULK AT MOST 1048576: true; the input reads as it did. -/
def fnPureRunUptoRow : OpenClaim := { program := "ytghekniakencpaagreatdoor", sum := "a7e8ac306f9a9b70b7b4a252bc99cf64427df0ed22e051ad42476b405ca4d5a2", func := "loop.example/handfast/laws.FnPureRun", spec := "fnPureRun", inPlace := ["maps.clone", "internal/reflectlite.TypeOf"], unfollowed := true, recurses := true, named := ["loop.example/handfast/impl.errPureFail"], ifaces := true, apart := false, laid := [("loop.example/handfast/impl.errPureFail", laid_loop_example_handfast_impl_errPureFail)], narrowed := true }
def FnPureRunUptoSaid : Prop := fnPureRunUptoRow.holds Tryz.pinned (OpenSpec.upto fnPureRunSpec)

/-- 'laws.FnCheckForm', WHERE WHAT IT READS IS OF BULK AT MOST 1048576: true; the input reads as it did. -/
def fnCheckFormUptoRow : OpenClaim := { program := "ytghekniakencpaagreatdoor", sum := "a7e8ac306f9a9b70b7b4a252bc99cf64427df0ed22e051ad42476b405ca4d5a2", func := "loop.example/handfast/laws.FnCheckForm", spec := "fnCheckForm", inPlace := ["maps.clone", "internal/reflectlite.ValueOf", "(internal/reflectlite.Value).Type", "(internal/reflectlite.Value).IsNil", "internal/reflectlite.TypeOf", "(internal/reflectlite.Value).Elem", "(internal/reflectlite.Value).Set", "internal/abi.NoEscape", "internal/bytealg.MakeNoZero"], unfollowed := true, recurses := true, named := ["loop.example/handfast/impl.errCheckName", "loop.example/handfast/impl.errCheckType", "loop.example/handfast/impl.errCheckLoan", "loop.example/handfast/impl.errCheckOut", "errors.errorType", "internal/strconv.uint64pow10", "math/bits.deBruijn32tab", "math/bits.deBruijn64tab"], ifaces := true, apart := false, laid := [("math/bits.deBruijn32tab", laid_math_bits_deBruijn32tab), ("math/bits.deBruijn64tab", laid_math_bits_deBruijn64tab), ("internal/strconv.uint64pow10", laid_internal_strconv_uint64pow10), ("errors.errorType", laid_errors_errorType), ("loop.example/handfast/impl.errCheckName", laid_loop_example_handfast_impl_errCheckName), ("loop.example/handfast/impl.errCheckType", laid_loop_example_handfast_impl_errCheckType), ("loop.example/handfast/impl.errCheckLoan", laid_loop_example_handfast_impl_errCheckLoan), ("loop.example/handfast/impl.errCheckOut", laid_loop_example_handfast_impl_errCheckOut)], narrowed := true }
def FnCheckFormUptoSaid : Prop := fnCheckFormUptoRow.holds Tryz.pinned (OpenSpec.upto fnCheckFormSpec)

end Rows
end Go.Proofs.YtghekniakencpaaGreatDoor
