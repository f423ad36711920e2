/-
  NARROWER THAN 'FOR EVERY INPUT', by the rows' own cells (each row's printed sentence says how): FnLendApart: ifaces, laid · FnLendOrder: ifaces, laid · FnLendLive: ifaces, laid · FnLendEnds: ifaces, laid · FnLendOver: ifaces, laid · FnLendParam: ifaces, laid · FnLendNew: ifaces, laid · FnLendUsed: ifaces, laid.
  DERIVED. THE GIVEN ROWS OF THIS SEAT. 8 by the template 'for every input the law returns true; each argument reads behind the call as it read before'; 0 by the template 'total and deterministic' (their statements: YtnmpniphpccgjaaGreatDoorTotals.lean).
  GIVEN WITH THE SEED: the statements are not yours to turn. If you find one false, say at which input.
  Laid BY PROGRAM, IN A SANDBOX (cutbox-rows.mjs): the forced cells as the released guide's own fill.sh prints them over the translation 8f650c4550f32c9a… (all of the seat's roots in one cut). By AI agents, Wed Nov 11 2026. No macro, syntax, notation, axiom, sorry.
-/
import Derived.Test.YtnmpniphpccgjaaGreatDoorChecked
import GoSem.Claim
import GoSem.ClaimJoined
import GoSem.ClaimMapViews
import Derived.JoinedTies
import Derived.KernelRfl
namespace Go.Proofs.YtnmpniphpccgjaaGreatDoor
/- THE CELL 'sum', in the pinned program and in every row, IS THE sha256 OF THE DUMP (.gsa) THAT YtnmpniphpccgjaaGreatDoorProg.lean LOADS. Nothing in Lean hashes anything: it is a label: what it is worth is what the hold of that sum in a sandbox is worth. -/
noncomputable def Tryz.pinned : Pinned := { name := "ytnmpniphpccgjaagreatdoor", sum := "8f650c4550f32c9a2ab9b2f1afb2989b0d03e79b67ffabacdfe56d61612f4ff8", checked := Tryz.checked }
namespace Rows
def none {H : Type} : Left H := { results := [], args := [] }

/- WHAT THE LISTED PACKAGE-LEVEL VARIABLES READ AS WHEN THE CALL BEGINS. Each datum BY PROGRAM (the guide's laid-datum.mjs) off the statement by which the dump's own 'gosem.cut.vars' lays the variable. In a bare row this is a premise. The card (YtnmpniphpccgjaaGreatDoorCards.lean) ties it to the program's text. -/
def laid_loop_example_handfast_impl_errCheckName {H : Type} : DataW H := .iface "*errors.errorString" (.ptr (.agg [.lit (.string [97, 32, 110, 97, 109, 101, 32, 116, 104, 97, 116, 32, 105, 115, 32, 110, 111, 116, 32, 103, 105, 118, 101, 110, 44, 32, 111, 114, 32, 103, 105, 118, 101, 110, 32, 97, 108, 114, 101, 97, 100, 121])]))
def laid_loop_example_handfast_impl_errCheckType {H : Type} : DataW H := .iface "*errors.errorString" (.ptr (.agg [.lit (.string [97, 32, 116, 121, 112, 101, 32, 116, 104, 97, 116, 32, 100, 111, 101, 115, 32, 110, 111, 116, 32, 102, 105, 116])]))
def laid_loop_example_handfast_impl_errCheckLoan {H : Type} : DataW H := .iface "*errors.errorString" (.ptr (.agg [.lit (.string [119, 104, 97, 116, 32, 105, 115, 32, 108, 101, 110, 116, 32, 104, 97, 115, 32, 101, 110, 100, 101, 100])]))
def laid_loop_example_handfast_impl_errCheckOut {H : Type} : DataW H := .iface "*errors.errorString" (.ptr (.agg [.lit (.string [119, 104, 97, 116, 32, 105, 115, 32, 103, 105, 118, 101, 110, 32, 111, 117, 116, 32, 105, 115, 32, 110, 111, 116, 32, 111, 102, 32, 111, 117, 116, 115, 105, 100, 101])]))
def laid_errors_errorType {H : Type} : DataW H := .iface "internal/reflectlite.rtype" (.agg [.ptr (.lit (.string [101, 114, 114, 111, 114]))])

/-- 'laws.FnLendApart': WHATEVER THE INPUT: true; the input reads as it did. -/
def fnLendApartSpec : ChangeSpec := { name := "fnLendApart", vars := ["loop.example/handfast/impl.errCheckName", "loop.example/handfast/impl.errCheckType", "loop.example/handfast/impl.errCheckLoan", "loop.example/handfast/impl.errCheckOut"], fn := fun _ => fun
  | [d, g1, g2, g3, g4] => { results := [.lit (.bool true)], args := [d], vars := [g1, g2, g3, g4] }
  | _ => none }
def fnLendApartRow : OpenClaim := { program := "ytnmpniphpccgjaagreatdoor", sum := "8f650c4550f32c9a2ab9b2f1afb2989b0d03e79b67ffabacdfe56d61612f4ff8", func := "loop.example/handfast/laws.FnLendApart", spec := "fnLendApart", inPlace := ["maps.clone"], unfollowed := true, recurses := true, named := ["loop.example/handfast/impl.errCheckName", "loop.example/handfast/impl.errCheckType", "loop.example/handfast/impl.errCheckLoan", "loop.example/handfast/impl.errCheckOut"], ifaces := true, apart := false, laid := [("loop.example/handfast/impl.errCheckName", laid_loop_example_handfast_impl_errCheckName), ("loop.example/handfast/impl.errCheckType", laid_loop_example_handfast_impl_errCheckType), ("loop.example/handfast/impl.errCheckLoan", laid_loop_example_handfast_impl_errCheckLoan), ("loop.example/handfast/impl.errCheckOut", laid_loop_example_handfast_impl_errCheckOut)] }
def FnLendApartSaid : Prop := fnLendApartRow.holds Tryz.pinned (OpenSpec.ofChange fnLendApartSpec)

/-- ITS FALSE NEIGHBOUR: 'it returns false'. Refute it at one input. -/
def fnLendApartWrong : ChangeSpec := { name := "fnLendApart", vars := ["loop.example/handfast/impl.errCheckName", "loop.example/handfast/impl.errCheckType", "loop.example/handfast/impl.errCheckLoan", "loop.example/handfast/impl.errCheckOut"], fn := fun _ => fun
  | [d, g1, g2, g3, g4] => { results := [.lit (.bool false)], args := [d], vars := [g1, g2, g3, g4] }
  | _ => none }
def FnLendApartWrongFalsely : Prop := fnLendApartRow.holds Tryz.pinned (OpenSpec.ofChange fnLendApartWrong)

/-- 'laws.FnLendOrder': WHATEVER THE INPUT: true; the input reads as it did. -/
def fnLendOrderSpec : ChangeSpec := { name := "fnLendOrder", vars := ["loop.example/handfast/impl.errCheckName", "loop.example/handfast/impl.errCheckType", "loop.example/handfast/impl.errCheckLoan", "loop.example/handfast/impl.errCheckOut"], fn := fun _ => fun
  | [d, g1, g2, g3, g4] => { results := [.lit (.bool true)], args := [d], vars := [g1, g2, g3, g4] }
  | _ => none }
def fnLendOrderRow : OpenClaim := { program := "ytnmpniphpccgjaagreatdoor", sum := "8f650c4550f32c9a2ab9b2f1afb2989b0d03e79b67ffabacdfe56d61612f4ff8", func := "loop.example/handfast/laws.FnLendOrder", spec := "fnLendOrder", inPlace := ["maps.clone"], unfollowed := true, recurses := true, named := ["loop.example/handfast/impl.errCheckName", "loop.example/handfast/impl.errCheckType", "loop.example/handfast/impl.errCheckLoan", "loop.example/handfast/impl.errCheckOut"], ifaces := true, apart := false, laid := [("loop.example/handfast/impl.errCheckName", laid_loop_example_handfast_impl_errCheckName), ("loop.example/handfast/impl.errCheckType", laid_loop_example_handfast_impl_errCheckType), ("loop.example/handfast/impl.errCheckLoan", laid_loop_example_handfast_impl_errCheckLoan), ("loop.example/handfast/impl.errCheckOut", laid_loop_example_handfast_impl_errCheckOut)] }
def FnLendOrderSaid : Prop := fnLendOrderRow.holds Tryz.pinned (OpenSpec.ofChange fnLendOrderSpec)

/-- ITS FALSE NEIGHBOUR: 'it returns false'. Refute it at one input. -/
def fnLendOrderWrong : ChangeSpec := { name := "fnLendOrder", vars := ["loop.example/handfast/impl.errCheckName", "loop.example/handfast/impl.errCheckType", "loop.example/handfast/impl.errCheckLoan", "loop.example/handfast/impl.errCheckOut"], fn := fun _ => fun
  | [d, g1, g2, g3, g4] => { results := [.lit (.bool false)], args := [d], vars := [g1, g2, g3, g4] }
  | _ => none }
def FnLendOrderWrongFalsely : Prop := fnLendOrderRow.holds Tryz.pinned (OpenSpec.ofChange fnLendOrderWrong)

/-- 'laws.FnLendLive': WHATEVER THE INPUT: true; the input reads as it did. -/
def fnLendLiveSpec : ChangeSpec := { name := "fnLendLive", vars := ["loop.example/handfast/impl.errCheckName", "loop.example/handfast/impl.errCheckType", "loop.example/handfast/impl.errCheckLoan", "loop.example/handfast/impl.errCheckOut"], fn := fun _ => fun
  | [d, g1, g2, g3, g4] => { results := [.lit (.bool true)], args := [d], vars := [g1, g2, g3, g4] }
  | _ => none }
def fnLendLiveRow : OpenClaim := { program := "ytnmpniphpccgjaagreatdoor", sum := "8f650c4550f32c9a2ab9b2f1afb2989b0d03e79b67ffabacdfe56d61612f4ff8", func := "loop.example/handfast/laws.FnLendLive", spec := "fnLendLive", inPlace := ["maps.clone"], unfollowed := true, recurses := true, named := ["loop.example/handfast/impl.errCheckName", "loop.example/handfast/impl.errCheckType", "loop.example/handfast/impl.errCheckLoan", "loop.example/handfast/impl.errCheckOut"], ifaces := true, apart := false, laid := [("loop.example/handfast/impl.errCheckName", laid_loop_example_handfast_impl_errCheckName), ("loop.example/handfast/impl.errCheckType", laid_loop_example_handfast_impl_errCheckType), ("loop.example/handfast/impl.errCheckLoan", laid_loop_example_handfast_impl_errCheckLoan), ("loop.example/handfast/impl.errCheckOut", laid_loop_example_handfast_impl_errCheckOut)] }
def FnLendLiveSaid : Prop := fnLendLiveRow.holds Tryz.pinned (OpenSpec.ofChange fnLendLiveSpec)

/-- ITS FALSE NEIGHBOUR: 'it returns false'. Refute it at one input. -/
def fnLendLiveWrong : ChangeSpec := { name := "fnLendLive", vars := ["loop.example/handfast/impl.errCheckName", "loop.example/handfast/impl.errCheckType", "loop.example/handfast/impl.errCheckLoan", "loop.example/handfast/impl.errCheckOut"], fn := fun _ => fun
  | [d, g1, g2, g3, g4] => { results := [.lit (.bool false)], args := [d], vars := [g1, g2, g3, g4] }
  | _ => none }
def FnLendLiveWrongFalsely : Prop := fnLendLiveRow.holds Tryz.pinned (OpenSpec.ofChange fnLendLiveWrong)

/-- 'laws.FnLendEnds': WHATEVER THE INPUT: true; the input reads as it did. -/
def fnLendEndsSpec : ChangeSpec := { name := "fnLendEnds", vars := ["loop.example/handfast/impl.errCheckName", "loop.example/handfast/impl.errCheckType", "loop.example/handfast/impl.errCheckLoan", "loop.example/handfast/impl.errCheckOut"], fn := fun _ => fun
  | [d, g1, g2, g3, g4] => { results := [.lit (.bool true)], args := [d], vars := [g1, g2, g3, g4] }
  | _ => none }
def fnLendEndsRow : OpenClaim := { program := "ytnmpniphpccgjaagreatdoor", sum := "8f650c4550f32c9a2ab9b2f1afb2989b0d03e79b67ffabacdfe56d61612f4ff8", func := "loop.example/handfast/laws.FnLendEnds", spec := "fnLendEnds", inPlace := ["maps.clone"], unfollowed := true, recurses := true, named := ["loop.example/handfast/impl.errCheckName", "loop.example/handfast/impl.errCheckType", "loop.example/handfast/impl.errCheckLoan", "loop.example/handfast/impl.errCheckOut"], ifaces := true, apart := false, laid := [("loop.example/handfast/impl.errCheckName", laid_loop_example_handfast_impl_errCheckName), ("loop.example/handfast/impl.errCheckType", laid_loop_example_handfast_impl_errCheckType), ("loop.example/handfast/impl.errCheckLoan", laid_loop_example_handfast_impl_errCheckLoan), ("loop.example/handfast/impl.errCheckOut", laid_loop_example_handfast_impl_errCheckOut)] }
def FnLendEndsSaid : Prop := fnLendEndsRow.holds Tryz.pinned (OpenSpec.ofChange fnLendEndsSpec)

/-- ITS FALSE NEIGHBOUR: 'it returns false'. Refute it at one input. -/
def fnLendEndsWrong : ChangeSpec := { name := "fnLendEnds", vars := ["loop.example/handfast/impl.errCheckName", "loop.example/handfast/impl.errCheckType", "loop.example/handfast/impl.errCheckLoan", "loop.example/handfast/impl.errCheckOut"], fn := fun _ => fun
  | [d, g1, g2, g3, g4] => { results := [.lit (.bool false)], args := [d], vars := [g1, g2, g3, g4] }
  | _ => none }
def FnLendEndsWrongFalsely : Prop := fnLendEndsRow.holds Tryz.pinned (OpenSpec.ofChange fnLendEndsWrong)

/-- 'laws.FnLendOver': WHATEVER THE INPUT: true; the input reads as it did. -/
def fnLendOverSpec : ChangeSpec := { name := "fnLendOver", vars := ["loop.example/handfast/impl.errCheckName", "loop.example/handfast/impl.errCheckType", "loop.example/handfast/impl.errCheckLoan", "loop.example/handfast/impl.errCheckOut"], fn := fun _ => fun
  | [d, g1, g2, g3, g4] => { results := [.lit (.bool true)], args := [d], vars := [g1, g2, g3, g4] }
  | _ => none }
def fnLendOverRow : OpenClaim := { program := "ytnmpniphpccgjaagreatdoor", sum := "8f650c4550f32c9a2ab9b2f1afb2989b0d03e79b67ffabacdfe56d61612f4ff8", func := "loop.example/handfast/laws.FnLendOver", spec := "fnLendOver", inPlace := ["maps.clone"], unfollowed := true, recurses := true, named := ["loop.example/handfast/impl.errCheckName", "loop.example/handfast/impl.errCheckType", "loop.example/handfast/impl.errCheckLoan", "loop.example/handfast/impl.errCheckOut"], ifaces := true, apart := false, laid := [("loop.example/handfast/impl.errCheckName", laid_loop_example_handfast_impl_errCheckName), ("loop.example/handfast/impl.errCheckType", laid_loop_example_handfast_impl_errCheckType), ("loop.example/handfast/impl.errCheckLoan", laid_loop_example_handfast_impl_errCheckLoan), ("loop.example/handfast/impl.errCheckOut", laid_loop_example_handfast_impl_errCheckOut)] }
def FnLendOverSaid : Prop := fnLendOverRow.holds Tryz.pinned (OpenSpec.ofChange fnLendOverSpec)

/-- ITS FALSE NEIGHBOUR: 'it returns false'. Refute it at one input. -/
def fnLendOverWrong : ChangeSpec := { name := "fnLendOver", vars := ["loop.example/handfast/impl.errCheckName", "loop.example/handfast/impl.errCheckType", "loop.example/handfast/impl.errCheckLoan", "loop.example/handfast/impl.errCheckOut"], fn := fun _ => fun
  | [d, g1, g2, g3, g4] => { results := [.lit (.bool false)], args := [d], vars := [g1, g2, g3, g4] }
  | _ => none }
def FnLendOverWrongFalsely : Prop := fnLendOverRow.holds Tryz.pinned (OpenSpec.ofChange fnLendOverWrong)

/-- 'laws.FnLendParam': WHATEVER THE INPUT: true; the input reads as it did. -/
def fnLendParamSpec : ChangeSpec := { name := "fnLendParam", vars := ["loop.example/handfast/impl.errCheckName", "loop.example/handfast/impl.errCheckType", "loop.example/handfast/impl.errCheckLoan", "loop.example/handfast/impl.errCheckOut"], fn := fun _ => fun
  | [d, g1, g2, g3, g4] => { results := [.lit (.bool true)], args := [d], vars := [g1, g2, g3, g4] }
  | _ => none }
def fnLendParamRow : OpenClaim := { program := "ytnmpniphpccgjaagreatdoor", sum := "8f650c4550f32c9a2ab9b2f1afb2989b0d03e79b67ffabacdfe56d61612f4ff8", func := "loop.example/handfast/laws.FnLendParam", spec := "fnLendParam", inPlace := ["maps.clone", "internal/reflectlite.ValueOf", "(internal/reflectlite.Value).Type", "(internal/reflectlite.Value).IsNil", "internal/reflectlite.TypeOf", "(internal/reflectlite.Value).Elem", "(internal/reflectlite.Value).Set"], unfollowed := true, recurses := true, named := ["loop.example/handfast/impl.errCheckName", "loop.example/handfast/impl.errCheckType", "loop.example/handfast/impl.errCheckLoan", "loop.example/handfast/impl.errCheckOut", "errors.errorType"], ifaces := true, apart := false, laid := [("errors.errorType", laid_errors_errorType), ("loop.example/handfast/impl.errCheckName", laid_loop_example_handfast_impl_errCheckName), ("loop.example/handfast/impl.errCheckType", laid_loop_example_handfast_impl_errCheckType), ("loop.example/handfast/impl.errCheckLoan", laid_loop_example_handfast_impl_errCheckLoan), ("loop.example/handfast/impl.errCheckOut", laid_loop_example_handfast_impl_errCheckOut)] }
def FnLendParamSaid : Prop := fnLendParamRow.holds Tryz.pinned (OpenSpec.ofChange fnLendParamSpec)

/-- ITS FALSE NEIGHBOUR: 'it returns false'. Refute it at one input. -/
def fnLendParamWrong : ChangeSpec := { name := "fnLendParam", vars := ["loop.example/handfast/impl.errCheckName", "loop.example/handfast/impl.errCheckType", "loop.example/handfast/impl.errCheckLoan", "loop.example/handfast/impl.errCheckOut"], fn := fun _ => fun
  | [d, g1, g2, g3, g4] => { results := [.lit (.bool false)], args := [d], vars := [g1, g2, g3, g4] }
  | _ => none }
def FnLendParamWrongFalsely : Prop := fnLendParamRow.holds Tryz.pinned (OpenSpec.ofChange fnLendParamWrong)

/-- 'laws.FnLendNew': WHATEVER THE INPUT: true; the input reads as it did. -/
def fnLendNewSpec : ChangeSpec := { name := "fnLendNew", vars := ["loop.example/handfast/impl.errCheckName", "loop.example/handfast/impl.errCheckType", "loop.example/handfast/impl.errCheckLoan", "loop.example/handfast/impl.errCheckOut"], fn := fun _ => fun
  | [d, g1, g2, g3, g4] => { results := [.lit (.bool true)], args := [d], vars := [g1, g2, g3, g4] }
  | _ => none }
def fnLendNewRow : OpenClaim := { program := "ytnmpniphpccgjaagreatdoor", sum := "8f650c4550f32c9a2ab9b2f1afb2989b0d03e79b67ffabacdfe56d61612f4ff8", func := "loop.example/handfast/laws.FnLendNew", spec := "fnLendNew", inPlace := ["maps.clone", "internal/reflectlite.ValueOf", "(internal/reflectlite.Value).Type", "(internal/reflectlite.Value).IsNil", "internal/reflectlite.TypeOf", "(internal/reflectlite.Value).Elem", "(internal/reflectlite.Value).Set"], unfollowed := true, recurses := true, named := ["loop.example/handfast/impl.errCheckName", "loop.example/handfast/impl.errCheckType", "loop.example/handfast/impl.errCheckLoan", "loop.example/handfast/impl.errCheckOut", "errors.errorType"], ifaces := true, apart := false, laid := [("errors.errorType", laid_errors_errorType), ("loop.example/handfast/impl.errCheckName", laid_loop_example_handfast_impl_errCheckName), ("loop.example/handfast/impl.errCheckType", laid_loop_example_handfast_impl_errCheckType), ("loop.example/handfast/impl.errCheckLoan", laid_loop_example_handfast_impl_errCheckLoan), ("loop.example/handfast/impl.errCheckOut", laid_loop_example_handfast_impl_errCheckOut)] }
def FnLendNewSaid : Prop := fnLendNewRow.holds Tryz.pinned (OpenSpec.ofChange fnLendNewSpec)

/-- ITS FALSE NEIGHBOUR: 'it returns false'. Refute it at one input. -/
def fnLendNewWrong : ChangeSpec := { name := "fnLendNew", vars := ["loop.example/handfast/impl.errCheckName", "loop.example/handfast/impl.errCheckType", "loop.example/handfast/impl.errCheckLoan", "loop.example/handfast/impl.errCheckOut"], fn := fun _ => fun
  | [d, g1, g2, g3, g4] => { results := [.lit (.bool false)], args := [d], vars := [g1, g2, g3, g4] }
  | _ => none }
def FnLendNewWrongFalsely : Prop := fnLendNewRow.holds Tryz.pinned (OpenSpec.ofChange fnLendNewWrong)

/-- 'laws.FnLendUsed': WHATEVER THE INPUT: true; the input reads as it did. -/
def fnLendUsedSpec : ChangeSpec := { name := "fnLendUsed", vars := ["loop.example/handfast/impl.errCheckName", "loop.example/handfast/impl.errCheckType", "loop.example/handfast/impl.errCheckLoan", "loop.example/handfast/impl.errCheckOut"], fn := fun _ => fun
  | [d, g1, g2, g3, g4] => { results := [.lit (.bool true)], args := [d], vars := [g1, g2, g3, g4] }
  | _ => none }
def fnLendUsedRow : OpenClaim := { program := "ytnmpniphpccgjaagreatdoor", sum := "8f650c4550f32c9a2ab9b2f1afb2989b0d03e79b67ffabacdfe56d61612f4ff8", func := "loop.example/handfast/laws.FnLendUsed", spec := "fnLendUsed", inPlace := ["maps.clone", "internal/reflectlite.ValueOf", "(internal/reflectlite.Value).Type", "(internal/reflectlite.Value).IsNil", "internal/reflectlite.TypeOf", "(internal/reflectlite.Value).Elem", "(internal/reflectlite.Value).Set"], unfollowed := true, recurses := true, named := ["loop.example/handfast/impl.errCheckName", "loop.example/handfast/impl.errCheckType", "loop.example/handfast/impl.errCheckLoan", "loop.example/handfast/impl.errCheckOut", "errors.errorType"], ifaces := true, apart := false, laid := [("errors.errorType", laid_errors_errorType), ("loop.example/handfast/impl.errCheckName", laid_loop_example_handfast_impl_errCheckName), ("loop.example/handfast/impl.errCheckType", laid_loop_example_handfast_impl_errCheckType), ("loop.example/handfast/impl.errCheckLoan", laid_loop_example_handfast_impl_errCheckLoan), ("loop.example/handfast/impl.errCheckOut", laid_loop_example_handfast_impl_errCheckOut)] }
def FnLendUsedSaid : Prop := fnLendUsedRow.holds Tryz.pinned (OpenSpec.ofChange fnLendUsedSpec)

/-- ITS FALSE NEIGHBOUR: 'it returns false'. Refute it at one input. -/
def fnLendUsedWrong : ChangeSpec := { name := "fnLendUsed", vars := ["loop.example/handfast/impl.errCheckName", "loop.example/handfast/impl.errCheckType", "loop.example/handfast/impl.errCheckLoan", "loop.example/handfast/impl.errCheckOut"], fn := fun _ => fun
  | [d, g1, g2, g3, g4] => { results := [.lit (.bool false)], args := [d], vars := [g1, g2, g3, g4] }
  | _ => none }
def FnLendUsedWrongFalsely : Prop := fnLendUsedRow.holds Tryz.pinned (OpenSpec.ofChange fnLendUsedWrong)

/- THE SECOND FORM. 'bulk': how many values and letters a reading holds, each counted each time it is reached (what is shared counts as often as it is met; a slice's spare places count too). A statement '..UptoSaid' is the law's where the arguments, and the package variables that the reading takes, are together of bulk at most 1048576: NARROWER than '..Said'. Prove '..Said' where nothing that the law and all that it calls make is longer than what came in: it says more and counts as full. Else prove '..UptoSaid'. A law counts once. -/
mutual
def uptoBulk {H : Type} : DataW H → Nat
  | .lit (.string bytes) => bytes.length + 1
  | .lit _ => 1
  | .nil => 1
  | .ptr d => uptoBulk d + 1
  | .slice elems spare => uptoBulkAll elems + uptoBulkAll spare + 1
  | .agg parts => uptoBulkAll parts + 1
  | .iface _ d => uptoBulk d + 1
  | .map entries => uptoBulkEntries entries + 1
  | .held _ => 1
def uptoBulkAll {H : Type} : List (DataW H) → Nat
  | [] => 0
  | d :: r => uptoBulk d + uptoBulkAll r
def uptoBulkEntries {H : Type} : List (Lit × DataW H) → Nat
  | [] => 0
  | x :: r => uptoBulkEntry x + uptoBulkEntries r
def uptoBulkEntry {H : Type} : Lit × DataW H → Nat
  | (.string bytes, d) => bytes.length + uptoBulk d + 1
  | (_, d) => uptoBulk d + 1
 end
def uptoSmall : (H : Type) → List (DataW H) → Bool := fun _ ds => decide (uptoBulkAll ds ≤ 1048576)
def OpenSpec.upto (s : _root_.Go.ChangeSpec) : _root_.Go.OpenSpec := { _root_.Go.OpenSpec.ofChange s with cond := some uptoSmall }

/-- 'laws.FnLendApart', WHERE WHAT IT READS IS OF BULK AT MOST 1048576: true; the input reads as it did. -/
def fnLendApartUptoRow : OpenClaim := { program := "ytnmpniphpccgjaagreatdoor", sum := "8f650c4550f32c9a2ab9b2f1afb2989b0d03e79b67ffabacdfe56d61612f4ff8", func := "loop.example/handfast/laws.FnLendApart", spec := "fnLendApart", inPlace := ["maps.clone"], unfollowed := true, recurses := true, named := ["loop.example/handfast/impl.errCheckName", "loop.example/handfast/impl.errCheckType", "loop.example/handfast/impl.errCheckLoan", "loop.example/handfast/impl.errCheckOut"], ifaces := true, apart := false, laid := [("loop.example/handfast/impl.errCheckName", laid_loop_example_handfast_impl_errCheckName), ("loop.example/handfast/impl.errCheckType", laid_loop_example_handfast_impl_errCheckType), ("loop.example/handfast/impl.errCheckLoan", laid_loop_example_handfast_impl_errCheckLoan), ("loop.example/handfast/impl.errCheckOut", laid_loop_example_handfast_impl_errCheckOut)], narrowed := true }
def FnLendApartUptoSaid : Prop := fnLendApartUptoRow.holds Tryz.pinned (OpenSpec.upto fnLendApartSpec)

/-- 'laws.FnLendOrder', WHERE WHAT IT READS IS OF BULK AT MOST 1048576: true; the input reads as it did. -/
def fnLendOrderUptoRow : OpenClaim := { program := "ytnmpniphpccgjaagreatdoor", sum := "8f650c4550f32c9a2ab9b2f1afb2989b0d03e79b67ffabacdfe56d61612f4ff8", func := "loop.example/handfast/laws.FnLendOrder", spec := "fnLendOrder", inPlace := ["maps.clone"], unfollowed := true, recurses := true, named := ["loop.example/handfast/impl.errCheckName", "loop.example/handfast/impl.errCheckType", "loop.example/handfast/impl.errCheckLoan", "loop.example/handfast/impl.errCheckOut"], ifaces := true, apart := false, laid := [("loop.example/handfast/impl.errCheckName", laid_loop_example_handfast_impl_errCheckName), ("loop.example/handfast/impl.errCheckType", laid_loop_example_handfast_impl_errCheckType), ("loop.example/handfast/impl.errCheckLoan", laid_loop_example_handfast_impl_errCheckLoan), ("loop.example/handfast/impl.errCheckOut", laid_loop_example_handfast_impl_errCheckOut)], narrowed := true }
def FnLendOrderUptoSaid : Prop := fnLendOrderUptoRow.holds Tryz.pinned (OpenSpec.upto fnLendOrderSpec)

/-- 'laws.FnLendLive', WHERE WHAT IT READS IS OF BULK AT MOST 1048576: true; the input reads as it did. -/
def fnLendLiveUptoRow : OpenClaim := { program := "ytnmpniphpccgjaagreatdoor", sum := "8f650c4550f32c9a2ab9b2f1afb2989b0d03e79b67ffabacdfe56d61612f4ff8", func := "loop.example/handfast/laws.FnLendLive", spec := "fnLendLive", inPlace := ["maps.clone"], unfollowed := true, recurses := true, named := ["loop.example/handfast/impl.errCheckName", "loop.example/handfast/impl.errCheckType", "loop.example/handfast/impl.errCheckLoan", "loop.example/handfast/impl.errCheckOut"], ifaces := true, apart := false, laid := [("loop.example/handfast/impl.errCheckName", laid_loop_example_handfast_impl_errCheckName), ("loop.example/handfast/impl.errCheckType", laid_loop_example_handfast_impl_errCheckType), ("loop.example/handfast/impl.errCheckLoan", laid_loop_example_handfast_impl_errCheckLoan), ("loop.example/handfast/impl.errCheckOut", laid_loop_example_handfast_impl_errCheckOut)], narrowed := true }
def FnLendLiveUptoSaid : Prop := fnLendLiveUptoRow.holds Tryz.pinned (OpenSpec.upto fnLendLiveSpec)

/-- 'laws.FnLendEnds', WHERE WHAT IT READS IS OF BULK AT MOST 1048576: true; the input reads as it did. -/
def fnLendEndsUptoRow : OpenClaim := { program := "ytnmpniphpccgjaagreatdoor", sum := "8f650c4550f32c9a2ab9b2f1afb2989b0d03e79b67ffabacdfe56d61612f4ff8", func := "loop.example/handfast/laws.FnLendEnds", spec := "fnLendEnds", inPlace := ["maps.clone"], unfollowed := true, recurses := true, named := ["loop.example/handfast/impl.errCheckName", "loop.example/handfast/impl.errCheckType", "loop.example/handfast/impl.errCheckLoan", "loop.example/handfast/impl.errCheckOut"], ifaces := true, apart := false, laid := [("loop.example/handfast/impl.errCheckName", laid_loop_example_handfast_impl_errCheckName), ("loop.example/handfast/impl.errCheckType", laid_loop_example_handfast_impl_errCheckType), ("loop.example/handfast/impl.errCheckLoan", laid_loop_example_handfast_impl_errCheckLoan), ("loop.example/handfast/impl.errCheckOut", laid_loop_example_handfast_impl_errCheckOut)], narrowed := true }
def FnLendEndsUptoSaid : Prop := fnLendEndsUptoRow.holds Tryz.pinned (OpenSpec.upto fnLendEndsSpec)

/-- 'laws.FnLendOver', WHERE WHAT IT READS IS OF BULK AT MOST 1048576: true; the input reads as it did. -/
def fnLendOverUptoRow : OpenClaim := { program := "ytnmpniphpccgjaagreatdoor", sum := "8f650c4550f32c9a2ab9b2f1afb2989b0d03e79b67ffabacdfe56d61612f4ff8", func := "loop.example/handfast/laws.FnLendOver", spec := "fnLendOver", inPlace := ["maps.clone"], unfollowed := true, recurses := true, named := ["loop.example/handfast/impl.errCheckName", "loop.example/handfast/impl.errCheckType", "loop.example/handfast/impl.errCheckLoan", "loop.example/handfast/impl.errCheckOut"], ifaces := true, apart := false, laid := [("loop.example/handfast/impl.errCheckName", laid_loop_example_handfast_impl_errCheckName), ("loop.example/handfast/impl.errCheckType", laid_loop_example_handfast_impl_errCheckType), ("loop.example/handfast/impl.errCheckLoan", laid_loop_example_handfast_impl_errCheckLoan), ("loop.example/handfast/impl.errCheckOut", laid_loop_example_handfast_impl_errCheckOut)], narrowed := true }
def FnLendOverUptoSaid : Prop := fnLendOverUptoRow.holds Tryz.pinned (OpenSpec.upto fnLendOverSpec)

/-- 'laws.FnLendParam', WHERE WHAT IT READS IS OF BULK AT MOST 1048576: true; the input reads as it did. -/
def fnLendParamUptoRow : OpenClaim := { program := "ytnmpniphpccgjaagreatdoor", sum := "8f650c4550f32c9a2ab9b2f1afb2989b0d03e79b67ffabacdfe56d61612f4ff8", func := "loop.example/handfast/laws.FnLendParam", spec := "fnLendParam", inPlace := ["maps.clone", "internal/reflectlite.ValueOf", "(internal/reflectlite.Value).Type", "(internal/reflectlite.Value).IsNil", "internal/reflectlite.TypeOf", "(internal/reflectlite.Value).Elem", "(internal/reflectlite.Value).Set"], unfollowed := true, recurses := true, named := ["loop.example/handfast/impl.errCheckName", "loop.example/handfast/impl.errCheckType", "loop.example/handfast/impl.errCheckLoan", "loop.example/handfast/impl.errCheckOut", "errors.errorType"], ifaces := true, apart := false, laid := [("errors.errorType", laid_errors_errorType), ("loop.example/handfast/impl.errCheckName", laid_loop_example_handfast_impl_errCheckName), ("loop.example/handfast/impl.errCheckType", laid_loop_example_handfast_impl_errCheckType), ("loop.example/handfast/impl.errCheckLoan", laid_loop_example_handfast_impl_errCheckLoan), ("loop.example/handfast/impl.errCheckOut", laid_loop_example_handfast_impl_errCheckOut)], narrowed := true }
def FnLendParamUptoSaid : Prop := fnLendParamUptoRow.holds Tryz.pinned (OpenSpec.upto fnLendParamSpec)

/-- 'laws.FnLendNew', WHERE WHAT IT READS IS OF BULK AT MOST 1048576: true; the input reads as it did. -/
def fnLendNewUptoRow : OpenClaim := { program := "ytnmpniphpccgjaagreatdoor", sum := "8f650c4550f32c9a2ab9b2f1afb2989b0d03e79b67ffabacdfe56d61612f4ff8", func := "loop.example/handfast/laws.FnLendNew", spec := "fnLendNew", inPlace := ["maps.clone", "internal/reflectlite.ValueOf", "(internal/reflectlite.Value).Type", "(internal/reflectlite.Value).IsNil", "internal/reflectlite.TypeOf", "(internal/reflectlite.Value).Elem", "(internal/reflectlite.Value).Set"], unfollowed := true, recurses := true, named := ["loop.example/handfast/impl.errCheckName", "loop.example/handfast/impl.errCheckType", "loop.example/handfast/impl.errCheckLoan", "loop.example/handfast/impl.errCheckOut", "errors.errorType"], ifaces := true, apart := false, laid := [("errors.errorType", laid_errors_errorType), ("loop.example/handfast/impl.errCheckName", laid_loop_example_handfast_impl_errCheckName), ("loop.example/handfast/impl.errCheckType", laid_loop_example_handfast_impl_errCheckType), ("loop.example/handfast/impl.errCheckLoan", laid_loop_example_handfast_impl_errCheckLoan), ("loop.example/handfast/impl.errCheckOut", laid_loop_example_handfast_impl_errCheckOut)], narrowed := true }
def FnLendNewUptoSaid : Prop := fnLendNewUptoRow.holds Tryz.pinned (OpenSpec.upto fnLendNewSpec)

/-- 'laws.FnLendUsed', WHERE WHAT IT READS IS OF BULK AT MOST 1048576: true; the input reads as it did. -/
def fnLendUsedUptoRow : OpenClaim := { program := "ytnmpniphpccgjaagreatdoor", sum := "8f650c4550f32c9a2ab9b2f1afb2989b0d03e79b67ffabacdfe56d61612f4ff8", func := "loop.example/handfast/laws.FnLendUsed", spec := "fnLendUsed", inPlace := ["maps.clone", "internal/reflectlite.ValueOf", "(internal/reflectlite.Value).Type", "(internal/reflectlite.Value).IsNil", "internal/reflectlite.TypeOf", "(internal/reflectlite.Value).Elem", "(internal/reflectlite.Value).Set"], unfollowed := true, recurses := true, named := ["loop.example/handfast/impl.errCheckName", "loop.example/handfast/impl.errCheckType", "loop.example/handfast/impl.errCheckLoan", "loop.example/handfast/impl.errCheckOut", "errors.errorType"], ifaces := true, apart := false, laid := [("errors.errorType", laid_errors_errorType), ("loop.example/handfast/impl.errCheckName", laid_loop_example_handfast_impl_errCheckName), ("loop.example/handfast/impl.errCheckType", laid_loop_example_handfast_impl_errCheckType), ("loop.example/handfast/impl.errCheckLoan", laid_loop_example_handfast_impl_errCheckLoan), ("loop.example/handfast/impl.errCheckOut", laid_loop_example_handfast_impl_errCheckOut)], narrowed := true }
def FnLendUsedUptoSaid : Prop := fnLendUsedUptoRow.holds Tryz.pinned (OpenSpec.upto fnLendUsedSpec)

end Rows
end Go.Proofs.YtnmpniphpccgjaaGreatDoor
