/-
  NARROWER THAN 'FOR EVERY INPUT', by the rows' own cells (each row's printed sentence says how): FnCheckLive: ifaces, laid.
  DERIVED. THE GIVEN ROWS OF THIS SEAT. 1 by the template 'for every input the law returns true; each argument reads behind the call as it read before'; 0 by the template 'total and deterministic' (their statements: YtemecjmcicmnbaaGreatDoorTotals.lean).
  GIVEN WITH THE SEED: the statements are not yours to turn. If you find one false, say at which input.
  Laid BY PROGRAM, IN A SANDBOX (cutbox-rows.mjs): the forced cells as the released guide's own fill.sh prints them over the translation ec043048e83d6bc4… (all of the seat's roots in one cut). By AI agents, Wed Nov 11 2026. No macro, syntax, notation, axiom, sorry.
-/
import Derived.Test.YtemecjmcicmnbaaGreatDoorChecked
import GoSem.Claim
import GoSem.ClaimJoined
import GoSem.ClaimMapViews
import Derived.JoinedTies
import Derived.KernelRfl
namespace Go.Proofs.YtemecjmcicmnbaaGreatDoor
/- THE CELL 'sum', in the pinned program and in every row, IS THE sha256 OF THE DUMP (.gsa) THAT YtemecjmcicmnbaaGreatDoorProg.lean LOADS. Nothing in Lean hashes anything: it is a label: what it is worth is what the hold of that sum in a sandbox is worth. -/
noncomputable def Tryz.pinned : Pinned := { name := "ytemecjmcicmnbaagreatdoor", sum := "ec043048e83d6bc4e844f46b8f005a02ae1c567416ef746d81c5a7d3620cf5be", checked := Tryz.checked }
namespace Rows
def none {H : Type} : Left H := { results := [], args := [] }

/- WHAT THE LISTED PACKAGE-LEVEL VARIABLES READ AS WHEN THE CALL BEGINS. Each datum BY PROGRAM (the guide's laid-datum.mjs) off the statement by which the dump's own 'gosem.cut.vars' lays the variable. In a bare row this is a premise. The card (YtemecjmcicmnbaaGreatDoorCards.lean) ties it to the program's text. -/
def laid_loop_example_handfast_impl_errCheckName {H : Type} : DataW H := .iface "*errors.errorString" (.ptr (.agg [.lit (.string [97, 32, 110, 97, 109, 101, 32, 116, 104, 97, 116, 32, 105, 115, 32, 110, 111, 116, 32, 103, 105, 118, 101, 110, 44, 32, 111, 114, 32, 103, 105, 118, 101, 110, 32, 97, 108, 114, 101, 97, 100, 121])]))
def laid_loop_example_handfast_impl_errCheckType {H : Type} : DataW H := .iface "*errors.errorString" (.ptr (.agg [.lit (.string [97, 32, 116, 121, 112, 101, 32, 116, 104, 97, 116, 32, 100, 111, 101, 115, 32, 110, 111, 116, 32, 102, 105, 116])]))
def laid_loop_example_handfast_impl_errCheckLoan {H : Type} : DataW H := .iface "*errors.errorString" (.ptr (.agg [.lit (.string [119, 104, 97, 116, 32, 105, 115, 32, 108, 101, 110, 116, 32, 104, 97, 115, 32, 101, 110, 100, 101, 100])]))
def laid_loop_example_handfast_impl_errCheckOut {H : Type} : DataW H := .iface "*errors.errorString" (.ptr (.agg [.lit (.string [119, 104, 97, 116, 32, 105, 115, 32, 103, 105, 118, 101, 110, 32, 111, 117, 116, 32, 105, 115, 32, 110, 111, 116, 32, 111, 102, 32, 111, 117, 116, 115, 105, 100, 101])]))

/-- 'laws.FnCheckLive': WHATEVER THE INPUT: true; the input reads as it did. -/
def fnCheckLiveSpec : ChangeSpec := { name := "fnCheckLive", vars := ["loop.example/handfast/impl.errCheckName", "loop.example/handfast/impl.errCheckType", "loop.example/handfast/impl.errCheckLoan", "loop.example/handfast/impl.errCheckOut"], fn := fun _ => fun
  | [d, g1, g2, g3, g4] => { results := [.lit (.bool true)], args := [d], vars := [g1, g2, g3, g4] }
  | _ => none }
def fnCheckLiveRow : OpenClaim := { program := "ytemecjmcicmnbaagreatdoor", sum := "ec043048e83d6bc4e844f46b8f005a02ae1c567416ef746d81c5a7d3620cf5be", func := "loop.example/handfast/laws.FnCheckLive", spec := "fnCheckLive", inPlace := ["maps.clone"], unfollowed := true, recurses := true, named := ["loop.example/handfast/impl.errCheckName", "loop.example/handfast/impl.errCheckType", "loop.example/handfast/impl.errCheckLoan", "loop.example/handfast/impl.errCheckOut"], ifaces := true, apart := false, laid := [("loop.example/handfast/impl.errCheckName", laid_loop_example_handfast_impl_errCheckName), ("loop.example/handfast/impl.errCheckType", laid_loop_example_handfast_impl_errCheckType), ("loop.example/handfast/impl.errCheckLoan", laid_loop_example_handfast_impl_errCheckLoan), ("loop.example/handfast/impl.errCheckOut", laid_loop_example_handfast_impl_errCheckOut)] }
def FnCheckLiveSaid : Prop := fnCheckLiveRow.holds Tryz.pinned (OpenSpec.ofChange fnCheckLiveSpec)

/-- ITS FALSE NEIGHBOUR: 'it returns false'. Refute it at one input. -/
def fnCheckLiveWrong : ChangeSpec := { name := "fnCheckLive", vars := ["loop.example/handfast/impl.errCheckName", "loop.example/handfast/impl.errCheckType", "loop.example/handfast/impl.errCheckLoan", "loop.example/handfast/impl.errCheckOut"], fn := fun _ => fun
  | [d, g1, g2, g3, g4] => { results := [.lit (.bool false)], args := [d], vars := [g1, g2, g3, g4] }
  | _ => none }
def FnCheckLiveWrongFalsely : Prop := fnCheckLiveRow.holds Tryz.pinned (OpenSpec.ofChange fnCheckLiveWrong)

/- THE SECOND FORM. 'bulk': how many values and letters a reading holds, each counted each time it is reached (what is shared counts as often as it is met; a slice's spare places count too). A statement '..UptoSaid' is the law's where the arguments, and the package variables that the reading takes, are together of bulk at most 1048576: NARROWER than '..Said'. Prove '..Said' where nothing that the law and all that it calls make is longer than what came in: it says more and counts as full. Else prove '..UptoSaid'. A law counts once. -/
mutual
def uptoBulk {H : Type} : DataW H → Nat
  | .lit (.string bytes) => bytes.length + 1
  | .lit _ => 1
  | .nil => 1
  | .ptr d => uptoBulk d + 1
  | .slice elems spare => uptoBulkAll elems + uptoBulkAll spare + 1
  | .agg parts => uptoBulkAll parts + 1
  | .iface _ d => uptoBulk d + 1
  | .map entries => uptoBulkEntries entries + 1
  | .held _ => 1
def uptoBulkAll {H : Type} : List (DataW H) → Nat
  | [] => 0
  | d :: r => uptoBulk d + uptoBulkAll r
def uptoBulkEntries {H : Type} : List (Lit × DataW H) → Nat
  | [] => 0
  | x :: r => uptoBulkEntry x + uptoBulkEntries r
def uptoBulkEntry {H : Type} : Lit × DataW H → Nat
  | (.string bytes, d) => bytes.length + uptoBulk d + 1
  | (_, d) => uptoBulk d + 1
 end
def uptoSmall : (H : Type) → List (DataW H) → Bool := fun _ ds => decide (uptoBulkAll ds ≤ 1048576)
def OpenSpec.upto (s : _root_.Go.ChangeSpec) : _root_.Go.OpenSpec := { _root_.Go.OpenSpec.ofChange s with cond := some uptoSmall }

/-- 'laws.FnCheckLive', WHERE WHAT IT READS IS OF BULK AT MOST 1048576: true; the input reads as it did. -/
def fnCheckLiveUptoRow : OpenClaim := { program := "ytemecjmcicmnbaagreatdoor", sum := "ec043048e83d6bc4e844f46b8f005a02ae1c567416ef746d81c5a7d3620cf5be", func := "loop.example/handfast/laws.FnCheckLive", spec := "fnCheckLive", inPlace := ["maps.clone"], unfollowed := true, recurses := true, named := ["loop.example/handfast/impl.errCheckName", "loop.example/handfast/impl.errCheckType", "loop.example/handfast/impl.errCheckLoan", "loop.example/handfast/impl.errCheckOut"], ifaces := true, apart := false, laid := [("loop.example/handfast/impl.errCheckName", laid_loop_example_handfast_impl_errCheckName), ("loop.example/handfast/impl.errCheckType", laid_loop_example_handfast_impl_errCheckType), ("loop.example/handfast/impl.errCheckLoan", laid_loop_example_handfast_impl_errCheckLoan), ("loop.example/handfast/impl.errCheckOut", laid_loop_example_handfast_impl_errCheckOut)], narrowed := true }
def FnCheckLiveUptoSaid : Prop := fnCheckLiveUptoRow.holds Tryz.pinned (OpenSpec.upto fnCheckLiveSpec)

end Rows
end Go.Proofs.YtemecjmcicmnbaaGreatDoor
