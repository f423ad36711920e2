/-
  DERIVED. GIVEN WITH THE SEED: THE PROGRAM's TIES (one call each: nine closed facts by the kernel) AND EACH ROW's TIE, after the 31st guide's Derived/Test/Toyas{Tie, Card}.lean. No idea stands in it: it is a product of the set-up. Laid BY PROGRAM, IN A SANDBOX (cutbox-door.mjs). By AI agents, Wed Nov 11 2026. No macro, syntax, notation, axiom, sorry.
-/
import Derived.Test.YtghekniakencpaaGreatDoorRows
import Derived.LaidByTextLater
import Derived.SevenTiedAt
import Derived.LaidSub
import Derived.LaidOnce
namespace Go.Proofs.YtghekniakencpaaGreatDoor
open Go
set_option maxRecDepth 100000
theorem seatTie1 : Tryz.prog.laidByTextLater [("math/bits.deBruijn32tab", Rows.laid_math_bits_deBruijn32tab), ("math/bits.deBruijn64tab", Rows.laid_math_bits_deBruijn64tab), ("internal/strconv.uint64pow10", Rows.laid_internal_strconv_uint64pow10), ("errors.errorType", Rows.laid_errors_errorType), ("loop.example/handfast/impl.errPureFail", Rows.laid_loop_example_handfast_impl_errPureFail), ("loop.example/handfast/impl.errCheckName", Rows.laid_loop_example_handfast_impl_errCheckName), ("loop.example/handfast/impl.errCheckType", Rows.laid_loop_example_handfast_impl_errCheckType), ("loop.example/handfast/impl.errCheckLoan", Rows.laid_loop_example_handfast_impl_errCheckLoan), ("loop.example/handfast/impl.errCheckOut", Rows.laid_loop_example_handfast_impl_errCheckOut)] [.data, .data, .data, .handle, .sentinel, .sentinel, .sentinel, .sentinel, .sentinel] true :=
  Program.laidByTextLater_by_one 126 8 65 (by kernel_rfl) (by kernel_rfl) (by kernel_rfl) (by kernel_rfl) (by kernel_rfl) (by kernel_rfl) (fun _ _ => by kernel_rfl)
theorem noOwnUnsafe : Tryz.pinned.checked.prog.headLifts.contains "ownunsafe" = false := by kernel_rfl
theorem tie : Tryz.prog.laidByTextLater [("errors.errorType", Rows.laid_errors_errorType), ("loop.example/handfast/impl.errCheckName", Rows.laid_loop_example_handfast_impl_errCheckName), ("loop.example/handfast/impl.errCheckType", Rows.laid_loop_example_handfast_impl_errCheckType), ("loop.example/handfast/impl.errCheckLoan", Rows.laid_loop_example_handfast_impl_errCheckLoan), ("loop.example/handfast/impl.errCheckOut", Rows.laid_loop_example_handfast_impl_errCheckOut)] [.handle, .sentinel, .sentinel, .sentinel, .sentinel] true :=
  Program.laidByTextLater.sub seatTie1 ["errors.errorType", "loop.example/handfast/impl.errCheckName", "loop.example/handfast/impl.errCheckType", "loop.example/handfast/impl.errCheckLoan", "loop.example/handfast/impl.errCheckOut"] (by kernel_rfl) (by kernel_rfl)
theorem fnCheckLess_row_tie : Rows.fnCheckLessRow.laidByTextAt .later Tryz.pinned [.handle, .sentinel, .sentinel, .sentinel, .sentinel] true :=
  OpenClaim.laidByTextAt_later rfl rfl tie noOwnUnsafe
theorem fnCheckTwice_row_tie : Rows.fnCheckTwiceRow.laidByTextAt .later Tryz.pinned [.handle, .sentinel, .sentinel, .sentinel, .sentinel] true :=
  OpenClaim.laidByTextAt_later rfl rfl tie noOwnUnsafe
theorem fnCheckMore_row_tie : Rows.fnCheckMoreRow.laidByTextAt .later Tryz.pinned [.handle, .sentinel, .sentinel, .sentinel, .sentinel] true :=
  OpenClaim.laidByTextAt_later rfl rfl tie noOwnUnsafe
theorem fnCheckCut_row_tie : Rows.fnCheckCutRow.laidByTextAt .later Tryz.pinned [.handle, .sentinel, .sentinel, .sentinel, .sentinel] true :=
  OpenClaim.laidByTextAt_later rfl rfl tie noOwnUnsafe
theorem tie2 : Tryz.prog.laidByTextLater [("loop.example/handfast/impl.errPureFail", Rows.laid_loop_example_handfast_impl_errPureFail)] [.sentinel] true :=
  Program.laidByTextLater.sub seatTie1 ["loop.example/handfast/impl.errPureFail"] (by kernel_rfl) (by kernel_rfl)
theorem fnPureRun_row_tie : Rows.fnPureRunRow.laidByTextAt .later Tryz.pinned [.sentinel] true :=
  OpenClaim.laidByTextAt_later rfl rfl tie2 noOwnUnsafe
theorem tie3 : Tryz.prog.laidByTextLater [("math/bits.deBruijn32tab", Rows.laid_math_bits_deBruijn32tab), ("math/bits.deBruijn64tab", Rows.laid_math_bits_deBruijn64tab), ("internal/strconv.uint64pow10", Rows.laid_internal_strconv_uint64pow10), ("errors.errorType", Rows.laid_errors_errorType), ("loop.example/handfast/impl.errCheckName", Rows.laid_loop_example_handfast_impl_errCheckName), ("loop.example/handfast/impl.errCheckType", Rows.laid_loop_example_handfast_impl_errCheckType), ("loop.example/handfast/impl.errCheckLoan", Rows.laid_loop_example_handfast_impl_errCheckLoan), ("loop.example/handfast/impl.errCheckOut", Rows.laid_loop_example_handfast_impl_errCheckOut)] [.data, .data, .data, .handle, .sentinel, .sentinel, .sentinel, .sentinel] true :=
  Program.laidByTextLater.sub seatTie1 ["math/bits.deBruijn32tab", "math/bits.deBruijn64tab", "internal/strconv.uint64pow10", "errors.errorType", "loop.example/handfast/impl.errCheckName", "loop.example/handfast/impl.errCheckType", "loop.example/handfast/impl.errCheckLoan", "loop.example/handfast/impl.errCheckOut"] (by kernel_rfl) (by kernel_rfl)
theorem fnCheckForm_row_tie : Rows.fnCheckFormRow.laidByTextAt .later Tryz.pinned [.data, .data, .data, .handle, .sentinel, .sentinel, .sentinel, .sentinel] true :=
  OpenClaim.laidByTextAt_later rfl rfl tie3 noOwnUnsafe
theorem fnCheckLessUpto_row_tie : Rows.fnCheckLessUptoRow.laidByTextAt .later Tryz.pinned [.handle, .sentinel, .sentinel, .sentinel, .sentinel] true :=
  OpenClaim.laidByTextAt_later rfl rfl tie noOwnUnsafe
theorem fnCheckTwiceUpto_row_tie : Rows.fnCheckTwiceUptoRow.laidByTextAt .later Tryz.pinned [.handle, .sentinel, .sentinel, .sentinel, .sentinel] true :=
  OpenClaim.laidByTextAt_later rfl rfl tie noOwnUnsafe
theorem fnCheckMoreUpto_row_tie : Rows.fnCheckMoreUptoRow.laidByTextAt .later Tryz.pinned [.handle, .sentinel, .sentinel, .sentinel, .sentinel] true :=
  OpenClaim.laidByTextAt_later rfl rfl tie noOwnUnsafe
theorem fnCheckCutUpto_row_tie : Rows.fnCheckCutUptoRow.laidByTextAt .later Tryz.pinned [.handle, .sentinel, .sentinel, .sentinel, .sentinel] true :=
  OpenClaim.laidByTextAt_later rfl rfl tie noOwnUnsafe
theorem fnPureRunUpto_row_tie : Rows.fnPureRunUptoRow.laidByTextAt .later Tryz.pinned [.sentinel] true :=
  OpenClaim.laidByTextAt_later rfl rfl tie2 noOwnUnsafe
theorem fnCheckFormUpto_row_tie : Rows.fnCheckFormUptoRow.laidByTextAt .later Tryz.pinned [.data, .data, .data, .handle, .sentinel, .sentinel, .sentinel, .sentinel] true :=
  OpenClaim.laidByTextAt_later rfl rfl tie3 noOwnUnsafe
end Go.Proofs.YtghekniakencpaaGreatDoor
