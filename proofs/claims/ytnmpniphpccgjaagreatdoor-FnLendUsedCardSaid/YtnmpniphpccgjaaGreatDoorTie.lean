/-
  DERIVED. GIVEN WITH THE SEED: THE PROGRAM's TIES (one call each: nine closed facts by the kernel) AND EACH ROW's TIE, after the 31st guide's Derived/Test/Toyas{Tie, Card}.lean. No idea stands in it: it is a product of the set-up. Laid BY PROGRAM, IN A SANDBOX (cutbox-door.mjs). By AI agents, Wed Nov 11 2026. No macro, syntax, notation, axiom, sorry.
-/
import Derived.Test.YtnmpniphpccgjaaGreatDoorRows
import Derived.LaidByTextLater
import Derived.SevenTiedAt
import Derived.LaidSub
import Derived.LaidOnce
namespace Go.Proofs.YtnmpniphpccgjaaGreatDoor
open Go
set_option maxRecDepth 100000
theorem seatTie1 : Tryz.prog.laidByTextLater [("errors.errorType", Rows.laid_errors_errorType), ("loop.example/handfast/impl.errCheckName", Rows.laid_loop_example_handfast_impl_errCheckName), ("loop.example/handfast/impl.errCheckType", Rows.laid_loop_example_handfast_impl_errCheckType), ("loop.example/handfast/impl.errCheckLoan", Rows.laid_loop_example_handfast_impl_errCheckLoan), ("loop.example/handfast/impl.errCheckOut", Rows.laid_loop_example_handfast_impl_errCheckOut)] [.handle, .sentinel, .sentinel, .sentinel, .sentinel] true :=
  Program.laidByTextLater_by_one 92 8 2 (by kernel_rfl) (by kernel_rfl) (by kernel_rfl) (by kernel_rfl) (by kernel_rfl) (by kernel_rfl) (fun _ _ => by kernel_rfl)
theorem noOwnUnsafe : Tryz.pinned.checked.prog.headLifts.contains "ownunsafe" = false := by kernel_rfl
theorem tie : Tryz.prog.laidByTextLater [("loop.example/handfast/impl.errCheckName", Rows.laid_loop_example_handfast_impl_errCheckName), ("loop.example/handfast/impl.errCheckType", Rows.laid_loop_example_handfast_impl_errCheckType), ("loop.example/handfast/impl.errCheckLoan", Rows.laid_loop_example_handfast_impl_errCheckLoan), ("loop.example/handfast/impl.errCheckOut", Rows.laid_loop_example_handfast_impl_errCheckOut)] [.sentinel, .sentinel, .sentinel, .sentinel] true :=
  Program.laidByTextLater.sub seatTie1 ["loop.example/handfast/impl.errCheckName", "loop.example/handfast/impl.errCheckType", "loop.example/handfast/impl.errCheckLoan", "loop.example/handfast/impl.errCheckOut"] (by kernel_rfl) (by kernel_rfl)
theorem fnLendApart_row_tie : Rows.fnLendApartRow.laidByTextAt .later Tryz.pinned [.sentinel, .sentinel, .sentinel, .sentinel] true :=
  OpenClaim.laidByTextAt_later rfl rfl tie noOwnUnsafe
theorem fnLendOrder_row_tie : Rows.fnLendOrderRow.laidByTextAt .later Tryz.pinned [.sentinel, .sentinel, .sentinel, .sentinel] true :=
  OpenClaim.laidByTextAt_later rfl rfl tie noOwnUnsafe
theorem fnLendLive_row_tie : Rows.fnLendLiveRow.laidByTextAt .later Tryz.pinned [.sentinel, .sentinel, .sentinel, .sentinel] true :=
  OpenClaim.laidByTextAt_later rfl rfl tie noOwnUnsafe
theorem fnLendEnds_row_tie : Rows.fnLendEndsRow.laidByTextAt .later Tryz.pinned [.sentinel, .sentinel, .sentinel, .sentinel] true :=
  OpenClaim.laidByTextAt_later rfl rfl tie noOwnUnsafe
theorem fnLendOver_row_tie : Rows.fnLendOverRow.laidByTextAt .later Tryz.pinned [.sentinel, .sentinel, .sentinel, .sentinel] true :=
  OpenClaim.laidByTextAt_later rfl rfl tie noOwnUnsafe
theorem tie2 : Tryz.prog.laidByTextLater [("errors.errorType", Rows.laid_errors_errorType), ("loop.example/handfast/impl.errCheckName", Rows.laid_loop_example_handfast_impl_errCheckName), ("loop.example/handfast/impl.errCheckType", Rows.laid_loop_example_handfast_impl_errCheckType), ("loop.example/handfast/impl.errCheckLoan", Rows.laid_loop_example_handfast_impl_errCheckLoan), ("loop.example/handfast/impl.errCheckOut", Rows.laid_loop_example_handfast_impl_errCheckOut)] [.handle, .sentinel, .sentinel, .sentinel, .sentinel] true :=
  Program.laidByTextLater.sub seatTie1 ["errors.errorType", "loop.example/handfast/impl.errCheckName", "loop.example/handfast/impl.errCheckType", "loop.example/handfast/impl.errCheckLoan", "loop.example/handfast/impl.errCheckOut"] (by kernel_rfl) (by kernel_rfl)
theorem fnLendParam_row_tie : Rows.fnLendParamRow.laidByTextAt .later Tryz.pinned [.handle, .sentinel, .sentinel, .sentinel, .sentinel] true :=
  OpenClaim.laidByTextAt_later rfl rfl tie2 noOwnUnsafe
theorem fnLendNew_row_tie : Rows.fnLendNewRow.laidByTextAt .later Tryz.pinned [.handle, .sentinel, .sentinel, .sentinel, .sentinel] true :=
  OpenClaim.laidByTextAt_later rfl rfl tie2 noOwnUnsafe
theorem fnLendUsed_row_tie : Rows.fnLendUsedRow.laidByTextAt .later Tryz.pinned [.handle, .sentinel, .sentinel, .sentinel, .sentinel] true :=
  OpenClaim.laidByTextAt_later rfl rfl tie2 noOwnUnsafe
theorem fnLendApartUpto_row_tie : Rows.fnLendApartUptoRow.laidByTextAt .later Tryz.pinned [.sentinel, .sentinel, .sentinel, .sentinel] true :=
  OpenClaim.laidByTextAt_later rfl rfl tie noOwnUnsafe
theorem fnLendOrderUpto_row_tie : Rows.fnLendOrderUptoRow.laidByTextAt .later Tryz.pinned [.sentinel, .sentinel, .sentinel, .sentinel] true :=
  OpenClaim.laidByTextAt_later rfl rfl tie noOwnUnsafe
theorem fnLendLiveUpto_row_tie : Rows.fnLendLiveUptoRow.laidByTextAt .later Tryz.pinned [.sentinel, .sentinel, .sentinel, .sentinel] true :=
  OpenClaim.laidByTextAt_later rfl rfl tie noOwnUnsafe
theorem fnLendEndsUpto_row_tie : Rows.fnLendEndsUptoRow.laidByTextAt .later Tryz.pinned [.sentinel, .sentinel, .sentinel, .sentinel] true :=
  OpenClaim.laidByTextAt_later rfl rfl tie noOwnUnsafe
theorem fnLendOverUpto_row_tie : Rows.fnLendOverUptoRow.laidByTextAt .later Tryz.pinned [.sentinel, .sentinel, .sentinel, .sentinel] true :=
  OpenClaim.laidByTextAt_later rfl rfl tie noOwnUnsafe
theorem fnLendParamUpto_row_tie : Rows.fnLendParamUptoRow.laidByTextAt .later Tryz.pinned [.handle, .sentinel, .sentinel, .sentinel, .sentinel] true :=
  OpenClaim.laidByTextAt_later rfl rfl tie2 noOwnUnsafe
theorem fnLendNewUpto_row_tie : Rows.fnLendNewUptoRow.laidByTextAt .later Tryz.pinned [.handle, .sentinel, .sentinel, .sentinel, .sentinel] true :=
  OpenClaim.laidByTextAt_later rfl rfl tie2 noOwnUnsafe
theorem fnLendUsedUpto_row_tie : Rows.fnLendUsedUptoRow.laidByTextAt .later Tryz.pinned [.handle, .sentinel, .sentinel, .sentinel, .sentinel] true :=
  OpenClaim.laidByTextAt_later rfl rfl tie2 noOwnUnsafe
end Go.Proofs.YtnmpniphpccgjaaGreatDoor
