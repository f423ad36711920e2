/- FnProgOne: a part of the proof. -/
import Derived.Test.YtjfbfchnfdhbpaaGreatDoorX5
set_option linter.unusedVariables false
set_option linter.unusedSimpArgs false
namespace Go.Xl
open Nat renaming reduceEqDiff → rE, reduceAdd → rA, reduceLeDiff → rL
def x_l_FnProgOne (F : Ids) : XFunc := ⟨60, [.slot 4], .seq (rg [mv 0 4 cf]) (.seq (.seq (rg [mv 0 9 0, pu 1 10 (.lenSl 9), pu 2 11 (.bin .gtr 10 (ci 1048576)), mv 3 12 11, gp 4 13 12 false (.move 1), gp 5 14 12 false (.lenSl 13), gp 6 15 12 false (.bin .gtr 14 (ci 1048576)), pu 7 16 (.pick 12 ct 15)]) (.cond 16 (.seq (rg [mv 0 4 ct]) .ret) .skip)) (.seq (rg [mv 0 17 0, ca 1 18 F.s_DrawProgWrite [17], ⟨2, some 5, none, .eff (.alloc [.slice none 0 0]), []⟩, ⟨3, none, none, .eff (.store 1 5 18), []⟩]) (.seq (rg [mv 0 19 1, ca 1 20 F.s_DrawProgWrite [19], ⟨2, some 6, none, .eff (.alloc [.slice none 0 0]), []⟩, ⟨3, none, none, .eff (.store 1 6 20), []⟩]) (.seq (rg [ld 0 21 (some 1) 5, ca 1 22 F.i_ProgWrite [21], mv 2 7 22]) (.seq (rg [ld 0 23 (some 1) 6, ca 1 24 F.i_ProgWrite [23], mv 2 8 24]) (.seq (.seq (rg [mv 0 25 7, ld 1 26 (some 1) 5, ca 2 27 F.s_ProgWrite [26], pu 3 28 (.bin .neq 25 27), mv 4 29 28, gp 5 30 29 false (.move 8), gl 6 31 29 false (some 1) 6, ⟨7, some 32, some (29, false), .eff (.call F.s_ProgWrite [31]), []⟩, gp 8 33 29 false (.bin .neq 30 32), pu 9 34 (.pick 29 ct 33), mv 10 35 34, gp 11 36 35 false (.move 7), gp 12 37 35 false (.bin .eql 36 (.const (.string (bl [])))), pu 13 38 (.pick 35 ct 37), mv 14 39 38, gp 15 40 39 false (.move 8), gp 16 41 39 false (.bin .eql 40 (.const (.string (bl [])))), pu 17 42 (.pick 39 ct 41)]) (.cond 42 (.seq (rg [mv 0 43 7, ld 1 44 (some 1) 5, ca 2 45 F.s_ProgWrite [44], pu 3 46 (.bin .eql 43 45), mv 4 47 46, gp 5 48 47 true (.move 8), gl 6 49 47 true (some 1) 6, ⟨7, some 50, some (47, true), .eff (.call F.s_ProgWrite [49]), []⟩, gp 8 51 47 true (.bin .eql 48 50), pu 9 52 (.pick 47 51 cf), mv 10 4 52]) .ret) .skip)) (.seq (rg [mv 0 53 7, mv 1 54 8, pu 2 55 (.bin .eql 53 54), ld 3 56 (some 1) 5, ld 4 57 (some 1) 6, ca 5 58 F.l_lhProg [56, 57], pu 6 59 (.eqBool false 55 58), mv 7 4 59]) .ret)))))))⟩
theorem Fu.lo.cnt {f : Fu} (h : f.lo) : St.cntL f.body ≤ 7000 := by
 have key : ∀ l : List St, (∀ s ∈ l, s.cnt ≤ 1000) → St.cntL l ≤ 1000 * l.length := by
  intro l
  induction l with
  | nil => intro _; rw [St.cntL_nil]; omega
  | cons s l ih =>
    intro h
    have h1 := h s (by simp)
    have h2 := ih fun x hx => h x (by simp [hx])
    rw [St.cntL_cons, List.length_cons]; omega
 have := key f.body h.bcnt
 have := h.blen
 omega
section
variable {P : Program} {F : Ids}
theorem c_FnProgOne (L : Lib P F) (T : Tys F) (Z : Shf P F) {n : FuncId} (hfit : Fits P n (x_l_FnProgOne F)) (a b : List UInt8) : ACalls P n [.sl 1 none (byteRows a), .sl 1 none (byteRows b)] .empty fun q H' => q = B true := by
 refine hfit (by simp [x_l_FnProgOne]) ?_
 have fin : ∀ (E' : Env) (H' : Heap), E' 4 = B true → XFunc.post [.slot 4] (fun q H' => q = B true) .ret E' H' := fun E' H' h1 => zzd (by rw [h1]; exact .refl _) (Heap.zzm _) rfl
 have la : (byteRows a).length = a.length := by simp [byteRows]
 have lb : (byteRows b).length = b.length := by simp [byteRows]
 simp only [x_l_FnProgOne, go_sem, rE, rA, rL, la, lb]
 by_cases h1 : (a.length : Int) > 1048576
 ·simp only [go_sem, rE, rA, rL, h1, decide_true]
  exact fin _ _ (rfl)
 by_cases h2 : (b.length : Int) > 1048576
 ·simp only [go_sem, rE, rA, rL, h1, h2, lb, decide_true, decide_false]
  exact fin _ _ (rfl)
 simp only [go_sem, rE, rA, rL, h1, h2, lb, decide_false]
 refine run_call (c_DrawProgWrite L a (by omega)) (rfl) (Heap.zzf _) (by simp) trivial ?_
 rintro q H' ⟨rfl, p, rfl, hp⟩ -
 rw [Heap.swap_empty]
 simp only [go_sem, rE, rA, rL, Pg.enc]
 intro b5 hb5
 have g5 := Heap.zzb .empty b5 (.cells [.sl 12 none (p.map Fu.enc)])
 generalize (Heap.empty.set b5 (.cells [.sl 12 none (p.map Fu.enc)])) = H5 at *
 refine run_call (c_DrawProgWrite L b (by omega)) (rfl) (Heap.zzf _) (by simp) trivial ?_
 rintro q H' ⟨rfl, r, rfl, hr⟩ -
 rw [Heap.swap_empty]
 simp only [go_sem, rE, rA, rL, Pg.enc]
 intro b6 hb6
 have g5 := (Heap.zza H5 (.cells [.sl 12 none (r.map Fu.enc)]) (zzj g5 hb6)).trans g5
 have g6 := Heap.zzb H5 b6 (.cells [.sl 12 none (r.map Fu.enc)])
 generalize (H5.set b6 (.cells [.sl 12 none (r.map Fu.enc)])) = H6 at *
 have lo : ∀ {p : Pg}, drawn p → ∀ f ∈ p, St.cntL f.body ≤ 2 ^ 20 ∧ (∀ s ∈ f.body, s.sm 3) ∧ (f.lent = false → f.says.sm) := fun hp f hf => by
  have h := hp.1 f hf
  have := h.cnt
  exact ⟨by omega, h.bsm, fun _ => h.says⟩
 have lo2 : ∀ {p : Pg}, drawn p → ∀ f ∈ p, St.cntL f.body ≤ 2 ^ 20 := fun hp f hf => (lo hp f hf).1
 simp only [go_sem, rE, rA, rL, g5, g6]
 refine zzc (c_iProgWrite L T Z p (lo hp)) (by simp only [go_sem, rE, rA, rL, Pg.enc]) ?_
 simp only [go_sem, rE, rA, rL, g5, g6]
 refine zzc (c_iProgWrite L T Z r (lo hr)) (by simp only [go_sem, rE, rA, rL, Pg.enc]) ?_
 simp only [go_sem, rE, rA, rL, g5, g6]
 refine zzc (c_ProgWrite L p (lo2 hp)) (by simp only [go_sem, rE, rA, rL, Pg.enc]) ?_
 simp only [go_sem, rE, rA, rL, g5, g6, decide_true]
 refine zzc (c_ProgWrite L r (lo2 hr)) (by simp only [go_sem, rE, rA, rL, Pg.enc]) ?_
 have bn0 : bl [] = ofL [] := rfl
 simp only [go_sem, rE, rA, rL, g5, g6, decide_true, bn0]
 have ofn : ∀ l : List UInt8, decide (ofL l = ofL []) = decide (l = []) := fun l => by
  rw [decide_eq_decide]; exact ⟨ofL_inj, fun h => by rw [h]⟩
 by_cases hw : writeL p = []
 ·simp only [go_sem, rE, rA, rL, g5, g6, ofn, hw, decide_true]
  refine zzc (c_ProgWrite L p (lo2 hp)) (by simp only [go_sem, rE, rA, rL, Pg.enc]) ?_
  simp only [go_sem, rE, rA, rL, g5, g6, hw, decide_true]
  refine zzc (c_ProgWrite L r (lo2 hr)) (by simp only [go_sem, rE, rA, rL, Pg.enc]) ?_
  simp only [go_sem, rE, rA, rL, decide_true]
  exact fin _ _ (rfl)
 by_cases hw2 : writeL r = []
 ·simp only [go_sem, rE, rA, rL, g5, g6, ofn, hw, hw2, decide_true, decide_false]
  refine zzc (c_ProgWrite L p (lo2 hp)) (by simp only [go_sem, rE, rA, rL, Pg.enc]) ?_
  simp only [go_sem, rE, rA, rL, g5, g6, hw2, decide_true]
  refine zzc (c_ProgWrite L r (lo2 hr)) (by simp only [go_sem, rE, rA, rL, Pg.enc]) ?_
  simp only [go_sem, rE, rA, rL, hw2, decide_true]
  exact fin _ _ (rfl)
 simp only [go_sem, rE, rA, rL, g5, g6, ofn, hw, hw2, decide_false]
 have hform : formOk p = true := by
  rw [writeL] at hw
  split at hw
  ·assumption
  ·exact absurd rfl hw
 refine zzc (c_lhProg L p r hform) (by simp only [go_sem, rE, rA, rL, Pg.enc]) ?_
 have key : decide (ofL (writeL p) = ofL (writeL r)) = eqB p r := by
  cases he : eqB p r
  ·have hne := yyd.1 he
   exact decide_eq_false fun h => hne (write_inj hw hw2 (ofL_inj h))
  ·exact decide_eq_true (by rw [yye.1 he])
 simp only [go_sem, rE, rA, rL, key, Bool.beq_eq_decide_eq, decide_true]
 exact fin _ _ (rfl)
end
end Go.Xl
