/- FnProgOne: a part of the proof. -/
import Derived.Test.YtjfbfchnfdhbpaaGreatDoorX4
set_option linter.unusedVariables false
set_option linter.unusedSimpArgs false
namespace Go.Xl
open Nat renaming reduceEqDiff → rE, reduceAdd → rA, reduceLeDiff → rL
theorem rest1_of {Bd : List St → Bool} {s : St} (k1 : s.kind = 1) (h : stOkW Bd s = true) : s.rest1.noneB = true := by
 have p0 : P0.noneB = true := rfl
 have e0 : E0.noneB = true := rfl
 simp only [stOkW, stA, stB, stC', stD, isN, isP, isE, St.rest1, mk_noneB, k1, Int.reduceEq, Int.reduceLE, decide_true, decide_false, Bool.false_or, Bool.true_or, Bool.or_false, Bool.or_self, if_true, if_false, reduceIte, Bool.false_eq_true, Bool.and_eq_true, decide_eq_true_eq] at h ⊢
 simp only [p0, e0, true_and, and_self, Nat.add_eq_zero_iff, Bool.not_eq_true'] at h ⊢
 simp_all
theorem rest2_of {Bd : List St → Bool} {s : St} (k2 : s.kind = 2) (h : stOkW Bd s = true) : s.rest2.noneB = true := by
 have p0 : P0.noneB = true := rfl
 have e0 : E0.noneB = true := rfl
 simp only [stOkW, stA, stB, stC', stD, isN, isP, isE, St.rest2, mk_noneB, k2, Int.reduceEq, Int.reduceLE, decide_true, decide_false, Bool.false_or, Bool.true_or, Bool.or_false, Bool.or_self, if_true, if_false, reduceIte, Bool.false_eq_true, Bool.and_eq_true, decide_eq_true_eq] at h ⊢
 simp only [p0, e0, true_and, and_self, Nat.add_eq_zero_iff, Bool.not_eq_true'] at h ⊢
 simp_all
theorem rest3_of {Bd : List St → Bool} {s : St} (k3 : s.kind = 3) (h : stOkW Bd s = true) : s.rest3.noneB = true := by
 have p0 : P0.noneB = true := rfl
 have e0 : E0.noneB = true := rfl
 simp only [stOkW, stA, stB, stC', stD, isN, isP, isE, St.rest3, mk_noneB, k3, Int.reduceEq, Int.reduceLE, decide_true, decide_false, Bool.false_or, Bool.true_or, Bool.or_false, Bool.or_self, if_true, if_false, reduceIte, Bool.false_eq_true, Bool.and_eq_true, decide_eq_true_eq] at h ⊢
 simp only [p0, e0, true_and, and_self, Nat.add_eq_zero_iff, Bool.not_eq_true'] at h ⊢
 simp_all
theorem rest4_of {Bd : List St → Bool} {s : St} (k4 : s.kind = 4) (h : stOkW Bd s = true) : s.rest4.noneB = true := by
 have p0 : P0.noneB = true := rfl
 have e0 : E0.noneB = true := rfl
 simp only [stOkW, stA, stB, stC', stD, isN, isP, isE, St.rest4, mk_noneB, k4, Int.reduceEq, Int.reduceLE, decide_true, decide_false, Bool.false_or, Bool.true_or, Bool.or_false, Bool.or_self, if_true, if_false, reduceIte, Bool.false_eq_true, Bool.and_eq_true, decide_eq_true_eq] at h ⊢
 simp only [p0, e0, true_and, and_self, Nat.add_eq_zero_iff, Bool.not_eq_true'] at h ⊢
 simp_all
theorem rest5_of {Bd : List St → Bool} {s : St} (k5 : s.kind = 5) (h : stOkW Bd s = true) : s.rest5.noneB = true := by
 have p0 : P0.noneB = true := rfl
 have e0 : E0.noneB = true := rfl
 simp only [stOkW, stA, stB, stC', stD, isN, isP, isE, St.rest5, mk_noneB, k5, Int.reduceEq, Int.reduceLE, decide_true, decide_false, Bool.false_or, Bool.true_or, Bool.or_false, Bool.or_self, if_true, if_false, reduceIte, Bool.false_eq_true, Bool.and_eq_true, decide_eq_true_eq] at h ⊢
 simp only [p0, e0, true_and, and_self, Nat.add_eq_zero_iff, Bool.not_eq_true'] at h ⊢
 simp_all
theorem rest6_of {Bd : List St → Bool} {s : St} (k6 : s.kind = 6) (h : stOkW Bd s = true) : s.rest6.noneB = true := by
 have p0 : P0.noneB = true := rfl
 have e0 : E0.noneB = true := rfl
 simp only [stOkW, stA, stB, stC', stD, isN, isP, isE, St.rest6, mk_noneB, k6, Int.reduceEq, Int.reduceLE, decide_true, decide_false, Bool.false_or, Bool.true_or, Bool.or_false, Bool.or_self, if_true, if_false, reduceIte, Bool.false_eq_true, Bool.and_eq_true, decide_eq_true_eq] at h ⊢
 simp only [p0, e0, true_and, and_self, Nat.add_eq_zero_iff, Bool.not_eq_true'] at h ⊢
 simp_all
theorem St.sm.parts {i : Nat} {s : St} (h : s.sm i) : s.expr.sm ∧ (∀ a ∈ s.args, a.expr.sm) ∧ (∀ x ∈ s.thn, x.sm (i - 1)) ∧ ∀ x ∈ s.els, x.sm (i - 1) := by
 cases h with | mk he ha ht hl => exact ⟨he, ha, ht, hl⟩
def writeQ (F : Ids) (b : Nat) (l : List UInt8) (list : List St) (k : Nat) (E' : Env) (H' : Heap) : Prop := ∃ x, Bld F H' b l x ∧ E' 0 = .ptr b 0 ∧ E' 15 = .sl 15 none (list.map St.enc) ∧ E' 16 = I list.length ∧ E' 17 = I k
theorem linesL_len_take (list : List St) (k : Nat) (hk : k < list.length) : xxb list = xxb (list.take k) ++ lineL list[k] ++ xxb (list.drop (k + 1)) := by
 have h := List.take_append_drop k list
 rw [List.drop_eq_getElem_cons hk] at h
 conv => lhs; rw [← h]
 rw [linesL_append, linesL_cons, List.append_assoc]
theorem xxn (list : List St) (k : Nat) (hk : k < list.length) : xxb (list.take (k + 1)) = xxb (list.take k) ++ lineL list[k] := by
 rw [List.take_succ_eq_append_getElem hk, linesL_append, linesL_cons, linesL_nil, List.append_nil]
def argW (a : Ag) : List (List UInt8) := if a.lent then [bn [116, 111], atL a.place] else [bn [111, 102], sayL a.expr]
theorem argW_join (r : List UInt8) (as : List Ag) : joinL (r :: as.flatMap argW) = r ++ argsL as := by
 rw [joinL_cons]
 congr 1
 induction as with
 | nil => rfl
 | cons a as ih =>
   rw [List.flatMap_cons, List.flatMap_append, ih, argsL, argsL, List.flatMap_cons]
   congr 1
   rw [argW, argL]
   split <;> simp [bn, List.append_assoc]
section
variable {P : Program} {F : Ids}
theorem c_stmtsWriteW (L : Lib P F) (T : Tys F) (Z : Shf P F) (d : Nat) (i : Nat)
 (ih : ∀ (list : List St) (b : Nat) (l : List UInt8), xxc d list = true → (∀ s ∈ list, s.sm (i - 1)) → St.cntL list ≤ 2 ^ 20 → l.length + (xxb list).length ≤ 2 ^ 40 → BldC P F F.i_stmtsWrite [.ptr b 0, .sl 15 none (St.encs list)] b l (l ++ xxb list))
 (list : List St) (b : Nat) (l : List UInt8) (hok : ∀ s ∈ list, stOkW (xxc d) s = true) (hsm : ∀ s ∈ list, s.sm i) (hcnt : St.cntL list ≤ 2 ^ 20) (hlen : l.length + (xxb list).length ≤ 2 ^ 40) :
 BldC P F F.i_stmtsWrite [.ptr b 0, .sl 15 none (St.encs list)] b l (l ++ xxb list) := by
 intro H x hB ho
 refine L.i_stmtsWrite (by simp [x_i_stmtsWrite]) ?_
 simp only [x_i_stmtsWrite, go_sem, rE, rA, rL, St.zzk, List.length_map]
 refine yyc list.length (fun k E H => writeQ F b (l ++ xxb (list.take k)) list k E H) ⟨x, by simpa [linesL_nil] using hB, rfl, rfl, rfl, rfl⟩ ?_
 clear hB ho
 rintro k E H hk ⟨x, hB, e0, e15, e16, e17⟩
 simp only [wp_seq, go_sem, rE, e16, e17]
 refine zzn (fun hlt => ?_) (fun hge => ?_)
 ·have hk1 : k < list.length := by omega
  have hll := St.len_le list
  have w1 := yya (n := (k : Int) + 1) (by omega) (by omega)
  have hg : (list.map St.enc)[k]? = some list[k].enc := st_get hk1
  rw [St.enc_eq] at hg
  have hm := List.getElem_mem hk1
  have hok := hok _ hm
  have hsm := hsm _ hm
  have hcs := cnt_mem hm
  have hsn := xxn list k hk1
  have htk := linesL_len_take list k hk1
  rw [htk] at hlen
  rw [← hsn, hsn] at hlen
  simp only [List.length_append] at hlen
  generalize list[k] = s at *
  have hcnt := St.cnt_eq s
  obtain ⟨l1, hl1⟩ : ∃ l1, l1 = l ++ xxb (list.take k) := ⟨_, rfl⟩
  have hl1n : l1.length = l.length + (xxb (list.take k)).length := by rw [hl1, List.length_append]
  rw [← hl1] at hB
  have hsl : l ++ xxb (list.take (k + 1)) = l1 ++ lineL s := by rw [hsn, hl1, List.append_assoc]
  simp only [go_sem, rE, rA, rL, e15, e17, hg]
  intro b5 hb5
  have hB := hB.new hb5 (.cells [I s.kind, S s.name, S s.place.name, zze s.place.path, S s.other.name, zze s.other.path, I s.expr.kind, I s.expr.num, S s.expr.place.name, zze s.expr.place.path, .sl 5 none (Ex.encs s.expr.kids), S s.fn, .sl 8 none (s.args.map Ag.enc), .sl 15 none (St.encs s.thn), .sl 15 none (St.encs s.els)])
  generalize (H.set b5 (.cells [I s.kind, S s.name, S s.place.name, zze s.place.path, S s.other.name, zze s.other.path, I s.expr.kind, I s.expr.num, S s.expr.place.name, zze s.expr.place.path, .sl 5 none (Ex.encs s.expr.kids), S s.fn, .sl 8 none (s.args.map Ag.enc), .sl 15 none (St.encs s.thn), .sl 15 none (St.encs s.els)])) = H2 at *
  refine zzc (c_stmtOf L s) (by simp only [go_sem, rE, rA, rL, St.enc_eq s]) ?_
  rw [run_nil, xxa]
  refine wp_nrm (writeQ F b (l1 ++ lineL s) list k) ?_ ?_
  ·clear hb5 hg
   have hps := hsm.parts
   have hln := lineL_eq s
   have out : ∀ (E' : Env) (H' : Heap) (x : AC) (rows : List (List UInt8)), lineL s = joinL rows ++ bn [10] → Bld F H' b (l1 ++ joinL rows ++ bn [10]) x → (E' 0 = .ptr b 0 ∧ E' 15 = .sl 15 none (list.map St.enc) ∧ E' 16 = I list.length ∧ E' 17 = I k) → writeQ F b (l1 ++ lineL s) list k E' H' :=
    fun E' H' x rows h1 h2 h3 => ⟨x, by rw [h1, ← List.append_assoc]; exact h2, h3⟩
   have lln : ∀ (rows : List (List UInt8)), lineL s = joinL rows ++ bn [10] → l1.length + (joinL rows).length + 1 ≤ 2 ^ 40 := fun rows h => by
    rw [h] at hlen; simp only [List.length_append, bn, List.length_map] at hlen; simp at hlen; omega
   rcases stOk_get hok with ⟨k1, hn, he⟩ | ⟨k2, hn, hp⟩ | ⟨k3, hp, he⟩ | ⟨k4, hn, hf, ha⟩ | ⟨k5, he, ht, hl⟩ | ⟨k6, hn, hp, ho, he⟩
   ·rw [shS_1 k1, rest1_of k1 hok]
    have hj : lineL s = joinL [bn [108, 101, 116], by_ s.name, sayL s.expr] ++ bn [10] := by rw [hln, if_pos k1]; simp [joinL, bn, List.append_assoc]
    simp only [go_sem, rE, rA, rL, if_true, e0]
    intro b9 hb9
    have hB := hB.new hb9 (.cells [S s.name, I s.expr.kind, I s.expr.num, S s.expr.place.name, zze s.expr.place.path, .sl 5 none (Ex.encs s.expr.kids)])
    have g9 := Heap.zzb H2 b9 (.cells [S s.name, I s.expr.kind, I s.expr.num, S s.expr.place.name, zze s.expr.place.path, .sl 5 none (Ex.encs s.expr.kids)])
    generalize (H2.set b9 (.cells [S s.name, I s.expr.kind, I s.expr.num, S s.expr.place.name, zze s.expr.place.path, .sl 5 none (Ex.encs s.expr.kids)])) = H3 at *
    refine zzc (c_exprText L T Z 4 (by omega) s.expr he hps.1) (by simp only [go_sem, rE, rA, rL, Ex.enc_eq s.expr]) ?_
    simp only [go_sem, rE, rA, rL, g9, chkL, List.mem_cons, List.not_mem_nil, or_false, forall_eq, false_or, reduceCtorEq, not_false_eq_true, implies_true, true_and, not_true_eq_false, forall_eq_or_imp, and_true]
    intro b6 hb6
    refine xxj L Z [bn [108, 101, 116], by_ s.name, sayL s.expr] (some (b6, 3, 3)) (hB.new hb6 _) (rfl) (by simp) (lln _ hj) ?_
    rintro q H4 x4 fp hB4 -
    simp only [go_sem, rE, rA, rL]
    exact out _ _ x4 [bn [108, 101, 116], by_ s.name, sayL s.expr] hj hB4 (⟨e0, e15, e16, e17⟩)
   ·rw [shS_2 k2, rest2_of k2 hok]
    have hj : lineL s = joinL [bn [108, 101, 110, 100], by_ s.name, atL s.place] ++ bn [10] := by rw [hln, if_neg (by omega), if_pos k2]; simp [joinL, bn, List.append_assoc]
    simp only [go_sem, rE, rA, rL, if_true, T.s12, if_false, e0]
    intro b9 hb9
    have hB := hB.new hb9 (.cells [S s.name, S s.place.name, zze s.place.path])
    have g9 := Heap.zzb H2 b9 (.cells [S s.name, S s.place.name, zze s.place.path])
    generalize (H2.set b9 (.cells [S s.name, S s.place.name, zze s.place.path])) = H3 at *
    refine zzc (c_placeText L Z s.place hp) (by simp only [go_sem, rE, rA, rL, Pl.enc]) ?_
    simp only [go_sem, rE, rA, rL, g9, chkL, List.mem_cons, List.not_mem_nil, or_false, forall_eq, false_or, reduceCtorEq, not_false_eq_true, implies_true, true_and, not_true_eq_false, forall_eq_or_imp, and_true]
    intro b6 hb6
    refine xxj L Z [bn [108, 101, 110, 100], by_ s.name, atL s.place] (some (b6, 3, 3)) (hB.new hb6 _) (rfl) (by simp) (lln _ hj) ?_
    rintro q H4 x4 fp hB4 -
    simp only [go_sem, rE, rA, rL]
    exact out _ _ x4 [bn [108, 101, 110, 100], by_ s.name, atL s.place] hj hB4 (⟨e0, e15, e16, e17⟩)
   ·rw [shS_3 k3, rest3_of k3 hok]
    have hj : lineL s = joinL [bn [115, 101, 116], atL s.place, sayL s.expr] ++ bn [10] := by rw [hln, if_neg (by omega), if_neg (by omega), if_neg (by omega), if_pos k3]; simp [joinL, bn, List.append_assoc]
    simp only [go_sem, rE, rA, rL, if_true, T.s13, T.s23, if_false, e0]
    intro b9 hb9
    have hB := hB.new hb9 (.cells [S s.place.name, zze s.place.path, I s.expr.kind, I s.expr.num, S s.expr.place.name, zze s.expr.place.path, .sl 5 none (Ex.encs s.expr.kids)])
    have g9 := Heap.zzb H2 b9 (.cells [S s.place.name, zze s.place.path, I s.expr.kind, I s.expr.num, S s.expr.place.name, zze s.expr.place.path, .sl 5 none (Ex.encs s.expr.kids)])
    generalize (H2.set b9 (.cells [S s.place.name, zze s.place.path, I s.expr.kind, I s.expr.num, S s.expr.place.name, zze s.expr.place.path, .sl 5 none (Ex.encs s.expr.kids)])) = H3 at *
    refine zzc (c_placeText L Z s.place hp) (by simp only [go_sem, rE, rA, rL, Pl.enc]) ?_
    simp only [go_sem, rE, rA, rL, g9, chkL, List.mem_cons, List.not_mem_nil, or_false, forall_eq, false_or, reduceCtorEq, not_false_eq_true, implies_true, true_and, not_true_eq_false, forall_eq_or_imp, and_true]
    refine zzc (c_exprText L T Z 4 (by omega) s.expr he hps.1) (by simp only [go_sem, rE, rA, rL, Ex.enc_eq s.expr]) ?_
    simp only [go_sem, rE, rA, rL, g9, chkL, List.mem_cons, List.not_mem_nil, or_false, forall_eq, false_or, reduceCtorEq, not_false_eq_true, implies_true, true_and, not_true_eq_false, forall_eq_or_imp, and_true]
    intro b6 hb6
    refine xxj L Z [bn [115, 101, 116], atL s.place, sayL s.expr] (some (b6, 3, 3)) (hB.new hb6 _) (rfl) (by simp) (lln _ hj) ?_
    rintro q H4 x4 fp hB4 -
    simp only [go_sem, rE, rA, rL]
    exact out _ _ x4 [bn [115, 101, 116], atL s.place, sayL s.expr] hj hB4 (⟨e0, e15, e16, e17⟩)
   ·rw [shS_4 k4, rest4_of k4 hok]
    have hj : lineL s = joinL (bn [99, 97, 108, 108] :: by_ s.name :: by_ s.fn :: s.args.flatMap argW) ++ bn [10] := by
     rw [hln, if_neg (by omega), if_neg (by omega), if_neg (by omega), if_neg (by omega), if_pos k4, joinL, joinL, argW_join]
     simp [bn, List.append_assoc]
    have hal : s.args.length ≤ 4 := by simp only [argsOk, Bool.and_eq_true, decide_eq_true_eq] at ha; exact ha.1
    have haok : ∀ a ∈ s.args, a.okB = true := by simp only [argsOk, Bool.and_eq_true, List.all_eq_true] at ha; exact ha.2
    simp only [go_sem, rE, rA, rL, if_true, T.s14, T.s24, T.s34, if_false]
    intro b9 hb9
    have hB := hB.new hb9 (.cells [S s.name, S s.fn, .sl 8 none (s.args.map Ag.enc)])
    have g9 := Heap.zzb H2 b9 (.cells [S s.name, S s.fn, .sl 8 none (s.args.map Ag.enc)])
    generalize (H2.set b9 (.cells [S s.name, S s.fn, .sl 8 none (s.args.map Ag.enc)])) = H3 at *
    intro b6 hb6
    have hB := hB.new hb6 (.tail 3 3)
    have g9 := (Heap.zza H3 (.tail 3 3) (zzj g9 hb6)).trans g9
    have g6 := Heap.zzb H3 b6 (.tail 3 3)
    have hX : AppSt (H3.set b6 (.tail 3 3)) 1 (([bn [99, 97, 108, 108], by_ s.name, by_ s.fn] ++ (s.args.take 0).flatMap argW).map fun r => [Tx r]) (.sl 1 (some (b6, 3, 3)) [[S (bl [99, 97, 108, 108])], [S s.name], [S s.fn]]) := .inr ⟨b6, 3, 3, rfl, g6⟩
    simp only [go_sem, rE, rA, rL, g9, List.length_map]
    generalize (H3.set b6 (.tail 3 3)) = H4 at *
    clear g6 hb6 hb9
    refine yyc s.args.length (fun j E H => ∃ x y, Bld F H b l1 x ∧ AppSt H 1 (([bn [99, 97, 108, 108], by_ s.name, by_ s.fn] ++ (s.args.take j).flatMap argW).map fun r => [Tx r]) y ∧ E 10 = y ∧ E 66 = .sl 8 none (s.args.map Ag.enc) ∧ E 67 = I s.args.length ∧ E 68 = I j ∧ (E 0 = .ptr b 0 ∧ E 15 = .sl 15 none (list.map St.enc) ∧ E 16 = I list.length ∧ E 17 = I k)) ⟨x, _, hB, hX, by simp only [go_sem, rE, rA, rL, List.replicate, List.flatten_cons, List.flatten_nil, chunk], rfl, rfl, rfl, ⟨e0, e15, e16, e17⟩⟩ ?_
    clear hB hX g9 e0 e15 e16 e17
    rintro j E H hj2 ⟨x, y, hB, hX, e10, e66, e67, e68, e0, e15, e16, e17⟩
    simp only [wp_seq, go_sem, rE, rA, e67, e68]
    refine zzn (fun hlt => ?_) (fun hge => ?_)
    ·have hj1 : j < s.args.length := by omega
     have wj := yya (n := (j : Int) + 1) (by omega) (by omega)
     have hga : (s.args.map Ag.enc)[j]? = some [B s.args[j].lent, S s.args[j].place.name, zze s.args[j].place.path, I s.args[j].expr.kind, I s.args[j].expr.num, S s.args[j].expr.place.name, zze s.args[j].expr.place.path, .sl 5 none (Ex.encs s.args[j].expr.kids)] := by simp [hj1, ag_cells]
     have htk : (s.args.take (j + 1)).flatMap argW = (s.args.take j).flatMap argW ++ argW s.args[j] := by rw [List.take_succ_eq_append_getElem hj1, List.flatMap_append, List.flatMap_cons, List.flatMap_nil, List.append_nil]
     have hao := haok _ (List.getElem_mem hj1)
     have has := hps.2.1 _ (List.getElem_mem hj1)
     have hal2 : ∀ (as : List Ag), (as.flatMap argW).length = 2 * as.length := by
      intro as
      induction as with
      | nil => rfl
      | cons a as ih => rw [List.flatMap_cons, List.length_append, ih, argW]; split <;> simp <;> omega
     have hxl := hal2 (s.args.take j)
     have hxl2 : (s.args.take j).length = j := by simp; omega
     generalize s.args[j] = a at *
     have hwl : (argW a).length = 2 := by rw [argW]; split <;> rfl
     simp only [go_sem, rE, rA, rL, e66, e68, hga]
     intro b12 hb12
     have hB := hB.new hb12 (.cells [B a.lent, S a.place.name, zze a.place.path, I a.expr.kind, I a.expr.num, S a.expr.place.name, zze a.expr.place.path, .sl 5 none (Ex.encs a.expr.kids)])
     have hX := hX.new hb12 (.cells [B a.lent, S a.place.name, zze a.place.path, I a.expr.kind, I a.expr.num, S a.expr.place.name, zze a.expr.place.path, .sl 5 none (Ex.encs a.expr.kids)])
     have g12 := Heap.zzb H b12 (.cells [B a.lent, S a.place.name, zze a.place.path, I a.expr.kind, I a.expr.num, S a.expr.place.name, zze a.expr.place.path, .sl 5 none (Ex.encs a.expr.kids)])
     generalize (H.set b12 (.cells [B a.lent, S a.place.name, zze a.place.path, I a.expr.kind, I a.expr.num, S a.expr.place.name, zze a.expr.place.path, .sl 5 none (Ex.encs a.expr.kids)])) = H5 at *
     have aok : a.okB = if a.lent then a.place.okB && a.expr.noneB else a.place.noneB && a.expr.okD 4 := rfl
     rw [aok] at hao
     have fin : ∀ (H6 : Heap) (y' : AC), AppSt H6 1 ((([bn [99, 97, 108, 108], by_ s.name, by_ s.fn] ++ (s.args.take j).flatMap argW).map fun r => [Tx r]) ++ (argW a).map fun r => [Tx r]) y' → (∀ c, H5.get c ≠ none → ¬ tokOf y c → H6.get c = H5.get c) → Bld F H6 b l1 x ∧ AppSt H6 1 (([bn [99, 97, 108, 108], by_ s.name, by_ s.fn] ++ (s.args.take (j + 1)).flatMap argW).map fun r => [Tx r]) y' := by
      intro H6 y' h1 h2
      refine ⟨hB.mono fun c hc => h2 c (by obtain ⟨t, cs, hm⟩ := hB.mem hc; rw [hm]; simp) fun ht => ?_, ?_⟩
      ·obtain ⟨t, cs, hm⟩ := hB.mem hc
       obtain ⟨n, m, hm2⟩ := hX.mem ht
       rw [hm] at hm2; simp at hm2
      ·rw [htk, ← List.append_assoc, List.map_append]; exact h1
     cases hl : a.lent
     ·simp only [hl, Bool.false_eq_true, if_false, Bool.and_eq_true] at hao
      simp only [go_sem, rE, rA, rL, g12, e10, hl]
      refine zzc (c_exprText L T Z 4 (by omega) a.expr hao.2 has) (by simp only [go_sem, rE, rA, rL, Ex.enc_eq a.expr]) ?_
      simp only [go_sem, rE, rA, rL, List.replicate, List.flatten_cons, List.flatten_nil, chunk]
      refine run_appM2 (es := ([bn [99, 97, 108, 108], by_ s.name, by_ s.fn] ++ (s.args.take j).flatMap argW).map fun r => [Tx r]) (ys := (argW a).map fun r => [Tx r]) (by simp only [go_sem, rE, rA, rL, e10]; exact hX) (by simp only [go_sem, rE, rA, rL, argW, hl, Bool.false_eq_true, if_false, List.map_cons, List.map_nil]; rfl) (by simp [argW, hl]) (by simp only [List.length_map, List.length_append, hxl, hwl, List.length_cons, List.length_nil]; omega) ?_
      rintro y' H6 fp h1 - h2 -
      simp only [go_sem, rE, rA, rL, e10] at h2
      obtain ⟨q1, q2⟩ := fin H6 y' h1 h2
      simp only [go_sem, rE, rA, rL, e68, wj]
      exact ⟨hj1, H6, Heap.zzm _, x, y', q1, q2, rfl, e66, e67, rfl, ⟨e0, e15, e16, e17⟩⟩
     ·simp only [hl, if_true, Bool.and_eq_true] at hao
      simp only [go_sem, rE, rA, rL, g12, e10, hl]
      refine zzc (c_placeText L Z a.place hao.1) (by simp only [go_sem, rE, rA, rL, Pl.enc]) ?_
      simp only [go_sem, rE, rA, rL, List.replicate, List.flatten_cons, List.flatten_nil, chunk]
      refine run_appM2 (es := ([bn [99, 97, 108, 108], by_ s.name, by_ s.fn] ++ (s.args.take j).flatMap argW).map fun r => [Tx r]) (ys := (argW a).map fun r => [Tx r]) (by simp only [go_sem, rE, rA, rL, e10]; exact hX) (by simp only [go_sem, rE, rA, rL, argW, hl, if_true, List.map_cons, List.map_nil]; rfl) (by simp [argW, hl]) (by simp only [List.length_map, List.length_append, hxl, hwl, List.length_cons, List.length_nil]; omega) ?_
      rintro y' H6 fp h1 - h2 -
      simp only [go_sem, rE, rA, rL, e10] at h2
      obtain ⟨q1, q2⟩ := fin H6 y' h1 h2
      simp only [go_sem, rE, rA, rL, e68, wj]
      exact ⟨hj1, H6, Heap.zzm _, x, y', q1, q2, rfl, e66, e67, rfl, ⟨e0, e15, e16, e17⟩⟩
    ·have hkk : j = s.args.length := by omega
     subst hkk
     rw [List.take_length] at hX
     rcases hX with ⟨h, -⟩ | ⟨bt, n, m, hy, -⟩
     ·simp at h
     subst hy
     simp only [go_sem, rE, rA, rL, e0, e10]
     refine xxj L Z (bn [99, 97, 108, 108] :: by_ s.name :: by_ s.fn :: s.args.flatMap argW) (some (bt, n, m)) hB (by simp only [go_sem, rE, rA, rL, List.cons_append]) ?_ (lln _ hj) ?_
     ·have hal2 : ∀ (as : List Ag), (as.flatMap argW).length = 2 * as.length := by
       intro as
       induction as with
       | nil => rfl
       | cons a as ih => rw [List.flatMap_cons, List.length_append, ih, argW]; split <;> simp <;> omega
      simp only [List.length_cons, hal2]; omega
     rintro q H4 x4 fp hB4 -
     simp only [go_sem, rE, rA, rL]
     exact out _ _ x4 _ hj hB4 (⟨e0, e15, e16, e17⟩)
   ·rw [shS_5 k5, rest5_of k5 hok]
    have hj : lineL s = (joinL [bn [105, 102], sayL s.expr] ++ bn [10]) ++ xxb s.thn ++ (joinL [bn [101, 108, 115, 101]] ++ bn [10]) ++ xxb s.els ++ (joinL [bn [101, 110, 100]] ++ bn [10]) := by
     rw [hln, if_neg (by omega), if_neg (by omega), if_neg (by omega), if_neg (by omega), if_neg (by omega)]; simp [joinL, bn, List.append_assoc]
    have hj2 := congrArg List.length hj
    simp only [List.length_append] at hj2
    have b1 : (bn [10]).length = 1 := rfl
    rw [b1] at hj2
    simp only [go_sem, rE, rA, rL, if_true, T.s15, T.s25, T.s35, T.s45, if_false, e0]
    intro b9 hb9
    have hB := hB.new hb9 (.cells [I s.expr.kind, I s.expr.num, S s.expr.place.name, zze s.expr.place.path, .sl 5 none (Ex.encs s.expr.kids), .sl 15 none (St.encs s.thn), .sl 15 none (St.encs s.els)])
    have g9 := Heap.zzb H2 b9 (.cells [I s.expr.kind, I s.expr.num, S s.expr.place.name, zze s.expr.place.path, .sl 5 none (Ex.encs s.expr.kids), .sl 15 none (St.encs s.thn), .sl 15 none (St.encs s.els)])
    generalize (H2.set b9 (.cells [I s.expr.kind, I s.expr.num, S s.expr.place.name, zze s.expr.place.path, .sl 5 none (Ex.encs s.expr.kids), .sl 15 none (St.encs s.thn), .sl 15 none (St.encs s.els)])) = H3 at *
    refine zzc (c_exprText L T Z 4 (by omega) s.expr he hps.1) (by simp only [go_sem, rE, rA, rL, Ex.enc_eq s.expr]) ?_
    simp only [go_sem, rE, rA, rL]
    intro b6 hb6
    have g9 := (Heap.zza H3 (.tail 2 2) (zzj g9 hb6)).trans g9
    refine xxj L Z [bn [105, 102], sayL s.expr] (some (b6, 2, 2)) (hB.new hb6 (.tail 2 2)) (rfl) (by simp) (by omega) ?_
    rintro q H4 x4 fp hB4 hk4
    have g9 := bld_keep (hB.new hb6 (.tail 2 2)) hk4 g9
    clear hk4 hB hb6
    simp only [go_sem, rE, rA, rL, e0, g9]
    refine run_bld (ih s.thn b _ ht hps.2.2.1 (by omega) (by simp only [List.length_append, b1]; omega)) hB4 (rfl) (.refl _) (by simp only [List.length_append, b1]; omega) ?_
    rintro q H5 x5 fp hB5 hk5 - -
    have g9 := bld_keep hB4 hk5 g9
    clear hk5 hB4
    simp only [go_sem, rE, rA, rL, e0]
    intro b7 hb7
    have g9 := (Heap.zza H5 (.tail 1 1) (zzj g9 hb7)).trans g9
    refine xxj L Z [bn [101, 108, 115, 101]] (some (b7, 1, 1)) (hB5.new hb7 (.tail 1 1)) (rfl) (by simp) (by simp only [List.length_append, b1]; omega) ?_
    rintro q H6 x6 fp hB6 hk6
    have g9 := bld_keep (hB5.new hb7 (.tail 1 1)) hk6 g9
    clear hk6 hB5 hb7
    simp only [go_sem, rE, rA, rL, e0, g9]
    refine run_bld (ih s.els b _ hl hps.2.2.2 (by omega) (by simp only [List.length_append, b1]; omega)) hB6 (rfl) (.refl _) (by simp only [List.length_append, b1]; omega) ?_
    rintro q H7 x7 fp hB7 - - -
    simp only [go_sem, rE, rA, rL, e0]
    intro b8 hb8
    refine xxj L Z [bn [101, 110, 100]] (some (b8, 1, 1)) (hB7.new hb8 (.tail 1 1)) (rfl) (by simp) (by simp only [List.length_append, b1]; omega) ?_
    rintro q H8 x8 fp hB8 -
    simp only [go_sem, rE, rA, rL]
    exact ⟨x8, by rw [hj]; simpa only [List.append_assoc] using hB8, ⟨e0, e15, e16, e17⟩⟩
   ·rw [shS_6 k6, rest6_of k6 hok]
    have hj : lineL s = joinL [bn [112, 105, 99, 107], by_ s.name, atL s.place, atL s.other, sayL s.expr] ++ bn [10] := by rw [hln, if_neg (by omega), if_neg (by omega), if_pos k6]; simp [joinL, bn, List.append_assoc]
    simp only [go_sem, rE, rA, rL, if_true, T.s16, T.s26, T.s36, T.s46, T.s56, if_false, e0]
    intro b9 hb9
    have hB := hB.new hb9 (.cells [S s.name, S s.place.name, zze s.place.path, S s.other.name, zze s.other.path, I s.expr.kind, I s.expr.num, S s.expr.place.name, zze s.expr.place.path, .sl 5 none (Ex.encs s.expr.kids)])
    have g9 := Heap.zzb H2 b9 (.cells [S s.name, S s.place.name, zze s.place.path, S s.other.name, zze s.other.path, I s.expr.kind, I s.expr.num, S s.expr.place.name, zze s.expr.place.path, .sl 5 none (Ex.encs s.expr.kids)])
    generalize (H2.set b9 (.cells [S s.name, S s.place.name, zze s.place.path, S s.other.name, zze s.other.path, I s.expr.kind, I s.expr.num, S s.expr.place.name, zze s.expr.place.path, .sl 5 none (Ex.encs s.expr.kids)])) = H3 at *
    refine zzc (c_placeText L Z s.place hp) (by simp only [go_sem, rE, rA, rL, Pl.enc]) ?_
    simp only [go_sem, rE, rA, rL, g9, chkL, List.mem_cons, List.not_mem_nil, or_false, forall_eq, false_or, reduceCtorEq, not_false_eq_true, implies_true, true_and, not_true_eq_false, forall_eq_or_imp, and_true]
    refine zzc (c_placeText L Z s.other ho) (by simp only [go_sem, rE, rA, rL, Pl.enc]) ?_
    simp only [go_sem, rE, rA, rL, g9, chkL, List.mem_cons, List.not_mem_nil, or_false, forall_eq, false_or, reduceCtorEq, not_false_eq_true, implies_true, true_and, not_true_eq_false, forall_eq_or_imp, and_true]
    refine zzc (c_exprText L T Z 4 (by omega) s.expr he hps.1) (by simp only [go_sem, rE, rA, rL, Ex.enc_eq s.expr]) ?_
    simp only [go_sem, rE, rA, rL, g9, chkL, List.mem_cons, List.not_mem_nil, or_false, forall_eq, false_or, reduceCtorEq, not_false_eq_true, implies_true, true_and, not_true_eq_false, forall_eq_or_imp, and_true]
    intro b6 hb6
    refine xxj L Z [bn [112, 105, 99, 107], by_ s.name, atL s.place, atL s.other, sayL s.expr] (some (b6, 5, 5)) (hB.new hb6 _) (rfl) (by simp) (lln _ hj) ?_
    rintro q H4 x4 fp hB4 -
    simp only [go_sem, rE, rA, rL]
    exact out _ _ x4 [bn [112, 105, 99, 107], by_ s.name, atL s.place, atL s.other, sayL s.expr] hj hB4 (⟨e0, e15, e16, e17⟩)
  ·rintro E' H' ⟨x, hB', f0, f15, f16, f17⟩
   simp only [go_sem, rE, rA, rL, f17, w1]
   exact ⟨hk1, H', Heap.zzm _, x, by rw [hsl]; exact hB', f0, f15, f16, rfl⟩
 ·have hkk : k = list.length := by omega
  subst hkk
  rw [List.take_length] at hB
  simp only [go_sem, rE]
  exact post_bld hB
theorem c_stmtsWrite (L : Lib P F) (T : Tys F) (Z : Shf P F) : ∀ (d i : Nat) (list : List St) (b : Nat) (l : List UInt8), xxc d list = true → (∀ s ∈ list, s.sm i) → St.cntL list ≤ 2 ^ 20 → l.length + (xxb list).length ≤ 2 ^ 40 → BldC P F F.i_stmtsWrite [.ptr b 0, .sl 15 none (St.encs list)] b l (l ++ xxb list)
 | 0, i, list, b, l, h, _, _, _ => by simp [xxc] at h
 | d + 1, i, list, b, l, h, h2, h3, h4 => by
   simp only [xxc, Bool.and_eq_true, List.all_eq_true] at h
   exact c_stmtsWriteW L T Z d i (fun list b l => c_stmtsWrite L T Z d (i - 1) list b l) list b l h.2 h2 h3 h4
end
end Go.Xl
namespace Go.Xl
open Nat renaming reduceEqDiff → rE, reduceAdd → rA, reduceLeDiff → rL
theorem pa_line (p : Pa) : paL p = joinL [if p.lent then bn [108, 101, 110, 116] else bn [104, 97, 115], by_ p.name, typL p.type] ++ bn [10] := by
 rw [paL]; cases p.lent <;> simp [joinL, bn, List.append_assoc]
section
variable {P : Program} {F : Ids}
theorem c_fnWrite (L : Lib P F) (T : Tys F) (Z : Shf P F) (f : Fu) (hf : f.okB = true) (hs : ∀ s ∈ f.body, s.sm 3) (hsay : f.lent = false → f.says.sm) (hc : St.cntL f.body ≤ 2 ^ 20) (b : Nat) (l : List UInt8) (hlen : l.length + (fnL f).length ≤ 2 ^ 40) :
 BldC P F F.i_fnWrite [.ptr b 0, .agg f.enc] b l (l ++ fnL f) := by
 intro H x hB ho
 refine L.i_fnWrite (by simp [x_i_fnWrite]) ?_
 have hfo := hf
 simp only [Fu.okB, Bool.and_eq_true, decide_eq_true_eq, List.all_eq_true] at hf
 obtain ⟨hn, hp4, hty, hbd, -, hpa, hend⟩ := hf
 have hty : f.type.deepB 4 = true := hty
 have hfl : fnL f = (joinL [bn [102, 110], by_ f.name] ++ bn [10]) ++ f.params.flatMap paL ++ xxb f.body ++ endL f := by rw [fnL]; simp [joinL, bn, List.append_assoc]
 have hl2 := congrArg List.length hfl
 simp only [List.length_append] at hl2
 have b1 : (bn [10]).length = 1 := rfl
 rw [b1] at hl2
 rw [Fu.enc_eq]
 simp only [x_i_fnWrite, go_sem, rE, rA, rL]
 intro b3 hb3
 have hB := hB.new hb3 (.cells [S f.name, .sl 3 none (f.params.map Pa.enc), B f.lent, .sl 1 none (Ty.encs f.type.kids), .sl 15 none (St.encs f.body), I f.says.kind, I f.says.num, S f.says.place.name, zze f.says.place.path, .sl 5 none (Ex.encs f.says.kids), S f.gives.name, zze f.gives.path])
 have g3 := Heap.zzb H b3 (.cells [S f.name, .sl 3 none (f.params.map Pa.enc), B f.lent, .sl 1 none (Ty.encs f.type.kids), .sl 15 none (St.encs f.body), I f.says.kind, I f.says.num, S f.says.place.name, zze f.says.place.path, .sl 5 none (Ex.encs f.says.kids), S f.gives.name, zze f.gives.path])
 generalize (H.set b3 (.cells [S f.name, .sl 3 none (f.params.map Pa.enc), B f.lent, .sl 1 none (Ty.encs f.type.kids), .sl 15 none (St.encs f.body), I f.says.kind, I f.says.num, S f.says.place.name, zze f.says.place.path, .sl 5 none (Ex.encs f.says.kids), S f.gives.name, zze f.gives.path])) = H2 at *
 intro b6 hb6
 have g3 := (Heap.zza H2 (.tail 2 2) (zzj g3 hb6)).trans g3
 refine xxj L Z [bn [102, 110], by_ f.name] (some (b6, 2, 2)) (hB.new hb6 (.tail 2 2)) (rfl) (by simp) (by omega) ?_
 rintro q H4 x4 fp hB4 hk4
 have g3 := bld_keep (hB.new hb6 (.tail 2 2)) hk4 g3
 clear hk4 hB hb6 hb3
 simp only [go_sem, rE, rA, rL, g3, List.length_map]
 have hlt : ∀ k, k ≤ f.params.length → ((f.params.take k).flatMap paL).length ≤ (f.params.flatMap paL).length := fun k _ => by
  conv => rhs; rw [← List.take_append_drop k f.params, List.flatMap_append, List.length_append]
  omega
 refine yyc f.params.length (fun k E H => ∃ x, Bld F H b (l ++ (joinL [bn [102, 110], by_ f.name] ++ bn [10]) ++ (f.params.take k).flatMap paL) x ∧ H.get b3 = some (.cells [S f.name, .sl 3 none (f.params.map Pa.enc), B f.lent, .sl 1 none (Ty.encs f.type.kids), .sl 15 none (St.encs f.body), I f.says.kind, I f.says.num, S f.says.place.name, zze f.says.place.path, .sl 5 none (Ex.encs f.says.kids), S f.gives.name, zze f.gives.path]) ∧ E 0 = .ptr b 0 ∧ E 3 = .ptr b3 0 ∧ E 13 = .sl 3 none (f.params.map Pa.enc) ∧ E 14 = I f.params.length ∧ E 15 = I k) ⟨x4, by simpa only [List.take_zero, List.flatMap_nil, List.append_nil, List.append_assoc] using hB4, g3, rfl, rfl, rfl, rfl, rfl⟩ ?_
 clear hB4 g3
 rintro k E H hk ⟨x, hB, g3, e0, e3, e13, e14, e15⟩
 simp only [wp_seq, go_sem, rE, rA, e14, e15]
 refine zzn (fun hlt' => ?_) (fun hge => ?_)
 ·have hk1 : k < f.params.length := by omega
  have w1 := yya (n := (k : Int) + 1) (by omega) (by omega)
  have hgp : (f.params.map Pa.enc)[k]? = some [S f.params[k].name, B f.params[k].lent, .sl 1 none (Ty.encs f.params[k].type.kids)] := by simp [hk1, Pa.enc, Ty.enc_eq]
  have htk : (f.params.take (k + 1)).flatMap paL = (f.params.take k).flatMap paL ++ paL f.params[k] := by rw [List.take_succ_eq_append_getElem hk1, List.flatMap_append, List.flatMap_cons, List.flatMap_nil, List.append_nil]
  have hpk := hpa _ (List.getElem_mem hk1)
  have hlk := hlt (k + 1) (by omega)
  rw [htk] at hlk
  have hpl := pa_line f.params[k]
  generalize f.params[k] = p at *
  simp only [Pa.okB, Bool.and_eq_true] at hpk
  have hpt : p.type.deepB 4 = true := hpk.2
  have hpl2 := congrArg List.length hpl
  simp only [List.length_append] at hpl2 hlk
  rw [b1] at hpl2
  simp only [go_sem, rE, rA, rL, e13, e15, hgp]
  intro b5 hb5
  have hB := hB.new hb5 (.cells [S p.name, B p.lent, .sl 1 none (Ty.encs p.type.kids)])
  have g3 := (Heap.zza H (.cells [S p.name, B p.lent, .sl 1 none (Ty.encs p.type.kids)]) (zzj g3 hb5)).trans g3
  have g5 := Heap.zzb H b5 (.cells [S p.name, B p.lent, .sl 1 none (Ty.encs p.type.kids)])
  generalize (H.set b5 (.cells [S p.name, B p.lent, .sl 1 none (Ty.encs p.type.kids)])) = H2 at *
  cases hl : p.lent
  ·rw [hl] at hpl g5 hpl2
   simp only [go_sem, rE, rA, rL, g5, e0, hl]
   refine zzc (c_typeWords L 4 (by omega) p.type hpt) (by simp only [go_sem, rE, rA, rL, Ty.enc_eq]) ?_
   simp only [go_sem, rE, rA, rL, g5, chkL, List.mem_cons, List.not_mem_nil, or_false, forall_eq, false_or, reduceCtorEq, not_false_eq_true, implies_true, true_and, not_true_eq_false, forall_eq_or_imp, and_true]
   intro b6 hb6
   have g3 := (Heap.zza H2 (.tail 3 3) (zzj g3 hb6)).trans g3
   refine xxj L Z [bn [104, 97, 115], by_ p.name, typL p.type] (some (b6, 3, 3)) (hB.new hb6 (.tail 3 3)) (rfl) (by simp) (by simp only [List.length_append, b1] at hpl2 ⊢; simp only [if_true, if_false, Bool.false_eq_true] at hpl2; omega) ?_
   rintro q H4 x4 fp hB4 hk4
   have g3 := bld_keep (hB.new hb6 (.tail 3 3)) hk4 g3
   simp only [go_sem, rE, rA, rL, e15, w1]
   refine ⟨hk1, H4, Heap.zzm _, x4, ?_, g3, e0, e3, e13, e14, rfl⟩
   rw [htk, hpl]
   simpa only [if_true, if_false, Bool.false_eq_true, List.append_assoc] using hB4
  ·rw [hl] at hpl g5 hpl2
   simp only [go_sem, rE, rA, rL, g5, e0, hl]
   refine zzc (c_typeWords L 4 (by omega) p.type hpt) (by simp only [go_sem, rE, rA, rL, Ty.enc_eq]) ?_
   simp only [go_sem, rE, rA, rL, g5, chkL, List.mem_cons, List.not_mem_nil, or_false, forall_eq, false_or, reduceCtorEq, not_false_eq_true, implies_true, true_and, not_true_eq_false, forall_eq_or_imp, and_true]
   intro b6 hb6
   have g3 := (Heap.zza H2 (.tail 3 3) (zzj g3 hb6)).trans g3
   refine xxj L Z [bn [108, 101, 110, 116], by_ p.name, typL p.type] (some (b6, 3, 3)) (hB.new hb6 (.tail 3 3)) (rfl) (by simp) (by simp only [List.length_append, b1] at hpl2 ⊢; simp only [if_true, if_false, Bool.false_eq_true] at hpl2; omega) ?_
   rintro q H4 x4 fp hB4 hk4
   have g3 := bld_keep (hB.new hb6 (.tail 3 3)) hk4 g3
   simp only [go_sem, rE, rA, rL, e15, w1]
   refine ⟨hk1, H4, Heap.zzm _, x4, ?_, g3, e0, e3, e13, e14, rfl⟩
   rw [htk, hpl]
   simpa only [if_true, if_false, Bool.false_eq_true, List.append_assoc] using hB4
 ·have hkk : k = f.params.length := by omega
  subst hkk
  rw [List.take_length] at hB
  simp only [go_sem, rE, rA, rL, e0, e3, g3]
  refine run_bld (c_stmtsWrite L T Z 4 3 f.body b _ hbd hs hc (by simp only [List.length_append, b1]; omega)) hB (rfl) (.refl _) (by simp only [List.length_append, b1]; omega) ?_
  rintro q H5 x5 fp hB5 hk5 - -
  have g3 := bld_keep hB hk5 g3
  clear hk5 hB
  simp only [go_sem, rE, rA, rL, e0, e3, g3]
  cases hl : f.lent
  ·rw [hl] at hend
   simp only [Bool.false_eq_true, if_false, Bool.and_eq_true] at hend
   have he : endL f = joinL [bn [115, 97, 121, 115], typL f.type, sayL f.says] ++ bn [10] := by rw [endL, if_neg (by rw [hl]; exact Bool.false_ne_true)]; simp [joinL, bn, List.append_assoc]
   have he2 := congrArg List.length he
   simp only [List.length_append] at he2
   rw [b1] at he2
   rw [hl] at g3
   simp only [go_sem, rE, rA, rL, e0, e3, g3, hl]
   refine zzc (c_typeWords L 4 (by omega) f.type hty) (by simp only [go_sem, rE, rA, rL, Ty.enc_eq]) ?_
   simp only [go_sem, rE, rA, rL, g3, e3, chkL, List.mem_cons, List.not_mem_nil, or_false, forall_eq, false_or, reduceCtorEq, not_false_eq_true, implies_true, true_and, not_true_eq_false, forall_eq_or_imp, and_true]
   refine zzc (c_exprText L T Z 4 (by omega) f.says hend.2 (hsay hl)) (by simp only [go_sem, rE, rA, rL, Ex.enc_eq]) ?_
   simp only [go_sem, rE, rA, rL, g3, e0, chkL, List.mem_cons, List.not_mem_nil, or_false, forall_eq, false_or, reduceCtorEq, not_false_eq_true, implies_true, true_and, not_true_eq_false, forall_eq_or_imp, and_true]
   intro b7 hb7
   refine xxj L Z [bn [115, 97, 121, 115], typL f.type, sayL f.says] (some (b7, 3, 3)) (hB5.new hb7 (.tail 3 3)) (rfl) (by simp) (by simp only [List.length_append, b1]; omega) ?_
   rintro q H6 x6 fp hB6 -
   simp only [go_sem, rE, rA, rL]
   refine post_bld (x := x6) ?_
   rw [hfl, he]; simpa only [List.append_assoc] using hB6
  ·rw [hl] at hend
   simp only [if_true, Bool.and_eq_true] at hend
   have he : endL f = joinL [bn [103, 105, 118, 101, 115], typL f.type, atL f.gives] ++ bn [10] := by rw [endL, if_pos hl]; simp [joinL, bn, List.append_assoc]
   have he2 := congrArg List.length he
   simp only [List.length_append] at he2
   rw [b1] at he2
   rw [hl] at g3
   simp only [go_sem, rE, rA, rL, e0, e3, g3, hl]
   refine zzc (c_typeWords L 4 (by omega) f.type hty) (by simp only [go_sem, rE, rA, rL, Ty.enc_eq]) ?_
   simp only [go_sem, rE, rA, rL, g3, e3, chkL, List.mem_cons, List.not_mem_nil, or_false, forall_eq, false_or, reduceCtorEq, not_false_eq_true, implies_true, true_and, not_true_eq_false, forall_eq_or_imp, and_true]
   refine zzc (c_placeText L Z f.gives hend.1) (by simp only [go_sem, rE, rA, rL, Pl.enc]) ?_
   simp only [go_sem, rE, rA, rL, g3, e0, chkL, List.mem_cons, List.not_mem_nil, or_false, forall_eq, false_or, reduceCtorEq, not_false_eq_true, implies_true, true_and, not_true_eq_false, forall_eq_or_imp, and_true]
   intro b7 hb7
   refine xxj L Z [bn [103, 105, 118, 101, 115], typL f.type, atL f.gives] (some (b7, 3, 3)) (hB5.new hb7 (.tail 3 3)) (rfl) (by simp) (by simp only [List.length_append, b1]; omega) ?_
   rintro q H6 x6 fp hB6 -
   simp only [go_sem, rE, rA, rL]
   refine post_bld (x := x6) ?_
   rw [hfl, he]; simpa only [List.append_assoc] using hB6
theorem c_iProgWrite (L : Lib P F) (T : Tys F) (Z : Shf P F) (p : Pg) (hc : ∀ f ∈ p, St.cntL f.body ≤ 2 ^ 20 ∧ (∀ s ∈ f.body, s.sm 3) ∧ (f.lent = false → f.says.sm)) : Pure1 P F.i_ProgWrite [.agg (Pg.enc p)] (Tx (writeL p)) := by
 refine L.i_ProgWrite (by simp [x_i_ProgWrite]) ?_
 simp only [x_i_ProgWrite, go_sem, rE, rA, rL, Pg.enc]
 intro b1 hb1
 have g1 := Heap.zzb .empty b1 (.cells [.sl 12 none (p.map Fu.enc)])
 generalize (Heap.empty.set b1 (.cells [.sl 12 none (p.map Fu.enc)])) = H1 at *
 have fin : ∀ (E' : Env) (H' : Heap) (q : List UInt8), E' 2 = Tx q → q = writeL p → XFunc.post [.slot 2] (fun q H' => q = Tx (writeL p) ∧ H' = .empty) .ret E' H' := fun E' H' q h1 h2 => zzd (by rw [h1, h2]; exact .refl _) (Heap.zzf _) ⟨rfl, rfl⟩
 refine zzc (c_progForm L T p fun f hf => ⟨(hc f hf).1, (hc f hf).2.1⟩) (by simp only [go_sem, rE, rA, rL, Pg.enc]) ?_
 cases hok : formOk p
 ·simp only [go_sem, rE, rA, rL]
  exact fin _ _ [] (rfl) (by rw [writeL, hok]; rfl)
 simp only [go_sem, rE, rA, rL, Array.size_replicate]
 intro b3 hb3
 have hB : Bld F (H1.set b3 (.typed F.T_strings_Builder [.lit (.pointer none), NIL])) b3 [] NIL := ⟨⟨_, .inl rfl, Heap.zzb _ _ _⟩, .inl ⟨rfl, rfl⟩⟩
 have g1 := (Heap.zza H1 (.typed F.T_strings_Builder [.lit (.pointer none), NIL]) (zzj g1 hb3)).trans g1
 have hfm := hok
 simp only [formOk, Bool.and_eq_true, decide_eq_true_eq, List.all_eq_true] at hfm
 have hfn := fnsL_len (p := p) fun f hf => ⟨fuF (hfm.2 f hf), (hc f hf).1⟩
 have hfs : (fnsL p).length ≤ 2 ^ 32 := by have := Nat.mul_le_mul_left (400 * 2 ^ 20 + 1000) hfm.1; omega
 have hlt : ∀ k, ((fnsL (p.take k))).length + (fnsL (p.drop k)).length = (fnsL p).length := fun k => by
  conv => rhs; rw [← List.take_append_drop k p, fnsL, List.flatMap_append, List.length_append]
  rfl
 simp only [go_sem, rE, rA, rL, g1, List.length_map]
 refine yyc p.length (fun k E H => ∃ x, Bld F H b3 (fnsL (p.take k)) x ∧ E 3 = .ptr b3 0 ∧ E 10 = .sl 12 none (p.map Fu.enc) ∧ E 11 = I p.length ∧ E 12 = I k) ⟨NIL, by simpa [fnsL] using hB, rfl, rfl, rfl, rfl⟩ ?_
 clear hB g1 hb3
 rintro k E H hk ⟨x, hB, e3, e10, e11, e12⟩
 simp only [wp_seq, go_sem, rE, rA, e11, e12]
 refine zzn (fun hlt' => ?_) (fun hge => ?_)
 ·have hk1 : k < p.length := by omega
  have w1 := yya (n := (k : Int) + 1) (by omega) (by omega)
  have hg := fu_get hk1
  rw [Fu.enc_eq] at hg
  have hm := List.getElem_mem hk1
  have hcf := hc _ hm
  have hok1 := hfm.2 _ hm
  have hsn : fnsL (p.take (k + 1)) = fnsL (p.take k) ++ fnL p[k] := by rw [List.take_succ_eq_append_getElem hk1, fnsL_snoc]
  have hl := hlt (k + 1)
  rw [hsn, List.length_append] at hl
  generalize p[k] = f at *
  simp only [go_sem, rE, rA, rL, e10, e12, hg]
  intro b5 hb5
  refine run_bld (c_fnWrite L T Z f hok1 hcf.2.1 hcf.2.2 hcf.1 b3 (fnsL (p.take k)) (by omega)) (hB.new hb5 (.cells [S f.name, .sl 3 none (f.params.map Pa.enc), B f.lent, .sl 1 none (Ty.encs f.type.kids), .sl 15 none (St.encs f.body), I f.says.kind, I f.says.num, S f.says.place.name, zze f.says.place.path, .sl 5 none (Ex.encs f.says.kids), S f.gives.name, zze f.gives.path])) (by simp only [go_sem, rE, rA, rL, e3, Fu.enc_eq]) (.refl _) (by rw [List.length_append]; omega) ?_
  rintro q H4 x4 fp hB4 - - -
  simp only [go_sem, rE, rA, rL, e12, w1]
  exact ⟨hk1, H4, Heap.zzm _, x4, by rw [hsn]; exact hB4, e3, e10, e11, rfl⟩
 ·have hkk : k = p.length := by omega
  subst hkk
  rw [List.take_length] at hB
  simp only [go_sem, rE, rA, rL, e3]
  refine run_callS (bldBlk b3 x) (Z.len b3 _ _ x (by omega) hB.only only_blk) (by simp only [go_sem, rE, rA, rL, e3]) (.refl _) (by simp) trivial ?_
  rintro q H' H2 ⟨rfl, rfl⟩ hsub - - -
  have hB2 : Bld F H2 b3 (fnsL p) x := hB.mono fun d hd => by
   obtain ⟨t, cs, hm⟩ := hB.mem hd
   rw [hm]
   exact hsub _ _ ((Heap.xxf hd).trans hm)
  by_cases h6 : ((fnsL p).length : Int) > 6000
  ·simp only [go_sem, rE, rA, rL, h6, decide_true]
   exact fin _ _ [] (rfl) (by rw [writeL, hok, if_pos rfl, if_pos (by omega)])
  ·simp only [go_sem, rE, rA, rL, h6, decide_false]
   refine run_callS (bldBlk b3 x) (Z.str b3 _ _ x (by omega) hB2.only only_blk) (by simp only [go_sem, rE, rA, rL, e3]) (.refl _) (by simp) trivial ?_
   rintro q H' H3 ⟨rfl, rfl⟩ - - - -
   simp only [go_sem, rE, rA, rL]
   exact fin _ _ (fnsL p) (rfl) (by rw [writeL, hok, if_pos rfl, if_neg (by omega)])
end
end Go.Xl
namespace Go.Xl
open Nat renaming reduceEqDiff → rE, reduceAdd → rA, reduceLeDiff → rL
noncomputable def eqB {α : Type} (a b : α) : Bool := @decide (a = b) (Classical.propDecidable _)
theorem yye {α : Type} {a b : α} : eqB a b = true ↔ a = b := by simp [eqB]
theorem yyd {α : Type} {a b : α} : eqB a b = false ↔ a ≠ b := by simp [eqB]
theorem eqB_self {α : Type} (a : α) : eqB a a = true := yye.2 rfl
theorem zzg (a b : Int) : (a != b) = !eqB a b := by
 cases h : eqB a b
 ·simpa using yyd.1 h
 ·simpa using yye.1 h
theorem zzh (a b : Nat) : eqB (a : Int) (b : Int) = eqB a b := by
 cases h : eqB a b
 ·exact yyd.2 fun e => yyd.1 h (by omega)
 ·exact yye.2 (by rw [yye.1 h])
theorem zzi {α : Type} {a b : α} [Decidable (a = b)] : decide (a = b) = eqB a b := by
 cases h : eqB a b
 ·simpa using yyd.1 h
 ·simpa using yye.1 h
theorem bool_neq (a b : Bool) : (a == b) = eqB a b := by
 cases h : eqB a b
 ·simpa using yyd.1 h
 ·simpa using yye.1 h
theorem xxm {α : Type} {a b : List α} {k : Nat} (h : a.take k = b.take k) (h1 : k < a.length) (h2 : k < b.length) (he : a[k] = b[k]) : a.take (k + 1) = b.take (k + 1) := by
 rw [List.take_succ_eq_append_getElem h1, List.take_succ_eq_append_getElem h2, h, he]
theorem xxk {α : Type} {a b : List α} {k : Nat} (hk : ¬ k < a.length) (hk2 : k ≤ a.length) (hl : a.length = b.length) (h : a.take k = b.take k) : a = b := by
 rw [List.take_of_length_le (by omega), List.take_of_length_le (by omega)] at h; exact h
theorem get_ne {α : Type} {a b : List α} {k : Nat} (h1 : k < a.length) (h2 : k < b.length) (he : a[k] ≠ b[k]) : a ≠ b := fun e => he (by subst e; rfl)
theorem Ty.ext {a b : Ty} (h : a.kids = b.kids) : a = b := by cases a; cases b; simp only [Ty.kids] at h; rw [h]
theorem Ex.ext {a b : Ex} (h1 : a.kind = b.kind) (h2 : a.num = b.num) (h3 : a.place = b.place) (h4 : a.kids = b.kids) : a = b := by
 cases a; cases b; simp only [Ex.kind, Ex.num, Ex.place, Ex.kids] at h1 h2 h3 h4; rw [h1, h2, h3, h4]
theorem St.ext {a b : St} (h1 : a.kind = b.kind) (h2 : a.name = b.name) (h3 : a.place = b.place) (h4 : a.other = b.other) (h5 : a.expr = b.expr) (h6 : a.fn = b.fn) (h7 : a.args = b.args) (h8 : a.thn = b.thn) (h9 : a.els = b.els) : a = b := by
 cases a; cases b; simp only [St.kind, St.name, St.place, St.other, St.expr, St.fn, St.args, St.thn, St.els] at *; simp [*]
section
variable {P : Program} {F : Ids}
theorem c_lhInts (L : Lib P F) (a b : List Int) (hl : a.length ≤ 2 ^ 40) : Pure1 P F.l_lhInts [zze a, zze b] (B (eqB a b)) := by
 refine L.l_lhInts (by simp [x_l_lhInts]) ?_
 have fin : ∀ (E' : Env) (H' : Heap) (q : Bool), E' 4 = B q → q = eqB a b → XFunc.post [.slot 4] (fun q H' => q = B (eqB a b) ∧ H' = .empty) .ret E' H' := fun E' H' q h1 h2 => zzd (by rw [h1, h2]; exact .refl _) (Heap.zzf _) ⟨rfl, rfl⟩
 have no : ∀ (E' : Env) (H' : Heap), E' 4 = B false → a ≠ b → XFunc.post [.slot 4] (fun q H' => q = B (eqB a b) ∧ H' = .empty) .ret E' H' := fun E' H' h1 h2 => fin E' H' false h1 (yyd.2 h2).symm
 simp only [x_l_lhInts, go_sem, rE, rA, rL, zzg, zzh, zzi, zze, List.length_map]
 cases h0 : eqB a.length b.length
 ·simp only [go_sem, rE, rA, rL, zzg, zzh, zzi]
  exact no _ _ (rfl) fun e => yyd.1 h0 (by rw [e])
 have h0 := yye.1 h0
 simp only [go_sem, rE, rA, rL, zzg, zzh, zzi]
 refine yyc a.length (fun k E H => E 0 = .sl 1 none (a.map fun i => [I i]) ∧ E 1 = .sl 1 none (b.map fun i => [I i]) ∧ E 5 = I k ∧ a.take k = b.take k) ⟨rfl, rfl, rfl, rfl⟩ ?_
 rintro k E H hk ⟨e0, e1, e5, ht⟩
 simp only [go_sem, rE, rA, rL, zzg, zzh, zzi, e0, e5, List.length_map]
 refine zzn (fun hlt => ?_) (fun hge => ?_)
 ·have hk1 : k < a.length := by omega
  have hk2 : k < b.length := by omega
  have w1 := yya (n := (k : Int) + 1) (by omega) (by omega)
  simp only [go_sem, rE, rA, rL, zzg, zzh, zzi, e0, e1, e5, path_get hk1, path_get hk2]
  cases h1 : eqB a[k] b[k]
  ·simp only [go_sem, rE, rA, rL, zzg, zzh, zzi]
   exact no _ _ (rfl) (get_ne hk1 hk2 (yyd.1 h1))
  simp only [go_sem, rE, rA, rL, zzg, zzh, zzi, e5, w1]
  exact ⟨hk1, H, Heap.zzm _, e0, e1, rfl, xxm ht hk1 hk2 (yye.1 h1)⟩
 ·simp only [go_sem, rE, rA, rL, zzg, zzh, zzi]
  exact fin _ _ true (rfl) (by rw [xxk (by omega) hk h0 ht, eqB_self])
theorem c_lhPlace (L : Lib P F) (a b : Pl) (hl : a.path.length ≤ 2 ^ 40) : Pure1 P F.l_lhPlace [.agg a.enc, .agg b.enc] (B (eqB a b)) := by
 refine L.l_lhPlace (by simp [x_l_lhPlace]) ?_
 have fin : ∀ (E' : Env) (H' : Heap) (q : Bool), E' 4 = B q → q = eqB a b → XFunc.post [.slot 4] (fun q H' => q = B (eqB a b) ∧ H' = .empty) .ret E' H' := fun E' H' q h1 h2 => zzd (by rw [h1, h2]; exact .refl _) (Heap.zzf _) ⟨rfl, rfl⟩
 have no : ∀ (E' : Env) (H' : Heap), E' 4 = B false → a ≠ b → XFunc.post [.slot 4] (fun q H' => q = B (eqB a b) ∧ H' = .empty) .ret E' H' := fun E' H' h1 h2 => fin E' H' false h1 (yyd.2 h2).symm
 simp only [x_l_lhPlace, go_sem, rE, rA, rL, zzg, zzh, zzi, Pl.enc]
 intro b2 hb2 b3 hb3
 have d23 := zzj (Heap.zzb _ _ _) hb3
 have g2 := (Heap.zza (Heap.empty.set b2 (.cells [S a.name, zze a.path])) (.cells [S b.name, zze b.path]) d23).trans (Heap.zzb _ _ _)
 have g3 := Heap.zzb (Heap.empty.set b2 (.cells [S a.name, zze a.path])) b3 (.cells [S b.name, zze b.path])
 generalize (Heap.empty.set b2 (.cells [S a.name, zze a.path])).set b3 (.cells [S b.name, zze b.path]) = H0 at *
 simp only [go_sem, rE, rA, rL, zzg, zzh, zzi, g2, g3]
 cases h1 : eqB a.name b.name
 ·simp only [go_sem, rE, rA, rL, zzg, zzh, zzi]
  exact no _ _ (rfl) fun e => yyd.1 h1 (by rw [e])
 simp only [go_sem, rE, rA, rL, zzg, zzh, zzi, g2, g3]
 refine zzc (c_lhInts L a.path b.path hl) (rfl) ?_
 simp only [go_sem, rE, rA, rL, zzg, zzh, zzi]
 refine fin _ _ (eqB a.path b.path) (rfl) ?_
 have h1 := yye.1 h1
 cases h2 : eqB a.path b.path
 ·exact (yyd.2 fun e => yyd.1 h2 (by rw [e])).symm
 ·have h2 := yye.1 h2
  refine (yye.2 ?_).symm
  cases a; cases b; simp only at h1 h2; rw [h1, h2]
theorem Ty.deepB_kids {n : Nat} {t : Ty} (h : t.deepB (n + 1) = true) : t.kids.length ≤ 2 ∧ ∀ x ∈ t.kids, x.deepB n = true := by
 cases t
 simp only [Ty.deepB, Bool.and_eq_true, Bool.or_eq_true, decide_eq_true_eq, List.all_eq_true] at h
 exact ⟨by simp only [Ty.kids]; omega, h.2⟩
theorem c_lhType (L : Lib P F) : ∀ (n : Nat) (a b : Ty), a.deepB n = true → Pure1 P F.l_lhType [.agg a.enc, .agg b.enc] (B (eqB a b)) := by
 intro n
 induction n with
 | zero => intro a b h; cases a; simp [Ty.deepB] at h
 | succ n ih =>
   intro a b h
   obtain ⟨hal, hkid⟩ := Ty.deepB_kids h
   refine L.l_lhType (by simp [x_l_lhType]) ?_
   have fin : ∀ (E' : Env) (H' : Heap) (q : Bool), E' 4 = B q → q = eqB a b → XFunc.post [.slot 4] (fun q H' => q = B (eqB a b) ∧ H' = .empty) .ret E' H' := fun E' H' q h1 h2 => zzd (by rw [h1, h2]; exact .refl _) (Heap.zzf _) ⟨rfl, rfl⟩
   have no : ∀ (E' : Env) (H' : Heap), E' 4 = B false → a ≠ b → XFunc.post [.slot 4] (fun q H' => q = B (eqB a b) ∧ H' = .empty) .ret E' H' := fun E' H' h1 h2 => fin E' H' false h1 (yyd.2 h2).symm
   rw [Ty.enc_eq, Ty.enc_eq]
   simp only [x_l_lhType, go_sem, rE, rA, rL, zzg, zzh, zzi]
   intro b2 hb2 b3 hb3
   have d23 := zzj (Heap.zzb _ _ _) hb3
   have g2 := (Heap.zza (Heap.empty.set b2 (.cells [.sl 1 none (Ty.encs a.kids)])) (.cells [.sl 1 none (Ty.encs b.kids)]) d23).trans (Heap.zzb _ _ _)
   have g3 := Heap.zzb (Heap.empty.set b2 (.cells [.sl 1 none (Ty.encs a.kids)])) b3 (.cells [.sl 1 none (Ty.encs b.kids)])
   generalize (Heap.empty.set b2 (.cells [.sl 1 none (Ty.encs a.kids)])).set b3 (.cells [.sl 1 none (Ty.encs b.kids)]) = H0 at *
   simp only [go_sem, rE, rA, rL, zzg, zzh, zzi, g2, g3, Ty.zzk, List.length_map]
   cases h0 : eqB a.kids.length b.kids.length
   ·simp only [go_sem, rE, rA, rL, zzg, zzh, zzi]
    exact no _ _ (rfl) fun e => yyd.1 h0 (by rw [e])
   have h0 := yye.1 h0
   simp only [go_sem, rE, rA, rL, zzg, zzh, zzi]
   refine yyc a.kids.length (fun k E H => E 2 = .ptr b2 0 ∧ E 3 = .ptr b3 0 ∧ H.get b2 = some (.cells [.sl 1 none (a.kids.map Ty.enc)]) ∧ H.get b3 = some (.cells [.sl 1 none (b.kids.map Ty.enc)]) ∧ E 5 = I k ∧ a.kids.take k = b.kids.take k) ⟨rfl, rfl, by rw [← Ty.zzk]; exact g2, by rw [← Ty.zzk]; exact g3, rfl, rfl⟩ ?_
   clear g2 g3
   rintro k E H hk ⟨e2, e3, g2, g3, e5, ht⟩
   simp only [go_sem, rE, rA, rL, zzg, zzh, zzi, e2, e5, g2, List.length_map]
   refine zzn (fun hlt => ?_) (fun hge => ?_)
   ·have hk1 : k < a.kids.length := by omega
    have hk2 : k < b.kids.length := by omega
    have w1 := yya (n := (k : Int) + 1) (by omega) (by omega)
    have ga : (a.kids.map Ty.enc)[k]? = some [.sl 1 none (Ty.encs a.kids[k].kids)] := by simp [hk1, Ty.enc_eq]
    have gb : (b.kids.map Ty.enc)[k]? = some [.sl 1 none (Ty.encs b.kids[k].kids)] := by simp [hk2, Ty.enc_eq]
    simp only [go_sem, rE, rA, rL, zzg, zzh, zzi, e2, e3, e5, g2, g3, ga, gb]
    refine zzc (ih a.kids[k] b.kids[k] (hkid _ (List.getElem_mem hk1))) (by simp only [go_sem, rE, rA, rL, zzg, zzh, zzi, Ty.enc_eq]) ?_
    cases h1 : eqB a.kids[k] b.kids[k]
    ·simp only [go_sem, rE, rA, rL, zzg, zzh, zzi]
     exact no _ _ (rfl) fun e => get_ne hk1 hk2 (yyd.1 h1) (by rw [e])
    simp only [go_sem, rE, rA, rL, zzg, zzh, zzi, e5, w1]
    exact ⟨hk1, H, Heap.zzm _, e2, e3, g2, g3, rfl, xxm ht hk1 hk2 (yye.1 h1)⟩
   ·simp only [go_sem, rE, rA, rL, zzg, zzh, zzi]
    exact fin _ _ true (rfl) (by rw [Ty.ext (xxk (by omega) hk h0 ht), eqB_self])
theorem Ex.okD_kids {d : Nat} {e : Ex} (h : e.okD (d + 1) = true) : e.kids.length ≤ 2 ∧ ∀ x ∈ e.kids, x.okD d = true := by
 obtain ⟨d', hd, h | h | h⟩ := Ex.okD_get h
 ·have := okD_one d h.1
  rw [‹e.okD (d + 1) = true›] at this
  simp only [Eq.comm (a := true), Bool.and_eq_true, decide_eq_true_eq] at this
  rw [List.eq_nil_of_length_eq_zero this.1.2]; simp
 ·have := okD_read d h.1
  rw [‹e.okD (d + 1) = true›] at this
  simp only [Eq.comm (a := true), Bool.and_eq_true, decide_eq_true_eq] at this
  rw [List.eq_nil_of_length_eq_zero this.1.2]; simp
 ·obtain ⟨-, -, -, -, a, b, hk, ha, hb⟩ := h
  have : d' = d := by omega
  subst this
  rw [hk]
  refine ⟨by simp, fun x hx => ?_⟩
  simp at hx; rcases hx with rfl | rfl
  ·exact ha
  ·exact hb
end
end Go.Xl
namespace Go.Xl
open Nat renaming reduceEqDiff → rE, reduceAdd → rA, reduceLeDiff → rL
inductive Ex.bd : Ex → Prop where
 | mk {k n : Int} {p : Pl} {ks : List Ex} (hp : p.path.length ≤ 2 ^ 40) (hl : ks.length ≤ 2 ^ 40) (hs : ∀ x ∈ ks, Ex.bd x) : Ex.bd (.mk k n p ks)
theorem Ex.bd.get {e : Ex} (h : e.bd) : e.place.path.length ≤ 2 ^ 40 ∧ e.kids.length ≤ 2 ^ 40 ∧ ∀ x ∈ e.kids, x.bd := by cases h with | mk h1 h2 h3 => exact ⟨h1, h2, h3⟩
theorem Pl.noneB_len {p : Pl} (h : p.noneB = true) : p.path.length ≤ 2 ^ 40 := by
 simp only [Pl.noneB, Bool.and_eq_true, decide_eq_true_eq] at h; omega
theorem Pl.okB_len {p : Pl} (h : p.okB = true) : p.path.length ≤ 2 ^ 40 := by
 simp only [Pl.okB, pathOk, Bool.and_eq_true, decide_eq_true_eq] at h; omega
theorem Ex.bd_none {e : Ex} (h : e.noneB = true) : e.bd := by
 simp only [Ex.noneB, Bool.and_eq_true, decide_eq_true_eq] at h
 obtain ⟨-, -, h1, h2⟩ := h
 obtain ⟨k, n, p, ks⟩ := e
 have : ks = [] := List.eq_nil_of_length_eq_zero h2
 subst this
 exact .mk (Pl.noneB_len h1) (by simp) (by simp)
theorem Ex.bd_okD : ∀ (d : Nat) (e : Ex), e.okD d = true → e.bd
 | 0, e, h => by simp [Ex.okD] at h
 | d + 1, e, h => by
   have hk := Ex.okD_kids h
   have hp : e.place.path.length ≤ 2 ^ 40 := by
    obtain ⟨d', hd, q | q | q⟩ := Ex.okD_get h
    ·have := okD_one d q.1
     rw [h] at this
     simp only [Eq.comm (a := true), Bool.and_eq_true, decide_eq_true_eq] at this
     exact Pl.noneB_len this.1.1
    ·exact Pl.okB_len q.2
    ·obtain ⟨-, -, h3, h6, a, b, hk, -⟩ := q
     have := okD_two d ⟨h3, h6⟩ hk
     rw [h] at this
     simp only [Eq.comm (a := true), Bool.and_eq_true, decide_eq_true_eq] at this
     exact Pl.noneB_len this.1.2
   obtain ⟨k, n, p, ks⟩ := e
   simp only [Ex.kids, Ex.place] at hk hp
   exact .mk hp (by omega) fun x hx => Ex.bd_okD d x (hk.2 x hx)
structure Ag.bd (a : Ag) : Prop where
 place : a.place.path.length ≤ 2 ^ 40
 expr : a.expr.bd
theorem Ag.okB_bd {a : Ag} (h : a.okB = true) : a.bd := by
 rw [Ag.okB] at h
 split at h <;> simp only [Bool.and_eq_true] at h
 ·exact ⟨Pl.okB_len h.1, Ex.bd_none h.2⟩
 ·exact ⟨Pl.noneB_len h.1, Ex.bd_okD 4 _ h.2⟩
inductive St.bd : St → Prop where
 | mk {k : Int} {n : ByteArray} {p o : Pl} {e : Ex} {f : ByteArray} {as : List Ag} {t l : List St} (hp : p.path.length ≤ 2 ^ 40) (ho : o.path.length ≤ 2 ^ 40) (he : e.bd) (ha : as.length ≤ 2 ^ 40) (has : ∀ a ∈ as, a.bd) (ht : t.length ≤ 2 ^ 40) (hl : l.length ≤ 2 ^ 40)
   (hts : ∀ x ∈ t, St.bd x) (hls : ∀ x ∈ l, St.bd x) : St.bd (.mk k n p o e f as t l)
structure St.bdG (s : St) : Prop where
 place : s.place.path.length ≤ 2 ^ 40
 other : s.other.path.length ≤ 2 ^ 40
 expr : s.expr.bd
 al : s.args.length ≤ 2 ^ 40
 args : ∀ a ∈ s.args, a.bd
 tl : s.thn.length ≤ 2 ^ 40
 el : s.els.length ≤ 2 ^ 40
 thn : ∀ x ∈ s.thn, x.bd
 els : ∀ x ∈ s.els, x.bd
theorem St.bd.get {s : St} (h : s.bd) : s.bdG := by cases h with | mk h1 h2 h3 h4 h5 h6 h7 h8 h9 => exact ⟨h1, h2, h3, h4, h5, h6, h7, h8, h9⟩
theorem St.bdG.bd {s : St} (h : s.bdG) : s.bd := by
 obtain ⟨k, n, p, o, e, f, as, t, l⟩ := s
 exact .mk h.place h.other h.expr h.al h.args h.tl h.el h.thn h.els
theorem bodyOk_bd : ∀ (d : Nat) (l : List St), xxc d l = true → l.length ≤ 2 ^ 40 ∧ ∀ s ∈ l, s.bd
 | 0, l, h => by simp [xxc] at h
 | d + 1, l, h => by
   simp only [xxc, Bool.and_eq_true, List.all_eq_true, decide_eq_true_eq] at h
   refine ⟨by omega, fun s hs => St.bdG.bd ?_⟩
   have ho := h.2 s hs
   simp only [stOkW, stA, stB, stC', stD, Bool.and_eq_true] at ho
   obtain ⟨hA, ⟨hn, hp, he⟩, ⟨hf, ha⟩, hD⟩ := ho
   simp only [argsOk, Bool.and_eq_true, List.all_eq_true, decide_eq_true_eq] at ha
   have kids : (s.thn.length ≤ 2 ^ 40 ∧ ∀ x ∈ s.thn, x.bd) ∧ (s.els.length ≤ 2 ^ 40 ∧ ∀ x ∈ s.els, x.bd) := by
    split at hD
    ·simp only [Bool.and_eq_true] at hD
     exact ⟨bodyOk_bd d _ hD.1, bodyOk_bd d _ hD.2⟩
    ·simp only [Bool.and_eq_true, decide_eq_true_eq] at hD
     rw [List.eq_nil_of_length_eq_zero (show s.thn.length = 0 by omega), List.eq_nil_of_length_eq_zero (show s.els.length = 0 by omega)]
     simp
   refine ⟨?_, ?_, ?_, by omega, fun a h => Ag.okB_bd (ha.2 a h), kids.1.1, kids.2.1, kids.1.2, kids.2.2⟩
   ·split at hp
    ·exact Pl.okB_len hp
    ·exact Pl.noneB_len hp
   ·split at hA
    ·exact Pl.okB_len hA
    ·exact Pl.noneB_len hA
   ·split at he
    ·exact Ex.bd_okD 4 _ he
    ·exact Ex.bd_none he
section
variable {P : Program} {F : Ids}
theorem c_lhExpr (L : Lib P F) : ∀ (n : Nat) (a b : Ex), SizeOf.sizeOf a ≤ n → a.bd → Pure1 P F.l_lhExpr [.agg a.enc, .agg b.enc] (B (eqB a b)) := by
 intro n
 induction n with
 | zero => rintro ⟨k, m, p, ks⟩ b h; simp at h
 | succ n ih =>
   intro a b hn hbd
   have hb := hbd.get
   have hsz : ∀ x ∈ a.kids, SizeOf.sizeOf x ≤ n := by
    intro x hx
    have h1 := List.sizeOf_lt_of_mem hx
    have h2 : SizeOf.sizeOf a.kids < SizeOf.sizeOf a := by cases a; simp only [Ex.kids]; simp; omega
    omega
   refine L.l_lhExpr (by simp [x_l_lhExpr]) ?_
   have fin : ∀ (E' : Env) (H' : Heap) (q : Bool), E' 4 = B q → q = eqB a b → XFunc.post [.slot 4] (fun q H' => q = B (eqB a b) ∧ H' = .empty) .ret E' H' := fun E' H' q h1 h2 => zzd (by rw [h1, h2]; exact .refl _) (Heap.zzf _) ⟨rfl, rfl⟩
   have no : ∀ (E' : Env) (H' : Heap), E' 4 = B false → a ≠ b → XFunc.post [.slot 4] (fun q H' => q = B (eqB a b) ∧ H' = .empty) .ret E' H' := fun E' H' h1 h2 => fin E' H' false h1 (yyd.2 h2).symm
   rw [Ex.enc_eq, Ex.enc_eq]
   simp only [x_l_lhExpr, go_sem, rE, rA, rL, zzg, zzh, zzi]
   intro b2 hb2 b3 hb3
   have d23 := zzj (Heap.zzb _ _ _) hb3
   have g2 := (Heap.zza (Heap.empty.set b2 (.cells [I a.kind, I a.num, S a.place.name, zze a.place.path, .sl 5 none (Ex.encs a.kids)])) (.cells [I b.kind, I b.num, S b.place.name, zze b.place.path, .sl 5 none (Ex.encs b.kids)]) d23).trans (Heap.zzb _ _ _)
   have g3 := Heap.zzb (Heap.empty.set b2 (.cells [I a.kind, I a.num, S a.place.name, zze a.place.path, .sl 5 none (Ex.encs a.kids)])) b3 (.cells [I b.kind, I b.num, S b.place.name, zze b.place.path, .sl 5 none (Ex.encs b.kids)])
   generalize (Heap.empty.set b2 (.cells [I a.kind, I a.num, S a.place.name, zze a.place.path, .sl 5 none (Ex.encs a.kids)])).set b3 (.cells [I b.kind, I b.num, S b.place.name, zze b.place.path, .sl 5 none (Ex.encs b.kids)]) = H0 at *
   simp only [go_sem, rE, rA, rL, zzg, zzh, zzi, g2, g3]
   cases h1 : eqB a.kind b.kind
   ·simp only [go_sem, rE, rA, rL, zzg, zzh, zzi, h1]
    exact no _ _ (rfl) fun e => yyd.1 h1 (by rw [e])
   simp only [go_sem, rE, rA, rL, zzg, zzh, zzi, h1, g2, g3, Ex.zzk, List.length_map]
   cases h2 : eqB a.num b.num
   ·simp only [go_sem, rE, rA, rL, zzg, zzh, zzi, h2]
    exact no _ _ (rfl) fun e => yyd.1 h2 (by rw [e])
   simp only [go_sem, rE, rA, rL, zzg, zzh, zzi, h2, g2, g3, Ex.zzk, List.length_map]
   refine zzc (c_lhPlace L a.place b.place hb.1) (by simp only [go_sem, rE, rA, rL, zzg, zzh, zzi, Pl.enc]) ?_
   cases h3 : eqB a.place b.place
   ·simp only [go_sem, rE, rA, rL, zzg, zzh, zzi, h3]
    exact no _ _ (rfl) fun e => yyd.1 h3 (by rw [e])
   simp only [go_sem, rE, rA, rL, zzg, zzh, zzi, h3, g2, g3, Ex.zzk, List.length_map]
   cases h4 : eqB a.kids.length b.kids.length
   ·simp only [go_sem, rE, rA, rL, zzg, zzh, zzi, h4]
    exact no _ _ (rfl) fun e => yyd.1 h4 (by rw [e])
   have h4 := yye.1 h4
   simp only [go_sem, rE, rA, rL, zzg, zzh, zzi, h4, eqB_self]
   refine yyc a.kids.length (fun k E H => E 2 = .ptr b2 0 ∧ E 3 = .ptr b3 0 ∧ H.get b2 = some (.cells [I a.kind, I a.num, S a.place.name, zze a.place.path, .sl 5 none (Ex.encs a.kids)]) ∧ H.get b3 = some (.cells [I b.kind, I b.num, S b.place.name, zze b.place.path, .sl 5 none (Ex.encs b.kids)]) ∧ E 5 = I k ∧ a.kids.take k = b.kids.take k) ⟨rfl, rfl, g2, g3, rfl, rfl⟩ ?_
   clear g2 g3
   rintro k E H hk ⟨e2, e3, g2, g3, e5, ht⟩
   simp only [go_sem, rE, rA, rL, zzg, zzh, zzi, e2, e5, g2, Ex.zzk, List.length_map]
   refine zzn (fun hlt => ?_) (fun hge => ?_)
   ·have hk1 : k < a.kids.length := by omega
    have hk2 : k < b.kids.length := by omega
    have w1 := yya (n := (k : Int) + 1) (by omega) (by omega)
    have ga : (a.kids.map Ex.enc)[k]? = some [I a.kids[k].kind, I a.kids[k].num, S a.kids[k].place.name, zze a.kids[k].place.path, .sl 5 none (Ex.encs a.kids[k].kids)] := by simp [hk1, Ex.enc_eq]
    have gb : (b.kids.map Ex.enc)[k]? = some [I b.kids[k].kind, I b.kids[k].num, S b.kids[k].place.name, zze b.kids[k].place.path, .sl 5 none (Ex.encs b.kids[k].kids)] := by simp [hk2, Ex.enc_eq]
    simp only [go_sem, rE, rA, rL, zzg, zzh, zzi, e2, e3, e5, g2, g3, Ex.zzk, ga, gb]
    refine zzc (ih a.kids[k] b.kids[k] (hsz _ (List.getElem_mem hk1)) (hb.2.2 _ (List.getElem_mem hk1))) (by simp only [go_sem, rE, rA, rL, zzg, zzh, zzi, Ex.enc_eq, Ex.zzk]) ?_
    cases h9 : eqB a.kids[k] b.kids[k]
    ·simp only [go_sem, rE, rA, rL, zzg, zzh, zzi]
     exact no _ _ (rfl) fun e => get_ne hk1 hk2 (yyd.1 h9) (by rw [e])
    simp only [go_sem, rE, rA, rL, zzg, zzh, zzi, e5, w1]
    exact ⟨hk1, H, Heap.zzm _, e2, e3, by rw [← Ex.zzk]; exact g2, by rw [← Ex.zzk]; exact g3, rfl, xxm ht hk1 hk2 (yye.1 h9)⟩
   ·simp only [go_sem, rE, rA, rL, zzg, zzh, zzi]
    exact fin _ _ true (rfl) (by rw [Ex.ext (yye.1 h1) (yye.1 h2) (yye.1 h3) (xxk (by omega) hk h4 ht), eqB_self])
theorem c_lhBody (L : Lib P F) : ∀ (n : Nat) (a b : List St), St.cntL a ≤ n → a.length ≤ 2 ^ 40 → (∀ s ∈ a, s.bd) → Pure1 P F.l_lhBody [.sl 15 none (St.encs a), .sl 15 none (St.encs b)] (B (eqB a b)) := by
 intro n
 induction n with
 | zero =>
   intro a b hn _ _
   have : a = [] := by
    cases a with
    | nil => rfl
    | cons s a => rw [St.cntL_cons, St.cnt_eq] at hn; omega
   subst this
   refine L.l_lhBody (by simp [x_l_lhBody]) ?_
   have fin : ∀ (E' : Env) (H' : Heap) (q : Bool), E' 4 = B q → q = eqB [] b → XFunc.post [.slot 4] (fun q H' => q = B (eqB [] b) ∧ H' = .empty) .ret E' H' := fun E' H' q h1 h2 => zzd (by rw [h1, h2]; exact .refl _) (Heap.zzf _) ⟨rfl, rfl⟩
   have no : ∀ (E' : Env) (H' : Heap), E' 4 = B false → [] ≠ b → XFunc.post [.slot 4] (fun q H' => q = B (eqB [] b) ∧ H' = .empty) .ret E' H' := fun E' H' h1 h2 => fin E' H' false h1 (yyd.2 h2).symm
   simp only [x_l_lhBody, go_sem, rE, rA, rL, zzg, zzh, zzi, St.zzk, List.length_map, List.map_nil]
   cases h0 : eqB ([] : List St).length b.length
   ·simp only [List.length_nil] at h0
    simp only [go_sem, rE, rA, rL, zzg, zzh, zzi, h0]
    exact no _ _ (rfl) fun e => yyd.1 h0 (by rw [← e]; rfl)
   have h0' := h0
   simp only [List.length_nil] at h0'
   simp only [go_sem, rE, rA, rL, zzg, zzh, zzi, h0', show ¬ ((0 : Int) < ((0 : Nat) : Int)) by decide]
   refine yyc 0 (fun k E H => E 0 = .sl 15 none [] ∧ E 5 = I 0) ⟨rfl, rfl⟩ ?_
   rintro k E H hk ⟨e0, e5⟩
   simp only [go_sem, rE, rA, rL, zzg, zzh, zzi, e0, e5, Int.lt_irrefl, Int.natCast_zero]
   exact fin _ _ true (rfl) (by rw [List.eq_nil_of_length_eq_zero (yye.1 h0).symm, eqB_self])
 | succ n ih =>
   intro a b hn hal hbd
   refine L.l_lhBody (by simp [x_l_lhBody]) ?_
   have fin : ∀ (E' : Env) (H' : Heap) (q : Bool), E' 4 = B q → q = eqB a b → XFunc.post [.slot 4] (fun q H' => q = B (eqB a b) ∧ H' = .empty) .ret E' H' := fun E' H' q h1 h2 => zzd (by rw [h1, h2]; exact .refl _) (Heap.zzf _) ⟨rfl, rfl⟩
   have no : ∀ (E' : Env) (H' : Heap), E' 4 = B false → a ≠ b → XFunc.post [.slot 4] (fun q H' => q = B (eqB a b) ∧ H' = .empty) .ret E' H' := fun E' H' h1 h2 => fin E' H' false h1 (yyd.2 h2).symm
   simp only [x_l_lhBody, go_sem, rE, rA, rL, zzg, zzh, zzi, St.zzk, List.length_map]
   cases h0 : eqB a.length b.length
   ·simp only [go_sem, rE, rA, rL, zzg, zzh, zzi]
    exact no _ _ (rfl) fun e => yyd.1 h0 (by rw [e])
   have h0 := yye.1 h0
   simp only [go_sem, rE, rA, rL, zzg, zzh, zzi]
   refine yyc a.length (fun k E H => E 0 = .sl 15 none (a.map St.enc) ∧ E 1 = .sl 15 none (b.map St.enc) ∧ E 5 = I k ∧ a.take k = b.take k) ⟨rfl, rfl, rfl, rfl⟩ ?_
   rintro k E H hk ⟨e0, e1, e5, ht⟩
   simp only [go_sem, rE, rA, rL, zzg, zzh, zzi, e0, e5, List.length_map]
   refine zzn (fun hlt => ?_) (fun hge => ?_)
   ·have hk1 : k < a.length := by omega
    have hk2 : k < b.length := by omega
    have w1 := yya (n := (k : Int) + 1) (by omega) (by omega)
    have ga : (a.map St.enc)[k]? = some [I a[k].kind, S a[k].name, S a[k].place.name, zze a[k].place.path, S a[k].other.name, zze a[k].other.path, I a[k].expr.kind, I a[k].expr.num, S a[k].expr.place.name, zze a[k].expr.place.path, .sl 5 none (Ex.encs a[k].expr.kids), S a[k].fn, .sl 8 none (a[k].args.map Ag.enc), .sl 15 none (St.encs a[k].thn), .sl 15 none (St.encs a[k].els)] := by simp [hk1, St.enc_eq]
    have gb : (b.map St.enc)[k]? = some [I b[k].kind, S b[k].name, S b[k].place.name, zze b[k].place.path, S b[k].other.name, zze b[k].other.path, I b[k].expr.kind, I b[k].expr.num, S b[k].expr.place.name, zze b[k].expr.place.path, .sl 5 none (Ex.encs b[k].expr.kids), S b[k].fn, .sl 8 none (b[k].args.map Ag.enc), .sl 15 none (St.encs b[k].thn), .sl 15 none (St.encs b[k].els)] := by simp [hk2, St.enc_eq]
    have hne : a[k] ≠ b[k] → a ≠ b := get_ne hk1 hk2
    have hsn : a[k] = b[k] → a.take (k + 1) = b.take (k + 1) := xxm ht hk1 hk2
    have hm := cnt_mem (List.getElem_mem hk1)
    have hg := (hbd _ (List.getElem_mem hk1)).get
    generalize a[k] = s at *
    generalize b[k] = t at *
    have hc := St.cnt_eq s
    have no' : ∀ (E' : Env) (H' : Heap), E' 4 = B false → s ≠ t → XFunc.post [.slot 4] (fun q H' => q = B (eqB a b) ∧ H' = .empty) .ret E' H' := fun E' H' h1 h2 => no E' H' h1 (hne h2)
    simp only [go_sem, rE, rA, rL, zzg, zzh, zzi, e0, e1, e5, ga, gb]
    cases h1 : eqB s.kind t.kind
    ·simp only [go_sem, rE, rA, rL, zzg, zzh, zzi, h1]
     exact no' _ _ (rfl) fun e => yyd.1 h1 (by rw [e])
    simp only [go_sem, rE, rA, rL, zzg, zzh, zzi, h1, e0, e1, e5, ga, gb, List.length_map]
    cases h2 : eqB s.name t.name
    ·simp only [go_sem, rE, rA, rL, zzg, zzh, zzi, h2]
     exact no' _ _ (rfl) fun e => yyd.1 h2 (by rw [e])
    simp only [go_sem, rE, rA, rL, zzg, zzh, zzi, h2, e0, e1, e5, ga, gb, List.length_map]
    refine zzc (c_lhPlace L s.place t.place hg.place) (by simp only [go_sem, rE, rA, rL, zzg, zzh, zzi, Pl.enc]) ?_
    cases h3 : eqB s.place t.place
    ·simp only [go_sem, rE, rA, rL, zzg, zzh, zzi, h3]
     exact no' _ _ (rfl) fun e => yyd.1 h3 (by rw [e])
    simp only [go_sem, rE, rA, rL, zzg, zzh, zzi, h3, e0, e1, e5, ga, gb, List.length_map]
    refine zzc (c_lhPlace L s.other t.other hg.other) (by simp only [go_sem, rE, rA, rL, zzg, zzh, zzi, Pl.enc]) ?_
    cases h4 : eqB s.other t.other
    ·simp only [go_sem, rE, rA, rL, zzg, zzh, zzi, h4]
     exact no' _ _ (rfl) fun e => yyd.1 h4 (by rw [e])
    simp only [go_sem, rE, rA, rL, zzg, zzh, zzi, h4, e0, e1, e5, ga, gb, List.length_map]
    refine zzc (c_lhExpr L _ s.expr t.expr (Nat.le_refl _) hg.expr) (by simp only [go_sem, rE, rA, rL, zzg, zzh, zzi, Ex.enc_eq]) ?_
    cases h5 : eqB s.expr t.expr
    ·simp only [go_sem, rE, rA, rL, zzg, zzh, zzi, h5]
     exact no' _ _ (rfl) fun e => yyd.1 h5 (by rw [e])
    simp only [go_sem, rE, rA, rL, zzg, zzh, zzi, h5, e0, e1, e5, ga, gb, List.length_map]
    cases h6 : eqB s.fn t.fn
    ·simp only [go_sem, rE, rA, rL, zzg, zzh, zzi, h6]
     exact no' _ _ (rfl) fun e => yyd.1 h6 (by rw [e])
    simp only [go_sem, rE, rA, rL, zzg, zzh, zzi, h6, e0, e1, e5, ga, gb, List.length_map]
    cases h7 : eqB s.args.length t.args.length
    ·simp only [go_sem, rE, rA, rL, zzg, zzh, zzi, h7]
     exact no' _ _ (rfl) fun e => yyd.1 h7 (by rw [e])
    simp only [go_sem, rE, rA, rL, zzg, zzh, zzi, h7, e0, e1, e5, ga, gb, List.length_map]
    refine zzc (ih s.thn t.thn (by omega) hg.tl hg.thn) (rfl) ?_
    cases h8 : eqB s.thn t.thn
    ·simp only [go_sem, rE, rA, rL, zzg, zzh, zzi, h8]
     exact no' _ _ (rfl) fun e => yyd.1 h8 (by rw [e])
    simp only [go_sem, rE, rA, rL, zzg, zzh, zzi, h8, e0, e1, e5, ga, gb, List.length_map]
    refine zzc (ih s.els t.els (by omega) hg.el hg.els) (rfl) ?_
    cases h9 : eqB s.els t.els
    ·simp only [go_sem, rE, rA, rL, zzg, zzh, zzi, h9]
     exact no' _ _ (rfl) fun e => yyd.1 h9 (by rw [e])
    have h7 := yye.1 h7
    simp only [go_sem, rE, rA, rL, zzg, zzh, zzi, h9]
    refine yyc s.args.length (fun j E H => E 0 = .sl 15 none (a.map St.enc) ∧ E 1 = .sl 15 none (b.map St.enc) ∧ E 5 = I k ∧ E 6 = I j ∧ s.args.take j = t.args.take j) ⟨by simp only [go_sem, rE, rA, rL, zzg, zzh, zzi, e0], by simp only [go_sem, rE, rA, rL, zzg, zzh, zzi, e1], by simp only [go_sem, rE, rA, rL, zzg, zzh, zzi, e5], rfl, rfl⟩ ?_
    clear e0 e1 e5
    rintro j E H hj ⟨e0, e1, e5, e6, hta⟩
    simp only [go_sem, rE, rA, rL, zzg, zzh, zzi, e0, e1, e5, e6, ga, List.length_map]
    refine zzn (fun hlt => ?_) (fun hge => ?_)
    ·have hj1 : j < s.args.length := by omega
     have hj2 : j < t.args.length := by omega
     have hal := hg.al
     have wj := yya (n := (j : Int) + 1) (by omega) (by omega)
     have gs : (s.args.map Ag.enc)[j]? = some [B s.args[j].lent, S s.args[j].place.name, zze s.args[j].place.path, I s.args[j].expr.kind, I s.args[j].expr.num, S s.args[j].expr.place.name, zze s.args[j].expr.place.path, .sl 5 none (Ex.encs s.args[j].expr.kids)] := by simp [hj1, ag_cells]
     have gt : (t.args.map Ag.enc)[j]? = some [B t.args[j].lent, S t.args[j].place.name, zze t.args[j].place.path, I t.args[j].expr.kind, I t.args[j].expr.num, S t.args[j].expr.place.name, zze t.args[j].expr.place.path, .sl 5 none (Ex.encs t.args[j].expr.kids)] := by simp [hj2, ag_cells]
     have hne2 : s.args[j] ≠ t.args[j] → s ≠ t := fun h e => get_ne hj1 hj2 h (by rw [e])
     have hsn2 : s.args[j] = t.args[j] → s.args.take (j + 1) = t.args.take (j + 1) := xxm hta hj1 hj2
     have hag := hg.args _ (List.getElem_mem hj1)
     generalize s.args[j] = x at *
     generalize t.args[j] = y at *
     simp only [go_sem, rE, rA, rL, zzg, zzh, zzi, e0, e1, e5, e6, ga, gb, gs, gt, bool_neq x.lent y.lent]
     cases hx1 : eqB x.lent y.lent
     ·simp only [go_sem, rE, rA, rL, zzg, zzh, zzi, hx1]
      exact no' _ _ (rfl) fun e => hne2 (fun e => yyd.1 hx1 (by rw [e])) e
     simp only [go_sem, rE, rA, rL, zzg, zzh, zzi, hx1, e0, e1, e5, e6, ga, gb, gs, gt]
     refine zzc (c_lhPlace L x.place y.place hag.place) (by simp only [go_sem, rE, rA, rL, zzg, zzh, zzi, Pl.enc]) ?_
     cases hx2 : eqB x.place y.place
     ·simp only [go_sem, rE, rA, rL, zzg, zzh, zzi, hx2]
      exact no' _ _ (rfl) fun e => hne2 (fun e => yyd.1 hx2 (by rw [e])) e
     simp only [go_sem, rE, rA, rL, zzg, zzh, zzi, hx2, e0, e1, e5, e6, ga, gb, gs, gt]
     refine zzc (c_lhExpr L _ x.expr y.expr (Nat.le_refl _) hag.expr) (by simp only [go_sem, rE, rA, rL, zzg, zzh, zzi, Ex.enc_eq]) ?_
     cases hx3 : eqB x.expr y.expr
     ·simp only [go_sem, rE, rA, rL, zzg, zzh, zzi, hx3]
      exact no' _ _ (rfl) fun e => hne2 (fun e => yyd.1 hx3 (by rw [e])) e
     simp only [go_sem, rE, rA, rL, zzg, zzh, zzi, hx3, e6, wj]
     refine ⟨hj1, H, Heap.zzm _, e0, e1, e5, rfl, hsn2 ?_⟩
     have q1 := yye.1 hx1
     have q2 := yye.1 hx2
     have q3 := yye.1 hx3
     cases x; cases y; simp only at q1 q2 q3; rw [q1, q2, q3]
    ·simp only [go_sem, rE, rA, rL, zzg, zzh, zzi, e5, w1]
     exact ⟨hk1, H, Heap.zzm _, e0, e1, rfl, hsn (St.ext (yye.1 h1) (yye.1 h2) (yye.1 h3) (yye.1 h4) (yye.1 h5) (yye.1 h6) (xxk (by omega) hj h7 hta) (yye.1 h8) (yye.1 h9))⟩
   ·simp only [go_sem, rE, rA, rL, zzg, zzh, zzi]
    exact fin _ _ true (rfl) (by rw [xxk (by omega) hk h0 ht, eqB_self])
theorem c_lhProg (L : Lib P F) (a b : Pg) (hok : formOk a = true) : Pure1 P F.l_lhProg [.agg (Pg.enc a), .agg (Pg.enc b)] (B (eqB a b)) := by
 simp only [formOk, Bool.and_eq_true, decide_eq_true_eq, List.all_eq_true] at hok
 refine L.l_lhProg (by simp [x_l_lhProg]) ?_
 have fin : ∀ (E' : Env) (H' : Heap) (q : Bool), E' 4 = B q → q = eqB a b → XFunc.post [.slot 4] (fun q H' => q = B (eqB a b) ∧ H' = .empty) .ret E' H' := fun E' H' q h1 h2 => zzd (by rw [h1, h2]; exact .refl _) (Heap.zzf _) ⟨rfl, rfl⟩
 have no : ∀ (E' : Env) (H' : Heap), E' 4 = B false → a ≠ b → XFunc.post [.slot 4] (fun q H' => q = B (eqB a b) ∧ H' = .empty) .ret E' H' := fun E' H' h1 h2 => fin E' H' false h1 (yyd.2 h2).symm
 simp only [x_l_lhProg, go_sem, rE, rA, rL, zzg, zzh, zzi, Pg.enc]
 intro b2 hb2 b3 hb3
 have d23 := zzj (Heap.zzb _ _ _) hb3
 have g2 := (Heap.zza (Heap.empty.set b2 (.cells [.sl 12 none (a.map Fu.enc)])) (.cells [.sl 12 none (b.map Fu.enc)]) d23).trans (Heap.zzb _ _ _)
 have g3 := Heap.zzb (Heap.empty.set b2 (.cells [.sl 12 none (a.map Fu.enc)])) b3 (.cells [.sl 12 none (b.map Fu.enc)])
 generalize (Heap.empty.set b2 (.cells [.sl 12 none (a.map Fu.enc)])).set b3 (.cells [.sl 12 none (b.map Fu.enc)]) = H0 at *
 simp only [go_sem, rE, rA, rL, zzg, zzh, zzi, g2, g3, List.length_map]
 cases h0 : eqB a.length b.length
 ·simp only [go_sem, rE, rA, rL, zzg, zzh, zzi]
  exact no _ _ (rfl) fun e => yyd.1 h0 (by rw [e])
 have h0 := yye.1 h0
 simp only [go_sem, rE, rA, rL, zzg, zzh, zzi]
 refine yyc a.length (fun k E H => E 2 = .ptr b2 0 ∧ E 3 = .ptr b3 0 ∧ H.get b2 = some (.cells [.sl 12 none (a.map Fu.enc)]) ∧ H.get b3 = some (.cells [.sl 12 none (b.map Fu.enc)]) ∧ E 5 = I k ∧ a.take k = b.take k) ⟨rfl, rfl, g2, g3, rfl, rfl⟩ ?_
 clear g2 g3 hb2 hb3
 rintro k E H hk ⟨e2, e3, g2, g3, e5, ht⟩
 simp only [go_sem, rE, rA, rL, zzg, zzh, zzi, e2, e5, g2, List.length_map]
 refine zzn (fun hlt => ?_) (fun hge => ?_)
 ·have hk1 : k < a.length := by omega
  have hk2 : k < b.length := by omega
  have w1 := yya (n := (k : Int) + 1) (by omega) (by omega)
  have ga : (a.map Fu.enc)[k]? = some [S a[k].name, .sl 3 none (a[k].params.map Pa.enc), B a[k].lent, .sl 1 none (Ty.encs a[k].type.kids), .sl 15 none (St.encs a[k].body), I a[k].says.kind, I a[k].says.num, S a[k].says.place.name, zze a[k].says.place.path, .sl 5 none (Ex.encs a[k].says.kids), S a[k].gives.name, zze a[k].gives.path] := by rw [← Fu.enc_eq]; simp [hk1]
  have gb : (b.map Fu.enc)[k]? = some [S b[k].name, .sl 3 none (b[k].params.map Pa.enc), B b[k].lent, .sl 1 none (Ty.encs b[k].type.kids), .sl 15 none (St.encs b[k].body), I b[k].says.kind, I b[k].says.num, S b[k].says.place.name, zze b[k].says.place.path, .sl 5 none (Ex.encs b[k].says.kids), S b[k].gives.name, zze b[k].gives.path] := by rw [← Fu.enc_eq]; simp [hk2]
  have hne : a[k] ≠ b[k] → a ≠ b := get_ne hk1 hk2
  have hsn : a[k] = b[k] → a.take (k + 1) = b.take (k + 1) := xxm ht hk1 hk2
  have hf := hok.2 _ (List.getElem_mem hk1)
  generalize a[k] = s at *
  generalize b[k] = t at *
  have no' : ∀ (E' : Env) (H' : Heap), E' 4 = B false → s ≠ t → XFunc.post [.slot 4] (fun q H' => q = B (eqB a b) ∧ H' = .empty) .ret E' H' := fun E' H' h1 h2 => no E' H' h1 (hne h2)
  have hfu := fuF hf
  have hbb := bodyOk_bd 4 _ hfu.body
  have hse : s.says.bd ∧ s.gives.path.length ≤ 2 ^ 40 := by
   cases hl : s.lent
   ·exact ⟨Ex.bd_okD 4 _ (hfu.says hl).2, Pl.noneB_len (hfu.says hl).1⟩
   ·exact ⟨Ex.bd_none (hfu.lent hl).2, Pl.okB_len (hfu.lent hl).1⟩
  simp only [go_sem, rE, rA, rL, zzg, zzh, zzi, e2, e3, e5, g2, g3, ga, gb]
  intro b6 hb6
  have g2 := (Heap.zza H (.cells [S s.name, .sl 3 none (s.params.map Pa.enc), B s.lent, .sl 1 none (Ty.encs s.type.kids), .sl 15 none (St.encs s.body), I s.says.kind, I s.says.num, S s.says.place.name, zze s.says.place.path, .sl 5 none (Ex.encs s.says.kids), S s.gives.name, zze s.gives.path]) (zzj g2 hb6)).trans g2
  have g3 := (Heap.zza H (.cells [S s.name, .sl 3 none (s.params.map Pa.enc), B s.lent, .sl 1 none (Ty.encs s.type.kids), .sl 15 none (St.encs s.body), I s.says.kind, I s.says.num, S s.says.place.name, zze s.says.place.path, .sl 5 none (Ex.encs s.says.kids), S s.gives.name, zze s.gives.path]) (zzj g3 hb6)).trans g3
  have g6 := Heap.zzb H b6 (.cells [S s.name, .sl 3 none (s.params.map Pa.enc), B s.lent, .sl 1 none (Ty.encs s.type.kids), .sl 15 none (St.encs s.body), I s.says.kind, I s.says.num, S s.says.place.name, zze s.says.place.path, .sl 5 none (Ex.encs s.says.kids), S s.gives.name, zze s.gives.path])
  generalize (H.set b6 (.cells [S s.name, .sl 3 none (s.params.map Pa.enc), B s.lent, .sl 1 none (Ty.encs s.type.kids), .sl 15 none (St.encs s.body), I s.says.kind, I s.says.num, S s.says.place.name, zze s.says.place.path, .sl 5 none (Ex.encs s.says.kids), S s.gives.name, zze s.gives.path])) = H6 at *
  simp only [go_sem, rE, rA, rL, zzg, zzh, zzi, e3, e5, g3, gb]
  intro b7 hb7
  have g2 := (Heap.zza H6 (.cells [S t.name, .sl 3 none (t.params.map Pa.enc), B t.lent, .sl 1 none (Ty.encs t.type.kids), .sl 15 none (St.encs t.body), I t.says.kind, I t.says.num, S t.says.place.name, zze t.says.place.path, .sl 5 none (Ex.encs t.says.kids), S t.gives.name, zze t.gives.path]) (zzj g2 hb7)).trans g2
  have g3 := (Heap.zza H6 (.cells [S t.name, .sl 3 none (t.params.map Pa.enc), B t.lent, .sl 1 none (Ty.encs t.type.kids), .sl 15 none (St.encs t.body), I t.says.kind, I t.says.num, S t.says.place.name, zze t.says.place.path, .sl 5 none (Ex.encs t.says.kids), S t.gives.name, zze t.gives.path]) (zzj g3 hb7)).trans g3
  have g6 := (Heap.zza H6 (.cells [S t.name, .sl 3 none (t.params.map Pa.enc), B t.lent, .sl 1 none (Ty.encs t.type.kids), .sl 15 none (St.encs t.body), I t.says.kind, I t.says.num, S t.says.place.name, zze t.says.place.path, .sl 5 none (Ex.encs t.says.kids), S t.gives.name, zze t.gives.path]) (zzj g6 hb7)).trans g6
  have g7 := Heap.zzb H6 b7 (.cells [S t.name, .sl 3 none (t.params.map Pa.enc), B t.lent, .sl 1 none (Ty.encs t.type.kids), .sl 15 none (St.encs t.body), I t.says.kind, I t.says.num, S t.says.place.name, zze t.says.place.path, .sl 5 none (Ex.encs t.says.kids), S t.gives.name, zze t.gives.path])
  generalize (H6.set b7 (.cells [S t.name, .sl 3 none (t.params.map Pa.enc), B t.lent, .sl 1 none (Ty.encs t.type.kids), .sl 15 none (St.encs t.body), I t.says.kind, I t.says.num, S t.says.place.name, zze t.says.place.path, .sl 5 none (Ex.encs t.says.kids), S t.gives.name, zze t.gives.path])) = H7 at *
  clear hb6 hb7
  simp only [go_sem, rE, rA, rL, zzg, zzh, zzi, g6, g7, bool_neq s.lent t.lent]
  cases h1 : eqB s.name t.name
  ·simp only [go_sem, rE, rA, rL, zzg, zzh, zzi, h1]
   exact no' _ _ (rfl) fun e => yyd.1 h1 (by rw [e])
  simp only [go_sem, rE, rA, rL, zzg, zzh, zzi, h1, g6, g7, List.length_map, bool_neq s.lent t.lent]
  cases h2 : eqB s.lent t.lent
  ·simp only [go_sem, rE, rA, rL, zzg, zzh, zzi, h2]
   exact no' _ _ (rfl) fun e => yyd.1 h2 (by rw [e])
  simp only [go_sem, rE, rA, rL, zzg, zzh, zzi, h2, g6, g7, List.length_map, bool_neq s.lent t.lent]
  refine zzc (c_lhType L 4 s.type t.type hfu.type) (by simp only [go_sem, rE, rA, rL, zzg, zzh, zzi, Ty.enc_eq]) ?_
  cases h3 : eqB s.type t.type
  ·simp only [go_sem, rE, rA, rL, zzg, zzh, zzi, h3]
   exact no' _ _ (rfl) fun e => yyd.1 h3 (by rw [e])
  simp only [go_sem, rE, rA, rL, zzg, zzh, zzi, h3, g6, g7, List.length_map, bool_neq s.lent t.lent]
  refine zzc (c_lhBody L _ s.body t.body (Nat.le_refl _) hbb.1 hbb.2) (rfl) ?_
  cases h4 : eqB s.body t.body
  ·simp only [go_sem, rE, rA, rL, zzg, zzh, zzi, h4]
   exact no' _ _ (rfl) fun e => yyd.1 h4 (by rw [e])
  simp only [go_sem, rE, rA, rL, zzg, zzh, zzi, h4, g6, g7, List.length_map, bool_neq s.lent t.lent]
  refine zzc (c_lhExpr L _ s.says t.says (Nat.le_refl _) hse.1) (by simp only [go_sem, rE, rA, rL, zzg, zzh, zzi, Ex.enc_eq]) ?_
  cases h5 : eqB s.says t.says
  ·simp only [go_sem, rE, rA, rL, zzg, zzh, zzi, h5]
   exact no' _ _ (rfl) fun e => yyd.1 h5 (by rw [e])
  simp only [go_sem, rE, rA, rL, zzg, zzh, zzi, h5, g6, g7, List.length_map, bool_neq s.lent t.lent]
  refine zzc (c_lhPlace L s.gives t.gives hse.2) (by simp only [go_sem, rE, rA, rL, zzg, zzh, zzi, Pl.enc]) ?_
  cases h6 : eqB s.gives t.gives
  ·simp only [go_sem, rE, rA, rL, zzg, zzh, zzi, h6]
   exact no' _ _ (rfl) fun e => yyd.1 h6 (by rw [e])
  simp only [go_sem, rE, rA, rL, zzg, zzh, zzi, h6, g6, g7, List.length_map, bool_neq s.lent t.lent]
  cases h7 : eqB s.params.length t.params.length
  ·simp only [go_sem, rE, rA, rL, zzg, zzh, zzi, h7]
   exact no' _ _ (rfl) fun e => yyd.1 h7 (by rw [e])
  have h7 := yye.1 h7
  have hpl := hfu.np
  simp only [go_sem, rE, rA, rL, zzg, zzh, zzi, h7, eqB_self]
  refine yyc s.params.length (fun j E H => (E 2 = .ptr b2 0 ∧ E 3 = .ptr b3 0 ∧ H.get b2 = some (.cells [.sl 12 none (a.map Fu.enc)]) ∧ H.get b3 = some (.cells [.sl 12 none (b.map Fu.enc)]) ∧ E 5 = I k) ∧ E 6 = .ptr b6 0 ∧ E 7 = .ptr b7 0 ∧ H.get b6 = some (.cells [S s.name, .sl 3 none (s.params.map Pa.enc), B s.lent, .sl 1 none (Ty.encs s.type.kids), .sl 15 none (St.encs s.body), I s.says.kind, I s.says.num, S s.says.place.name, zze s.says.place.path, .sl 5 none (Ex.encs s.says.kids), S s.gives.name, zze s.gives.path]) ∧ H.get b7 = some (.cells [S t.name, .sl 3 none (t.params.map Pa.enc), B t.lent, .sl 1 none (Ty.encs t.type.kids), .sl 15 none (St.encs t.body), I t.says.kind, I t.says.num, S t.says.place.name, zze t.says.place.path, .sl 5 none (Ex.encs t.says.kids), S t.gives.name, zze t.gives.path]) ∧ E 8 = I j ∧ s.params.take j = t.params.take j) ⟨⟨e2, e3, g2, g3, e5⟩, rfl, rfl, g6, g7, rfl, rfl⟩ ?_
  clear e2 e3 e5 g2 g3 g6 g7
  rintro j E H hj ⟨⟨e2, e3, g2, g3, e5⟩, e6, e7, g6, g7, e8, hta⟩
  simp only [go_sem, rE, rA, rL, zzg, zzh, zzi, e6, e8, g6, List.length_map]
  refine zzn (fun hlt => ?_) (fun hge => ?_)
  ·have hj1 : j < s.params.length := by omega
   have hj2 : j < t.params.length := by omega
   have wj := yya (n := (j : Int) + 1) (by omega) (by omega)
   have gs : (s.params.map Pa.enc)[j]? = some [S s.params[j].name, B s.params[j].lent, .sl 1 none (Ty.encs s.params[j].type.kids)] := by simp [hj1, Pa.enc, Ty.enc_eq]
   have gt : (t.params.map Pa.enc)[j]? = some [S t.params[j].name, B t.params[j].lent, .sl 1 none (Ty.encs t.params[j].type.kids)] := by simp [hj2, Pa.enc, Ty.enc_eq]
   have hne2 : s.params[j] ≠ t.params[j] → s ≠ t := fun h e => get_ne hj1 hj2 h (by rw [e])
   have hsn2 : s.params[j] = t.params[j] → s.params.take (j + 1) = t.params.take (j + 1) := xxm hta hj1 hj2
   have hpt := (hfu.params _ (List.getElem_mem hj1)).2
   generalize s.params[j] = x at *
   generalize t.params[j] = y at *
   simp only [go_sem, rE, rA, rL, zzg, zzh, zzi, e6, e7, e8, g6, g7, gs, gt, bool_neq x.lent y.lent]
   cases hx1 : eqB x.name y.name
   ·simp only [go_sem, rE, rA, rL, zzg, zzh, zzi, hx1]
    exact no' _ _ (rfl) fun e => hne2 (fun e => yyd.1 hx1 (by rw [e])) e
   simp only [go_sem, rE, rA, rL, zzg, zzh, zzi, hx1, e6, e7, e8, g6, g7, gs, gt, bool_neq x.lent y.lent]
   cases hx2 : eqB x.lent y.lent
   ·simp only [go_sem, rE, rA, rL, zzg, zzh, zzi, hx2]
    exact no' _ _ (rfl) fun e => hne2 (fun e => yyd.1 hx2 (by rw [e])) e
   simp only [go_sem, rE, rA, rL, zzg, zzh, zzi, hx2, e6, e7, e8, g6, g7, gs, gt, bool_neq x.lent y.lent]
   refine zzc (c_lhType L 4 x.type y.type hpt) (by simp only [go_sem, rE, rA, rL, zzg, zzh, zzi, Ty.enc_eq]) ?_
   cases hx3 : eqB x.type y.type
   ·simp only [go_sem, rE, rA, rL, zzg, zzh, zzi, hx3]
    exact no' _ _ (rfl) fun e => hne2 (fun e => yyd.1 hx3 (by rw [e])) e
   simp only [go_sem, rE, rA, rL, zzg, zzh, zzi, hx3, e8, wj]
   refine ⟨hj1, H, Heap.zzm _, ⟨e2, e3, g2, g3, e5⟩, e6, e7, g6, g7, rfl, hsn2 ?_⟩
   have q1 := yye.1 hx1
   have q2 := yye.1 hx2
   have q3 := yye.1 hx3
   cases x; cases y; simp only at q1 q2 q3; rw [q1, q2, q3]
  ·simp only [go_sem, rE, rA, rL, zzg, zzh, zzi, e5, w1]
   refine ⟨hk1, H, Heap.zzm _, e2, e3, g2, g3, rfl, hsn ?_⟩
   have q1 := yye.1 h1
   have q2 := yye.1 h2
   have q3 := yye.1 h3
   have q4 := yye.1 h4
   have q5 := yye.1 h5
   have q6 := yye.1 h6
   have q7 := xxk (by omega) hj h7 hta
   cases s; cases t; simp only at q1 q2 q3 q4 q5 q6 q7; rw [q1, q2, q3, q4, q5, q6, q7]
 ·simp only [go_sem, rE, rA, rL, zzg, zzh, zzi]
  exact fin _ _ true (rfl) (by rw [xxk (by omega) hk h0 ht, eqB_self])
end
end Go.Xl
namespace Go.Xl
open Nat renaming reduceEqDiff → rE, reduceAdd → rA, reduceLeDiff → rL
theorem cut_eq {α : Type} (P : α → Bool) : ∀ (a b r s : List α), (∀ x ∈ a, P x = true) → (∀ x ∈ b, P x = true) → (∀ c t, r = c :: t → P c = false) → (∀ c t, s = c :: t → P c = false) → a ++ r = b ++ s → a = b ∧ r = s
 | [], [], r, s, _, _, _, _, h => ⟨rfl, h⟩
 | [], y :: b, r, s, _, hb, hr, _, h => by
   have := hr y (b ++ s) h
   rw [hb y (by simp)] at this; simp at this
 | x :: a, [], r, s, ha, _, _, hs, h => by
   have := hs x (a ++ r) h.symm
   rw [ha x (by simp)] at this; simp at this
 | x :: a, y :: b, r, s, ha, hb, hr, hs, h => by
   simp only [List.cons_append, List.cons.injEq] at h
   obtain ⟨h1, h2⟩ := cut_eq P a b r s (fun z hz => ha z (by simp [hz])) (fun z hz => hb z (by simp [hz])) hr hs h.2
   exact ⟨by rw [h.1, h1], h2⟩
def T (r : List UInt8) : Prop := ∃ c t, r = c :: t ∧ (c = 32 ∨ c = 10)
theorem T.sp (t : List UInt8) : T (32 :: t) := ⟨_, _, rfl, .inl rfl⟩
theorem T.nl (t : List UInt8) : T (10 :: t) := ⟨_, _, rfl, .inr rfl⟩
theorem by_inj {a b : ByteArray} (h : by_ a = by_ b) : a = b := by rw [← ofL_by a, ← ofL_by b, h]
theorem name_inj {n m : ByteArray} {r s : List UInt8} (hn : yyf n = true) (hm : yyf m = true) (hr : ∀ c t, r = c :: t → letter c = false) (hs : ∀ c t, s = c :: t → letter c = false) (h : by_ n ++ r = by_ m ++ s) : n = m ∧ r = s := by
 simp only [yyf, Bool.and_eq_true, List.all_eq_true] at hn hm
 obtain ⟨h1, h2⟩ := cut_eq letter _ _ r s hn.2.2 hm.2.2 hr hs h
 exact ⟨by_inj h1, h2⟩
theorem T.letter {r : List UInt8} (h : T r) : ∀ c t, r = c :: t → letter c = false := by
 obtain ⟨c, t, rfl, rfl | rfl⟩ := h <;> (intro c' t' e; simp only [List.cons.injEq] at e; rw [← e.1]; rfl)
theorem name_T {n m : ByteArray} {r s : List UInt8} (hn : yyf n = true) (hm : yyf m = true) (hr : T r) (hs : T s) (h : by_ n ++ r = by_ m ++ s) : n = m ∧ r = s := name_inj hn hm hr.letter hs.letter h
theorem path_inj : ∀ {p q : List Int} {r s : List UInt8}, (∀ i ∈ p, 0 ≤ i ∧ i ≤ 1) → (∀ i ∈ q, 0 ≤ i ∧ i ≤ 1) → T r → T s → pathL p ++ r = pathL q ++ s → p = q ∧ r = s
 | [], [], r, s, _, _, _, _, h => ⟨rfl, h⟩
 | [], j :: q, r, s, _, _, hr, _, h => by
   obtain ⟨c, t, rfl, hc⟩ := hr
   simp [pathL, bn] at h
   rcases hc with rfl | rfl <;> exact absurd h.1 (by decide)
 | i :: p, [], r, s, _, _, _, hs, h => by
   obtain ⟨c, t, rfl, hc⟩ := hs
   simp [pathL, bn] at h
   rcases hc with rfl | rfl <;> exact absurd h.1 (by decide)
 | i :: p, j :: q, r, s, hp, hq, hr, hs, h => by
   have d0 : decL (0 : Int).toNat = [48] := by rw [decL]; rfl
   have d1 : decL (1 : Int).toNat = [49] := by rw [decL]; rfl
   have hi := hp i (by simp)
   have hj := hq j (by simp)
   have ci : ∀ (i : Int) (p : List Int), pathL (i :: p) = 46 :: (decL i.toNat ++ pathL p) := fun i p => by simp [pathL, bn]
   rw [ci, ci] at h
   have ih : ∀ x y, x ++ (pathL p ++ r) = y ++ (pathL q ++ s) → x.length = y.length → p = q ∧ r = s := fun x y h hl =>
    path_inj (fun k hk => hp k (by simp [hk])) (fun k hk => hq k (by simp [hk])) hr hs (List.append_inj h hl).2
   simp only [List.cons_append, List.append_assoc, List.cons.injEq, true_and] at h
   have hi' : i = 0 ∨ i = 1 := by omega
   have hj' : j = 0 ∨ j = 1 := by omega
   rcases hi' with rfl | rfl <;> rcases hj' with rfl | rfl <;> simp only [d0, d1] at h
   ·obtain ⟨h1, h2⟩ := ih _ _ h rfl; exact ⟨by rw [h1], h2⟩
   ·simp at h
   ·simp at h
   ·obtain ⟨h1, h2⟩ := ih _ _ h rfl; exact ⟨by rw [h1], h2⟩
theorem at_inj {p q : Pl} {r s : List UInt8} (hp : p.okB = true) (hq : q.okB = true) (hr : T r) (hs : T s) (h : atL p ++ r = atL q ++ s) : p = q ∧ r = s := by
 simp only [Pl.okB, pathOk, Bool.and_eq_true, List.all_eq_true, decide_eq_true_eq] at hp hq
 have hd : ∀ (p : List Int) (r : List UInt8), T r → ∀ c t, pathL p ++ r = c :: t → letter c = false := by
  intro p r hr c t e
  cases p with
  | nil => exact hr.letter c t e
  | cons i p => simp only [pathL, bn, List.flatMap_cons, List.map_cons, List.map_nil, List.cons_append, List.nil_append, List.cons.injEq] at e; rw [← e.1]; rfl
 simp only [atL, List.append_assoc] at h
 obtain ⟨h1, h2⟩ := name_inj hp.1 hq.1 (hd _ _ hr) (hd _ _ hs) h
 obtain ⟨h3, h4⟩ := path_inj hp.2.2 hq.2.2 hr hs h2
 refine ⟨?_, h4⟩
 cases p; cases q; simp only at h1 h3; rw [h1, h3]
def digit (c : UInt8) : Bool := decide (48 ≤ c.toNat) && decide (c.toNat ≤ 57)
def valL (l : List UInt8) : Nat := l.foldl (fun a c => a * 10 + (c.toNat - 48)) 0
theorem dig_nat {k : Nat} (h : k < 10) : (UInt8.ofNat (48 + k)).toNat = 48 + k := by
 rw [UInt8.toNat_ofNat']; omega
theorem dec_digit : ∀ (n : Nat), (∀ c ∈ decL n, digit c = true) ∧ valL (decL n) = n ∧ decL n ≠ [] := by
 intro n
 induction n using Nat.strongRecOn with
 | ind n ih =>
   rw [decL]
   split
   ·rename_i h
    refine ⟨?_, ?_, by simp⟩
    ·intro c hc; simp only [List.mem_singleton] at hc; subst hc; simp only [digit, dig_nat h]; simp; omega
    ·simp only [valL, List.foldl_cons, List.foldl_nil, dig_nat h]; omega
   ·rename_i h
    have hi := ih (n / 10) (by omega)
    have hm : n % 10 < 10 := by omega
    refine ⟨?_, ?_, by simp⟩
    ·intro c hc
     rcases List.mem_append.1 hc with hc | hc
     ·exact hi.1 c hc
     ·simp only [List.mem_singleton] at hc; subst hc; simp only [digit, dig_nat hm]; simp; omega
    ·have := hi.2.1
     simp only [valL] at this
     simp only [valL, List.foldl_append, List.foldl_cons, List.foldl_nil, this, dig_nat hm]; omega
theorem T.digit {r : List UInt8} (h : T r) : ∀ c t, r = c :: t → digit c = false := by
 obtain ⟨c, t, rfl, rfl | rfl⟩ := h <;> (intro c' t' e; simp only [List.cons.injEq] at e; rw [← e.1]; rfl)
theorem dec_inj {n m : Nat} {r s : List UInt8} (hr : T r) (hs : T s) (h : decL n ++ r = decL m ++ s) : n = m ∧ r = s := by
 obtain ⟨h1, h2⟩ := cut_eq digit _ _ r s (dec_digit n).1 (dec_digit m).1 hr.digit hs.digit h
 exact ⟨by rw [← (dec_digit n).2.1, ← (dec_digit m).2.1, h1], h2⟩
theorem dec_head (n : Nat) : ∃ c t, decL n = c :: t ∧ digit c = true := by
 obtain ⟨h1, -, h3⟩ := dec_digit n
 cases h : decL n with
 | nil => exact absurd h h3
 | cons c t => exact ⟨c, t, rfl, h1 c (by rw [h]; simp)⟩
theorem typ_inj : ∀ (n : Nat) {a b : Ty} {r s : List UInt8}, a.deepB n = true → b.deepB n = true → typL a ++ r = typL b ++ s → a = b ∧ r = s
 | 0, a, b, r, s, h, _, _ => by cases a; simp [Ty.deepB] at h
 | n + 1, .mk ks, .mk ls, r, s, h1, h2, h => by
   have k1 := Ty.deepB_kids h1
   have k2 := Ty.deepB_kids h2
   simp only [Ty.deepB, Bool.and_eq_true, Bool.or_eq_true, decide_eq_true_eq] at h1 h2
   simp only [Ty.kids] at k1 k2
   rw [typL_eq, typL_eq] at h
   rcases ks with _ | ⟨a, _ | ⟨b, _ | ⟨x, ks⟩⟩⟩ <;> rcases ls with _ | ⟨c, _ | ⟨d, _ | ⟨y, ls⟩⟩⟩ <;> simp at h1 h2 <;> simp [bn] at h
   ·exact ⟨rfl, h⟩
   ·obtain ⟨e1, h⟩ := typ_inj n (k1.2 a (by simp)) (k2.2 c (by simp)) h
    simp only [List.cons.injEq, true_and] at h
    obtain ⟨e2, h⟩ := typ_inj n (k1.2 b (by simp)) (k2.2 d (by simp)) h
    simp only [List.cons.injEq, true_and] at h
    exact ⟨by rw [e1, e2], h⟩
theorem none_P0 {p : Pl} (h : p.noneB = true) : p = P0 := by
 simp only [Pl.noneB, Bool.and_eq_true, decide_eq_true_eq] at h
 obtain ⟨n, q⟩ := p
 simp only at h
 rw [h.1, List.eq_nil_of_length_eq_zero h.2]; rfl
theorem none_E0 {e : Ex} (h : e.noneB = true) : e = E0 := by
 simp only [Ex.noneB, Bool.and_eq_true, decide_eq_true_eq] at h
 exact Ex.ext h.1 h.2.1 (none_P0 h.2.2.1) (List.eq_nil_of_length_eq_zero h.2.2.2)
theorem ex_norm {d : Nat} {e : Ex} (h : e.okD (d + 1) = true) : (∃ n : Nat, e = .mk 1 n P0 []) ∨ (∃ p : Pl, p.okB = true ∧ e = .mk 2 0 p []) ∨ ∃ k a b, 3 ≤ k ∧ k ≤ 6 ∧ e = .mk k 0 P0 [a, b] ∧ a.okD d = true ∧ b.okD d = true := by
 obtain ⟨d', hd, q | q | q⟩ := Ex.okD_get h
 ·have := okD_one d q.1
  rw [h] at this
  simp only [Eq.comm (a := true), Bool.and_eq_true, decide_eq_true_eq] at this
  refine .inl ⟨e.num.toNat, Ex.ext q.1 (show e.num = ((e.num.toNat : Nat) : Int) by omega) (none_P0 this.1.1) (List.eq_nil_of_length_eq_zero this.1.2)⟩
 ·have := okD_read d q.1
  rw [h] at this
  simp only [Eq.comm (a := true), Bool.and_eq_true, decide_eq_true_eq] at this
  exact .inr (.inl ⟨e.place, q.2, Ex.ext q.1 this.1.1 rfl (List.eq_nil_of_length_eq_zero this.1.2)⟩)
 ·obtain ⟨-, -, h3, h6, a, b, hk, ha, hb⟩ := q
  have hdd : d' = d := by omega
  subst hdd
  have := okD_two d' ⟨h3, h6⟩ hk
  rw [h] at this
  simp only [Eq.comm (a := true), Bool.and_eq_true, decide_eq_true_eq] at this
  exact .inr (.inr ⟨e.kind, a, b, h3, h6, Ex.ext rfl this.1.1 (none_P0 this.1.2) hk, ha, hb⟩)
theorem sign_head {k : Int} (h3 : 3 ≤ k) (h6 : k ≤ 6) : ∃ c, signL k = [c] ∧ digit c = false ∧ c ≠ 64 := by
 have : k = 3 ∨ k = 4 ∨ k = 5 ∨ k = 6 := by omega
 rcases this with rfl | rfl | rfl | rfl
 ·exact ⟨43, rfl, rfl, by decide⟩
 ·exact ⟨45, rfl, rfl, by decide⟩
 ·exact ⟨60, rfl, rfl, by decide⟩
 ·exact ⟨44, rfl, rfl, by decide⟩
theorem sign_inj {k j : Int} (h3 : 3 ≤ k) (h6 : k ≤ 6) (g3 : 3 ≤ j) (g6 : j ≤ 6) (h : signL k = signL j) : k = j := by
 have hk : k = 3 ∨ k = 4 ∨ k = 5 ∨ k = 6 := by omega
 have hj : j = 3 ∨ j = 4 ∨ j = 5 ∨ j = 6 := by omega
 rcases hk with rfl | rfl | rfl | rfl <;> rcases hj with rfl | rfl | rfl | rfl <;> first | rfl | (exfalso; revert h; decide)
theorem say_inj : ∀ (d : Nat) {a b : Ex} {r s : List UInt8}, a.okD d = true → b.okD d = true → T r → T s → sayL a ++ r = sayL b ++ s → a = b ∧ r = s
 | 0, a, b, r, s, h, _, _, _, _ => by simp [Ex.okD] at h
 | d + 1, a, b, r, s, ha, hb, hr, hs, h => by
   have n1 : ∀ n : Nat, sayL (.mk 1 n P0 []) = decL n := fun n => by rw [sayL_eq, if_pos rfl]; simp
   have n2 : ∀ p, sayL (.mk 2 0 p []) = 64 :: atL p := fun p => by rw [sayL_eq, if_neg (by decide), if_pos rfl]; simp [bn]
   have n3 : ∀ k x y, 3 ≤ k → sayL (.mk k 0 P0 [x, y]) = signL k ++ 32 :: (sayL x ++ 32 :: sayL y) := fun k x y hk => by rw [sayL_eq, if_neg (by omega), if_neg (by omega)]; simp [bn]
   have d64 : digit 64 = false := rfl
   rcases ex_norm ha with ⟨n, rfl⟩ | ⟨p, hp, rfl⟩ | ⟨k, x, y, h3, h6, rfl, hx, hy⟩ <;> rcases ex_norm hb with ⟨m, rfl⟩ | ⟨q, hq, rfl⟩ | ⟨j, u, v, g3, g6, rfl, hu, hv⟩
   ·rw [n1, n1] at h
    obtain ⟨e, h⟩ := dec_inj hr hs h
    exact ⟨by rw [e], h⟩
   ·rw [n1, n2] at h
    obtain ⟨c, t, e, hc⟩ := dec_head n
    rw [e] at h
    simp only [List.cons_append, List.cons.injEq] at h
    rw [h.1, d64] at hc; simp at hc
   ·rw [n1, n3 _ _ _ g3] at h
    obtain ⟨c, t, e, hc⟩ := dec_head n
    obtain ⟨c', e', hc', -⟩ := sign_head g3 g6
    rw [e, e'] at h
    simp only [List.cons_append, List.cons.injEq] at h
    rw [h.1, hc'] at hc; simp at hc
   ·rw [n1, n2] at h
    obtain ⟨c, t, e, hc⟩ := dec_head m
    rw [e] at h
    simp only [List.cons_append, List.cons.injEq] at h
    rw [← h.1, d64] at hc; simp at hc
   ·rw [n2, n2] at h
    simp only [List.cons_append, List.cons.injEq, true_and] at h
    obtain ⟨e, h⟩ := at_inj hp hq hr hs h
    exact ⟨by rw [e], h⟩
   ·rw [n2, n3 _ _ _ g3] at h
    obtain ⟨c', e', -, hc'⟩ := sign_head g3 g6
    rw [e'] at h
    simp only [List.cons_append, List.cons.injEq] at h
    exact absurd h.1.symm hc'
   ·rw [n1, n3 _ _ _ h3] at h
    obtain ⟨c, t, e, hc⟩ := dec_head m
    obtain ⟨c', e', hc', -⟩ := sign_head h3 h6
    rw [e, e'] at h
    simp only [List.cons_append, List.cons.injEq] at h
    rw [← h.1, hc'] at hc; simp at hc
   ·rw [n2, n3 _ _ _ h3] at h
    obtain ⟨c', e', -, hc'⟩ := sign_head h3 h6
    rw [e'] at h
    simp only [List.cons_append, List.cons.injEq] at h
    exact absurd h.1 hc'
   ·rw [n3 _ _ _ h3, n3 _ _ _ g3] at h
    obtain ⟨c, e, -, -⟩ := sign_head h3 h6
    obtain ⟨c', e', -, -⟩ := sign_head g3 g6
    have hk : c = c' → k = j := fun hc => sign_inj h3 h6 g3 g6 (by rw [e, e', hc])
    rw [e, e'] at h
    simp only [List.cons_append, List.nil_append, List.append_assoc, List.cons.injEq, true_and] at h
    obtain ⟨e1, h2⟩ := say_inj d hx hu (T.sp _) (T.sp _) h.2
    simp only [List.cons.injEq, true_and] at h2
    obtain ⟨e2, h2⟩ := say_inj d hy hv hr hs h2
    exact ⟨by rw [hk h.1, e1, e2], h2⟩
end Go.Xl
namespace Go.Xl
open Nat renaming reduceEqDiff → rE, reduceAdd → rA, reduceLeDiff → rL
theorem args_inj : ∀ {as bs : List Ag} {r s : List UInt8}, (∀ a ∈ as, a.okB = true) → (∀ a ∈ bs, a.okB = true) → argsL as ++ 10 :: r = argsL bs ++ 10 :: s → as = bs ∧ r = s
 | [], [], r, s, _, _, h => ⟨rfl, by simpa [argsL] using h⟩
 | [], b :: bs, r, s, _, hb, h => by
   exfalso
   simp only [argsL, List.flatMap_nil, List.nil_append, List.flatMap_cons, argL] at h
   split at h <;> simp [bn] at h
 | a :: as, [], r, s, ha, _, h => by
   exfalso
   simp only [argsL, List.flatMap_nil, List.nil_append, List.flatMap_cons, argL] at h
   split at h <;> simp [bn] at h
 | a :: as, b :: bs, r, s, ha, hb, h => by
   have oa := ha a (by simp)
   have ob := hb b (by simp)
   have hT : ∀ (l : List Ag) (t : List UInt8), T (argsL l ++ 10 :: t) := fun l t => by
    cases l with
    | nil => exact T.nl t
    | cons a l =>
      simp only [argsL, List.flatMap_cons, argL]
      split <;> (simp only [bn, List.map_cons, List.cons_append]; exact T.sp _)
   have hc : ∀ (a : Ag) (l : List Ag), argsL (a :: l) = argL a ++ argsL l := fun a l => by simp [argsL]
   rw [hc, hc, List.append_assoc, List.append_assoc] at h
   have ih : argsL as ++ 10 :: r = argsL bs ++ 10 :: s → as = bs ∧ r = s := args_inj (fun x hx => ha x (by simp [hx])) (fun x hx => hb x (by simp [hx]))
   rw [Ag.okB] at oa ob
   obtain ⟨la, pa, ea⟩ := a
   obtain ⟨lb, pb, eb⟩ := b
   cases la <;> cases lb <;> simp only [if_true, if_false, Bool.false_eq_true, Bool.and_eq_true] at oa ob <;> simp [argL, bn] at h
   ·obtain ⟨e, h⟩ := say_inj 4 oa.2 ob.2 (hT _ _) (hT _ _) h
    obtain ⟨e2, h⟩ := ih h
    exact ⟨by rw [none_P0 oa.1, none_P0 ob.1, e, e2], h⟩
   ·obtain ⟨e, h⟩ := at_inj oa.1 ob.1 (hT _ _) (hT _ _) h
    obtain ⟨e2, h⟩ := ih h
    exact ⟨by rw [none_E0 oa.2, none_E0 ob.2, e, e2], h⟩
theorem st_norm {Bd : List St → Bool} {s : St} (h : stOkW Bd s = true) :
 (∃ n e, yyf n = true ∧ e.okD 4 = true ∧ s = .mk 1 n P0 P0 e (bl []) [] [] []) ∨ (∃ n p, yyf n = true ∧ p.okB = true ∧ s = .mk 2 n p P0 E0 (bl []) [] [] []) ∨
 (∃ p e, p.okB = true ∧ e.okD 4 = true ∧ s = .mk 3 (bl []) p P0 e (bl []) [] [] []) ∨ (∃ n f as, yyf n = true ∧ yyf f = true ∧ (∀ a ∈ as, a.okB = true) ∧ s = .mk 4 n P0 P0 E0 f as [] []) ∨
 (∃ e t l, e.okD 4 = true ∧ Bd t = true ∧ Bd l = true ∧ s = .mk 5 (bl []) P0 P0 e (bl []) [] t l) ∨ ∃ n p o e, yyf n = true ∧ p.okB = true ∧ o.okB = true ∧ e.okD 4 = true ∧ s = .mk 6 n p o e (bl []) [] [] [] := by
 have nil : ∀ {α : Type} {l : List α}, l.length = 0 → l = [] := fun h => List.eq_nil_of_length_eq_zero h
 rcases stOk_get h with ⟨k, hn, he⟩ | ⟨k, hn, hp⟩ | ⟨k, hp, he⟩ | ⟨k, hn, hf, ha⟩ | ⟨k, he, ht, hl⟩ | ⟨k, hn, hp, ho, he⟩
 ·have hr := rest1_of k h
  simp only [St.rest1, mk_noneB, Bool.and_eq_true, decide_eq_true_eq] at hr
  obtain ⟨-, -, h1, h2, -, h3, h4, h5, h6⟩ := hr
  exact .inl ⟨_, _, hn, he, St.ext k rfl (none_P0 h1) (none_P0 h2) rfl h3 (nil h4) (nil h5) (nil h6)⟩
 ·have hr := rest2_of k h
  simp only [St.rest2, mk_noneB, Bool.and_eq_true, decide_eq_true_eq] at hr
  obtain ⟨-, -, -, h2, h1, h3, h4, h5, h6⟩ := hr
  exact .inr (.inl ⟨_, _, hn, hp, St.ext k rfl rfl (none_P0 h2) (none_E0 h1) h3 (nil h4) (nil h5) (nil h6)⟩)
 ·have hr := rest3_of k h
  simp only [St.rest3, mk_noneB, Bool.and_eq_true, decide_eq_true_eq] at hr
  obtain ⟨-, h1, -, h2, -, h3, h4, h5, h6⟩ := hr
  exact .inr (.inr (.inl ⟨_, _, hp, he, St.ext k h1 rfl (none_P0 h2) rfl h3 (nil h4) (nil h5) (nil h6)⟩))
 ·have hr := rest4_of k h
  simp only [St.rest4, mk_noneB, Bool.and_eq_true, decide_eq_true_eq] at hr
  obtain ⟨-, -, h1, h2, h3, -, -, h5, h6⟩ := hr
  simp only [argsOk, Bool.and_eq_true, List.all_eq_true] at ha
  exact .inr (.inr (.inr (.inl ⟨_, _, _, hn, hf, ha.2, St.ext k rfl (none_P0 h1) (none_P0 h2) (none_E0 h3) rfl rfl (nil h5) (nil h6)⟩)))
 ·have hr := rest5_of k h
  simp only [St.rest5, mk_noneB, Bool.and_eq_true, decide_eq_true_eq] at hr
  obtain ⟨-, h1, h2, h3, -, h4, h5, -, -⟩ := hr
  exact .inr (.inr (.inr (.inr (.inl ⟨_, _, _, he, ht, hl, St.ext k h1 (none_P0 h2) (none_P0 h3) rfl h4 (nil h5) rfl rfl⟩))))
 ·have hr := rest6_of k h
  simp only [St.rest6, mk_noneB, Bool.and_eq_true, decide_eq_true_eq] at hr
  obtain ⟨-, -, -, -, -, h3, h4, h5, h6⟩ := hr
  exact .inr (.inr (.inr (.inr (.inr ⟨_, _, _, _, hn, hp, ho, he, St.ext k rfl rfl rfl rfl h3 (nil h4) (nil h5) (nil h6)⟩))))
theorem ln1 (n : ByteArray) (e : Ex) (r : List UInt8) : lineL (.mk 1 n P0 P0 e (bl []) [] [] []) ++ r = 108 :: 101 :: 116 :: 32 :: (by_ n ++ 32 :: (sayL e ++ 10 :: r)) := by rw [lineL]; simp [bn]
theorem ln2 (n : ByteArray) (p : Pl) (r : List UInt8) : lineL (.mk 2 n p P0 E0 (bl []) [] [] []) ++ r = 108 :: 101 :: 110 :: 100 :: 32 :: (by_ n ++ 32 :: (atL p ++ 10 :: r)) := by rw [lineL]; simp [bn]
theorem ln3 (p : Pl) (e : Ex) (r : List UInt8) : lineL (.mk 3 (bl []) p P0 e (bl []) [] [] []) ++ r = 115 :: 101 :: 116 :: 32 :: (atL p ++ 32 :: (sayL e ++ 10 :: r)) := by rw [lineL]; simp [bn]
theorem ln4 (n f : ByteArray) (as : List Ag) (r : List UInt8) : lineL (.mk 4 n P0 P0 E0 f as [] []) ++ r = 99 :: 97 :: 108 :: 108 :: 32 :: (by_ n ++ 32 :: (by_ f ++ (argsL as ++ 10 :: r))) := by rw [lineL]; simp [bn]
theorem ln5 (e : Ex) (t l : List St) (r : List UInt8) : lineL (.mk 5 (bl []) P0 P0 e (bl []) [] t l) ++ r = 105 :: 102 :: 32 :: (sayL e ++ 10 :: (xxb t ++ 101 :: 108 :: 115 :: 101 :: 10 :: (xxb l ++ 101 :: 110 :: 100 :: 10 :: r))) := by rw [lineL]; simp [bn]
theorem ln6 (n : ByteArray) (p o : Pl) (e : Ex) (r : List UInt8) : lineL (.mk 6 n p o e (bl []) [] [] []) ++ r = 112 :: 105 :: 99 :: 107 :: 32 :: (by_ n ++ 32 :: (atL p ++ 32 :: (atL o ++ 32 :: (sayL e ++ 10 :: r)))) := by rw [lineL]; simp [bn]
def stop (r : List UInt8) : Prop := ∃ t, r = 101 :: t ∨ r = 103 :: t ∨ r = 115 :: 97 :: t
theorem line_inj {Bd : List St → Bool} (hBd : ∀ {a b : List St} {r s : List UInt8}, Bd a = true → Bd b = true → stop r → stop s → xxb a ++ r = xxb b ++ s → a = b ∧ r = s)
 {x y : St} {r s : List UInt8} (hx : stOkW Bd x = true) (hy : stOkW Bd y = true) (h : lineL x ++ r = lineL y ++ s) : x = y ∧ r = s := by
 have sE : ∀ t, stop (101 :: t) := fun t => ⟨t, .inl rfl⟩
 have aT : ∀ (l : List Ag) (t : List UInt8), T (argsL l ++ 10 :: t) := fun l t => by
  cases l with
  | nil => exact T.nl t
  | cons a l =>
    simp only [argsL, List.flatMap_cons, argL]
    split <;> (simp only [bn, List.map_cons, List.cons_append]; exact T.sp _)
 rcases st_norm hx with ⟨n, e, hn, he, rfl⟩ | ⟨n, p, hn, hp, rfl⟩ | ⟨p, e, hp, he, rfl⟩ | ⟨n, f, as, hn, hf, ha, rfl⟩ | ⟨e, t, l, he, ht, hl, rfl⟩ | ⟨n, p, o, e, hn, hp, ho, he, rfl⟩ <;>
 rcases st_norm hy with ⟨n', e', hn', he', rfl⟩ | ⟨n', p', hn', hp', rfl⟩ | ⟨p', e', hp', he', rfl⟩ | ⟨n', f', as', hn', hf', ha', rfl⟩ | ⟨e', t', l', he', ht', hl', rfl⟩ | ⟨n', p', o', e', hn', hp', ho', he', rfl⟩ <;>
 simp only [ln1, ln2, ln3, ln4, ln5, ln6, List.cons.injEq, true_and] at h <;> try (exact absurd h (by simp))
 ·obtain ⟨h1, h⟩ := name_T hn hn' (T.sp _) (T.sp _) h
  simp only [List.cons.injEq, true_and] at h
  obtain ⟨h2, h⟩ := say_inj 4 he he' (T.nl _) (T.nl _) h
  simp only [List.cons.injEq, true_and] at h
  exact ⟨by rw [h1, h2], h⟩
 ·obtain ⟨h1, h⟩ := name_T hn hn' (T.sp _) (T.sp _) h
  simp only [List.cons.injEq, true_and] at h
  obtain ⟨h2, h⟩ := at_inj hp hp' (T.nl _) (T.nl _) h
  simp only [List.cons.injEq, true_and] at h
  exact ⟨by rw [h1, h2], h⟩
 ·obtain ⟨h1, h⟩ := at_inj hp hp' (T.sp _) (T.sp _) h
  simp only [List.cons.injEq, true_and] at h
  obtain ⟨h2, h⟩ := say_inj 4 he he' (T.nl _) (T.nl _) h
  simp only [List.cons.injEq, true_and] at h
  exact ⟨by rw [h1, h2], h⟩
 ·obtain ⟨h1, h⟩ := name_T hn hn' (T.sp _) (T.sp _) h
  simp only [List.cons.injEq, true_and] at h
  obtain ⟨h2, h⟩ := name_T hf hf' (aT _ _) (aT _ _) h
  obtain ⟨h3, h⟩ := args_inj ha ha' h
  exact ⟨by rw [h1, h2, h3], h⟩
 ·obtain ⟨h1, h⟩ := say_inj 4 he he' (T.nl _) (T.nl _) h
  simp only [List.cons.injEq, true_and] at h
  obtain ⟨h2, h⟩ := hBd ht ht' (sE _) (sE _) h
  simp only [List.cons.injEq, true_and] at h
  obtain ⟨h3, h⟩ := hBd hl hl' (sE _) (sE _) h
  simp only [List.cons.injEq, true_and] at h
  exact ⟨by rw [h1, h2, h3], h⟩
 ·obtain ⟨h1, h⟩ := name_T hn hn' (T.sp _) (T.sp _) h
  simp only [List.cons.injEq, true_and] at h
  obtain ⟨h2, h⟩ := at_inj hp hp' (T.sp _) (T.sp _) h
  simp only [List.cons.injEq, true_and] at h
  obtain ⟨h3, h⟩ := at_inj ho ho' (T.sp _) (T.sp _) h
  simp only [List.cons.injEq, true_and] at h
  obtain ⟨h4, h⟩ := say_inj 4 he he' (T.nl _) (T.nl _) h
  simp only [List.cons.injEq, true_and] at h
  exact ⟨by rw [h1, h2, h3, h4], h⟩
theorem line_stop {Bd : List St → Bool} {x : St} (hx : stOkW Bd x = true) (r t : List UInt8) (ht : stop t) : lineL x ++ r ≠ t := by
 obtain ⟨t, rfl | rfl | rfl⟩ := ht <;>
 rcases st_norm hx with ⟨n, e, hn, he, rfl⟩ | ⟨n, p, hn, hp, rfl⟩ | ⟨p, e, hp, he, rfl⟩ | ⟨n, f, as, hn, hf, ha, rfl⟩ | ⟨e, t, l, he, ht, hl, rfl⟩ | ⟨n, p, o, e, hn, hp, ho, he, rfl⟩ <;>
 simp [ln1, ln2, ln3, ln4, ln5, ln6]
theorem lines_list {Bd : List St → Bool} (hl : ∀ {x y : St} {r s : List UInt8}, stOkW Bd x = true → stOkW Bd y = true → lineL x ++ r = lineL y ++ s → x = y ∧ r = s) :
 ∀ {a b : List St} {r s : List UInt8}, (∀ x ∈ a, stOkW Bd x = true) → (∀ x ∈ b, stOkW Bd x = true) → stop r → stop s → xxb a ++ r = xxb b ++ s → a = b ∧ r = s
 | [], [], r, s, _, _, _, _, h => ⟨rfl, by simpa [linesL_nil] using h⟩
 | [], y :: b, r, s, _, hb, hr, _, h => by
   rw [linesL_nil, linesL_cons, List.append_assoc] at h
   exact absurd h.symm (line_stop (hb y (by simp)) _ _ hr)
 | x :: a, [], r, s, ha, _, _, hs, h => by
   rw [linesL_nil, linesL_cons, List.append_assoc] at h
   exact absurd h (line_stop (ha x (by simp)) _ _ hs)
 | x :: a, y :: b, r, s, ha, hb, hr, hs, h => by
   rw [linesL_cons, linesL_cons, List.append_assoc, List.append_assoc] at h
   obtain ⟨h1, h⟩ := hl (ha x (by simp)) (hb y (by simp)) h
   obtain ⟨h2, h⟩ := lines_list hl (fun z hz => ha z (by simp [hz])) (fun z hz => hb z (by simp [hz])) hr hs h
   exact ⟨by rw [h1, h2], h⟩
theorem lines_inj : ∀ (d : Nat) {a b : List St} {r s : List UInt8}, xxc d a = true → xxc d b = true → stop r → stop s → xxb a ++ r = xxb b ++ s → a = b ∧ r = s
 | 0, a, b, r, s, h, _, _, _, _ => by simp [xxc] at h
 | d + 1, a, b, r, s, ha, hb, hr, hs, h => by
   simp only [xxc, Bool.and_eq_true, List.all_eq_true] at ha hb
   exact lines_list (line_inj (lines_inj d)) ha.2 hb.2 hr hs h
def stopP (r : List UInt8) : Prop := ∃ c t, r = c :: t ∧ c ≠ 104 ∧ ∀ t', r ≠ 108 :: 101 :: 110 :: 116 :: t'
theorem pa_inj {x y : Pa} {r s : List UInt8} (hx : yyf x.name = true ∧ x.type.deepB 4 = true) (hy : yyf y.name = true ∧ y.type.deepB 4 = true) (h : paL x ++ r = paL y ++ s) : x = y ∧ r = s := by
 obtain ⟨n, lx, t⟩ := x
 obtain ⟨m, ly, u⟩ := y
 have key : ∀ {r s}, by_ n ++ 32 :: (typL t ++ 10 :: r) = by_ m ++ 32 :: (typL u ++ 10 :: s) → n = m ∧ t = u ∧ r = s := by
  intro r s h
  obtain ⟨h1, h⟩ := name_T hx.1 hy.1 (T.sp _) (T.sp _) h
  simp only [List.cons.injEq, true_and] at h
  obtain ⟨h2, h⟩ := typ_inj 4 hx.2 hy.2 h
  simp only [List.cons.injEq, true_and] at h
  exact ⟨h1, h2, h⟩
 cases lx <;> cases ly <;> simp [paL, bn] at h
 ·obtain ⟨e1, e2, e3⟩ := key h; subst e1 e2; exact ⟨rfl, e3⟩
 ·obtain ⟨e1, e2, e3⟩ := key h; subst e1 e2; exact ⟨rfl, e3⟩
theorem pa_stop (x : Pa) (r t : List UInt8) (ht : stopP t) : paL x ++ r ≠ t := by
 obtain ⟨c, t, rfl, h1, h2⟩ := ht
 obtain ⟨n, l, u⟩ := x
 cases l
 ·intro h; simp [paL, bn] at h; exact h1 h.1.symm
 ·intro h; simp [paL, bn] at h; exact h2 _ (by rw [← h.1, ← h.2])
theorem pas_inj : ∀ {a b : List Pa} {r s : List UInt8}, (∀ p ∈ a, yyf p.name = true ∧ p.type.deepB 4 = true) → (∀ p ∈ b, yyf p.name = true ∧ p.type.deepB 4 = true) → stopP r → stopP s → a.flatMap paL ++ r = b.flatMap paL ++ s → a = b ∧ r = s
 | [], [], r, s, _, _, _, _, h => ⟨rfl, by simpa using h⟩
 | [], y :: b, r, s, _, hb, hr, _, h => by
   rw [List.flatMap_nil, List.nil_append, List.flatMap_cons, List.append_assoc] at h
   exact absurd h.symm (pa_stop y _ _ hr)
 | x :: a, [], r, s, ha, _, _, hs, h => by
   rw [List.flatMap_nil, List.nil_append, List.flatMap_cons, List.append_assoc] at h
   exact absurd h (pa_stop x _ _ hs)
 | x :: a, y :: b, r, s, ha, hb, hr, hs, h => by
   rw [List.flatMap_cons, List.flatMap_cons, List.append_assoc, List.append_assoc] at h
   obtain ⟨h1, h⟩ := pa_inj (ha x (by simp)) (hb y (by simp)) h
   obtain ⟨h2, h⟩ := pas_inj (fun z hz => ha z (by simp [hz])) (fun z hz => hb z (by simp [hz])) hr hs h
   exact ⟨by rw [h1, h2], h⟩
theorem endT (f : Fu) (r : List UInt8) : endL f ++ r = if f.lent then 103 :: 105 :: 118 :: 101 :: 115 :: 32 :: (typL f.type ++ 32 :: (atL f.gives ++ 10 :: r)) else 115 :: 97 :: 121 :: 115 :: 32 :: (typL f.type ++ 32 :: (sayL f.says ++ 10 :: r)) := by
 rw [endL]; split <;> simp [bn]
theorem end_stop (f : Fu) (r : List UInt8) : stop (endL f ++ r) := by
 rw [endT]; split
 ·exact ⟨_, .inr (.inl rfl)⟩
 ·exact ⟨_, .inr (.inr rfl)⟩
theorem body_stop {d : Nat} (l : List St) (h : xxc d l = true) (f : Fu) (r : List UInt8) : stopP (xxb l ++ (endL f ++ r)) := by
 cases l with
 | nil =>
   rw [linesL_nil, List.nil_append, endT]; split
   ·exact ⟨_, _, rfl, by decide, by simp⟩
   ·exact ⟨_, _, rfl, by decide, by simp⟩
 | cons s l =>
   cases d with
   | zero => simp [xxc] at h
   | succ d =>
     simp only [xxc, Bool.and_eq_true, List.all_eq_true] at h
     have hs := h.2 s (by simp)
     rw [linesL_cons, List.append_assoc]
     rcases st_norm hs with ⟨n, e, hn, he, rfl⟩ | ⟨n, p, hn, hp, rfl⟩ | ⟨p, e, hp, he, rfl⟩ | ⟨n, f, as, hn, hf, ha, rfl⟩ | ⟨e, t, l, he, ht, hl, rfl⟩ | ⟨n, p, o, e, hn, hp, ho, he, rfl⟩ <;>
     simp only [ln1, ln2, ln3, ln4, ln5, ln6] <;> exact ⟨_, _, rfl, by decide, by simp⟩
theorem fn_inj {f g : Fu} {r s : List UInt8} (hf : f.okB = true) (hg : g.okB = true) (h : fnL f ++ r = fnL g ++ s) : f = g ∧ r = s := by
 have F := fuF hf
 have G := fuF hg
 have e : ∀ (f : Fu) (r : List UInt8), fnL f ++ r = 102 :: 110 :: 32 :: (by_ f.name ++ 10 :: (f.params.flatMap paL ++ (xxb f.body ++ (endL f ++ r)))) := fun f r => by rw [fnL]; simp [bn]
 rw [e, e] at h
 simp only [List.cons.injEq, true_and] at h
 obtain ⟨h1, h⟩ := name_T F.name G.name (T.nl _) (T.nl _) h
 simp only [List.cons.injEq, true_and] at h
 obtain ⟨h2, h⟩ := pas_inj F.params G.params (body_stop _ F.body _ _) (body_stop _ G.body _ _) h
 obtain ⟨h3, h⟩ := lines_inj 4 F.body G.body (end_stop _ _) (end_stop _ _) h
 rw [endT, endT] at h
 obtain ⟨n, ps, lt, ty, bd, sy, gv⟩ := f
 obtain ⟨n', ps', lt', ty', bd', sy', gv'⟩ := g
 simp only at h1 h2 h3
 subst h1 h2 h3
 cases lt <;> cases lt' <;> simp only [if_true, if_false, Bool.false_eq_true, List.cons.injEq, true_and] at h
 ·obtain ⟨h1, h⟩ := typ_inj 4 F.type G.type h
  simp only [List.cons.injEq, true_and] at h
  obtain ⟨h2, h⟩ := say_inj 4 (F.says rfl).2 (G.says rfl).2 (T.nl _) (T.nl _) h
  simp only [List.cons.injEq, true_and] at h
  have p1 := none_P0 (F.says rfl).1
  have p2 := none_P0 (G.says rfl).1
  simp only at h1 h2 p1 p2
  exact ⟨by rw [h1, h2, p1, p2], h⟩
 ·exact absurd h.1 (by decide)
 ·exact absurd h.1 (by decide)
 ·obtain ⟨h1, h⟩ := typ_inj 4 F.type G.type h
  simp only [List.cons.injEq, true_and] at h
  obtain ⟨h2, h⟩ := at_inj (F.lent rfl).1 (G.lent rfl).1 (T.nl _) (T.nl _) h
  simp only [List.cons.injEq, true_and] at h
  have p1 := none_E0 (F.lent rfl).2
  have p2 := none_E0 (G.lent rfl).2
  simp only at h1 h2 p1 p2
  exact ⟨by rw [h1, h2, p1, p2], h⟩
theorem fns_inj : ∀ {p q : Pg}, (∀ f ∈ p, f.okB = true) → (∀ f ∈ q, f.okB = true) → fnsL p = fnsL q → p = q
 | [], [], _, _, _ => rfl
 | [], g :: q, _, _, h => by simp [fnsL, fnL, bn] at h
 | f :: p, [], _, _, h => by simp [fnsL, fnL, bn] at h
 | f :: p, g :: q, hp, hq, h => by
   have e : ∀ (f : Fu) (p : Pg), fnsL (f :: p) = fnL f ++ fnsL p := fun f p => by simp [fnsL]
   rw [e, e] at h
   obtain ⟨h1, h⟩ := fn_inj (hp f (by simp)) (hq g (by simp)) h
   rw [h1, fns_inj (fun x hx => hp x (by simp [hx])) (fun x hx => hq x (by simp [hx])) h]
theorem write_inj {p q : Pg} (hp : writeL p ≠ []) (hq : writeL q ≠ []) (h : writeL p = writeL q) : p = q := by
 have key : ∀ {p : Pg}, writeL p ≠ [] → formOk p = true ∧ writeL p = fnsL p := fun {p} hp => by
  rw [writeL] at hp ⊢
  split at hp
  ·rename_i h
   rw [if_pos h]
   split at hp
   ·exact absurd rfl hp
   ·rename_i h2; rw [if_neg h2]; exact ⟨h, rfl⟩
  ·exact absurd rfl hp
 obtain ⟨h1, h2⟩ := key hp
 obtain ⟨h3, h4⟩ := key hq
 simp only [formOk, Bool.and_eq_true, List.all_eq_true] at h1 h3
 rw [h2, h4] at h
 exact fns_inj h1.2 h3.2 h
end Go.Xl
namespace Go.Xl
open Nat renaming reduceEqDiff → rE, reduceAdd → rA, reduceLeDiff → rL
theorem pathOk_len {p : List Int} (h : pathOk p = true) : p.length ≤ 4 := by
 simp [pathOk] at h; exact h.1
theorem nameOk_ne {s : ByteArray} (h : yyf s = true) : s ≠ bl [] := by
 rintro rfl
 revert h; decide
theorem Pl.okB_get {p : Pl} (h : p.okB = true) : p.name ≠ bl [] ∧ p.path.length ≤ 4 := by
 simp only [Pl.okB, Bool.and_eq_true] at h
 exact ⟨nameOk_ne h.1, pathOk_len h.2⟩
theorem Pl.noneB_get {p : Pl} (h : p.noneB = true) : p.path.length ≤ 4 := by
 simp [Pl.noneB] at h; rw [h.2]; simp
theorem Pl.any_get {p : Pl} {c : Prop} [Decidable c] (h : (if c then p.okB else p.noneB) = true) : p.path.length ≤ 4 := by
 split at h
 ·exact (Pl.okB_get h).2
 ·exact Pl.noneB_get h
theorem Ex.ok_mk {e : Ex} (hp : e.place.path.length ≤ 2 ^ 20) (hk : e.kind ≠ 1 → e.kind ≠ 2 → 2 ≤ e.kids.length) (hs : ∀ x ∈ e.kids, x.ok) : e.ok := by cases e; exact .mk hp hk hs
theorem St.ok_mk {s : St} (hp : s.place.path.length ≤ 2 ^ 20) (ho : s.other.path.length ≤ 2 ^ 20) (he : s.kind ≠ 2 → s.kind ≠ 4 → s.expr.ok) (ha : ∀ a ∈ s.args, a.ok) (ht : ∀ x ∈ s.thn, x.ok) (hl : ∀ x ∈ s.els, x.ok) : s.ok := by
 cases s; exact .mk hp ho he ha ht hl
theorem St.nm_mk {s : St} (ho : s.kind = 6 → s.other.name ≠ bl []) (ha : s.kind = 4 → ∀ a ∈ s.args, a.lent = true → a.place.name ≠ bl []) (ht : ∀ x ∈ s.thn, x.nm) (hl : ∀ x ∈ s.els, x.nm) : s.nm := by
 cases s; exact .mk ho ha ht hl
theorem Ex.okD_ok : ∀ (d : Nat) (e : Ex), e.okD d = true → e.ok
 | 0, e, h => by simp [Ex.okD] at h
 | d + 1, e, h => by
   simp only [Ex.okD, Bool.and_eq_true, List.all_eq_true, exGuard, exLeaf] at h
   obtain ⟨⟨-, hg, -⟩, hk, hl⟩ := h
   refine Ex.ok_mk ?_ ?_ fun x hx => Ex.okD_ok d x (hk x hx)
   ·by_cases h2 : e.kind = 2
    ·rw [if_neg (by omega), if_pos h2] at hl
     simp only [Bool.and_eq_true] at hl
     have := (Pl.okB_get hl.1).2
     omega
    ·simp only [h2, decide_false, Bool.false_or] at hg
     have := Pl.noneB_get hg
     omega
   ·intro h1 h2
    rw [if_neg h1, if_neg h2] at hl
    simp at hl
    omega
theorem Ag.okB_ok {a : Ag} (h : a.okB = true) : a.ok ∧ (a.lent = true → a.place.name ≠ bl []) := by
 rw [Ag.okB] at h
 cases hl : a.lent
 ·simp only [hl, if_false, Bool.false_eq_true, Bool.and_eq_true] at h
  refine ⟨⟨fun _ => Ex.okD_ok _ _ h.2, ?_⟩, by simp⟩
  have := Pl.noneB_get h.1; omega
 ·simp only [hl, if_true, Bool.and_eq_true] at h
  have := Pl.okB_get h.1
  exact ⟨⟨by simp [hl], by omega⟩, fun _ => this.1⟩
theorem okW_ok (Bd : List St → Bool) (hB : ∀ l, Bd l = true → ∀ x ∈ l, x.ok ∧ x.nm) (s : St) (h : stOkW Bd s = true) : s.ok ∧ s.nm := by
 simp only [stOkW, stA, stB, stC', stD, Bool.and_eq_true, argsOk] at h
 obtain ⟨ho, ⟨-, hp, he⟩, ⟨hc, -, ha⟩, hd⟩ := h
 have hpl := Pl.any_get hp
 have hol := Pl.any_get ho
 have hbody : ∀ x, (x ∈ s.thn ∨ x ∈ s.els) → x.ok ∧ x.nm := by
  intro x hx
  split at hd
  ·simp only [Bool.and_eq_true] at hd
   rcases hx with hx | hx
   ·exact hB _ hd.1 x hx
   ·exact hB _ hd.2 x hx
  ·simp at hd
   rw [hd.2.1, hd.2.2] at hx; simp at hx
 refine ⟨St.ok_mk (by omega) (by omega) (fun h2 h4 => ?_) (fun a hx => (Ag.okB_ok (List.all_eq_true.1 ha a hx)).1) (fun x hx => (hbody x (.inl hx)).1) (fun x hx => (hbody x (.inr hx)).1), St.nm_mk (fun h6 => ?_) (fun _ a hx => (Ag.okB_ok (List.all_eq_true.1 ha a hx)).2) (fun x hx => (hbody x (.inl hx)).2) (fun x hx => (hbody x (.inr hx)).2)⟩
 ·have hk : isE s.kind = true := by
   simp only [isE, Bool.or_eq_true, decide_eq_true_eq]
   split at hd
   ·omega
   ·simp at hd; omega
  rw [if_pos hk] at he
  exact Ex.okD_ok _ _ he
 ·rw [if_pos h6] at ho
  exact (Pl.okB_get ho).1
theorem bodyOk_ok : ∀ (d : Nat) (l : List St), xxc d l = true → ∀ x ∈ l, x.ok ∧ x.nm
 | 0, l, h => by simp [xxc] at h
 | d + 1, l, h => by
   simp only [xxc, Bool.and_eq_true, List.all_eq_true] at h
   exact fun x hx => okW_ok _ (bodyOk_ok d) x (h.2 x hx)
theorem St.okB_ok {d : Nat} {s : St} (h : s.okB d = true) : s.ok ∧ s.nm := okW_ok _ (bodyOk_ok _) s h
section
variable {P : Program} {F : Ids}
theorem run_copyD (L : Lib P F) {dr : Bool} {K : Env → Heap → Prop} {xs : List XOper} {E : Env} {H : Heap} {l : Lds} {f : Fps} {i : Nat} {inc : List Nat} {args : List XArg} {d : Option Nat} {e : Nat} {v : En} {VS NS : AC} (hE : EnvAt H e v VS NS)
 (hl : v.vars.length ≤ 2 ^ 30) (hn : v.names.length ≤ 2 ^ 30) (ha : args.map (XArg.ev E) = [.ptr e 0]) (hchk : chkE inc l (yyb e VS NS))
 (h : ∀ a VS' NS' H1 fp, EnvAt H1 a v VS' NS' → H.sub H1 → (∀ d, yyb a VS' NS' d → H.get d = none) → (∀ c, fp c → yyb e VS NS c ∨ H.get c = none) → rrun P dr K xs (E.put d (.ptr a 0)) H1 l ((i, fp) :: f)) :
 rrun P dr K (⟨i, d, none, .eff (.call F.s_l3Env_copy args), inc⟩ :: xs) E H l f := by
 have hge : ∀ b, (H.only (yyb e VS NS)).get b ≠ none ↔ yyb e VS NS b := by
  intro b
  by_cases hb : yyb e VS NS b
  ·simp only [Heap.xxf hb, hb, iff_true]; exact hE.mem hb
  ·simp [Heap.only_none hb, hb]
 refine run_callS (yyb e VS NS) (c_copy L e v VS NS (H.only (yyb e VS NS)) hE.only hl hn) ha (.refl _) (fun _ N => ?_) ?_ ?_
 ·obtain ⟨M, hM⟩ := (H.only (yyb e VS NS)).fin
  obtain ⟨H0, VS0, NS0, hE0, hfar⟩ := env_live (N + M) (N + M) v
  have far : ∀ {b}, H0.get b ≠ none → N + M ≤ b := by
   intro b hb
   rcases hfar b hb with h | h <;> omega
  have hget : ∀ b, N + M ≤ b → (H0.swap .empty (H.only (yyb e VS NS))).get b = H0.get b := by
   intro b hb
   rw [Heap.get_swap, hM b (by omega)]; simp
  refine ⟨.ptr (N + M) 0, H0.swap .empty (H.only (yyb e VS NS)), ⟨N + M, VS0, NS0, rfl, hE0.mono fun d hd => hget d (far (hE0.mem hd)), fun d hd => ?_, fun d hd => hM d (by have := far (hE0.mem hd); omega)⟩, fun b hb hnb => ?_⟩
  ·rw [Heap.get_swap]
   obtain ⟨o, ho⟩ := Option.ne_none_iff_exists'.1 hd
   simp [ho]
  ·rw [Heap.get_swap, hnb] at hb
   have := far (b := b) (by simpa using hb)
   omega
 ·have : (fun b => (H.only (yyb e VS NS)).get b ≠ none) = yyb e VS NS := by funext b; exact propext (hge b)
  rw [this]; exact hchk
 rintro q H' H1 ⟨a, VS', NS', rfl, hE', hsame, hnew⟩ hsub hafter hn2 -
 refine h a VS' NS' H1 _ (hE'.sub hsub) (fun b o hb => ?_) (fun d hd => ?_) (fun c hc => ?_)
 ·by_cases hS : yyb e VS NS b
  ·refine hsub b o ?_
   rw [hsame b (by rw [Heap.xxf hS, hb]; simp), Heap.xxf hS]; exact hb
  ·rw [hafter.out b hS (by rw [hb]; simp)]; exact hb
 ·rcases hn2 d (hE'.mem hd) with h | h
  ·have := hnew d hd
   rw [Heap.xxf h] at this; exact this
  ·exact h
 ·rcases hc with hc | hc
  ·exact .inl ((hge c).1 hc)
  ·exact .inr hc
end
end Go.Xl
namespace Go.Xl
open Nat renaming reduceEqDiff → rE, reduceAdd → rA, reduceLeDiff → rL
def ccnt : Nat → Nat
 | 0 => 5
 | d + 1 => 6 + 5 * ccnt d
def scost : Nat → Nat
 | 0 => 20000
 | d + 1 => 20000 + 36 * scost d
def BodyR (n c k : Nat) (N : Nat) (v : En) (p last : Int) (s : Int) (q : AC) (v' : En) (p' last' : Int) : Prop :=
 (∃ l : List St, q = .sl 15 none (l.map St.enc) ∧ l.length ≤ n ∧ St.cntL l ≤ n * c ∧ ∀ x ∈ l, x.sm k) ∧ (v'.dr (N + n * c) ∧ v'.p = v.p ∧ v'.fn = v.fn) ∧ p ≤ p' ∧ p' ≤ p + s ∧ last ≤ last' ∧ last' ≤ last + s
def StmtM (P : Program) (F : Ids) (d : Nat) : Prop := ∀ (m r : Nat) (bs : List UInt8), bs.length ≤ 2000 → ∀ (v : En) (N : Nat), v.dr N → N + ccnt d ≤ 2 ^ 19 → ∀ p last : Int, 0 ≤ last → last + scost d ≤ 2 ^ 40 → 0 ≤ p → p + scost d ≤ 2 ^ 50 →
 MkC P F.s_l71Mk_stmt [.ptr m 0, I (d + 1 : Nat)] m r bs v p last (StR (ccnt d) d v p last (scost d))
def BodyM (P : Program) (F : Ids) (d : Nat) : Prop := ∀ (m r : Nat) (bs : List UInt8), bs.length ≤ 2000 → ∀ (v : En) (N n : Nat), v.dr N → n ≤ 6 → N + n * ccnt d ≤ 2 ^ 19 → ∀ p last : Int, 0 ≤ last → last + 18 * scost d ≤ 2 ^ 40 → 0 ≤ p → p + 18 * scost d ≤ 2 ^ 50 →
 MkC P F.s_l71Mk_body [.ptr m 0, I n, I (d + 1 : Nat)] m r bs v p last (BodyR n (ccnt d) (d + 1) N v p last (18 * scost d))
theorem En.dr.mono {v : En} {N M : Nat} (h : v.dr N) (hm : N ≤ M) : v.dr M := ⟨h.ok, h.up, h.ne, Nat.le_trans h.vl hm, Nat.le_trans h.nl hm, h.p, h.pl, h.fn⟩
theorem En.dr.stmt {v : En} {N : Nat} (h : v.dr N) {s : St} (hs : s.ok) (hn : s.nm) (hc : (v.stmt s).code = 0) (hl : N + s.cnt ≤ 2 ^ 20) : (v.stmt s).dr (N + s.cnt) := by
 have st := (En.stmt_step s.cnt).1 s (Nat.le_refl _) hs v h.ok (by have := h.vl; omega) fun f hf => (h.p f hf).1
 have up := (En.stmt_up hn hc).2 h.up
 refine ⟨st.ok, up, by have := h.ne; have := st.lo; omega, by have := h.vl; have := st.hi; omega, by have := h.nl; have := st.names; omega, by rw [st.p]; exact h.p, by rw [st.p]; exact h.pl, by rw [st.p, st.fn]; exact h.fn⟩
section
variable {P : Program} {F : Ids}
theorem c_mkBody (L : Lib P F) (d : Nat) (hd : d ≤ 20) (hst : StmtM P F d) : BodyM P F d := by
 intro m r bs hbs v N n hv hn hN p last hl hl2 hp hp2 H e VS NS hM
 refine L.s_l71Mk_body (by simp [x_s_l71Mk_body]) ?_
 generalize hc : ccnt d = c at *
 generalize hs : (scost d : Int) = s at *
 have hs0 : 0 ≤ s := by omega
 have w3 := yya (n := 3 * (n : Int)) (by omega) (by omega)
 simp only [x_s_l71Mk_body, go_sem, rE, rA]
 intro b11 hb11
 have hM1 := hM.new hb11 (.tail 0 0)
 have n11 := hM.notin hb11
 let J : Nat → Env → Heap → Prop := fun k E H => ∃ (e' : Nat) (v' : En) (VS' NS' : AC) (p' last' : Int) (l : List St) (bt nt mt : Nat), MkAt H m r bs e' v' VS' NS' p' last' ∧ v'.dr (N + l.length * c) ∧ v'.p = v.p ∧ v'.fn = v.fn ∧ p ≤ p' ∧ p' ≤ p + k * s ∧ last ≤ last' ∧ last' ≤ last + k * s ∧
  l.length ≤ n ∧ St.cntL l ≤ l.length * c ∧ (∀ x ∈ l, x.sm (d + 1)) ∧ H.get bt = some (.tail nt mt) ∧ ¬ mkBlk m r e' VS' NS' bt ∧ E 0 = .ptr m 0 ∧ E 1 = I n ∧ E 2 = I (d + 1 : Nat) ∧ E 7 = .sl 15 (some (bt, nt, mt)) (l.map St.enc) ∧ E 8 = I k
 refine yyc (3 * n) J ⟨e, v, VS, NS, p, last, [], b11, 0, 0, hM1, by simpa using hv, rfl, rfl, Int.le_refl _, by omega, Int.le_refl _, by omega, by simp, by simp [St.cntL_nil], by simp, Heap.zzb _ _ _, n11, rfl, rfl, rfl, rfl, rfl⟩ ?_
 clear hM hM1 hb11 n11
 rintro k E H hk ⟨e', v', VS', NS', p', last', l, bt, nt, mt, hM, hv', hvp, hvf, hp1, hp1', hl1, hl1', hln, hcl, hsm, gt, nX, e0, e1, e2, e7, e8⟩
 have hks : (k : Int) * s ≤ 18 * s := Int.mul_le_mul_of_nonneg_right (by omega) hs0
 have hlc : l.length * c ≤ n * c := Nat.mul_le_mul_right _ hln
 by_cases h1 : (k : Int) < 3 * n
 case neg =>
  simp only [go_sem, rE, rA, e1, e8, w3, h1, decide_false]
  refine zzd (q' := .sl 15 none (l.map St.enc)) (by simp only [go_sem, rE]; rw [e7]; exact .tok _ _ _) (Heap.zzm _) ⟨e', v', VS', NS', p', last', ⟨⟨l, rfl, hln, by omega, hsm⟩, ⟨hv'.mono (by omega), hvp, hvf⟩, hp1, by omega, hl1, by omega⟩, hM⟩
 by_cases h2 : (l.length : Int) < n
 case neg =>
  simp only [go_sem, rE, rA, e1, e7, e8, w3, h1, h2, decide_true, decide_false, List.length_map]
  refine zzd (q' := .sl 15 none (l.map St.enc)) (by simp only [go_sem, rE]; exact .tok _ _ _) (Heap.zzm _) ⟨e', v', VS', NS', p', last', ⟨⟨l, rfl, hln, by omega, hsm⟩, ⟨hv'.mono (by omega), hvp, hvf⟩, hp1, by omega, hl1, by omega⟩, hM⟩
 have hks1 : (k : Int) * s + s ≤ 18 * s := by
  have : ((k : Int) + 1) * s ≤ 18 * s := Int.mul_le_mul_of_nonneg_right (by omega) hs0
  rw [Int.add_mul, Int.one_mul] at this; exact this
 have hkk : ((k + 1 : Nat) : Int) * s = k * s + s := by rw [Int.natCast_succ, Int.add_mul, Int.one_mul]
 have hlc1 : (l.length + 1) * c ≤ n * c := Nat.mul_le_mul_right _ (by omega)
 have hlcc : (l.length + 1) * c = l.length * c + c := Nat.succ_mul _ _
 have w1 := yya (n := (k : Int) + 1) (by omega) (by omega)
 simp only [go_sem, rE, rA, e0, e1, e2, e7, e8, w3, h1, h2, decide_true, List.length_map]
 refine run_mk (hst m r bs hbs v' (N + l.length * c) hv' (by omega) p' last' (by omega) (by omega) (by omega) (by omega)) hM (rfl) (.refl _) (by simp) trivial ?_
 rintro q e1' v1 VS1 NS1 p1 last1 H1 fp1 ⟨⟨st, rfl, hst1, hst2⟩, rfl, hq1, hq2, hq3, hq4⟩ hM1 hk1 -
 obtain ⟨gt, nX⟩ := hk1 _ _ gt nX
 rw [hc] at hst1
 rw [hs] at hq2 hq4
 clear hk1 hM
 obtain ⟨cs, hcs, C⟩ := stC st
 simp only [hcs, go_sem, rE, rA, C.len, rL]
 intro b9 hb9
 have n9 := hM1.notin hb9
 have dt9 := zzj gt hb9
 have hM2 := hM1.new hb9 (.cells cs)
 have g9 : (H1.set b9 (.cells cs)).get b9 = some (.cells cs) := Heap.zzb _ _ _
 have gt : (H1.set b9 (.cells cs)).get bt = some (.tail nt mt) := by rw [Heap.zza _ _ dt9]; exact gt
 simp only [go_sem, rE, rA, C.len, C.all, rL]
 refine zzc (c_l2Stmt L (d + 1) (by omega) (by omega) st (by omega)) (by simp only [go_sem, rE, hcs, e2]) ?_
 have skip : ∀ (E' : Env) (H' : Heap), MkAt H' m r bs e1' v1 VS1 NS1 p1 last1 → H'.get bt = some (.tail nt mt) → E' 0 = .ptr m 0 → E' 1 = I n → E' 2 = I (d + 1 : Nat) → E' 7 = .sl 15 (some (bt, nt, mt)) (l.map St.enc) → E' 8 = I (k + 1 : Nat) → k < 3 * n ∧ ∃ H'', Heap.sub H'' H' ∧ J (k + 1) E' H'' :=
  fun E' H' hM gt h0 h1 h2 h7 h8 => ⟨by omega, H', Heap.zzm _, e1', v1, VS1, NS1, p1, last1, l, bt, nt, mt, hM, hv', hvp, hvf, by omega, by rw [hkk]; omega, by omega, by rw [hkk]; omega, hln, hcl, hsm, gt, nX, h0, h1, h2, h7, h8⟩
 cases hok : st.okB (d + 1)
 ·simp only [go_sem, rE, rA, e8, w1]
  exact skip _ _ hM2 gt (e0) (e1) (e2) (e7) (rfl)
 obtain ⟨sok, snm⟩ := St.okB_ok hok
 have hob := hM2.obj
 have hE := hM2.env
 have hdl := hv'.vl
 have hdn := hv'.nl
 have dpl := hv'.pl
 have dfn := hv'.fn
 simp only [go_sem, rE, rA, e0, hob]
 refine run_copy L hE (by omega) (by omega) (rfl) ?_
 intro a VSa NSa H3 fp3 hEa hs3 hnew
 have hM3 : MkAt H3 m r bs e1' v1 VS1 NS1 p1 last1 := hM2.mono fun b hb => by obtain ⟨o, ho⟩ := Option.ne_none_iff_exists'.1 (hM2.mem hb); rw [hs3 _ _ ho, ho]
 have dis : ∀ b, mkBlk m r e1' VS1 NS1 b → ¬ yyb a VSa NSa b := fun b hb hb' => hM2.mem hb (hnew b hb')
 have na9 : ¬ yyb a VSa NSa b9 := fun h => by have := hnew _ h; rw [g9] at this; simp at this
 have nat : ¬ yyb a VSa NSa bt := fun h => by have := hnew _ h; rw [gt] at this; simp at this
 have g9 := hs3 _ _ g9
 have gt := hs3 _ _ gt
 clear hnew hs3 hM2 hE hob
 simp only [go_sem, rE, rA, g9, C.len, C.all, rL]
 refine run_env (e_stmtN L st.cnt a st (Nat.le_refl _) sok v1 hv'.ok (by omega) (by omega) hv'.ne (fun f hf => (hv'.p f hf).1) (by omega) (by omega)) hEa (by simp only [go_sem, rE, hcs]) (.refl _) (by simp) trivial ?_
 rintro q va VSa NSa H4 fp4 ⟨rfl, hva⟩ hEa hk4 -
 obtain ⟨g9, na9⟩ := hk4 _ _ g9 na9
 obtain ⟨gt, nat⟩ := hk4 _ _ gt nat
 have key : ∀ b, mkBlk m r e1' VS1 NS1 b → H4.get b = H3.get b ∧ ¬ yyb a VSa NSa b := by
  intro b hb
  obtain ⟨o, ho⟩ := Option.ne_none_iff_exists'.1 (hM3.mem hb)
  obtain ⟨h1, h2⟩ := hk4 b o ho (dis b hb)
  exact ⟨by rw [h1, ho], h2⟩
 have hM4 : MkAt H4 m r bs e1' v1 VS1 NS1 p1 last1 := hM3.mono fun b hb => (key b hb).1
 have nam := (key m (.inl rfl)).2
 have nar := (key r (.inr (.inl rfl))).2
 clear hk4 hM3
 have hob := hEa.obj
 simp only [EnvO] at hob
 simp only [go_sem, rE, rA, hob]
 by_cases hcode : va.code = 0
 ·have hcode' : (va.code == 0) = true := by simpa using hcode
  have hom := hM4.obj
  have dm9 : b9 ≠ m := by rintro rfl; rw [hom] at g9; simp at g9; have := C.len; rw [← g9] at this; simp at this
  have dmt : bt ≠ m := by rintro rfl; rw [hom] at gt; simp at gt
  simp only [go_sem, rE, rA, hcode', e0, hom, g9, dm9, Ne.symm dm9, e7, C.len, C.all, rL, List.replicate, List.flatten_cons, List.flatten_nil, chunk]
  have gt5 : (H4.set m (.cells [.ptr r 0, .ptr a 0, I last1])).get bt = some (.tail nt mt) := by rw [Heap.zza _ _ dmt]; exact gt
  have hM5 : MkAt (H4.set m (.cells [.ptr r 0, .ptr a 0, I last1])) m r bs a va VSa NSa p1 last1 :=
   ⟨Heap.zzb _ _ _, by rw [Heap.zza _ _ (Ne.symm hM4.mr)]; exact hM4.rd, hEa.mono fun b hb => Heap.zza _ _ (by rintro rfl; exact nam hb), hM4.mr, nam, nar⟩
  have nt5 : ¬ mkBlk m r a VSa NSa bt := by
   rintro (h | h | h)
   ·exact dmt h
   ·rw [h, hM4.rd] at gt; simp [RdO] at gt
   ·exact nat h
  refine run_appT (es := l.map St.enc) (ys := [cs]) (by simp only [go_sem, rE, e7]) gt5 (by simp only [go_sem, rE]) (by simp [C.len]) (by simp; omega) ?_
  intro bt' nt' mt' H6 fp6 gt6 hk6 hbt6 _
  have hM6 : MkAt H6 m r bs a va VSa NSa p1 last1 := hM5.mono fun b hb => hk6 b (hM5.mem hb) (by rintro rfl; exact nt5 hb)
  have nt6 : ¬ mkBlk m r a VSa NSa bt' := by
   rcases hbt6 with rfl | h
   ·exact nt5
   ·exact hM5.notin h
  have hdr := hv'.stmt sok snm (by rw [← hva]; exact hcode) (by omega)
  rw [← hva] at hdr
  have hstep := (En.stmt_step st.cnt).1 st (Nat.le_refl _) sok v1 hv'.ok (by omega) fun f hf => (hv'.p f hf).1
  rw [← hva] at hstep
  simp only [go_sem, rE, rA, e8, w1]
  refine ⟨by omega, H6, Heap.zzm _, a, va, VSa, NSa, p1, last1, l ++ [st], bt', nt', mt', hM6, hdr.mono (by simp; omega), hstep.p.trans hvp, hstep.fn.trans hvf, by omega, by rw [hkk]; omega, by omega, by rw [hkk]; omega, by simp; omega, ?_, ?_, gt6, nt6, e0, e1, e2, ?_, rfl⟩
  ·have : St.cntL (l ++ [st]) = St.cntL l + st.cnt := by
    have := cntL_take (l ++ [st]) l.length
    rw [List.take_left', List.drop_left'] at this
    ·rw [St.cntL_cons, St.cntL_nil] at this; omega
    all_goals rfl
   rw [this]; simp; omega
  ·intro x hx
   rcases List.mem_append.1 hx with h | h
   ·exact hsm x h
   ·simp at h; rw [h]; exact hst2
  ·simp only [go_sem, rE, List.map_append, List.map_cons, List.map_nil, hcs]
 ·have hcode' : (va.code == 0) = false := by simpa using hcode
  simp only [go_sem, rE, rA, hcode', e8, w1]
  exact skip _ _ hM4 gt (e0) (e1) (e2) (e7) (rfl)
end
end Go.Xl
namespace Go.Xl
open Nat renaming reduceEqDiff → rE, reduceAdd → rA, reduceLeDiff → rL
theorem scost_pos : ∀ d, 20000 ≤ scost d
 | 0 => Nat.le_refl _
 | d + 1 => by simp only [scost]; omega
theorem ccnt_pos : ∀ d, 5 ≤ ccnt d
 | 0 => Nat.le_refl _
 | d + 1 => by simp only [ccnt]; omega
theorem leLet (nm : ByteArray) (x : Ex) : LeC ([I 1, S nm, S (bl []), NIL, S (bl []), NIL] ++ x.enc ++ [S (bl []), NIL, NIL, NIL]) (St.mk 1 nm P0 P0 x (bl []) [] [] []).enc := by
 rw [St.enc_eq, Ex.enc_eq]
 exact ⟨⟨.refl _, rfl⟩, ⟨.refl _, rfl⟩, ⟨.refl _, rfl⟩, ⟨.nil 1, rfl⟩, ⟨.refl _, rfl⟩, ⟨.nil 1, rfl⟩, ⟨.refl _, rfl⟩, ⟨.refl _, rfl⟩, ⟨.refl _, rfl⟩, ⟨.refl _, rfl⟩, ⟨.refl _, rfl⟩, ⟨.refl _, rfl⟩, ⟨.nil 8, rfl⟩, ⟨.nil 15, rfl⟩, ⟨.nil 15, rfl⟩, trivial⟩
theorem leLend (nm : ByteArray) (p : Pl) : LeC [I 2, S nm, S p.name, zze p.path, S (bl []), NIL, I 0, I 0, S (bl []), NIL, NIL, S (bl []), NIL, NIL, NIL] (St.mk 2 nm p P0 E0 (bl []) [] [] []).enc := by
 rw [St.enc_eq]
 exact ⟨⟨.refl _, rfl⟩, ⟨.refl _, rfl⟩, ⟨.refl _, rfl⟩, ⟨.refl _, rfl⟩, ⟨.refl _, rfl⟩, ⟨.nil 1, rfl⟩, ⟨.refl _, rfl⟩, ⟨.refl _, rfl⟩, ⟨.refl _, rfl⟩, ⟨.nil 1, rfl⟩, ⟨.nil 5, rfl⟩, ⟨.refl _, rfl⟩, ⟨.nil 8, rfl⟩, ⟨.nil 15, rfl⟩, ⟨.nil 15, rfl⟩, trivial⟩
theorem leSet (p : Pl) (x : Ex) : LeC ([I 3, S (bl []), S p.name, zze p.path, S (bl []), NIL] ++ x.enc ++ [S (bl []), NIL, NIL, NIL]) (St.mk 3 (bl []) p P0 x (bl []) [] [] []).enc := by
 rw [St.enc_eq, Ex.enc_eq]
 exact ⟨⟨.refl _, rfl⟩, ⟨.refl _, rfl⟩, ⟨.refl _, rfl⟩, ⟨.refl _, rfl⟩, ⟨.refl _, rfl⟩, ⟨.nil 1, rfl⟩, ⟨.refl _, rfl⟩, ⟨.refl _, rfl⟩, ⟨.refl _, rfl⟩, ⟨.refl _, rfl⟩, ⟨.refl _, rfl⟩, ⟨.refl _, rfl⟩, ⟨.nil 8, rfl⟩, ⟨.nil 15, rfl⟩, ⟨.nil 15, rfl⟩, trivial⟩
theorem leIf (x : Ex) (t l : List St) : LeC ([I 5, S (bl []), S (bl []), NIL, S (bl []), NIL] ++ x.enc ++ [S (bl []), NIL, .sl 15 none (t.map St.enc), .sl 15 none (l.map St.enc)]) (St.mk 5 (bl []) P0 P0 x (bl []) [] t l).enc := by
 rw [St.enc_eq, Ex.enc_eq]
 simp only [St.zzk]
 exact ⟨⟨.refl _, rfl⟩, ⟨.refl _, rfl⟩, ⟨.refl _, rfl⟩, ⟨.nil 1, rfl⟩, ⟨.refl _, rfl⟩, ⟨.nil 1, rfl⟩, ⟨.refl _, rfl⟩, ⟨.refl _, rfl⟩, ⟨.refl _, rfl⟩, ⟨.refl _, rfl⟩, ⟨.refl _, rfl⟩, ⟨.refl _, rfl⟩, ⟨.nil 8, rfl⟩, ⟨.refl _, rfl⟩, ⟨.refl _, rfl⟩, trivial⟩
section
variable {P : Program} {F : Ids}
theorem c_mkStmt1 (L : Lib P F) (d : Nat) (hd : d ≤ 20) (hbody : ∀ d', d = d' + 1 → BodyM P F d') : StmtM P F d := by
 intro m r bs hbs v N hv hN p last hl hl2 hp hp2 H e VS NS hM
 have hsc := scost_pos d
 have hcc := ccnt_pos d
 refine L.s_l71Mk_stmt (by simp [x_s_l71Mk_stmt]) ?_
 simp only [x_s_l71Mk_stmt, go_sem, rE, rA]
 intro b4 hb4
 have hM0 := hM.new hb4 (.cells [I 0, S (bl []), S (bl []), NIL, S (bl []), NIL, I 0, I 0, S (bl []), NIL, NIL, S (bl []), NIL, NIL, NIL])
 have n4 := hM.notin hb4
 have g4 : (H.set b4 (.cells [I 0, S (bl []), S (bl []), NIL, S (bl []), NIL, I 0, I 0, S (bl []), NIL, NIL, S (bl []), NIL, NIL, NIL])).get b4 = some (.cells [I 0, S (bl []), S (bl []), NIL, S (bl []), NIL, I 0, I 0, S (bl []), NIL, NIL, S (bl []), NIL, NIL, NIL]) := Heap.zzb _ _ _
 generalize H.set b4 (.cells [I 0, S (bl []), S (bl []), NIL, S (bl []), NIL, I 0, I 0, S (bl []), NIL, NIL, S (bl []), NIL, NIL, NIL]) = H0 at *
 clear hM hb4
 have fin : ∀ (E' : Env) (H' : Heap) (cs : List AC) (st : St) (e' : Nat) (VS' NS' : AC) (p' last' : Int), MkAt H' m r bs e' v VS' NS' p' last' → E' 4 = .ptr b4 0 → H'.get b4 = some (.cells cs) → Le (.agg cs) (.agg st.enc) → cs.length = 15 → st.cnt ≤ ccnt d → st.sm (d + 1) → p ≤ p' → p' ≤ p + scost d → last ≤ last' → last' ≤ last + scost d →
  (XFunc.post [.cell 4 (some 15)] (fun q H' => ∃ e' v' VS' NS' p' last', StR (ccnt d) d v p last (scost d) q v' p' last' ∧ MkAt H' m r bs e' v' VS' NS' p' last')) .ret E' H' := by
  intro E' H' cs st e' VS' NS' p' last' hM e4 g4 hle hlen hc hs h1 h2 h3 h4
  exact yym (q' := .agg st.enc) (off := 0) e4 g4 (by simp [partA, hlen, List.take_of_length_le (Nat.le_of_eq hlen)]) hle (Heap.zzm _) ⟨e', v, VS', NS', p', last', ⟨⟨st, rfl, hc, hs⟩, rfl, h1, h2, h3, h4⟩, hM⟩
 have hom := hM0.obj
 have hmr := hM0.mr
 simp only [go_sem, rE, rA, hom]
 refine yyg (c_pick' L r bs p 5 hbs hp (by omega)) (rfl) hM0.rd (by simp) trivial ?_
 rintro q p1 hp1 hp1' ⟨k1, rfl, hk10, hk11⟩
 have d4r : b4 ≠ r := fun h => n4 (.inr (.inl h))
 have hM1 := hM0.setR p1
 have g4 : (H0.set r (RdO bs p1)).get b4 = _ := (Heap.zza _ _ d4r).trans g4
 generalize H0.set r (RdO bs p1) = H1 at *
 clear hM0 hom
 by_cases hk1 : k1 = 0
 ·simp only [hk1, go_sem, rE, rA, Int.reduceBEq]
  refine run_mk (c_mkPick L m r bs hbs v hv.ok p1 last hl (by omega) (by omega) (by omega)) hM1 (rfl) (.refl _) (by simp) trivial ?_
  rintro q e2 v2 VS2 NS2 p2 last2 H2 fp2 ⟨⟨st, rfl, hst1, hst2⟩, rfl, h1, h2, h3, h4⟩ hM2 hk2 -
  obtain ⟨g4, n4⟩ := hk2 _ _ g4 n4
  obtain ⟨cs, hcs, C⟩ := stC st
  simp only [hcs, go_sem, rE, rA, g4, C.len, rL]
  exact fin _ _ cs st e2 VS2 NS2 p2 last2 (hM2.put n4 _) (rfl) (Heap.zzb _ _ _) (by rw [hcs]; exact .refl _) C.len (by omega) (hst2.up (by omega)) (by omega) (by omega) (by omega) (by omega)
 have hk1' : (k1 == 0) = false := by simpa using hk1
 have hom := hM1.obj
 simp only [hk1', go_sem, rE, rA, hom]
 refine yyg (c_pick' L r bs p1 12 hbs (by omega) (by omega)) (rfl) hM1.rd (by simp) trivial ?_
 rintro q p2 hp2' hp2'' ⟨k2, rfl, hk20, hk21⟩
 have hM2 := hM1.setR p2
 have g4 : (H1.set r (RdO bs p2)).get b4 = _ := (Heap.zza _ _ d4r).trans g4
 generalize H1.set r (RdO bs p2) = H2 at *
 clear hM1 hom
 have dmr : m ≠ b4 := fun h => n4 (.inl h.symm)
 have sLet : ∀ (E : Env), E 0 = .ptr m 0 → E 4 = .ptr b4 0 → ∀ A : Env → Heap → Prop, XCode.wp P (kd20 F) (XExit.inBlock 0 (XExit.then A (XFunc.post [.cell 4 (some 15)] (fun q H' => ∃ e' v' VS' NS' p' last', StR (ccnt d) d v p last (scost d) q v' p' last' ∧ MkAt H' m r bs e' v' VS' NS' p' last')))) E H2 := by
  intro E e0 e4 A
  rw [kd20]
  have hom := hM2.obj
  simp only [go_sem, rE, rA, e0, hom]
  refine ⟨?_, ?_⟩
  ·refine run_mk (R := nameR v p2 last) (c_mkName L m r bs v p2 last hl (by omega)) hM2 (rfl) (.refl _) (fun _ => ⟨S (bl []), v, p2, last + 1, ⟨_, rfl⟩, rfl, rfl, rfl⟩) (by simp [chkE]) ?_
   rintro q e3 v3 VS3 NS3 p3 last3 H3 fp3 ⟨⟨nm, rfl⟩, rfl, rfl, rfl⟩ hM3 hk3 -
   obtain ⟨g4, n4⟩ := hk3 _ _ g4 n4
   have hom := hM3.obj
   simp only [go_sem, rE, rA, e0, hom]
   refine yyg (c_l71Type L r bs hbs 3 3 (by omega) (by omega) p3 (by omega) (by simp [tcost]; omega)) (rfl) hM3.rd (fun _ => ⟨by simp [tcost], _, .mk [], rfl, by simp [Ty.le]⟩) (by simp [chkE]) ?_
   rintro q p4 hp4 hp4' ⟨t, rfl, ht⟩
   simp only [tcost] at hp4'
   have hM4 := hM3.setR p4
   have g4 : (H3.set r (RdO bs p4)).get b4 = _ := (Heap.zza _ _ d4r).trans g4
   generalize H3.set r (RdO bs p4) = H4 at *
   refine run_mk (c_mkExpr L m r bs hbs v3 hv.ok (last + 1) 3 (by omega) t 3 ⟨3, by omega, ht⟩ (by omega) (by omega) p4 (by omega) (by simp [ecost]; omega)) hM4 (rfl) (.refl _) (fun _ => ExprR.live _ _ _ _ (by simp [ecost])) (by simp [chkE]) ?_
   rintro q e5 v5 VS5 NS5 p5 last5 H5 fp5 ⟨⟨x, rfl, hx, hxsm⟩, rfl, hp5, hp5', rfl⟩ hM5 hk5 -
   simp only [ecost] at hp5'
   obtain ⟨g4, n4⟩ := hk5 _ _ g4 n4
   simp only [go_sem, rE, rA, e4, Ex.enc_eq x, g4, rL]
   obtain ⟨c1, c2⟩ := st_leaf 1 nm P0 P0 x hxsm
   exact fin _ _ _ (.mk 1 nm P0 P0 x (bl []) [] [] []) e5 VS5 NS5 p5 (last + 1) (hM5.put n4 _) (e4) (Heap.zzb _ _ _) (by have := leLet nm x; rw [Ex.enc_eq x] at this; exact .agg this) rfl (by omega) (c2.up (by omega)) (by omega) (by omega) (by omega) (by omega)
  ·refine run_mk (R := nameR v p2 last) (c_mkName L m r bs v p2 last hl (by omega)) hM2 (by simp only [go_sem, rE, e0]) (.refl _) (fun _ => ⟨S (bl []), v, p2, last + 1, ⟨_, rfl⟩, rfl, rfl, rfl⟩) (by simp [chkE]) ?_
   rintro q e3 v3 VS3 NS3 p3 last3 H3 fp3 ⟨⟨nm, rfl⟩, rfl, rfl, rfl⟩ hM3 hk3 -
   obtain ⟨g4, n4⟩ := hk3 _ _ g4 n4
   refine yyg (c_l71Type L r bs hbs 3 3 (by omega) (by omega) p3 (by omega) (by simp [tcost]; omega)) (rfl) hM3.rd (fun _ => ⟨by simp [tcost], _, .mk [], rfl, by simp [Ty.le]⟩) (by simp [chkE]) ?_
   rintro q p4 hp4 hp4' ⟨t, rfl, ht⟩
   simp only [tcost] at hp4'
   have hM4 := hM3.setR p4
   have g4 : (H3.set r (RdO bs p4)).get b4 = _ := (Heap.zza _ _ d4r).trans g4
   generalize H3.set r (RdO bs p4) = H4 at *
   refine run_mk (c_mkExpr L m r bs hbs v3 hv.ok (last + 1) 3 (by omega) t 3 ⟨3, by omega, ht⟩ (by omega) (by omega) p4 (by omega) (by simp [ecost]; omega)) hM4 (rfl) (.refl _) (fun _ => ExprR.live _ _ _ _ (by simp [ecost])) (by simp [chkE]) ?_
   rintro q e5 v5 VS5 NS5 p5 last5 H5 fp5 ⟨⟨x, rfl, hx, hxsm⟩, rfl, hp5, hp5', rfl⟩ hM5 hk5 -
   simp only [ecost] at hp5'
   obtain ⟨g4, n4⟩ := hk5 _ _ g4 n4
   simp only [go_sem, rE, rA, e4, Ex.enc_eq x, g4, rL]
   obtain ⟨c1, c2⟩ := st_leaf 1 nm P0 P0 x hxsm
   exact fin _ _ _ (.mk 1 nm P0 P0 x (bl []) [] [] []) e5 VS5 NS5 p5 (last + 1) (hM5.put n4 _) (e4) (Heap.zzb _ _ _) (by have := leLet nm x; rw [Ex.enc_eq x] at this; exact .agg this) rfl (by omega) (c2.up (by omega)) (by omega) (by omega) (by omega) (by omega)
 have sLend : ∀ (E : Env), E 0 = .ptr m 0 → E 4 = .ptr b4 0 → ∀ A : Env → Heap → Prop, XCode.wp P (kd21 F) (XExit.inBlock 0 (XExit.then A (XFunc.post [.cell 4 (some 15)] (fun q H' => ∃ e' v' VS' NS' p' last', StR (ccnt d) d v p last (scost d) q v' p' last' ∧ MkAt H' m r bs e' v' VS' NS' p' last')))) E H2 := by
  intro E e0 e4 A
  rw [kd21]
  simp only [go_sem, rE, rA, e0]
  refine run_mk (c_mkPlace L m r bs hbs v hv.ok p2 last (by omega) (by omega)) hM2 (rfl) (.refl _) (by simp) trivial ?_
  rintro q e3 v3 VS3 NS3 p3 last3 H3 fp3 ⟨⟨pa, u, rfl, hpa, hu⟩, rfl, hp3, hp3', rfl⟩ hM3 hk3 -
  obtain ⟨g4, n4⟩ := hk3 _ _ g4 n4
  simp only [go_sem, rE, rA, Ty.enc_eq u, Pl.enc]
  intro b5 hb5 b6 hb6
  have hb6' := new2 hb6 (.cells [S pa.name, zze pa.path])
  obtain ⟨stay, ga, gb, d56⟩ := pl_stay (c := .cells [S pa.name, zze pa.path]) (c' := .cells [.sl 1 none (Ty.encs u.kids)]) hb5 hb6'
  have hM4 := (hM3.new hb5 (.cells [S pa.name, zze pa.path])).new hb6' (.cells [.sl 1 none (Ty.encs u.kids)])
  have n5 := hM3.notin hb5
  have g4 := stay g4
  simp only [go_sem, rE, rA, d56, Ne.symm d56, alloc2 d56]
  generalize ((H3.set b5 (.cells [S pa.name, zze pa.path])).set b6 (.cells [.sl 1 none (Ty.encs u.kids)])) = H4 at *
  refine run_mk (R := nameR v3 p3 last3) (c_mkName L m r bs v3 p3 last3 hl (by omega)) hM4 (by simp only [go_sem, rE, e0]) (.refl _) (fun _ => ⟨S (bl []), v3, p3, last3 + 1, ⟨_, rfl⟩, rfl, rfl, rfl⟩) (by simp [chkE]) ?_
  rintro q e5 v5 VS5 NS5 p5 last5 H5 fp5 ⟨⟨nm, rfl⟩, rfl, rfl, rfl⟩ hM5 hk5 hf5
  obtain ⟨g4, n4⟩ := hk5 _ _ g4 n4
  have nf5 : ¬ fp5 b5 := fun h => by
   rcases hf5 _ h with h | h
   ·exact n5 h
   ·rw [ga] at h; simp at h
  obtain ⟨ga, n5⟩ := hk5 _ _ ga n5
  simp only [go_sem, rE, rA, e0, e4, ga, g4, rL]
  refine ⟨by simp; exact nf5, ?_⟩
  obtain ⟨c1, c2⟩ := st_leaf 2 nm pa P0 E0 E0_sm
  exact fin _ _ _ (.mk 2 nm pa P0 E0 (bl []) [] [] []) e5 VS5 NS5 p5 (last3 + 1) (hM5.put n4 _) (e4) (Heap.zzb _ _ _) (.agg (leLend nm pa)) rfl (by omega) (c2.up (by omega)) (by omega) (by omega) (by omega) (by omega)
 have sSet : ∀ (E : Env), E 0 = .ptr m 0 → E 4 = .ptr b4 0 → ∀ A : Env → Heap → Prop, XCode.wp P (kd22 F) (XExit.inBlock 0 (XExit.then A (XFunc.post [.cell 4 (some 15)] (fun q H' => ∃ e' v' VS' NS' p' last', StR (ccnt d) d v p last (scost d) q v' p' last' ∧ MkAt H' m r bs e' v' VS' NS' p' last')))) E H2 := by
  intro E e0 e4 A
  rw [kd22]
  simp only [go_sem, rE, rA, e0]
  refine run_mk (c_mkPlace L m r bs hbs v hv.ok p2 last (by omega) (by omega)) hM2 (rfl) (.refl _) (by simp) trivial ?_
  rintro q e3 v3 VS3 NS3 p3 last3 H3 fp3 ⟨⟨pa, u, rfl, hpa, hu⟩, rfl, hp3, hp3', rfl⟩ hM3 hk3 -
  obtain ⟨g4, n4⟩ := hk3 _ _ g4 n4
  simp only [go_sem, rE, rA, Ty.enc_eq u, Pl.enc]
  intro b5 hb5 b6 hb6
  have hb6' := new2 hb6 (.cells [S pa.name, zze pa.path])
  obtain ⟨stay, ga, gb, d56⟩ := pl_stay (c := .cells [S pa.name, zze pa.path]) (c' := .cells [.sl 1 none (Ty.encs u.kids)]) hb5 hb6'
  have hM4 := (hM3.new hb5 (.cells [S pa.name, zze pa.path])).new hb6' (.cells [.sl 1 none (Ty.encs u.kids)])
  have n5 := hM3.notin hb5
  have g4 := stay g4
  simp only [go_sem, rE, rA, d56, Ne.symm d56, alloc2 d56]
  generalize ((H3.set b5 (.cells [S pa.name, zze pa.path])).set b6 (.cells [.sl 1 none (Ty.encs u.kids)])) = H4 at *
  simp only [go_sem, rE, rA, e0, ga, gb, rL]
  refine run_mk (c_mkExpr L m r bs hbs v3 hv.ok last3 3 (by omega) u 3 hu (by omega) (by omega) p3 (by omega) (by simp [ecost]; omega)) hM4 (by simp only [go_sem, rE, Ty.enc_eq u]) (.refl _) (fun _ => ExprR.live _ _ _ _ (by simp [ecost])) (by simp [chkE]; exact n5) ?_
  rintro q e5 v5 VS5 NS5 p5 last5 H5 fp5 ⟨⟨x, rfl, hx, hxsm⟩, rfl, hp5, hp5', rfl⟩ hM5 hk5 -
  simp only [ecost] at hp5'
  obtain ⟨g4, n4⟩ := hk5 _ _ g4 n4
  simp only [go_sem, rE, rA, e4, Ex.enc_eq x, g4, rL]
  obtain ⟨c1, c2⟩ := st_leaf 3 (bl []) pa P0 x hxsm
  exact fin _ _ _ (.mk 3 (bl []) pa P0 x (bl []) [] [] []) e5 VS5 NS5 p5 last5 (hM5.put n4 _) (e4) (Heap.zzb _ _ _) (by have := leSet pa x; rw [Ex.enc_eq x] at this; exact .agg this) rfl (by omega) (c2.up (by omega)) (by omega) (by omega) (by omega) (by omega)
 have sCall : ∀ (E : Env), E 0 = .ptr m 0 → E 4 = .ptr b4 0 → ∀ A : Env → Heap → Prop, XCode.wp P (kd23 F) (XExit.inBlock 0 (XExit.then A (XFunc.post [.cell 4 (some 15)] (fun q H' => ∃ e' v' VS' NS' p' last', StR (ccnt d) d v p last (scost d) q v' p' last' ∧ MkAt H' m r bs e' v' VS' NS' p' last')))) E H2 := by
  intro E e0 e4 A
  rw [kd23]
  simp only [go_sem, rE, rA, e0]
  refine run_mk (c_mkCall L m r bs hbs v N hv p2 last hl (by omega) (by omega) (by omega)) hM2 (rfl) (.refl _) (by simp) trivial ?_
  rintro q e3 v3 VS3 NS3 p3 last3 H3 fp3 ⟨⟨st, rfl, hst1, hst2⟩, rfl, h1, h2, h3, h4⟩ hM3 hk3 -
  obtain ⟨g4, n4⟩ := hk3 _ _ g4 n4
  obtain ⟨cs, hcs, C⟩ := stC st
  simp only [hcs, go_sem, rE, rA, e4, g4, C.len, rL]
  exact fin _ _ cs st e3 VS3 NS3 p3 last3 (hM3.put n4 _) (e4) (Heap.zzb _ _ _) (by rw [hcs]; exact .refl _) C.len (by omega) (hst2.up (by omega)) (by omega) (by omega) (by omega) (by omega)
 have sSet2 : ∀ (E : Env), E 0 = .ptr m 0 → E 4 = .ptr b4 0 → ∀ A : Env → Heap → Prop, XCode.wp P (kd24 F) (XExit.then A (XFunc.post [.cell 4 (some 15)] (fun q H' => ∃ e' v' VS' NS' p' last', StR (ccnt d) d v p last (scost d) q v' p' last' ∧ MkAt H' m r bs e' v' VS' NS' p' last'))) E H2 := by
  intro E e0 e4 A
  rw [kd24]
  simp only [go_sem, rE, rA, e0]
  refine run_mk (c_mkPlace L m r bs hbs v hv.ok p2 last (by omega) (by omega)) hM2 (rfl) (.refl _) (by simp) trivial ?_
  rintro q e3 v3 VS3 NS3 p3 last3 H3 fp3 ⟨⟨pa, u, rfl, hpa, hu⟩, rfl, hp3, hp3', rfl⟩ hM3 hk3 -
  obtain ⟨g4, n4⟩ := hk3 _ _ g4 n4
  simp only [go_sem, rE, rA, Ty.enc_eq u, Pl.enc]
  intro b5 hb5 b6 hb6
  have hb6' := new2 hb6 (.cells [S pa.name, zze pa.path])
  obtain ⟨stay, ga, gb, d56⟩ := pl_stay (c := .cells [S pa.name, zze pa.path]) (c' := .cells [.sl 1 none (Ty.encs u.kids)]) hb5 hb6'
  have hM4 := (hM3.new hb5 (.cells [S pa.name, zze pa.path])).new hb6' (.cells [.sl 1 none (Ty.encs u.kids)])
  have n5 := hM3.notin hb5
  have g4 := stay g4
  simp only [go_sem, rE, rA, d56, Ne.symm d56, alloc2 d56]
  generalize ((H3.set b5 (.cells [S pa.name, zze pa.path])).set b6 (.cells [.sl 1 none (Ty.encs u.kids)])) = H4 at *
  simp only [go_sem, rE, rA, e0, ga, gb, rL]
  refine run_mk (c_mkExpr L m r bs hbs v3 hv.ok last3 2 (by omega) u 2 hu (by omega) (by omega) p3 (by omega) (by simp [ecost]; omega)) hM4 (by simp only [go_sem, rE, Ty.enc_eq u]) (.refl _) (fun _ => ExprR.live _ _ _ _ (by simp [ecost])) (by simp [chkE]; exact n5) ?_
  rintro q e5 v5 VS5 NS5 p5 last5 H5 fp5 ⟨⟨x, rfl, hx, hxsm⟩, rfl, hp5, hp5', rfl⟩ hM5 hk5 -
  simp only [ecost] at hp5'
  obtain ⟨g4, n4⟩ := hk5 _ _ g4 n4
  simp only [go_sem, rE, rA, e4, Ex.enc_eq x, g4, rL]
  obtain ⟨c1, c2⟩ := st_leaf 3 (bl []) pa P0 x hxsm
  exact fin _ _ _ (.mk 3 (bl []) pa P0 x (bl []) [] [] []) e5 VS5 NS5 p5 last5 (hM5.put n4 _) (e4) (Heap.zzb _ _ _) (by have := leSet pa x; rw [Ex.enc_eq x] at this; exact .agg this) rfl (by omega) (c2.up (by omega)) (by omega) (by omega) (by omega) (by omega)
 have sIf : ∀ d', d = d' + 1 → ∀ (E : Env), E 0 = .ptr m 0 → E 1 = I (d + 1 : Nat) → E 4 = .ptr b4 0 → XCode.wp P (kd25 F) (XFunc.post [.cell 4 (some 15)] (fun q H' => ∃ e' v' VS' NS' p' last', StR (ccnt d) d v p last (scost d) q v' p' last' ∧ MkAt H' m r bs e' v' VS' NS' p' last')) E H2 := by
  intro d' hdd E e0 e1 e4
  rw [kd25]
  have hbd := hbody d' hdd
  have hcd : ccnt d = 6 + 5 * ccnt d' := by rw [hdd, ccnt]
  have hsd : scost d = 20000 + 36 * scost d' := by rw [hdd, scost]
  have hd1 : ((d + 1 : Nat) : Int) - 1 = ((d' + 1 : Nat) : Int) := by omega
  have w0 := yya (n := ((d + 1 : Nat) : Int) - 1) (by omega) (by omega)
  rw [hd1] at w0
  have hscd := scost_pos d'
  simp only [go_sem, rE, rA, e0]
  refine run_mk (as' := [.ptr m 0, .agg [NIL], I 3]) (c_mkExpr L m r bs hbs v hv.ok last 3 (by omega) (.mk []) 3 Ty.wf_nil (by omega) (by omega) p2 (by omega) (by simp [ecost]; omega)) hM2 (rfl) ⟨.refl _, le_ty0, .refl _, trivial⟩ (by simp) trivial ?_
  rintro q e3 v3 VS3 NS3 p3 last3 H3 fp3 ⟨⟨x, rfl, hx, hxsm⟩, rfl, hp3, hp3', rfl⟩ hM3 hk3 -
  simp only [ecost] at hp3'
  obtain ⟨g4, n4⟩ := hk3 _ _ g4 n4
  simp only [go_sem, rE, rA, e4, Ex.enc_eq x, rL]
  intro b11 hb11
  have n11 := hM3.notin hb11
  have d411 := zzj g4 hb11
  let C : AC → AC → List AC := fun t l => [I 5, S (bl []), S (bl []), NIL, S (bl []), NIL, I x.kind, I x.num, S x.place.name, zze x.place.path, .sl 5 none (Ex.encs x.kids), S (bl []), NIL, t, l]
  have hM4 := hM3.new hb11 (.cells (C NIL NIL))
  have g11 : (H3.set b11 (.cells (C NIL NIL))).get b11 = some (.cells (C NIL NIL)) := Heap.zzb _ _ _
  have g4 : (H3.set b11 (.cells (C NIL NIL))).get b4 = _ := (Heap.zza _ _ d411).trans g4
  have hom := hM4.obj
  simp only [C] at hom g11 g4 hM4
  simp only [go_sem, rE, rA, e0, Ex.enc_eq x, rL]
  generalize (H3.set b11 (.cells [I 5, S (bl []), S (bl []), NIL, S (bl []), NIL, I x.kind, I x.num, S x.place.name, zze x.place.path, .sl 5 none (Ex.encs x.kids), S (bl []), NIL, NIL, NIL])) = H4 at *
  clear hM3 hb11 hk3
  simp only [go_sem, rE, rA, e0, hom]
  refine run_copyD L hM4.env (by have := hv.vl; omega) (by have := hv.nl; omega) (rfl) (by simp [chkE]; exact hM4.nm) ?_
  intro a VSa NSa H5 fp5 hEa hs5 hnew hf5
  have hM5 : MkAt H5 m r bs e3 v3 VS3 NS3 p3 last3 := hM4.mono fun b hb => by obtain ⟨o, ho⟩ := Option.ne_none_iff_exists'.1 (hM4.mem hb); rw [hs5 _ _ ho, ho]
  have old : ∀ {b o}, H4.get b = some o → ¬ yyb a VSa NSa b := fun hb h => by have := hnew _ h; rw [hb] at this; simp at this
  have na4 := old g4
  have na11 := old g11
  have nam := old hom
  have nar := old hM4.rd
  have nae : ∀ b, yyb e3 VS3 NS3 b → ¬ yyb a VSa NSa b := fun b hb h => hM4.env.mem hb (hnew _ h)
  have g4 := hs5 _ _ g4
  have g11 := hs5 _ _ g11
  have nfm : ¬ fp5 m := fun h => by
   rcases hf5 _ h with h | h
   ·exact hM4.nm h
   ·rw [hom] at h; simp at h
  have hom := hs5 _ _ hom
  clear hM4 hs5 hnew hf5 old
  simp only [go_sem, rE, rA, e0, hom]
  refine ⟨by simp; exact nfm, ?_⟩
  intro b12 hb12
  have dm12 := zzj hom hb12
  have dr12 := zzj hM5.rd hb12
  have d412 := zzj g4 hb12
  have d1112 := zzj g11 hb12
  have hMx : MkAt (H5.set b12 (.cells [.ptr r 0, .ptr a 0, I last3])) b12 r bs a v3 VSa NSa p3 last3 :=
   ⟨Heap.zzb _ _ _, by rw [Heap.zza _ _ dr12]; exact hM5.rd, hEa.new hb12 _, Ne.symm dr12, hEa.notin hb12, nar⟩
  have hMm := hM5.new hb12 (.cells [.ptr r 0, .ptr a 0, I last3])
  have nme : ¬ yyb e3 VS3 NS3 b12 := hM5.env.notin hb12
  have g4 : (H5.set b12 (.cells [.ptr r 0, .ptr a 0, I last3])).get b4 = _ := (Heap.zza _ _ d412).trans g4
  have g11 : (H5.set b12 (.cells [.ptr r 0, .ptr a 0, I last3])).get b11 = _ := (Heap.zza _ _ d1112).trans g11
  have hom := hMm.obj
  generalize (H5.set b12 (.cells [.ptr r 0, .ptr a 0, I last3])) = H6 at *
  clear hM5 hEa hb12
  simp only [go_sem, rE, rA, e0, e1, hom]
  refine yyg (c_pick' L r bs p3 3 hbs (by omega) (by omega)) (rfl) hMx.rd (by simp) trivial ?_
  rintro q p7 hp7 hp7' ⟨k7, rfl, hk70, hk71⟩
  have hEm : EnvAt (H6.set r (RdO bs p7)) e3 v3 VS3 NS3 := hMm.env.mono fun b hb => Heap.zza _ _ (by rintro rfl; exact hMm.nr hb)
  have hMx := hMx.setR p7
  have n4r : b4 ≠ r := d4r
  have n11r : b11 ≠ r := fun h => n11 (.inr (.inl h))
  have g4 : (H6.set r (RdO bs p7)).get b4 = _ := (Heap.zza _ _ n4r).trans g4
  have g11 : (H6.set r (RdO bs p7)).get b11 = _ := (Heap.zza _ _ n11r).trans g11
  have hom : (H6.set r (RdO bs p7)).get m = _ := (Heap.zza _ _ hmr).trans hom
  have nm_ := hMm.nm
  have nr_ := hMm.nr
  generalize H6.set r (RdO bs p7) = H7 at *
  clear hMm
  have w7 := yya (n := 1 + k7) (by omega) (by omega)
  have hk7n : 1 + k7 = ((1 + k7.toNat : Nat) : Int) := by omega
  have hkc : (1 + k7.toNat) * ccnt d' ≤ 3 * ccnt d' := Nat.mul_le_mul_right _ (by omega)
  simp only [go_sem, rE, rA, e0, e1, w7, hd1, w0]
  refine run_mk (hbd b12 r bs hbs v3 N (1 + k7.toNat) hv (by omega) (by omega) p7 last3 (by omega) (by omega) (by omega) (by omega)) hMx (by simp only [go_sem, rE, hk7n]) (.refl _) (by simp) trivial ?_
  rintro q a8 vx VSx NSx p8 lastx H8 fp8 ⟨⟨l1, rfl, hl1a, hl1b, hl1c⟩, ⟨hvx, hvx2, hvx3⟩, hp8, hp8', hlx, hlx'⟩ hMx8 hk8 -
  have tx : ∀ {b}, b ≠ b12 → b ≠ r → ¬ yyb a VSa NSa b → ¬ mkBlk b12 r a VSa NSa b := by
   rintro b h1 h2 h3 (h | h | h)
   ·exact h1 h
   ·exact h2 h
   ·exact h3 h
  obtain ⟨g4, n4x⟩ := hk8 _ _ g4 (tx d412 n4r na4)
  obtain ⟨g11, n11x⟩ := hk8 _ _ g11 (tx d1112 n11r na11)
  obtain ⟨hom, nmx⟩ := hk8 _ _ hom (tx dm12 hmr nam)
  obtain ⟨hEm, nex⟩ := hEm.keep hk8 fun b hb => tx (by rintro rfl; exact nme hb) (by rintro rfl; exact nr_ hb) (nae _ hb)
  clear hk8 hMx
  simp only [go_sem, rE, rA, g11, rL]
  have hMx9 := hMx8.put n11x (.cells (C (.sl 15 none (l1.map St.enc)) NIL))
  have hEm9 : EnvAt (H8.set b11 (.cells (C (.sl 15 none (l1.map St.enc)) NIL))) e3 v3 VS3 NS3 := hEm.mono fun b hb => Heap.zza _ _ (by rintro rfl; exact n11 (.inr (.inr hb)))
  have g49 : (H8.set b11 (.cells (C (.sl 15 none (l1.map St.enc)) NIL))).get b4 = _ := (Heap.zza _ _ d411).trans g4
  have d11m : m ≠ b11 := fun h => n11 (.inl h.symm)
  have hom9 : (H8.set b11 (.cells (C (.sl 15 none (l1.map St.enc)) NIL))).get m = _ := (Heap.zza _ _ d11m).trans hom
  have g119 : (H8.set b11 (.cells (C (.sl 15 none (l1.map St.enc)) NIL))).get b11 = _ := Heap.zzb _ _ _
  clear g4 g11 hom hEm hMx8
  simp only [C] at hMx9 hEm9 g49 hom9 g119
  generalize (H8.set b11 (.cells [I 5, S (bl []), S (bl []), NIL, S (bl []), NIL, I x.kind, I x.num, S x.place.name, zze x.place.path, .sl 5 none (Ex.encs x.kids), S (bl []), NIL, .sl 15 none (l1.map St.enc), NIL])) = H9 at *
  have hx9 := hMx9.obj
  simp only [go_sem, rE, rA, e0, hom9]
  refine run_copyD L hEm9 (by have := hv.vl; omega) (by have := hv.nl; omega) (rfl) (by simp [chkE]; exact nm_) ?_
  intro a2 VSb NSb H10 fp10 hEb hs10 hnew hf10
  have hEm10 : EnvAt H10 e3 v3 VS3 NS3 := hEm9.sub hs10
  have old : ∀ {b o}, H9.get b = some o → ¬ yyb a2 VSb NSb b := fun hb h => by have := hnew _ h; rw [hb] at this; simp at this
  have na4 := old g49
  have na11 := old g119
  have nam := old hom9
  have nar := old hMx9.rd
  have nae : ∀ b, yyb e3 VS3 NS3 b → ¬ yyb a2 VSb NSb b := fun b hb h => hEm9.mem hb (hnew _ h)
  have hr10 := hs10 _ _ hMx9.rd
  have g4 := hs10 _ _ g49
  have g11 := hs10 _ _ g119
  have nfm : ¬ fp10 m := fun h => by
   rcases hf10 _ h with h | h
   ·exact nm_ h
   ·rw [hom9] at h; simp at h
  have nfx : ¬ fp10 b12 := fun h => by
   rcases hf10 _ h with h | h
   ·exact nme h
   ·rw [hx9] at h; simp at h
  have hx10 := hs10 _ _ hx9
  have hom := hs10 _ _ hom9
  clear hEm9 hMx9 hs10 hnew hf10 old g49 g119 hom9 hx9
  simp only [go_sem, rE, rA, e0, hom, hx10]
  refine ⟨by simp; exact nfx, ?_⟩
  intro b13 hb13
  have dm13 := zzj hom hb13
  have dr13 := zzj hr10 hb13
  have d413 := zzj g4 hb13
  have d1113 := zzj g11 hb13
  have hMy : MkAt (H10.set b13 (.cells [.ptr r 0, .ptr a2 0, I lastx])) b13 r bs a2 v3 VSb NSb p8 lastx :=
   ⟨Heap.zzb _ _ _, by rw [Heap.zza _ _ dr13]; exact hr10, hEb.new hb13 _, Ne.symm dr13, hEb.notin hb13, nar⟩
  have hEm := hEm10.new hb13 (.cells [.ptr r 0, .ptr a2 0, I lastx])
  have nye : ¬ yyb e3 VS3 NS3 b13 := hEm10.notin hb13
  have g4 : (H10.set b13 (.cells [.ptr r 0, .ptr a2 0, I lastx])).get b4 = _ := (Heap.zza _ _ d413).trans g4
  have g11 : (H10.set b13 (.cells [.ptr r 0, .ptr a2 0, I lastx])).get b11 = _ := (Heap.zza _ _ d1113).trans g11
  have hom : (H10.set b13 (.cells [.ptr r 0, .ptr a2 0, I lastx])).get m = _ := (Heap.zza _ _ dm13).trans hom
  generalize (H10.set b13 (.cells [.ptr r 0, .ptr a2 0, I lastx])) = H11 at *
  clear hEm10 hEb hb13 hx10
  simp only [go_sem, rE, rA, e0, e1, hom]
  refine yyg (c_pick' L r bs p8 3 hbs (by omega) (by omega)) (rfl) hMy.rd (by simp) trivial ?_
  rintro q p12 hp12 hp12' ⟨k12, rfl, hk120, hk121⟩
  have hEm : EnvAt (H11.set r (RdO bs p12)) e3 v3 VS3 NS3 := hEm.mono fun b hb => Heap.zza _ _ (by rintro rfl; exact nr_ hb)
  have hMy := hMy.setR p12
  have g4 : (H11.set r (RdO bs p12)).get b4 = _ := (Heap.zza _ _ n4r).trans g4
  have g11 : (H11.set r (RdO bs p12)).get b11 = _ := (Heap.zza _ _ n11r).trans g11
  have hom : (H11.set r (RdO bs p12)).get m = _ := (Heap.zza _ _ hmr).trans hom
  generalize H11.set r (RdO bs p12) = H12 at *
  have hk12n : k12 = ((k12.toNat : Nat) : Int) := by omega
  have hkc2 : k12.toNat * ccnt d' ≤ 2 * ccnt d' := Nat.mul_le_mul_right _ (by omega)
  simp only [go_sem, rE, rA, e0, e1, hd1, w0]
  refine run_mk (hbd b13 r bs hbs v3 N k12.toNat hv (by omega) (by omega) p12 lastx (by omega) (by omega) (by omega) (by omega)) hMy (by simp only [go_sem, rE, ← hk12n]) (.refl _) (by simp) trivial ?_
  rintro q a13 vy VSy NSy p13 lasty H13 fp13 ⟨⟨l2, rfl, hl2a, hl2b, hl2c⟩, ⟨hvy, hvy2, hvy3⟩, hp13, hp13', hly, hly'⟩ hMy13 hk13 -
  have ty : ∀ {b}, b ≠ b13 → b ≠ r → ¬ yyb a2 VSb NSb b → ¬ mkBlk b13 r a2 VSb NSb b := by
   rintro b h1 h2 h3 (h | h | h)
   ·exact h1 h
   ·exact h2 h
   ·exact h3 h
  obtain ⟨g4, n4y⟩ := hk13 _ _ g4 (ty d413 n4r na4)
  obtain ⟨g11, n11y⟩ := hk13 _ _ g11 (ty d1113 n11r na11)
  obtain ⟨hom, nmy⟩ := hk13 _ _ hom (ty dm13 hmr nam)
  obtain ⟨hEm, ney⟩ := hEm.keep hk13 fun b hb => ty (by rintro rfl; exact nye hb) (by rintro rfl; exact nr_ hb) (nae _ hb)
  clear hk13 hMy
  have hoy := hMy13.obj
  have hry := hMy13.rd
  have d13m : b13 ≠ m := fun h => nmy (.inl h.symm)
  have d1311 : b13 ≠ b11 := fun h => n11y (.inl h.symm)
  simp only [go_sem, rE, rA, e0, e4, g11, g4, hom, hoy, d13m, Ne.symm d13m, d1311, Ne.symm d1311, d11m, Ne.symm d11m, d411, Ne.symm d411, dmr, Ne.symm dmr, rL]
  have hMm : MkAt H13 m r bs e3 v3 VS3 NS3 p13 last3 := ⟨hom, hry, hEm, hmr, nm_, nr_⟩
  refine fin _ _ _ (.mk 5 (bl []) P0 P0 x (bl []) [] l1 l2) e3 VS3 NS3 p13 lasty (((hMm.put n11 _).setL lasty).put n4 _) (e4) (Heap.zzb _ _ _) (by have := leIf x l1 l2; rw [Ex.enc_eq x] at this; exact .agg this) rfl ?_ (by rw [hdd]; exact .mk hxsm (by simp) hl1c hl2c) (by omega) (by omega) (by omega) (by omega)
  rw [St.cnt_eq]
  simp [St.args, St.thn, St.els]
  omega
 have rest : ∀ (E : Env), E 0 = .ptr m 0 → E 1 = I (d + 1 : Nat) → E 4 = .ptr b4 0 → XCode.wp P (kd26 F) (XFunc.post [.cell 4 (some 15)] (fun q H' => ∃ e' v' VS' NS' p' last', StR (ccnt d) d v p last (scost d) q v' p' last' ∧ MkAt H' m r bs e' v' VS' NS' p' last')) E H2 := by
  intro E e0 e1 e4
  rw [kd26]
  by_cases hd0 : d = 0
  ·have : ((d + 1 : Nat) : Int) < 2 := by omega
   simp only [go_sem, rE, rA, e1, this, decide_true]
   exact sSet2 _ (by simp only [go_sem, rE, e0]) (by simp only [go_sem, rE, e4]) _
  ·have : ¬ ((d + 1 : Nat) : Int) < 2 := by omega
   simp only [go_sem, rE, rA, e1, this, decide_false]
   exact sIf (d - 1) (by omega) _ (e0) (e1) (e4)
 have hk : k2 = 0 ∨ k2 = 1 ∨ k2 = 2 ∨ k2 = 3 ∨ k2 = 4 ∨ k2 = 5 ∨ k2 = 6 ∨ k2 = 7 ∨ k2 = 8 ∨ k2 = 9 ∨ k2 = 10 ∨ k2 = 11 := by omega
 rcases hk with rfl | rfl | rfl | rfl | rfl | rfl | rfl | rfl | rfl | rfl | rfl | rfl
 all_goals simp only [go_sem, rE, rA, Int.reduceBEq]
 ·exact sLet _ (by first | rfl | simp only [go_sem, rE]) (by first | rfl | simp only [go_sem, rE]) _
 ·exact sLend _ (by first | rfl | simp only [go_sem, rE]) (by first | rfl | simp only [go_sem, rE]) _
 ·exact sLend _ (by first | rfl | simp only [go_sem, rE]) (by first | rfl | simp only [go_sem, rE]) _
 ·exact sLend _ (by first | rfl | simp only [go_sem, rE]) (by first | rfl | simp only [go_sem, rE]) _
 ·exact sSet _ (by first | rfl | simp only [go_sem, rE]) (by first | rfl | simp only [go_sem, rE]) _
 ·exact sSet _ (by first | rfl | simp only [go_sem, rE]) (by first | rfl | simp only [go_sem, rE]) _
 ·exact sSet _ (by first | rfl | simp only [go_sem, rE]) (by first | rfl | simp only [go_sem, rE]) _
 ·exact sCall _ (by first | rfl | simp only [go_sem, rE]) (by first | rfl | simp only [go_sem, rE]) _
 ·exact sCall _ (by first | rfl | simp only [go_sem, rE]) (by first | rfl | simp only [go_sem, rE]) _
 ·exact sCall _ (by first | rfl | simp only [go_sem, rE]) (by first | rfl | simp only [go_sem, rE]) _
 ·exact rest _ (by first | rfl | simp only [go_sem, rE]) (by first | rfl | simp only [go_sem, rE]) (by first | rfl | simp only [go_sem, rE])
 ·exact rest _ (by first | rfl | simp only [go_sem, rE]) (by first | rfl | simp only [go_sem, rE]) (by first | rfl | simp only [go_sem, rE])
theorem c_mkStmtN (L : Lib P F) : ∀ d, d ≤ 20 → StmtM P F d
 | 0, h => c_mkStmt1 L 0 h (by intro d' h; omega)
 | d + 1, h => c_mkStmt1 L (d + 1) h fun d' hd => by
   have : d' = d := by omega
   subst this
   exact c_mkBody L d' (by omega) (c_mkStmtN L d' (by omega))
theorem c_mkBodyN (L : Lib P F) (d : Nat) (h : d ≤ 20) : BodyM P F d := c_mkBody L d h (c_mkStmtN L d h)
end
end Go.Xl
namespace Go.Xl
open Nat renaming reduceEqDiff → rE, reduceAdd → rA, reduceLeDiff → rL
def FC : Int := 10 ^ 12
structure Fu.good (f : Fu) : Prop where
 okS : f.okS
 pars : f.params.length ≤ 4
 blen : f.body.length ≤ 6
 body : St.cntL f.body ≤ 966
 sms : ∀ s ∈ f.body, s.sm 3
 says : f.says.sm
structure FnAt (H : Heap) (r : Nat) (bs : List UInt8) (p : Int) (b4 b6 : Nat) (c6 : List AC) : Prop where
 rd : H.get r = some (RdO bs p)
 z : H.get b4 = some (.cells [S (bl []), NIL, B false, NIL, NIL, I 0, I 0, S (bl []), NIL, NIL, S (bl []), NIL])
 f : H.get b6 = some (.cells c6)
theorem FnAt.mono {H H' : Heap} {r : Nat} {bs : List UInt8} {p : Int} {b4 b6 : Nat} {c6 : List AC} (h : FnAt H r bs p b4 b6 c6) (hk : ∀ d, (d = r ∨ d = b4 ∨ d = b6) → H'.get d = H.get d) : FnAt H' r bs p b4 b6 c6 :=
 ⟨(hk r (.inl rfl)).trans h.rd, (hk b4 (.inr (.inl rfl))).trans h.z, (hk b6 (.inr (.inr rfl))).trans h.f⟩
theorem FnAt.new {H : Heap} {r : Nat} {bs : List UInt8} {p : Int} {b4 b6 : Nat} {c6 : List AC} (h : FnAt H r bs p b4 b6 c6) {b : Nat} (hb : H.get b = none) (o : HObj) : FnAt (H.set b o) r bs p b4 b6 c6 :=
 h.mono fun d hd => Heap.zza _ _ (by
  rintro rfl
  rcases hd with rfl | rfl | rfl
  ·rw [h.rd] at hb; simp at hb
  ·rw [h.z] at hb; simp at hb
  ·rw [h.f] at hb; simp at hb)
theorem not_mkBlk {b m r e : Nat} {VS NS : AC} (h1 : b ≠ m) (h2 : b ≠ r) (h3 : ¬ yyb e VS NS b) : ¬ mkBlk m r e VS NS b := by
 rintro (h | h | h)
 ·exact h1 h
 ·exact h2 h
 ·exact h3 h
theorem fu_one (f : Fu) : ∀ x ∈ f.enc, x.one = true := by
 rw [Fu.enc, Ty.enc_eq, Ex.enc_eq]; simp [AC.one, zze, Pl.enc]
theorem LeR.fus : ∀ p : List Fu, LeR (p.map Fu.enc) (p.map Fu.enc)
 | [] => trivial
 | f :: p => ⟨.refl (fu_one f), LeR.fus p⟩
theorem leFu (f : Fu) {X T Bd s1 s2 s3 s4 s5 g1 g2 : AC} (hX : Le X (.sl 3 none (f.params.map Pa.enc))) (hT : Le T (.sl 1 none (Ty.encs f.type.kids))) (hB : Le Bd (.sl 15 none (St.encs f.body))) (hs : LeC [s1, s2, s3, s4, s5] f.says.enc) (hg : LeC [g1, g2] f.gives.enc) :
 LeC [S f.name, X, B f.lent, T, Bd, s1, s2, s3, s4, s5, g1, g2] f.enc := by
 rw [Ex.enc_eq] at hs
 rw [Fu.enc, Ty.enc_eq f.type, Ex.enc_eq f.says]
 obtain ⟨h1, h2, h3, h4, h5, -⟩ := hs
 obtain ⟨h6, h7, -⟩ := hg
 exact ⟨⟨.refl _, rfl⟩, ⟨hX, rfl⟩, ⟨.refl _, rfl⟩, ⟨hT, rfl⟩, ⟨hB, rfl⟩, h1, h2, h3, h4, h5, h6, h7, trivial⟩
theorem start_dr (p : Pg) (f : Fu) (hp : ∀ g ∈ p, g.okS ∧ g.params.length ≤ 4) (hf : f.okS) (hpl : p.length ≤ 4) (h1 : 1 ≤ f.params.length) (h2 : f.params.length ≤ 4) : (En.start (p ++ [f]) p.length).dr 4 := by
 have hst : En.start (p ++ [f]) p.length = (⟨p ++ [f], p.length, [], [], 0⟩ : En).givens f.params := by simp [En.start]
 have hup := En.start_up (p ++ [f]) p.length
 rw [hst] at hup ⊢
 obtain ⟨g1, g2, g3, g4⟩ := En.givens_like f.params (⟨p ++ [f], p.length, [], [], 0⟩ : En)
 refine ⟨⟨by rw [g3]; simp; omega, fun x hx => ?_⟩, hup, by rw [g3]; simp; omega, by rw [g3]; simp; omega, by rw [g4]; simp; omega, fun g hg => ?_, by rw [g1]; simp; omega, by rw [g1, g2]; simp⟩
 ·rw [g3] at hx
  simp at hx
  obtain ⟨y, hy, rfl⟩ := hx
  exact ⟨⟨by simp [Pa.vr], by simp [Pa.vr]⟩, (hf.params y hy).type⟩
 ·rw [g1] at hg
  simp at hg
  rcases hg with hg | rfl
  ·exact hp g hg
  ·exact ⟨hf, h2⟩
section
variable {P : Program} {F : Ids}
theorem run_start (L : Lib P F) {K : Env → Heap → Prop} {xs : List XOper} {E : Env} {H : Heap} {l : Lds} {f : Fps} {i : Nat} {args : List XArg} {d : Option Nat} (p : Pg) (fn : Nat) (hfn : fn < p.length) (hpl : p.length ≤ 2 ^ 20) (hpa : (p[fn]).params.length ≤ 2 ^ 20) {as' : List AC}
 (ha : args.map (XArg.ev E) = as') (hle : LeA as' [.agg (Pg.enc p), I fn])
 (h : ∀ a VS NS H1 fp, EnvAt H1 a (En.start p fn) VS NS → H.sub H1 → (∀ d, yyb a VS NS d → H.get d = none) → rrun P false K xs (E.put d (.ptr a 0)) H1 l ((i, fp) :: f)) :
 rrun P false K (⟨i, d, none, .eff (.call F.s_l3Start args), []⟩ :: xs) E H l f := by
 have h0 : H.only (fun _ => False) = .empty := Heap.ext fun b => by rw [Heap.only_none (by simp)]; rfl
 have hc := c_start L p fn hfn hpl hpa
 rw [← h0] at hc
 refine run_callS (fun _ => False) hc ha hle (by simp) trivial ?_
 rintro q H' H1 ⟨a, VS, NS, rfl, hE⟩ hsub hafter hnew -
 refine h a VS NS H1 _ (hE.sub hsub) (fun b o hb => ?_) (fun d hd => ?_)
 ·rw [hafter.out b (by simp) (by rw [hb]; simp)]; exact hb
 ·rcases hnew d (hE.mem hd) with h | h
  ·exact h.elim
  ·exact h
theorem fn_tail (L : Lib P F) (r : Nat) (bs : List UInt8) (hbs : bs.length ≤ 2000) (nm : ByteArray) (ps : List Pa) (bd : List St) (v : En) (N : Nat) (hv : v.dr N) (hN : N ≤ 2 ^ 19) (p : Int) (hp : 0 ≤ p) (hp2 : p + FC ≤ 2 ^ 50)
 (hps : ∀ x ∈ ps, x.ok) (hpl : ps.length ≤ 4) (hbl : bd.length ≤ 6) (hbd : St.cntL bd ≤ 966) (hbs2 : ∀ s ∈ bd, s.sm 3) (b4 b6 b10 e : Nat) (VS NS X : AC) (p1 last : Int) (E : Env) (H : Heap) (hM : MkAt H b10 r bs e v VS NS p1 last) (d46 : b4 ≠ b6)
 (g4 : H.get b4 = some (.cells [S (bl []), NIL, B false, NIL, NIL, I 0, I 0, S (bl []), NIL, NIL, S (bl []), NIL])) (g6 : H.get b6 = some (.cells [S nm, X, B false, NIL, .sl 15 none (bd.map St.enc), I 0, I 0, S (bl []), NIL, NIL, S (bl []), NIL])) (n4 : ¬ mkBlk b10 r e VS NS b4) (n6 : ¬ mkBlk b10 r e VS NS b6)
 (e0 : E 0 = .ptr r 0) (e4 : E 4 = .ptr b4 0) (e6 : E 6 = .ptr b6 0) (e10 : E 10 = .ptr b10 0) (hX : Le X (.sl 3 none (ps.map Pa.enc))) (hp1 : p ≤ p1) (hp1' : p1 ≤ p + 10 ^ 11) (hl0 : 0 ≤ last) :
 XCode.wp P (kd28 F) (XFunc.post [.cell 4 (some 12)] (RdR r bs p FC fun q => ∃ f : Fu, q = .agg f.enc ∧ f.good)) E H := by
 rw [kd28]
 simp only [FC] at hp2
 have fin : ∀ (E' : Env) (H' : Heap) (c6 : List AC) (f : Fu) (p' : Int), H'.get r = some (RdO bs p') → E' 4 = .ptr b4 0 → b4 ≠ r → LeC c6 f.enc → c6.length = 12 → f.good → p ≤ p' → p' ≤ p + FC → (XFunc.post [.cell 4 (some 12)] (RdR r bs p FC fun q => ∃ f : Fu, q = .agg f.enc ∧ f.good)) .ret E' (H'.set b4 (.cells c6)) := by
  intro E' H' c6 f p' hr h4 hn hle hlen hg h1 h2
  exact yym (q' := .agg f.enc) (off := 0) h4 (Heap.zzb _ _ _) (by simp [partA, hlen, List.take_of_length_le (Nat.le_of_eq hlen)]) (.agg hle) (one_sub (by rw [Heap.zza _ _ (Ne.symm hn)]; exact hr)) ⟨p', h1, h2, rfl, f, rfl, hg⟩
 have d4r : b4 ≠ r := fun h => n4 (.inr (.inl h))
 have d6r : b6 ≠ r := fun h => n6 (.inr (.inl h))
 have tail2 : ∀ (E : Env) (H : Heap) (e : Nat) (VS NS : AC) (p1 last : Int), MkAt H b10 r bs e v VS NS p1 last → H.get b4 = some (.cells [S (bl []), NIL, B false, NIL, NIL, I 0, I 0, S (bl []), NIL, NIL, S (bl []), NIL]) → H.get b6 = some (.cells [S nm, X, B false, NIL, .sl 15 none (bd.map St.enc), I 0, I 0, S (bl []), NIL, NIL, S (bl []), NIL]) →
  ¬ mkBlk b10 r e VS NS b4 → ¬ mkBlk b10 r e VS NS b6 → E 0 = .ptr r 0 → E 4 = .ptr b4 0 → E 6 = .ptr b6 0 → E 10 = .ptr b10 0 → p ≤ p1 → p1 ≤ p + 10 ^ 11 + 1000 → 0 ≤ last →
  XCode.wp P (kd27 F) (XFunc.post [.cell 4 (some 12)] (RdR r bs p FC fun q => ∃ f : Fu, q = .agg f.enc ∧ f.good)) E H := by
  intro E H e VS NS p1 last hM g4 g6 n4 n6 e0 e4 e6 e10 hp1 hp1' hl0
  rw [kd27]
  simp only [go_sem, rE, rA]
  let J : Nat → Env → Heap → Prop := fun k E H => ∃ (e : Nat) (VS NS : AC) (p' : Int) (T s1 s2 s3 s4 s5 : AC), MkAt H b10 r bs e v VS NS p' last ∧ H.get b4 = some (.cells [S (bl []), NIL, B false, NIL, NIL, I 0, I 0, S (bl []), NIL, NIL, S (bl []), NIL]) ∧ H.get b6 = some (.cells [S nm, X, B false, T, .sl 15 none (bd.map St.enc), s1, s2, s3, s4, s5, S (bl []), NIL]) ∧
   ¬ mkBlk b10 r e VS NS b4 ∧ ¬ mkBlk b10 r e VS NS b6 ∧ p ≤ p' ∧ p' ≤ p + 10 ^ 11 + 1000 + 5000 * k ∧ E 0 = .ptr r 0 ∧ E 4 = .ptr b4 0 ∧ E 6 = .ptr b6 0 ∧ E 10 = .ptr b10 0 ∧ E 15 = I k
  refine yyc 6 J ⟨e, VS, NS, p1, _, _, _, _, _, _, hM, g4, g6, n4, n6, hp1, by omega, e0, e4, e6, e10, rfl⟩ ?_
  clear hM g4 g6 n4 n6 e0 e4 e6 e10
  rintro k E H hk ⟨e, VS, NS, p', T, s1, s2, s3, s4, s5, hM, g4, g6, n4, n6, hp1, hp1', e0, e4, e6, e10, e15⟩
  simp only [wp_seq, go_sem, rE, rA, e15]
  refine zzn (fun hlt => ?_) (fun hge => ?_)
  ·have w1 := yya (n := (k : Int) + 1) (by omega) (by omega)
   simp only [go_sem, rE, rA, e0]
   refine yyg (c_l71Type L r bs hbs 3 3 (by omega) (by omega) p' (by omega) (by simp [tcost]; omega)) (rfl) hM.rd (by simp) trivial ?_
   rintro q p2 hp2 hp2' ⟨t, rfl, ht⟩
   simp only [tcost] at hp2'
   have hM2 := hM.setR p2
   have g4 : (H.set r (RdO bs p2)).get b4 = _ := (Heap.zza _ _ d4r).trans g4
   have g6 : (H.set r (RdO bs p2)).get b6 = _ := (Heap.zza _ _ d6r).trans g6
   generalize H.set r (RdO bs p2) = H2 at *
   clear hM
   simp only [go_sem, rE, rA, e6, e10, g6, Ty.enc_eq t, rL]
   have hM3 := hM2.put n6 (.cells [S nm, X, B false, .sl 1 none (Ty.encs t.kids), .sl 15 none (bd.map St.enc), s1, s2, s3, s4, s5, S (bl []), NIL])
   have g4 : (H2.set b6 (.cells [S nm, X, B false, .sl 1 none (Ty.encs t.kids), .sl 15 none (bd.map St.enc), s1, s2, s3, s4, s5, S (bl []), NIL])).get b4 = _ := (Heap.zza _ _ d46).trans g4
   have g6 : (H2.set b6 (.cells [S nm, X, B false, .sl 1 none (Ty.encs t.kids), .sl 15 none (bd.map St.enc), s1, s2, s3, s4, s5, S (bl []), NIL])).get b6 = _ := Heap.zzb _ _ _
   generalize (H2.set b6 (.cells [S nm, X, B false, .sl 1 none (Ty.encs t.kids), .sl 15 none (bd.map St.enc), s1, s2, s3, s4, s5, S (bl []), NIL])) = H3 at *
   clear hM2
   refine run_mk (c_mkExpr L b10 r bs hbs v hv.ok last 3 (by omega) t 3 ⟨3, by omega, ht⟩ (by omega) (by omega) p2 (by omega) (by simp [ecost]; omega)) hM3 (by simp only [go_sem, rE, Ty.enc_eq t]) (.refl _) (by simp) trivial ?_
   rintro q e4' v4 VS4 NS4 p4 last4 H4 fp4 ⟨⟨x, rfl, hx, hxsm⟩, rfl, hp4, hp4', rfl⟩ hM4 hk4 -
   simp only [ecost] at hp4'
   obtain ⟨g4, n4⟩ := hk4 _ _ g4 n4
   obtain ⟨g6, n6⟩ := hk4 _ _ g6 n6
   clear hk4 hM3
   have d106 : b10 ≠ b6 := fun h => n6 (.inl h.symm)
   let C6 : List AC := [S nm, X, B false, .sl 1 none (Ty.encs t.kids), .sl 15 none (bd.map St.enc), I x.kind, I x.num, S x.place.name, zze x.place.path, .sl 5 none (Ex.encs x.kids), S (bl []), NIL]
   have hM5 := hM4.put n6 (.cells C6)
   have g46 : (H4.set b6 (.cells C6)).get b4 = _ := (Heap.zza _ _ d46).trans g4
   have g66 : (H4.set b6 (.cells C6)).get b6 = some (.cells C6) := Heap.zzb _ _ _
   simp only [C6] at hM5 g46 g66
   have ho4 := hM4.obj
   simp only [go_sem, rE, rA, e6, e10, g6, d106, ho4, Ex.enc_eq x, rL]
   generalize (H4.set b6 (.cells [S nm, X, B false, .sl 1 none (Ty.encs t.kids), .sl 15 none (bd.map St.enc), I x.kind, I x.num, S x.place.name, zze x.place.path, .sl 5 none (Ex.encs x.kids), S (bl []), NIL])) = H5 at *
   clear hM4 g4 g6
   have hE5 := hM5.env
   refine run_copy L hE5 (by have := hv.vl; omega) (by have := hv.nl; omega) (rfl) ?_
   intro a VSa NSa H6 fp6 hEa hs6 hnew
   have dis : ∀ b, H5.get b ≠ none → ¬ yyb a VSa NSa b := fun b hb h => hb (hnew _ h)
   have na6 := dis b6 (by rw [g66]; simp)
   have na4 := dis b4 (by rw [g46]; simp)
   have g6 := hs6 _ _ g66
   have g4 := hs6 _ _ g46
   have hM6 : MkAt H6 b10 r bs e4' v4 VS4 NS4 p4 last4 := hM5.mono fun b hb => by obtain ⟨o, ho⟩ := Option.ne_none_iff_exists'.1 (hM5.mem hb); rw [hs6 _ _ ho, ho]
   have nab : ∀ b, mkBlk b10 r e4' VS4 NS4 b → ¬ yyb a VSa NSa b := fun b hb => dis b (hM5.mem hb)
   clear hs6 hnew dis hM5 hE5 g46 g66
   simp only [go_sem, rE, rA, e6, g6, rL]
   refine run_env (e_expr L a _ x (Nat.le_refl _) hx v4 hv.ok) hEa (by simp only [go_sem, rE, Ex.enc_eq x]) (.refl _) (fun _ => ⟨_, _, rfl, rfl⟩) (by simp [chkE]) ?_
   rintro q v7 VS7 NS7 H7 fp7 ⟨rfl, hv7⟩ hE7 hk7 hfp7
   have nf7 : ¬ fp7 b6 := fun h => (hfp7 b6 h).elim na6 (fun h => by rw [g6] at h; simp at h)
   obtain ⟨g6, na6⟩ := hk7 _ _ g6 na6
   obtain ⟨g4, na4⟩ := hk7 _ _ g4 na4
   have key : ∀ b, mkBlk b10 r e4' VS4 NS4 b → H7.get b = H6.get b ∧ ¬ yyb a VS7 NS7 b := by
    intro b hb
    obtain ⟨o, ho⟩ := Option.ne_none_iff_exists'.1 (hM6.mem hb)
    obtain ⟨h1, h2⟩ := hk7 b o ho (nab b hb)
    exact ⟨by rw [h1, ho], h2⟩
   have hM7 : MkAt H7 b10 r bs e4' v4 VS4 NS4 p4 last4 := hM6.mono fun b hb => (key b hb).1
   obtain ⟨lk, wf1⟩ := En.expr_good x v4 hv.ok
   rw [← hv7] at lk
   generalize (v4.expr x).2 = t1 at *
   simp only [go_sem, rE, rA, e6, g6, chkL, List.mem_cons, List.not_mem_nil, or_false, forall_eq, nf7, rL]
   refine run_env (e_same L a v7 t1 t wf1) hE7 (by simp only [go_sem, rE, Ty.enc_eq t]) (.refl _) (fun _ => ⟨_, _, rfl, rfl⟩) trivial ?_
   rintro q v8 VS8 NS8 H8 fp8 ⟨rfl, hv8⟩ hE8 hk8 -
   obtain ⟨g6, na6⟩ := hk8 _ _ g6 na6
   obtain ⟨g4, na4⟩ := hk8 _ _ g4 na4
   have key8 : ∀ b, mkBlk b10 r e4' VS4 NS4 b → H8.get b = H7.get b := by
    intro b hb
    obtain ⟨o, ho⟩ := Option.ne_none_iff_exists'.1 (hM7.mem hb)
    obtain ⟨h1, h2⟩ := hk8 b o ho (key b hb).2
    rw [h1, ho]
   have hM8 : MkAt H8 b10 r bs e4' v4 VS4 NS4 p4 last4 := hM7.mono key8
   clear key key8 hk8 hk7 hM6 hM7
   have ho8 := hE8.obj
   simp only [EnvO] at ho8
   simp only [go_sem, rE, rA, ho8]
   by_cases hc : v8.code = 0
   ·have hc' : (v8.code == 0) = true := by simpa using hc
    simp only [go_sem, rE, rA, hc', e4, e6, g4, g6, rL]
    refine fin _ _ _ ⟨nm, ps, false, t, bd, x, P0⟩ p4 hM8.rd (e4) d4r (leFu ⟨nm, ps, false, t, bd, x, P0⟩ hX (.refl _) (by rw [St.zzk]; exact .refl _) ?_ ⟨⟨.refl _, rfl⟩, ⟨.nil 1, rfl⟩, trivial⟩) rfl ⟨⟨hps, ⟨3, by omega, ht⟩⟩, hpl, hbl, hbd, hbs2, hxsm⟩ (by omega) (by simp only [FC]; omega)
    rw [Ex.enc_eq x]
    exact ⟨⟨.refl _, rfl⟩, ⟨.refl _, rfl⟩, ⟨.refl _, rfl⟩, ⟨.refl _, rfl⟩, ⟨.refl _, rfl⟩, trivial⟩
   ·have hc' : (v8.code == 0) = false := by simpa using hc
    simp only [go_sem, rE, rA, hc', e15, w1]
    exact ⟨by omega, _, Heap.zzm _, e4', VS4, NS4, p4, _, _, _, _, _, _, hM8, g4, g6, n4, n6, by omega, by omega, e0, e4, e6, e10, rfl⟩
  ·simp only [go_sem, rE, rA, e4, e6, g4, g6, d46, rL]
   refine fin _ _ _ ⟨nm, ps, false, .mk [], bd, .mk 1 7 P0 [], P0⟩ p' ((Heap.zza _ _ (Ne.symm d6r)).trans hM.rd) (e4) d4r (leFu ⟨nm, ps, false, .mk [], bd, .mk 1 7 P0 [], P0⟩ hX (.nil 1) (by rw [St.zzk]; exact .refl _) ?_ ⟨⟨.refl _, rfl⟩, ⟨.nil 1, rfl⟩, trivial⟩) rfl ⟨⟨hps, Ty.wf_nil⟩, hpl, hbl, hbd, hbs2, .mk (by decide) (by simp)⟩ (by omega) (by simp only [FC]; omega)
   rw [Ex.enc]
   exact ⟨⟨.refl _, rfl⟩, ⟨.refl _, rfl⟩, ⟨.refl _, rfl⟩, ⟨.nil 1, rfl⟩, ⟨.nil 5, rfl⟩, trivial⟩
 simp only [go_sem, rE, rA, e0]
 refine yyg (c_pick' L r bs p1 2 hbs (by omega) (by omega)) (rfl) hM.rd (by simp) trivial ?_
 rintro q p2 hp2' hp2'' ⟨k1, rfl, hk10, hk11⟩
 have hM2 := hM.setR p2
 have g4 : (H.set r (RdO bs p2)).get b4 = _ := (Heap.zza _ _ d4r).trans g4
 have g6 : (H.set r (RdO bs p2)).get b6 = _ := (Heap.zza _ _ d6r).trans g6
 generalize H.set r (RdO bs p2) = H2 at *
 clear hM
 by_cases hk1 : k1 = 0
 ·simp only [hk1, go_sem, rE, rA, Int.reduceBEq]
  let J : Nat → Env → Heap → Prop := fun k E H => ∃ (e : Nat) (VS NS : AC) (p' : Int), MkAt H b10 r bs e v VS NS p' last ∧ H.get b4 = some (.cells [S (bl []), NIL, B false, NIL, NIL, I 0, I 0, S (bl []), NIL, NIL, S (bl []), NIL]) ∧ H.get b6 = some (.cells [S nm, X, B false, NIL, .sl 15 none (bd.map St.enc), I 0, I 0, S (bl []), NIL, NIL, S (bl []), NIL]) ∧
   ¬ mkBlk b10 r e VS NS b4 ∧ ¬ mkBlk b10 r e VS NS b6 ∧ p ≤ p' ∧ p' ≤ p + 10 ^ 11 + 10 + 50 * k ∧ E 0 = .ptr r 0 ∧ E 4 = .ptr b4 0 ∧ E 6 = .ptr b6 0 ∧ E 10 = .ptr b10 0 ∧ E 11 = I k
  refine yyc 8 J ⟨e, VS, NS, p2, hM2, g4, g6, n4, n6, by omega, by omega, e0, e4, e6, e10, rfl⟩ ?_
  clear hM2 g4 g6 n4 n6 e0 e4 e6 e10
  rintro k E H hk ⟨e, VS, NS, p', hM, g4, g6, n4, n6, hp1, hp1', e0, e4, e6, e10, e11⟩
  simp only [wp_seq, go_sem, rE, rA, e11]
  refine zzn (fun hlt => ?_) (fun hge => ?_)
  ·have w1 := yya (n := (k : Int) + 1) (by omega) (by omega)
   simp only [go_sem, rE, rA, e10]
   refine run_mk (c_mkPlace L b10 r bs hbs v hv.ok p' last (by omega) (by omega)) hM (rfl) (.refl _) (by simp) trivial ?_
   rintro q e3 v3 VS3 NS3 p3 last3 H3 fp3 ⟨⟨pa, u, rfl, hpa, hu⟩, rfl, hp3, hp3', rfl⟩ hM3 hk3 -
   obtain ⟨g4, n4⟩ := hk3 _ _ g4 n4
   obtain ⟨g6, n6⟩ := hk3 _ _ g6 n6
   simp only [go_sem, rE, rA, Ty.enc_eq u, Pl.enc]
   intro b12 hb12 b13 hb13
   have hb13' := new2 hb13 (.cells [S pa.name, zze pa.path])
   obtain ⟨stay, ga, gb, d56⟩ := pl_stay (c := .cells [S pa.name, zze pa.path]) (c' := .cells [.sl 1 none (Ty.encs u.kids)]) hb12 hb13'
   have hM4 := (hM3.new hb12 (.cells [S pa.name, zze pa.path])).new hb13' (.cells [.sl 1 none (Ty.encs u.kids)])
   have g4 := stay g4
   have g6 := stay g6
   simp only [go_sem, rE, rA, d56, Ne.symm d56, alloc2 d56]
   generalize ((H3.set b12 (.cells [S pa.name, zze pa.path])).set b13 (.cells [.sl 1 none (Ty.encs u.kids)])) = H5 at *
   clear hk3 hM3 hb12 hb13 hb13' stay
   have ho5 := hM4.obj
   have hE5 := hM4.env
   simp only [go_sem, rE, rA, e10, ho5]
   refine run_copy L hE5 (by have := hv.vl; omega) (by have := hv.nl; omega) (rfl) ?_
   intro a VSa NSa H6 fp6 hEa hs6 hnew
   have dis : ∀ b, H5.get b ≠ none → ¬ yyb a VSa NSa b := fun b hb h => hb (hnew _ h)
   have na6 := dis b6 (by rw [g6]; simp)
   have na4 := dis b4 (by rw [g4]; simp)
   have na12 := dis b12 (by rw [ga]; simp)
   have na13 := dis b13 (by rw [gb]; simp)
   have g6 := hs6 _ _ g6
   have g4 := hs6 _ _ g4
   have ga := hs6 _ _ ga
   have gb := hs6 _ _ gb
   have hM6 : MkAt H6 b10 r bs e3 v3 VS3 NS3 p3 last3 := hM4.mono fun b hb => by obtain ⟨o, ho⟩ := Option.ne_none_iff_exists'.1 (hM4.mem hb); rw [hs6 _ _ ho, ho]
   have nab : ∀ b, mkBlk b10 r e3 VS3 NS3 b → ¬ yyb a VSa NSa b := fun b hb => dis b (hM4.mem hb)
   clear hs6 hnew dis hM4 hE5 ho5
   simp only [go_sem, rE, rA, ga, rL]
   refine run_env (e_use L a v3 hv.ok.len hv.ok.all pa (by omega)) hEa (by simp only [go_sem, rE, Pl.enc]) (.refl _) (by simp) trivial ?_
   rintro q v7 VS7 NS7 H7 fp7 ⟨rfl, hv7⟩ hE7 hk7 -
   obtain ⟨g6, na6⟩ := hk7 _ _ g6 na6
   obtain ⟨g4, na4⟩ := hk7 _ _ g4 na4
   obtain ⟨ga, na12⟩ := hk7 _ _ ga na12
   obtain ⟨gb, na13⟩ := hk7 _ _ gb na13
   have key : ∀ b, mkBlk b10 r e3 VS3 NS3 b → H7.get b = H6.get b ∧ ¬ yyb a VS7 NS7 b := by
    intro b hb
    obtain ⟨o, ho⟩ := Option.ne_none_iff_exists'.1 (hM6.mem hb)
    obtain ⟨h1, h2⟩ := hk7 b o ho (nab b hb)
    exact ⟨by rw [h1, ho], h2⟩
   have hM7 : MkAt H7 b10 r bs e3 v3 VS3 NS3 p3 last3 := hM6.mono fun b hb => (key b hb).1
   have lk : v3.like v7 := hv7 ▸ v3.use_like pa
   have hup7 : Up v7.vars := hv.up.core lk.vars
   have hok7 := lk.ok hv.ok
   have ho7 := hE7.obj
   simp only [EnvO] at ho7
   have skip : ∀ (E' : Env) (H' : Heap), MkAt H' b10 r bs e3 v3 VS3 NS3 p3 last3 → H'.get b4 = some (.cells [S (bl []), NIL, B false, NIL, NIL, I 0, I 0, S (bl []), NIL, NIL, S (bl []), NIL]) → H'.get b6 = some (.cells [S nm, X, B false, NIL, .sl 15 none (bd.map St.enc), I 0, I 0, S (bl []), NIL, NIL, S (bl []), NIL]) → E' 0 = .ptr r 0 → E' 4 = .ptr b4 0 → E' 6 = .ptr b6 0 → E' 10 = .ptr b10 0 → E' 11 = I (k + 1 : Nat) → k < 8 ∧ ∃ H'', Heap.sub H'' H' ∧ J (k + 1) E' H'' :=
    fun E' H' hM g4 g6 h0 h4 h6 h10 h11 => ⟨by omega, H', Heap.zzm _, e3, VS3, NS3, p3, hM, g4, g6, n4, n6, by omega, by omega, h0, h4, h6, h10, h11⟩
   by_cases hc : v7.code = 0
   ·have hc' : (v7.code == 0) = true := by simpa using hc
    simp only [go_sem, rE, rA, ho7, hc', ga, rL]
    refine run_env (e_outside L a v7 hok7.len (fun x hx => (hok7.all x hx).1) hup7 pa) hE7 (by simp only [go_sem, rE, Pl.enc]) (.refl _) (by simp) trivial ?_
    rintro q v8 VS8 NS8 H8 fp8 ⟨rfl, hv8⟩ hE8 hk8 -
    obtain ⟨g6, na6⟩ := hk8 _ _ g6 na6
    obtain ⟨g4, na4⟩ := hk8 _ _ g4 na4
    obtain ⟨ga, na12⟩ := hk8 _ _ ga na12
    obtain ⟨gb, na13⟩ := hk8 _ _ gb na13
    have key8 : ∀ b, mkBlk b10 r e3 VS3 NS3 b → H8.get b = H7.get b := by
     intro b hb
     obtain ⟨o, ho⟩ := Option.ne_none_iff_exists'.1 (hM7.mem hb)
     obtain ⟨h1, h2⟩ := hk8 b o ho (key b hb).2
     rw [h1, ho]
    have hM8 : MkAt H8 b10 r bs e3 v3 VS3 NS3 p3 last3 := hM7.mono key8
    clear key key8 hk8 hk7 hM6 hM7
    cases hout : v7.outside pa
    ·simp only [go_sem, rE, rA, e11, w1]
     exact skip _ _ hM8 g4 g6 (e0) (e4) (e6) (e10) (rfl)
    ·have d126 : b12 ≠ b6 := by rintro rfl; rw [ga] at g6; simp at g6
     have d136 : b13 ≠ b6 := by rintro rfl; rw [gb] at g6; simp at g6
     simp only [go_sem, rE, rA, e4, e6, g4, g6, ga, gb, d46, d126, d136, rL]
     refine fin _ _ _ ⟨nm, ps, true, u, bd, E0, pa⟩ p3 ((Heap.zza _ _ (Ne.symm d6r)).trans hM8.rd) (e4) d4r (leFu ⟨nm, ps, true, u, bd, E0, pa⟩ hX (.refl _) (by rw [St.zzk]; exact .refl _) ⟨⟨.refl _, rfl⟩, ⟨.refl _, rfl⟩, ⟨.refl _, rfl⟩, ⟨.nil 1, rfl⟩, ⟨.nil 5, rfl⟩, trivial⟩ ⟨⟨.refl _, rfl⟩, ⟨.refl _, rfl⟩, trivial⟩) rfl ⟨⟨hps, hu⟩, hpl, hbl, hbd, hbs2, E0_sm⟩ (by omega) (by simp only [FC]; omega)
   ·have hc' : (v7.code == 0) = false := by simpa using hc
    simp only [go_sem, rE, rA, ho7, hc', e11, w1]
    exact skip _ _ hM7 g4 g6 (e0) (e4) (e6) (e10) (rfl)
  ·simp only [go_sem, rE, rA]
   exact tail2 _ _ e VS NS p' last hM g4 g6 n4 n6 (e0) (e4) (e6) (e10) (by omega) (by omega) hl0
 ·have hk1' : (k1 == 0) = false := by simpa using hk1
  simp only [hk1', go_sem, rE, rA]
  exact tail2 _ _ e VS NS p2 last hM2 g4 g6 n4 n6 (e0) (e4) (e6) (e10) (by omega) (by omega) hl0
theorem c_l71Fn (L : Lib P F) (r : Nat) (bs : List UInt8) (hbs : bs.length ≤ 2000) (pr : Pg) (hpr : ∀ g ∈ pr, g.okS ∧ g.params.length ≤ 4) (hpl : pr.length ≤ 3) (p : Int) (hp : 0 ≤ p) (hp2 : p + FC ≤ 2 ^ 50) :
 ACalls P F.s_l71Fn [.ptr r 0, .agg (Pg.enc pr)] (one r (RdO bs p)) (RdR r bs p FC fun q => ∃ f : Fu, q = .agg f.enc ∧ f.good) := by
 simp only [FC] at hp2
 refine L.s_l71Fn (by simp [x_s_l71Fn]) ?_
 simp only [x_s_l71Fn, go_sem, rE, rA, Pg.enc]
 intro b3 hb3 b4 hb4
 have hr3 : r ≠ b3 := by rintro rfl; rw [yyh] at hb3; simp at hb3
 have d34 : b3 ≠ b4 := new_ne hb4
 have hr4 : r ≠ b4 := by rintro rfl; rw [Heap.zza _ _ hr3, yyh] at hb4; simp at hb4
 have hk : pr.length = 0 ∨ pr.length = 1 ∨ pr.length = 2 ∨ pr.length = 3 := by omega
 obtain ⟨nm, hnm⟩ : ∃ nm, [[S (bl [102, 97])], [S (bl [102, 98])], [S (bl [102, 99])], [S (bl [102, 100])], [S (bl [102, 101])]][pr.length]? = some [S nm] := by
  rcases hk with h | h | h | h <;> rw [h] <;> exact ⟨_, rfl⟩
 simp only [go_sem, rE, rA, d34, Ne.symm d34, List.length_map, hnm, List.replicate, List.flatten_cons, List.flatten_nil, rL, chunk]
 intro b6 hb6
 have hrd0 : (((one r (RdO bs p)).set b3 (.cells [.sl 12 none (pr.map Fu.enc)])).set b4 (.cells [S (bl []), NIL, B false, NIL, NIL, I 0, I 0, S (bl []), NIL, NIL, S (bl []), NIL])).get r = some (RdO bs p) := by rw [Heap.zza _ _ hr4, Heap.zza _ _ hr3, yyh]
 have hb30 : (((one r (RdO bs p)).set b3 (.cells [.sl 12 none (pr.map Fu.enc)])).set b4 (.cells [S (bl []), NIL, B false, NIL, NIL, I 0, I 0, S (bl []), NIL, NIL, S (bl []), NIL])).get b3 = some (.cells [.sl 12 none (pr.map Fu.enc)]) := by rw [Heap.zza _ _ d34, Heap.zzb]
 have hb40 : (((one r (RdO bs p)).set b3 (.cells [.sl 12 none (pr.map Fu.enc)])).set b4 (.cells [S (bl []), NIL, B false, NIL, NIL, I 0, I 0, S (bl []), NIL, NIL, S (bl []), NIL])).get b4 = some (.cells [S (bl []), NIL, B false, NIL, NIL, I 0, I 0, S (bl []), NIL, NIL, S (bl []), NIL]) := Heap.zzb _ _ _
 generalize (((one r (RdO bs p)).set b3 (.cells [.sl 12 none (pr.map Fu.enc)])).set b4 (.cells [S (bl []), NIL, B false, NIL, NIL, I 0, I 0, S (bl []), NIL, NIL, S (bl []), NIL])) = H0 at *
 have hr6 := zzj hrd0 hb6
 have d36 := zzj hb30 hb6
 have d46 := zzj hb40 hb6
 have A0 : FnAt (H0.set b6 (.cells [S nm, NIL, B false, NIL, NIL, I 0, I 0, S (bl []), NIL, NIL, S (bl []), NIL])) r bs p b4 b6 [S nm, NIL, B false, NIL, NIL, I 0, I 0, S (bl []), NIL, NIL, S (bl []), NIL] :=
  ⟨(Heap.zza _ _ hr6).trans hrd0, (Heap.zza _ _ d46).trans hb40, Heap.zzb _ _ _⟩
 have hb30 : (H0.set b6 (.cells [S nm, NIL, B false, NIL, NIL, I 0, I 0, S (bl []), NIL, NIL, S (bl []), NIL])).get b3 = _ := (Heap.zza _ _ d36).trans hb30
 generalize (H0.set b6 (.cells [S nm, NIL, B false, NIL, NIL, I 0, I 0, S (bl []), NIL, NIL, S (bl []), NIL])) = H1 at *
 clear hb3 hb4 hb6 hrd0 hb40
 refine yyg (c_pick' L r bs p 3 hbs hp (by omega)) (rfl) A0.rd (by simp) trivial ?_
 rintro q p1 hp1 hp1' ⟨k0, rfl, hk00, hk01⟩
 have A1 : FnAt (H1.set r (RdO bs p1)) r bs p1 b4 b6 [S nm, NIL, B false, NIL, NIL, I 0, I 0, S (bl []), NIL, NIL, S (bl []), NIL] :=
  ⟨Heap.zzb _ _ _, (Heap.zza _ _ (Ne.symm hr4)).trans A0.z, (Heap.zza _ _ (Ne.symm hr6)).trans A0.f⟩
 have hb30 : (H1.set r (RdO bs p1)).get b3 = _ := (Heap.zza _ _ (Ne.symm hr3)).trans hb30
 generalize H1.set r (RdO bs p1) = H2 at *
 clear A0
 have w1 := yya (n := 1 + k0) (by omega) (by omega)
 obtain ⟨n, hn⟩ : ∃ n : Nat, 1 + k0 = (n : Int) := ⟨(1 + k0).toNat, by omega⟩
 rw [hn] at w1
 simp only [go_sem, rE, rA, w1, hn]
 let J : Nat → Env → Heap → Prop := fun k E H => ∃ (p' : Int) (X : AC) (ps : List Pa), FnAt H r bs p' b4 b6 [S nm, X, B false, NIL, NIL, I 0, I 0, S (bl []), NIL, NIL, S (bl []), NIL] ∧ H.get b3 = some (.cells [.sl 12 none (pr.map Fu.enc)]) ∧ p ≤ p' ∧ p' ≤ p + 1 + 20 * k ∧ ps.length = k ∧ (∀ x ∈ ps, x.ok) ∧ AppSt H 3 (ps.map Pa.enc) X ∧
  E 0 = .ptr r 0 ∧ E 3 = .ptr b3 0 ∧ E 4 = .ptr b4 0 ∧ E 5 = I pr.length ∧ E 6 = .ptr b6 0 ∧ E 7 = I n ∧ E 8 = I k
 refine yyc n J ⟨p1, NIL, [], A1, hb30, hp1, by omega, rfl, by simp, .nil _ _, rfl, rfl, rfl, rfl, rfl, rfl, rfl⟩ ?_
 clear A1 hb30
 rintro k E H hk ⟨p', X, ps, A, g3, hq1, hq2, hps, hpok, hX, e0, e3, e4, e5, e6, e7, e8⟩
 simp only [wp_seq, go_sem, rE, rA, e7, e8]
 refine zzn (fun hlt => ?_) (fun hge => ?_)
 ·have w2 := yya (n := (k : Int) + 1) (by omega) (by omega)
  have hkk : k = 0 ∨ k = 1 ∨ k = 2 := by omega
  obtain ⟨pn, hpn⟩ : ∃ pn, [[S (bl [112])], [S (bl [113])], [S (bl [114])], [S (bl [115])]][k]? = some [S pn] := by
   rcases hkk with h | h | h <;> rw [h] <;> exact ⟨_, rfl⟩
  simp only [go_sem, rE, rA, e0, e6, e8, A.f, hpn, List.replicate, List.flatten_cons, List.flatten_nil, rL, chunk]
  refine yyg (c_pick' L r bs p' 3 hbs (by omega) (by omega)) (rfl) A.rd (fun _ => ⟨by omega, I 0, 0, rfl, by omega, .inr rfl⟩) (by simp [chkE]; exact Ne.symm hr6) ?_
  rintro q p2 hp2 hp2' ⟨k2, rfl, hk20, hk21⟩
  have A2 : FnAt (H.set r (RdO bs p2)) r bs p2 b4 b6 [S nm, X, B false, NIL, NIL, I 0, I 0, S (bl []), NIL, NIL, S (bl []), NIL] :=
   ⟨Heap.zzb _ _ _, (Heap.zza _ _ (Ne.symm hr4)).trans A.z, (Heap.zza _ _ (Ne.symm hr6)).trans A.f⟩
  have g3 : (H.set r (RdO bs p2)).get b3 = _ := (Heap.zza _ _ (Ne.symm hr3)).trans g3
  have hX2 : AppSt (H.set r (RdO bs p2)) 3 (ps.map Pa.enc) X := hX.keepF fun d hd => Heap.zza _ _ (by rintro rfl; obtain ⟨n, m, h⟩ := hX.mem hd; rw [A.rd] at h; simp [RdO] at h)
  generalize H.set r (RdO bs p2) = Ha at *
  clear A hX
  simp only [go_sem, rE, rA, e0]
  refine yyg (c_l71Type L r bs hbs 3 3 (by omega) (by omega) p2 (by omega) (by simp [tcost]; omega)) (rfl) A2.rd (fun _ => ⟨by simp [tcost], _, .mk [], rfl, by simp [Ty.le]⟩) (by simp [chkE]; exact Ne.symm hr6) ?_
  rintro q p3 hp3 hp3' ⟨t, rfl, ht⟩
  simp only [tcost] at hp3'
  have A3 : FnAt (Ha.set r (RdO bs p3)) r bs p3 b4 b6 [S nm, X, B false, NIL, NIL, I 0, I 0, S (bl []), NIL, NIL, S (bl []), NIL] :=
   ⟨Heap.zzb _ _ _, (Heap.zza _ _ (Ne.symm hr4)).trans A2.z, (Heap.zza _ _ (Ne.symm hr6)).trans A2.f⟩
  have g3 : (Ha.set r (RdO bs p3)).get b3 = _ := (Heap.zza _ _ (Ne.symm hr3)).trans g3
  have hX3 : AppSt (Ha.set r (RdO bs p3)) 3 (ps.map Pa.enc) X := hX2.keepF fun d hd => Heap.zza _ _ (by rintro rfl; obtain ⟨n, m, h⟩ := hX2.mem hd; rw [A2.rd] at h; simp [RdO] at h)
  generalize Ha.set r (RdO bs p3) = Hb at *
  clear A2 hX2
  simp only [go_sem, rE, rA, Ty.enc_eq t, List.replicate, List.flatten_cons, List.flatten_nil, rL, chunk]
  refine run_appM2 (es := ps.map Pa.enc) (ys := [[S pn, B (decide (0 < k2)), .sl 1 none (Ty.encs t.kids)]]) (by simp only [go_sem, rE]; exact hX3) (rfl) (by simp) (by simp; omega) ?_
  intro x' Hc fpc hx' _ keep new
  simp only [go_sem, rE] at keep new
  have hx1 := hx'.one
  have A4 : FnAt Hc r bs p3 b4 b6 [S nm, X, B false, NIL, NIL, I 0, I 0, S (bl []), NIL, NIL, S (bl []), NIL] := by
   refine A3.mono fun d hd => ?_
   have : ∃ cs, Hb.get d = some (.cells cs) := by
    rcases hd with rfl | rfl | rfl
    ·exact ⟨_, A3.rd⟩
    ·exact ⟨_, A3.z⟩
    ·exact ⟨_, A3.f⟩
   obtain ⟨cs, hcs⟩ := this
   exact keep d (by rw [hcs]; simp) fun ht => by obtain ⟨n, m, h⟩ := hX3.mem ht; rw [hcs] at h; simp at h
  have g3 : Hc.get b3 = _ := (keep b3 (by rw [g3]; simp) fun ht => by obtain ⟨n, m, h⟩ := hX3.mem ht; rw [g3] at h; simp at h).trans g3
  simp only [go_sem, rE, rA, e6, e8, A4.f, hx1, w2, rL]
  refine ⟨by omega, _, Heap.zzm _, p3, x', ps ++ [⟨pn, decide (0 < k2), t⟩], ⟨(Heap.zza _ _ hr6).trans A4.rd, (Heap.zza _ _ d46).trans A4.z, Heap.zzb _ _ _⟩, (Heap.zza _ _ d36).trans g3, by omega, by omega, by simp; exact hps, fun x hx => ?_, ?_, e0, e3, e4, e5, e6, e7, rfl⟩
  ·rcases List.mem_append.1 hx with h | h
   ·exact hpok x h
   ·simp at h; subst h; exact ⟨⟨3, by omega, ht⟩⟩
  ·rw [List.map_append]
   have : [Pa.mk pn (decide (0 < k2)) t].map Pa.enc = [[S pn, B (decide (0 < k2)), .sl 1 none (Ty.encs t.kids)]] := by simp [Pa.enc, Ty.enc_eq t]
   rw [this]
   exact hx'.set A4.f _
 ·have hkn : k = n := by omega
  have hXle := hX.le
  simp only [go_sem, rE, rA, e3, g3, rL]
  intro b48 hb48
  have A1 := A.new hb48 (.tail 0 0)
  have g3 : (H.set b48 (.tail 0 0)).get b3 = _ := (Heap.zza _ _ (zzj g3 hb48)).trans g3
  have g48 : (H.set b48 (.tail 0 0)).get b48 = _ := Heap.zzb _ _ _
  simp only [go_sem, rE, rA, e3, g3, rL]
  generalize H.set b48 (.tail 0 0) = Ha at *
  refine run_appT (es := []) (ys := pr.map Fu.enc) (rfl) g48 (rfl) (by simp; intro f _; exact fu_len f) (by simp; omega) ?_
  intro bt nt mt Hb fpb gt keep hbt hfb
  have in1 : ∀ {d cs}, Ha.get d = some (.cells cs) → Hb.get d = some (.cells cs) := fun {d cs} hd => by rw [keep d (by rw [hd]; simp) (by rintro rfl; rw [g48] at hd; simp at hd)]; exact hd
  have A2 : FnAt Hb r bs p' b4 b6 [S nm, X, B false, NIL, NIL, I 0, I 0, S (bl []), NIL, NIL, S (bl []), NIL] := ⟨in1 A1.rd, in1 A1.z, in1 A1.f⟩
  have nf6 : ¬ fpb b6 := fun h => by have := hfb _ h; rw [A1.f] at this; simp at this
  simp only [go_sem, rE, rA, e6, A2.f, List.replicate, List.flatten_cons, List.flatten_nil, rL, chunk]
  refine ⟨by simp; exact nf6, ?_⟩
  refine run_appT (es := pr.map Fu.enc) (ys := [[S nm, X, B false, NIL, NIL, I 0, I 0, S (bl []), NIL, NIL, S (bl []), NIL]]) (rfl) gt (rfl) (by simp) (by simp; omega) ?_
  intro bt2 nt2 mt2 Hc fpc gt2 keep2 hbt2 _
  have in2 : ∀ {d cs}, Hb.get d = some (.cells cs) → Hc.get d = some (.cells cs) := fun {d cs} hd => by rw [keep2 d (by rw [hd]; simp) (by rintro rfl; rw [gt] at hd; simp at hd)]; exact hd
  have A3 : FnAt Hc r bs p' b4 b6 [S nm, X, B false, NIL, NIL, I 0, I 0, S (bl []), NIL, NIL, S (bl []), NIL] := ⟨in2 A2.rd, in2 A2.z, in2 A2.f⟩
  clear A A1 A2 keep keep2 in1 in2 hfb gt g48 g3 hb48
  simp only [go_sem, rE, rA]
  intro b9 hb9
  have A4 := A3.new hb9 (.cells [.sl 12 (some (bt2, nt2, mt2)) (pr.map Fu.enc ++ [[S nm, X, B false, NIL, NIL, I 0, I 0, S (bl []), NIL, NIL, S (bl []), NIL]])])
  have g9 : (Hc.set b9 (.cells [.sl 12 (some (bt2, nt2, mt2)) (pr.map Fu.enc ++ [[S nm, X, B false, NIL, NIL, I 0, I 0, S (bl []), NIL, NIL, S (bl []), NIL]])])).get b9 = _ := Heap.zzb _ _ _
  generalize (Hc.set b9 (.cells [.sl 12 (some (bt2, nt2, mt2)) (pr.map Fu.enc ++ [[S nm, X, B false, NIL, NIL, I 0, I 0, S (bl []), NIL, NIL, S (bl []), NIL]])])) = Hd at *
  simp only [go_sem, rE, rA, e0, e5, g9, rL]
  have hnlt : pr.length < (pr ++ [(⟨nm, ps, false, .mk [], [], E0, P0⟩ : Fu)]).length := by simp
  refine run_start (as' := [.agg [.sl 12 (some (bt2, nt2, mt2)) (pr.map Fu.enc ++ [[S nm, X, B false, NIL, NIL, I 0, I 0, S (bl []), NIL, NIL, S (bl []), NIL]])], I pr.length]) L (pr ++ [⟨nm, ps, false, .mk [], [], E0, P0⟩]) pr.length hnlt (by simp; omega) (by simp; omega) (rfl) ⟨.agg ⟨⟨.slR ?_, rfl⟩, trivial⟩, .refl _, trivial⟩ ?_
  ·rw [List.map_append]
   exact (LeR.fus pr).snoc (leFu ⟨nm, ps, false, .mk [], [], E0, P0⟩ hXle (.nil 1) (.nil 15) ⟨⟨.refl _, rfl⟩, ⟨.refl _, rfl⟩, ⟨.refl _, rfl⟩, ⟨.nil 1, rfl⟩, ⟨.nil 5, rfl⟩, trivial⟩ ⟨⟨.refl _, rfl⟩, ⟨.nil 1, rfl⟩, trivial⟩)
  intro a VS NS He fpe hE hs hnew
  have hdr := start_dr pr ⟨nm, ps, false, .mk [], [], E0, P0⟩ hpr ⟨hpok, Ty.wf_nil⟩ (by omega) (by simp; omega) (by simp; omega)
  generalize En.start (pr ++ [⟨nm, ps, false, .mk [], [], E0, P0⟩]) pr.length = v at *
  have A5 : FnAt He r bs p' b4 b6 [S nm, X, B false, NIL, NIL, I 0, I 0, S (bl []), NIL, NIL, S (bl []), NIL] := ⟨hs _ _ A4.rd, hs _ _ A4.z, hs _ _ A4.f⟩
  have na4 : ¬ yyb a VS NS b4 := fun h => by have := hnew _ h; rw [A4.z] at this; simp at this
  have na6 : ¬ yyb a VS NS b6 := fun h => by have := hnew _ h; rw [A4.f] at this; simp at this
  have nar : ¬ yyb a VS NS r := fun h => by have := hnew _ h; rw [A4.rd] at this; simp at this
  clear A3 A4 hs hnew g9 hb9
  simp only [go_sem, rE, rA, e0, rL]
  intro b10 hb10
  have hr10 := zzj A5.rd hb10
  have d410 := zzj A5.z hb10
  have d610 := zzj A5.f hb10
  have A6 := A5.new hb10 (.cells [.ptr r 0, .ptr a 0, I 0])
  have hM : MkAt (He.set b10 (.cells [.ptr r 0, .ptr a 0, I 0])) b10 r bs a v VS NS p' 0 := ⟨Heap.zzb _ _ _, A6.rd, hE.new hb10 _, Ne.symm hr10, hE.notin hb10, nar⟩
  generalize (He.set b10 (.cells [.ptr r 0, .ptr a 0, I 0])) = Hf at *
  clear A5 hE hb10
  refine yyg (c_pick' L r bs p' 6 hbs (by omega) (by omega)) (rfl) A6.rd (by simp) trivial ?_
  rintro q p7 hp7 hp7' ⟨k7, rfl, hk70, hk71⟩
  have hM7 := hM.setR p7
  have g4 : (Hf.set r (RdO bs p7)).get b4 = _ := (Heap.zza _ _ (Ne.symm hr4)).trans A6.z
  have g6 : (Hf.set r (RdO bs p7)).get b6 = _ := (Heap.zza _ _ (Ne.symm hr6)).trans A6.f
  generalize Hf.set r (RdO bs p7) = Hg at *
  clear A6 hM
  have w7 := yya (n := 1 + k7) (by omega) (by omega)
  have hk7n : 1 + k7 = ((1 + k7.toNat : Nat) : Int) := by omega
  have hcc : ccnt 2 = 161 := rfl
  have hsc : (scost 2 : Int) = 26660000 := rfl
  have hkc : (1 + k7.toNat) * ccnt 2 ≤ 6 * ccnt 2 := Nat.mul_le_mul_right _ (by omega)
  simp only [go_sem, rE, rA, w7]
  refine run_mk (c_mkBodyN L 2 (by omega) b10 r bs hbs v 4 (1 + k7.toNat) hdr (by omega) (by omega) p7 0 (by omega) (by omega) (by omega) (by omega)) hM7 (by simp only [go_sem, rE, hk7n]; rfl) (.refl _) (by simp) trivial ?_
  rintro q e8 v8 VS8 NS8 p8 last8 H8 fp8 ⟨⟨bd, rfl, hbl, hbc, hbsm⟩, ⟨hv8, hv82, hv83⟩, hp8, hp8', hl8, hl8'⟩ hM8 hk8 -
  obtain ⟨g4, n4⟩ := hk8 _ _ g4 (not_mkBlk d410 (Ne.symm hr4) na4)
  obtain ⟨g6, n6⟩ := hk8 _ _ g6 (not_mkBlk d610 (Ne.symm hr6) na6)
  have n6' := n6
  have d610' : b10 ≠ b6 := Ne.symm d610
  have tl := fn_tail (F := F) L r bs hbs nm ps bd v8 (4 + (1 + k7.toNat) * ccnt 2) hv8 (by omega) p hp hp2 hpok (by omega) (by omega) (by omega) hbsm b4 b6 b10 e8 VS8 NS8 X p8 last8
  simp only [go_sem, rE, rA, e6, g6, rL]
  refine tl _ _ (hM8.put n6 _) d46 ((Heap.zza _ _ d46).trans g4) (Heap.zzb _ _ _) n4 n6 (e0) (e4) (e6) (rfl) hXle (by omega) (by omega) (by omega)
end
end Go.Xl
namespace Go.Xl
open Nat renaming reduceEqDiff → rE, reduceAdd → rA, reduceLeDiff → rL
theorem fu0_good : (⟨bl [], [], false, .mk [], [], E0, P0⟩ : Fu).good := ⟨⟨by simp, Ty.wf_nil⟩, by simp, by simp, by simp [St.cntL_nil], by simp, E0_sm⟩
section
variable {P : Program} {F : Ids}
theorem c_l71Prog (L : Lib P F) (r : Nat) (bs : List UInt8) (hbs : bs.length ≤ 2000) (p : Int) (hp : 0 ≤ p) (hp2 : p + 5 * FC ≤ 2 ^ 50) :
 ACalls P F.s_l71Prog [.ptr r 0] (one r (RdO bs p)) (RdR r bs p (5 * FC) fun q => ∃ pr : Pg, q = .agg (Pg.enc pr) ∧ (∀ f ∈ pr, f.good) ∧ 1 ≤ pr.length ∧ pr.length ≤ 4) := by
 simp only [FC] at hp2
 refine L.s_l71Prog (by simp [x_s_l71Prog]) ?_
 simp only [x_s_l71Prog, go_sem, rE, rA]
 intro b2 hb2 b3 hb3
 have hr2 : r ≠ b2 := by rintro rfl; rw [yyh] at hb2; simp at hb2
 have d23 : b2 ≠ b3 := new_ne hb3
 have hr3 : r ≠ b3 := by rintro rfl; rw [Heap.zza _ _ hr2, yyh] at hb3; simp at hb3
 have gr : (((one r (RdO bs p)).set b2 (.cells [NIL])).set b3 (.cells [NIL])).get r = some (RdO bs p) := by rw [Heap.zza _ _ hr3, Heap.zza _ _ hr2, yyh]
 have g2 : (((one r (RdO bs p)).set b2 (.cells [NIL])).set b3 (.cells [NIL])).get b2 = some (.cells [NIL]) := by rw [Heap.zza _ _ d23, Heap.zzb]
 have g3 : (((one r (RdO bs p)).set b2 (.cells [NIL])).set b3 (.cells [NIL])).get b3 = some (.cells [NIL]) := Heap.zzb _ _ _
 generalize (((one r (RdO bs p)).set b2 (.cells [NIL])).set b3 (.cells [NIL])) = H0 at *
 clear hb2 hb3
 refine yyg (c_pick' L r bs p 4 hbs hp (by omega)) (rfl) gr (by simp) trivial ?_
 rintro q p1 hp1 hp1' ⟨k0, rfl, hk00, hk01⟩
 have g2 : (H0.set r (RdO bs p1)).get b2 = _ := (Heap.zza _ _ (Ne.symm hr2)).trans g2
 have g3 : (H0.set r (RdO bs p1)).get b3 = _ := (Heap.zza _ _ (Ne.symm hr3)).trans g3
 have gr : (H0.set r (RdO bs p1)).get r = _ := Heap.zzb _ _ _
 generalize H0.set r (RdO bs p1) = H1 at *
 have w1 := yya (n := 1 + k0) (by omega) (by omega)
 obtain ⟨n, hn⟩ : ∃ n : Nat, 1 + k0 = (n : Int) := ⟨(1 + k0).toNat, by omega⟩
 rw [hn] at w1
 simp only [go_sem, rE, rA, w1, hn]
 let J : Nat → Env → Heap → Prop := fun k E H => ∃ (p' : Int) (X : AC) (pr : Pg), H.get r = some (RdO bs p') ∧ H.get b2 = some (.cells [NIL]) ∧ H.get b3 = some (.cells [X]) ∧ p ≤ p' ∧ p' ≤ p + 1 + FC * k ∧ pr.length = k ∧ (∀ f ∈ pr, f.good) ∧ AppSt H 12 (pr.map Fu.enc) X ∧
  E 0 = .ptr r 0 ∧ E 2 = .ptr b2 0 ∧ E 3 = .ptr b3 0 ∧ E 4 = I ((n : Int) - k)
 refine yyc n J ⟨p1, NIL, [], gr, g2, g3, hp1, by simp; omega, rfl, by simp, .nil _ _, rfl, rfl, rfl, rfl⟩ ?_
 clear gr g2 g3
 rintro k E H hk ⟨p', X, pr, gr, g2, g3, hq1, hq2, hpr, hgood, hX, e0, e2, e3, e4⟩
 simp only [FC] at hq2
 simp only [wp_seq, go_sem, rE, rA, e4]
 refine zzn (fun hlt => ?_) (fun hge => ?_)
 ·have w2 := yya (n := (n : Int) - k - 1) (by omega) (by omega)
  simp only [go_sem, rE, rA, e0, e3, g3, rL]
  refine yyg (as := [.ptr r 0, .agg [X]]) ((c_l71Fn L r bs hbs pr (fun g hg => ⟨(hgood g hg).okS, (hgood g hg).pars⟩) (by omega) p' (by omega) (by simp only [FC]; omega)).args ⟨.refl _, .agg ⟨⟨hX.le, rfl⟩, trivial⟩, trivial⟩) (rfl) gr (fun _ => ⟨by simp [FC], _, _, rfl, fu0_good⟩) (by simp [chkE]; exact Ne.symm hr3) ?_
  rintro q p2 hp2 hp2' ⟨f, rfl, hf⟩
  simp only [FC] at hp2'
  have g2 : (H.set r (RdO bs p2)).get b2 = _ := (Heap.zza _ _ (Ne.symm hr2)).trans g2
  have g3 : (H.set r (RdO bs p2)).get b3 = _ := (Heap.zza _ _ (Ne.symm hr3)).trans g3
  have hX2 : AppSt (H.set r (RdO bs p2)) 12 (pr.map Fu.enc) X := hX.keepF fun d hd => Heap.zza _ _ (by rintro rfl; obtain ⟨n, m, h⟩ := hX.mem hd; rw [gr] at h; simp [RdO] at h)
  have gr : (H.set r (RdO bs p2)).get r = _ := Heap.zzb _ _ _
  generalize H.set r (RdO bs p2) = Ha at *
  clear hX
  obtain ⟨cf, hcf, CF⟩ := fuC f
  simp only [hcf, go_sem, rE, rA, CF.len, CF.all, List.replicate, List.flatten_cons, List.flatten_nil, rL, chunk]
  refine run_appM2 (es := pr.map Fu.enc) (ys := [cf]) (by simp only [go_sem, rE]; exact hX2) (rfl) (by simp [CF.len]) (by simp; omega) ?_
  intro x' Hc fpc hx' _ keep new
  simp only [go_sem, rE] at keep new
  have hx1 := hx'.one
  have in1 : ∀ {d cs}, Ha.get d = some (.cells cs) → Hc.get d = some (.cells cs) := fun {d cs} hd => by
   rw [keep d (by rw [hd]; simp) fun ht => by obtain ⟨n, m, h⟩ := hX2.mem ht; rw [hd] at h; simp at h]; exact hd
  have g2 := in1 g2
  have g3 := in1 g3
  have gr := in1 gr
  simp only [go_sem, rE, rA, e3, e4, g3, hx1, w2, rL]
  refine ⟨by omega, _, Heap.zzm _, p2, x', pr ++ [f], (Heap.zza _ _ hr3).trans gr, (Heap.zza _ _ d23).trans g2, Heap.zzb _ _ _, by omega, by simp only [FC]; omega, by simp; exact hpr, fun x hx => ?_, ?_, e0, e2, e3, by simp only [go_sem, rE]; congr 2; omega⟩
  ·rcases List.mem_append.1 hx with h | h
   ·exact hgood x h
   ·simp at h; subst h; exact hf
  ·rw [List.map_append, List.map_cons, List.map_nil, hcf]
   exact hx'.set g3 _
 ·simp only [go_sem, rE, rA, e2, e3, g2, g3, rL]
  exact yym (q' := .agg (Pg.enc pr)) (off := 0) (e2) (Heap.zzb _ _ _) rfl (.agg ⟨⟨hX.le, rfl⟩, trivial⟩) (one_sub (by rw [Heap.zza _ _ hr2]; exact gr)) ⟨p', hq1, by simp only [FC]; omega, rfl, pr, rfl, hgood, by omega, by omega⟩
end
end Go.Xl
namespace Go.Xl
open Nat renaming reduceEqDiff → rE, reduceAdd → rA, reduceLeDiff → rL
def txtRows (ss : List ByteArray) : List (List AC) := ss.map fun s => [S s]
theorem txt_get {ss : List ByteArray} {k : Nat} (h : k < ss.length) : (txtRows ss)[k]? = some [S ss[k]] := by simp [txtRows, h]
theorem txt_len (ss : List ByteArray) : (txtRows ss).length = ss.length := by simp [txtRows]
def Ty.lo (t : Ty) : Prop := ∃ D, D ≤ 12 ∧ t.le D
section
variable {P : Program} {F : Ids}
theorem c_of (L : Lib P F) (r : Nat) (bs : List UInt8) (hbs : bs.length ≤ 2000) (ss : List ByteArray) (hne : 0 < ss.length) (hl : ss.length ≤ 1000) (p : Int) (hp : 0 ≤ p) (hp2 : p + 1 ≤ 2 ^ 50) :
 ACalls P F.s_l6Rd_of [.ptr r 0, .sl 1 none (txtRows ss)] (one r (RdO bs p)) (RdR r bs p 1 fun q => ∃ s, q = S s) := by
 refine L.s_l6Rd_of (by simp [x_s_l6Rd_of]) ?_
 simp only [x_s_l6Rd_of, go_sem, rE, rA, txt_len]
 refine yyg (c_pick' L r bs p ss.length hbs hp (by omega)) (rfl) (yyh _ _) (by simp) trivial ?_
 rintro q p1 hp1 hp1' ⟨k, rfl, hk0, hk1⟩
 have hkl : k.toNat < ss.length := by omega
 rw [set_one]
 simp only [go_sem, rE, rA, hk0, txt_get hkl]
 exact post_slot ⟨p1, hp1, hp1', rfl, _, rfl⟩
def TyT (r : Nat) (bs : List UInt8) (p c : Int) (d : Nat) (q : AC) (H' : Heap) : Prop := ∃ (p' : Int) (X : AC) (t : Ty), p ≤ p' ∧ p' ≤ p + c ∧ q = .agg [X] ∧ H'.get r = some (RdO bs p') ∧ AppSt H' 1 (Ty.encs t.kids) X ∧ t.le d ∧ ¬ tokOf X r ∧ t.kids.length ≤ 2
theorem c_l71TypeT (L : Lib P F) (r : Nat) (bs : List UInt8) (hb : bs.length ≤ 2000) (d : Nat) (dp : Int) (hd : dp ≤ d + 1) (hd' : d + 1 ≤ 100) (hdp : -10 ≤ dp) (p : Int) (hp : 0 ≤ p) (hp' : p + tcost (d + 1) ≤ 2 ^ 50) :
 ACalls P F.s_l71Type [.ptr r 0, I dp] (one r (RdO bs p)) (TyT r bs p (tcost (d + 1)) (d + 1)) := by
 have tn := tcost_nonneg d
 simp only [tcost] at hp'
 refine L.s_l71Type (by simp [x_s_l71Type]) ?_
 simp only [x_s_l71Type, go_sem, rE]
 intro b hb'
 have hrb : r ≠ b := by rintro rfl; rw [yyh] at hb'; simp at hb'
 have hbr : b ≠ r := Ne.symm hrb
 have leaf : ∀ (E : Env) p', p ≤ p' → p' ≤ p + tcost (d + 1) → E 4 = .ptr b 0 →
  XFunc.post [XRes.cell 4 (some 1)] (TyT r bs p (tcost (d + 1)) (d + 1)) .ret E ((one r (RdO bs p')).set b (.cells [AC.lit (.slice none 0 0)])) := by
  intro E p' h1 h2 hE
  exact yym (q' := .agg [NIL]) hE (Heap.zzb _ _ _) rfl (.refl _) (sub_set (get_one_ne _ hbr)) ⟨p', NIL, .mk [], h1, h2, rfl, yyh _ _, .nil _ _, Ty.le_nil _, by rintro ⟨_, _, _, _, h⟩; simp at h, by simp [Ty.kids]⟩
 by_cases h2 : dp < 2
 ·simp only [go_sem, rE, h2, Nat.le_refl, rA]
  exact leaf _ p (Int.le_refl _) (by simp only [tcost]; omega) (rfl)
 ·simp only [go_sem, rE, h2]
  refine yyg (c_pick' L r bs p 3 hb hp (by omega)) (rfl) (by simp only [go_sem, hrb, yyh]) (by simp) trivial ?_
  rintro q p1 hp1 hp1' ⟨k, rfl, hk0, hk3⟩
  simp only [go_sem, rE]
  rw [Heap.set_comm hbr, set_one]
  refine zzn (fun hgt => ?_) (fun hle => ?_)
  ·simp only [go_sem, rE, Nat.le_refl, rA]
   exact leaf _ p1 hp1 (by simp only [tcost]; omega) (rfl)
  ·have w1 := yya (n := dp - 1) (by omega) (by omega)
   simp only [go_sem, rE, w1]
   refine yyg (c_l71Type L r bs hb d (dp - 1) (by omega) (by omega) p1 (by omega) (by omega)) (rfl) (by simp only [go_sem, hrb, yyh]) (by simp) trivial ?_
   rintro q p2 hp2 hp2' ⟨t1, rfl, ht1⟩
   rw [Heap.set_comm hbr, set_one]
   simp only [go_sem, rE, w1]
   refine yyg (c_l71Type L r bs hb d (dp - 1) (by omega) (by omega) p2 (by omega) (by omega)) (rfl) (by simp only [go_sem, hrb, yyh]) (by simp) trivial ?_
   rintro q p3 hp3 hp3' ⟨t2, rfl, ht2⟩
   rw [Heap.set_comm hbr, set_one]
   obtain ⟨k1⟩ := t1
   obtain ⟨k2⟩ := t2
   simp only [go_sem, rE, Ty.enc, List.replicate, List.flatten_cons, List.flatten_nil, rA, rL, Nat.le_refl, Nat.reduceMul]
   intro b2 hb2
   have h2b : b ≠ b2 := by rintro rfl; simp at hb2
   have h2r : r ≠ b2 := by rintro rfl; rw [Heap.zza _ _ hrb, yyh] at hb2; simp at hb2
   simp only [go_sem, h2b, chunk, Nat.le_refl, rA]
   refine yym (q' := .agg [.sl 1 (some (b2, 2, 2)) (Ty.encs [.mk k1, .mk k2])]) (off := 0) (rfl) (Heap.zzb _ _ _) rfl (.refl _) (Heap.zzm _)
    ⟨p3, _, .mk [.mk k1, .mk k2], by omega, by simp only [tcost]; omega, rfl, by rw [Heap.zza _ _ hrb, Heap.zza _ _ h2r, Heap.zza _ _ hrb, yyh], .inr ⟨b2, 2, 2, rfl, by rw [Heap.zza _ _ (Ne.symm h2b), Heap.zzb]⟩, ?_, ?_, by simp [Ty.kids]⟩
   ·simp only [Ty.le, List.length_cons, List.length_nil, List.mem_cons, List.not_mem_nil, or_false, forall_eq_or_imp, forall_eq]
    exact ⟨by omega, ht1, ht2⟩
   ·rintro ⟨_, _, _, _, h⟩; simp at h; exact h2r h.2.1.1.symm
end
end Go.Xl
namespace Go.Xl
open Nat renaming reduceEqDiff → rE, reduceAdd → rA, reduceLeDiff → rL
theorem LeR.tys : ∀ p : List Ty, LeR (p.map Ty.enc) (p.map Ty.enc)
 | [] => trivial
 | f :: p => ⟨by rw [Ty.enc_eq f]; exact ⟨⟨.refl _, rfl⟩, trivial⟩, LeR.tys p⟩
theorem only_one {H : Heap} {r : Nat} {o : HObj} (h : H.get r = some o) : H.only (fun d => d = r) = one r o := by
 apply Heap.ext
 intro b
 by_cases hb : b = r
 ·subst hb; rw [Heap.xxf (S := fun d => d = b) rfl, yyh]; exact h
 ·rw [Heap.only_none (S := fun d => d = r) hb, get_one_ne _ hb]
section
variable {P : Program} {F : Ids}
theorem run_typeT (L : Lib P F) {K : Env → Heap → Prop} {xs : List XOper} {E : Env} {H : Heap} {l : Lds} {f : Fps} {i : Nat} {args : List XArg} {d : Option Nat} (r : Nat) (bs : List UInt8) (hb : bs.length ≤ 2000) (dn : Nat) (dp : Int) (hd : dp ≤ dn + 1) (hd' : dn + 1 ≤ 100) (hdp : -10 ≤ dp) (p : Int) (hp : 0 ≤ p) (hp' : p + tcost (dn + 1) ≤ 2 ^ 50)
 (hr : H.get r = some (RdO bs p)) (ha : args.map (XArg.ev E) = [.ptr r 0, I dp])
 (h : ∀ p' X t H1 fp, p ≤ p' → p' ≤ p + tcost (dn + 1) → H1.get r = some (RdO bs p') → AppSt H1 1 (Ty.encs t.kids) X → Ty.le (dn + 1) t → t.kids.length ≤ 2 → (∀ c, H.get c ≠ none → c ≠ r → H1.get c = H.get c) → rrun P false K xs (E.put d (.agg [X])) H1 l ((i, fp) :: f)) :
 rrun P false K (⟨i, d, none, .eff (.call F.s_l71Type args), []⟩ :: xs) E H l f := by
 have hc := c_l71TypeT L r bs hb dn dp hd hd' hdp p hp hp'
 rw [← only_one hr] at hc
 refine run_callS (fun d => d = r) hc ha (.refl _) (by simp) trivial ?_
 rintro q H' H1 ⟨p', X, t, h1, h2, rfl, h3, h4, h5, h6, h7⟩ hsub hafter hnew -
 refine h p' X t H1 _ h1 h2 (hsub _ _ h3) ?_ h5 h7 (fun c hc hn => hafter.out c hn hc)
 rcases h4 with h | ⟨b, n, m, rfl, hb⟩
 ·exact .inl h
 ·exact .inr ⟨b, n, m, rfl, hsub _ _ hb⟩
theorem c_l71Deep (L : Lib P F) (r : Nat) (bs : List UInt8) (hbs : bs.length ≤ 2000) (p : Int) (hp : 0 ≤ p) (hp2 : p + 40 ≤ 2 ^ 50) :
 ACalls P F.s_l71Deep [.ptr r 0] (one r (RdO bs p)) (RdR r bs p 40 fun q => ∃ t : Ty, q = .agg t.enc ∧ t.lo) := by
 refine L.s_l71Deep (by simp [x_s_l71Deep]) ?_
 simp only [x_s_l71Deep, go_sem, rE, rA]
 intro b2 hb2
 have hr2 : r ≠ b2 := by rintro rfl; rw [yyh] at hb2; simp at hb2
 have gr : ((one r (RdO bs p)).set b2 (.cells [NIL])).get r = some (RdO bs p) := by rw [Heap.zza _ _ hr2, yyh]
 have g2 : ((one r (RdO bs p)).set b2 (.cells [NIL])).get b2 = some (.cells [NIL]) := Heap.zzb _ _ _
 generalize ((one r (RdO bs p)).set b2 (.cells [NIL])) = H0 at *
 clear hb2
 refine yyg (c_pick' L r bs p 4 hbs hp (by omega)) (rfl) gr (by simp) trivial ?_
 rintro q p1 hp1 hp1' ⟨k0, rfl, hk00, hk01⟩
 have g2 : (H0.set r (RdO bs p1)).get b2 = _ := (Heap.zza _ _ (Ne.symm hr2)).trans g2
 have gr : (H0.set r (RdO bs p1)).get r = _ := Heap.zzb _ _ _
 generalize H0.set r (RdO bs p1) = H1 at *
 have w1 := yya (n := 1 + k0) (by omega) (by omega)
 simp only [go_sem, rE, rA, w1]
 refine run_typeT L r bs hbs 3 (1 + k0) (by omega) (by omega) (by omega) p1 (by omega) (by simp [tcost]; omega) gr (rfl) ?_
 intro p2 X t H2 fp2 hp2 hp2' gr2 hX ht htk keep
 simp only [tcost] at hp2'
 have g2 : H2.get b2 = _ := (keep b2 (by rw [g2]; simp) (Ne.symm hr2)).trans g2
 simp only [go_sem, rE, rA]
 intro b3 hb3
 have hr3 := zzj gr2 hb3
 have d23 := zzj g2 hb3
 have hx1 := hX.one
 have gr : (H2.set b3 (.cells [X])).get r = _ := (Heap.zza _ _ hr3).trans gr2
 have g2 : (H2.set b3 (.cells [X])).get b2 = _ := (Heap.zza _ _ d23).trans g2
 have g3 : (H2.set b3 (.cells [X])).get b3 = _ := Heap.zzb _ _ _
 have hX := hX.new hb3 (.cells [X])
 generalize H2.set b3 (.cells [X]) = H3 at *
 clear gr2 keep hb3
 refine yyg (c_pick' L r bs p2 12 hbs (by omega) (by omega)) (rfl) gr (by simp) trivial ?_
 rintro q p3 hp3 hp3' ⟨k1, rfl, hk10, hk11⟩
 have g2 : (H3.set r (RdO bs p3)).get b2 = _ := (Heap.zza _ _ (Ne.symm hr2)).trans g2
 have g3 : (H3.set r (RdO bs p3)).get b3 = _ := (Heap.zza _ _ (Ne.symm hr3)).trans g3
 have hX : AppSt (H3.set r (RdO bs p3)) 1 (Ty.encs t.kids) X := hX.keepF fun d hd => Heap.zza _ _ (by rintro rfl; obtain ⟨n, m, h⟩ := hX.mem hd; rw [gr] at h; simp [RdO] at h)
 have gr : (H3.set r (RdO bs p3)).get r = _ := Heap.zzb _ _ _
 generalize H3.set r (RdO bs p3) = H4 at *
 have fin : ∀ (E : Env) (H : Heap) (Y : AC) (t : Ty) (p' : Int), H.get r = some (RdO bs p') → H.get b2 = some (.cells [NIL]) → H.get b3 = some (.cells [Y]) → Le Y (.sl 1 none (Ty.encs t.kids)) → t.lo → p ≤ p' → p' ≤ p + 40 → E 2 = .ptr b2 0 → E 3 = .ptr b3 0 →
  XCode.wp P (.seq (rg [ld 0 30 (some 1) 3, ⟨1, none, none, .eff (.store 1 2 30), []⟩]) .ret) (XFunc.post [.cell 2 (some 1)] (RdR r bs p 40 fun q => ∃ t : Ty, q = .agg t.enc ∧ t.lo)) E H := by
  intro E H Y t p' gr g2 g3 hY ht h1 h2 e2 e3
  simp only [go_sem, rE, rA, e2, e3, g2, g3, rL]
  exact yym (q' := .agg t.enc) (off := 0) (e2) (Heap.zzb _ _ _) rfl (by rw [Ty.enc_eq t]; exact .agg ⟨⟨hY, rfl⟩, trivial⟩) (one_sub (by rw [Heap.zza _ _ hr2]; exact gr)) ⟨p', h1, h2, rfl, t, rfl, ht⟩
 generalize ((.seq (rg [ld 0 30 (some 1) 3, ⟨1, none, none, .eff (.store 1 2 30), []⟩]) .ret) : XCode) = RF at fin ⊢
 by_cases hk0 : k1 = 0
 ·simp only [hk0, go_sem, rE, rA, Int.reduceBEq]
  let J : Nat → Env → Heap → Prop := fun k E H => ∃ (Y : AC) (t : Ty), H.get r = some (RdO bs p3) ∧ H.get b2 = some (.cells [NIL]) ∧ H.get b3 = some (.cells [Y]) ∧ Le Y (.sl 1 none (Ty.encs t.kids)) ∧ Y.cells? = some [Y] ∧ t.le (4 + k) ∧ E 0 = .ptr r 0 ∧ E 2 = .ptr b2 0 ∧ E 3 = .ptr b3 0 ∧ E 4 = I k
  refine yyc 5 J ⟨X, t, gr, g2, g3, hX.le, hx1, ht, rfl, rfl, rfl, rfl⟩ ?_
  clear gr g2 g3 hX
  rintro k E H hk ⟨Y, t, gr, g2, g3, hY, hY1, ht, e0, e2, e3, e4⟩
  simp only [wp_seq, go_sem, rE, rA, e4]
  refine zzn (fun hlt => ?_) (fun hge => ?_)
  ·have w2 := yya (n := (k : Int) + 1) (by omega) (by omega)
   simp only [go_sem, rE, rA, e3, g3, hY1, List.replicate, List.flatten_cons, List.flatten_nil, rL, chunk]
   intro b5 hb5
   have hr5 := zzj gr hb5
   have d25 := zzj g2 hb5
   have d35 := zzj g3 hb5
   simp only [go_sem, rE, rA, e3, e4, g3, d35, w2, rL]
   refine ⟨by omega, _, Heap.zzm _, _, .mk [t, .mk []], by rw [Heap.zza _ _ hr3, Heap.zza _ _ hr5]; exact gr, by rw [Heap.zza _ _ d23, Heap.zza _ _ d25]; exact g2, Heap.zzb _ _ _, ?_, rfl, ?_, e0, e2, e3, rfl⟩
   ·simp only [Ty.kids, Ty.encs, Ty.enc_eq t, Ty.enc]
    exact .slR ⟨⟨⟨hY, rfl⟩, trivial⟩, ⟨⟨.nil 1, rfl⟩, trivial⟩, trivial⟩
   ·show Ty.le ((4 + k) + 1) _
    simp only [Ty.le, List.length_cons, List.length_nil, List.mem_cons, List.not_mem_nil, or_false, forall_eq_or_imp, forall_eq]
    exact ⟨by omega, ht, Ty.le_nil _⟩
  ·simp only [go_sem, rE, rA]
   exact fin _ _ Y t p3 gr g2 g3 hY ⟨4 + k, by omega, ht⟩ (by omega) (by omega) (e2) (e3)
 have hk0' : (k1 == 0) = false := by simpa using hk0
 by_cases hk1 : k1 = 1
 ·have hk1' : (k1 == 1) = true := by simpa using hk1
  simp only [hk0', hk1', go_sem, rE, rA, g3, List.replicate, List.flatten_cons, List.flatten_nil, rL, chunk]
  refine run_appM2 (es := Ty.encs t.kids) (ys := [[NIL]]) (by simp only [go_sem, rE]; exact hX) (rfl) (by simp) (by rw [Ty.zzk]; simp; omega) ?_
  intro x' Hc fpc hx' _ keep new
  simp only [go_sem, rE] at keep new
  have hx1' := hx'.one
  have in1 : ∀ {d cs}, H4.get d = some (.cells cs) → Hc.get d = some (.cells cs) := fun {d cs} hd => by
   rw [keep d (by rw [hd]; simp) fun ht => by obtain ⟨n, m, h⟩ := hX.mem ht; rw [hd] at h; simp at h]; exact hd
  have g2 := in1 g2
  have g3 := in1 g3
  have gr := in1 gr
  simp only [go_sem, rE, rA, g3, hx1', rL]
  refine fin _ _ x' (.mk (t.kids ++ [.mk []])) p3 ((Heap.zza _ _ hr3).trans gr) ((Heap.zza _ _ d23).trans g2) (Heap.zzb _ _ _) ?_ ⟨4, by omega, ?_⟩ (by omega) (by omega) (rfl) (rfl)
  ·refine hx'.le.trans ?_
   simp only [Ty.kids, Ty.zzk, List.map_append, List.map_cons, List.map_nil, Ty.enc]
   exact .slR (LeR.snoc (LeR.tys t.kids) ⟨⟨.nil 1, rfl⟩, trivial⟩)
  ·obtain ⟨ks⟩ := t
   simp only [Ty.kids] at htk ⊢
   simp only [Ty.le, List.length_append, List.length_cons, List.length_nil] at ht ⊢
   refine ⟨by omega, fun k hk => ?_⟩
   rcases List.mem_append.1 hk with h | h
   ·exact ht.2 k h
   ·simp at h; subst h; exact Ty.le_nil _
 ·have hk1' : (k1 == 1) = false := by simpa using hk1
  simp only [hk0', hk1', go_sem, rE, rA]
  exact fin _ _ X t p3 gr g2 g3 hX.le ⟨4, by omega, ht⟩ (by omega) (by omega) (rfl) (rfl)
end
end Go.Xl
namespace Go.Xl
open Nat renaming reduceEqDiff → rE, reduceAdd → rA, reduceLeDiff → rL
def FZ (b c sz : Nat) (rows : List (List AC)) (x y : AC) : Prop := x = y ∨ (x = .lit (.slice (some ⟨b, 0, none⟩) rows.length c) ∧ y = .sl sz none rows)
def FZL (b c sz : Nat) (rows : List (List AC)) : List AC → List AC → Prop
 | [], [] => True
 | x :: xs, y :: ys => FZ b c sz rows x y ∧ FZL b c sz rows xs ys
 | _, _ => False
theorem FZ.refl (b c sz : Nat) (rows : List (List AC)) (x : AC) : FZ b c sz rows x x := .inl rfl
theorem FZL.refl (b c sz : Nat) (rows : List (List AC)) : ∀ xs, FZL b c sz rows xs xs
 | [] => trivial
 | x :: xs => ⟨.inl rfl, FZL.refl b c sz rows xs⟩
theorem FZL.length {b c sz : Nat} {rows : List (List AC)} : ∀ {xs ys}, FZL b c sz rows xs ys → xs.length = ys.length
 | [], [], _ => rfl
 | x :: xs, y :: ys, h => by simp [FZL.length h.2]
theorem FZL.get {b c sz : Nat} {rows : List (List AC)} : ∀ {xs ys}, FZL b c sz rows xs ys → ∀ (j : Nat) {y}, ys[j]? = some y → ∃ x, xs[j]? = some x ∧ FZ b c sz rows x y
 | [], [], _, j, y, hy => by simp at hy
 | x :: xs, y :: ys, h, 0, z, hz => by simp at hz; subst hz; exact ⟨x, by simp, h.1⟩
 | x :: xs, y :: ys, h, j + 1, z, hz => by simpa using FZL.get h.2 j (by simpa using hz)
theorem FZL.append {b c sz : Nat} {rows : List (List AC)} : ∀ {xs ys us vs}, FZL b c sz rows xs ys → FZL b c sz rows us vs → FZL b c sz rows (xs ++ us) (ys ++ vs)
 | [], [], _, _, _, h => h
 | x :: xs, y :: ys, _, _, h, h' => ⟨h.1, FZL.append h.2 h'⟩
structure Frozen (H H' : Heap) (b c sz : Nat) (rows : List (List AC)) : Prop where
 gone : H'.get b = none
 keep : ∀ d o', H'.get d = some o' → H.get d = some o' ∨ ∃ xs ys, H.get d = some (.cells xs) ∧ o' = .cells ys ∧ FZL b c sz rows xs ys
theorem flat_at {sz : Nat} : ∀ {rows : List (List AC)}, (∀ e ∈ rows, e.length = sz) → ∀ {i j : Nat} {e : List AC} {x : AC}, rows[i]? = some e → e[j]? = some x → rows.flatten[i * sz + j]? = some x
 | [], _, i, j, e, x, h, _ => by simp at h
 | r :: rows, hs, 0, j, e, x, h, hx => by
   simp at h; subst h
   have := hs r (by simp)
   have hj : j < r.length := by
    rcases Nat.lt_or_ge j r.length with h | h
    ·exact h
    ·rw [List.getElem?_eq_none h] at hx; simp at hx
   simp only [List.flatten_cons, Nat.zero_mul, Nat.zero_add]
   rw [List.getElem?_append_left hj]; exact hx
 | r :: rows, hs, i + 1, j, e, x, h, hx => by
   have hr := hs r (by simp)
   simp only [List.flatten_cons]
   rw [List.getElem?_append_right (by rw [hr, Nat.succ_mul]; omega), hr, Nat.succ_mul]
   have : i * sz + sz + j - sz = i * sz + j := by omega
   rw [this]
   exact flat_at (fun e he => hs e (by simp [he])) (by simpa using h) hx
theorem told_freeze {H H' : Heap} {b c sz : Nat} {cs : List AC} {rows : List (List AC)} (hb : H.get b = some (.cells cs)) (hrows : cs.take (rows.length * sz) = rows.flatten) (hsz : ∀ e ∈ rows, e.length = sz) (hc : rows.length ≤ c) (hlim : rows.length ≤ LIM)
 (fr : Frozen H H' b c sz rows) {xs ys : List AC} (hxy : FZL b c sz rows xs ys) : Told (.agg xs) H (.agg ys) H' := by
 intro M w v s r
 obtain ⟨vs, el, hw, hone, hlen, hrep, hM⟩ := s.obj b _ hb
 let M' : FMem := fun d o => if d = b then (if o < rows.length * sz then vs[o]? else none) else M d o
 have hle : M.le M' := by
  intro d o u hu
  by_cases hd : d = b
  ·subst hd; rw [hM] at hu; simp at hu
  ·simp only [M', if_neg hd]; exact hu
 have hcs : ∀ {i j e x}, rows[i]? = some e → e[j]? = some x → ∃ u, vs[i * sz + j]? = some u ∧ i * sz + j < rows.length * sz ∧ Rep M x u ∧ x.one = true := by
  intro i j e x he hx
  have h1 := flat_at hsz he hx
  rw [← hrows, List.getElem?_take] at h1
  split at h1
  ·rename_i hlt
   obtain ⟨hl, h2⟩ := List.getElem?_eq_some_iff.1 h1
   have hl2 : i * sz + j < vs.size := hlen ▸ hl
   exact ⟨vs[i * sz + j], by simp [hl2], hlt, hrep _ _ _ h1 (by simp [hl2]), hone _ (List.mem_of_getElem? h1)⟩
  ·simp at h1
 have key : Rep M' (.sl sz none rows) (.slice (some ⟨b, 0, none⟩) rows.length c) := by
  refine .sl (fun i j => vs.getD (i * sz + j) undef) hlim hc (fun e he => ⟨hsz e he, fun x hx => ?_⟩) (fun i j e x he hx => ?_) (fun i j e x he hx => ?_) (fun t ht => by simp at ht)
  ·obtain ⟨i, hi⟩ := List.getElem?_of_mem he
   obtain ⟨j, hj⟩ := List.getElem?_of_mem hx
   obtain ⟨u, -, -, -, h⟩ := hcs hi hj
   exact h
  ·obtain ⟨u, h1, h2, -⟩ := hcs he hx
   simp only [M', if_true, Nat.zero_add, if_pos h2, h1]
   simp only [Array.getD_eq_getD_getElem?, h1, Option.getD_some]
  ·obtain ⟨u, h1, h2, h3, -⟩ := hcs he hx
   simp only [Array.getD_eq_getD_getElem?, h1, Option.getD_some]
   exact h3.mono hle
 have rep : ∀ {x y u}, FZ b c sz rows x y → Rep M x u → Rep M' y u := by
  intro x y u h hr
  rcases h with rfl | ⟨rfl, rfl⟩
  ·exact hr.mono hle
  ·obtain ⟨rfl, -⟩ := hr.yyn
   exact key
 have one : ∀ {x y}, FZ b c sz rows x y → x.one = true → y.one = true := by
  intro x y h hx
  rcases h with rfl | ⟨rfl, rfl⟩
  ·exact hx
  ·rfl
 have hne : ∀ d o', H'.get d = some o' → d ≠ b := fun d o' hd e => by subst e; rw [fr.gone] at hd; simp at hd
 have hMd : ∀ d, d ≠ b → ∀ o, M' d o = M d o := fun d hd o => by simp only [M', if_neg hd]
 refine ⟨M', ⟨fun d o u hu => ?_, fun d o' hd => ?_⟩, ⟨hle, Nat.le_refl _, fun d _ hd => ⟨rfl, hMd d (by rintro rfl; rw [hb] at hd; simp at hd)⟩, fun d hd => ?_, rfl, rfl⟩, ?_⟩
 ·by_cases hd : d = b
  ·subst hd
   simp only [M', if_true] at hu
   split at hu
   ·rw [cell?_mk, hw]; exact hu
   ·simp at hu
  ·rw [hMd d hd] at hu; exact s.mem d o u hu
 ·have hdb := hne d o' hd
  rcases fr.keep d o' hd with h | ⟨xs, ys, h, rfl, hz⟩
  ·have := s.obj d o' h
   cases o' with
   | cells zs =>
     obtain ⟨us, el', q1, q2, q3, q4, q5⟩ := this
     exact ⟨us, el', q1, q2, q3, fun j x v hx hv => (q4 j x v hx hv).mono hle, fun o => by rw [hMd d hdb]; exact q5 o⟩
   | tail n m =>
     obtain ⟨us, el', q1, q2, q3, q4⟩ := this
     exact ⟨us, el', q1, q2, q3, fun o ho => by rw [hMd d hdb]; exact q4 o ho⟩
   | typed ty zs =>
     obtain ⟨us, q1, q3, q4, q5⟩ := this
     exact ⟨us, q1, q3, fun j x v hx hv => (q4 j x v hx hv).mono hle, fun o => by rw [hMd d hdb]; exact q5 o⟩
  ·obtain ⟨us, el', q1, q2, q3, q4, q5⟩ := s.obj d _ h
   refine ⟨us, el', q1, fun y hy => ?_, hz.length ▸ q3, fun j y v hy hv => ?_, fun o => by rw [hMd d hdb]; exact q5 o⟩
   ·obtain ⟨j, hj⟩ := List.getElem?_of_mem hy
    obtain ⟨x, hx, hf⟩ := hz.get j hj
    exact one hf (q2 x (List.mem_of_getElem? hx))
   ·obtain ⟨x, hx, hf⟩ := hz.get j hy
    exact rep hf (q4 j x v hx hv)
 ·left
  obtain ⟨o', ho⟩ := Option.ne_none_iff_exists'.1 hd
  rcases fr.keep d o' ho with h | ⟨xs, ys, h, -⟩ <;> rw [h] <;> simp
 ·cases r with
  | agg h1 h2 h3 =>
    refine .agg (fun y hy => ?_) (hxy.length ▸ h2) (fun j y u hy hu => ?_)
    ·obtain ⟨j, hj⟩ := List.getElem?_of_mem hy
     obtain ⟨x, hx, hf⟩ := hxy.get j hj
     exact one hf (h1 x (List.mem_of_getElem? hx))
    ·obtain ⟨x, hx, hf⟩ := hxy.get j hy
     exact rep hf (h3 j x u hx hu)
end Go.Xl
namespace Go.Xl
open Nat renaming reduceEqDiff → rE, reduceAdd → rA, reduceLeDiff → rL
theorem splice_flat {sz : Nat} (us d : List AC) (hu : us.length = sz) : ∀ (rows : List (List AC)) (k : Nat), (∀ e ∈ rows, e.length = sz) → k < rows.length →
 (rows.flatten ++ d).take (k * sz) ++ us ++ (rows.flatten ++ d).drop (k * sz + us.length) = (rows.set k us).flatten ++ d
 | [], k, _, h => by simp at h
 | e :: rows, 0, hs, _ => by
   have he := hs e (by simp)
   simp only [List.flatten_cons, Nat.zero_mul, List.take_zero, List.nil_append, Nat.zero_add, List.set_cons_zero, List.append_assoc]
   rw [hu, ← he, List.drop_left]
 | e :: rows, k + 1, hs, h => by
   have he := hs e (by simp)
   have ih := splice_flat us d hu rows k (fun e he => hs e (by simp [he])) (by simpa using h)
   have e1 : (k + 1) * sz = e.length + k * sz := by rw [Nat.succ_mul, he, Nat.add_comm]
   simp only [List.flatten_cons, List.set_cons_succ, List.append_assoc]
   rw [e1, Nat.add_assoc, List.take_length_add_append, List.drop_length_add_append, List.append_assoc, ← List.append_assoc (List.take _ _), ih]
theorem splice_rows {sz : Nat} {rows : List (List AC)} {us cs : List AC} {k : Nat} (hs : ∀ e ∈ rows, e.length = sz) (hu : us.length = sz) (hk : k < rows.length) (h : cs.take (rows.length * sz) = rows.flatten) :
 (yyi cs (k * sz) us).take ((rows.set k us).length * sz) = (rows.set k us).flatten := by
 have hl : (rows.set k us).flatten.length = (rows.set k us).length * sz := xxg fun e he => by
  rcases List.mem_or_eq_of_mem_set he with h | h
  ·exact hs e h
  ·rw [h]; exact hu
 have hcs : cs = rows.flatten ++ cs.drop (rows.length * sz) := by rw [← h, List.take_append_drop]
 have := splice_flat us (cs.drop (rows.length * sz)) hu rows k hs hk
 rw [← hcs] at this
 unfold yyi
 rw [this, ← hl, List.take_left]
theorem fu_cells (f : Fu) : f.enc = [S f.name, .sl 3 none (f.params.map Pa.enc), B f.lent, .sl 1 none (Ty.encs f.type.kids), .sl 15 none (f.body.map St.enc), I f.says.kind, I f.says.num, S f.says.place.name, zze f.says.place.path, .sl 5 none (Ex.encs f.says.kids), S f.gives.name, zze f.gives.path] := by
 rw [Fu.enc, Ty.enc_eq, Ex.enc_eq, St.zzk]; rfl
structure Fu.lo (f : Fu) : Prop where
 pars : f.params.length ≤ 5
 ptys : ∀ x ∈ f.params, x.type.lo
 ty : f.type.lo
 blen : f.body.length ≤ 7
 bcnt : ∀ s ∈ f.body, s.cnt ≤ 1000
 bsm : ∀ s ∈ f.body, s.sm 3
 says : f.says.sm
theorem Ty.wf.lo {t : Ty} (h : t.wf) : t.lo := by
 obtain ⟨D, h1, h2⟩ := h
 exact ⟨D, by omega, h2⟩
theorem Fu.good.lo {f : Fu} (h : f.good) : f.lo :=
 ⟨by have := h.pars; omega, fun x hx => (h.okS.params x hx).type.lo, h.okS.type.lo, by have := h.blen; omega, fun s hs => by have := cnt_mem hs; have := h.body; omega, h.sms, h.says⟩
def FuAt (H : Heap) (ex : Nat → Prop) (c6 : List AC) (f : Fu) : Prop := c6.length = 12 ∧ (LeC c6 f.enc ∨
 ∃ (b c : Nat) (cs : List AC) (rows : List (List AC)) (c6' : List AC), H.get b = some (.cells cs) ∧ cs.take (rows.length * 15) = rows.flatten ∧ (∀ e ∈ rows, e.length = 15) ∧ rows.length ≤ c ∧ rows.length ≤ LIM ∧ FZL b c 15 rows c6 c6' ∧ LeC c6' f.enc ∧ ¬ ex b)
theorem LeR.set : ∀ {xs ys : List (List AC)} (k : Nat) {x y : List AC}, LeR xs ys → LeC x y → LeR (xs.set k x) (ys.set k y)
 | [], [], _, _, _, _, _ => trivial
 | a :: xs, b :: ys, 0, _, _, h, h' => ⟨h', h.2⟩
 | a :: xs, b :: ys, k + 1, _, _, h, h' => ⟨h.1, LeR.set k h.2 h'⟩
theorem FZL.splice {b c sz : Nat} {rows : List (List AC)} {u u' : List AC} (h : FZL b c sz rows u u') (cs : List AC) (o : Nat) : FZL b c sz rows (yyi cs o u) (yyi cs o u') := by
 unfold yyi
 rw [h.length]
 exact ((FZL.refl _ _ _ _ _).append h).append (FZL.refl _ _ _ _ _)
theorem post_cell_told {E : Env} {H : Heap} {n r off : Nat} {g : Option Nat} {cs : List AC} {q q' : AC} {R : AC → Heap → Prop} (hE : E n = .ptr r off) (hg : H.get r = some (.cells cs)) (hq : partA g cs off = some q)
 {H' : Heap} (ht : Told q H q' H') (h : R q' H') : XFunc.post [.cell n g] R .ret E H :=
 ⟨q, by simp only [resVal, resVals, XRes.val, hE, hg, hq], q', H', ht, h⟩
section
variable {P : Program} {F : Ids}
def BendR (r : Nat) (bs : List UInt8) (p c : Int) : AC → Heap → Prop := RdR r bs p c fun q => ∃ pr : Pg, q = .agg (Pg.enc pr) ∧ (∀ f ∈ pr, f.lo) ∧ 1 ≤ pr.length ∧ pr.length ≤ 5
theorem bend_end (L : Lib P F) (r : Nat) (bs : List UInt8) (p c : Int) (E : Env) (H : Heap) (p' : Int) (pr : Pg) (k : Nat) (hk : k < pr.length) (hpl : pr.length ≤ 5) (hpr : ∀ f ∈ pr, f.lo) (X : AC) (c6 : List AC) (f : Fu) (hf : f.lo) (b3 b4 b6 : Nat)
 (gr : H.get r = some (RdO bs p')) (g3 : H.get b3 = some (.cells [X])) (g4 : H.get b4 = some (.cells [NIL])) (g6 : H.get b6 = some (.cells c6)) (hX : ∀ H', elemsH H' 12 X = some (pr.map Fu.enc)) (hf6 : FuAt H (fun d => d = r ∨ d = b3 ∨ d = b4 ∨ d = b6) c6 f)
 (hr3 : r ≠ b3) (hr4 : r ≠ b4) (d34 : b3 ≠ b4) (d36 : b3 ≠ b6) (d46 : b4 ≠ b6) (hr6 : r ≠ b6) (e3 : E 3 = .ptr b3 0) (e4 : E 4 = .ptr b4 0) (e5 : E 5 = I k) (e6 : E 6 = .ptr b6 0) (h1 : p ≤ p') (h2 : p' ≤ p + c) :
 XCode.wp P (.seq (.region false [⟨0, some 185, none, .eff (.buildSlice 12 0 [.string (bl []), .slice none 0 0, .bool false, .slice none 0 0, .slice none 0 0, .int .i64 0, .int .i64 0, .string (bl []), .slice none 0 0, .slice none 0 0, .string (bl []), .slice none 0 0] []), []⟩, pu 1 186 (.fieldAddr 0 (sl 3)), ld 2 187 none (sl 186), ⟨3, some 188, none, .eff (.appendM 12 216 (sl 185) (sl 187)), []⟩, pu 4 189 (.fieldAddr 0 (sl 3)), ⟨5, none, none, .eff (.store 1 (sl 189) (sl 188)), []⟩]) (.seq (.region false [pu 0 190 (.fieldAddr 0 (sl 3)), ld 1 191 none (sl 190), mv 2 192 (sl 5), ld 3 193 (some 12) (sl 6), pu 4 194 (.indexAddr 12 (sl 191) (sl 192)), ⟨5, none, none, .eff (.store 12 (sl 194) (sl 193)), []⟩]) (.seq (.region false [ld 0 195 (some 1) (sl 3), ⟨1, none, none, .eff (.store 1 (sl 4) (sl 195)), []⟩]) .ret))) (XFunc.post [.cell 4 (some 1)] (BendR r bs p c)) E H := by
 obtain ⟨hlen6, hf6⟩ := hf6
 simp only [go_sem, rE, rA, e3, List.replicate, List.flatten_cons, List.flatten_nil, chunk]
 intro b0 hb0
 have hr0 := zzj gr hb0
 have d30 := zzj g3 hb0
 have d40 := zzj g4 hb0
 have d60 := zzj g6 hb0
 simp only [go_sem, rE, rA, e3, d30, g3, rL]
 have hsz : ∀ e ∈ pr.map Fu.enc, e.length = 12 := fun e he => by obtain ⟨g, -, rfl⟩ := List.mem_map.1 he; exact fu_len g
 refine run_appC (b := b0) (ys := pr.map Fu.enc) (rfl) (Heap.zzb _ _ _) (by simp only [go_sem, rE]; exact hX _) hsz (by simp; omega) trivial ?_
 intro x' H1 fp1 hR _ keep new
 rcases hR with ⟨h0, -⟩ | ⟨pp, pc, cs, rfl, gp, hcl, hcc, hct⟩
 ·have : pr = [] := by simpa using h0
  rw [this] at hk; simp at hk
 have in1 : ∀ {d o}, H.get d = some o → H1.get d = some o ∧ d ≠ pp := by
  intro d o hd
  have hd0 := zzj hd hb0
  refine ⟨by rw [keep d (by rw [Heap.zza _ _ hd0, hd]; simp) hd0, Heap.zza _ _ hd0]; exact hd, ?_⟩
  rintro rfl
  rcases new d ⟨_, _, rfl⟩ with h | h
  ·exact hd0 h
  ·rw [Heap.zza _ _ hd0, hd] at h; simp at h
 obtain ⟨gr, dpr⟩ := in1 gr
 obtain ⟨g3, dp3⟩ := in1 g3
 obtain ⟨g4, dp4⟩ := in1 g4
 obtain ⟨g6, dp6⟩ := in1 g6
 have hlim : pr.length ≤ LIM := by simp only [LIM]; omega
 have hkl : (k : Int) < pr.length := by omega
 have hko : k * 12 + 12 ≤ cs.length := by
  rw [List.length_map] at hcc
  have : (k + 1) * 12 ≤ pc * 12 := Nat.mul_le_mul_right _ (by omega)
  omega
 simp only [List.length_map] at hct hcc ⊢
 simp only [go_sem, rE, rA, e3, e4, e5, e6, g3, g4, g6, d36, Ne.symm d36, d34, Ne.symm d34, d46, dp3, Ne.symm dp3, dp4, Ne.symm dp4, dp6, Ne.symm dp6, gp, hlim, hkl, hlen6, hko, Nat.le_refl, List.take_of_length_le, rL]
 have hspl : ∀ u : List AC, u.length = 12 → cs.take (k * 12) ++ u ++ cs.drop (k * 12 + 12) = yyi cs (k * 12) u := fun u hu => by rw [yyi, hu]
 rw [hspl c6 hlen6]
 have hlenR : ∀ u, ((pr.map Fu.enc).set k u).length = pr.length := fun u => by simp
 have hszR : ∀ u : List AC, u.length = 12 → ∀ e ∈ (pr.map Fu.enc).set k u, e.length = 12 := fun u hu e he => by
  rcases List.mem_or_eq_of_mem_set he with h | h
  ·exact hsz e h
  ·rw [h]; exact hu
 have hrow : ∀ u : List AC, u.length = 12 → (yyi cs (k * 12) u).take (((pr.map Fu.enc).set k u).length * 12) = ((pr.map Fu.enc).set k u).flatten := fun u hu =>
  splice_rows hsz hu (by simp; exact hk) (by simpa using hct)
 have hlo : ∀ g ∈ pr.set k f, g.lo := fun g hg => by
  rcases List.mem_or_eq_of_mem_set hg with h | h
  ·exact hpr g h
  ·rw [h]; exact hf
 have hR : ∀ {q}, q = .agg (Pg.enc (pr.set k f)) → BendR r bs p c q (one r (RdO bs p')) := fun hq => ⟨p', h1, h2, rfl, pr.set k f, hq, hlo, by simp; omega, by simp; omega⟩
 have last : ∀ (G : Heap) (u : List AC), u.length = 12 → LeC u f.enc → G.get pp = some (.cells (yyi cs (k * 12) u)) → G.get r = some (RdO bs p') → Told (.agg [.lit (.slice (some ⟨pp, 0, none⟩) pr.length pc)]) G (.agg (Pg.enc (pr.set k f))) (one r (RdO bs p')) := by
  intro G u hu hle gp gr
  have fr : Frozen G (one r (RdO bs p')) pp pc 12 ((pr.map Fu.enc).set k u) := ⟨get_one_ne _ (Ne.symm dpr), fun d o' hd => .inl (one_sub gr d o' hd)⟩
  refine (told_freeze gp (hrow u hu) (hszR u hu) (by rw [hlenR]; exact hcc) (by rw [hlenR]; exact hlim) fr (xs := [.lit (.slice (some ⟨pp, 0, none⟩) pr.length pc)]) (ys := [.sl 12 none ((pr.map Fu.enc).set k u)]) ⟨.inr ⟨by rw [hlenR], rfl⟩, trivial⟩).trans_le ?_
  refine .agg ⟨⟨.slR ?_, rfl⟩, trivial⟩
  rw [List.map_set]
  exact (LeR.fus pr).set k hle
 refine post_cell_told (off := 0) (e4) (Heap.zzb _ _ _) rfl ?_ (hR rfl)
 have gpE : (((H1.set b3 (.cells [.lit (.slice (some ⟨pp, 0, none⟩) pr.length pc)])).set pp (.cells (yyi cs (k * 12) c6))).set b4 (.cells [.lit (.slice (some ⟨pp, 0, none⟩) pr.length pc)])).get pp = some (.cells (yyi cs (k * 12) c6)) := by
  rw [Heap.zza _ _ (Ne.symm dp4), Heap.zzb]
 have grE : (((H1.set b3 (.cells [.lit (.slice (some ⟨pp, 0, none⟩) pr.length pc)])).set pp (.cells (yyi cs (k * 12) c6))).set b4 (.cells [.lit (.slice (some ⟨pp, 0, none⟩) pr.length pc)])).get r = some (RdO bs p') := by
  rw [Heap.zza _ _ hr4, Heap.zza _ _ dpr, Heap.zza _ _ hr3]; exact gr
 rcases hf6 with hle | ⟨bb, bc, bcs, rows, c6', gb, hb1, hb2, hb3, hb4, hfz, hle, hex⟩
 ·exact last _ c6 hlen6 hle gpE grE
 ·obtain ⟨gb, dpb⟩ := in1 gb
  have n3 : bb ≠ b3 := fun h => hex (.inr (.inl h))
  have n4 : bb ≠ b4 := fun h => hex (.inr (.inr (.inl h)))
  have nr : bb ≠ r := fun h => hex (.inl h)
  have gbE : (((H1.set b3 (.cells [.lit (.slice (some ⟨pp, 0, none⟩) pr.length pc)])).set pp (.cells (yyi cs (k * 12) c6))).set b4 (.cells [.lit (.slice (some ⟨pp, 0, none⟩) pr.length pc)])).get bb = some (.cells bcs) := by
   rw [Heap.zza _ _ n4, Heap.zza _ _ dpb, Heap.zza _ _ n3]; exact gb
  have hlen6' : c6'.length = 12 := hfz.length ▸ hlen6
  let G : Heap := (one r (RdO bs p')).set pp (.cells (yyi cs (k * 12) c6'))
  have fr : Frozen (((H1.set b3 (.cells [.lit (.slice (some ⟨pp, 0, none⟩) pr.length pc)])).set pp (.cells (yyi cs (k * 12) c6))).set b4 (.cells [.lit (.slice (some ⟨pp, 0, none⟩) pr.length pc)])) G bb bc 15 rows := by
   refine ⟨by simp only [G]; rw [Heap.zza _ _ dpb, get_one_ne _ nr], fun d o' hd => ?_⟩
   simp only [G] at hd
   by_cases hdp : d = pp
   ·subst hdp
    rw [Heap.zzb] at hd
    simp at hd; subst hd
    exact .inr ⟨_, _, gpE, rfl, hfz.splice _ _⟩
   ·rw [Heap.zza _ _ hdp] at hd
    exact .inl (one_sub grE d o' hd)
  refine (told_freeze gbE hb1 hb2 hb3 hb4 fr (xs := [.lit (.slice (some ⟨pp, 0, none⟩) pr.length pc)]) (ys := [.lit (.slice (some ⟨pp, 0, none⟩) pr.length pc)]) (FZL.refl _ _ _ _ _)).trans (last G c6' hlen6' hle (Heap.zzb _ _ _) ?_)
  simp only [G]; rw [Heap.zza _ _ dpr, yyh]
end
end Go.Xl
namespace Go.Xl
open Nat renaming reduceEqDiff → rE, reduceAdd → rA, reduceLeDiff → rL
structure BAt (H : Heap) (r : Nat) (bs : List UInt8) (p : Int) (b3 b4 b6 : Nat) (c3 c6 : List AC) : Prop where
 gr : H.get r = some (RdO bs p)
 g3 : H.get b3 = some (.cells c3)
 g4 : H.get b4 = some (.cells [NIL])
 g6 : H.get b6 = some (.cells c6)
 hr3 : r ≠ b3
 hr4 : r ≠ b4
 hr6 : r ≠ b6
 d34 : b3 ≠ b4
 d36 : b3 ≠ b6
 d46 : b4 ≠ b6
section
variable {H H' : Heap} {r : Nat} {bs : List UInt8} {p : Int} {b3 b4 b6 : Nat} {c3 c6 : List AC}
theorem BAt.draw (h : BAt H r bs p b3 b4 b6 c3 c6) (p' : Int) : BAt (H.set r (RdO bs p')) r bs p' b3 b4 b6 c3 c6 :=
 ⟨Heap.zzb _ _ _, (Heap.zza _ _ (Ne.symm h.hr3)).trans h.g3, (Heap.zza _ _ (Ne.symm h.hr4)).trans h.g4, (Heap.zza _ _ (Ne.symm h.hr6)).trans h.g6, h.hr3, h.hr4, h.hr6, h.d34, h.d36, h.d46⟩
theorem BAt.put (h : BAt H r bs p b3 b4 b6 c3 c6) (c : List AC) : BAt (H.set b6 (.cells c)) r bs p b3 b4 b6 c3 c :=
 ⟨(Heap.zza _ _ h.hr6).trans h.gr, (Heap.zza _ _ h.d36).trans h.g3, (Heap.zza _ _ h.d46).trans h.g4, Heap.zzb _ _ _, h.hr3, h.hr4, h.hr6, h.d34, h.d36, h.d46⟩
theorem BAt.put3 (h : BAt H r bs p b3 b4 b6 c3 c6) (c : List AC) : BAt (H.set b3 (.cells c)) r bs p b3 b4 b6 c c6 :=
 ⟨(Heap.zza _ _ h.hr3).trans h.gr, Heap.zzb _ _ _, (Heap.zza _ _ (Ne.symm h.d34)).trans h.g4, (Heap.zza _ _ (Ne.symm h.d36)).trans h.g6, h.hr3, h.hr4, h.hr6, h.d34, h.d36, h.d46⟩
theorem BAt.keep (h : BAt H r bs p b3 b4 b6 c3 c6) (hk : ∀ d cs, H.get d = some (.cells cs) → H'.get d = some (.cells cs)) : BAt H' r bs p b3 b4 b6 c3 c6 :=
 ⟨hk _ _ h.gr, hk _ _ h.g3, hk _ _ h.g4, hk _ _ h.g6, h.hr3, h.hr4, h.hr6, h.d34, h.d36, h.d46⟩
theorem BAt.new (h : BAt H r bs p b3 b4 b6 c3 c6) {b : Nat} (hb : H.get b = none) (o : HObj) : BAt (H.set b o) r bs p b3 b4 b6 c3 c6 :=
 h.keep fun d cs hd => by rw [Heap.zza _ _ (zzj hd hb)]; exact hd
end
theorem keep_of {H H' : Heap} {b n m : Nat} (g : H.get b = some (.tail n m)) (keep : ∀ c, H.get c ≠ none → c ≠ b → H'.get c = H.get c) : ∀ d cs, H.get d = some (.cells cs) → H'.get d = some (.cells cs) :=
 fun d cs hd => by rw [keep d (by rw [hd]; simp) (by rintro rfl; rw [g] at hd; simp at hd)]; exact hd
theorem st_rows (l : List St) : ∀ e ∈ l.map St.enc, e.length = 15 := fun e he => by obtain ⟨s, -, rfl⟩ := List.mem_map.1 he; exact st_len s
theorem st_one (s : St) : ∀ x ∈ s.enc, x.one = true := by
 rw [St.enc_eq]; simp [AC.one, zze]
theorem LeR.sts : ∀ p : List St, LeR (p.map St.enc) (p.map St.enc)
 | [] => trivial
 | f :: p => ⟨.refl (st_one f), LeR.sts p⟩
theorem pa_len (s : Pa) : s.enc.length = 3 := by
 rw [Pa.enc, Ty.enc_eq]; rfl
theorem row_at {sz : Nat} {rows : List (List AC)} {cs : List AC} (hs : ∀ e ∈ rows, e.length = sz) (h : cs.take (rows.length * sz) = rows.flatten) {k : Nat} (hk : k < rows.length) : (cs.drop (k * sz)).take sz = rows[k] := by
 have hl := hs _ (List.getElem_mem hk)
 apply List.ext_getElem?
 intro j
 rw [List.getElem?_take]
 split
 ·rename_i hj
  rw [List.getElem?_drop]
  exact RowAt.cell hs h hk hj
 ·rename_i hj
  rw [List.getElem?_eq_none (by omega)]
theorem leFu' (f' : Fu) {X T Bd s1 s2 s3 s4 s5 g1 g2 : AC} (hX : Le X (.sl 3 none (f'.params.map Pa.enc))) (hT : Le T (.sl 1 none (Ty.encs f'.type.kids))) (hB : Le Bd (.sl 15 none (f'.body.map St.enc))) (hs : LeC [s1, s2, s3, s4, s5] f'.says.enc) (hg : LeC [g1, g2] f'.gives.enc) :
 LeC [S f'.name, X, B f'.lent, T, Bd, s1, s2, s3, s4, s5, g1, g2] f'.enc := leFu f' hX hT (by rw [St.zzk]; exact hB) hs hg
section
variable {P : Program} {F : Ids}
theorem bend_swap (L : Lib P F) (r : Nat) (bs : List UInt8) (hbs : bs.length ≤ 2000) (p2 : Int) (hp : 0 ≤ p2) (hp2 : p2 + 1 ≤ 2 ^ 50) (f : Fu) (hlo : f.lo) (hbl : f.body.length ≤ 6) (b3 b4 b6 : Nat) (c3 : List AC) (H3 : Heap)
 (hB : BAt H3 r bs p2 b3 b4 b6 c3 [S f.name, .sl 3 none (f.params.map Pa.enc), B f.lent, .sl 1 none (Ty.encs f.type.kids), .sl 15 none (f.body.map St.enc), I f.says.kind, I f.says.num, S f.says.place.name, zze f.says.place.path, .sl 5 none (Ex.encs f.says.kids), S f.gives.name, zze f.gives.path])
 (K : XExit → Env → Heap → Prop) (E : Env) (e0 : E 0 = .ptr r 0) (e6 : E 6 = .ptr b6 0)
 (jn8 : ∀ (E' : Env) (H : Heap) (p' : Int) (c6 : List AC) (f' : Fu), f'.lo → BAt H r bs p' b3 b4 b6 c3 c6 → FuAt H (fun d => d = r ∨ d = b3 ∨ d = b4 ∨ d = b6) c6 f' → (∀ i, (i = 0 ∨ i = 3 ∨ i = 4 ∨ i = 5 ∨ i = 6) → E' i = E i) → p2 ≤ p' → p' ≤ p2 + 1 → K .normal E' H) :
 XCode.wp P (kd30 F) K E H3 := by
 rw [kd30]
 have g6 := hB.g6
 have lesays : LeC [I f.says.kind, I f.says.num, S f.says.place.name, zze f.says.place.path, .sl 5 none (Ex.encs f.says.kids)] f.says.enc := by rw [Ex.enc_eq]; exact ⟨⟨.refl _, rfl⟩, ⟨.refl _, rfl⟩, ⟨.refl _, rfl⟩, ⟨.refl _, rfl⟩, ⟨.refl _, rfl⟩, trivial⟩
 have legives : LeC [S f.gives.name, zze f.gives.path] f.gives.enc := ⟨⟨.refl _, rfl⟩, ⟨.refl _, rfl⟩, trivial⟩
 simp only [go_sem, rE, rA, Int.reduceBEq, List.replicate, List.flatten_cons, List.flatten_nil, rL, chunk, e0, e6, g6, List.length_map]
 by_cases hb : (1 : Int) < f.body.length
 ·have w0 := yya (n := (f.body.length : Int) - 1) (by omega) (by omega)
  simp only [hb, decide_true, go_sem, rE, rA, Int.reduceBEq, List.replicate, List.flatten_cons, List.flatten_nil, rL, chunk, e0, e6, g6, List.length_map, w0]
  refine yyg (c_pick' L r bs p2 (f.body.length - 1) hbs (by omega) (by omega)) (rfl) hB.gr (by simp) trivial ?_
  rintro q p3 hp3 hp3' ⟨n0, rfl, hn0, hn1⟩
  have hB1 := hB.draw p3
  generalize H3.set r (RdO bs p3) = H4 at *
  obtain ⟨n, rfl⟩ : ∃ n : Nat, n0 = (n : Int) := ⟨n0.toNat, by omega⟩
  have hnl : n + 1 < f.body.length := by omega
  simp only [go_sem, rE, rA, Int.reduceBEq, List.replicate, List.flatten_cons, List.flatten_nil, rL, chunk, e0, e6]
  intro b58 hb58
  have hB2 := hB1.new hb58 (.tail 0 0)
  have g58 : (H4.set b58 (.tail 0 0)).get b58 = _ := Heap.zzb _ _ _
  have g6 := hB2.g6
  generalize H4.set b58 (.tail 0 0) = H5 at *
  simp only [go_sem, rE, rA, Int.reduceBEq, List.replicate, List.flatten_cons, List.flatten_nil, rL, chunk, e0, e6, g6]
  refine run_appC (b := b58) (ys := f.body.map St.enc) (rfl) g58 (rfl) (st_rows _) (by simp; omega) trivial ?_
  intro x' H6 fp6 hR _ keep new
  rcases hR with ⟨h0, -⟩ | ⟨bb, bc, cs, rfl, gb, hcl, hcc, hct⟩
  ·have : f.body = [] := by simpa using h0
   rw [this] at hnl; simp at hnl
  have hB3 := hB2.keep (keep_of g58 keep)
  have hex : ∀ d o, H5.get d = some (.cells o) → d ≠ bb := by
   intro d o hd e
   subst e
   rcases new _ ⟨_, _, rfl⟩ with h | h
   ·subst h; rw [g58] at hd; simp at hd
   ·rw [hd] at h; simp at h
  have hb6 := hex _ _ hB2.g6
  have hb3 := hex _ _ hB2.g3
  have hb4 := hex _ _ hB2.g4
  have hbr := hex _ _ hB2.gr
  have g6 := hB3.g6
  simp only [List.length_map] at hcc hct
  have hlim : f.body.length ≤ LIM := by simp only [LIM]; omega
  have hni : (n : Int) < f.body.length := by omega
  have hni1 : (n : Int) + 1 < f.body.length := by omega
  have w1 := yya (n := (n : Int) + 1) (by omega) (by omega)
  have hn1' : (0 : Int) ≤ n + 1 := by omega
  have hnt : ((n : Int) + 1).toNat = n + 1 := by omega
  have hmul : (n + 2) * 15 ≤ bc * 15 := Nat.mul_le_mul_right _ (by omega)
  have hof0 : n * 15 + 15 ≤ cs.length := by omega
  have hof1 : (n + 1) * 15 + 15 ≤ cs.length := by omega
  have row : ∀ j (hj : j < f.body.length), (cs.drop (j * 15)).take 15 = f.body[j].enc := fun j hj => by
   have := row_at (st_rows f.body) (by simpa using hct) (k := j) (by simpa using hj)
   simpa using this
  have r0 := row n (by omega)
  have r1 := row (n + 1) hnl
  obtain ⟨c0, hc0, C0'⟩ := stC f.body[n]
  obtain ⟨c1, hc1, C1'⟩ := stC f.body[n + 1]
  rw [hc0] at r0
  rw [hc1] at r1
  simp only [go_sem, rE, rA, Int.reduceBEq, List.replicate, List.flatten_cons, List.flatten_nil, rL, chunk, e0, e6, g6, List.length_map, hb6, Ne.symm hb6, gb, hlim, hni, hof0, r0, C0'.len, C0'.all]
  have hB4 := hB3.put [S f.name, .sl 3 none (f.params.map Pa.enc), B f.lent, .sl 1 none (Ty.encs f.type.kids), .lit (.slice (some ⟨bb, 0, none⟩) f.body.length bc), I f.says.kind, I f.says.num, S f.says.place.name, zze f.says.place.path, .sl 5 none (Ex.encs f.says.kids), S f.gives.name, zze f.gives.path]
  have gb : (H6.set b6 (.cells [S f.name, .sl 3 none (f.params.map Pa.enc), B f.lent, .sl 1 none (Ty.encs f.type.kids), .lit (.slice (some ⟨bb, 0, none⟩) f.body.length bc), I f.says.kind, I f.says.num, S f.says.place.name, zze f.says.place.path, .sl 5 none (Ex.encs f.says.kids), S f.gives.name, zze f.gives.path])).get bb = _ := (Heap.zza _ _ (Ne.symm hb6)).trans gb
  generalize (H6.set b6 (.cells [S f.name, .sl 3 none (f.params.map Pa.enc), B f.lent, .sl 1 none (Ty.encs f.type.kids), .lit (.slice (some ⟨bb, 0, none⟩) f.body.length bc), I f.says.kind, I f.says.num, S f.says.place.name, zze f.says.place.path, .sl 5 none (Ex.encs f.says.kids), S f.gives.name, zze f.gives.path])) = H7 at *
  intro b9 hb9
  have hB5 := hB4.new hb9 (.cells c0)
  have db9 := zzj gb hb9
  have gb : (H7.set b9 (.cells c0)).get bb = _ := (Heap.zza _ _ db9).trans gb
  have g9 : (H7.set b9 (.cells c0)).get b9 = _ := Heap.zzb _ _ _
  have g6 := hB5.g6
  generalize H7.set b9 (.cells c0) = H8 at *
  simp only [go_sem, rE, rA, Int.reduceBEq, List.replicate, List.flatten_cons, List.flatten_nil, rL, chunk, e0, e6, g6, gb, w1, hn1', hnt, hlim, hni, hni1, hof0, hof1, r1, C1'.len, C1'.all]
  have hs0 : cs.take (n * 15) ++ c1 ++ cs.drop (n * 15 + 15) = yyi cs (n * 15) c1 := by rw [yyi, C1'.len]
  rw [hs0]
  have hl1 : (yyi cs (n * 15) c1).length = cs.length := splice_length _ _ _ (by rw [C1'.len]; exact hof0)
  have hrow1 := splice_rows (st_rows f.body) (us := c1) C1'.len (k := n) (by simp; omega) (by simpa using hct)
  generalize yyi cs (n * 15) c1 = cs1 at *
  have hB6 : BAt (H8.set bb (.cells (cs1))) r bs p3 b3 b4 b6 _ _ := ⟨(Heap.zza _ _ hbr).trans hB5.gr, (Heap.zza _ _ hb3).trans hB5.g3, (Heap.zza _ _ hb4).trans hB5.g4, (Heap.zza _ _ hb6).trans hB5.g6, hB.hr3, hB.hr4, hB.hr6, hB.d34, hB.d36, hB.d46⟩
  have gb1 : (H8.set bb (.cells (cs1))).get bb = _ := Heap.zzb _ _ _
  have g9 : (H8.set bb (.cells (cs1))).get b9 = _ := (Heap.zza _ _ (Ne.symm db9)).trans g9
  have g6 := hB6.g6
  generalize H8.set bb (.cells (cs1)) = H9 at *
  rw [← hl1] at hof1
  simp only [go_sem, rE, rA, Int.reduceBEq, List.replicate, List.flatten_cons, List.flatten_nil, rL, chunk, e0, e6, g6, gb1, g9, w1, hn1', hnt, hlim, hni, hni1, hof1, C0'.len, C0'.all]
  have hs1 : cs1.take ((n + 1) * 15) ++ c0 ++ cs1.drop ((n + 1) * 15 + 15) = yyi cs1 ((n + 1) * 15) c0 := by rw [yyi, C0'.len]
  rw [hs1]
  have hsz1 : ∀ e ∈ (f.body.map St.enc).set n c1, e.length = 15 := fun e he => by
   rcases List.mem_or_eq_of_mem_set he with h | h
   ·exact st_rows _ e h
   ·rw [h]; exact C1'.len
  have hrow2 := splice_rows hsz1 (us := c0) C0'.len (k := n + 1) (by simp; omega) hrow1
  have hmap : ((f.body.map St.enc).set n c1).set (n + 1) c0 = ((f.body.set n f.body[n + 1]).set (n + 1) f.body[n]).map St.enc := by rw [List.map_set, List.map_set, hc0, hc1]
  rw [hmap] at hrow2
  have hmem : ∀ s ∈ (f.body.set n f.body[n + 1]).set (n + 1) f.body[n], s ∈ f.body := fun s hs => by
   rcases List.mem_or_eq_of_mem_set hs with h | h
   ·rcases List.mem_or_eq_of_mem_set h with h | h
    ·exact h
    ·rw [h]; exact List.getElem_mem _
   ·rw [h]; exact List.getElem_mem _
  have hB7 : BAt (H9.set bb (.cells (yyi cs1 ((n + 1) * 15) c0))) r bs p3 b3 b4 b6 _ _ := ⟨(Heap.zza _ _ hbr).trans hB6.gr, (Heap.zza _ _ hb3).trans hB6.g3, (Heap.zza _ _ hb4).trans hB6.g4, (Heap.zza _ _ hb6).trans hB6.g6, hB.hr3, hB.hr4, hB.hr6, hB.d34, hB.d36, hB.d46⟩
  refine jn8 _ _ p3 _ { f with body := (f.body.set n f.body[n + 1]).set (n + 1) f.body[n] } ⟨hlo.pars, hlo.ptys, hlo.ty, by simp; omega, fun s hs => hlo.bcnt s (hmem s hs), fun s hs => hlo.bsm s (hmem s hs), hlo.says⟩ hB7 ⟨rfl, .inr ⟨bb, bc, _, ((f.body.set n f.body[n + 1]).set (n + 1) f.body[n]).map St.enc, [S f.name, .sl 3 none (f.params.map Pa.enc), B f.lent, .sl 1 none (Ty.encs f.type.kids), .sl 15 none (((f.body.set n f.body[n + 1]).set (n + 1) f.body[n]).map St.enc), I f.says.kind, I f.says.num, S f.says.place.name, zze f.says.place.path, .sl 5 none (Ex.encs f.says.kids), S f.gives.name, zze f.gives.path],
   Heap.zzb _ _ _, hrow2, st_rows _, by simp; omega, by simp; exact hlim, ⟨.inl rfl, .inl rfl, .inl rfl, .inl rfl, .inr ⟨by simp, rfl⟩, .inl rfl, .inl rfl, .inl rfl, .inl rfl, .inl rfl, .inl rfl, .inl rfl, trivial⟩,
   leFu' { f with body := (f.body.set n f.body[n + 1]).set (n + 1) f.body[n] } (.refl _) (.refl _) (.refl _) lesays legives, ?_⟩⟩ (fun i hi => by rcases hi with rfl | rfl | rfl | rfl | rfl <;> simp only [go_sem, rE]) (by omega) (by omega)
  rintro (h | h | h | h)
  ·exact hbr h.symm
  ·exact hb3 h.symm
  ·exact hb4 h.symm
  ·exact hb6 h.symm
 ·simp only [hb, decide_false, go_sem, rE, rA, Int.reduceBEq, List.replicate, List.flatten_cons, List.flatten_nil, rL, chunk, e0, e6]
  exact jn8 _ _ p2 _ f hlo hB ⟨rfl, .inl (leFu' f (.refl _) (.refl _) (.refl _) lesays legives)⟩ (fun i hi => by rcases hi with rfl | rfl | rfl | rfl | rfl <;> simp only [go_sem, rE]) (by omega) (by omega)
theorem c_l71Bend (L : Lib P F) (r : Nat) (bs : List UInt8) (hbs : bs.length ≤ 2000) (pr : Pg) (hpr : ∀ f ∈ pr, f.good) (hl1 : 1 ≤ pr.length) (hl2 : pr.length ≤ 4) (p : Int) (hp : 0 ≤ p) (hp2 : p + 200 ≤ 2 ^ 50) :
 ACalls P F.s_l71Bend [.ptr r 0, .agg (Pg.enc pr)] (one r (RdO bs p)) (BendR r bs p 200) := by
 refine L.s_l71Bend (by simp [x_s_l71Bend]) ?_
 simp only [x_s_l71Bend, go_sem, rE, rA, Pg.enc]
 intro b3 hb3 b4 hb4
 have hr3 : r ≠ b3 := by rintro rfl; rw [yyh] at hb3; simp at hb3
 have d34 : b3 ≠ b4 := new_ne hb4
 have hr4 : r ≠ b4 := by rintro rfl; rw [Heap.zza _ _ hr3, yyh] at hb4; simp at hb4
 have gr : (((one r (RdO bs p)).set b3 (.cells [.sl 12 none (pr.map Fu.enc)])).set b4 (.cells [NIL])).get r = some (RdO bs p) := by rw [Heap.zza _ _ hr4, Heap.zza _ _ hr3, yyh]
 have g3 : (((one r (RdO bs p)).set b3 (.cells [.sl 12 none (pr.map Fu.enc)])).set b4 (.cells [NIL])).get b3 = some (.cells [.sl 12 none (pr.map Fu.enc)]) := by rw [Heap.zza _ _ d34, Heap.zzb]
 have g4 : (((one r (RdO bs p)).set b3 (.cells [.sl 12 none (pr.map Fu.enc)])).set b4 (.cells [NIL])).get b4 = some (.cells [NIL]) := Heap.zzb _ _ _
 generalize (((one r (RdO bs p)).set b3 (.cells [.sl 12 none (pr.map Fu.enc)])).set b4 (.cells [NIL])) = H0 at *
 clear hb3 hb4
 simp only [go_sem, rE, rA, g3, List.length_map]
 refine yyg (c_pick' L r bs p pr.length hbs hp (by omega)) (rfl) gr (by simp) trivial ?_
 rintro q p1 hp1 hp1' ⟨k, rfl, hk0, hk1⟩
 have g3 : (H0.set r (RdO bs p1)).get b3 = _ := (Heap.zza _ _ (Ne.symm hr3)).trans g3
 have g4 : (H0.set r (RdO bs p1)).get b4 = _ := (Heap.zza _ _ (Ne.symm hr4)).trans g4
 have gr : (H0.set r (RdO bs p1)).get r = _ := Heap.zzb _ _ _
 generalize H0.set r (RdO bs p1) = H1 at *
 have hkl : k.toNat < pr.length := by omega
 obtain ⟨f, hf⟩ : ∃ f, f = pr[k.toNat] := ⟨_, rfl⟩
 have hgood : f.good := hf ▸ hpr _ (List.getElem_mem hkl)
 have hget : (pr.map Fu.enc)[k.toNat]? = some [S f.name, .sl 3 none (f.params.map Pa.enc), B f.lent, .sl 1 none (Ty.encs f.type.kids), .sl 15 none (f.body.map St.enc), I f.says.kind, I f.says.num, S f.says.place.name, zze f.says.place.path, .sl 5 none (Ex.encs f.says.kids), S f.gives.name, zze f.gives.path] := by
  rw [← fu_cells, hf]; simp [hkl]
 simp only [go_sem, rE, rA, g3, hk0, hget, rL]
 intro b6 hb6
 have hr6 := zzj gr hb6
 have d36 := zzj g3 hb6
 have d46 := zzj g4 hb6
 let C : ByteArray → AC → Bool → AC → AC → AC → AC → AC → AC → AC → AC → AC → List AC := fun nm X ln T Bd s1 s2 s3 s4 s5 g1 g2 => [S nm, X, B ln, T, Bd, s1, s2, s3, s4, s5, g1, g2]
 let C0 : List AC := [S f.name, .sl 3 none (f.params.map Pa.enc), B f.lent, .sl 1 none (Ty.encs f.type.kids), .sl 15 none (f.body.map St.enc), I f.says.kind, I f.says.num, S f.says.place.name, zze f.says.place.path, .sl 5 none (Ex.encs f.says.kids), S f.gives.name, zze f.gives.path]
 have gr : (H1.set b6 (.cells C0)).get r = _ := (Heap.zza _ _ hr6).trans gr
 have g3 : (H1.set b6 (.cells C0)).get b3 = _ := (Heap.zza _ _ d36).trans g3
 have g4 : (H1.set b6 (.cells C0)).get b4 = _ := (Heap.zza _ _ d46).trans g4
 have g6 : (H1.set b6 (.cells C0)).get b6 = some (.cells C0) := Heap.zzb _ _ _
 simp only [C0] at gr g3 g4 g6
 generalize (H1.set b6 (.cells [S f.name, .sl 3 none (f.params.map Pa.enc), B f.lent, .sl 1 none (Ty.encs f.type.kids), .sl 15 none (f.body.map St.enc), I f.says.kind, I f.says.num, S f.says.place.name, zze f.says.place.path, .sl 5 none (Ex.encs f.says.kids), S f.gives.name, zze f.gives.path])) = H2 at *
 clear hb6
 refine yyg (c_pick' L r bs p1 12 hbs (by omega) (by omega)) (rfl) gr (by simp) trivial ?_
 rintro q p2 hp2' hp2'' ⟨k2, rfl, hk20, hk21⟩
 have hB : BAt (H2.set r (RdO bs p2)) r bs p2 b3 b4 b6 _ _ := (BAt.mk gr g3 g4 g6 hr3 hr4 hr6 d34 d36 d46).draw p2
 generalize H2.set r (RdO bs p2) = H3 at *
 clear gr g3 g4 g6
 have hlo := hgood.lo
 have hbl := hgood.blen
 have hplo : ∀ g ∈ pr, g.lo := fun g hg => (hpr g hg).lo
 have jn : ∀ (E : Env) (H : Heap) (p' : Int) (c6 : List AC) (f' : Fu), f'.lo → BAt H r bs p' b3 b4 b6 [.sl 12 none (pr.map Fu.enc)] c6 → LeC c6 f'.enc →
  E 3 = .ptr b3 0 → E 4 = .ptr b4 0 → E 5 = I k → E 6 = .ptr b6 0 → p ≤ p' → p' ≤ p + 200 → XCode.wp P (.seq (rg [⟨0, some 185, none, .eff (.buildSlice 12 0 [.string (bl []), .slice none 0 0, .bool false, .slice none 0 0, .slice none 0 0, .int .i64 0, .int .i64 0, .string (bl []), .slice none 0 0, .slice none 0 0, .string (bl []), .slice none 0 0] []), []⟩, fa 1 186 0 3, ld 2 187 none 186, ⟨3, some 188, none, .eff (.appendM 12 216 185 187), []⟩, fa 4 189 0 3, ⟨5, none, none, .eff (.store 1 189 188), []⟩]) (.seq (rg [fa 0 190 0 3, ld 1 191 none 190, mv 2 192 5, ld 3 193 (some 12) 6, ia 4 194 12 191 192, ⟨5, none, none, .eff (.store 12 194 193), []⟩]) (.seq (rg [ld 0 195 (some 1) 3, ⟨1, none, none, .eff (.store 1 4 195), []⟩]) .ret))) (XFunc.post [.cell 4 (some 1)] (BendR r bs p 200)) E H := by
  intro E H p' c6 f' hf' h hle e3 e4 e5 e6 h1 h2
  exact bend_end L r bs p 200 E H p' pr k.toNat hkl (by omega) hplo _ c6 f' hf' b3 b4 b6 h.gr h.g3 h.g4 h.g6 (fun H' => rfl) ⟨by rw [hle.length, fu_len], .inl hle⟩ h.hr3 h.hr4 h.d34 h.d36 h.d46 h.hr6 e3 e4 (by rw [e5]; congr 2; omega) e6 h1 h2
 have jn8 : ∀ (E : Env) (H : Heap) (p' : Int) (c6 : List AC) (f' : Fu), f'.lo → BAt H r bs p' b3 b4 b6 [.sl 12 none (pr.map Fu.enc)] c6 → FuAt H (fun d => d = r ∨ d = b3 ∨ d = b4 ∨ d = b6) c6 f' →
  E 3 = .ptr b3 0 → E 4 = .ptr b4 0 → E 5 = I k → E 6 = .ptr b6 0 → p ≤ p' → p' ≤ p + 200 → XCode.wp P (.seq (rg [⟨0, some 185, none, .eff (.buildSlice 12 0 [.string (bl []), .slice none 0 0, .bool false, .slice none 0 0, .slice none 0 0, .int .i64 0, .int .i64 0, .string (bl []), .slice none 0 0, .slice none 0 0, .string (bl []), .slice none 0 0] []), []⟩, fa 1 186 0 3, ld 2 187 none 186, ⟨3, some 188, none, .eff (.appendM 12 216 185 187), []⟩, fa 4 189 0 3, ⟨5, none, none, .eff (.store 1 189 188), []⟩]) (.seq (rg [fa 0 190 0 3, ld 1 191 none 190, mv 2 192 5, ld 3 193 (some 12) 6, ia 4 194 12 191 192, ⟨5, none, none, .eff (.store 12 194 193), []⟩]) (.seq (rg [ld 0 195 (some 1) 3, ⟨1, none, none, .eff (.store 1 4 195), []⟩]) .ret))) (XFunc.post [.cell 4 (some 1)] (BendR r bs p 200)) E H := by
  intro E H p' c6 f' hf' h hle e3 e4 e5 e6 h1 h2
  exact bend_end L r bs p 200 E H p' pr k.toNat hkl (by omega) hplo _ c6 f' hf' b3 b4 b6 h.gr h.g3 h.g4 h.g6 (fun H' => rfl) hle h.hr3 h.hr4 h.d34 h.d36 h.d46 h.hr6 e3 e4 (by rw [e5]; congr 2; omega) e6 h1 h2
 have jn11 : ∀ (E : Env) (H : Heap) (tok : Option (Nat × Nat × Nat)) (pr' : Pg), k.toNat < pr'.length → pr'.length ≤ 5 → (∀ g ∈ pr', g.lo) → BAt H r bs p2 b3 b4 b6 [.sl 12 tok (pr'.map Fu.enc)] f.enc →
  E 3 = .ptr b3 0 → E 4 = .ptr b4 0 → E 5 = I k → E 6 = .ptr b6 0 → XCode.wp P (kd29 F) (XFunc.post [.cell 4 (some 1)] (BendR r bs p 200)) E H := by
  intro E H tok pr' h1 h2 h3 h e3 e4 e5 e6
  rw [kd29]
  exact bend_end L r bs p 200 E H p2 pr' k.toNat h1 h2 h3 _ f.enc f hlo b3 b4 b6 h.gr h.g3 h.g4 h.g6 (fun H' => rfl) ⟨fu_len f, .inl (.refl (fu_one f))⟩ h.hr3 h.hr4 h.d34 h.d36 h.d46 h.hr6 e3 e4 (by rw [e5]; congr 2; omega) e6 (by omega) (by omega)
 have lesays : LeC [I f.says.kind, I f.says.num, S f.says.place.name, zze f.says.place.path, .sl 5 none (Ex.encs f.says.kids)] f.says.enc := by rw [Ex.enc_eq]; exact ⟨⟨.refl _, rfl⟩, ⟨.refl _, rfl⟩, ⟨.refl _, rfl⟩, ⟨.refl _, rfl⟩, ⟨.refl _, rfl⟩, trivial⟩
 have legives : LeC [S f.gives.name, zze f.gives.path] f.gives.enc := ⟨⟨.refl _, rfl⟩, ⟨.refl _, rfl⟩, trivial⟩
 have g3 := hB.g3
 have g6 := hB.g6
 have sw := fun K E e0 e6 => bend_swap (F := F) L r bs hbs p2 (by omega) (by omega) f hlo hbl b3 b4 b6 _ H3 hB K E e0 e6
 have hk : k2 = 0 ∨ k2 = 1 ∨ k2 = 2 ∨ k2 = 3 ∨ k2 = 4 ∨ k2 = 5 ∨ k2 = 6 ∨ k2 = 7 ∨ k2 = 8 ∨ k2 = 9 ∨ k2 = 10 ∨ k2 = 11 := by omega
 rcases hk with rfl | rfl | rfl | rfl | rfl | rfl | rfl | rfl | rfl | rfl | rfl | rfl
 all_goals simp only [go_sem, rE, rA, Int.reduceBEq, List.replicate, List.flatten_cons, List.flatten_nil, rL, chunk, g3, g6, List.length_map]
 ·
  intro b0 hb0
  have hB1 := hB.new hb0 (.tail 5 5)
  generalize H3.set b0 (.tail 5 5) = H4 at *
  refine yyg (as := [.ptr r 0, .sl 1 (some (b0, 5, 5)) (txtRows [bl [], bl [102, 97], bl [70], bl [116, 111, 111, 108, 111, 110, 103], bl [122, 122]])]) ((c_of L r bs hbs [bl [], bl [102, 97], bl [70], bl [116, 111, 111, 108, 111, 110, 103], bl [122, 122]] (by simp) (by simp) p2 (by omega) (by omega)).args ⟨.refl _, .tok _ _ _, trivial⟩) (rfl) hB1.gr (by simp) trivial ?_
  rintro q p3 hp3 hp3' ⟨s, rfl⟩
  have hB2 := hB1.draw p3
  have g6 := hB2.g6
  generalize H4.set r (RdO bs p3) = H5 at *
  simp only [go_sem, rE, rA, Int.reduceBEq, List.replicate, List.flatten_cons, List.flatten_nil, rL, chunk, g6]
  exact jn _ _ p3 _ { f with name := s } ⟨hlo.pars, hlo.ptys, hlo.ty, hlo.blen, hlo.bcnt, hlo.bsm, hlo.says⟩ (hB2.put _) (leFu' { f with name := s } (.refl _) (.refl _) (.refl _) lesays legives) (by first | rfl | simp only [go_sem, rE]) (by first | rfl | simp only [go_sem, rE]) (by first | rfl | simp only [go_sem, rE]) (by first | rfl | simp only [go_sem, rE]) (by omega) (by omega)
 ·
  refine yyg (c_l71Deep L r bs hbs p2 (by omega) (by omega)) (rfl) hB.gr (by simp) trivial ?_
  rintro q p3 hp3 hp3' ⟨t, rfl, ht⟩
  have hB1 := hB.draw p3
  have g6 := hB1.g6
  generalize H3.set r (RdO bs p3) = H4 at *
  simp only [go_sem, rE, rA, Int.reduceBEq, List.replicate, List.flatten_cons, List.flatten_nil, rL, chunk, Ty.enc_eq t, g6]
  exact jn _ _ p3 _ { f with type := t } ⟨hlo.pars, hlo.ptys, ht, hlo.blen, hlo.bcnt, hlo.bsm, hlo.says⟩ (hB1.put _) (leFu' { f with type := t } (.refl _) (.refl _) (.refl _) lesays legives) (by first | rfl | simp only [go_sem, rE]) (by first | rfl | simp only [go_sem, rE]) (by first | rfl | simp only [go_sem, rE]) (by first | rfl | simp only [go_sem, rE]) (by omega) (by omega)
 ·
  exact jn _ _ p2 _ { f with lent := !f.lent } ⟨hlo.pars, hlo.ptys, hlo.ty, hlo.blen, hlo.bcnt, hlo.bsm, hlo.says⟩ (hB.put _) (leFu' { f with lent := !f.lent } (.refl _) (.refl _) (.refl _) lesays legives) (by first | rfl | simp only [go_sem, rE]) (by first | rfl | simp only [go_sem, rE]) (by first | rfl | simp only [go_sem, rE]) (by first | rfl | simp only [go_sem, rE]) (by omega) (by omega)
 ·
  by_cases hb : (0 : Int) < f.body.length
  ·simp only [hb, decide_true, go_sem, rE, rA, Int.reduceBEq, List.replicate, List.flatten_cons, List.flatten_nil, rL, chunk, g6, List.length_map]
   refine yyg (c_pick' L r bs p2 f.body.length hbs (by omega) (by omega)) (rfl) hB.gr (by simp) trivial ?_
   rintro q p3 hp3 hp3' ⟨n, rfl, hn0, hn1⟩
   have hB1 := hB.draw p3
   have g6 := hB1.g6
   generalize H3.set r (RdO bs p3) = H4 at *
   simp only [go_sem, rE, rA, Int.reduceBEq, List.replicate, List.flatten_cons, List.flatten_nil, rL, chunk, g6]
   intro b58 hb58
   have hB2 := hB1.new hb58 (.tail 0 0)
   have g58 : (H4.set b58 (.tail 0 0)).get b58 = _ := Heap.zzb _ _ _
   have g6 := hB2.g6
   generalize H4.set b58 (.tail 0 0) = H5 at *
   have hnl : n.toNat < f.body.length := by omega
   have w1 := yya (n := n + 1) (by omega) (by omega)
   have hn2 : n ≤ f.body.length := by omega
   have hnl' : n.toNat ≤ f.body.length := by omega
   have hn1' : (0 : Int) ≤ n + 1 := by omega
   have hnt : (n + 1).toNat ≤ f.body.length := by omega
   simp only [go_sem, rE, rA, Int.reduceBEq, List.replicate, List.flatten_cons, List.flatten_nil, rL, chunk, g6, List.length_map, hn0, hn2, hnl', Nat.zero_le]
   refine run_appT (es := []) (ys := (f.body.map St.enc).take n.toNat) (rfl) g58 (rfl) (fun e he => st_rows _ e (List.mem_of_mem_take he)) (by simp; omega) ?_
   intro bt nt mt H6 fp6 gt keep hbt hfb
   have hB3 := hB2.keep (keep_of g58 keep)
   have nf6 : ¬ fp6 b6 := fun h => by have := hfb _ h; rw [g6] at this; simp at this
   have g6 := hB3.g6
   simp only [go_sem, rE, rA, Int.reduceBEq, List.replicate, List.flatten_cons, List.flatten_nil, rL, chunk, g6, List.length_map, w1, hn1', hnt, Nat.le_refl]
   refine ⟨by simp; exact nf6, ?_⟩
   refine run_appT (es := (f.body.map St.enc).take n.toNat) (ys := ((f.body.map St.enc).take f.body.length).drop (n + 1).toNat) (rfl) gt (rfl) (fun e he => st_rows _ e (List.mem_of_mem_take (List.mem_of_mem_drop he))) (by simp; omega) ?_
   intro bt2 nt2 mt2 H7 fp7 gt2 keep2 hbt2 hfb2
   have hB4 := hB3.keep (keep_of gt keep2)
   have g6 := hB4.g6
   simp only [go_sem, rE, rA, Int.reduceBEq, List.replicate, List.flatten_cons, List.flatten_nil, rL, chunk, g6]
   have hmem : ∀ s ∈ f.body.take n.toNat ++ f.body.drop (n + 1).toNat, s ∈ f.body := fun s hs => by
    rcases List.mem_append.1 hs with h | h
    ·exact List.mem_of_mem_take h
    ·exact List.mem_of_mem_drop h
   refine jn _ _ p3 _ { f with body := f.body.take n.toNat ++ f.body.drop (n + 1).toNat } ⟨hlo.pars, hlo.ptys, hlo.ty, by simp; omega, fun s hs => hlo.bcnt s (hmem s hs), fun s hs => hlo.bsm s (hmem s hs), hlo.says⟩ (hB4.put _) (leFu' { f with body := f.body.take n.toNat ++ f.body.drop (n + 1).toNat } (.refl _) (.refl _) ?_ lesays legives) (by first | rfl | simp only [go_sem, rE]) (by first | rfl | simp only [go_sem, rE]) (by first | rfl | simp only [go_sem, rE]) (by first | rfl | simp only [go_sem, rE]) (by omega) (by omega)
   rw [List.map_append, List.map_take, List.map_drop]
   have : (f.body.map St.enc).take f.body.length = f.body.map St.enc := by rw [List.take_of_length_le (by simp)]
   rw [this]
   exact .tok _ _ _
  ·simp only [hb, decide_false, go_sem, rE, rA, Int.reduceBEq, List.replicate, List.flatten_cons, List.flatten_nil, rL, chunk]
   exact jn _ _ p2 _ f hlo hB (leFu' f (.refl _) (.refl _) (.refl _) lesays legives) (by first | rfl | simp only [go_sem, rE]) (by first | rfl | simp only [go_sem, rE]) (by first | rfl | simp only [go_sem, rE]) (by first | rfl | simp only [go_sem, rE]) (by omega) (by omega)
 ·
  by_cases hb : (0 : Int) < f.body.length
  ·simp only [hb, decide_true, go_sem, rE, rA, Int.reduceBEq, List.replicate, List.flatten_cons, List.flatten_nil, rL, chunk, g6, List.length_map]
   intro b58 hb58
   have hB2 := hB.new hb58 (.tail 0 0)
   have g58 : (H3.set b58 (.tail 0 0)).get b58 = _ := Heap.zzb _ _ _
   have g6 := hB2.g6
   generalize H3.set b58 (.tail 0 0) = H5 at *
   simp only [go_sem, rE, rA, Int.reduceBEq, List.replicate, List.flatten_cons, List.flatten_nil, rL, chunk, g6]
   refine run_appT (es := []) (ys := f.body.map St.enc) (rfl) g58 (rfl) (st_rows _) (by simp; omega) ?_
   intro bt nt mt H6 fp6 gt keep hbt hfb
   have hB3 := hB2.keep (keep_of g58 keep)
   have nf6 : ¬ fp6 b6 := fun h => by have := hfb _ h; rw [g6] at this; simp at this
   have g6 := hB3.g6
   simp only [go_sem, rE, rA, Int.reduceBEq, List.replicate, List.flatten_cons, List.flatten_nil, rL, chunk, g6, List.length_map]
   refine ⟨by simp; exact nf6, by simp; exact nf6, ?_⟩
   refine yyg (c_pick' L r bs p2 f.body.length hbs (by omega) (by omega)) (rfl) hB3.gr (fun _ => ⟨by omega, I 0, 0, rfl, by omega, .inr rfl⟩) (by simp [chkE]; exact Ne.symm hr6) ?_
   rintro q p3 hp3 hp3' ⟨m, rfl, hm0, hm1⟩
   have hB4 := hB3.draw p3
   have hnt : bt ≠ r := by rintro rfl; rw [hB3.gr] at gt; simp [RdO] at gt
   have gt : (H6.set r (RdO bs p3)).get bt = _ := (Heap.zza _ _ hnt).trans gt
   generalize H6.set r (RdO bs p3) = H7 at *
   have hml : m.toNat < f.body.length := by omega
   obtain ⟨cs, hcs, Cs⟩ := stC f.body[m.toNat]
   have hgm : (f.body.map St.enc)[m.toNat]? = some cs := by rw [← hcs]; simp [hml]
   simp only [go_sem, rE, rA, Int.reduceBEq, List.replicate, List.flatten_cons, List.flatten_nil, rL, chunk, hm0, hgm, Cs.len, Cs.all]
   refine run_appT (es := f.body.map St.enc) (ys := [cs]) (rfl) gt (rfl) (by simp [Cs.len]) (by simp; omega) ?_
   intro bt2 nt2 mt2 H8 fp8 gt2 keep2 hbt2 hfb2
   have hB5 := hB4.keep (keep_of gt keep2)
   have g6 := hB5.g6
   simp only [go_sem, rE, rA, Int.reduceBEq, List.replicate, List.flatten_cons, List.flatten_nil, rL, chunk, g6]
   have hmem : ∀ s ∈ f.body ++ [f.body[m.toNat]], s ∈ f.body := fun s hs => by
    rcases List.mem_append.1 hs with h | h
    ·exact h
    ·simp at h; rw [h]; exact List.getElem_mem hml
   refine jn _ _ p3 _ { f with body := f.body ++ [f.body[m.toNat]] } ⟨hlo.pars, hlo.ptys, hlo.ty, by simp; omega, fun s hs => hlo.bcnt s (hmem s hs), fun s hs => hlo.bsm s (hmem s hs), hlo.says⟩ (hB5.put _) (leFu' { f with body := f.body ++ [f.body[m.toNat]] } (.refl _) (.refl _) ?_ lesays legives) (by first | rfl | simp only [go_sem, rE]) (by first | rfl | simp only [go_sem, rE]) (by first | rfl | simp only [go_sem, rE]) (by first | rfl | simp only [go_sem, rE]) (by omega) (by omega)
   rw [List.map_append, List.map_cons, List.map_nil, hcs]
   exact .tok _ _ _
  ·simp only [hb, decide_false, go_sem, rE, rA, Int.reduceBEq, List.replicate, List.flatten_cons, List.flatten_nil, rL, chunk]
   exact jn _ _ p2 _ f hlo hB (leFu' f (.refl _) (.refl _) (.refl _) lesays legives) (by first | rfl | simp only [go_sem, rE]) (by first | rfl | simp only [go_sem, rE]) (by first | rfl | simp only [go_sem, rE]) (by first | rfl | simp only [go_sem, rE]) (by omega) (by omega)
 ·
  intro b58 hb58
  have hB2 := hB.new hb58 (.tail 0 0)
  have g58 : (H3.set b58 (.tail 0 0)).get b58 = _ := Heap.zzb _ _ _
  have g6 := hB2.g6
  generalize H3.set b58 (.tail 0 0) = H5 at *
  simp only [go_sem, rE, rA, Int.reduceBEq, List.replicate, List.flatten_cons, List.flatten_nil, rL, chunk, g6]
  refine run_appT (es := []) (ys := f.params.map Pa.enc) (rfl) g58 (rfl) (by simp; intro s _; exact pa_len s) (by have := hgood.pars; simp; omega) ?_
  intro bt nt mt H6 fp6 gt keep hbt hfb
  have hB3 := hB2.keep (keep_of g58 keep)
  simp only [go_sem, rE, rA, Int.reduceBEq, List.replicate, List.flatten_cons, List.flatten_nil, rL, chunk]
  intro b0 hb0
  have d0t := zzj gt hb0
  have hB4 := hB3.new hb0 (.tail 3 3)
  have gt : (H6.set b0 (.tail 3 3)).get bt = _ := (Heap.zza _ _ d0t).trans gt
  generalize H6.set b0 (.tail 3 3) = H7 at *
  refine yyg (as := [.ptr r 0, .sl 1 (some (b0, 3, 3)) (txtRows [bl [112], bl [122], bl [90]])]) ((c_of L r bs hbs [bl [112], bl [122], bl [90]] (by simp) (by simp) p2 (by omega) (by omega)).args ⟨.refl _, .tok _ _ _, trivial⟩) (rfl) hB4.gr (by simp) trivial ?_
  rintro q p3 hp3 hp3' ⟨s, rfl⟩
  have hB5 := hB4.draw p3
  have hnt : bt ≠ r := by rintro rfl; rw [hB4.gr] at gt; simp [RdO] at gt
  have gt : (H7.set r (RdO bs p3)).get bt = _ := (Heap.zza _ _ hnt).trans gt
  generalize H7.set r (RdO bs p3) = H8 at *
  simp only [go_sem, rE, rA, Int.reduceBEq, List.replicate, List.flatten_cons, List.flatten_nil, rL, chunk]
  refine yyg (c_l71Deep L r bs hbs p3 (by omega) (by omega)) (rfl) hB5.gr (by simp) trivial ?_
  rintro q p4 hp4 hp4' ⟨t, rfl, ht⟩
  have hB6 := hB5.draw p4
  have gt : (H8.set r (RdO bs p4)).get bt = _ := (Heap.zza _ _ hnt).trans gt
  generalize H8.set r (RdO bs p4) = H9 at *
  simp only [go_sem, rE, rA, Int.reduceBEq, List.replicate, List.flatten_cons, List.flatten_nil, rL, chunk, Ty.enc_eq t]
  refine run_appT (es := f.params.map Pa.enc) (ys := [[S s, B false, .sl 1 none (Ty.encs t.kids)]]) (rfl) gt (rfl) (by simp) (by have := hgood.pars; simp; omega) ?_
  intro bt2 nt2 mt2 H10 fp10 gt2 keep2 hbt2 hfb2
  have hB7 := hB6.keep (keep_of gt keep2)
  have g6 := hB7.g6
  simp only [go_sem, rE, rA, Int.reduceBEq, List.replicate, List.flatten_cons, List.flatten_nil, rL, chunk, g6]
  refine jn _ _ p4 _ { f with params := f.params ++ [⟨s, false, t⟩] } ⟨by have := hgood.pars; simp; omega, fun x hx => ?_, hlo.ty, hlo.blen, hlo.bcnt, hlo.bsm, hlo.says⟩ (hB7.put _) (leFu' { f with params := f.params ++ [⟨s, false, t⟩] } ?_ (.refl _) (.refl _) lesays legives) (by first | rfl | simp only [go_sem, rE]) (by first | rfl | simp only [go_sem, rE]) (by first | rfl | simp only [go_sem, rE]) (by first | rfl | simp only [go_sem, rE]) (by omega) (by omega)
  ·rcases List.mem_append.1 hx with h | h
   ·exact hlo.ptys x h
   ·simp at h; subst h; exact ht
  ·rw [List.map_append, List.map_cons, List.map_nil, Pa.enc, Ty.enc_eq t]
   exact .tok _ _ _
 ·
  intro b0 hb0
  have hB4 := hB.new hb0 (.tail 3 3)
  generalize H3.set b0 (.tail 3 3) = H7 at *
  refine yyg (as := [.ptr r 0, .sl 1 (some (b0, 3, 3)) (txtRows [bl [112], bl [113], bl [122, 122]])]) ((c_of L r bs hbs [bl [112], bl [113], bl [122, 122]] (by simp) (by simp) p2 (by omega) (by omega)).args ⟨.refl _, .tok _ _ _, trivial⟩) (rfl) hB4.gr (by simp) trivial ?_
  rintro q p3 hp3 hp3' ⟨s, rfl⟩
  have hB5 := hB4.draw p3
  generalize H7.set r (RdO bs p3) = H8 at *
  simp only [go_sem, rE, rA, Int.reduceBEq, List.replicate, List.flatten_cons, List.flatten_nil, rL, chunk]
  refine yyg (c_pick' L r bs p3 3 hbs (by omega) (by omega)) (rfl) hB5.gr (by simp) trivial ?_
  rintro q p4 hp4 hp4' ⟨m, rfl, hm0, hm1⟩
  have hB6 := hB5.draw p4
  generalize H8.set r (RdO bs p4) = H9 at *
  have w1 := yya (n := m - 1) (by omega) (by omega)
  simp only [go_sem, rE, rA, Int.reduceBEq, List.replicate, List.flatten_cons, List.flatten_nil, rL, chunk, w1]
  intro b1 hb1
  have hB7 := hB6.new hb1 (.tail 1 1)
  generalize H9.set b1 (.tail 1 1) = H10 at *
  refine yyg (c_pick' L r bs p4 2 hbs (by omega) (by omega)) (rfl) hB7.gr (by simp) trivial ?_
  rintro q p5 hp5 hp5' ⟨n, rfl, hn0, hn1⟩
  have hB8 := hB7.draw p5
  have g6 := hB8.g6
  generalize H10.set r (RdO bs p5) = H11 at *
  have hn01 : n = 0 ∨ n = 1 := by omega
  have hn1' : n.toNat ≤ 1 := by omega
  simp only [go_sem, rE, rA, Int.reduceBEq, List.replicate, List.flatten_cons, List.flatten_nil, rL, chunk, g6, hn0, hn1', Nat.zero_le]
  refine jn _ _ p5 _ { f with gives := ⟨s, [m - 1].take n.toNat⟩ } ⟨hlo.pars, hlo.ptys, hlo.ty, hlo.blen, hlo.bcnt, hlo.bsm, hlo.says⟩ (hB8.put _) (leFu' { f with gives := ⟨s, [m - 1].take n.toNat⟩ } (.refl _) (.refl _) (.refl _) lesays ⟨⟨.refl _, rfl⟩, ⟨?_, rfl⟩, trivial⟩) (by first | rfl | simp only [go_sem, rE]) (by first | rfl | simp only [go_sem, rE]) (by first | rfl | simp only [go_sem, rE]) (by first | rfl | simp only [go_sem, rE]) (by omega) (by omega)
  rcases hn01 with rfl | rfl
  ·exact .refl _
  ·exact .refl _
 ·
  refine yyg (c_pick' L r bs p2 8 hbs (by omega) (by omega)) (rfl) hB.gr (by simp) trivial ?_
  rintro q p3 hp3 hp3' ⟨n, rfl, hn0, hn1⟩
  have hB1 := hB.draw p3
  generalize H3.set r (RdO bs p3) = H4 at *
  simp only [go_sem, rE, rA, Int.reduceBEq, List.replicate, List.flatten_cons, List.flatten_nil, rL, chunk]
  refine yyg (c_pick' L r bs p3 3 hbs (by omega) (by omega)) (rfl) hB1.gr (by simp) trivial ?_
  rintro q p4 hp4 hp4' ⟨m, rfl, hm0, hm1⟩
  have hB2 := hB1.draw p4
  have g6 := hB2.g6
  generalize H4.set r (RdO bs p4) = H5 at *
  simp only [go_sem, rE, rA, Int.reduceBEq, List.replicate, List.flatten_cons, List.flatten_nil, rL, chunk, g6]
  refine jn _ _ p4 _ { f with says := .mk n m ⟨bl [112], []⟩ [] } ⟨hlo.pars, hlo.ptys, hlo.ty, hlo.blen, hlo.bcnt, hlo.bsm, .mk (by omega) (by simp)⟩ (hB2.put _) (leFu' { f with says := .mk n m ⟨bl [112], []⟩ [] } (.refl _) (.refl _) (.refl _) ?_ legives) (by first | rfl | simp only [go_sem, rE]) (by first | rfl | simp only [go_sem, rE]) (by first | rfl | simp only [go_sem, rE]) (by first | rfl | simp only [go_sem, rE]) (by omega) (by omega)
  rw [Ex.enc]
  exact ⟨⟨.refl _, rfl⟩, ⟨.refl _, rfl⟩, ⟨.refl _, rfl⟩, ⟨.nil 1, rfl⟩, ⟨.nil 5, rfl⟩, trivial⟩
 ·
  exact sw _ _ (by first | rfl | simp only [go_sem, rE]) (by first | rfl | simp only [go_sem, rE]) fun E' H' p' c6 f' hf' hB' hA he h1 h2 => jn8 E' H' p' c6 f' hf' hB' hA ((he 3 (by decide)).trans (by first | rfl | simp only [go_sem, rE])) ((he 4 (by decide)).trans (by first | rfl | simp only [go_sem, rE])) ((he 5 (by decide)).trans (by first | rfl | simp only [go_sem, rE])) ((he 6 (by decide)).trans (by first | rfl | simp only [go_sem, rE])) (by omega) (by omega)
 ·
  exact sw _ _ (by first | rfl | simp only [go_sem, rE]) (by first | rfl | simp only [go_sem, rE]) fun E' H' p' c6 f' hf' hB' hA he h1 h2 => jn8 E' H' p' c6 f' hf' hB' hA ((he 3 (by decide)).trans (by first | rfl | simp only [go_sem, rE])) ((he 4 (by decide)).trans (by first | rfl | simp only [go_sem, rE])) ((he 5 (by decide)).trans (by first | rfl | simp only [go_sem, rE])) ((he 6 (by decide)).trans (by first | rfl | simp only [go_sem, rE])) (by omega) (by omega)
 ·
  intro b58 hb58
  have hB2 := hB.new hb58 (.tail 0 0)
  have g58 : (H3.set b58 (.tail 0 0)).get b58 = _ := Heap.zzb _ _ _
  have g6 := hB2.g6
  generalize H3.set b58 (.tail 0 0) = H5 at *
  simp only [go_sem, rE, rA, Int.reduceBEq, List.replicate, List.flatten_cons, List.flatten_nil, rL, chunk, g6]
  refine run_appT (es := []) (ys := f.body.map St.enc) (rfl) g58 (rfl) (st_rows _) (by simp; omega) ?_
  intro bt nt mt H6 fp6 gt keep hbt hfb
  have hB3 := hB2.keep (keep_of g58 keep)
  simp only [go_sem, rE, rA, Int.reduceBEq, List.replicate, List.flatten_cons, List.flatten_nil, rL, chunk]
  intro b0 hb0
  have d0t := zzj gt hb0
  have hB4 := hB3.new hb0 (.tail 6 6)
  have gt : (H6.set b0 (.tail 6 6)).get bt = _ := (Heap.zza _ _ d0t).trans gt
  generalize H6.set b0 (.tail 6 6) = H7 at *
  refine yyg (as := [.ptr r 0, .sl 1 (some (b0, 6, 6)) (txtRows [bl [112], bl [113], bl [97, 98], bl [97, 99], bl [97, 100], bl [97, 101]])]) ((c_of L r bs hbs [bl [112], bl [113], bl [97, 98], bl [97, 99], bl [97, 100], bl [97, 101]] (by simp) (by simp) p2 (by omega) (by omega)).args ⟨.refl _, .tok _ _ _, trivial⟩) (rfl) hB4.gr (by simp) trivial ?_
  rintro q p3 hp3 hp3' ⟨s, rfl⟩
  have hB5 := hB4.draw p3
  have hnt : bt ≠ r := by rintro rfl; rw [hB4.gr] at gt; simp [RdO] at gt
  have gt : (H7.set r (RdO bs p3)).get bt = _ := (Heap.zza _ _ hnt).trans gt
  generalize H7.set r (RdO bs p3) = H8 at *
  simp only [go_sem, rE, rA, Int.reduceBEq, List.replicate, List.flatten_cons, List.flatten_nil, rL, chunk]
  refine run_appT (es := f.body.map St.enc) (ys := [[I 1, S (bl [122, 122]), S (bl []), NIL, S (bl []), NIL, I 2, I 0, S s, NIL, NIL, S (bl []), NIL, NIL, NIL]]) (rfl) gt (rfl) (by simp) (by simp; omega) ?_
  intro bt2 nt2 mt2 H10 fp10 gt2 keep2 hbt2 hfb2
  have hB7 := hB5.keep (keep_of gt keep2)
  have g6 := hB7.g6
  simp only [go_sem, rE, rA, Int.reduceBEq, List.replicate, List.flatten_cons, List.flatten_nil, rL, chunk, g6]
  have hxs : (Ex.mk 2 0 ⟨s, []⟩ []).sm := .mk (by decide) (by simp)
  obtain ⟨c1, c2⟩ := st_leaf 1 (bl [122, 122]) P0 P0 (.mk 2 0 ⟨s, []⟩ []) hxs
  refine jn _ _ p3 _ { f with body := f.body ++ [.mk 1 (bl [122, 122]) P0 P0 (.mk 2 0 ⟨s, []⟩ []) (bl []) [] [] []] } ⟨hlo.pars, hlo.ptys, hlo.ty, by simp; omega, fun x hx => ?_, fun x hx => ?_, hlo.says⟩ (hB7.put _) (leFu' { f with body := f.body ++ [.mk 1 (bl [122, 122]) P0 P0 (.mk 2 0 ⟨s, []⟩ []) (bl []) [] [] []] } (.refl _) (.refl _) ?_ lesays legives) (by first | rfl | simp only [go_sem, rE]) (by first | rfl | simp only [go_sem, rE]) (by first | rfl | simp only [go_sem, rE]) (by first | rfl | simp only [go_sem, rE]) (by omega) (by omega)
  ·rcases List.mem_append.1 hx with h | h
   ·exact hlo.bcnt x h
   ·simp at h; subst h; omega
  ·rcases List.mem_append.1 hx with h | h
   ·exact hlo.bsm x h
   ·simp at h; subst h; exact c2.up (by omega)
  ·rw [List.map_append, List.map_cons, List.map_nil]
   refine .slR ((LeR.sts f.body).snoc ?_)
   rw [St.enc_eq]
   exact ⟨⟨.refl _, rfl⟩, ⟨.refl _, rfl⟩, ⟨.refl _, rfl⟩, ⟨.nil 1, rfl⟩, ⟨.refl _, rfl⟩, ⟨.nil 1, rfl⟩, ⟨.refl _, rfl⟩, ⟨.refl _, rfl⟩, ⟨.refl _, rfl⟩, ⟨.nil 1, rfl⟩, ⟨.nil 5, rfl⟩, ⟨.refl _, rfl⟩, ⟨.nil 8, rfl⟩, ⟨.nil 15, rfl⟩, ⟨.nil 15, rfl⟩, trivial⟩
 ·
  intro b58 hb58
  have hB2 := hB.new hb58 (.tail 0 0)
  have g58 : (H3.set b58 (.tail 0 0)).get b58 = _ := Heap.zzb _ _ _
  have g3 := hB2.g3
  generalize H3.set b58 (.tail 0 0) = H5 at *
  simp only [go_sem, rE, rA, Int.reduceBEq, List.replicate, List.flatten_cons, List.flatten_nil, rL, chunk, g3]
  refine run_appT (es := []) (ys := pr.map Fu.enc) (rfl) g58 (rfl) (by simp; intro g _; exact fu_len g) (by simp; omega) ?_
  intro bt nt mt H6 fp6 gt keep hbt hfb
  have nf6 : ¬ fp6 b6 := fun h => by have := hfb _ h; rw [hB2.g6] at this; simp at this
  have hB3 := hB2.keep (keep_of g58 keep)
  have g6 := hB3.g6
  simp only [go_sem, rE, rA, Int.reduceBEq, List.replicate, List.flatten_cons, List.flatten_nil, rL, chunk, g6]
  refine ⟨by simp; exact nf6, ?_⟩
  refine run_appT (es := pr.map Fu.enc) (ys := [f.enc]) (rfl) gt (by simp only [go_sem, rE]; rw [fu_cells]) (by simp [fu_len]) (by simp; omega) ?_
  intro bt2 nt2 mt2 H8 fp8 gt2 keep2 hbt2 hfb2
  have hB5 := hB3.keep (keep_of gt keep2)
  have g3 := hB5.g3
  simp only [go_sem, rE, rA, Int.reduceBEq, List.replicate, List.flatten_cons, List.flatten_nil, rL, chunk, g3]
  have hB6 := hB5.put3 [.sl 12 (some (bt2, nt2, mt2)) (pr.map Fu.enc ++ [f.enc])]
  rw [← fu_cells] at hB6
  have e1 : pr.map Fu.enc ++ [f.enc] = (pr ++ [f]).map Fu.enc := by simp
  rw [e1] at hB6 ⊢
  exact jn11 _ _ _ (pr ++ [f]) (by simp; omega) (by simp; omega) (fun g hg => by rcases List.mem_append.1 hg with h | h; exact hplo g h; simp at h; rw [h]; exact hlo) hB6 (by first | rfl | simp only [go_sem, rE]) (by first | rfl | simp only [go_sem, rE]) (by first | rfl | simp only [go_sem, rE]) (by first | rfl | simp only [go_sem, rE])
end
end Go.Xl
namespace Go.Xl
open Nat renaming reduceEqDiff → rE, reduceAdd → rA, reduceLeDiff → rL
section
variable {P : Program} {F : Ids}
def drawn (pr : Pg) : Prop := (∀ f ∈ pr, f.lo) ∧ 1 ≤ pr.length ∧ pr.length ≤ 5
theorem c_l71Some (L : Lib P F) (r : Nat) (bs : List UInt8) (hbs : bs.length ≤ 2000) (p : Int) (hp : 0 ≤ p) (hp2 : p + 6 * FC ≤ 2 ^ 50) :
 ACalls P F.s_l71Some [.ptr r 0] (one r (RdO bs p)) (RdR r bs p (6 * FC) fun q => ∃ pr : Pg, q = .agg (Pg.enc pr) ∧ drawn pr) := by
 simp only [FC] at hp2
 refine L.s_l71Some (by simp [x_s_l71Some]) ?_
 simp only [x_s_l71Some, go_sem, rE, rA]
 intro b2 hb2
 have hr2 : r ≠ b2 := by rintro rfl; rw [yyh] at hb2; simp at hb2
 have gr : ((one r (RdO bs p)).set b2 (.cells [NIL])).get r = some (RdO bs p) := by rw [Heap.zza _ _ hr2, yyh]
 have g2 : ((one r (RdO bs p)).set b2 (.cells [NIL])).get b2 = some (.cells [NIL]) := Heap.zzb _ _ _
 generalize ((one r (RdO bs p)).set b2 (.cells [NIL])) = H0 at *
 clear hb2
 refine yyg (c_l71Prog L r bs hbs p hp (by simp only [FC]; omega)) (rfl) gr (by simp) trivial ?_
 rintro q p1 hp1 hp1' ⟨pr, rfl, hgood, hl1, hl2⟩
 simp only [FC] at hp1'
 have g2 : (H0.set r (RdO bs p1)).get b2 = _ := (Heap.zza _ _ (Ne.symm hr2)).trans g2
 have gr : (H0.set r (RdO bs p1)).get r = _ := Heap.zzb _ _ _
 generalize H0.set r (RdO bs p1) = H1 at *
 simp only [go_sem, rE, rA, Pg.enc]
 intro b3 hb3
 have hr3 := zzj gr hb3
 have d23 := zzj g2 hb3
 have gr : (H1.set b3 (.cells [.sl 12 none (pr.map Fu.enc)])).get r = _ := (Heap.zza _ _ hr3).trans gr
 have g2 : (H1.set b3 (.cells [.sl 12 none (pr.map Fu.enc)])).get b2 = _ := (Heap.zza _ _ d23).trans g2
 have g3 : (H1.set b3 (.cells [.sl 12 none (pr.map Fu.enc)])).get b3 = _ := Heap.zzb _ _ _
 generalize H1.set b3 (.cells [.sl 12 none (pr.map Fu.enc)]) = H2 at *
 clear hb3
 refine yyg (c_pick' L r bs p1 5 hbs (by omega) (by omega)) (rfl) gr (by simp) trivial ?_
 rintro q p2 hp2 hp2' ⟨k, rfl, hk0, hk1⟩
 have g2 : (H2.set r (RdO bs p2)).get b2 = _ := (Heap.zza _ _ (Ne.symm hr2)).trans g2
 have g3 : (H2.set r (RdO bs p2)).get b3 = _ := (Heap.zza _ _ (Ne.symm hr3)).trans g3
 have gr : (H2.set r (RdO bs p2)).get r = _ := Heap.zzb _ _ _
 generalize H2.set r (RdO bs p2) = H3 at *
 by_cases hk : k = 0
 ·simp only [hk, go_sem, rE, rA, Int.reduceBEq, g3, rL]
  refine yyg (c_l71Bend L r bs hbs pr hgood hl1 hl2 p2 (by omega) (by omega)) (by simp only [go_sem, rE, Pg.enc]) gr (by simp) trivial ?_
  rintro q p3 hp3 hp3' ⟨pr', rfl, hlo, hl1', hl2'⟩
  have g2 : (H3.set r (RdO bs p3)).get b2 = _ := (Heap.zza _ _ (Ne.symm hr2)).trans g2
  have gr : (H3.set r (RdO bs p3)).get r = _ := Heap.zzb _ _ _
  generalize H3.set r (RdO bs p3) = H4 at *
  simp only [go_sem, rE, rA, g2, Pg.enc, rL]
  exact yym (q' := .agg (Pg.enc pr')) (off := 0) (rfl) (Heap.zzb _ _ _) rfl (.refl _) (one_sub (by rw [Heap.zza _ _ hr2]; exact gr)) ⟨p3, by omega, by simp only [FC]; omega, rfl, pr', rfl, hlo, hl1', hl2'⟩
 ·have hk' : (k == 0) = false := by simpa using hk
  simp only [hk', go_sem, rE, rA, g2, g3, rL]
  exact yym (q' := .agg (Pg.enc pr)) (off := 0) (rfl) (Heap.zzb _ _ _) rfl (.refl _) (one_sub (by rw [Heap.zza _ _ hr2]; exact gr)) ⟨p2, by omega, by simp only [FC]; omega, rfl, pr, rfl, fun f hf => (hgood f hf).lo, hl1, by omega⟩
def byteRows (bs : List UInt8) : List (List AC) := bs.map fun b => [AC.lit (.int .u8 (b.toNat : Int))]
theorem c_l6Open (L : Lib P F) (bs : List UInt8) (hl : bs.length ≤ 2 ^ 30) : ACalls P F.s_l6Open [.sl 1 none (byteRows bs)] .empty fun q H' => ∃ r bs', q = .ptr r 0 ∧ H' = one r (RdO bs' 0) ∧ bs'.length ≤ 2000 := by
 refine L.s_l6Open (by simp [x_s_l6Open]) ?_
 have hlen : (byteRows bs).length = bs.length := by simp [byteRows]
 by_cases h : (2000 : Int) < bs.length
 ·have h2 : 2000 ≤ bs.length := by omega
  have h3 : (0 : Int) ≤ 2000 := by decide
  have h4 : (2000 : Int).toNat = 2000 := rfl
  simp only [x_s_l6Open, go_sem, rE, rA, hlen, h, h2, h3, h4, decide_true, Nat.zero_le, Int.reduceLE, Int.reduceToNat]
  intro r hr
  refine zzd (q' := .ptr r 0) (by simp only [go_sem, rE]; exact .refl _) (Heap.zzm _) ⟨r, bs.take 2000, rfl, ?_, by simp; omega⟩
  simp only [RdO, byteRows, List.map_take]
  rfl
 ·simp only [x_s_l6Open, go_sem, rE, rA, hlen, h, decide_false]
  intro r hr
  exact zzd (q' := .ptr r 0) (by simp only [go_sem, rE]; exact .refl _) (Heap.zzm _) ⟨r, bs, rfl, rfl, by omega⟩
theorem c_DrawProgWrite (L : Lib P F) (bs : List UInt8) (hl : bs.length ≤ 2 ^ 30) : ACalls P F.s_DrawProgWrite [.sl 1 none (byteRows bs)] .empty fun q H' => H' = .empty ∧ ∃ pr : Pg, q = .agg (Pg.enc pr) ∧ drawn pr := by
 refine L.s_DrawProgWrite (by simp [x_s_DrawProgWrite]) ?_
 simp only [x_s_DrawProgWrite, go_sem, rE, rA]
 intro b2 hb2
 have h0 : (Heap.empty.set b2 (.cells [NIL])).only (fun _ => False) = .empty := Heap.ext fun b => by rw [Heap.only_none (by simp)]; rfl
 have hc := c_l6Open L bs hl
 rw [← h0] at hc
 refine run_callS (fun _ => False) hc (rfl) (.refl _) (by simp) trivial ?_
 rintro q H' H1 ⟨r, bs', rfl, rfl, hbs'⟩ hsub hafter hnew -
 have gr : H1.get r = some (RdO bs' 0) := hsub _ _ (yyh _ _)
 have g2 : H1.get b2 = some (.cells [NIL]) := by rw [hafter.out b2 (by simp) (by rw [Heap.zzb]; simp), Heap.zzb]
 have hr2 : r ≠ b2 := by rintro rfl; rw [gr] at g2; simp [RdO] at g2
 simp only [go_sem, rE, rA]
 refine yyg (c_l71Some L r bs' hbs' 0 (by omega) (by simp [FC])) (rfl) gr (by simp) trivial ?_
 rintro q p1 hp1 hp1' ⟨pr, rfl, hd⟩
 have g2 : (H1.set r (RdO bs' p1)).get b2 = _ := (Heap.zza _ _ (Ne.symm hr2)).trans g2
 generalize H1.set r (RdO bs' p1) = H2 at *
 simp only [go_sem, rE, rA, g2, Pg.enc, rL]
 exact yym (q' := .agg (Pg.enc pr)) (off := 0) (rfl) (Heap.zzb _ _ _) rfl (.refl _) (Heap.zzf _) ⟨rfl, pr, rfl, hd⟩
end
end Go.Xl
